import Derived.Test.YtjcapebfkgoicaaDoorTF6S0
import Derived.Test.YtjcapebfkgoicaaDoorTF6S4
import Derived.Test.YtjcapebfkgoicaaDoorTF6S1
import Derived.Test.YtjcapebfkgoicaaDoorTF6S3
set_option linter.unusedSimpArgs false
set_option linter.unusedVariables false
namespace Go.Proofs.Tryd
open Go.Ab Go.RowKit
def fs10 : FnS := fnS [.s .calls] [.calls] (fun _ (h,_) => (.v (.string (histB h)),[],True))
abbrev T10 : Tab := lk [(13,fs13),(23,fs23),(24,fs24)]
theorem tab10 : TabOK prog T10 := (TabOK.cons ok13 ent13 (TabOK.cons ok23 ent23 (TabOK.cons ok24 ent24 TabOK.nil)))
set_option maxRecDepth 100000 in
set_option maxHeartbeats 1000000 in
theorem ok10 : FnOK prog 10 fs10 := by
 refine FnOK.mk cok func10 rfl rfl rfl ?_
 rintro fl ⟨(h : List CallD),_⟩ hpre F hnt0 _
 have hnt : F.nt = 24 := hnt0.trans ntmps10
 clear hpre
 refine W.to (⟨[(0,.sl (.calls h))],[],[999]⟩) rfl ?_
 refine W.lenOf 0 (.calls h) (by kernel_rfl) ?_
 intro hl_h; replace hl_h : List.length h ≤ 9223372036854775807 := hl_h
 refine Kk cok tab10 hnt [] [0] (⟨[(0,.sl (.calls h))],[],[999]⟩)
  (True ∧ True)
  ⟨tt,tt⟩ ?_
 refine W.seq ?_
 refine Kk cok tab10 hnt [] [0,8] (⟨[(0,.sl (.calls h)),(8,.b (!(validHistory h)))],[],[999]⟩)
  (True ∧ (True ∧ (True ∧ True) ∧ True) ∧ True ∧ True)
  ⟨tt,⟨tt,⟨tt,tt⟩,tt⟩,tt,tt⟩ ?_
 refine W.if' (!(validHistory h)) (.b (!(validHistory h))) (by kernel_rfl) rfl trivial ?_ ?_
 ·intro h8
  refine Kk cok tab10 hnt [] [2] (⟨[(2,.v (.string nEmpty))],[],[999]⟩)
   (True ∧ True)
   ⟨tt,tt⟩ ?_
  refine W.ret (thenQ_ret ?_)
  exact endQ_ret (.v (.string nEmpty)) (by kernel_rfl) (@cast (((.string nEmpty) : Value) = (.string (histB h))) _ (by kernel_rfl) (congrArg Value.string (by exact histB_no (not_f h8))))
 ·intro n8
  have hv : validHistory h = true := not_g n8
  have h6 := valid_len hv
  refine W.skip (thenQ_normal ?_)
  refine Kk cok tab10 hnt [9] [0,3] (⟨[(0,.sl (.calls h)),(3,.own 9 (List.length ([] : List ByteArray)))],[(9,⟨9,.row (.strs ([] : List ByteArray))⟩)],[9,999]⟩)
   (True ∧ True ∧ True)
   ⟨tt,tt,tt⟩ ?_
  refine W.seq ?_
  refine Kk cok tab10 hnt [] [3,10,11,12] (⟨[(3,.own 9 (List.length ([] : List ByteArray))),(10,.sl (.calls h)),(11,.i (h.length : Int)),(12,.i (0 : Int))],[(9,⟨9,.row (.strs ([] : List ByteArray))⟩)],[9,999]⟩)
   (True ∧ True ∧ True ∧ True)
   ⟨tt,tt,tt,tt⟩ ?_
  refine W.block ?_
  refine W.loop (ι := Nat × (List ByteArray)) (fun (x : Nat × (List ByteArray)) => match x with | (i,o) => (⟨[(3,.own 9 o.length),(10,.sl (.calls h)),(11,.i (h.length : Int)),(12,.i ((i : Nat) : Int))],[(9,⟨9,.row (.strs o)⟩)],[9,999]⟩ : St))
   (fun (x : Nat × (List ByteArray)) => match x with | (i,o) => (i ≤ h.length) ∧ (o = textUp h i))
   (fun (x : Nat × (List ByteArray)) => match x with | (i,o) => (h.length - i : Nat)) (0,([] : List ByteArray)) ?_ ?_ ?_
  ·exact (show (0 ≤ h.length) ∧ (([] : List ByteArray) = textUp h 0) from ⟨(by first | assumption | omega | rfl | (intro _ hjj; omega) | (simp; done) | (simp; omega)),(by rfl)⟩)
  ·exact Sub.of [] (@cast (((((9 : Nat) = 9) ∧ ((List.length ([] : List ByteArray)) = (List.length ([] : List ByteArray))) ∧ ((9 : Nat) ∈ ([9,999] : List Nat))) ∧ (Sd (.calls h)) ∧ (Si (h.length : Int)) ∧ ((.int .i64 (0 : Int) : Value) = .int .i64 ((0 : Nat) : Int)) ∧ True) ∧ ((((9 : Nat) = 9) ∧ (Sd (.strs ([] : List ByteArray))) ∧ ((9 : Nat) ∈ ([9,999] : List Nat))) ∧ True) ∧ (true = true) ∧ (true = true)) _ (by kernel_rfl) ⟨⟨⟨rfl,rfl,(by decide)⟩,rfl,rfl,(congrArg (Value.int .i64) (by first | rfl | omega | assumption | simp | simp_all)),tt⟩,⟨⟨rfl,rfl,(by decide)⟩,tt⟩,rfl,rfl⟩)
  ·rintro ⟨i,o⟩ hC0
   have hC : (i ≤ h.length) ∧ (o = textUp h i) := hC0
   clear hC0
   obtain ⟨hi,ho⟩ := hC
   refine W.to (⟨[(3,.own 9 o.length),(10,.sl (.calls h)),(11,.i (h.length : Int)),(12,.i ((i : Nat) : Int))],[(9,⟨9,.row (.strs o)⟩)],[9,999]⟩) rfl ?_
   have hol : o.length = i := by rw [ho]; exact textUp_len hi
   have hjs := join_size ho
   refine Kk cok tab10 hnt [] [3,10,11,12,13] (⟨[(3,.own 9 o.length),(10,.sl (.calls h)),(11,.i (h.length : Int)),(12,.i ((i : Nat) : Int)),(13,.b (decide (((i : Nat) : Int) < (h.length : Int))))],[(9,⟨9,.row (.strs o)⟩)],[9,999]⟩)
    ((True ∧ True ∧ True) ∧ True)
    ⟨⟨tt,tt,tt⟩,tt⟩ ?_
   refine W.seq ?_
   refine W.ifP (((i : Nat) : Int) < (h.length : Int)) (.b (decide (((i : Nat) : Int) < (h.length : Int)))) (by kernel_rfl) rfl trivial ?_ ?_
   ·intro h13
    refine W.skip (thenQ_normal ?_)
    refine W.seq ?_
    refine W.block ?_
    refine Kk cok tab10 hnt [] [3,5,10,11,12] (⟨[(3,.own 9 o.length),(5,.ptr 5 0),(10,.sl (.calls h)),(11,.i (h.length : Int)),(12,.i ((i : Nat) : Int))],[(5,⟨40,.fix [.i ((h.getD i default).proc),.i ((h.getD i default).obj),.i ((h.getD i default).kind),.i ((h.getD i default).arg),.i ((h.getD i default).ret),.i ((h.getD i default).frm),.i ((h.getD i default).to)]⟩),(9,⟨9,.row (.strs o)⟩)],[5,9,999]⟩)
     ((True ∧ True ∧ (0 ≤ ((i : Nat) : Int)) ∧ (((i : Nat) : Int) < (h.length : Int))) ∧ True ∧ True ∧ (True ∧ True) ∧ True)
     ⟨⟨tt,tt,(by omega),(by omega)⟩,tt,tt,⟨tt,tt⟩,tt⟩ ?_
    refine Lk cok tab10 hnt [20] (⟨[(3,.own 20 (List.length (o ++ ([callTextB (h.getD i default)])))),(5,.ptr 5 0),(10,.sl (.calls h)),(11,.i (h.length : Int)),(12,.i ((i : Nat) : Int)),(16,.own 9 o.length),(17,.agg [.i ((h.getD i default).proc),.i ((h.getD i default).obj),.i ((h.getD i default).kind),.i ((h.getD i default).arg),.i ((h.getD i default).ret),.i ((h.getD i default).frm),.i ((h.getD i default).to)]),(18,.v (.string (callTextB (h.getD i default)))),(19,.sl (.strs ([callTextB (h.getD i default)]))),(20,.own 20 (List.length (o ++ ([callTextB (h.getD i default)]))))],[(5,⟨40,.fix [.i ((h.getD i default).proc),.i ((h.getD i default).obj),.i ((h.getD i default).kind),.i ((h.getD i default).arg),.i ((h.getD i default).ret),.i ((h.getD i default).frm),.i ((h.getD i default).to)]⟩),(20,⟨9,.row (.strs (o ++ ([callTextB (h.getD i default)])))⟩)],[20,19,5,9,999]⟩)
     (True ∧ True ∧ (True ∧ (True ∧ True) ∧ (isCall (h.getD i default) = true)) ∧ (True ∧ True) ∧ ((True ∧ (o.length = o.length)) ∧ True ∧ ((o.length + (List.length ([callTextB (h.getD i default)]))) * 16 ≤ 140737488355328)) ∧ True ∧ True)
     ⟨tt,tt,⟨tt,⟨tt,tt⟩,(by have h9 := valid_call hv _ (getD_mem h default (show i < h.length by omega)); exact h9)⟩,⟨tt,tt⟩,⟨⟨tt,rfl⟩,tt,(by (try simp only [List.length_append,List.length_cons,List.length_nil]); omega)⟩,tt,tt⟩ ?_
    refine blockQ_normal (thenQ_normal ?_)
    refine Lk cok tab10 hnt [] (⟨[(3,.own 20 (List.length (o ++ ([callTextB (h.getD i default)])))),(5,.ptr 5 0),(10,.sl (.calls h)),(11,.i (h.length : Int)),(12,.i (((i + 1) : Nat) : Int)),(16,.own 9 o.length),(17,.agg [.i ((h.getD i default).proc),.i ((h.getD i default).obj),.i ((h.getD i default).kind),.i ((h.getD i default).arg),.i ((h.getD i default).ret),.i ((h.getD i default).frm),.i ((h.getD i default).to)]),(18,.v (.string (callTextB (h.getD i default)))),(19,.sl (.strs ([callTextB (h.getD i default)]))),(20,.own 20 (List.length (o ++ ([callTextB (h.getD i default)])))),(21,.i (((i + 1) : Nat) : Int))],[(5,⟨40,.fix [.i ((h.getD i default).proc),.i ((h.getD i default).obj),.i ((h.getD i default).kind),.i ((h.getD i default).arg),.i ((h.getD i default).ret),.i ((h.getD i default).frm),.i ((h.getD i default).to)]⟩),(20,⟨9,.row (.strs (o ++ ([callTextB (h.getD i default)])))⟩)],[20,19,5,9,999]⟩)
     ((True ∧ True ∧ (Fits .i64 (((i + 1) : Nat) : Int))) ∧ True ∧ True)
     ⟨⟨tt,tt,(by exact fits_i64 (by omega) (by omega))⟩,tt,tt⟩ ?_
    refine thenQ_normal ?_
    refine ⟨((i + 1),(o ++ ([callTextB (h.getD i default)]))),(show ((i + 1) ≤ h.length) ∧ ((o ++ ([callTextB (h.getD i default)])) = textUp h (i + 1)) from ⟨(by first | assumption | omega | rfl | (intro _ hjj; omega) | (simp; done) | (simp; omega)),(by exact textUp_next ho (by omega))⟩),(show h.length - (i + 1) < h.length - i from (by first | omega | (simp_all; omega))),?_⟩
    exact Sub.of [(9,20)] (@cast (((((20 : Nat) = 20) ∧ ((List.length (o ++ ([callTextB (h.getD i default)]))) = (List.length (o ++ ([callTextB (h.getD i default)])))) ∧ ((9 : Nat) ∈ ([9,999] : List Nat))) ∧ (Sd (.calls h)) ∧ (Si (h.length : Int)) ∧ (Si (((i + 1) : Nat) : Int)) ∧ True) ∧ ((((9 : Nat) = 9) ∧ (Sd (.strs (o ++ ([callTextB (h.getD i default)])))) ∧ ((9 : Nat) ∈ ([9,999] : List Nat))) ∧ True) ∧ (true = true) ∧ (true = true)) _ (by kernel_rfl) ⟨⟨⟨rfl,rfl,(by decide)⟩,rfl,rfl,rfl,tt⟩,⟨⟨rfl,rfl,(by decide)⟩,tt⟩,rfl,rfl⟩)
   ·intro n13
    refine W.exit (thenQ_exit (thenQ_exit (blockQ_hit ?_)))
    refine thenQ_normal ?_
    refine Kk cok tab10 hnt [] [2] (⟨[(2,.v (.string (joinB o (⟨#[32]⟩ : ByteArray))))],[(9,⟨9,.row (.strs o)⟩)],[9,999]⟩)
     (True ∧ (True ∧ ((True ∧ (o.length = o.length)) ∧ True ∧ True) ∧ (List.length o ≤ 1000) ∧ ((joinB o (⟨#[32]⟩ : ByteArray)).size ≤ 1000000)) ∧ True ∧ True)
     ⟨tt,⟨tt,⟨⟨tt,rfl⟩,tt,tt⟩,(by omega),(by omega)⟩,tt,tt⟩ ?_
    refine W.ret ?_
    exact endQ_ret (.v (.string (joinB o (⟨#[32]⟩ : ByteArray)))) (by kernel_rfl) (@cast (((.string (joinB o (⟨#[32]⟩ : ByteArray))) : Value) = (.string (histB h))) _ (by kernel_rfl) (congrArg Value.string (by exact join_all hv ho (by omega))))
theorem ent10 : Entr prog 10 := ⟨_,func10,rfl,by decide⟩
end Go.Proofs.Tryd

set_option linter.unusedSimpArgs false
set_option linter.unusedVariables false
namespace Go.Proofs.Tryd
open Go.Ab Go.RowKit
def fs14 : FnS := fnS [.o] [.str] (fun _ (s,_) => (.tup [.own 0 (List.length ((parseI s.data.toList).1)),.b ((parseI s.data.toList).2)],[(40,.calls ((parseI s.data.toList).1))],(s.size ≤ 1999999)))
abbrev T14 : Tab := lk [(10,fs10),(13,fs13),(30,fs30),(31,fs31)]
theorem tab14 : TabOK prog T14 := (TabOK.cons ok10 ent10 (TabOK.cons ok13 ent13 (TabOK.cons ok30 ent30 (TabOK.cons ok31 ent31 TabOK.nil))))
set_option maxRecDepth 100000 in
set_option maxHeartbeats 1000000 in
theorem ok14 : FnOK prog 14 fs14 := by
 refine FnOK.mk cok func14 rfl rfl rfl ?_
 rintro fl ⟨(s : ByteArray),_⟩ hpre F hnt0 _
 have hnt : F.nt = 34 := hnt0.trans ntmps14
 replace hpre : (s.size ≤ 1999999) := hpre
 have hz := hpre
 refine W.to (⟨[(0,.v (.string s))],[],[999]⟩) rfl ?_
 have hp : ∀ i,(List.getD (splitNB (⟨#[32]⟩ : ByteArray) 7 s) i default).size ≤ s.size := splitN_psz (⟨#[32]⟩ : ByteArray) s 7
 have hsl : (((splitNB (⟨#[32]⟩ : ByteArray) 7 s).length : Nat) : Int) ≤ 7 := splitN_size (by decide)
 refine Kk cok tab14 hnt [] [0] (⟨[(0,.v (.string s))],[],[999]⟩)
  (True ∧ True ∧ True)
  ⟨tt,tt,tt⟩ ?_
 refine Kk cok tab14 hnt [7] [0,4] (⟨[(0,.v (.string s)),(4,.own 7 (List.length ([] : List CallD)))],[(7,⟨40,.row (.calls ([] : List CallD))⟩)],[7,999]⟩)
  (True ∧ True ∧ True)
  ⟨tt,tt,tt⟩ ?_
 refine W.seq ?_
 refine Kk cok tab14 hnt [] [0,4,9] (⟨[(0,.v (.string s)),(4,.own 7 (List.length ([] : List CallD))),(9,.b (eqS s nEmpty))],[(7,⟨40,.row (.calls ([] : List CallD))⟩)],[7,999]⟩)
  (True ∧ (True ∧ True ∧ True) ∧ True)
  ⟨tt,⟨tt,tt,tt⟩,tt⟩ ?_
 refine W.if' (eqS s nEmpty) (.b (eqS s nEmpty)) (by kernel_rfl) rfl trivial ?_ ?_
 ·intro h9
  have hE := pi_empty (s := s) h9
  refine Kk cok tab14 hnt [] [2,3] (⟨[(2,.own 7 (List.length ([] : List CallD))),(3,.b true)],[(7,⟨40,.row (.calls ([] : List CallD))⟩)],[7,999]⟩)
   (True ∧ True ∧ True ∧ True)
   ⟨tt,tt,tt,tt⟩ ?_
  refine W.ret (thenQ_ret ?_)
  exact endQ_rows [(0,7)] (.tup [.own 7 (List.length ([] : List CallD)),.b true]) (by kernel_rfl) (@cast ((((7 : Nat) = 7) ∧ ((List.length ([] : List CallD)) = (List.length ((parseI s.data.toList).1))) ∧ ((0 : Nat) ∈ ([0] : List Nat))) ∧ ((.bool true : Value) = .bool ((parseI s.data.toList).2)) ∧ True) _ (by kernel_rfl) ⟨⟨rfl,(by first | rfl | omega | assumption | (symm; assumption) | (exact congrArg List.length (by first | (rw [hE]; done) | (rw [hE]; rfl) | (rw [hE]; exact hol) | rfl)) | (first | (rw [hE]; done) | (rw [hE]; rfl) | (rw [hE]; exact hol) | rfl; done) | simp | simp_all),(by decide)⟩,(congrArg Value.bool (by first | rfl | omega | assumption | (first | (rw [hE]; done) | (rw [hE]; rfl) | (rw [hE]; exact hol) | rfl; done) | simp | simp_all)),tt⟩) (@cast ((((40 : Nat) = 40) ∧ ((.calls ([] : List CallD) : Dat) = .calls ((parseI s.data.toList).1)) ∧ ((0 : Nat) ∈ ([0] : List Nat))) ∧ True) _ (by kernel_rfl) ⟨⟨rfl,(congrArg Dat.calls (by first | (rw [hE]; done) | (rw [hE]; rfl) | (rw [hE]; exact hol) | rfl)),(by decide)⟩,tt⟩) (by kernel_rfl)
 ·intro n9
  refine W.skip (thenQ_normal ?_)
  refine W.seq ?_
  refine Kk cok tab14 hnt [] [0,4,12,13,14] (⟨[(0,.v (.string s)),(4,.own 7 (List.length ([] : List CallD))),(12,.sl (.strs (splitNB (⟨#[32]⟩ : ByteArray) (7 : Int) s))),(13,.i (((List.length (splitNB (⟨#[32]⟩ : ByteArray) (7 : Int) s)) : Nat) : Int)),(14,.i (0 : Int))],[(7,⟨40,.row (.calls ([] : List CallD))⟩)],[12,7,999]⟩)
   (True ∧ ((True ∧ (True ∧ True ∧ True ∧ True) ∧ ((⟨#[32]⟩ : ByteArray).size = 1) ∧ (1 ≤ (7 : Int) ∧ (7 : Int) ≤ 1000) ∧ (s.size ≤ 2000000)) ∧ ((List.length (splitNB (⟨#[32]⟩ : ByteArray) (7 : Int) s)) = (List.length (splitNB (⟨#[32]⟩ : ByteArray) (7 : Int) s)))) ∧ True ∧ True ∧ True)
   ⟨tt,⟨⟨tt,⟨tt,tt,tt,tt⟩,(by rfl),(by omega),(by omega)⟩,rfl⟩,tt,tt,tt⟩ ?_
  refine W.block ?_
  refine W.loop (ι := Nat × (List CallD)) (fun (x : Nat × (List CallD)) => match x with | (i,o) => (⟨[(0,.v (.string s)),(4,.own 7 o.length),(12,.sl (.strs (splitNB (⟨#[32]⟩ : ByteArray) (7 : Int) s))),(13,.i (((List.length (splitNB (⟨#[32]⟩ : ByteArray) (7 : Int) s)) : Nat) : Int)),(14,.i ((i : Nat) : Int))],[(7,⟨40,.row (.calls o)⟩)],[7,999]⟩ : St))
   (fun (x : Nat × (List CallD)) => match x with | (i,o) => (i ≤ (splitNB (⟨#[32]⟩ : ByteArray) 7 s).length) ∧ (o = readUpI (splitNB (⟨#[32]⟩ : ByteArray) 7 s) i))
   (fun (x : Nat × (List CallD)) => match x with | (i,o) => ((splitNB (⟨#[32]⟩ : ByteArray) 7 s).length - i : Nat)) (0,([] : List CallD)) ?_ ?_ ?_
  ·exact (show (0 ≤ (splitNB (⟨#[32]⟩ : ByteArray) 7 s).length) ∧ (([] : List CallD) = readUpI (splitNB (⟨#[32]⟩ : ByteArray) 7 s) 0) from ⟨(by first | assumption | omega | rfl | (intro _ hjj; omega) | (simp; done) | (simp; omega)),(by rfl)⟩)
  ·exact Sub.of [] (@cast (((((.string s) : Value) = (.string s)) ∧ (((7 : Nat) = 7) ∧ ((List.length ([] : List CallD)) = (List.length ([] : List CallD))) ∧ ((7 : Nat) ∈ ([7,999] : List Nat))) ∧ (Sd (.strs (splitNB (⟨#[32]⟩ : ByteArray) (7 : Int) s))) ∧ (Si (((List.length (splitNB (⟨#[32]⟩ : ByteArray) (7 : Int) s)) : Nat) : Int)) ∧ ((.int .i64 (0 : Int) : Value) = .int .i64 ((0 : Nat) : Int)) ∧ True) ∧ ((((40 : Nat) = 40) ∧ (Sd (.calls ([] : List CallD))) ∧ ((7 : Nat) ∈ ([7,999] : List Nat))) ∧ True) ∧ (true = true) ∧ (true = true)) _ (by kernel_rfl) ⟨⟨rfl,⟨rfl,rfl,(by decide)⟩,rfl,rfl,(congrArg (Value.int .i64) (by first | rfl | omega | assumption | simp | simp_all)),tt⟩,⟨⟨rfl,rfl,(by decide)⟩,tt⟩,rfl,rfl⟩)
  ·rintro ⟨i,o⟩ hC0
   have hC : (i ≤ (splitNB (⟨#[32]⟩ : ByteArray) 7 s).length) ∧ (o = readUpI (splitNB (⟨#[32]⟩ : ByteArray) 7 s) i) := hC0
   clear hC0
   obtain ⟨hi,ho⟩ := hC
   refine W.to (⟨[(0,.v (.string s)),(4,.own 7 o.length),(12,.sl (.strs (splitNB (⟨#[32]⟩ : ByteArray) (7 : Int) s))),(13,.i (((List.length (splitNB (⟨#[32]⟩ : ByteArray) (7 : Int) s)) : Nat) : Int)),(14,.i ((i : Nat) : Int))],[(7,⟨40,.row (.calls o)⟩)],[7,999]⟩) rfl ?_
   have hol : o.length = i := by rw [ho]; exact readUp_lenI hi
   have hpi := hp i
   refine Kk cok tab14 hnt [] [0,4,12,13,14,15] (⟨[(0,.v (.string s)),(4,.own 7 o.length),(12,.sl (.strs (splitNB (⟨#[32]⟩ : ByteArray) (7 : Int) s))),(13,.i (((List.length (splitNB (⟨#[32]⟩ : ByteArray) (7 : Int) s)) : Nat) : Int)),(14,.i ((i : Nat) : Int)),(15,.b (decide (((i : Nat) : Int) < (((List.length (splitNB (⟨#[32]⟩ : ByteArray) (7 : Int) s)) : Nat) : Int))))],[(7,⟨40,.row (.calls o)⟩)],[7,999]⟩)
    ((True ∧ True ∧ True) ∧ True)
    ⟨⟨tt,tt,tt⟩,tt⟩ ?_
   refine W.seq ?_
   refine W.ifP (((i : Nat) : Int) < (((List.length (splitNB (⟨#[32]⟩ : ByteArray) (7 : Int) s)) : Nat) : Int)) (.b (decide (((i : Nat) : Int) < (((List.length (splitNB (⟨#[32]⟩ : ByteArray) (7 : Int) s)) : Nat) : Int)))) (by kernel_rfl) rfl trivial ?_ ?_
   ·intro h15
    refine W.skip (thenQ_normal ?_)
    refine W.seq ?_
    refine W.block ?_
    refine Kk cok tab14 hnt [] [0,4,6,12,13,14] (⟨[(0,.v (.string s)),(4,.own 7 o.length),(6,.v (.string (List.getD (splitNB (⟨#[32]⟩ : ByteArray) (7 : Int) s) i default))),(12,.sl (.strs (splitNB (⟨#[32]⟩ : ByteArray) (7 : Int) s))),(13,.i (((List.length (splitNB (⟨#[32]⟩ : ByteArray) (7 : Int) s)) : Nat) : Int)),(14,.i ((i : Nat) : Int))],[(7,⟨40,.row (.calls o)⟩)],[7,999]⟩)
     ((True ∧ True ∧ (0 ≤ ((i : Nat) : Int)) ∧ (((i : Nat) : Int) < (((List.length (splitNB (⟨#[32]⟩ : ByteArray) (7 : Int) s)) : Nat) : Int))) ∧ True ∧ True ∧ True)
     ⟨⟨tt,tt,(by omega),(by (first | omega | (simp only [List.length_set]; done) | (simp only [List.length_append,List.length_cons,List.length_nil,List.length_take,List.length_drop,List.length_set,List.length_replicate,List.length_map] at *; omega) | assumption))⟩,tt,tt,tt⟩ ?_
    refine Lk cok tab14 hnt [22] (⟨[(0,.v (.string s)),(4,.own 22 (List.length (o ++ ([(readI (List.getD (splitNB (⟨#[32]⟩ : ByteArray) (7 : Int) s) i default).data.toList)])))),(6,.v (.string (List.getD (splitNB (⟨#[32]⟩ : ByteArray) (7 : Int) s) i default))),(12,.sl (.strs (splitNB (⟨#[32]⟩ : ByteArray) (7 : Int) s))),(13,.i (((List.length (splitNB (⟨#[32]⟩ : ByteArray) (7 : Int) s)) : Nat) : Int)),(14,.i ((i : Nat) : Int)),(18,.own 7 o.length),(19,.v (.string (List.getD (splitNB (⟨#[32]⟩ : ByteArray) (7 : Int) s) i default))),(20,.agg [.i ((readI (List.getD (splitNB (⟨#[32]⟩ : ByteArray) (7 : Int) s) i default).data.toList).proc),.i ((readI (List.getD (splitNB (⟨#[32]⟩ : ByteArray) (7 : Int) s) i default).data.toList).obj),.i ((readI (List.getD (splitNB (⟨#[32]⟩ : ByteArray) (7 : Int) s) i default).data.toList).kind),.i ((readI (List.getD (splitNB (⟨#[32]⟩ : ByteArray) (7 : Int) s) i default).data.toList).arg),.i ((readI (List.getD (splitNB (⟨#[32]⟩ : ByteArray) (7 : Int) s) i default).data.toList).ret),.i ((readI (List.getD (splitNB (⟨#[32]⟩ : ByteArray) (7 : Int) s) i default).data.toList).frm),.i ((readI (List.getD (splitNB (⟨#[32]⟩ : ByteArray) (7 : Int) s) i default).data.toList).to)]),(21,.sl (.calls ([(readI (List.getD (splitNB (⟨#[32]⟩ : ByteArray) (7 : Int) s) i default).data.toList)]))),(22,.own 22 (List.length (o ++ ([(readI (List.getD (splitNB (⟨#[32]⟩ : ByteArray) (7 : Int) s) i default).data.toList)]))))],[(22,⟨40,.row (.calls (o ++ ([(readI (List.getD (splitNB (⟨#[32]⟩ : ByteArray) (7 : Int) s) i default).data.toList)])))⟩)],[22,21,7,999]⟩)
     (True ∧ True ∧ (True ∧ (True ∧ True) ∧ ((List.getD (splitNB (⟨#[32]⟩ : ByteArray) (7 : Int) s) i default).size ≤ 2000000)) ∧ (True ∧ True) ∧ ((True ∧ (o.length = o.length)) ∧ True ∧ ((o.length + (List.length ([(readI (List.getD (splitNB (⟨#[32]⟩ : ByteArray) (7 : Int) s) i default).data.toList)]))) * 56 ≤ 140737488355328)) ∧ True ∧ True)
     ⟨tt,tt,⟨tt,⟨tt,tt⟩,(by omega)⟩,⟨tt,tt⟩,⟨⟨tt,rfl⟩,tt,(by (try simp only [List.length_append,List.length_cons,List.length_nil,List.length_set]); omega)⟩,tt,tt⟩ ?_
    refine blockQ_normal (thenQ_normal ?_)
    refine Lk cok tab14 hnt [] (⟨[(0,.v (.string s)),(4,.own 22 (List.length (o ++ ([(readI (List.getD (splitNB (⟨#[32]⟩ : ByteArray) (7 : Int) s) i default).data.toList)])))),(6,.v (.string (List.getD (splitNB (⟨#[32]⟩ : ByteArray) (7 : Int) s) i default))),(12,.sl (.strs (splitNB (⟨#[32]⟩ : ByteArray) (7 : Int) s))),(13,.i (((List.length (splitNB (⟨#[32]⟩ : ByteArray) (7 : Int) s)) : Nat) : Int)),(14,.i (((i + 1) : Nat) : Int)),(18,.own 7 o.length),(19,.v (.string (List.getD (splitNB (⟨#[32]⟩ : ByteArray) (7 : Int) s) i default))),(20,.agg [.i ((readI (List.getD (splitNB (⟨#[32]⟩ : ByteArray) (7 : Int) s) i default).data.toList).proc),.i ((readI (List.getD (splitNB (⟨#[32]⟩ : ByteArray) (7 : Int) s) i default).data.toList).obj),.i ((readI (List.getD (splitNB (⟨#[32]⟩ : ByteArray) (7 : Int) s) i default).data.toList).kind),.i ((readI (List.getD (splitNB (⟨#[32]⟩ : ByteArray) (7 : Int) s) i default).data.toList).arg),.i ((readI (List.getD (splitNB (⟨#[32]⟩ : ByteArray) (7 : Int) s) i default).data.toList).ret),.i ((readI (List.getD (splitNB (⟨#[32]⟩ : ByteArray) (7 : Int) s) i default).data.toList).frm),.i ((readI (List.getD (splitNB (⟨#[32]⟩ : ByteArray) (7 : Int) s) i default).data.toList).to)]),(21,.sl (.calls ([(readI (List.getD (splitNB (⟨#[32]⟩ : ByteArray) (7 : Int) s) i default).data.toList)]))),(22,.own 22 (List.length (o ++ ([(readI (List.getD (splitNB (⟨#[32]⟩ : ByteArray) (7 : Int) s) i default).data.toList)])))),(23,.i (((i + 1) : Nat) : Int))],[(22,⟨40,.row (.calls (o ++ ([(readI (List.getD (splitNB (⟨#[32]⟩ : ByteArray) (7 : Int) s) i default).data.toList)])))⟩)],[22,21,7,999]⟩)
     ((True ∧ True ∧ (Fits .i64 (((i + 1) : Nat) : Int))) ∧ True ∧ True)
     ⟨⟨tt,tt,(by exact fits_i64 (by omega) (by omega))⟩,tt,tt⟩ ?_
    refine thenQ_normal ?_
    refine ⟨((i + 1),(o ++ ([(readI (List.getD (splitNB (⟨#[32]⟩ : ByteArray) (7 : Int) s) i default).data.toList)]))),(show ((i + 1) ≤ (splitNB (⟨#[32]⟩ : ByteArray) 7 s).length) ∧ ((o ++ ([(readI (List.getD (splitNB (⟨#[32]⟩ : ByteArray) (7 : Int) s) i default).data.toList)])) = readUpI (splitNB (⟨#[32]⟩ : ByteArray) 7 s) (i + 1)) from ⟨(by first | assumption | omega | rfl | (intro _ hjj; omega) | (simp; done) | (simp; omega)),(by exact readUpI_next ho (by omega))⟩),(show (splitNB (⟨#[32]⟩ : ByteArray) 7 s).length - (i + 1) < (splitNB (⟨#[32]⟩ : ByteArray) 7 s).length - i from (by first | omega | (simp_all; omega))),?_⟩
    exact Sub.of [(7,22)] (@cast (((((.string s) : Value) = (.string s)) ∧ (((22 : Nat) = 22) ∧ ((List.length (o ++ ([(readI (List.getD (splitNB (⟨#[32]⟩ : ByteArray) (7 : Int) s) i default).data.toList)]))) = (List.length (o ++ ([(readI (List.getD (splitNB (⟨#[32]⟩ : ByteArray) (7 : Int) s) i default).data.toList)])))) ∧ ((7 : Nat) ∈ ([7,999] : List Nat))) ∧ (Sd (.strs (splitNB (⟨#[32]⟩ : ByteArray) (7 : Int) s))) ∧ (Si (((List.length (splitNB (⟨#[32]⟩ : ByteArray) (7 : Int) s)) : Nat) : Int)) ∧ (Si (((i + 1) : Nat) : Int)) ∧ True) ∧ ((((40 : Nat) = 40) ∧ (Sd (.calls (o ++ ([(readI (List.getD (splitNB (⟨#[32]⟩ : ByteArray) (7 : Int) s) i default).data.toList)])))) ∧ ((7 : Nat) ∈ ([7,999] : List Nat))) ∧ True) ∧ (true = true) ∧ (true = true)) _ (by kernel_rfl) ⟨⟨rfl,⟨rfl,rfl,(by decide)⟩,rfl,rfl,rfl,tt⟩,⟨⟨rfl,rfl,(by decide)⟩,tt⟩,rfl,rfl⟩)
   ·intro n15
    have hO := readUpI_all (s := s) (sep := (⟨#[32]⟩ : ByteArray)) rfl ho (by omega)
    refine W.exit (thenQ_exit (thenQ_exit (blockQ_hit ?_)))
    refine thenQ_normal ?_
    refine W.seq ?_
    refine Kk cok tab14 hnt [] [4,32] (⟨[(4,.own 7 o.length),(32,.b ((!(validHistory o)) || (!(eqS (histB o) s))))],[(7,⟨40,.row (.calls o)⟩)],[7,999]⟩)
     ((fun (Z1:Bool)=>(True ∧ ((True ∧ (((True ∧ (o.length = o.length)) ∧ True) ∧ True)) ∧ (True ∧ (True ∧ (((!Z1) = true → True) ∧ (((!Z1) = true → (True ∧ ((((((!Z1) = true) ∧ True) ∧ (o.length = o.length)) ∧ True) ∧ True))) ∧ (((!Z1) = true → True) ∧ (((!Z1) = true → ((((!Z1) = true) ∧ True) ∧ ((((!Z1) = true) ∧ True) ∧ True))) ∧ ((True ∧ ((Z1 = true → True) ∧ (Z1 = false → ((!Z1) = true) ∧ True))) ∧ True)))))))))) (!(validHistory o)))
     ⟨tt,⟨tt,⟨⟨tt,rfl⟩,tt⟩,tt⟩,tt,tt,(fun _ => trivial),(fun hG => ⟨tt,⟨⟨⟨hG,tt⟩,rfl⟩,tt⟩,tt⟩),(fun _ => trivial),(fun hG => ⟨⟨hG,tt⟩,⟨hG,tt⟩,tt⟩),⟨tt,(fun _ => trivial),(fun hp => ⟨(not_t hp),tt⟩)⟩,tt⟩ ?_
    refine W.if' ((!(validHistory o)) || (!(eqS (histB o) s))) (.b ((!(validHistory o)) || (!(eqS (histB o) s)))) (by kernel_rfl) rfl trivial ?_ ?_
    ·intro h32
     have hE := pi_rest (s := s) (fun e => Bool.false_ne_true (n9.symm.trans e)) hO h32
     rw [cond_true] at hE
     refine Kk cok tab14 hnt [] [2,3] (⟨[(2,.v (.slice none 0 0)),(3,.b false)],[(7,⟨40,.row (.calls o)⟩)],[7,999]⟩)
      (True ∧ True ∧ True)
      ⟨tt,tt,tt⟩ ?_
     refine W.nilOwn 2 813 none 40 (.calls ([] : List CallD)) (.v (.slice none 0 0)) (.own 813 0) (⟨[(2,.own 813 0),(3,.b false)],[(7,⟨40,.row (.calls o)⟩),(813,⟨40,.row (.calls ([] : List CallD))⟩)],[813,7,999]⟩) (by kernel_rfl) (by kernel_rfl) (by kernel_rfl) (by kernel_rfl) (by kernel_rfl) ?_
     refine W.ret (thenQ_ret ?_)
     exact endQ_rows [(0,813)] (.tup [.own 813 0,.b false]) (by kernel_rfl) (@cast ((((813 : Nat) = 813) ∧ (0 = (List.length ((parseI s.data.toList).1))) ∧ ((0 : Nat) ∈ ([0] : List Nat))) ∧ ((.bool false : Value) = .bool ((parseI s.data.toList).2)) ∧ True) _ (by kernel_rfl) ⟨⟨rfl,(by first | rfl | omega | assumption | (symm; assumption) | (exact congrArg List.length (by first | (rw [hE]; done) | (rw [hE]; rfl) | (rw [hE]; exact hol) | rfl)) | (first | (rw [hE]; done) | (rw [hE]; rfl) | (rw [hE]; exact hol) | rfl; done) | simp | simp_all),(by decide)⟩,(congrArg Value.bool (by first | rfl | omega | assumption | (first | (rw [hE]; done) | (rw [hE]; rfl) | (rw [hE]; exact hol) | rfl; done) | simp | simp_all)),tt⟩) (@cast ((((40 : Nat) = 40) ∧ ((.calls ([] : List CallD) : Dat) = .calls ((parseI s.data.toList).1)) ∧ ((0 : Nat) ∈ ([0] : List Nat))) ∧ True) _ (by kernel_rfl) ⟨⟨rfl,(congrArg Dat.calls (by first | (rw [hE]; done) | (rw [hE]; rfl) | (rw [hE]; exact hol) | rfl)),(by decide)⟩,tt⟩) (by kernel_rfl)
    ·intro n32
     have hE := pi_rest (s := s) (fun e => Bool.false_ne_true (n9.symm.trans e)) hO n32
     rw [cond_false] at hE
     refine W.skip (thenQ_normal ?_)
     refine Kk cok tab14 hnt [] [2,3] (⟨[(2,.own 7 o.length),(3,.b true)],[(7,⟨40,.row (.calls o)⟩)],[7,999]⟩)
      (True ∧ True ∧ True ∧ True)
      ⟨tt,tt,tt,tt⟩ ?_
     refine W.ret ?_
     exact endQ_rows [(0,7)] (.tup [.own 7 o.length,.b true]) (by kernel_rfl) (@cast ((((7 : Nat) = 7) ∧ (o.length = (List.length ((parseI s.data.toList).1))) ∧ ((0 : Nat) ∈ ([0] : List Nat))) ∧ ((.bool true : Value) = .bool ((parseI s.data.toList).2)) ∧ True) _ (by kernel_rfl) ⟨⟨rfl,(by first | rfl | omega | assumption | (symm; assumption) | (exact congrArg List.length (by first | (rw [hE]; done) | (rw [hE]; rfl) | (rw [hE]; exact hol) | rfl)) | (first | (rw [hE]; done) | (rw [hE]; rfl) | (rw [hE]; exact hol) | rfl; done) | simp | simp_all),(by decide)⟩,(congrArg Value.bool (by first | rfl | omega | assumption | (first | (rw [hE]; done) | (rw [hE]; rfl) | (rw [hE]; exact hol) | rfl; done) | simp | simp_all)),tt⟩) (@cast ((((40 : Nat) = 40) ∧ ((.calls o : Dat) = .calls ((parseI s.data.toList).1)) ∧ ((0 : Nat) ∈ ([0] : List Nat))) ∧ True) _ (by kernel_rfl) ⟨⟨rfl,(congrArg Dat.calls (by first | (rw [hE]; done) | (rw [hE]; rfl) | (rw [hE]; exact hol) | rfl)),(by decide)⟩,tt⟩) (by kernel_rfl)
theorem ent14 : Entr prog 14 := ⟨_,func14,rfl,by decide⟩
end Go.Proofs.Tryd

set_option linter.unusedSimpArgs false
set_option linter.unusedVariables false
namespace Go.Proofs.Tryd
open Go.Ab Go.RowKit
def fs25 : FnS := fnS [.o,.o] [.call,.call] (fun _ (a,b,_) => (.b (decide (a = b)),[],True))
abbrev T25 : Tab := lk []
theorem tab25 : TabOK prog T25 := TabOK.nil
set_option maxRecDepth 100000 in
set_option maxHeartbeats 1000000 in
theorem ok25 : FnOK prog 25 fs25 := by
 refine FnOK.mk cok func25 rfl rfl rfl ?_
 rintro fl ⟨(a : CallD),(b : CallD),_⟩ hpre F hnt0 _
 have hnt : F.nt = 40 := hnt0.trans ntmps25
 clear hpre
 refine W.to (⟨[(0,.agg [.i a.proc,.i a.obj,.i a.kind,.i a.arg,.i a.ret,.i a.frm,.i a.to]),(1,.agg [.i b.proc,.i b.obj,.i b.kind,.i b.arg,.i b.ret,.i b.frm,.i b.to])],[],[999]⟩) rfl ?_
 refine Kk cok tab25 hnt [] [2,3] (⟨[(2,.ptr 2 0),(3,.ptr 3 0)],[(2,⟨40,.fix [.i a.proc,.i a.obj,.i a.kind,.i a.arg,.i a.ret,.i a.frm,.i a.to]⟩),(3,⟨40,.fix [.i b.proc,.i b.obj,.i b.kind,.i b.arg,.i b.ret,.i b.frm,.i b.to]⟩)],[3,2,999]⟩)
  (True ∧ True ∧ True ∧ True)
  ⟨tt,tt,tt,tt⟩ ?_
 refine W.seq ?_
 refine Kk cok tab25 hnt [] [2,3,9] (⟨[(2,.ptr 2 0),(3,.ptr 3 0),(9,.b (decide (a.proc ≠ b.proc)))],[(2,⟨40,.fix [.i a.proc,.i a.obj,.i a.kind,.i a.arg,.i a.ret,.i a.frm,.i a.to]⟩),(3,⟨40,.fix [.i b.proc,.i b.obj,.i b.kind,.i b.arg,.i b.ret,.i b.frm,.i b.to]⟩)],[3,2,999]⟩)
  (True ∧ True ∧ True ∧ True ∧ (True ∧ True ∧ True) ∧ True)
  ⟨tt,tt,tt,tt,⟨tt,tt,tt⟩,tt⟩ ?_
 refine W.ifP (a.proc ≠ b.proc) (.b (decide (a.proc ≠ b.proc))) (by kernel_rfl) rfl trivial ?_ ?_
 ·intro h9
  refine Kk cok tab25 hnt [] [4] (⟨[(4,.b false)],[(2,⟨40,.fix [.i a.proc,.i a.obj,.i a.kind,.i a.arg,.i a.ret,.i a.frm,.i a.to]⟩),(3,⟨40,.fix [.i b.proc,.i b.obj,.i b.kind,.i b.arg,.i b.ret,.i b.frm,.i b.to]⟩)],[3,2,999]⟩)
   (True ∧ True)
   ⟨tt,tt⟩ ?_
  refine W.ret (thenQ_ret ?_)
  exact endQ_ret (.b false) (by kernel_rfl) (@cast ((.bool false : Value) = .bool (decide (a = b))) _ (by kernel_rfl) (congrArg Value.bool (by first | (symm; exact decide_eq_true (call_ext (by omega) (by omega) (by omega) (by omega) (by omega) (by omega) (by omega))) | (symm; exact decide_eq_false (fun e => by subst e; simp_all)))))
 ·intro n9
  refine W.skip (thenQ_normal ?_)
  refine W.seq ?_
  refine Kk cok tab25 hnt [] [2,3,14] (⟨[(2,.ptr 2 0),(3,.ptr 3 0),(14,.b (decide (a.obj ≠ b.obj)))],[(2,⟨40,.fix [.i a.proc,.i a.obj,.i a.kind,.i a.arg,.i a.ret,.i a.frm,.i a.to]⟩),(3,⟨40,.fix [.i b.proc,.i b.obj,.i b.kind,.i b.arg,.i b.ret,.i b.frm,.i b.to]⟩)],[3,2,999]⟩)
   (True ∧ True ∧ True ∧ True ∧ (True ∧ True ∧ True) ∧ True)
   ⟨tt,tt,tt,tt,⟨tt,tt,tt⟩,tt⟩ ?_
  refine W.ifP (a.obj ≠ b.obj) (.b (decide (a.obj ≠ b.obj))) (by kernel_rfl) rfl trivial ?_ ?_
  ·intro h14
   refine Kk cok tab25 hnt [] [4] (⟨[(4,.b false)],[(2,⟨40,.fix [.i a.proc,.i a.obj,.i a.kind,.i a.arg,.i a.ret,.i a.frm,.i a.to]⟩),(3,⟨40,.fix [.i b.proc,.i b.obj,.i b.kind,.i b.arg,.i b.ret,.i b.frm,.i b.to]⟩)],[3,2,999]⟩)
    (True ∧ True)
    ⟨tt,tt⟩ ?_
   refine W.ret (thenQ_ret ?_)
   exact endQ_ret (.b false) (by kernel_rfl) (@cast ((.bool false : Value) = .bool (decide (a = b))) _ (by kernel_rfl) (congrArg Value.bool (by first | (symm; exact decide_eq_true (call_ext (by omega) (by omega) (by omega) (by omega) (by omega) (by omega) (by omega))) | (symm; exact decide_eq_false (fun e => by subst e; simp_all)))))
  ·intro n14
   refine W.skip (thenQ_normal ?_)
   refine W.seq ?_
   refine Kk cok tab25 hnt [] [2,3,19] (⟨[(2,.ptr 2 0),(3,.ptr 3 0),(19,.b (decide (a.kind ≠ b.kind)))],[(2,⟨40,.fix [.i a.proc,.i a.obj,.i a.kind,.i a.arg,.i a.ret,.i a.frm,.i a.to]⟩),(3,⟨40,.fix [.i b.proc,.i b.obj,.i b.kind,.i b.arg,.i b.ret,.i b.frm,.i b.to]⟩)],[3,2,999]⟩)
    (True ∧ True ∧ True ∧ True ∧ (True ∧ True ∧ True) ∧ True)
    ⟨tt,tt,tt,tt,⟨tt,tt,tt⟩,tt⟩ ?_
   refine W.ifP (a.kind ≠ b.kind) (.b (decide (a.kind ≠ b.kind))) (by kernel_rfl) rfl trivial ?_ ?_
   ·intro h19
    refine Kk cok tab25 hnt [] [4] (⟨[(4,.b false)],[(2,⟨40,.fix [.i a.proc,.i a.obj,.i a.kind,.i a.arg,.i a.ret,.i a.frm,.i a.to]⟩),(3,⟨40,.fix [.i b.proc,.i b.obj,.i b.kind,.i b.arg,.i b.ret,.i b.frm,.i b.to]⟩)],[3,2,999]⟩)
     (True ∧ True)
     ⟨tt,tt⟩ ?_
    refine W.ret (thenQ_ret ?_)
    exact endQ_ret (.b false) (by kernel_rfl) (@cast ((.bool false : Value) = .bool (decide (a = b))) _ (by kernel_rfl) (congrArg Value.bool (by first | (symm; exact decide_eq_true (call_ext (by omega) (by omega) (by omega) (by omega) (by omega) (by omega) (by omega))) | (symm; exact decide_eq_false (fun e => by subst e; simp_all)))))
   ·intro n19
    refine W.skip (thenQ_normal ?_)
    refine W.seq ?_
    refine Kk cok tab25 hnt [] [2,3,24] (⟨[(2,.ptr 2 0),(3,.ptr 3 0),(24,.b (decide (a.arg ≠ b.arg)))],[(2,⟨40,.fix [.i a.proc,.i a.obj,.i a.kind,.i a.arg,.i a.ret,.i a.frm,.i a.to]⟩),(3,⟨40,.fix [.i b.proc,.i b.obj,.i b.kind,.i b.arg,.i b.ret,.i b.frm,.i b.to]⟩)],[3,2,999]⟩)
     (True ∧ True ∧ True ∧ True ∧ (True ∧ True ∧ True) ∧ True)
     ⟨tt,tt,tt,tt,⟨tt,tt,tt⟩,tt⟩ ?_
    refine W.ifP (a.arg ≠ b.arg) (.b (decide (a.arg ≠ b.arg))) (by kernel_rfl) rfl trivial ?_ ?_
    ·intro h24
     refine Kk cok tab25 hnt [] [4] (⟨[(4,.b false)],[(2,⟨40,.fix [.i a.proc,.i a.obj,.i a.kind,.i a.arg,.i a.ret,.i a.frm,.i a.to]⟩),(3,⟨40,.fix [.i b.proc,.i b.obj,.i b.kind,.i b.arg,.i b.ret,.i b.frm,.i b.to]⟩)],[3,2,999]⟩)
      (True ∧ True)
      ⟨tt,tt⟩ ?_
     refine W.ret (thenQ_ret ?_)
     exact endQ_ret (.b false) (by kernel_rfl) (@cast ((.bool false : Value) = .bool (decide (a = b))) _ (by kernel_rfl) (congrArg Value.bool (by first | (symm; exact decide_eq_true (call_ext (by omega) (by omega) (by omega) (by omega) (by omega) (by omega) (by omega))) | (symm; exact decide_eq_false (fun e => by subst e; simp_all)))))
    ·intro n24
     refine W.skip (thenQ_normal ?_)
     refine W.seq ?_
     refine Kk cok tab25 hnt [] [2,3,29] (⟨[(2,.ptr 2 0),(3,.ptr 3 0),(29,.b (decide (a.ret ≠ b.ret)))],[(2,⟨40,.fix [.i a.proc,.i a.obj,.i a.kind,.i a.arg,.i a.ret,.i a.frm,.i a.to]⟩),(3,⟨40,.fix [.i b.proc,.i b.obj,.i b.kind,.i b.arg,.i b.ret,.i b.frm,.i b.to]⟩)],[3,2,999]⟩)
      (True ∧ True ∧ True ∧ True ∧ (True ∧ True ∧ True) ∧ True)
      ⟨tt,tt,tt,tt,⟨tt,tt,tt⟩,tt⟩ ?_
     refine W.ifP (a.ret ≠ b.ret) (.b (decide (a.ret ≠ b.ret))) (by kernel_rfl) rfl trivial ?_ ?_
     ·intro h29
      refine Kk cok tab25 hnt [] [4] (⟨[(4,.b false)],[(2,⟨40,.fix [.i a.proc,.i a.obj,.i a.kind,.i a.arg,.i a.ret,.i a.frm,.i a.to]⟩),(3,⟨40,.fix [.i b.proc,.i b.obj,.i b.kind,.i b.arg,.i b.ret,.i b.frm,.i b.to]⟩)],[3,2,999]⟩)
       (True ∧ True)
       ⟨tt,tt⟩ ?_
      refine W.ret (thenQ_ret ?_)
      exact endQ_ret (.b false) (by kernel_rfl) (@cast ((.bool false : Value) = .bool (decide (a = b))) _ (by kernel_rfl) (congrArg Value.bool (by first | (symm; exact decide_eq_true (call_ext (by omega) (by omega) (by omega) (by omega) (by omega) (by omega) (by omega))) | (symm; exact decide_eq_false (fun e => by subst e; simp_all)))))
     ·intro n29
      refine W.skip (thenQ_normal ?_)
      refine W.seq ?_
      refine Kk cok tab25 hnt [] [2,3,34] (⟨[(2,.ptr 2 0),(3,.ptr 3 0),(34,.b (decide (a.frm ≠ b.frm)))],[(2,⟨40,.fix [.i a.proc,.i a.obj,.i a.kind,.i a.arg,.i a.ret,.i a.frm,.i a.to]⟩),(3,⟨40,.fix [.i b.proc,.i b.obj,.i b.kind,.i b.arg,.i b.ret,.i b.frm,.i b.to]⟩)],[3,2,999]⟩)
       (True ∧ True ∧ True ∧ True ∧ (True ∧ True ∧ True) ∧ True)
       ⟨tt,tt,tt,tt,⟨tt,tt,tt⟩,tt⟩ ?_
      refine W.ifP (a.frm ≠ b.frm) (.b (decide (a.frm ≠ b.frm))) (by kernel_rfl) rfl trivial ?_ ?_
      ·intro h34
       refine Kk cok tab25 hnt [] [4] (⟨[(4,.b false)],[(2,⟨40,.fix [.i a.proc,.i a.obj,.i a.kind,.i a.arg,.i a.ret,.i a.frm,.i a.to]⟩),(3,⟨40,.fix [.i b.proc,.i b.obj,.i b.kind,.i b.arg,.i b.ret,.i b.frm,.i b.to]⟩)],[3,2,999]⟩)
        (True ∧ True)
        ⟨tt,tt⟩ ?_
       refine W.ret (thenQ_ret ?_)
       exact endQ_ret (.b false) (by kernel_rfl) (@cast ((.bool false : Value) = .bool (decide (a = b))) _ (by kernel_rfl) (congrArg Value.bool (by first | (symm; exact decide_eq_true (call_ext (by omega) (by omega) (by omega) (by omega) (by omega) (by omega) (by omega))) | (symm; exact decide_eq_false (fun e => by subst e; simp_all)))))
      ·intro n34
       refine W.skip (thenQ_normal ?_)
       refine W.seq ?_
       refine Kk cok tab25 hnt [] [39] (⟨[(39,.b (decide (a.to ≠ b.to)))],[(2,⟨40,.fix [.i a.proc,.i a.obj,.i a.kind,.i a.arg,.i a.ret,.i a.frm,.i a.to]⟩),(3,⟨40,.fix [.i b.proc,.i b.obj,.i b.kind,.i b.arg,.i b.ret,.i b.frm,.i b.to]⟩)],[3,2,999]⟩)
        (True ∧ True ∧ True ∧ True ∧ (True ∧ True ∧ True) ∧ True)
        ⟨tt,tt,tt,tt,⟨tt,tt,tt⟩,tt⟩ ?_
       refine W.ifP (a.to ≠ b.to) (.b (decide (a.to ≠ b.to))) (by kernel_rfl) rfl trivial ?_ ?_
       ·intro h39
        refine Kk cok tab25 hnt [] [4] (⟨[(4,.b false)],[(2,⟨40,.fix [.i a.proc,.i a.obj,.i a.kind,.i a.arg,.i a.ret,.i a.frm,.i a.to]⟩),(3,⟨40,.fix [.i b.proc,.i b.obj,.i b.kind,.i b.arg,.i b.ret,.i b.frm,.i b.to]⟩)],[3,2,999]⟩)
         (True ∧ True)
         ⟨tt,tt⟩ ?_
        refine W.ret (thenQ_ret ?_)
        exact endQ_ret (.b false) (by kernel_rfl) (@cast ((.bool false : Value) = .bool (decide (a = b))) _ (by kernel_rfl) (congrArg Value.bool (by first | (symm; exact decide_eq_true (call_ext (by omega) (by omega) (by omega) (by omega) (by omega) (by omega) (by omega))) | (symm; exact decide_eq_false (fun e => by subst e; simp_all)))))
       ·intro n39
        refine W.skip (thenQ_normal ?_)
        refine Kk cok tab25 hnt [] [4] (⟨[(4,.b true)],[(2,⟨40,.fix [.i a.proc,.i a.obj,.i a.kind,.i a.arg,.i a.ret,.i a.frm,.i a.to]⟩),(3,⟨40,.fix [.i b.proc,.i b.obj,.i b.kind,.i b.arg,.i b.ret,.i b.frm,.i b.to]⟩)],[3,2,999]⟩)
         (True ∧ True)
         ⟨tt,tt⟩ ?_
        refine W.ret ?_
        exact endQ_ret (.b true) (by kernel_rfl) (@cast ((.bool true : Value) = .bool (decide (a = b))) _ (by kernel_rfl) (congrArg Value.bool (by first | (symm; exact decide_eq_true (call_ext (by omega) (by omega) (by omega) (by omega) (by omega) (by omega) (by omega))) | (symm; exact decide_eq_false (fun e => by subst e; simp_all)))))
theorem ent25 : Entr prog 25 := ⟨_,func25,rfl,by decide⟩
end Go.Proofs.Tryd

set_option linter.unusedSimpArgs false
set_option linter.unusedVariables false
namespace Go.Proofs.Tryd
open Go.Ab Go.RowKit
def fs11 : FnS := fnS [.s .calls,.s .calls] [.calls,.calls] (fun _ (a,b,_) => (.b (decide (a = b)),[],True))
abbrev T11 : Tab := lk [(25,fs25)]
theorem tab11 : TabOK prog T11 := (TabOK.cons ok25 ent25 TabOK.nil)
set_option maxRecDepth 100000 in
set_option maxHeartbeats 1000000 in
theorem ok11 : FnOK prog 11 fs11 := by
 refine FnOK.mk cok func11 rfl rfl rfl ?_
 rintro fl ⟨(a : List CallD),(b : List CallD),_⟩ hpre F hnt0 _
 have hnt : F.nt = 27 := hnt0.trans ntmps11
 clear hpre
 refine W.to (⟨[(0,.sl (.calls a)),(1,.sl (.calls b))],[],[999]⟩) rfl ?_
 refine W.lenOf 0 (.calls a) (by kernel_rfl) ?_
 intro hl_a; replace hl_a : List.length a ≤ 9223372036854775807 := hl_a
 refine W.lenOf 1 (.calls b) (by kernel_rfl) ?_
 intro hl_b; replace hl_b : List.length b ≤ 9223372036854775807 := hl_b
 refine Kk cok tab11 hnt [] [0,1] (⟨[(0,.sl (.calls a)),(1,.sl (.calls b))],[],[999]⟩)
  (True ∧ True)
  ⟨tt,tt⟩ ?_
 refine W.seq ?_
 refine Kk cok tab11 hnt [] [0,1,10] (⟨[(0,.sl (.calls a)),(1,.sl (.calls b)),(10,.b (decide ((a.length : Int) ≠ (b.length : Int))))],[],[999]⟩)
  (True ∧ True ∧ True ∧ True ∧ (True ∧ True ∧ True) ∧ True)
  ⟨tt,tt,tt,tt,⟨tt,tt,tt⟩,tt⟩ ?_
 refine W.ifP ((a.length : Int) ≠ (b.length : Int)) (.b (decide ((a.length : Int) ≠ (b.length : Int)))) (by kernel_rfl) rfl trivial ?_ ?_
 ·intro h10
  refine Kk cok tab11 hnt [] [4] (⟨[(4,.b false)],[],[999]⟩)
   (True ∧ True)
   ⟨tt,tt⟩ ?_
  refine W.ret (thenQ_ret ?_)
  exact endQ_ret (.b false) (by kernel_rfl) (@cast ((.bool false : Value) = .bool (decide (a = b))) _ (by kernel_rfl) (congrArg Value.bool (by symm; exact decide_eq_false (fun e => h10 (by rw [e])))))
 ·intro n10
  refine W.skip (thenQ_normal ?_)
  refine W.seq ?_
  refine Kk cok tab11 hnt [] [0,1,5] (⟨[(0,.sl (.calls a)),(1,.sl (.calls b)),(5,.i (0 : Int))],[],[999]⟩)
   (True ∧ True)
   ⟨tt,tt⟩ ?_
  refine W.block ?_
  refine W.loop (ι := Nat) (fun (i : Nat) => (⟨[(0,.sl (.calls a)),(1,.sl (.calls b)),(5,.i ((i : Nat) : Int))],[],[999]⟩ : St))
   (fun (i : Nat) => (i ≤ a.length) ∧ (∀ j,j < i → a.getD j default = b.getD j default))
   (fun (i : Nat) => (a.length - i : Nat)) (0) ?_ ?_ ?_
  ·exact (show (0 ≤ a.length) ∧ (∀ j,j < 0 → a.getD j default = b.getD j default) from ⟨(by first | assumption | omega | rfl | (intro _ hjj; omega) | (simp; done) | (simp; omega)),(by exact upto_zero)⟩)
  ·exact Sub.of [] (@cast (((Sd (.calls a)) ∧ (Sd (.calls b)) ∧ ((.int .i64 (0 : Int) : Value) = .int .i64 ((0 : Nat) : Int)) ∧ True) ∧ True ∧ (true = true) ∧ (true = true)) _ (by kernel_rfl) ⟨⟨rfl,rfl,(congrArg (Value.int .i64) (by first | rfl | omega | assumption | simp | simp_all)),tt⟩,tt,rfl,rfl⟩)
  ·rintro i hC0
   have hC : (i ≤ a.length) ∧ (∀ j,j < i → a.getD j default = b.getD j default) := hC0
   clear hC0
   obtain ⟨hi,hA⟩ := hC
   refine W.to (⟨[(0,.sl (.calls a)),(1,.sl (.calls b)),(5,.i ((i : Nat) : Int))],[],[999]⟩) rfl ?_
   refine W.seq ?_
   refine Kk cok tab11 hnt [] [0,1,5,14] (⟨[(0,.sl (.calls a)),(1,.sl (.calls b)),(5,.i ((i : Nat) : Int)),(14,.b (decide (((i : Nat) : Int) < (a.length : Int))))],[],[999]⟩)
    (True ∧ True ∧ True ∧ (True ∧ True ∧ True) ∧ True)
    ⟨tt,tt,tt,⟨tt,tt,tt⟩,tt⟩ ?_
   refine W.ifP (((i : Nat) : Int) < (a.length : Int)) (.b (decide (((i : Nat) : Int) < (a.length : Int)))) (by kernel_rfl) rfl trivial ?_ ?_
   ·intro h14
    refine W.skip (thenQ_normal ?_)
    refine W.seq ?_
    refine W.block ?_
    refine W.KA cok tab11 hnt [] [0,1,5,26] (⟨[(0,.sl (.calls a)),(1,.sl (.calls b)),(5,.i ((i : Nat) : Int)),(26,.b (!(decide ((a.getD i default) = (b.getD i default)))))],[],[999]⟩)
     (True ∧ True ∧ (True ∧ True ∧ (0 ≤ ((i : Nat) : Int)) ∧ (((i : Nat) : Int) < (a.length : Int))) ∧ True ∧ True ∧ True ∧ (True ∧ True ∧ (0 ≤ ((i : Nat) : Int)) ∧ (((i : Nat) : Int) < (b.length : Int))) ∧ True ∧ (True ∧ (True ∧ True ∧ True) ∧ True) ∧ True ∧ True) (by kernel_rfl) (by kernel_rfl)
     ⟨tt,tt,⟨tt,tt,(by omega),(by omega)⟩,tt,tt,tt,⟨tt,tt,(by omega),(by omega)⟩,tt,⟨tt,⟨tt,tt,tt⟩,tt⟩,tt,tt⟩ ?_
    refine W.if' (!(decide ((a.getD i default) = (b.getD i default)))) (.b (!(decide ((a.getD i default) = (b.getD i default))))) (by kernel_rfl) rfl trivial ?_ ?_
    ·intro h26
     refine Kk cok tab11 hnt [] [4] (⟨[(4,.b false)],[],[999]⟩)
      (True ∧ True)
      ⟨tt,tt⟩ ?_
     refine W.ret (blockQ_ret (thenQ_ret (thenQ_ret (blockQ_ret (thenQ_ret ?_)))))
     exact endQ_ret (.b false) (by kernel_rfl) (@cast ((.bool false : Value) = .bool (decide (a = b))) _ (by kernel_rfl) (congrArg Value.bool (by symm; exact decide_eq_false (fun e => by rw [e] at h26; simp at h26))))
    ·intro n26
     refine W.skip (blockQ_normal (thenQ_normal ?_))
     refine Lk cok tab11 hnt [] (⟨[(0,.sl (.calls a)),(1,.sl (.calls b)),(5,.i (((i + 1) : Nat) : Int)),(15,.i ((i : Nat) : Int)),(16,.i (((i + 1) : Nat) : Int)),(26,.b (!(decide ((a.getD i default) = (b.getD i default)))))],[],[999]⟩)
      (True ∧ (True ∧ True ∧ (Fits .i64 (((i + 1) : Nat) : Int))) ∧ True ∧ True)
      ⟨tt,⟨tt,tt,(by exact fits_i64 (by omega) (by omega))⟩,tt,tt⟩ ?_
     refine thenQ_normal ?_
     refine ⟨((i + 1)),(show ((i + 1) ≤ a.length) ∧ (∀ j,j < (i + 1) → a.getD j default = b.getD j default) from ⟨(by first | assumption | omega | rfl | (intro _ hjj; omega) | (simp; done) | (simp; omega)),(by exact upto_succ hA (by simpa using n26))⟩),(show a.length - (i + 1) < a.length - i from (by first | omega | (simp_all; omega))),?_⟩
     exact Sub.of [] (@cast (((Sd (.calls a)) ∧ (Sd (.calls b)) ∧ (Si (((i + 1) : Nat) : Int)) ∧ True) ∧ True ∧ (true = true) ∧ (true = true)) _ (by kernel_rfl) ⟨⟨rfl,rfl,rfl,tt⟩,tt,rfl,rfl⟩)
   ·intro n14
    refine W.exit (thenQ_exit (thenQ_exit (blockQ_hit ?_)))
    refine thenQ_normal ?_
    refine Kk cok tab11 hnt [] [4] (⟨[(4,.b true)],[],[999]⟩)
     (True ∧ True)
     ⟨tt,tt⟩ ?_
    refine W.ret ?_
    exact endQ_ret (.b true) (by kernel_rfl) (@cast ((.bool true : Value) = .bool (decide (a = b))) _ (by kernel_rfl) (congrArg Value.bool (by symm; exact decide_eq_true (calls_ext (by omega) (fun j hj => hA j (by omega))))))
theorem ent11 : Entr prog 11 := ⟨_,func11,rfl,by decide⟩
end Go.Proofs.Tryd

set_option linter.unusedSimpArgs false
set_option linter.unusedVariables false
namespace Go.Proofs.Tryd
open Go.Ab Go.RowKit
def fs19 : FnS := fnS [.s .calls,.o] [.calls,.int] (fun _ (l,k,_) => (.i (heldC l k),[],(l.length ≤ 2000000) ∧ (0 ≤ k ∧ k ≤ 1000000000)))
abbrev T19 : Tab := lk []
theorem tab19 : TabOK prog T19 := TabOK.nil
set_option maxRecDepth 100000 in
set_option maxHeartbeats 1000000 in
theorem ok19 : FnOK prog 19 fs19 := by
 refine FnOK.mk cok func19 rfl rfl rfl ?_
 rintro fl ⟨(l : List CallD),(k : Int),_⟩ hpre F hnt0 _
 have hnt : F.nt = 76 := hnt0.trans ntmps19
 replace hpre : (l.length ≤ 2000000) ∧ (0 ≤ k ∧ k ≤ 1000000000) := hpre
 obtain ⟨hn,hk⟩ := hpre
 refine W.to (⟨[(0,.sl (.calls l)),(1,.i k)],[],[999]⟩) rfl ?_
 refine W.lenOf 0 (.calls l) (by kernel_rfl) ?_
 intro hl_l; replace hl_l : List.length l ≤ 9223372036854775807 := hl_l
 refine Kk cok tab19 hnt [] [0,1] (⟨[(0,.sl (.calls l)),(1,.i k)],[],[999]⟩)
  (True ∧ True)
  ⟨tt,tt⟩ ?_
 refine W.seq ?_
 refine Kk cok tab19 hnt [] [0,1,5] (⟨[(0,.sl (.calls l)),(1,.i k),(5,.i (0 : Int))],[],[999]⟩)
  (True ∧ True)
  ⟨tt,tt⟩ ?_
 refine W.block ?_
 refine W.loop (ι := Nat × Int) (fun (x : Nat × Int) => match x with | (i,kk) => (⟨[(0,.sl (.calls l)),(1,.i kk),(5,.i ((i : Nat) : Int))],[],[999]⟩ : St))
  (fun (x : Nat × Int) => match x with | (i,kk) => (i ≤ l.length) ∧ (∀ j,j < i → heldCAt l k j = true) ∧ (kk = k + 7 * ((i : Nat) : Int)))
  (fun (x : Nat × Int) => match x with | (i,kk) => (l.length - i : Nat)) (0,k) ?_ ?_ ?_
 ·exact (show (0 ≤ l.length) ∧ (∀ j,j < 0 → heldCAt l k j = true) ∧ (k = k + 7 * ((0 : Nat) : Int)) from ⟨(by first | assumption | omega | rfl | (intro _ hjj; omega) | (simp; done) | (simp; omega)),(by exact upto_zero),(by first | assumption | omega | rfl | (intro _ hjj; omega) | (simp; done) | (simp; omega))⟩)
 ·exact Sub.of [] (@cast (((Sd (.calls l)) ∧ (Si k) ∧ ((.int .i64 (0 : Int) : Value) = .int .i64 ((0 : Nat) : Int)) ∧ True) ∧ True ∧ (true = true) ∧ (true = true)) _ (by kernel_rfl) ⟨⟨rfl,rfl,(congrArg (Value.int .i64) (by first | rfl | omega | assumption | simp | simp_all)),tt⟩,tt,rfl,rfl⟩)
 ·rintro ⟨i,kk⟩ hC0
  have hC : (i ≤ l.length) ∧ (∀ j,j < i → heldCAt l k j = true) ∧ (kk = k + 7 * ((i : Nat) : Int)) := hC0
  clear hC0
  obtain ⟨hi,hA,hk2⟩ := hC
  refine W.to (⟨[(0,.sl (.calls l)),(1,.i kk),(5,.i ((i : Nat) : Int))],[],[999]⟩) rfl ?_
  refine W.seq ?_
  refine Kk cok tab19 hnt [] [0,1,5,9] (⟨[(0,.sl (.calls l)),(1,.i kk),(5,.i ((i : Nat) : Int)),(9,.b (decide (((i : Nat) : Int) < (l.length : Int))))],[],[999]⟩)
   (True ∧ True ∧ True ∧ (True ∧ True ∧ True) ∧ True)
   ⟨tt,tt,tt,⟨tt,tt,tt⟩,tt⟩ ?_
  refine W.ifP (((i : Nat) : Int) < (l.length : Int)) (.b (decide (((i : Nat) : Int) < (l.length : Int)))) (by kernel_rfl) rfl trivial ?_ ?_
  ·intro h9
   refine W.skip (thenQ_normal ?_)
   refine W.seq ?_
   refine W.block ?_
   refine W.seq ?_
   refine Kk cok tab19 hnt [] [0,1,5,18] (⟨[(0,.sl (.calls l)),(1,.i kk),(5,.i ((i : Nat) : Int)),(18,.b (decide (((l.getD i default).proc) ≠ kk)))],[],[999]⟩)
    (True ∧ True ∧ (True ∧ True ∧ (0 ≤ ((i : Nat) : Int)) ∧ (((i : Nat) : Int) < (l.length : Int))) ∧ True ∧ True ∧ True ∧ (True ∧ True ∧ True) ∧ True)
    ⟨tt,tt,⟨tt,tt,(by omega),(by omega)⟩,tt,tt,tt,⟨tt,tt,tt⟩,tt⟩ ?_
   refine W.ifP (((l.getD i default).proc) ≠ kk) (.b (decide (((l.getD i default).proc) ≠ kk))) (by kernel_rfl) rfl trivial ?_ ?_
   ·intro h18
    refine Kk cok tab19 hnt [] [4] (⟨[(4,.i (-1 : Int))],[],[999]⟩)
     (True ∧ True)
     ⟨tt,tt⟩ ?_
    refine W.ret (thenQ_ret (blockQ_ret (thenQ_ret (thenQ_ret (blockQ_ret (thenQ_ret ?_))))))
    exact endQ_ret (.i (-1 : Int)) (by kernel_rfl) (@cast ((.int .i64 (-1 : Int) : Value) = .int .i64 (heldC l k)) _ (by kernel_rfl) (congrArg (Value.int .i64) (by exact heldC_no (i := i) (by omega) (heldC_bad hk2 (by simp only [h18,not_false_eq_true,ne_eq,true_or,or_true])))))
   ·intro n18
    refine W.skip (thenQ_normal ?_)
    refine Kk cok tab19 hnt [] [0,1,5] (⟨[(0,.sl (.calls l)),(1,.i (kk + (1 : Int))),(5,.i ((i : Nat) : Int))],[],[999]⟩)
     (True ∧ (True ∧ True ∧ (Fits .i64 (kk + (1 : Int)))) ∧ True ∧ True)
     ⟨tt,⟨tt,tt,(by exact fits_i64 (by omega) (by omega))⟩,tt,tt⟩ ?_
    refine W.seq ?_
    refine Kk cok tab19 hnt [] [0,1,5,27] (⟨[(0,.sl (.calls l)),(1,.i (kk + (1 : Int))),(5,.i ((i : Nat) : Int)),(27,.b (decide (((l.getD i default).obj) ≠ (kk + (1 : Int)))))],[],[999]⟩)
     (True ∧ True ∧ (True ∧ True ∧ (0 ≤ ((i : Nat) : Int)) ∧ (((i : Nat) : Int) < (l.length : Int))) ∧ True ∧ True ∧ True ∧ (True ∧ True ∧ True) ∧ True)
     ⟨tt,tt,⟨tt,tt,(by omega),(by omega)⟩,tt,tt,tt,⟨tt,tt,tt⟩,tt⟩ ?_
    refine W.ifP (((l.getD i default).obj) ≠ (kk + (1 : Int))) (.b (decide (((l.getD i default).obj) ≠ (kk + (1 : Int))))) (by kernel_rfl) rfl trivial ?_ ?_
    ·intro h27
     refine Kk cok tab19 hnt [] [4] (⟨[(4,.i (-1 : Int))],[],[999]⟩)
      (True ∧ True)
      ⟨tt,tt⟩ ?_
     refine W.ret (thenQ_ret (blockQ_ret (thenQ_ret (thenQ_ret (blockQ_ret (thenQ_ret ?_))))))
     exact endQ_ret (.i (-1 : Int)) (by kernel_rfl) (@cast ((.int .i64 (-1 : Int) : Value) = .int .i64 (heldC l k)) _ (by kernel_rfl) (congrArg (Value.int .i64) (by exact heldC_no (i := i) (by omega) (heldC_bad hk2 (by simp only [h27,not_false_eq_true,ne_eq,true_or,or_true])))))
    ·intro n27
     refine W.skip (thenQ_normal ?_)
     refine Kk cok tab19 hnt [] [0,1,5] (⟨[(0,.sl (.calls l)),(1,.i ((kk + (1 : Int)) + (1 : Int))),(5,.i ((i : Nat) : Int))],[],[999]⟩)
      (True ∧ (True ∧ True ∧ (Fits .i64 ((kk + (1 : Int)) + (1 : Int)))) ∧ True ∧ True)
      ⟨tt,⟨tt,tt,(by exact fits_i64 (by omega) (by omega))⟩,tt,tt⟩ ?_
     refine W.seq ?_
     refine Kk cok tab19 hnt [] [0,1,5,36] (⟨[(0,.sl (.calls l)),(1,.i ((kk + (1 : Int)) + (1 : Int))),(5,.i ((i : Nat) : Int)),(36,.b (decide (((l.getD i default).kind) ≠ ((kk + (1 : Int)) + (1 : Int)))))],[],[999]⟩)
      (True ∧ True ∧ (True ∧ True ∧ (0 ≤ ((i : Nat) : Int)) ∧ (((i : Nat) : Int) < (l.length : Int))) ∧ True ∧ True ∧ True ∧ (True ∧ True ∧ True) ∧ True)
      ⟨tt,tt,⟨tt,tt,(by omega),(by omega)⟩,tt,tt,tt,⟨tt,tt,tt⟩,tt⟩ ?_
     refine W.ifP (((l.getD i default).kind) ≠ ((kk + (1 : Int)) + (1 : Int))) (.b (decide (((l.getD i default).kind) ≠ ((kk + (1 : Int)) + (1 : Int))))) (by kernel_rfl) rfl trivial ?_ ?_
     ·intro h36
      refine Kk cok tab19 hnt [] [4] (⟨[(4,.i (-1 : Int))],[],[999]⟩)
       (True ∧ True)
       ⟨tt,tt⟩ ?_
      refine W.ret (thenQ_ret (blockQ_ret (thenQ_ret (thenQ_ret (blockQ_ret (thenQ_ret ?_))))))
      exact endQ_ret (.i (-1 : Int)) (by kernel_rfl) (@cast ((.int .i64 (-1 : Int) : Value) = .int .i64 (heldC l k)) _ (by kernel_rfl) (congrArg (Value.int .i64) (by exact heldC_no (i := i) (by omega) (heldC_bad hk2 (by simp only [h36,not_false_eq_true,ne_eq,true_or,or_true])))))
     ·intro n36
      refine W.skip (thenQ_normal ?_)
      refine Kk cok tab19 hnt [] [0,1,5] (⟨[(0,.sl (.calls l)),(1,.i (((kk + (1 : Int)) + (1 : Int)) + (1 : Int))),(5,.i ((i : Nat) : Int))],[],[999]⟩)
       (True ∧ (True ∧ True ∧ (Fits .i64 (((kk + (1 : Int)) + (1 : Int)) + (1 : Int)))) ∧ True ∧ True)
       ⟨tt,⟨tt,tt,(by exact fits_i64 (by omega) (by omega))⟩,tt,tt⟩ ?_
      refine W.seq ?_
      refine Kk cok tab19 hnt [] [0,1,5,45] (⟨[(0,.sl (.calls l)),(1,.i (((kk + (1 : Int)) + (1 : Int)) + (1 : Int))),(5,.i ((i : Nat) : Int)),(45,.b (decide (((l.getD i default).arg) ≠ (((kk + (1 : Int)) + (1 : Int)) + (1 : Int)))))],[],[999]⟩)
       (True ∧ True ∧ (True ∧ True ∧ (0 ≤ ((i : Nat) : Int)) ∧ (((i : Nat) : Int) < (l.length : Int))) ∧ True ∧ True ∧ True ∧ (True ∧ True ∧ True) ∧ True)
       ⟨tt,tt,⟨tt,tt,(by omega),(by omega)⟩,tt,tt,tt,⟨tt,tt,tt⟩,tt⟩ ?_
      refine W.ifP (((l.getD i default).arg) ≠ (((kk + (1 : Int)) + (1 : Int)) + (1 : Int))) (.b (decide (((l.getD i default).arg) ≠ (((kk + (1 : Int)) + (1 : Int)) + (1 : Int))))) (by kernel_rfl) rfl trivial ?_ ?_
      ·intro h45
       refine Kk cok tab19 hnt [] [4] (⟨[(4,.i (-1 : Int))],[],[999]⟩)
        (True ∧ True)
        ⟨tt,tt⟩ ?_
       refine W.ret (thenQ_ret (blockQ_ret (thenQ_ret (thenQ_ret (blockQ_ret (thenQ_ret ?_))))))
       exact endQ_ret (.i (-1 : Int)) (by kernel_rfl) (@cast ((.int .i64 (-1 : Int) : Value) = .int .i64 (heldC l k)) _ (by kernel_rfl) (congrArg (Value.int .i64) (by exact heldC_no (i := i) (by omega) (heldC_bad hk2 (by simp only [h45,not_false_eq_true,ne_eq,true_or,or_true])))))
      ·intro n45
       refine W.skip (thenQ_normal ?_)
       refine Kk cok tab19 hnt [] [0,1,5] (⟨[(0,.sl (.calls l)),(1,.i ((((kk + (1 : Int)) + (1 : Int)) + (1 : Int)) + (1 : Int))),(5,.i ((i : Nat) : Int))],[],[999]⟩)
        (True ∧ (True ∧ True ∧ (Fits .i64 ((((kk + (1 : Int)) + (1 : Int)) + (1 : Int)) + (1 : Int)))) ∧ True ∧ True)
        ⟨tt,⟨tt,tt,(by exact fits_i64 (by omega) (by omega))⟩,tt,tt⟩ ?_
       refine W.seq ?_
       refine Kk cok tab19 hnt [] [0,1,5,54] (⟨[(0,.sl (.calls l)),(1,.i ((((kk + (1 : Int)) + (1 : Int)) + (1 : Int)) + (1 : Int))),(5,.i ((i : Nat) : Int)),(54,.b (decide (((l.getD i default).ret) ≠ ((((kk + (1 : Int)) + (1 : Int)) + (1 : Int)) + (1 : Int)))))],[],[999]⟩)
        (True ∧ True ∧ (True ∧ True ∧ (0 ≤ ((i : Nat) : Int)) ∧ (((i : Nat) : Int) < (l.length : Int))) ∧ True ∧ True ∧ True ∧ (True ∧ True ∧ True) ∧ True)
        ⟨tt,tt,⟨tt,tt,(by omega),(by omega)⟩,tt,tt,tt,⟨tt,tt,tt⟩,tt⟩ ?_
       refine W.ifP (((l.getD i default).ret) ≠ ((((kk + (1 : Int)) + (1 : Int)) + (1 : Int)) + (1 : Int))) (.b (decide (((l.getD i default).ret) ≠ ((((kk + (1 : Int)) + (1 : Int)) + (1 : Int)) + (1 : Int))))) (by kernel_rfl) rfl trivial ?_ ?_
       ·intro h54
        refine Kk cok tab19 hnt [] [4] (⟨[(4,.i (-1 : Int))],[],[999]⟩)
         (True ∧ True)
         ⟨tt,tt⟩ ?_
        refine W.ret (thenQ_ret (blockQ_ret (thenQ_ret (thenQ_ret (blockQ_ret (thenQ_ret ?_))))))
        exact endQ_ret (.i (-1 : Int)) (by kernel_rfl) (@cast ((.int .i64 (-1 : Int) : Value) = .int .i64 (heldC l k)) _ (by kernel_rfl) (congrArg (Value.int .i64) (by exact heldC_no (i := i) (by omega) (heldC_bad hk2 (by simp only [h54,not_false_eq_true,ne_eq,true_or,or_true])))))
       ·intro n54
        refine W.skip (thenQ_normal ?_)
        refine Kk cok tab19 hnt [] [0,1,5] (⟨[(0,.sl (.calls l)),(1,.i (((((kk + (1 : Int)) + (1 : Int)) + (1 : Int)) + (1 : Int)) + (1 : Int))),(5,.i ((i : Nat) : Int))],[],[999]⟩)
         (True ∧ (True ∧ True ∧ (Fits .i64 (((((kk + (1 : Int)) + (1 : Int)) + (1 : Int)) + (1 : Int)) + (1 : Int)))) ∧ True ∧ True)
         ⟨tt,⟨tt,tt,(by exact fits_i64 (by omega) (by omega))⟩,tt,tt⟩ ?_
        refine W.seq ?_
        refine Kk cok tab19 hnt [] [0,1,5,63] (⟨[(0,.sl (.calls l)),(1,.i (((((kk + (1 : Int)) + (1 : Int)) + (1 : Int)) + (1 : Int)) + (1 : Int))),(5,.i ((i : Nat) : Int)),(63,.b (decide (((l.getD i default).frm) ≠ (((((kk + (1 : Int)) + (1 : Int)) + (1 : Int)) + (1 : Int)) + (1 : Int)))))],[],[999]⟩)
         (True ∧ True ∧ (True ∧ True ∧ (0 ≤ ((i : Nat) : Int)) ∧ (((i : Nat) : Int) < (l.length : Int))) ∧ True ∧ True ∧ True ∧ (True ∧ True ∧ True) ∧ True)
         ⟨tt,tt,⟨tt,tt,(by omega),(by omega)⟩,tt,tt,tt,⟨tt,tt,tt⟩,tt⟩ ?_
        refine W.ifP (((l.getD i default).frm) ≠ (((((kk + (1 : Int)) + (1 : Int)) + (1 : Int)) + (1 : Int)) + (1 : Int))) (.b (decide (((l.getD i default).frm) ≠ (((((kk + (1 : Int)) + (1 : Int)) + (1 : Int)) + (1 : Int)) + (1 : Int))))) (by kernel_rfl) rfl trivial ?_ ?_
        ·intro h63
         refine Kk cok tab19 hnt [] [4] (⟨[(4,.i (-1 : Int))],[],[999]⟩)
          (True ∧ True)
          ⟨tt,tt⟩ ?_
         refine W.ret (thenQ_ret (blockQ_ret (thenQ_ret (thenQ_ret (blockQ_ret (thenQ_ret ?_))))))
         exact endQ_ret (.i (-1 : Int)) (by kernel_rfl) (@cast ((.int .i64 (-1 : Int) : Value) = .int .i64 (heldC l k)) _ (by kernel_rfl) (congrArg (Value.int .i64) (by exact heldC_no (i := i) (by omega) (heldC_bad hk2 (by simp only [h63,not_false_eq_true,ne_eq,true_or,or_true])))))
        ·intro n63
         refine W.skip (thenQ_normal ?_)
         refine Kk cok tab19 hnt [] [0,1,5] (⟨[(0,.sl (.calls l)),(1,.i ((((((kk + (1 : Int)) + (1 : Int)) + (1 : Int)) + (1 : Int)) + (1 : Int)) + (1 : Int))),(5,.i ((i : Nat) : Int))],[],[999]⟩)
          (True ∧ (True ∧ True ∧ (Fits .i64 ((((((kk + (1 : Int)) + (1 : Int)) + (1 : Int)) + (1 : Int)) + (1 : Int)) + (1 : Int)))) ∧ True ∧ True)
          ⟨tt,⟨tt,tt,(by exact fits_i64 (by omega) (by omega))⟩,tt,tt⟩ ?_
         refine W.seq ?_
         refine Kk cok tab19 hnt [] [0,1,5,72] (⟨[(0,.sl (.calls l)),(1,.i ((((((kk + (1 : Int)) + (1 : Int)) + (1 : Int)) + (1 : Int)) + (1 : Int)) + (1 : Int))),(5,.i ((i : Nat) : Int)),(72,.b (decide (((l.getD i default).to) ≠ ((((((kk + (1 : Int)) + (1 : Int)) + (1 : Int)) + (1 : Int)) + (1 : Int)) + (1 : Int)))))],[],[999]⟩)
          (True ∧ True ∧ (True ∧ True ∧ (0 ≤ ((i : Nat) : Int)) ∧ (((i : Nat) : Int) < (l.length : Int))) ∧ True ∧ True ∧ True ∧ (True ∧ True ∧ True) ∧ True)
          ⟨tt,tt,⟨tt,tt,(by omega),(by omega)⟩,tt,tt,tt,⟨tt,tt,tt⟩,tt⟩ ?_
         refine W.ifP (((l.getD i default).to) ≠ ((((((kk + (1 : Int)) + (1 : Int)) + (1 : Int)) + (1 : Int)) + (1 : Int)) + (1 : Int))) (.b (decide (((l.getD i default).to) ≠ ((((((kk + (1 : Int)) + (1 : Int)) + (1 : Int)) + (1 : Int)) + (1 : Int)) + (1 : Int))))) (by kernel_rfl) rfl trivial ?_ ?_
         ·intro h72
          refine Kk cok tab19 hnt [] [4] (⟨[(4,.i (-1 : Int))],[],[999]⟩)
           (True ∧ True)
           ⟨tt,tt⟩ ?_
          refine W.ret (thenQ_ret (blockQ_ret (thenQ_ret (thenQ_ret (blockQ_ret (thenQ_ret ?_))))))
          exact endQ_ret (.i (-1 : Int)) (by kernel_rfl) (@cast ((.int .i64 (-1 : Int) : Value) = .int .i64 (heldC l k)) _ (by kernel_rfl) (congrArg (Value.int .i64) (by exact heldC_no (i := i) (by omega) (heldC_bad hk2 (by simp only [h72,not_false_eq_true,ne_eq,true_or,or_true])))))
         ·intro n72
          refine W.skip (thenQ_normal ?_)
          refine Lk cok tab19 hnt [] (⟨[(0,.sl (.calls l)),(1,.i (((((((kk + (1 : Int)) + (1 : Int)) + (1 : Int)) + (1 : Int)) + (1 : Int)) + (1 : Int)) + (1 : Int))),(5,.i ((i : Nat) : Int)),(72,.b (decide (((l.getD i default).to) ≠ ((((((kk + (1 : Int)) + (1 : Int)) + (1 : Int)) + (1 : Int)) + (1 : Int)) + (1 : Int))))),(73,.i ((((((kk + (1 : Int)) + (1 : Int)) + (1 : Int)) + (1 : Int)) + (1 : Int)) + (1 : Int))),(74,.i (((((((kk + (1 : Int)) + (1 : Int)) + (1 : Int)) + (1 : Int)) + (1 : Int)) + (1 : Int)) + (1 : Int)))],[],[999]⟩)
           (True ∧ (True ∧ True ∧ (Fits .i64 (((((((kk + (1 : Int)) + (1 : Int)) + (1 : Int)) + (1 : Int)) + (1 : Int)) + (1 : Int)) + (1 : Int)))) ∧ True ∧ True)
           ⟨tt,⟨tt,tt,(by exact fits_i64 (by omega) (by omega))⟩,tt,tt⟩ ?_
          refine blockQ_normal (thenQ_normal ?_)
          refine Lk cok tab19 hnt [] (⟨[(0,.sl (.calls l)),(1,.i (((((((kk + (1 : Int)) + (1 : Int)) + (1 : Int)) + (1 : Int)) + (1 : Int)) + (1 : Int)) + (1 : Int))),(5,.i (((i + 1) : Nat) : Int)),(10,.i ((i : Nat) : Int)),(11,.i (((i + 1) : Nat) : Int)),(72,.b (decide (((l.getD i default).to) ≠ ((((((kk + (1 : Int)) + (1 : Int)) + (1 : Int)) + (1 : Int)) + (1 : Int)) + (1 : Int))))),(73,.i ((((((kk + (1 : Int)) + (1 : Int)) + (1 : Int)) + (1 : Int)) + (1 : Int)) + (1 : Int))),(74,.i (((((((kk + (1 : Int)) + (1 : Int)) + (1 : Int)) + (1 : Int)) + (1 : Int)) + (1 : Int)) + (1 : Int)))],[],[999]⟩)
           (True ∧ (True ∧ True ∧ (Fits .i64 (((i + 1) : Nat) : Int))) ∧ True ∧ True)
           ⟨tt,⟨tt,tt,(by exact fits_i64 (by omega) (by omega))⟩,tt,tt⟩ ?_
          refine thenQ_normal ?_
          refine ⟨((i + 1),(((((((kk + (1 : Int)) + (1 : Int)) + (1 : Int)) + (1 : Int)) + (1 : Int)) + (1 : Int)) + (1 : Int))),(show ((i + 1) ≤ l.length) ∧ (∀ j,j < (i + 1) → heldCAt l k j = true) ∧ ((((((((kk + (1 : Int)) + (1 : Int)) + (1 : Int)) + (1 : Int)) + (1 : Int)) + (1 : Int)) + (1 : Int)) = k + 7 * (((i + 1) : Nat) : Int)) from ⟨(by first | assumption | omega | rfl | (intro _ hjj; omega) | (simp; done) | (simp; omega)),(by exact upto_succ hA (heldC_good hk2 n18 n27 n36 n45 n54 n63 n72)),(by first | assumption | omega | rfl | (intro _ hjj; omega) | (simp; done) | (simp; omega))⟩),(show l.length - (i + 1) < l.length - i from (by first | omega | (simp_all; omega))),?_⟩
          exact Sub.of [] (@cast (((Sd (.calls l)) ∧ (Si (((((((kk + (1 : Int)) + (1 : Int)) + (1 : Int)) + (1 : Int)) + (1 : Int)) + (1 : Int)) + (1 : Int))) ∧ (Si (((i + 1) : Nat) : Int)) ∧ True) ∧ True ∧ (true = true) ∧ (true = true)) _ (by kernel_rfl) ⟨⟨rfl,rfl,rfl,tt⟩,tt,rfl,rfl⟩)
  ·intro n9
   refine W.exit (thenQ_exit (thenQ_exit (blockQ_hit ?_)))
   refine thenQ_normal ?_
   refine Kk cok tab19 hnt [] [4] (⟨[(4,.i kk)],[],[999]⟩)
    (True ∧ True ∧ True)
    ⟨tt,tt,tt⟩ ?_
   refine W.ret ?_
   exact endQ_ret (.i kk) (by kernel_rfl) (@cast ((.int .i64 kk : Value) = .int .i64 (heldC l k)) _ (by kernel_rfl) (congrArg (Value.int .i64) (by exact heldC_yes hA hi hk2 n9)))
theorem ent19 : Entr prog 19 := ⟨_,func19,rfl,by decide⟩
end Go.Proofs.Tryd
