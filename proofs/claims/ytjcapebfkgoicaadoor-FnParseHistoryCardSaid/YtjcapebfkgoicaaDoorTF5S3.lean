import Derived.Test.YtjcapebfkgoicaaDoorTF5S0
import Derived.Test.YtjcapebfkgoicaaDoorTF5S2
import Derived.Test.YtjcapebfkgoicaaDoorTF5S1
set_option linter.unusedSimpArgs false
set_option linter.unusedVariables false
namespace Go.Proofs.Tryd
open Go.Ab Go.RowKit
def fs10 : FnS := fnS [.s .calls] [.calls] (fun _ (h,_) => (.v (.string (histB h)),[],True))
abbrev T10 : Tab := lk [(13,fs13),(23,fs23),(24,fs24)]
theorem tab10 : TabOK prog T10 := (TabOK.cons ok13 ent13 (TabOK.cons ok23 ent23 (TabOK.cons ok24 ent24 TabOK.nil)))
set_option maxRecDepth 100000 in
set_option maxHeartbeats 1000000 in
theorem ok10 : FnOK prog 10 fs10 := by
 refine FnOK.mk cok func10 rfl rfl rfl ?_
 rintro fl ⟨(h : List CallD),_⟩ hpre F hnt0 _
 have hnt : F.nt = 24 := hnt0.trans ntmps10
 clear hpre
 refine W.to (⟨[(0,.sl (.calls h))],[],[999]⟩) rfl ?_
 refine W.lenOf 0 (.calls h) (by kernel_rfl) ?_
 intro hl_h; replace hl_h : List.length h ≤ 9223372036854775807 := hl_h
 refine Kk cok tab10 hnt [] [0] (⟨[(0,.sl (.calls h))],[],[999]⟩)
  (True ∧ True)
  ⟨tt,tt⟩ ?_
 refine W.seq ?_
 refine Kk cok tab10 hnt [] [0,8] (⟨[(0,.sl (.calls h)),(8,.b (!(validHistory h)))],[],[999]⟩)
  (True ∧ (True ∧ (True ∧ True) ∧ True) ∧ True ∧ True)
  ⟨tt,⟨tt,⟨tt,tt⟩,tt⟩,tt,tt⟩ ?_
 refine W.if' (!(validHistory h)) (.b (!(validHistory h))) (by kernel_rfl) rfl trivial ?_ ?_
 ·intro h8
  refine Kk cok tab10 hnt [] [2] (⟨[(2,.v (.string nEmpty))],[],[999]⟩)
   (True ∧ True)
   ⟨tt,tt⟩ ?_
  refine W.ret (thenQ_ret ?_)
  exact endQ_ret (.v (.string nEmpty)) (by kernel_rfl) (@cast (((.string nEmpty) : Value) = (.string (histB h))) _ (by kernel_rfl) (congrArg Value.string (by exact histB_no (not_f h8))))
 ·intro n8
  have hv : validHistory h = true := not_g n8
  have h6 := valid_len hv
  refine W.skip (thenQ_normal ?_)
  refine Kk cok tab10 hnt [9] [0,3] (⟨[(0,.sl (.calls h)),(3,.own 9 (List.length ([] : List ByteArray)))],[(9,⟨9,.row (.strs ([] : List ByteArray))⟩)],[9,999]⟩)
   (True ∧ True ∧ True)
   ⟨tt,tt,tt⟩ ?_
  refine W.seq ?_
  refine Kk cok tab10 hnt [] [3,10,11,12] (⟨[(3,.own 9 (List.length ([] : List ByteArray))),(10,.sl (.calls h)),(11,.i (h.length : Int)),(12,.i (0 : Int))],[(9,⟨9,.row (.strs ([] : List ByteArray))⟩)],[9,999]⟩)
   (True ∧ True ∧ True ∧ True)
   ⟨tt,tt,tt,tt⟩ ?_
  refine W.block ?_
  refine W.loop (ι := Nat × (List ByteArray)) (fun (x : Nat × (List ByteArray)) => match x with | (i,o) => (⟨[(3,.own 9 o.length),(10,.sl (.calls h)),(11,.i (h.length : Int)),(12,.i ((i : Nat) : Int))],[(9,⟨9,.row (.strs o)⟩)],[9,999]⟩ : St))
   (fun (x : Nat × (List ByteArray)) => match x with | (i,o) => (i ≤ h.length) ∧ (o = textUp h i))
   (fun (x : Nat × (List ByteArray)) => match x with | (i,o) => (h.length - i : Nat)) (0,([] : List ByteArray)) ?_ ?_ ?_
  ·exact (show (0 ≤ h.length) ∧ (([] : List ByteArray) = textUp h 0) from ⟨(by first | assumption | omega | rfl | (intro _ hjj; omega) | (simp; done) | (simp; omega)),(by rfl)⟩)
  ·exact Sub.of [] (@cast (((((9 : Nat) = 9) ∧ ((List.length ([] : List ByteArray)) = (List.length ([] : List ByteArray))) ∧ ((9 : Nat) ∈ ([9,999] : List Nat))) ∧ (Sd (.calls h)) ∧ (Si (h.length : Int)) ∧ ((.int .i64 (0 : Int) : Value) = .int .i64 ((0 : Nat) : Int)) ∧ True) ∧ ((((9 : Nat) = 9) ∧ (Sd (.strs ([] : List ByteArray))) ∧ ((9 : Nat) ∈ ([9,999] : List Nat))) ∧ True) ∧ (true = true) ∧ (true = true)) _ (by kernel_rfl) ⟨⟨⟨rfl,rfl,(by decide)⟩,rfl,rfl,(congrArg (Value.int .i64) (by first | rfl | omega | assumption | simp | simp_all)),tt⟩,⟨⟨rfl,rfl,(by decide)⟩,tt⟩,rfl,rfl⟩)
  ·rintro ⟨i,o⟩ hC0
   have hC : (i ≤ h.length) ∧ (o = textUp h i) := hC0
   clear hC0
   obtain ⟨hi,ho⟩ := hC
   refine W.to (⟨[(3,.own 9 o.length),(10,.sl (.calls h)),(11,.i (h.length : Int)),(12,.i ((i : Nat) : Int))],[(9,⟨9,.row (.strs o)⟩)],[9,999]⟩) rfl ?_
   have hol : o.length = i := by rw [ho]; exact textUp_len hi
   have hjs := join_size ho
   refine Kk cok tab10 hnt [] [3,10,11,12,13] (⟨[(3,.own 9 o.length),(10,.sl (.calls h)),(11,.i (h.length : Int)),(12,.i ((i : Nat) : Int)),(13,.b (decide (((i : Nat) : Int) < (h.length : Int))))],[(9,⟨9,.row (.strs o)⟩)],[9,999]⟩)
    ((True ∧ True ∧ True) ∧ True)
    ⟨⟨tt,tt,tt⟩,tt⟩ ?_
   refine W.seq ?_
   refine W.ifP (((i : Nat) : Int) < (h.length : Int)) (.b (decide (((i : Nat) : Int) < (h.length : Int)))) (by kernel_rfl) rfl trivial ?_ ?_
   ·intro h13
    refine W.skip (thenQ_normal ?_)
    refine W.seq ?_
    refine W.block ?_
    refine Kk cok tab10 hnt [] [3,5,10,11,12] (⟨[(3,.own 9 o.length),(5,.ptr 5 0),(10,.sl (.calls h)),(11,.i (h.length : Int)),(12,.i ((i : Nat) : Int))],[(5,⟨40,.fix [.i ((h.getD i default).proc),.i ((h.getD i default).obj),.i ((h.getD i default).kind),.i ((h.getD i default).arg),.i ((h.getD i default).ret),.i ((h.getD i default).frm),.i ((h.getD i default).to)]⟩),(9,⟨9,.row (.strs o)⟩)],[5,9,999]⟩)
     ((True ∧ True ∧ (0 ≤ ((i : Nat) : Int)) ∧ (((i : Nat) : Int) < (h.length : Int))) ∧ True ∧ True ∧ (True ∧ True) ∧ True)
     ⟨⟨tt,tt,(by omega),(by omega)⟩,tt,tt,⟨tt,tt⟩,tt⟩ ?_
    refine Lk cok tab10 hnt [20] (⟨[(3,.own 20 (List.length (o ++ ([callTextB (h.getD i default)])))),(5,.ptr 5 0),(10,.sl (.calls h)),(11,.i (h.length : Int)),(12,.i ((i : Nat) : Int)),(16,.own 9 o.length),(17,.agg [.i ((h.getD i default).proc),.i ((h.getD i default).obj),.i ((h.getD i default).kind),.i ((h.getD i default).arg),.i ((h.getD i default).ret),.i ((h.getD i default).frm),.i ((h.getD i default).to)]),(18,.v (.string (callTextB (h.getD i default)))),(19,.sl (.strs ([callTextB (h.getD i default)]))),(20,.own 20 (List.length (o ++ ([callTextB (h.getD i default)]))))],[(5,⟨40,.fix [.i ((h.getD i default).proc),.i ((h.getD i default).obj),.i ((h.getD i default).kind),.i ((h.getD i default).arg),.i ((h.getD i default).ret),.i ((h.getD i default).frm),.i ((h.getD i default).to)]⟩),(20,⟨9,.row (.strs (o ++ ([callTextB (h.getD i default)])))⟩)],[20,19,5,9,999]⟩)
     (True ∧ True ∧ (True ∧ (True ∧ True) ∧ (isCall (h.getD i default) = true)) ∧ (True ∧ True) ∧ ((True ∧ (o.length = o.length)) ∧ True ∧ ((o.length + (List.length ([callTextB (h.getD i default)]))) * 16 ≤ 140737488355328)) ∧ True ∧ True)
     ⟨tt,tt,⟨tt,⟨tt,tt⟩,(by have h9 := valid_call hv _ (getD_mem h default (show i < h.length by omega)); exact h9)⟩,⟨tt,tt⟩,⟨⟨tt,rfl⟩,tt,(by (try simp only [List.length_append,List.length_cons,List.length_nil]); omega)⟩,tt,tt⟩ ?_
    refine blockQ_normal (thenQ_normal ?_)
    refine Lk cok tab10 hnt [] (⟨[(3,.own 20 (List.length (o ++ ([callTextB (h.getD i default)])))),(5,.ptr 5 0),(10,.sl (.calls h)),(11,.i (h.length : Int)),(12,.i (((i + 1) : Nat) : Int)),(16,.own 9 o.length),(17,.agg [.i ((h.getD i default).proc),.i ((h.getD i default).obj),.i ((h.getD i default).kind),.i ((h.getD i default).arg),.i ((h.getD i default).ret),.i ((h.getD i default).frm),.i ((h.getD i default).to)]),(18,.v (.string (callTextB (h.getD i default)))),(19,.sl (.strs ([callTextB (h.getD i default)]))),(20,.own 20 (List.length (o ++ ([callTextB (h.getD i default)])))),(21,.i (((i + 1) : Nat) : Int))],[(5,⟨40,.fix [.i ((h.getD i default).proc),.i ((h.getD i default).obj),.i ((h.getD i default).kind),.i ((h.getD i default).arg),.i ((h.getD i default).ret),.i ((h.getD i default).frm),.i ((h.getD i default).to)]⟩),(20,⟨9,.row (.strs (o ++ ([callTextB (h.getD i default)])))⟩)],[20,19,5,9,999]⟩)
     ((True ∧ True ∧ (Fits .i64 (((i + 1) : Nat) : Int))) ∧ True ∧ True)
     ⟨⟨tt,tt,(by exact fits_i64 (by omega) (by omega))⟩,tt,tt⟩ ?_
    refine thenQ_normal ?_
    refine ⟨((i + 1),(o ++ ([callTextB (h.getD i default)]))),(show ((i + 1) ≤ h.length) ∧ ((o ++ ([callTextB (h.getD i default)])) = textUp h (i + 1)) from ⟨(by first | assumption | omega | rfl | (intro _ hjj; omega) | (simp; done) | (simp; omega)),(by exact textUp_next ho (by omega))⟩),(show h.length - (i + 1) < h.length - i from (by first | omega | (simp_all; omega))),?_⟩
    exact Sub.of [(9,20)] (@cast (((((20 : Nat) = 20) ∧ ((List.length (o ++ ([callTextB (h.getD i default)]))) = (List.length (o ++ ([callTextB (h.getD i default)])))) ∧ ((9 : Nat) ∈ ([9,999] : List Nat))) ∧ (Sd (.calls h)) ∧ (Si (h.length : Int)) ∧ (Si (((i + 1) : Nat) : Int)) ∧ True) ∧ ((((9 : Nat) = 9) ∧ (Sd (.strs (o ++ ([callTextB (h.getD i default)])))) ∧ ((9 : Nat) ∈ ([9,999] : List Nat))) ∧ True) ∧ (true = true) ∧ (true = true)) _ (by kernel_rfl) ⟨⟨⟨rfl,rfl,(by decide)⟩,rfl,rfl,rfl,tt⟩,⟨⟨rfl,rfl,(by decide)⟩,tt⟩,rfl,rfl⟩)
   ·intro n13
    refine W.exit (thenQ_exit (thenQ_exit (blockQ_hit ?_)))
    refine thenQ_normal ?_
    refine Kk cok tab10 hnt [] [2] (⟨[(2,.v (.string (joinB o (⟨#[32]⟩ : ByteArray))))],[(9,⟨9,.row (.strs o)⟩)],[9,999]⟩)
     (True ∧ (True ∧ ((True ∧ (o.length = o.length)) ∧ True ∧ True) ∧ (List.length o ≤ 1000) ∧ ((joinB o (⟨#[32]⟩ : ByteArray)).size ≤ 1000000)) ∧ True ∧ True)
     ⟨tt,⟨tt,⟨⟨tt,rfl⟩,tt,tt⟩,(by omega),(by omega)⟩,tt,tt⟩ ?_
    refine W.ret ?_
    exact endQ_ret (.v (.string (joinB o (⟨#[32]⟩ : ByteArray)))) (by kernel_rfl) (@cast (((.string (joinB o (⟨#[32]⟩ : ByteArray))) : Value) = (.string (histB h))) _ (by kernel_rfl) (congrArg Value.string (by exact join_all hv ho (by omega))))
theorem ent10 : Entr prog 10 := ⟨_,func10,rfl,by decide⟩
end Go.Proofs.Tryd

set_option linter.unusedSimpArgs false
set_option linter.unusedVariables false
namespace Go.Proofs.Tryd
open Go.Ab Go.RowKit
def fs14 : FnS := fnS [.o] [.str] (fun _ (s,_) => (.tup [.own 0 (List.length ((parseI s.data.toList).1)),.b ((parseI s.data.toList).2)],[(40,.calls ((parseI s.data.toList).1))],(s.size ≤ 1999999)))
abbrev T14 : Tab := lk [(10,fs10),(13,fs13),(30,fs30),(31,fs31)]
theorem tab14 : TabOK prog T14 := (TabOK.cons ok10 ent10 (TabOK.cons ok13 ent13 (TabOK.cons ok30 ent30 (TabOK.cons ok31 ent31 TabOK.nil))))
set_option maxRecDepth 100000 in
set_option maxHeartbeats 1000000 in
theorem ok14 : FnOK prog 14 fs14 := by
 refine FnOK.mk cok func14 rfl rfl rfl ?_
 rintro fl ⟨(s : ByteArray),_⟩ hpre F hnt0 _
 have hnt : F.nt = 34 := hnt0.trans ntmps14
 replace hpre : (s.size ≤ 1999999) := hpre
 have hz := hpre
 refine W.to (⟨[(0,.v (.string s))],[],[999]⟩) rfl ?_
 have hp : ∀ i,(List.getD (splitNB (⟨#[32]⟩ : ByteArray) 7 s) i default).size ≤ s.size := splitN_psz (⟨#[32]⟩ : ByteArray) s 7
 have hsl : (((splitNB (⟨#[32]⟩ : ByteArray) 7 s).length : Nat) : Int) ≤ 7 := splitN_size (by decide)
 refine Kk cok tab14 hnt [] [0] (⟨[(0,.v (.string s))],[],[999]⟩)
  (True ∧ True ∧ True)
  ⟨tt,tt,tt⟩ ?_
 refine Kk cok tab14 hnt [7] [0,4] (⟨[(0,.v (.string s)),(4,.own 7 (List.length ([] : List CallD)))],[(7,⟨40,.row (.calls ([] : List CallD))⟩)],[7,999]⟩)
  (True ∧ True ∧ True)
  ⟨tt,tt,tt⟩ ?_
 refine W.seq ?_
 refine Kk cok tab14 hnt [] [0,4,9] (⟨[(0,.v (.string s)),(4,.own 7 (List.length ([] : List CallD))),(9,.b (eqS s nEmpty))],[(7,⟨40,.row (.calls ([] : List CallD))⟩)],[7,999]⟩)
  (True ∧ (True ∧ True ∧ True) ∧ True)
  ⟨tt,⟨tt,tt,tt⟩,tt⟩ ?_
 refine W.if' (eqS s nEmpty) (.b (eqS s nEmpty)) (by kernel_rfl) rfl trivial ?_ ?_
 ·intro h9
  have hE := pi_empty (s := s) h9
  refine Kk cok tab14 hnt [] [2,3] (⟨[(2,.own 7 (List.length ([] : List CallD))),(3,.b true)],[(7,⟨40,.row (.calls ([] : List CallD))⟩)],[7,999]⟩)
   (True ∧ True ∧ True ∧ True)
   ⟨tt,tt,tt,tt⟩ ?_
  refine W.ret (thenQ_ret ?_)
  exact endQ_rows [(0,7)] (.tup [.own 7 (List.length ([] : List CallD)),.b true]) (by kernel_rfl) (@cast ((((7 : Nat) = 7) ∧ ((List.length ([] : List CallD)) = (List.length ((parseI s.data.toList).1))) ∧ ((0 : Nat) ∈ ([0] : List Nat))) ∧ ((.bool true : Value) = .bool ((parseI s.data.toList).2)) ∧ True) _ (by kernel_rfl) ⟨⟨rfl,(by first | rfl | omega | assumption | (symm; assumption) | (exact congrArg List.length (by first | (rw [hE]; done) | (rw [hE]; rfl) | (rw [hE]; exact hol) | rfl)) | (first | (rw [hE]; done) | (rw [hE]; rfl) | (rw [hE]; exact hol) | rfl; done) | simp | simp_all),(by decide)⟩,(congrArg Value.bool (by first | rfl | omega | assumption | (first | (rw [hE]; done) | (rw [hE]; rfl) | (rw [hE]; exact hol) | rfl; done) | simp | simp_all)),tt⟩) (@cast ((((40 : Nat) = 40) ∧ ((.calls ([] : List CallD) : Dat) = .calls ((parseI s.data.toList).1)) ∧ ((0 : Nat) ∈ ([0] : List Nat))) ∧ True) _ (by kernel_rfl) ⟨⟨rfl,(congrArg Dat.calls (by first | (rw [hE]; done) | (rw [hE]; rfl) | (rw [hE]; exact hol) | rfl)),(by decide)⟩,tt⟩) (by kernel_rfl)
 ·intro n9
  refine W.skip (thenQ_normal ?_)
  refine W.seq ?_
  refine Kk cok tab14 hnt [] [0,4,12,13,14] (⟨[(0,.v (.string s)),(4,.own 7 (List.length ([] : List CallD))),(12,.sl (.strs (splitNB (⟨#[32]⟩ : ByteArray) (7 : Int) s))),(13,.i (((List.length (splitNB (⟨#[32]⟩ : ByteArray) (7 : Int) s)) : Nat) : Int)),(14,.i (0 : Int))],[(7,⟨40,.row (.calls ([] : List CallD))⟩)],[12,7,999]⟩)
   (True ∧ ((True ∧ (True ∧ True ∧ True ∧ True) ∧ ((⟨#[32]⟩ : ByteArray).size = 1) ∧ (1 ≤ (7 : Int) ∧ (7 : Int) ≤ 1000) ∧ (s.size ≤ 2000000)) ∧ ((List.length (splitNB (⟨#[32]⟩ : ByteArray) (7 : Int) s)) = (List.length (splitNB (⟨#[32]⟩ : ByteArray) (7 : Int) s)))) ∧ True ∧ True ∧ True)
   ⟨tt,⟨⟨tt,⟨tt,tt,tt,tt⟩,(by rfl),(by omega),(by omega)⟩,rfl⟩,tt,tt,tt⟩ ?_
  refine W.block ?_
  refine W.loop (ι := Nat × (List CallD)) (fun (x : Nat × (List CallD)) => match x with | (i,o) => (⟨[(0,.v (.string s)),(4,.own 7 o.length),(12,.sl (.strs (splitNB (⟨#[32]⟩ : ByteArray) (7 : Int) s))),(13,.i (((List.length (splitNB (⟨#[32]⟩ : ByteArray) (7 : Int) s)) : Nat) : Int)),(14,.i ((i : Nat) : Int))],[(7,⟨40,.row (.calls o)⟩)],[7,999]⟩ : St))
   (fun (x : Nat × (List CallD)) => match x with | (i,o) => (i ≤ (splitNB (⟨#[32]⟩ : ByteArray) 7 s).length) ∧ (o = readUpI (splitNB (⟨#[32]⟩ : ByteArray) 7 s) i))
   (fun (x : Nat × (List CallD)) => match x with | (i,o) => ((splitNB (⟨#[32]⟩ : ByteArray) 7 s).length - i : Nat)) (0,([] : List CallD)) ?_ ?_ ?_
  ·exact (show (0 ≤ (splitNB (⟨#[32]⟩ : ByteArray) 7 s).length) ∧ (([] : List CallD) = readUpI (splitNB (⟨#[32]⟩ : ByteArray) 7 s) 0) from ⟨(by first | assumption | omega | rfl | (intro _ hjj; omega) | (simp; done) | (simp; omega)),(by rfl)⟩)
  ·exact Sub.of [] (@cast (((((.string s) : Value) = (.string s)) ∧ (((7 : Nat) = 7) ∧ ((List.length ([] : List CallD)) = (List.length ([] : List CallD))) ∧ ((7 : Nat) ∈ ([7,999] : List Nat))) ∧ (Sd (.strs (splitNB (⟨#[32]⟩ : ByteArray) (7 : Int) s))) ∧ (Si (((List.length (splitNB (⟨#[32]⟩ : ByteArray) (7 : Int) s)) : Nat) : Int)) ∧ ((.int .i64 (0 : Int) : Value) = .int .i64 ((0 : Nat) : Int)) ∧ True) ∧ ((((40 : Nat) = 40) ∧ (Sd (.calls ([] : List CallD))) ∧ ((7 : Nat) ∈ ([7,999] : List Nat))) ∧ True) ∧ (true = true) ∧ (true = true)) _ (by kernel_rfl) ⟨⟨rfl,⟨rfl,rfl,(by decide)⟩,rfl,rfl,(congrArg (Value.int .i64) (by first | rfl | omega | assumption | simp | simp_all)),tt⟩,⟨⟨rfl,rfl,(by decide)⟩,tt⟩,rfl,rfl⟩)
  ·rintro ⟨i,o⟩ hC0
   have hC : (i ≤ (splitNB (⟨#[32]⟩ : ByteArray) 7 s).length) ∧ (o = readUpI (splitNB (⟨#[32]⟩ : ByteArray) 7 s) i) := hC0
   clear hC0
   obtain ⟨hi,ho⟩ := hC
   refine W.to (⟨[(0,.v (.string s)),(4,.own 7 o.length),(12,.sl (.strs (splitNB (⟨#[32]⟩ : ByteArray) (7 : Int) s))),(13,.i (((List.length (splitNB (⟨#[32]⟩ : ByteArray) (7 : Int) s)) : Nat) : Int)),(14,.i ((i : Nat) : Int))],[(7,⟨40,.row (.calls o)⟩)],[7,999]⟩) rfl ?_
   have hol : o.length = i := by rw [ho]; exact readUp_lenI hi
   have hpi := hp i
   refine Kk cok tab14 hnt [] [0,4,12,13,14,15] (⟨[(0,.v (.string s)),(4,.own 7 o.length),(12,.sl (.strs (splitNB (⟨#[32]⟩ : ByteArray) (7 : Int) s))),(13,.i (((List.length (splitNB (⟨#[32]⟩ : ByteArray) (7 : Int) s)) : Nat) : Int)),(14,.i ((i : Nat) : Int)),(15,.b (decide (((i : Nat) : Int) < (((List.length (splitNB (⟨#[32]⟩ : ByteArray) (7 : Int) s)) : Nat) : Int))))],[(7,⟨40,.row (.calls o)⟩)],[7,999]⟩)
    ((True ∧ True ∧ True) ∧ True)
    ⟨⟨tt,tt,tt⟩,tt⟩ ?_
   refine W.seq ?_
   refine W.ifP (((i : Nat) : Int) < (((List.length (splitNB (⟨#[32]⟩ : ByteArray) (7 : Int) s)) : Nat) : Int)) (.b (decide (((i : Nat) : Int) < (((List.length (splitNB (⟨#[32]⟩ : ByteArray) (7 : Int) s)) : Nat) : Int)))) (by kernel_rfl) rfl trivial ?_ ?_
   ·intro h15
    refine W.skip (thenQ_normal ?_)
    refine W.seq ?_
    refine W.block ?_
    refine Kk cok tab14 hnt [] [0,4,6,12,13,14] (⟨[(0,.v (.string s)),(4,.own 7 o.length),(6,.v (.string (List.getD (splitNB (⟨#[32]⟩ : ByteArray) (7 : Int) s) i default))),(12,.sl (.strs (splitNB (⟨#[32]⟩ : ByteArray) (7 : Int) s))),(13,.i (((List.length (splitNB (⟨#[32]⟩ : ByteArray) (7 : Int) s)) : Nat) : Int)),(14,.i ((i : Nat) : Int))],[(7,⟨40,.row (.calls o)⟩)],[7,999]⟩)
     ((True ∧ True ∧ (0 ≤ ((i : Nat) : Int)) ∧ (((i : Nat) : Int) < (((List.length (splitNB (⟨#[32]⟩ : ByteArray) (7 : Int) s)) : Nat) : Int))) ∧ True ∧ True ∧ True)
     ⟨⟨tt,tt,(by omega),(by (first | omega | (simp only [List.length_set]; done) | (simp only [List.length_append,List.length_cons,List.length_nil,List.length_take,List.length_drop,List.length_set,List.length_replicate,List.length_map] at *; omega) | assumption))⟩,tt,tt,tt⟩ ?_
    refine Lk cok tab14 hnt [22] (⟨[(0,.v (.string s)),(4,.own 22 (List.length (o ++ ([(readI (List.getD (splitNB (⟨#[32]⟩ : ByteArray) (7 : Int) s) i default).data.toList)])))),(6,.v (.string (List.getD (splitNB (⟨#[32]⟩ : ByteArray) (7 : Int) s) i default))),(12,.sl (.strs (splitNB (⟨#[32]⟩ : ByteArray) (7 : Int) s))),(13,.i (((List.length (splitNB (⟨#[32]⟩ : ByteArray) (7 : Int) s)) : Nat) : Int)),(14,.i ((i : Nat) : Int)),(18,.own 7 o.length),(19,.v (.string (List.getD (splitNB (⟨#[32]⟩ : ByteArray) (7 : Int) s) i default))),(20,.agg [.i ((readI (List.getD (splitNB (⟨#[32]⟩ : ByteArray) (7 : Int) s) i default).data.toList).proc),.i ((readI (List.getD (splitNB (⟨#[32]⟩ : ByteArray) (7 : Int) s) i default).data.toList).obj),.i ((readI (List.getD (splitNB (⟨#[32]⟩ : ByteArray) (7 : Int) s) i default).data.toList).kind),.i ((readI (List.getD (splitNB (⟨#[32]⟩ : ByteArray) (7 : Int) s) i default).data.toList).arg),.i ((readI (List.getD (splitNB (⟨#[32]⟩ : ByteArray) (7 : Int) s) i default).data.toList).ret),.i ((readI (List.getD (splitNB (⟨#[32]⟩ : ByteArray) (7 : Int) s) i default).data.toList).frm),.i ((readI (List.getD (splitNB (⟨#[32]⟩ : ByteArray) (7 : Int) s) i default).data.toList).to)]),(21,.sl (.calls ([(readI (List.getD (splitNB (⟨#[32]⟩ : ByteArray) (7 : Int) s) i default).data.toList)]))),(22,.own 22 (List.length (o ++ ([(readI (List.getD (splitNB (⟨#[32]⟩ : ByteArray) (7 : Int) s) i default).data.toList)]))))],[(22,⟨40,.row (.calls (o ++ ([(readI (List.getD (splitNB (⟨#[32]⟩ : ByteArray) (7 : Int) s) i default).data.toList)])))⟩)],[22,21,7,999]⟩)
     (True ∧ True ∧ (True ∧ (True ∧ True) ∧ ((List.getD (splitNB (⟨#[32]⟩ : ByteArray) (7 : Int) s) i default).size ≤ 2000000)) ∧ (True ∧ True) ∧ ((True ∧ (o.length = o.length)) ∧ True ∧ ((o.length + (List.length ([(readI (List.getD (splitNB (⟨#[32]⟩ : ByteArray) (7 : Int) s) i default).data.toList)]))) * 56 ≤ 140737488355328)) ∧ True ∧ True)
     ⟨tt,tt,⟨tt,⟨tt,tt⟩,(by omega)⟩,⟨tt,tt⟩,⟨⟨tt,rfl⟩,tt,(by (try simp only [List.length_append,List.length_cons,List.length_nil,List.length_set]); omega)⟩,tt,tt⟩ ?_
    refine blockQ_normal (thenQ_normal ?_)
    refine Lk cok tab14 hnt [] (⟨[(0,.v (.string s)),(4,.own 22 (List.length (o ++ ([(readI (List.getD (splitNB (⟨#[32]⟩ : ByteArray) (7 : Int) s) i default).data.toList)])))),(6,.v (.string (List.getD (splitNB (⟨#[32]⟩ : ByteArray) (7 : Int) s) i default))),(12,.sl (.strs (splitNB (⟨#[32]⟩ : ByteArray) (7 : Int) s))),(13,.i (((List.length (splitNB (⟨#[32]⟩ : ByteArray) (7 : Int) s)) : Nat) : Int)),(14,.i (((i + 1) : Nat) : Int)),(18,.own 7 o.length),(19,.v (.string (List.getD (splitNB (⟨#[32]⟩ : ByteArray) (7 : Int) s) i default))),(20,.agg [.i ((readI (List.getD (splitNB (⟨#[32]⟩ : ByteArray) (7 : Int) s) i default).data.toList).proc),.i ((readI (List.getD (splitNB (⟨#[32]⟩ : ByteArray) (7 : Int) s) i default).data.toList).obj),.i ((readI (List.getD (splitNB (⟨#[32]⟩ : ByteArray) (7 : Int) s) i default).data.toList).kind),.i ((readI (List.getD (splitNB (⟨#[32]⟩ : ByteArray) (7 : Int) s) i default).data.toList).arg),.i ((readI (List.getD (splitNB (⟨#[32]⟩ : ByteArray) (7 : Int) s) i default).data.toList).ret),.i ((readI (List.getD (splitNB (⟨#[32]⟩ : ByteArray) (7 : Int) s) i default).data.toList).frm),.i ((readI (List.getD (splitNB (⟨#[32]⟩ : ByteArray) (7 : Int) s) i default).data.toList).to)]),(21,.sl (.calls ([(readI (List.getD (splitNB (⟨#[32]⟩ : ByteArray) (7 : Int) s) i default).data.toList)]))),(22,.own 22 (List.length (o ++ ([(readI (List.getD (splitNB (⟨#[32]⟩ : ByteArray) (7 : Int) s) i default).data.toList)])))),(23,.i (((i + 1) : Nat) : Int))],[(22,⟨40,.row (.calls (o ++ ([(readI (List.getD (splitNB (⟨#[32]⟩ : ByteArray) (7 : Int) s) i default).data.toList)])))⟩)],[22,21,7,999]⟩)
     ((True ∧ True ∧ (Fits .i64 (((i + 1) : Nat) : Int))) ∧ True ∧ True)
     ⟨⟨tt,tt,(by exact fits_i64 (by omega) (by omega))⟩,tt,tt⟩ ?_
    refine thenQ_normal ?_
    refine ⟨((i + 1),(o ++ ([(readI (List.getD (splitNB (⟨#[32]⟩ : ByteArray) (7 : Int) s) i default).data.toList)]))),(show ((i + 1) ≤ (splitNB (⟨#[32]⟩ : ByteArray) 7 s).length) ∧ ((o ++ ([(readI (List.getD (splitNB (⟨#[32]⟩ : ByteArray) (7 : Int) s) i default).data.toList)])) = readUpI (splitNB (⟨#[32]⟩ : ByteArray) 7 s) (i + 1)) from ⟨(by first | assumption | omega | rfl | (intro _ hjj; omega) | (simp; done) | (simp; omega)),(by exact readUpI_next ho (by omega))⟩),(show (splitNB (⟨#[32]⟩ : ByteArray) 7 s).length - (i + 1) < (splitNB (⟨#[32]⟩ : ByteArray) 7 s).length - i from (by first | omega | (simp_all; omega))),?_⟩
    exact Sub.of [(7,22)] (@cast (((((.string s) : Value) = (.string s)) ∧ (((22 : Nat) = 22) ∧ ((List.length (o ++ ([(readI (List.getD (splitNB (⟨#[32]⟩ : ByteArray) (7 : Int) s) i default).data.toList)]))) = (List.length (o ++ ([(readI (List.getD (splitNB (⟨#[32]⟩ : ByteArray) (7 : Int) s) i default).data.toList)])))) ∧ ((7 : Nat) ∈ ([7,999] : List Nat))) ∧ (Sd (.strs (splitNB (⟨#[32]⟩ : ByteArray) (7 : Int) s))) ∧ (Si (((List.length (splitNB (⟨#[32]⟩ : ByteArray) (7 : Int) s)) : Nat) : Int)) ∧ (Si (((i + 1) : Nat) : Int)) ∧ True) ∧ ((((40 : Nat) = 40) ∧ (Sd (.calls (o ++ ([(readI (List.getD (splitNB (⟨#[32]⟩ : ByteArray) (7 : Int) s) i default).data.toList)])))) ∧ ((7 : Nat) ∈ ([7,999] : List Nat))) ∧ True) ∧ (true = true) ∧ (true = true)) _ (by kernel_rfl) ⟨⟨rfl,⟨rfl,rfl,(by decide)⟩,rfl,rfl,rfl,tt⟩,⟨⟨rfl,rfl,(by decide)⟩,tt⟩,rfl,rfl⟩)
   ·intro n15
    have hO := readUpI_all (s := s) (sep := (⟨#[32]⟩ : ByteArray)) rfl ho (by omega)
    refine W.exit (thenQ_exit (thenQ_exit (blockQ_hit ?_)))
    refine thenQ_normal ?_
    refine W.seq ?_
    refine Kk cok tab14 hnt [] [4,32] (⟨[(4,.own 7 o.length),(32,.b ((!(validHistory o)) || (!(eqS (histB o) s))))],[(7,⟨40,.row (.calls o)⟩)],[7,999]⟩)
     ((fun (Z1:Bool)=>(True ∧ ((True ∧ (((True ∧ (o.length = o.length)) ∧ True) ∧ True)) ∧ (True ∧ (True ∧ (((!Z1) = true → True) ∧ (((!Z1) = true → (True ∧ ((((((!Z1) = true) ∧ True) ∧ (o.length = o.length)) ∧ True) ∧ True))) ∧ (((!Z1) = true → True) ∧ (((!Z1) = true → ((((!Z1) = true) ∧ True) ∧ ((((!Z1) = true) ∧ True) ∧ True))) ∧ ((True ∧ ((Z1 = true → True) ∧ (Z1 = false → ((!Z1) = true) ∧ True))) ∧ True)))))))))) (!(validHistory o)))
     ⟨tt,⟨tt,⟨⟨tt,rfl⟩,tt⟩,tt⟩,tt,tt,(fun _ => trivial),(fun hG => ⟨tt,⟨⟨⟨hG,tt⟩,rfl⟩,tt⟩,tt⟩),(fun _ => trivial),(fun hG => ⟨⟨hG,tt⟩,⟨hG,tt⟩,tt⟩),⟨tt,(fun _ => trivial),(fun hp => ⟨(not_t hp),tt⟩)⟩,tt⟩ ?_
    refine W.if' ((!(validHistory o)) || (!(eqS (histB o) s))) (.b ((!(validHistory o)) || (!(eqS (histB o) s)))) (by kernel_rfl) rfl trivial ?_ ?_
    ·intro h32
     have hE := pi_rest (s := s) (fun e => Bool.false_ne_true (n9.symm.trans e)) hO h32
     rw [cond_true] at hE
     refine Kk cok tab14 hnt [] [2,3] (⟨[(2,.v (.slice none 0 0)),(3,.b false)],[(7,⟨40,.row (.calls o)⟩)],[7,999]⟩)
      (True ∧ True ∧ True)
      ⟨tt,tt,tt⟩ ?_
     refine W.nilOwn 2 813 none 40 (.calls ([] : List CallD)) (.v (.slice none 0 0)) (.own 813 0) (⟨[(2,.own 813 0),(3,.b false)],[(7,⟨40,.row (.calls o)⟩),(813,⟨40,.row (.calls ([] : List CallD))⟩)],[813,7,999]⟩) (by kernel_rfl) (by kernel_rfl) (by kernel_rfl) (by kernel_rfl) (by kernel_rfl) ?_
     refine W.ret (thenQ_ret ?_)
     exact endQ_rows [(0,813)] (.tup [.own 813 0,.b false]) (by kernel_rfl) (@cast ((((813 : Nat) = 813) ∧ (0 = (List.length ((parseI s.data.toList).1))) ∧ ((0 : Nat) ∈ ([0] : List Nat))) ∧ ((.bool false : Value) = .bool ((parseI s.data.toList).2)) ∧ True) _ (by kernel_rfl) ⟨⟨rfl,(by first | rfl | omega | assumption | (symm; assumption) | (exact congrArg List.length (by first | (rw [hE]; done) | (rw [hE]; rfl) | (rw [hE]; exact hol) | rfl)) | (first | (rw [hE]; done) | (rw [hE]; rfl) | (rw [hE]; exact hol) | rfl; done) | simp | simp_all),(by decide)⟩,(congrArg Value.bool (by first | rfl | omega | assumption | (first | (rw [hE]; done) | (rw [hE]; rfl) | (rw [hE]; exact hol) | rfl; done) | simp | simp_all)),tt⟩) (@cast ((((40 : Nat) = 40) ∧ ((.calls ([] : List CallD) : Dat) = .calls ((parseI s.data.toList).1)) ∧ ((0 : Nat) ∈ ([0] : List Nat))) ∧ True) _ (by kernel_rfl) ⟨⟨rfl,(congrArg Dat.calls (by first | (rw [hE]; done) | (rw [hE]; rfl) | (rw [hE]; exact hol) | rfl)),(by decide)⟩,tt⟩) (by kernel_rfl)
    ·intro n32
     have hE := pi_rest (s := s) (fun e => Bool.false_ne_true (n9.symm.trans e)) hO n32
     rw [cond_false] at hE
     refine W.skip (thenQ_normal ?_)
     refine Kk cok tab14 hnt [] [2,3] (⟨[(2,.own 7 o.length),(3,.b true)],[(7,⟨40,.row (.calls o)⟩)],[7,999]⟩)
      (True ∧ True ∧ True ∧ True)
      ⟨tt,tt,tt,tt⟩ ?_
     refine W.ret ?_
     exact endQ_rows [(0,7)] (.tup [.own 7 o.length,.b true]) (by kernel_rfl) (@cast ((((7 : Nat) = 7) ∧ (o.length = (List.length ((parseI s.data.toList).1))) ∧ ((0 : Nat) ∈ ([0] : List Nat))) ∧ ((.bool true : Value) = .bool ((parseI s.data.toList).2)) ∧ True) _ (by kernel_rfl) ⟨⟨rfl,(by first | rfl | omega | assumption | (symm; assumption) | (exact congrArg List.length (by first | (rw [hE]; done) | (rw [hE]; rfl) | (rw [hE]; exact hol) | rfl)) | (first | (rw [hE]; done) | (rw [hE]; rfl) | (rw [hE]; exact hol) | rfl; done) | simp | simp_all),(by decide)⟩,(congrArg Value.bool (by first | rfl | omega | assumption | (first | (rw [hE]; done) | (rw [hE]; rfl) | (rw [hE]; exact hol) | rfl; done) | simp | simp_all)),tt⟩) (@cast ((((40 : Nat) = 40) ∧ ((.calls o : Dat) = .calls ((parseI s.data.toList).1)) ∧ ((0 : Nat) ∈ ([0] : List Nat))) ∧ True) _ (by kernel_rfl) ⟨⟨rfl,(congrArg Dat.calls (by first | (rw [hE]; done) | (rw [hE]; rfl) | (rw [hE]; exact hol) | rfl)),(by decide)⟩,tt⟩) (by kernel_rfl)
theorem ent14 : Entr prog 14 := ⟨_,func14,rfl,by decide⟩
end Go.Proofs.Tryd

set_option linter.unusedSimpArgs false
set_option linter.unusedVariables false
namespace Go.Proofs.Tryd
open Go.Ab Go.RowKit
def fs53 : FnS := fnS [.o,.o] [.str,.u8] (fun _ (s,c,_) => (.own 0 (List.length (splitB8 c s)),[(9,.strs (splitB8 c s))],(0 ≤ c ∧ c ≤ 255) ∧ (s.size ≤ 2000000)))
abbrev T53 : Tab := lk []
theorem tab53 : TabOK prog T53 := TabOK.nil
set_option maxRecDepth 100000 in
set_option maxHeartbeats 1000000 in
theorem ok53 : FnOK prog 53 fs53 := by
 refine FnOK.mk cok func53 rfl rfl rfl ?_
 rintro fl ⟨(s : ByteArray),(c : Int),_⟩ hpre F hnt0 _
 have hnt : F.nt = 35 := hnt0.trans ntmps53
 replace hpre : (0 ≤ c ∧ c ≤ 255) ∧ (s.size ≤ 2000000) := hpre
 obtain ⟨hc,hz⟩ := hpre
 refine W.to (⟨[(0,.v (.string s)),(1,.v (.int .u8 c))],[],[999]⟩) rfl ?_
 refine Kk cok tab53 hnt [] [0,1] (⟨[(0,.v (.string s)),(1,.v (.int .u8 c))],[],[999]⟩)
  (True ∧ True)
  ⟨tt,tt⟩ ?_
 refine Kk cok tab53 hnt [8] [0,1,5] (⟨[(0,.v (.string s)),(1,.v (.int .u8 c)),(5,.own 8 (List.length ([] : List ByteArray)))],[(8,⟨9,.row (.strs ([] : List ByteArray))⟩)],[8,999]⟩)
  (True ∧ True ∧ True)
  ⟨tt,tt,tt⟩ ?_
 refine Kk cok tab53 hnt [] [0,1,5,6] (⟨[(0,.v (.string s)),(1,.v (.int .u8 c)),(5,.own 8 (List.length ([] : List ByteArray))),(6,.i (0 : Int))],[(8,⟨9,.row (.strs ([] : List ByteArray))⟩)],[8,999]⟩)
  (True ∧ True)
  ⟨tt,tt⟩ ?_
 refine W.seq ?_
 refine Kk cok tab53 hnt [] [0,1,5,6,7] (⟨[(0,.v (.string s)),(1,.v (.int .u8 c)),(5,.own 8 (List.length ([] : List ByteArray))),(6,.i (0 : Int)),(7,.i (0 : Int))],[(8,⟨9,.row (.strs ([] : List ByteArray))⟩)],[8,999]⟩)
  (True ∧ True)
  ⟨tt,tt⟩ ?_
 refine W.block ?_
 refine W.loop (ι := (List ByteArray) × Nat × Nat) (fun (x : (List ByteArray) × Nat × Nat) => match x with | (o,f,i) => (⟨[(0,.v (.string s)),(1,.v (.int .u8 c)),(5,.own 8 o.length),(6,.i ((f : Nat) : Int)),(7,.i ((i : Nat) : Int))],[(8,⟨9,.row (.strs o)⟩)],[8,999]⟩ : St))
  (fun (x : (List ByteArray) × Nat × Nat) => match x with | (o,f,i) => (i ≤ s.size) ∧ (f ≤ i) ∧ (SpI c s o f i) ∧ (o.length ≤ i))
  (fun (x : (List ByteArray) × Nat × Nat) => match x with | (o,f,i) => (s.size - i : Nat)) (([] : List ByteArray),0,0) ?_ ?_ ?_
 ·exact (show (0 ≤ s.size) ∧ (0 ≤ 0) ∧ (SpI c s ([] : List ByteArray) 0 0) ∧ (([] : List ByteArray).length ≤ 0) from ⟨(by first | assumption | omega | rfl | (intro _ hjj; omega) | (simp; done) | (simp; omega)),(by first | assumption | omega | rfl | (intro _ hjj; omega) | (simp; done) | (simp; omega)),(by exact spl_init _ _),(by exact Nat.zero_le _)⟩)
 ·exact Sub.of [] (@cast (((((.string s) : Value) = (.string s)) ∧ (Sv (.int .u8 c)) ∧ (((8 : Nat) = 8) ∧ ((List.length ([] : List ByteArray)) = (List.length ([] : List ByteArray))) ∧ ((8 : Nat) ∈ ([8,999] : List Nat))) ∧ ((.int .i64 (0 : Int) : Value) = .int .i64 ((0 : Nat) : Int)) ∧ ((.int .i64 (0 : Int) : Value) = .int .i64 ((0 : Nat) : Int)) ∧ True) ∧ ((((9 : Nat) = 9) ∧ (Sd (.strs ([] : List ByteArray))) ∧ ((8 : Nat) ∈ ([8,999] : List Nat))) ∧ True) ∧ (true = true) ∧ (true = true)) _ (by kernel_rfl) ⟨⟨rfl,rfl,⟨rfl,rfl,(by decide)⟩,(congrArg (Value.int .i64) (by first | rfl | omega | assumption | simp | simp_all)),(congrArg (Value.int .i64) (by first | rfl | omega | assumption | simp | simp_all)),tt⟩,⟨⟨rfl,rfl,(by decide)⟩,tt⟩,rfl,rfl⟩)
 ·rintro ⟨o,f,i⟩ hC0
  have hC : (i ≤ s.size) ∧ (f ≤ i) ∧ (SpI c s o f i) ∧ (o.length ≤ i) := hC0
  clear hC0
  obtain ⟨hi,hf,ho,hol⟩ := hC
  refine W.to (⟨[(0,.v (.string s)),(1,.v (.int .u8 c)),(5,.own 8 o.length),(6,.i ((f : Nat) : Int)),(7,.i ((i : Nat) : Int))],[(8,⟨9,.row (.strs o)⟩)],[8,999]⟩) rfl ?_
  refine W.seq ?_
  refine Kk cok tab53 hnt [] [0,1,5,6,7,12] (⟨[(0,.v (.string s)),(1,.v (.int .u8 c)),(5,.own 8 o.length),(6,.i ((f : Nat) : Int)),(7,.i ((i : Nat) : Int)),(12,.b (decide (((i : Nat) : Int) < ((s.size : Nat) : Int))))],[(8,⟨9,.row (.strs o)⟩)],[8,999]⟩)
   (True ∧ True ∧ True ∧ (True ∧ True ∧ True) ∧ True)
   ⟨tt,tt,tt,⟨tt,tt,tt⟩,tt⟩ ?_
  refine W.ifP (((i : Nat) : Int) < ((s.size : Nat) : Int)) (.b (decide (((i : Nat) : Int) < ((s.size : Nat) : Int)))) (by kernel_rfl) rfl trivial ?_ ?_
  ·intro h12
   refine W.skip (thenQ_normal ?_)
   refine W.seq ?_
   refine W.block ?_
   refine Kk cok tab53 hnt [] [0,1,5,6,7,19] (⟨[(0,.v (.string s)),(1,.v (.int .u8 c)),(5,.own 8 o.length),(6,.i ((f : Nat) : Int)),(7,.i ((i : Nat) : Int)),(19,.b (decide ((((UInt8.toNat (List.getD s.data.toList i 0)) : Nat) : Int) = c)))],[(8,⟨9,.row (.strs o)⟩)],[8,999]⟩)
    (True ∧ True ∧ (True ∧ True ∧ (0 ≤ ((i : Nat) : Int)) ∧ (((i : Nat) : Int) < ((s.size : Nat) : Int))) ∧ True ∧ (True ∧ True ∧ True) ∧ True)
    ⟨tt,tt,⟨tt,tt,(by omega),(by omega)⟩,tt,⟨tt,tt,tt⟩,tt⟩ ?_
   refine W.ifP ((((UInt8.toNat (List.getD s.data.toList i 0)) : Nat) : Int) = c) (.b (decide ((((UInt8.toNat (List.getD s.data.toList i 0)) : Nat) : Int) = c))) (by kernel_rfl) rfl trivial ?_ ?_
   ·intro h19
    refine Kk cok tab53 hnt [26] [0,1,5,7] (⟨[(0,.v (.string s)),(1,.v (.int .u8 c)),(5,.own 26 (List.length (o ++ ([s.extract f i])))),(7,.i ((i : Nat) : Int))],[(26,⟨9,.row (.strs (o ++ ([s.extract f i])))⟩)],[26,25,8,999]⟩)
     (True ∧ True ∧ True ∧ True ∧ (True ∧ True ∧ True ∧ (0 ≤ ((f : Nat) : Int)) ∧ (((f : Nat) : Int) ≤ ((i : Nat) : Int)) ∧ (((i : Nat) : Int) ≤ ((s.size : Nat) : Int))) ∧ (True ∧ True) ∧ ((True ∧ (o.length = o.length)) ∧ True ∧ ((o.length + (List.length ([s.extract f i]))) * 16 ≤ 140737488355328)) ∧ True ∧ True)
     ⟨tt,tt,tt,tt,⟨tt,tt,tt,(by omega),(by omega),(by omega)⟩,⟨tt,tt⟩,⟨⟨tt,rfl⟩,tt,(by (try simp only [List.length_append,List.length_cons,List.length_nil,List.length_set]); omega)⟩,tt,tt⟩ ?_
    refine Lk cok tab53 hnt [] (⟨[(0,.v (.string s)),(1,.v (.int .u8 c)),(5,.own 26 (List.length (o ++ ([s.extract f i])))),(6,.i (((i + 1) : Nat) : Int)),(7,.i ((i : Nat) : Int)),(27,.i ((i : Nat) : Int)),(28,.i (((i + 1) : Nat) : Int))],[(26,⟨9,.row (.strs (o ++ ([s.extract f i])))⟩)],[26,25,8,999]⟩)
     (True ∧ (True ∧ True ∧ (Fits .i64 (((i + 1) : Nat) : Int))) ∧ True ∧ True)
     ⟨tt,⟨tt,tt,(by exact fits_i64 (by omega) (by omega))⟩,tt,tt⟩ ?_
    refine blockQ_normal (thenQ_normal ?_)
    refine Lk cok tab53 hnt [] (⟨[(0,.v (.string s)),(1,.v (.int .u8 c)),(5,.own 26 (List.length (o ++ ([s.extract f i])))),(6,.i (((i + 1) : Nat) : Int)),(7,.i (((i + 1) : Nat) : Int)),(13,.i ((i : Nat) : Int)),(14,.i (((i + 1) : Nat) : Int)),(27,.i ((i : Nat) : Int)),(28,.i (((i + 1) : Nat) : Int))],[(26,⟨9,.row (.strs (o ++ ([s.extract f i])))⟩)],[26,25,8,999]⟩)
     (True ∧ (True ∧ True ∧ (Fits .i64 (((i + 1) : Nat) : Int))) ∧ True ∧ True)
     ⟨tt,⟨tt,tt,(by exact fits_i64 (by omega) (by omega))⟩,tt,tt⟩ ?_
    refine thenQ_normal ?_
    refine ⟨((o ++ ([s.extract f i])),(i + 1),(i + 1)),(show ((i + 1) ≤ s.size) ∧ ((i + 1) ≤ (i + 1)) ∧ (SpI c s (o ++ ([s.extract f i])) (i + 1) (i + 1)) ∧ ((o ++ ([s.extract f i])).length ≤ (i + 1)) from ⟨(by first | assumption | omega | rfl | (intro _ hjj; omega) | (simp; done) | (simp; omega)),(by first | assumption | omega | rfl | (intro _ hjj; omega) | (simp; done) | (simp; omega)),(by first | exact spl_yes ho hf (by omega) hc h19 | exact spl_no ho hf (by omega) hc n19),(by first | omega | (simp only [List.length_append,List.length_cons,List.length_nil]; omega))⟩),(show s.size - (i + 1) < s.size - i from (by first | omega | (simp_all; omega))),?_⟩
    exact Sub.of [(8,26)] (@cast (((((.string s) : Value) = (.string s)) ∧ (Sv (.int .u8 c)) ∧ (((26 : Nat) = 26) ∧ ((List.length (o ++ ([s.extract f i]))) = (List.length (o ++ ([s.extract f i])))) ∧ ((8 : Nat) ∈ ([8,999] : List Nat))) ∧ (Si (((i + 1) : Nat) : Int)) ∧ (Si (((i + 1) : Nat) : Int)) ∧ True) ∧ ((((9 : Nat) = 9) ∧ (Sd (.strs (o ++ ([s.extract f i])))) ∧ ((8 : Nat) ∈ ([8,999] : List Nat))) ∧ True) ∧ (true = true) ∧ (true = true)) _ (by kernel_rfl) ⟨⟨rfl,rfl,⟨rfl,rfl,(by decide)⟩,rfl,rfl,tt⟩,⟨⟨rfl,rfl,(by decide)⟩,tt⟩,rfl,rfl⟩)
   ·intro n19
    refine W.skip (blockQ_normal (thenQ_normal ?_))
    refine Lk cok tab53 hnt [] (⟨[(0,.v (.string s)),(1,.v (.int .u8 c)),(5,.own 8 o.length),(6,.i ((f : Nat) : Int)),(7,.i (((i + 1) : Nat) : Int)),(13,.i ((i : Nat) : Int)),(14,.i (((i + 1) : Nat) : Int)),(19,.b (decide ((((UInt8.toNat (List.getD s.data.toList i 0)) : Nat) : Int) = c)))],[(8,⟨9,.row (.strs o)⟩)],[8,999]⟩)
     (True ∧ (True ∧ True ∧ (Fits .i64 (((i + 1) : Nat) : Int))) ∧ True ∧ True)
     ⟨tt,⟨tt,tt,(by exact fits_i64 (by omega) (by omega))⟩,tt,tt⟩ ?_
    refine thenQ_normal ?_
    refine ⟨(o,f,(i + 1)),(show ((i + 1) ≤ s.size) ∧ (f ≤ (i + 1)) ∧ (SpI c s o f (i + 1)) ∧ (o.length ≤ (i + 1)) from ⟨(by first | assumption | omega | rfl | (intro _ hjj; omega) | (simp; done) | (simp; omega)),(by first | assumption | omega | rfl | (intro _ hjj; omega) | (simp; done) | (simp; omega)),(by first | exact spl_yes ho hf (by omega) hc h19 | exact spl_no ho hf (by omega) hc n19),(by first | omega | (simp only [List.length_append,List.length_cons,List.length_nil]; omega))⟩),(show s.size - (i + 1) < s.size - i from (by first | omega | (simp_all; omega))),?_⟩
    exact Sub.of [] (@cast (((((.string s) : Value) = (.string s)) ∧ (Sv (.int .u8 c)) ∧ (((8 : Nat) = 8) ∧ (o.length = o.length) ∧ ((8 : Nat) ∈ ([8,999] : List Nat))) ∧ (Si ((f : Nat) : Int)) ∧ (Si (((i + 1) : Nat) : Int)) ∧ True) ∧ ((((9 : Nat) = 9) ∧ (Sd (.strs o)) ∧ ((8 : Nat) ∈ ([8,999] : List Nat))) ∧ True) ∧ (true = true) ∧ (true = true)) _ (by kernel_rfl) ⟨⟨rfl,rfl,⟨rfl,rfl,(by decide)⟩,rfl,rfl,tt⟩,⟨⟨rfl,rfl,(by decide)⟩,tt⟩,rfl,rfl⟩)
  ·intro n12
   refine W.exit (thenQ_exit (thenQ_exit (blockQ_hit ?_)))
   refine thenQ_normal ?_
   refine Kk cok tab53 hnt [34] [4] (⟨[(4,.own 34 (List.length (o ++ ([s.extract f s.size]))))],[(34,⟨9,.row (.strs (o ++ ([s.extract f s.size])))⟩)],[34,33,8,999]⟩)
    (True ∧ True ∧ True ∧ (True ∧ True ∧ True ∧ (0 ≤ ((f : Nat) : Int)) ∧ (((f : Nat) : Int) ≤ ((s.size : Nat) : Int)) ∧ (((s.size : Nat) : Int) ≤ ((s.size : Nat) : Int))) ∧ (True ∧ True) ∧ ((True ∧ (o.length = o.length)) ∧ True ∧ ((o.length + (List.length ([s.extract f s.size]))) * 16 ≤ 140737488355328)) ∧ True ∧ True)
    ⟨tt,tt,tt,⟨tt,tt,tt,(by omega),(by omega),(by omega)⟩,⟨tt,tt⟩,⟨⟨tt,rfl⟩,tt,(by (try simp only [List.length_append,List.length_cons,List.length_nil,List.length_set]); omega)⟩,tt,tt⟩ ?_
   refine W.ret ?_
   exact endQ_rows [(0,34)] (.own 34 (List.length (o ++ ([s.extract f s.size])))) (by kernel_rfl) (@cast (((34 : Nat) = 34) ∧ ((List.length (o ++ ([s.extract f s.size]))) = (List.length (splitB8 c s))) ∧ ((0 : Nat) ∈ ([0] : List Nat))) _ (by kernel_rfl) ⟨rfl,(by first | rfl | omega | assumption | (symm; assumption) | (exact congrArg List.length (by exact spl_end ho (by omega))) | (exact spl_end ho (by omega); done) | simp | simp_all),(by decide)⟩) (@cast ((((9 : Nat) = 9) ∧ ((.strs (o ++ ([s.extract f s.size])) : Dat) = .strs (splitB8 c s)) ∧ ((0 : Nat) ∈ ([0] : List Nat))) ∧ True) _ (by kernel_rfl) ⟨⟨rfl,(congrArg Dat.strs (by exact spl_end ho (by omega))),(by decide)⟩,tt⟩) (by kernel_rfl)
theorem ent53 : Entr prog 53 := ⟨_,func53,rfl,by decide⟩
end Go.Proofs.Tryd

set_option linter.unusedSimpArgs false
set_option linter.unusedVariables false
namespace Go.Proofs.Tryd
open Go.Ab Go.RowKit
def out38 : Bool → ATy [.int] → AV × List (TypeId × Dat) × Prop := fun _ (n,_) => (.v (.string (numB n)),[],(-1000000 ≤ n ∧ n ≤ 1000000))
def mu38 : ATy [.int] → Nat := fun (n,_) => (max (2 * n) (1 - 2 * n)).toNat
def fs38 : FnS := fnS [.o] [.int] out38
abbrev fsN38 (n : Nat) : FnS := fnS [.o] [.int] (lim out38 mu38 n)
theorem ent38 : Entr prog 38 := ⟨_,func38,rfl,by decide⟩
abbrev T38 (nn : Nat) : Tab := lk [(38,fsN38 nn)]
theorem tab38 {nn : Nat} (ih : FnOK prog 38 (fsN38 nn)) : TabOK prog (T38 nn) := (TabOK.cons ih ent38 TabOK.nil)
set_option maxRecDepth 100000 in
set_option maxHeartbeats 1000000 in
theorem okS38 (nn : Nat) (ih : FnOK prog 38 (fsN38 nn)) : FnOK prog 38 (fsN38 (nn + 1)) := by
 refine FnOK.mk cok func38 rfl rfl rfl ?_
 rintro fl ⟨(n : Int),_⟩ hpre F hnt0 _
 have hnt : F.nt = 22 := hnt0.trans ntmps38
 obtain ⟨hpre,hmu⟩ := hpre
 replace hmu : (max (2 * n) (1 - 2 * n)).toNat < nn + 1 := hmu
 replace hpre : (-1000000 ≤ n ∧ n ≤ 1000000) := hpre
 have hn := hpre
 refine W.to (⟨[(0,.i n)],[],[999]⟩) rfl ?_
 have hd1 : 0 ≤ n → Int.tdiv n 10 = n / 10 := fun h => Int.tdiv_eq_ediv_of_nonneg h
 have hd2 : 0 ≤ n → Int.tmod n 10 = n % 10 := fun h => Int.tmod_eq_emod_of_nonneg h
 have sn := numB_size (0 - n)
 have sd := numB_size (Int.tdiv n 10)
 have sm := numB_size (Int.tmod n 10)
 refine Kk cok (tab38 ih) hnt [] [0] (⟨[(0,.i n)],[],[999]⟩)
  (True ∧ True)
  ⟨tt,tt⟩ ?_
 refine W.seq ?_
 refine Kk cok (tab38 ih) hnt [] [0,4] (⟨[(0,.i n),(4,.b (decide (n < (0 : Int))))],[],[999]⟩)
  (True ∧ (True ∧ True ∧ True) ∧ True)
  ⟨tt,⟨tt,tt,tt⟩,tt⟩ ?_
 refine W.ifP (n < (0 : Int)) (.b (decide (n < (0 : Int)))) (by kernel_rfl) rfl trivial ?_ ?_
 ·intro h4
  refine Kk cok (tab38 ih) hnt [] [2] (⟨[(2,.v (.string ((⟨#[45]⟩ : ByteArray) ++ (numB (0 - n)))))],[],[999]⟩)
   (True ∧ (True ∧ (Fits .i64 (0 - n))) ∧ (True ∧ (True ∧ True) ∧ (-1000000 ≤ (0 - n) ∧ (0 - n) ≤ 1000000) ∧ ((max (2 * (0 - n)) (1 - 2 * (0 - n))).toNat < nn)) ∧ (True ∧ True ∧ ((⟨#[45]⟩ : ByteArray).size + (numB (0 - n)).size ≤ 9223372036854775807)) ∧ True ∧ True)
   ⟨tt,⟨tt,(by exact fits_i64 (by omega) (by omega))⟩,⟨tt,⟨tt,tt⟩,(by omega),(by omega)⟩,⟨tt,tt,(by (try simp only [ByteArray.size_append,ByteArray.size_extract,sz1,sz2,sz3,sz10]); omega)⟩,tt,tt⟩ ?_
  refine W.ret (thenQ_ret ?_)
  exact endQ_ret (.v (.string ((⟨#[45]⟩ : ByteArray) ++ (numB (0 - n))))) (by kernel_rfl) (@cast (((.string ((⟨#[45]⟩ : ByteArray) ++ (numB (0 - n)))) : Value) = (.string (numB n))) _ (by kernel_rfl) (congrArg Value.string (by exact numB_neg h4)))
 ·intro n4
  refine W.skip (thenQ_normal ?_)
  refine W.seq ?_
  refine Kk cok (tab38 ih) hnt [] [0,10] (⟨[(0,.i n),(10,.b (decide (n < (10 : Int))))],[],[999]⟩)
   (True ∧ (True ∧ True ∧ True) ∧ True)
   ⟨tt,⟨tt,tt,tt⟩,tt⟩ ?_
  refine W.ifP (n < (10 : Int)) (.b (decide (n < (10 : Int)))) (by kernel_rfl) rfl trivial ?_ ?_
  ·intro h10
   refine Kk cok (tab38 ih) hnt [] [2] (⟨[(2,.v (.string ((⟨#[48,49,50,51,52,53,54,55,56,57]⟩ : ByteArray).extract (Int.toNat n) (Int.toNat (n + (1 : Int))))))],[],[999]⟩)
    (True ∧ True ∧ (True ∧ True ∧ (Fits .i64 (n + (1 : Int)))) ∧ (True ∧ True ∧ True ∧ (0 ≤ n) ∧ (n ≤ (n + (1 : Int))) ∧ ((n + (1 : Int)) ≤ ((((⟨#[48,49,50,51,52,53,54,55,56,57]⟩ : ByteArray).size) : Nat) : Int))) ∧ True ∧ True)
    ⟨tt,tt,⟨tt,tt,(by exact fits_i64 (by omega) (by omega))⟩,⟨tt,tt,tt,(by omega),(by omega),(by (try simp only [ByteArray.size_append,ByteArray.size_extract,sz1,sz2,sz3,sz10]); omega)⟩,tt,tt⟩ ?_
   refine W.ret (thenQ_ret ?_)
   exact endQ_ret (.v (.string ((⟨#[48,49,50,51,52,53,54,55,56,57]⟩ : ByteArray).extract (Int.toNat n) (Int.toNat (n + (1 : Int)))))) (by kernel_rfl) (@cast (((.string ((⟨#[48,49,50,51,52,53,54,55,56,57]⟩ : ByteArray).extract (Int.toNat n) (Int.toNat (n + (1 : Int))))) : Value) = (.string (numB n))) _ (by kernel_rfl) (congrArg Value.string (by exact numB_one n4 h10)))
  ·intro n10
   refine W.skip (thenQ_normal ?_)
   refine Kk cok (tab38 ih) hnt [] [2] (⟨[(2,.v (.string ((numB (Int.tdiv n (10 : Int))) ++ (numB (Int.tmod n (10 : Int))))))],[],[999]⟩)
    (True ∧ (True ∧ True ∧ ((10 : Int) ≠ 0) ∧ (Fits .i64 (Int.tdiv n (10 : Int)))) ∧ (True ∧ (True ∧ True) ∧ (-1000000 ≤ (Int.tdiv n (10 : Int)) ∧ (Int.tdiv n (10 : Int)) ≤ 1000000) ∧ ((max (2 * (Int.tdiv n (10 : Int))) (1 - 2 * (Int.tdiv n (10 : Int)))).toNat < nn)) ∧ True ∧ (True ∧ True ∧ ((10 : Int) ≠ 0)) ∧ (True ∧ (True ∧ True) ∧ (-1000000 ≤ (Int.tmod n (10 : Int)) ∧ (Int.tmod n (10 : Int)) ≤ 1000000) ∧ ((max (2 * (Int.tmod n (10 : Int))) (1 - 2 * (Int.tmod n (10 : Int)))).toNat < nn)) ∧ (True ∧ True ∧ ((numB (Int.tdiv n (10 : Int))).size + (numB (Int.tmod n (10 : Int))).size ≤ 9223372036854775807)) ∧ True ∧ True)
    ⟨tt,⟨tt,tt,(by decide),(by rw [hd1 (by omega)]; exact fits_i64 (by omega) (by omega))⟩,⟨tt,⟨tt,tt⟩,(by have h8 := hd1 (by omega); omega),(by have h8 := hd1 (by omega); omega)⟩,tt,⟨tt,tt,(by decide)⟩,⟨tt,⟨tt,tt⟩,(by have h8 := hd2 (by omega); omega),(by have h8 := hd2 (by omega); omega)⟩,⟨tt,tt,(by (try simp only [ByteArray.size_append,ByteArray.size_extract,sz1,sz2,sz3,sz10]); omega)⟩,tt,tt⟩ ?_
   refine W.ret ?_
   exact endQ_ret (.v (.string ((numB (Int.tdiv n (10 : Int))) ++ (numB (Int.tmod n (10 : Int)))))) (by kernel_rfl) (@cast (((.string ((numB (Int.tdiv n (10 : Int))) ++ (numB (Int.tmod n (10 : Int))))) : Value) = (.string (numB n))) _ (by kernel_rfl) (congrArg Value.string (by exact numB_two n4 n10)))
theorem ok38 : FnOK prog 38 fs38 := FnOK.rec' okS38
end Go.Proofs.Tryd

set_option linter.unusedSimpArgs false
set_option linter.unusedVariables false
namespace Go.Proofs.Tryd
open Go.Ab Go.RowKit
def fs69 : FnS := fnS [.o] [.str] (fun _ (s,_) => (.i (readNum s.data.toList),[],(s.size ≤ 2000000)))
abbrev T69 : Tab := lk [(38,fs38)]
theorem tab69 : TabOK prog T69 := (TabOK.cons ok38 ent38 TabOK.nil)
set_option maxRecDepth 100000 in
set_option maxHeartbeats 1000000 in
theorem ok69 : FnOK prog 69 fs69 := by
 refine FnOK.mk cok func69 rfl rfl rfl ?_
 rintro fl ⟨(s : ByteArray),_⟩ hpre F hnt0 _
 have hnt : F.nt = 42 := hnt0.trans ntmps69
 replace hpre : (s.size ≤ 2000000) := hpre
 have hz := hpre
 refine W.to (⟨[(0,.v (.string s))],[],[999]⟩) rfl ?_
 have hu : ∀ i : Nat,((UInt8.toNat (List.getD s.data.toList i 0) : Nat) : Int) ≤ 255 := fun i => by have := (List.getD s.data.toList i 0).toNat_lt; omega
 refine Kk cok tab69 hnt [] [0] (⟨[(0,.v (.string s))],[],[999]⟩)
  (True ∧ True)
  ⟨tt,tt⟩ ?_
 refine Kk cok tab69 hnt [] [0,3] (⟨[(0,.v (.string s)),(3,.i (0 : Int))],[],[999]⟩)
  (True ∧ True)
  ⟨tt,tt⟩ ?_
 refine W.seq ?_
 refine Kk cok tab69 hnt [] [0,3,4] (⟨[(0,.v (.string s)),(3,.i (0 : Int)),(4,.i (0 : Int))],[],[999]⟩)
  (True ∧ True)
  ⟨tt,tt⟩ ?_
 refine W.block ?_
 refine W.loop (ι := Nat × Int) (fun (x : Nat × Int) => match x with | (i,n) => (⟨[(0,.v (.string s)),(3,.i n),(4,.i ((i : Nat) : Int))],[],[999]⟩ : St))
  (fun (x : Nat × Int) => match x with | (i,n) => (i ≤ s.size) ∧ (0 ≤ n ∧ n ≤ 100000) ∧ (rnLoop s.data.toList 0 = rnLoop (s.data.toList.drop i) n.toNat))
  (fun (x : Nat × Int) => match x with | (i,n) => (s.size - i : Nat)) (0,(0 : Int)) ?_ ?_ ?_
 ·exact (show (0 ≤ s.size) ∧ (0 ≤ (0 : Int) ∧ (0 : Int) ≤ 100000) ∧ (rnLoop s.data.toList 0 = rnLoop (s.data.toList.drop 0) (0 : Int).toNat) from ⟨(by first | assumption | omega | rfl | (intro _ hjj; omega) | (simp; done) | (simp; omega)),(by omega),(by rfl)⟩)
 ·exact Sub.of [] (@cast (((((.string s) : Value) = (.string s)) ∧ (Si (0 : Int)) ∧ ((.int .i64 (0 : Int) : Value) = .int .i64 ((0 : Nat) : Int)) ∧ True) ∧ True ∧ (true = true) ∧ (true = true)) _ (by kernel_rfl) ⟨⟨rfl,rfl,(congrArg (Value.int .i64) (by first | rfl | omega | assumption | simp | simp_all)),tt⟩,tt,rfl,rfl⟩)
 ·rintro ⟨i,n⟩ hC0
  have hC : (i ≤ s.size) ∧ (0 ≤ n ∧ n ≤ 100000) ∧ (rnLoop s.data.toList 0 = rnLoop (s.data.toList.drop i) n.toNat) := hC0
  clear hC0
  obtain ⟨hi,hn,hr⟩ := hC
  refine W.to (⟨[(0,.v (.string s)),(3,.i n),(4,.i ((i : Nat) : Int))],[],[999]⟩) rfl ?_
  have hu1 := hu i
  refine W.seq ?_
  refine Kk cok tab69 hnt [] [0,3,4,8] (⟨[(0,.v (.string s)),(3,.i n),(4,.i ((i : Nat) : Int)),(8,.b (decide (((i : Nat) : Int) < ((s.size : Nat) : Int))))],[],[999]⟩)
   (True ∧ True ∧ True ∧ (True ∧ True ∧ True) ∧ True)
   ⟨tt,tt,tt,⟨tt,tt,tt⟩,tt⟩ ?_
  refine W.ifP (((i : Nat) : Int) < ((s.size : Nat) : Int)) (.b (decide (((i : Nat) : Int) < ((s.size : Nat) : Int)))) (by kernel_rfl) rfl trivial ?_ ?_
  ·intro h8
   refine W.skip (thenQ_normal ?_)
   refine W.seq ?_
   refine W.block ?_
   refine W.seq ?_
   refine Kk cok tab69 hnt [] [0,3,4,24] (⟨[(0,.v (.string s)),(3,.i n),(4,.i ((i : Nat) : Int)),(24,.b (((decide ((((UInt8.toNat (List.getD s.data.toList i 0)) : Nat) : Int) < (48 : Int))) || (decide ((57 : Int) < (((UInt8.toNat (List.getD s.data.toList i 0)) : Nat) : Int)))) || (decide ((1000 : Int) < n))))],[],[999]⟩)
    ((fun (Z1:Bool)=>((fun (Z2:Bool)=>(True ∧ (True ∧ ((True ∧ (True ∧ ((0 ≤ ((i : Nat) : Int)) ∧ (((i : Nat) : Int) < ((s.size : Nat) : Int))))) ∧ ((True ∧ (True ∧ True)) ∧ (True ∧ (((!Z1) = true → True) ∧ (((!Z1) = true → True) ∧ (((!Z1) = true → ((((!Z1) = true) ∧ True) ∧ ((((!Z1) = true) ∧ True) ∧ ((0 ≤ ((i : Nat) : Int)) ∧ (((i : Nat) : Int) < ((s.size : Nat) : Int)))))) ∧ (((!Z1) = true → ((((!Z1) = true) ∧ True) ∧ (True ∧ True))) ∧ ((True ∧ ((Z1 = true → True) ∧ (Z1 = false → ((!Z1) = true) ∧ True))) ∧ (True ∧ (((!Z2) = true → True) ∧ (((!Z2) = true → ((((!Z2) = true) ∧ True) ∧ (True ∧ True))) ∧ ((True ∧ ((Z2 = true → True) ∧ (Z2 = false → ((!Z2) = true) ∧ True))) ∧ True))))))))))))))) (Z1 || (decide ((57 : Int) < (((UInt8.toNat (List.getD s.data.toList i 0)) : Nat) : Int)))))) (decide ((((UInt8.toNat (List.getD s.data.toList i 0)) : Nat) : Int) < (48 : Int))))
    ⟨tt,tt,⟨tt,tt,(by omega),(by omega)⟩,⟨tt,tt,tt⟩,tt,(fun _ => trivial),(fun _ => trivial),(fun hG => ⟨⟨hG,tt⟩,⟨hG,tt⟩,(by have hg0 : ¬ ((((UInt8.toNat (List.getD s.data.toList i 0)) : Nat) : Int) < (48 : Int)) := of_decide_eq_false (not_f hG); omega),(by have hg0 : ¬ ((((UInt8.toNat (List.getD s.data.toList i 0)) : Nat) : Int) < (48 : Int)) := of_decide_eq_false (not_f hG); omega)⟩),(fun hG => ⟨⟨hG,tt⟩,tt,tt⟩),⟨tt,(fun _ => trivial),(fun hp => ⟨(not_t hp),tt⟩)⟩,tt,(fun _ => trivial),(fun hG => ⟨⟨hG,tt⟩,tt,tt⟩),⟨tt,(fun _ => trivial),(fun hp => ⟨(not_t hp),tt⟩)⟩,tt⟩ ?_
   refine W.if' (((decide ((((UInt8.toNat (List.getD s.data.toList i 0)) : Nat) : Int) < (48 : Int))) || (decide ((57 : Int) < (((UInt8.toNat (List.getD s.data.toList i 0)) : Nat) : Int)))) || (decide ((1000 : Int) < n))) (.b (((decide ((((UInt8.toNat (List.getD s.data.toList i 0)) : Nat) : Int) < (48 : Int))) || (decide ((57 : Int) < (((UInt8.toNat (List.getD s.data.toList i 0)) : Nat) : Int)))) || (decide ((1000 : Int) < n)))) (by kernel_rfl) rfl trivial ?_ ?_
   ·intro h24
    refine Kk cok tab69 hnt [] [2] (⟨[(2,.i (-2 : Int))],[],[999]⟩)
     (True ∧ True)
     ⟨tt,tt⟩ ?_
    refine W.ret (thenQ_ret (blockQ_ret (thenQ_ret (thenQ_ret (blockQ_ret (thenQ_ret ?_))))))
    exact endQ_ret (.i (-2 : Int)) (by kernel_rfl) (@cast ((.int .i64 (-2 : Int) : Value) = .int .i64 (readNum s.data.toList)) _ (by kernel_rfl) (congrArg (Value.int .i64) (by exact rn_bad (by rw [← sz]; omega) hn.1 h24 hr)))
   ·intro n24
    have n24_0 : ¬ ((((UInt8.toNat (List.getD s.data.toList i 0)) : Nat) : Int) < (48 : Int)) := of_decide_eq_false (or_l (or_l n24))
    have n24_1 : ¬ ((57 : Int) < (((UInt8.toNat (List.getD s.data.toList i 0)) : Nat) : Int)) := of_decide_eq_false (or_r (or_l n24))
    have n24_2 : ¬ ((1000 : Int) < n) := of_decide_eq_false (or_r n24)
    have h9 := rn_small n24
    refine W.skip (thenQ_normal ?_)
    refine Lk cok tab69 hnt [] (⟨[(0,.v (.string s)),(3,.i (((10 : Int) * n) + ((((UInt8.toNat (List.getD s.data.toList i 0)) : Nat) : Int) - (48 : Int)))),(4,.i ((i : Nat) : Int)),(24,.b (((decide ((((UInt8.toNat (List.getD s.data.toList i 0)) : Nat) : Int) < (48 : Int))) || (decide ((57 : Int) < (((UInt8.toNat (List.getD s.data.toList i 0)) : Nat) : Int)))) || (decide ((1000 : Int) < n)))),(25,.i n),(26,.i ((10 : Int) * n)),(27,.v (.string s)),(28,.i ((i : Nat) : Int)),(29,.v (.int .u8 (((UInt8.toNat (List.getD s.data.toList i 0)) : Nat) : Int))),(30,.v (.int .u8 ((((UInt8.toNat (List.getD s.data.toList i 0)) : Nat) : Int) - (48 : Int)))),(31,.i ((((UInt8.toNat (List.getD s.data.toList i 0)) : Nat) : Int) - (48 : Int))),(32,.i (((10 : Int) * n) + ((((UInt8.toNat (List.getD s.data.toList i 0)) : Nat) : Int) - (48 : Int))))],[],[999]⟩)
     (True ∧ (True ∧ True ∧ (Fits .i64 ((10 : Int) * n))) ∧ True ∧ True ∧ (True ∧ True ∧ (0 ≤ ((i : Nat) : Int)) ∧ (((i : Nat) : Int) < ((s.size : Nat) : Int))) ∧ (True ∧ True ∧ (Fits .u8 ((((UInt8.toNat (List.getD s.data.toList i 0)) : Nat) : Int) - (48 : Int)))) ∧ (True ∧ (Fits .i64 ((((UInt8.toNat (List.getD s.data.toList i 0)) : Nat) : Int) - (48 : Int)))) ∧ (True ∧ True ∧ (Fits .i64 (((10 : Int) * n) + ((((UInt8.toNat (List.getD s.data.toList i 0)) : Nat) : Int) - (48 : Int))))) ∧ True ∧ True)
     ⟨tt,⟨tt,tt,(by exact fits_i64 (by omega) (by omega))⟩,tt,tt,⟨tt,tt,(by omega),(by omega)⟩,⟨tt,tt,(by exact fits_u8 (by omega) (by omega))⟩,⟨tt,(by exact fits_i64 (by omega) (by omega))⟩,⟨tt,tt,(by exact fits_i64 (by omega) (by omega))⟩,tt,tt⟩ ?_
    refine blockQ_normal (thenQ_normal ?_)
    refine Lk cok tab69 hnt [] (⟨[(0,.v (.string s)),(3,.i (((10 : Int) * n) + ((((UInt8.toNat (List.getD s.data.toList i 0)) : Nat) : Int) - (48 : Int)))),(4,.i (((i + 1) : Nat) : Int)),(9,.i ((i : Nat) : Int)),(10,.i (((i + 1) : Nat) : Int)),(24,.b (((decide ((((UInt8.toNat (List.getD s.data.toList i 0)) : Nat) : Int) < (48 : Int))) || (decide ((57 : Int) < (((UInt8.toNat (List.getD s.data.toList i 0)) : Nat) : Int)))) || (decide ((1000 : Int) < n)))),(25,.i n),(26,.i ((10 : Int) * n)),(27,.v (.string s)),(28,.i ((i : Nat) : Int)),(29,.v (.int .u8 (((UInt8.toNat (List.getD s.data.toList i 0)) : Nat) : Int))),(30,.v (.int .u8 ((((UInt8.toNat (List.getD s.data.toList i 0)) : Nat) : Int) - (48 : Int)))),(31,.i ((((UInt8.toNat (List.getD s.data.toList i 0)) : Nat) : Int) - (48 : Int))),(32,.i (((10 : Int) * n) + ((((UInt8.toNat (List.getD s.data.toList i 0)) : Nat) : Int) - (48 : Int))))],[],[999]⟩)
     (True ∧ (True ∧ True ∧ (Fits .i64 (((i + 1) : Nat) : Int))) ∧ True ∧ True)
     ⟨tt,⟨tt,tt,(by exact fits_i64 (by omega) (by omega))⟩,tt,tt⟩ ?_
    refine thenQ_normal ?_
    refine ⟨((i + 1),(((10 : Int) * n) + ((((UInt8.toNat (List.getD s.data.toList i 0)) : Nat) : Int) - (48 : Int)))),(show ((i + 1) ≤ s.size) ∧ (0 ≤ (((10 : Int) * n) + ((((UInt8.toNat (List.getD s.data.toList i 0)) : Nat) : Int) - (48 : Int))) ∧ (((10 : Int) * n) + ((((UInt8.toNat (List.getD s.data.toList i 0)) : Nat) : Int) - (48 : Int))) ≤ 100000) ∧ (rnLoop s.data.toList 0 = rnLoop (s.data.toList.drop (i + 1)) (((10 : Int) * n) + ((((UInt8.toNat (List.getD s.data.toList i 0)) : Nat) : Int) - (48 : Int))).toNat) from ⟨(by first | assumption | omega | rfl | (intro _ hjj; omega) | (simp; done) | (simp; omega)),(by have h9 := rn_small n24; omega),(by exact rn_step (by rw [← sz]; omega) hn.1 n24 hr)⟩),(show s.size - (i + 1) < s.size - i from (by first | omega | (simp_all; omega))),?_⟩
    exact Sub.of [] (@cast (((((.string s) : Value) = (.string s)) ∧ (Si (((10 : Int) * n) + ((((UInt8.toNat (List.getD s.data.toList i 0)) : Nat) : Int) - (48 : Int)))) ∧ (Si (((i + 1) : Nat) : Int)) ∧ True) ∧ True ∧ (true = true) ∧ (true = true)) _ (by kernel_rfl) ⟨⟨rfl,rfl,rfl,tt⟩,tt,rfl,rfl⟩)
  ·intro n8
   refine W.exit (thenQ_exit (thenQ_exit (blockQ_hit ?_)))
   refine thenQ_normal ?_
   refine W.seq ?_
   refine Kk cok tab69 hnt [] [3,40] (⟨[(3,.i n),(40,.b ((eqS s nEmpty) || (!(eqS (numB n) s))))],[],[999]⟩)
    ((fun (Z1:Bool)=>(True ∧ ((True ∧ (True ∧ True)) ∧ (True ∧ (((!Z1) = true → True) ∧ (((!Z1) = true → (True ∧ (((((!Z1) = true) ∧ True) ∧ True) ∧ (-1000000 ≤ n ∧ n ≤ 1000000)))) ∧ (((!Z1) = true → True) ∧ (((!Z1) = true → ((((!Z1) = true) ∧ True) ∧ ((((!Z1) = true) ∧ True) ∧ True))) ∧ ((True ∧ ((Z1 = true → True) ∧ (Z1 = false → ((!Z1) = true) ∧ True))) ∧ True))))))))) (eqS s nEmpty))
    ⟨tt,⟨tt,tt,tt⟩,tt,(fun _ => trivial),(fun hG => ⟨tt,⟨⟨hG,tt⟩,tt⟩,(by omega)⟩),(fun _ => trivial),(fun hG => ⟨⟨hG,tt⟩,⟨hG,tt⟩,tt⟩),⟨tt,(fun _ => trivial),(fun hp => ⟨(not_t hp),tt⟩)⟩,tt⟩ ?_
   refine W.if' ((eqS s nEmpty) || (!(eqS (numB n) s))) (.b ((eqS s nEmpty) || (!(eqS (numB n) s)))) (by kernel_rfl) rfl trivial ?_ ?_
   ·intro h40
    refine Kk cok tab69 hnt [] [2] (⟨[(2,.i (-2 : Int))],[],[999]⟩)
     (True ∧ True)
     ⟨tt,tt⟩ ?_
    refine W.ret (thenQ_ret ?_)
    exact endQ_ret (.i (-2 : Int)) (by kernel_rfl) (@cast ((.int .i64 (-2 : Int) : Value) = .int .i64 (readNum s.data.toList)) _ (by kernel_rfl) (congrArg (Value.int .i64) (by rw [rn_end (by omega) hn.1 hr h40]; rfl)))
   ·intro n40
    refine W.skip (thenQ_normal ?_)
    refine Kk cok tab69 hnt [] [2] (⟨[(2,.i n)],[],[999]⟩)
     (True ∧ True ∧ True)
     ⟨tt,tt,tt⟩ ?_
    refine W.ret ?_
    exact endQ_ret (.i n) (by kernel_rfl) (@cast ((.int .i64 n : Value) = .int .i64 (readNum s.data.toList)) _ (by kernel_rfl) (congrArg (Value.int .i64) (by rw [rn_end (by omega) hn.1 hr n40]; rfl)))
theorem ent69 : Entr prog 69 := ⟨_,func69,rfl,by decide⟩
end Go.Proofs.Tryd
