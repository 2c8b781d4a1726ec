import Derived.Test.YtfoifegcfbglpaaQF5S0
import Derived.Test.YtfoifegcfbglpaaQF5S8
import Derived.Test.YtfoifegcfbglpaaQF5S4
import Derived.Test.YtfoifegcfbglpaaQF5S9
import Derived.Test.YtfoifegcfbglpaaQF5S11
import Derived.Test.YtfoifegcfbglpaaQF5S7
import Derived.Test.YtfoifegcfbglpaaQF5S1
import Derived.Test.YtfoifegcfbglpaaQF5S3
import Derived.Test.YtfoifegcfbglpaaQF5S5
set_option linter.unusedSimpArgs false
set_option linter.unusedVariables false
namespace Go.Proofs.Try
open Go.Ab Go.RowKit
def pre25 : List AV → List AV → Prop := preP [.copy] [.bytes,.int] (fun (c,_) (l,p,_) => (0 ≤ p ∧ p ≤ 900000) ∧ (validCopy c = true))
def rel25 : RelS := relP [.copy] [.bytes,.int] (ι := CopyD × Int) (fun (c,_) (l,p,_) (g,q) => (smallK g) ∧ (p ≤ q ∧ q ≤ p + 10)) (fun (c,_) (l,p,_) (g,q) => (.agg (cC g),[],[.sl (.bytes l),.i q]))
abbrev T25 : Tab := lk [(23,fs23x),(33,fs33),(42,fs42x)]
theorem tab25 : TabOK prog T25 := (TabOK.cons ok23x ent23x (TabOK.cons ok33 ent33 (TabOK.cons ok42x ent42x TabOK.nil)))
set_option maxRecDepth 100000 in
set_option maxHeartbeats 1000000 in
theorem rok25 : RelOK prog 25 (some 70) [.a [some .ints,some .ints,none,none,none,some .marks]] pre25 rel25 := by
 refine RelOK.mk cok func25 rfl rfl rfl ?_
 rintro ⟨(c : CopyD),_⟩ ⟨(l : List UInt8),(p : Int),_⟩ hpre F hnt0
 have hnt : F.nt = 46 := hnt0.trans ntmps25
 replace hpre : (0 ≤ p ∧ p ≤ 900000) ∧ (validCopy c = true) := hpre
 obtain ⟨hp,hv⟩ := hpre
 refine W.to (⟨[(0,.ptr 998 0),(1,.agg (cC c))],[(998,⟨70,.fix [.sl (.bytes l),.i p]⟩)],[998,999]⟩) rfl ?_
 have hf := up_len hv
 refine Kk cok tab25 hnt [] [0,3,4] (⟨[(0,.ptr 998 0),(3,.ptr 3 0),(4,.ptr 4 0)],[(3,⟨26,.fix (cC c)⟩),(4,⟨26,.fix [.v (.slice none 0 0),.v (.slice none 0 0),.i (0 : Int),.i (0 : Int),.i (0 : Int),.v (.slice none 0 0)]⟩),(998,⟨70,.fix [.sl (.bytes l),.i p]⟩)],[4,3,998,999]⟩)
  (True ∧ True ∧ True)
  ⟨tt,tt,tt⟩ ?_
 refine W.seq ?_
 refine Kk cok tab25 hnt [] [0,3,4,8] (⟨[(0,.ptr 998 0),(3,.ptr 3 0),(4,.ptr 4 0),(8,.b (decide ((0 : Int) < (pickV l p (12 : Int)))))],[(3,⟨26,.fix (cC c)⟩),(4,⟨26,.fix [.v (.slice none 0 0),.v (.slice none 0 0),.i (0 : Int),.i (0 : Int),.i (0 : Int),.v (.slice none 0 0)]⟩),(998,⟨70,.fix [.sl (.bytes l),.i (p + 1)]⟩)],[7,4,3,998,999]⟩)
  (True ∧ (True ∧ True ∧ (True ∧ True) ∧ 0 ≤ p ∧ p ≤ 1000000) ∧ (True ∧ True ∧ True) ∧ True)
  ⟨tt,⟨tt,tt,⟨tt,tt⟩,(by omega)⟩,⟨tt,tt,tt⟩,tt⟩ ?_
 refine W.ifP ((0 : Int) < (pickV l p (12 : Int))) (.b (decide ((0 : Int) < (pickV l p (12 : Int))))) (by kernel_rfl) rfl trivial ?_ ?_
 ·intro h8
  refine Kk cok tab25 hnt [] [4] (⟨[(4,.ptr 4 0)],[(3,⟨26,.fix (cC c)⟩),(4,⟨26,.fix (cC c)⟩),(998,⟨70,.fix [.sl (.bytes l),.i (p + 1)]⟩)],[7,4,3,998,999]⟩)
   (True ∧ (True ∧ True) ∧ True)
   ⟨tt,⟨tt,tt⟩,tt⟩ ?_
  refine W.ret (thenQ_ret ?_)
  exact endP_ret (c,(p + 1)) (show (smallK c) ∧ (p ≤ (p + 1) ∧ (p + 1) ≤ p + 10) from ⟨(by first | (unfold smallK; omega) | (unfold smallK; simp; omega)),(by first | assumption | omega | rfl | (simp; done) | (simp; omega))⟩) [(0,998)] (.agg (cC c)) (by kernel_rfl) (@cast ((Sc c) ∧ ((((70 : Nat) = 70) ∧ ((Sd (.bytes l)) ∧ (Si (p + 1)) ∧ True) ∧ ((0 : Nat) ∈ ([0] : List Nat))) ∧ True) ∧ (true = true) ∧ ((([] : List Nat) = []) ∧ True) ∧ (true = true → (998 : Nat) = 998)) _ (by kernel_rfl) ⟨⟨rfl,rfl,rfl,rfl,rfl,rfl,tt⟩,⟨⟨rfl,⟨rfl,rfl,tt⟩,(by decide)⟩,tt⟩,rfl,⟨rfl,tt⟩,(fun _ => rfl)⟩)
 ·intro n8
  refine W.skip (thenQ_normal ?_)
  refine Kk cok tab25 hnt [] [0,4,5] (⟨[(0,.ptr 998 0),(4,.ptr 4 0),(5,.ptr 5 0)],[(3,⟨26,.fix (cC c)⟩),(4,⟨26,.fix [.v (.slice none 0 0),.v (.slice none 0 0),.i (0 : Int),.i (0 : Int),.i (0 : Int),.v (.slice none 0 0)]⟩),(5,⟨26,.fix [.own 11 (List.length c.up),.own 1011 (List.length c.down),.i c.value,.i c.time,.i c.proc,.own 2011 (List.length c.marks)]⟩),(11,⟨3,.row (.ints c.up)⟩),(998,⟨70,.fix [.sl (.bytes l),.i (p + 1)]⟩),(1011,⟨3,.row (.ints c.down)⟩),(2011,⟨33,.row (.marks c.marks)⟩)],[5,2011,1011,11,7,4,3,998,999]⟩)
   (True ∧ (True ∧ ((True ∧ True ∧ True ∧ True ∧ True ∧ True ∧ True ∧ True) ∧ True) ∧ c.up.length ≤ 1000 ∧ c.down.length ≤ 1000 ∧ c.marks.length ≤ 1000) ∧ True ∧ (True ∧ True) ∧ True)
   ⟨tt,⟨tt,⟨⟨tt,tt,tt,tt,tt,tt,tt,tt⟩,tt⟩,(by omega)⟩,tt,⟨tt,tt⟩,tt⟩ ?_
  refine W.seq ?_
  refine Kk cok tab25 hnt [] [0,4,5,13] (⟨[(0,.ptr 998 0),(4,.ptr 4 0),(5,.ptr 5 0),(13,.i (pickV l (p + 1) (5 : Int)))],[(3,⟨26,.fix (cC c)⟩),(4,⟨26,.fix [.v (.slice none 0 0),.v (.slice none 0 0),.i (0 : Int),.i (0 : Int),.i (0 : Int),.v (.slice none 0 0)]⟩),(5,⟨26,.fix [.own 11 (List.length c.up),.own 1011 (List.length c.down),.i c.value,.i c.time,.i c.proc,.own 2011 (List.length c.marks)]⟩),(11,⟨3,.row (.ints c.up)⟩),(998,⟨70,.fix [.sl (.bytes l),.i ((p + 1) + 1)]⟩),(1011,⟨3,.row (.ints c.down)⟩),(2011,⟨33,.row (.marks c.marks)⟩)],[13,5,2011,1011,11,7,4,3,998,999]⟩)
   (True ∧ (True ∧ True ∧ (True ∧ True) ∧ 0 ≤ (p + 1) ∧ (p + 1) ≤ 1000000) ∧ True)
   ⟨tt,⟨tt,tt,⟨tt,tt⟩,(by omega)⟩,tt⟩ ?_
  refine W.block ?_
  refine Kk cok tab25 hnt [] [0,4,5,13,15] (⟨[(0,.ptr 998 0),(4,.ptr 4 0),(5,.ptr 5 0),(13,.i (pickV l (p + 1) (5 : Int))),(15,.b (decide ((pickV l (p + 1) (5 : Int)) = (0 : Int))))],[(3,⟨26,.fix (cC c)⟩),(4,⟨26,.fix [.v (.slice none 0 0),.v (.slice none 0 0),.i (0 : Int),.i (0 : Int),.i (0 : Int),.v (.slice none 0 0)]⟩),(5,⟨26,.fix [.own 11 (List.length c.up),.own 1011 (List.length c.down),.i c.value,.i c.time,.i c.proc,.own 2011 (List.length c.marks)]⟩),(11,⟨3,.row (.ints c.up)⟩),(998,⟨70,.fix [.sl (.bytes l),.i ((p + 1) + 1)]⟩),(1011,⟨3,.row (.ints c.down)⟩),(2011,⟨33,.row (.marks c.marks)⟩)],[13,5,2011,1011,11,7,4,3,998,999]⟩)
   ((True ∧ True ∧ True) ∧ True ∧ True)
   ⟨⟨tt,tt,tt⟩,tt,tt⟩ ?_
  refine W.ifP ((pickV l (p + 1) (5 : Int)) = (0 : Int)) (.b (decide ((pickV l (p + 1) (5 : Int)) = (0 : Int)))) (by kernel_rfl) rfl trivial ?_ ?_
  ·intro h15
   refine W.LA cok tab25 hnt [] (⟨[(0,.ptr 998 0),(4,.ptr 4 0),(5,.ptr 5 0),(13,.i (pickV l (p + 1) (5 : Int))),(15,.b (decide ((pickV l (p + 1) (5 : Int)) = (0 : Int)))),(17,.ptr 5 0),(18,.own 11 (List.length c.up)),(19,.ptr 998 0),(20,.i (pickV l ((p + 1) + 1) (3 : Int))),(21,.ptr 998 0),(22,.sl (.ints ([(-1 : Int),(21 : Int)]))),(23,.i (oneV l (((p + 1) + 1) + 1) ([(-1 : Int),(21 : Int)]))),(24,.pel 11 1 (Int.toNat (pickV l ((p + 1) + 1) (3 : Int))) 0)],[(3,⟨26,.fix (cC c)⟩),(4,⟨26,.fix [.v (.slice none 0 0),.v (.slice none 0 0),.i (0 : Int),.i (0 : Int),.i (0 : Int),.v (.slice none 0 0)]⟩),(5,⟨26,.fix [.own 11 (List.length c.up),.own 1011 (List.length c.down),.i c.value,.i c.time,.i c.proc,.own 2011 (List.length c.marks)]⟩),(11,⟨3,.row (.ints (List.set c.up (Int.toNat (pickV l ((p + 1) + 1) (3 : Int))) (oneV l (((p + 1) + 1) + 1) ([(-1 : Int),(21 : Int)]))))⟩),(998,⟨70,.fix [.sl (.bytes l),.i ((((p + 1) + 1) + 1) + 1)]⟩),(1011,⟨3,.row (.ints c.down)⟩),(2011,⟨33,.row (.marks c.marks)⟩)],[23,22,20,13,5,2011,1011,11,7,4,3,998,999]⟩)
    (True ∧ True ∧ True ∧ (True ∧ True ∧ (True ∧ True) ∧ 0 ≤ ((p + 1) + 1) ∧ ((p + 1) + 1) ≤ 1000000) ∧ True ∧ (True ∧ True ∧ True) ∧ (True ∧ True ∧ (True ∧ True) ∧ (0 ≤ (((p + 1) + 1) + 1) ∧ (((p + 1) + 1) + 1) ≤ 1000000) ∧ (0 < ([(-1 : Int),(21 : Int)]).length) ∧ (([(-1 : Int),(21 : Int)]).length ≤ 1000)) ∧ (True ∧ True ∧ (0 ≤ (pickV l ((p + 1) + 1) (3 : Int))) ∧ ((pickV l ((p + 1) + 1) (3 : Int)) < (((List.length c.up) : Nat) : Int))) ∧ (True ∧ True ∧ ((Int.toNat (pickV l ((p + 1) + 1) (3 : Int))) < (List.length c.up))) ∧ True) (by kernel_rfl) (by kernel_rfl)
    ⟨tt,tt,tt,⟨tt,tt,⟨tt,tt⟩,(by omega)⟩,tt,⟨tt,tt,tt⟩,⟨tt,tt,⟨tt,tt⟩,(by omega),(by (first | omega | (simp only [List.length_set]; done) | (simp only [List.length_append,List.length_cons,List.length_nil,List.length_take,List.length_drop,List.length_set,List.length_replicate,List.length_map] at *; omega) | assumption)),(by (first | omega | (simp only [List.length_set]; done) | (simp only [List.length_append,List.length_cons,List.length_nil,List.length_take,List.length_drop,List.length_set,List.length_replicate,List.length_map] at *; omega) | assumption))⟩,⟨tt,tt,(by have h9 := pickV_bnd (l := l) (p := p + 1 + 1) (n := 3) (by omega); omega),(by have h9 := pickV_bnd (l := l) (p := p + 1 + 1) (n := 3) (by omega); omega)⟩,⟨tt,tt,(by have h9 := pickV_bnd (l := l) (p := p + 1 + 1) (n := 3) (by omega); omega)⟩,tt⟩ ?_
   refine blockQ_normal (thenQ_normal ?_)
   refine Kk cok tab25 hnt [] [4] (⟨[(4,.ptr 4 0)],[(3,⟨26,.fix (cC c)⟩),(4,⟨26,.fix [.own 11 (List.length c.up),.own 1011 (List.length c.down),.i c.value,.i c.time,.i c.proc,.own 2011 (List.length c.marks)]⟩),(5,⟨26,.fix [.own 11 (List.length c.up),.own 1011 (List.length c.down),.i c.value,.i c.time,.i c.proc,.own 2011 (List.length c.marks)]⟩),(11,⟨3,.row (.ints (List.set c.up (Int.toNat (pickV l ((p + 1) + 1) (3 : Int))) (oneV l (((p + 1) + 1) + 1) ([(-1 : Int),(21 : Int)]))))⟩),(998,⟨70,.fix [.sl (.bytes l),.i ((((p + 1) + 1) + 1) + 1)]⟩),(1011,⟨3,.row (.ints c.down)⟩),(2011,⟨33,.row (.marks c.marks)⟩)],[23,22,20,13,5,2011,1011,11,7,4,3,998,999]⟩)
    (True ∧ (True ∧ True) ∧ True)
    ⟨tt,⟨tt,tt⟩,tt⟩ ?_
   refine W.ret ?_
   exact endP_ret ((⟨List.set c.up (Int.toNat (pickV l ((p + 1) + 1) (3 : Int))) (oneV l (((p + 1) + 1) + 1) ([(-1 : Int),(21 : Int)])),c.down,c.value,c.time,c.proc,c.marks⟩ : CopyD),((((p + 1) + 1) + 1) + 1)) (show (smallK (⟨List.set c.up (Int.toNat (pickV l ((p + 1) + 1) (3 : Int))) (oneV l (((p + 1) + 1) + 1) ([(-1 : Int),(21 : Int)])),c.down,c.value,c.time,c.proc,c.marks⟩ : CopyD)) ∧ (p ≤ ((((p + 1) + 1) + 1) + 1) ∧ ((((p + 1) + 1) + 1) + 1) ≤ p + 10) from ⟨(by first | (unfold smallK; omega) | (unfold smallK; simp; omega)),(by first | assumption | omega | rfl | (simp; done) | (simp; omega))⟩) [(0,998)] (.agg [.own 11 (List.length c.up),.own 1011 (List.length c.down),.i c.value,.i c.time,.i c.proc,.own 2011 (List.length c.marks)]) (by kernel_rfl) (@cast (((((List.length c.up) = (List.length (List.set c.up (Int.toNat (pickV l ((p + 1) + 1) (3 : Int))) (oneV l (((p + 1) + 1) + 1) ([(-1 : Int),(21 : Int)]))))) ∧ ((.ints (List.set c.up (Int.toNat (pickV l ((p + 1) + 1) (3 : Int))) (oneV l (((p + 1) + 1) + 1) ([(-1 : Int),(21 : Int)]))) : Dat) = .ints ((⟨List.set c.up (Int.toNat (pickV l ((p + 1) + 1) (3 : Int))) (oneV l (((p + 1) + 1) + 1) ([(-1 : Int),(21 : Int)])),c.down,c.value,c.time,c.proc,c.marks⟩ : CopyD).up)) ∧ ((11 : Nat) ∉ ([998] : List Nat))) ∧ (((List.length c.down) = (List.length c.down)) ∧ ((.ints c.down : Dat) = .ints ((⟨List.set c.up (Int.toNat (pickV l ((p + 1) + 1) (3 : Int))) (oneV l (((p + 1) + 1) + 1) ([(-1 : Int),(21 : Int)])),c.down,c.value,c.time,c.proc,c.marks⟩ : CopyD).down)) ∧ ((1011 : Nat) ∉ ([998] : List Nat))) ∧ ((.int .i64 c.value : Value) = .int .i64 ((⟨List.set c.up (Int.toNat (pickV l ((p + 1) + 1) (3 : Int))) (oneV l (((p + 1) + 1) + 1) ([(-1 : Int),(21 : Int)])),c.down,c.value,c.time,c.proc,c.marks⟩ : CopyD).value)) ∧ ((.int .i64 c.time : Value) = .int .i64 ((⟨List.set c.up (Int.toNat (pickV l ((p + 1) + 1) (3 : Int))) (oneV l (((p + 1) + 1) + 1) ([(-1 : Int),(21 : Int)])),c.down,c.value,c.time,c.proc,c.marks⟩ : CopyD).time)) ∧ ((.int .i64 c.proc : Value) = .int .i64 ((⟨List.set c.up (Int.toNat (pickV l ((p + 1) + 1) (3 : Int))) (oneV l (((p + 1) + 1) + 1) ([(-1 : Int),(21 : Int)])),c.down,c.value,c.time,c.proc,c.marks⟩ : CopyD).proc)) ∧ (((List.length c.marks) = (List.length c.marks)) ∧ ((.marks c.marks : Dat) = .marks ((⟨List.set c.up (Int.toNat (pickV l ((p + 1) + 1) (3 : Int))) (oneV l (((p + 1) + 1) + 1) ([(-1 : Int),(21 : Int)])),c.down,c.value,c.time,c.proc,c.marks⟩ : CopyD).marks)) ∧ ((2011 : Nat) ∉ ([998] : List Nat))) ∧ True) ∧ ((((70 : Nat) = 70) ∧ ((Sd (.bytes l)) ∧ (Si ((((p + 1) + 1) + 1) + 1)) ∧ True) ∧ ((0 : Nat) ∈ ([0] : List Nat))) ∧ True) ∧ (true = true) ∧ ((([] : List Nat) = []) ∧ True) ∧ (true = true → (998 : Nat) = 998)) _ (by kernel_rfl) ⟨⟨⟨(by first | rfl | omega | assumption | (symm; assumption) | simp | simp_all),(congrArg Dat.ints (by first | rfl | omega | assumption | (symm; assumption) | simp | simp_all)),(by decide)⟩,⟨rfl,(congrArg Dat.ints (by first | rfl | omega | assumption | (symm; assumption) | simp | simp_all)),(by decide)⟩,(congrArg (Value.int .i64) (by first | rfl | omega | assumption | simp | simp_all)),(congrArg (Value.int .i64) (by first | rfl | omega | assumption | simp | simp_all)),(congrArg (Value.int .i64) (by first | rfl | omega | assumption | simp | simp_all)),⟨rfl,(congrArg Dat.marks (by first | rfl | omega | assumption | (symm; assumption) | simp | simp_all)),(by decide)⟩,tt⟩,⟨⟨rfl,⟨rfl,rfl,tt⟩,(by decide)⟩,tt⟩,rfl,⟨rfl,tt⟩,(fun _ => rfl)⟩)
  ·intro n15
   refine Kk cok tab25 hnt [] [0,4,5,13,25] (⟨[(0,.ptr 998 0),(4,.ptr 4 0),(5,.ptr 5 0),(13,.i (pickV l (p + 1) (5 : Int))),(25,.b (decide ((pickV l (p + 1) (5 : Int)) = (1 : Int))))],[(3,⟨26,.fix (cC c)⟩),(4,⟨26,.fix [.v (.slice none 0 0),.v (.slice none 0 0),.i (0 : Int),.i (0 : Int),.i (0 : Int),.v (.slice none 0 0)]⟩),(5,⟨26,.fix [.own 11 (List.length c.up),.own 1011 (List.length c.down),.i c.value,.i c.time,.i c.proc,.own 2011 (List.length c.marks)]⟩),(11,⟨3,.row (.ints c.up)⟩),(998,⟨70,.fix [.sl (.bytes l),.i ((p + 1) + 1)]⟩),(1011,⟨3,.row (.ints c.down)⟩),(2011,⟨33,.row (.marks c.marks)⟩)],[13,5,2011,1011,11,7,4,3,998,999]⟩)
    ((True ∧ True ∧ True) ∧ True ∧ True)
    ⟨⟨tt,tt,tt⟩,tt,tt⟩ ?_
   refine W.ifP ((pickV l (p + 1) (5 : Int)) = (1 : Int)) (.b (decide ((pickV l (p + 1) (5 : Int)) = (1 : Int)))) (by kernel_rfl) rfl trivial ?_ ?_
   ·intro h25
    refine W.subS [] (⟨[(0,.ptr 998 0),(4,.ptr 4 0),(5,.ptr 5 0),(13,.i (pickV l (p + 1) (5 : Int))),(25,.b (decide ((pickV l (p + 1) (5 : Int)) = (1 : Int))))],[(3,⟨26,.fix (cC c)⟩),(4,⟨26,.fix [.v (.slice none 0 0),.v (.slice none 0 0),.i (0 : Int),.i (0 : Int),.i (0 : Int),.v (.slice none 0 0)]⟩),(5,⟨26,.fix [.own 11 (List.length c.up),.sl (.ints c.down),.i c.value,.i c.time,.i c.proc,.own 2011 (List.length c.marks)]⟩),(11,⟨3,.row (.ints c.up)⟩),(998,⟨70,.fix [.sl (.bytes l),.i ((p + 1) + 1)]⟩),(2011,⟨33,.row (.marks c.marks)⟩)],[3,4,5,11,998,999,2011]⟩) (@cast (((((998 : Nat) = 998) ∧ ((0 : Nat) = 0) ∧ ((998 : Nat) ∈ ([3,4,5,11,998,999,2011] : List Nat))) ∧ (((4 : Nat) = 4) ∧ ((0 : Nat) = 0) ∧ ((4 : Nat) ∈ ([3,4,5,11,998,999,2011] : List Nat))) ∧ (((5 : Nat) = 5) ∧ ((0 : Nat) = 0) ∧ ((5 : Nat) ∈ ([3,4,5,11,998,999,2011] : List Nat))) ∧ (Si (pickV l (p + 1) (5 : Int))) ∧ (Sv (.bool (decide ((pickV l (p + 1) (5 : Int)) = (1 : Int))))) ∧ True) ∧ ((((26 : Nat) = 26) ∧ (Sc c) ∧ ((3 : Nat) ∈ ([3,4,5,11,998,999,2011] : List Nat))) ∧ (((26 : Nat) = 26) ∧ ((((.slice none 0 0) : Value) = (.slice none 0 0)) ∧ (((.slice none 0 0) : Value) = (.slice none 0 0)) ∧ (Si (0 : Int)) ∧ (Si (0 : Int)) ∧ (Si (0 : Int)) ∧ (((.slice none 0 0) : Value) = (.slice none 0 0)) ∧ True) ∧ ((4 : Nat) ∈ ([3,4,5,11,998,999,2011] : List Nat))) ∧ (((26 : Nat) = 26) ∧ ((((11 : Nat) = 11) ∧ ((List.length c.up) = (List.length c.up)) ∧ ((11 : Nat) ∈ ([3,4,5,11,998,999,2011] : List Nat))) ∧ (((List.length c.down) = (List.length c.down)) ∧ (Sd (.ints c.down)) ∧ ((1011 : Nat) ∉ ([3,4,5,11,998,2011] : List Nat))) ∧ (Si c.value) ∧ (Si c.time) ∧ (Si c.proc) ∧ (((2011 : Nat) = 2011) ∧ ((List.length c.marks) = (List.length c.marks)) ∧ ((2011 : Nat) ∈ ([3,4,5,11,998,999,2011] : List Nat))) ∧ True) ∧ ((5 : Nat) ∈ ([3,4,5,11,998,999,2011] : List Nat))) ∧ (((3 : Nat) = 3) ∧ (Sd (.ints c.up)) ∧ ((11 : Nat) ∈ ([3,4,5,11,998,999,2011] : List Nat))) ∧ (((70 : Nat) = 70) ∧ ((Sd (.bytes l)) ∧ (Si ((p + 1) + 1)) ∧ True) ∧ ((998 : Nat) ∈ ([3,4,5,11,998,999,2011] : List Nat))) ∧ (((33 : Nat) = 33) ∧ (Sd (.marks c.marks)) ∧ ((2011 : Nat) ∈ ([3,4,5,11,998,999,2011] : List Nat))) ∧ True) ∧ (true = true) ∧ (true = true)) _ (by kernel_rfl) ⟨⟨⟨rfl,rfl,(by decide)⟩,⟨rfl,rfl,(by decide)⟩,⟨rfl,rfl,(by decide)⟩,rfl,rfl,tt⟩,⟨⟨rfl,⟨rfl,rfl,rfl,rfl,rfl,rfl,tt⟩,(by decide)⟩,⟨rfl,⟨rfl,rfl,rfl,rfl,rfl,rfl,tt⟩,(by decide)⟩,⟨rfl,⟨⟨rfl,rfl,(by decide)⟩,⟨rfl,rfl,(by decide)⟩,rfl,rfl,rfl,⟨rfl,rfl,(by decide)⟩,tt⟩,(by decide)⟩,⟨rfl,rfl,(by decide)⟩,⟨rfl,⟨rfl,rfl,tt⟩,(by decide)⟩,⟨rfl,rfl,(by decide)⟩,tt⟩,rfl,rfl⟩) ?_
    refine Lk cok tab25 hnt [] (⟨[(0,.ptr 998 0),(4,.ptr 4 0),(5,.ptr 5 0),(13,.i (pickV l (p + 1) (5 : Int))),(25,.b (decide ((pickV l (p + 1) (5 : Int)) = (1 : Int)))),(27,.ptr 5 1),(28,.sl (.ints c.down)),(29,.sl (.ints (List.drop 1 (List.take (List.length c.down) c.down)))),(30,.ptr 5 1)],[(3,⟨26,.fix (cC c)⟩),(4,⟨26,.fix [.v (.slice none 0 0),.v (.slice none 0 0),.i (0 : Int),.i (0 : Int),.i (0 : Int),.v (.slice none 0 0)]⟩),(5,⟨26,.fix [.own 11 (List.length c.up),.sl (.ints (List.drop 1 (List.take (List.length c.down) c.down))),.i c.value,.i c.time,.i c.proc,.own 2011 (List.length c.marks)]⟩),(11,⟨3,.row (.ints c.up)⟩),(998,⟨70,.fix [.sl (.bytes l),.i ((p + 1) + 1)]⟩),(2011,⟨33,.row (.marks c.marks)⟩)],[3,4,5,11,998,999,2011]⟩)
     (True ∧ True ∧ (True ∧ True ∧ True ∧ (0 ≤ (1 : Int)) ∧ ((1 : Int) ≤ (((List.length c.down) : Nat) : Int)) ∧ ((((List.length c.down) : Nat) : Int) ≤ (((List.length c.down) : Nat) : Int))) ∧ True ∧ (True ∧ True) ∧ True)
     ⟨tt,tt,⟨tt,tt,tt,(by omega),(by omega),(by omega)⟩,tt,⟨tt,tt⟩,tt⟩ ?_
    refine blockQ_normal (thenQ_normal ?_)
    refine Kk cok tab25 hnt [] [4] (⟨[(4,.ptr 4 0)],[(3,⟨26,.fix (cC c)⟩),(4,⟨26,.fix [.own 11 (List.length c.up),.sl (.ints (List.drop 1 (List.take (List.length c.down) c.down))),.i c.value,.i c.time,.i c.proc,.own 2011 (List.length c.marks)]⟩),(5,⟨26,.fix [.own 11 (List.length c.up),.sl (.ints (List.drop 1 (List.take (List.length c.down) c.down))),.i c.value,.i c.time,.i c.proc,.own 2011 (List.length c.marks)]⟩),(11,⟨3,.row (.ints c.up)⟩),(998,⟨70,.fix [.sl (.bytes l),.i ((p + 1) + 1)]⟩),(2011,⟨33,.row (.marks c.marks)⟩)],[3,4,5,11,998,999,2011]⟩)
     (True ∧ (True ∧ True) ∧ True)
     ⟨tt,⟨tt,tt⟩,tt⟩ ?_
    refine W.ret ?_
    exact endP_ret ((⟨c.up,List.drop 1 (List.take (List.length c.down) c.down),c.value,c.time,c.proc,c.marks⟩ : CopyD),((p + 1) + 1)) (show (smallK (⟨c.up,List.drop 1 (List.take (List.length c.down) c.down),c.value,c.time,c.proc,c.marks⟩ : CopyD)) ∧ (p ≤ ((p + 1) + 1) ∧ ((p + 1) + 1) ≤ p + 10) from ⟨(by first | (unfold smallK; omega) | (unfold smallK; simp; omega)),(by first | assumption | omega | rfl | (simp; done) | (simp; omega))⟩) [(0,998)] (.agg [.own 11 (List.length c.up),.sl (.ints (List.drop 1 (List.take (List.length c.down) c.down))),.i c.value,.i c.time,.i c.proc,.own 2011 (List.length c.marks)]) (by kernel_rfl) (@cast (((((List.length c.up) = (List.length c.up)) ∧ ((.ints c.up : Dat) = .ints ((⟨c.up,List.drop 1 (List.take (List.length c.down) c.down),c.value,c.time,c.proc,c.marks⟩ : CopyD).up)) ∧ ((11 : Nat) ∉ ([998] : List Nat))) ∧ ((.ints (List.drop 1 (List.take (List.length c.down) c.down)) : Dat) = .ints ((⟨c.up,List.drop 1 (List.take (List.length c.down) c.down),c.value,c.time,c.proc,c.marks⟩ : CopyD).down)) ∧ ((.int .i64 c.value : Value) = .int .i64 ((⟨c.up,List.drop 1 (List.take (List.length c.down) c.down),c.value,c.time,c.proc,c.marks⟩ : CopyD).value)) ∧ ((.int .i64 c.time : Value) = .int .i64 ((⟨c.up,List.drop 1 (List.take (List.length c.down) c.down),c.value,c.time,c.proc,c.marks⟩ : CopyD).time)) ∧ ((.int .i64 c.proc : Value) = .int .i64 ((⟨c.up,List.drop 1 (List.take (List.length c.down) c.down),c.value,c.time,c.proc,c.marks⟩ : CopyD).proc)) ∧ (((List.length c.marks) = (List.length c.marks)) ∧ ((.marks c.marks : Dat) = .marks ((⟨c.up,List.drop 1 (List.take (List.length c.down) c.down),c.value,c.time,c.proc,c.marks⟩ : CopyD).marks)) ∧ ((2011 : Nat) ∉ ([998] : List Nat))) ∧ True) ∧ ((((70 : Nat) = 70) ∧ ((Sd (.bytes l)) ∧ (Si ((p + 1) + 1)) ∧ True) ∧ ((0 : Nat) ∈ ([0] : List Nat))) ∧ True) ∧ (true = true) ∧ ((([] : List Nat) = []) ∧ True) ∧ (true = true → (998 : Nat) = 998)) _ (by kernel_rfl) ⟨⟨⟨rfl,(congrArg Dat.ints (by first | rfl | omega | assumption | (symm; assumption) | simp | simp_all)),(by decide)⟩,(congrArg Dat.ints (by first | rfl | omega | assumption | (symm; assumption) | simp | simp_all)),(congrArg (Value.int .i64) (by first | rfl | omega | assumption | simp | simp_all)),(congrArg (Value.int .i64) (by first | rfl | omega | assumption | simp | simp_all)),(congrArg (Value.int .i64) (by first | rfl | omega | assumption | simp | simp_all)),⟨rfl,(congrArg Dat.marks (by first | rfl | omega | assumption | (symm; assumption) | simp | simp_all)),(by decide)⟩,tt⟩,⟨⟨rfl,⟨rfl,rfl,tt⟩,(by decide)⟩,tt⟩,rfl,⟨rfl,tt⟩,(fun _ => rfl)⟩)
   ·intro n25
    refine Kk cok tab25 hnt [] [0,4,5,13,31] (⟨[(0,.ptr 998 0),(4,.ptr 4 0),(5,.ptr 5 0),(13,.i (pickV l (p + 1) (5 : Int))),(31,.b (decide ((pickV l (p + 1) (5 : Int)) = (2 : Int))))],[(3,⟨26,.fix (cC c)⟩),(4,⟨26,.fix [.v (.slice none 0 0),.v (.slice none 0 0),.i (0 : Int),.i (0 : Int),.i (0 : Int),.v (.slice none 0 0)]⟩),(5,⟨26,.fix [.own 11 (List.length c.up),.own 1011 (List.length c.down),.i c.value,.i c.time,.i c.proc,.own 2011 (List.length c.marks)]⟩),(11,⟨3,.row (.ints c.up)⟩),(998,⟨70,.fix [.sl (.bytes l),.i ((p + 1) + 1)]⟩),(1011,⟨3,.row (.ints c.down)⟩),(2011,⟨33,.row (.marks c.marks)⟩)],[13,5,2011,1011,11,7,4,3,998,999]⟩)
     ((True ∧ True ∧ True) ∧ True ∧ True)
     ⟨⟨tt,tt,tt⟩,tt,tt⟩ ?_
    refine W.ifP ((pickV l (p + 1) (5 : Int)) = (2 : Int)) (.b (decide ((pickV l (p + 1) (5 : Int)) = (2 : Int)))) (by kernel_rfl) rfl trivial ?_ ?_
    ·intro h31
     refine Kk cok tab25 hnt [] [4,5] (⟨[(4,.ptr 4 0),(5,.ptr 5 0)],[(3,⟨26,.fix (cC c)⟩),(4,⟨26,.fix [.v (.slice none 0 0),.v (.slice none 0 0),.i (0 : Int),.i (0 : Int),.i (0 : Int),.v (.slice none 0 0)]⟩),(5,⟨26,.fix [.own 11 (List.length c.up),.own 1011 (List.length c.down),.i c.value,.i (0 : Int),.i c.proc,.own 2011 (List.length c.marks)]⟩),(11,⟨3,.row (.ints c.up)⟩),(998,⟨70,.fix [.sl (.bytes l),.i ((p + 1) + 1)]⟩),(1011,⟨3,.row (.ints c.down)⟩),(2011,⟨33,.row (.marks c.marks)⟩)],[13,5,2011,1011,11,7,4,3,998,999]⟩)
      (True ∧ (True ∧ True) ∧ True)
      ⟨tt,⟨tt,tt⟩,tt⟩ ?_
     refine Lk cok tab25 hnt [] (⟨[(4,.ptr 4 0),(5,.ptr 5 0),(34,.ptr 5 2)],[(3,⟨26,.fix (cC c)⟩),(4,⟨26,.fix [.v (.slice none 0 0),.v (.slice none 0 0),.i (0 : Int),.i (0 : Int),.i (0 : Int),.v (.slice none 0 0)]⟩),(5,⟨26,.fix [.own 11 (List.length c.up),.own 1011 (List.length c.down),.i (1 : Int),.i (0 : Int),.i c.proc,.own 2011 (List.length c.marks)]⟩),(11,⟨3,.row (.ints c.up)⟩),(998,⟨70,.fix [.sl (.bytes l),.i ((p + 1) + 1)]⟩),(1011,⟨3,.row (.ints c.down)⟩),(2011,⟨33,.row (.marks c.marks)⟩)],[13,5,2011,1011,11,7,4,3,998,999]⟩)
      (True ∧ (True ∧ True) ∧ True)
      ⟨tt,⟨tt,tt⟩,tt⟩ ?_
     refine blockQ_normal (thenQ_normal ?_)
     refine Kk cok tab25 hnt [] [4] (⟨[(4,.ptr 4 0)],[(3,⟨26,.fix (cC c)⟩),(4,⟨26,.fix [.own 11 (List.length c.up),.own 1011 (List.length c.down),.i (1 : Int),.i (0 : Int),.i c.proc,.own 2011 (List.length c.marks)]⟩),(5,⟨26,.fix [.own 11 (List.length c.up),.own 1011 (List.length c.down),.i (1 : Int),.i (0 : Int),.i c.proc,.own 2011 (List.length c.marks)]⟩),(11,⟨3,.row (.ints c.up)⟩),(998,⟨70,.fix [.sl (.bytes l),.i ((p + 1) + 1)]⟩),(1011,⟨3,.row (.ints c.down)⟩),(2011,⟨33,.row (.marks c.marks)⟩)],[13,5,2011,1011,11,7,4,3,998,999]⟩)
      (True ∧ (True ∧ True) ∧ True)
      ⟨tt,⟨tt,tt⟩,tt⟩ ?_
     refine W.ret ?_
     exact endP_ret ((⟨c.up,c.down,(1 : Int),(0 : Int),c.proc,c.marks⟩ : CopyD),((p + 1) + 1)) (show (smallK (⟨c.up,c.down,(1 : Int),(0 : Int),c.proc,c.marks⟩ : CopyD)) ∧ (p ≤ ((p + 1) + 1) ∧ ((p + 1) + 1) ≤ p + 10) from ⟨(by first | (unfold smallK; omega) | (unfold smallK; simp; omega)),(by first | assumption | omega | rfl | (simp; done) | (simp; omega))⟩) [(0,998)] (.agg [.own 11 (List.length c.up),.own 1011 (List.length c.down),.i (1 : Int),.i (0 : Int),.i c.proc,.own 2011 (List.length c.marks)]) (by kernel_rfl) (@cast (((((List.length c.up) = (List.length c.up)) ∧ ((.ints c.up : Dat) = .ints ((⟨c.up,c.down,(1 : Int),(0 : Int),c.proc,c.marks⟩ : CopyD).up)) ∧ ((11 : Nat) ∉ ([998] : List Nat))) ∧ (((List.length c.down) = (List.length c.down)) ∧ ((.ints c.down : Dat) = .ints ((⟨c.up,c.down,(1 : Int),(0 : Int),c.proc,c.marks⟩ : CopyD).down)) ∧ ((1011 : Nat) ∉ ([998] : List Nat))) ∧ ((.int .i64 (1 : Int) : Value) = .int .i64 ((⟨c.up,c.down,(1 : Int),(0 : Int),c.proc,c.marks⟩ : CopyD).value)) ∧ ((.int .i64 (0 : Int) : Value) = .int .i64 ((⟨c.up,c.down,(1 : Int),(0 : Int),c.proc,c.marks⟩ : CopyD).time)) ∧ ((.int .i64 c.proc : Value) = .int .i64 ((⟨c.up,c.down,(1 : Int),(0 : Int),c.proc,c.marks⟩ : CopyD).proc)) ∧ (((List.length c.marks) = (List.length c.marks)) ∧ ((.marks c.marks : Dat) = .marks ((⟨c.up,c.down,(1 : Int),(0 : Int),c.proc,c.marks⟩ : CopyD).marks)) ∧ ((2011 : Nat) ∉ ([998] : List Nat))) ∧ True) ∧ ((((70 : Nat) = 70) ∧ ((Sd (.bytes l)) ∧ (Si ((p + 1) + 1)) ∧ True) ∧ ((0 : Nat) ∈ ([0] : List Nat))) ∧ True) ∧ (true = true) ∧ ((([] : List Nat) = []) ∧ True) ∧ (true = true → (998 : Nat) = 998)) _ (by kernel_rfl) ⟨⟨⟨rfl,(congrArg Dat.ints (by first | rfl | omega | assumption | (symm; assumption) | simp | simp_all)),(by decide)⟩,⟨rfl,(congrArg Dat.ints (by first | rfl | omega | assumption | (symm; assumption) | simp | simp_all)),(by decide)⟩,(congrArg (Value.int .i64) (by first | rfl | omega | assumption | simp | simp_all)),(congrArg (Value.int .i64) (by first | rfl | omega | assumption | simp | simp_all)),(congrArg (Value.int .i64) (by first | rfl | omega | assumption | simp | simp_all)),⟨rfl,(congrArg Dat.marks (by first | rfl | omega | assumption | (symm; assumption) | simp | simp_all)),(by decide)⟩,tt⟩,⟨⟨rfl,⟨rfl,rfl,tt⟩,(by decide)⟩,tt⟩,rfl,⟨rfl,tt⟩,(fun _ => rfl)⟩)
    ·intro n31
     refine Kk cok tab25 hnt [] [0,4,5,35] (⟨[(0,.ptr 998 0),(4,.ptr 4 0),(5,.ptr 5 0),(35,.b (decide ((pickV l (p + 1) (5 : Int)) = (3 : Int))))],[(3,⟨26,.fix (cC c)⟩),(4,⟨26,.fix [.v (.slice none 0 0),.v (.slice none 0 0),.i (0 : Int),.i (0 : Int),.i (0 : Int),.v (.slice none 0 0)]⟩),(5,⟨26,.fix [.own 11 (List.length c.up),.own 1011 (List.length c.down),.i c.value,.i c.time,.i c.proc,.own 2011 (List.length c.marks)]⟩),(11,⟨3,.row (.ints c.up)⟩),(998,⟨70,.fix [.sl (.bytes l),.i ((p + 1) + 1)]⟩),(1011,⟨3,.row (.ints c.down)⟩),(2011,⟨33,.row (.marks c.marks)⟩)],[13,5,2011,1011,11,7,4,3,998,999]⟩)
      ((True ∧ True ∧ True) ∧ True ∧ True)
      ⟨⟨tt,tt,tt⟩,tt,tt⟩ ?_
     refine W.ifP ((pickV l (p + 1) (5 : Int)) = (3 : Int)) (.b (decide ((pickV l (p + 1) (5 : Int)) = (3 : Int)))) (by kernel_rfl) rfl trivial ?_ ?_
     ·intro h35
      refine W.LA cok tab25 hnt [43] (⟨[(0,.ptr 998 0),(4,.ptr 4 0),(5,.ptr 5 0),(35,.b (decide ((pickV l (p + 1) (5 : Int)) = (3 : Int)))),(37,.ptr 5 5),(38,.own 2011 (List.length c.marks)),(39,.ptr 998 0),(40,.i (pickV l ((p + 1) + 1) (2 : Int))),(41,.agg [.i (1 : Int),.i (0 : Int),.i (pickV l ((p + 1) + 1) (2 : Int)),.b false]),(42,.sl (.marks ([(⟨(1 : Int),(0 : Int),(pickV l ((p + 1) + 1) (2 : Int)),false⟩ : MarkD)]))),(43,.own 43 (List.length (c.marks ++ ([(⟨(1 : Int),(0 : Int),(pickV l ((p + 1) + 1) (2 : Int)),false⟩ : MarkD)])))),(44,.ptr 5 5)],[(3,⟨26,.fix (cC c)⟩),(4,⟨26,.fix [.v (.slice none 0 0),.v (.slice none 0 0),.i (0 : Int),.i (0 : Int),.i (0 : Int),.v (.slice none 0 0)]⟩),(5,⟨26,.fix [.own 11 (List.length c.up),.own 1011 (List.length c.down),.i c.value,.i c.time,.i c.proc,.own 43 (List.length (c.marks ++ ([(⟨(1 : Int),(0 : Int),(pickV l ((p + 1) + 1) (2 : Int)),false⟩ : MarkD)])))]⟩),(11,⟨3,.row (.ints c.up)⟩),(43,⟨33,.row (.marks (c.marks ++ ([(⟨(1 : Int),(0 : Int),(pickV l ((p + 1) + 1) (2 : Int)),false⟩ : MarkD)])))⟩),(998,⟨70,.fix [.sl (.bytes l),.i (((p + 1) + 1) + 1)]⟩),(1011,⟨3,.row (.ints c.down)⟩)],[43,42,40,13,5,2011,1011,11,7,4,3,998,999]⟩)
       (True ∧ True ∧ True ∧ (True ∧ True ∧ (True ∧ True) ∧ 0 ≤ ((p + 1) + 1) ∧ ((p + 1) + 1) ≤ 1000000) ∧ (True ∧ True ∧ True) ∧ (True ∧ True) ∧ ((True ∧ ((List.length c.marks) = (List.length c.marks))) ∧ True ∧ (((List.length c.marks) + (List.length ([(⟨(1 : Int),(0 : Int),(pickV l ((p + 1) + 1) (2 : Int)),false⟩ : MarkD)]))) * 32 ≤ 140737488355328)) ∧ True ∧ (True ∧ True) ∧ True) (by kernel_rfl) (by kernel_rfl)
       ⟨tt,tt,tt,⟨tt,tt,⟨tt,tt⟩,(by omega)⟩,⟨tt,tt,tt⟩,⟨tt,tt⟩,⟨⟨tt,rfl⟩,tt,(by (try simp only [List.length_append,List.length_cons,List.length_nil,List.length_set]); omega)⟩,tt,⟨tt,tt⟩,tt⟩ ?_
      refine blockQ_normal (thenQ_normal ?_)
      refine Kk cok tab25 hnt [] [4] (⟨[(4,.ptr 4 0)],[(3,⟨26,.fix (cC c)⟩),(4,⟨26,.fix [.own 11 (List.length c.up),.own 1011 (List.length c.down),.i c.value,.i c.time,.i c.proc,.own 43 (List.length (c.marks ++ ([(⟨(1 : Int),(0 : Int),(pickV l ((p + 1) + 1) (2 : Int)),false⟩ : MarkD)])))]⟩),(5,⟨26,.fix [.own 11 (List.length c.up),.own 1011 (List.length c.down),.i c.value,.i c.time,.i c.proc,.own 43 (List.length (c.marks ++ ([(⟨(1 : Int),(0 : Int),(pickV l ((p + 1) + 1) (2 : Int)),false⟩ : MarkD)])))]⟩),(11,⟨3,.row (.ints c.up)⟩),(43,⟨33,.row (.marks (c.marks ++ ([(⟨(1 : Int),(0 : Int),(pickV l ((p + 1) + 1) (2 : Int)),false⟩ : MarkD)])))⟩),(998,⟨70,.fix [.sl (.bytes l),.i (((p + 1) + 1) + 1)]⟩),(1011,⟨3,.row (.ints c.down)⟩)],[43,42,40,13,5,2011,1011,11,7,4,3,998,999]⟩)
       (True ∧ (True ∧ True) ∧ True)
       ⟨tt,⟨tt,tt⟩,tt⟩ ?_
      refine W.ret ?_
      exact endP_ret ((⟨c.up,c.down,c.value,c.time,c.proc,c.marks ++ ([(⟨(1 : Int),(0 : Int),(pickV l ((p + 1) + 1) (2 : Int)),false⟩ : MarkD)])⟩ : CopyD),(((p + 1) + 1) + 1)) (show (smallK (⟨c.up,c.down,c.value,c.time,c.proc,c.marks ++ ([(⟨(1 : Int),(0 : Int),(pickV l ((p + 1) + 1) (2 : Int)),false⟩ : MarkD)])⟩ : CopyD)) ∧ (p ≤ (((p + 1) + 1) + 1) ∧ (((p + 1) + 1) + 1) ≤ p + 10) from ⟨(by first | (unfold smallK; omega) | (unfold smallK; simp; omega)),(by first | assumption | omega | rfl | (simp; done) | (simp; omega))⟩) [(0,998)] (.agg [.own 11 (List.length c.up),.own 1011 (List.length c.down),.i c.value,.i c.time,.i c.proc,.own 43 (List.length (c.marks ++ ([(⟨(1 : Int),(0 : Int),(pickV l ((p + 1) + 1) (2 : Int)),false⟩ : MarkD)])))]) (by kernel_rfl) (@cast (((((List.length c.up) = (List.length c.up)) ∧ ((.ints c.up : Dat) = .ints ((⟨c.up,c.down,c.value,c.time,c.proc,c.marks ++ ([(⟨(1 : Int),(0 : Int),(pickV l ((p + 1) + 1) (2 : Int)),false⟩ : MarkD)])⟩ : CopyD).up)) ∧ ((11 : Nat) ∉ ([998] : List Nat))) ∧ (((List.length c.down) = (List.length c.down)) ∧ ((.ints c.down : Dat) = .ints ((⟨c.up,c.down,c.value,c.time,c.proc,c.marks ++ ([(⟨(1 : Int),(0 : Int),(pickV l ((p + 1) + 1) (2 : Int)),false⟩ : MarkD)])⟩ : CopyD).down)) ∧ ((1011 : Nat) ∉ ([998] : List Nat))) ∧ ((.int .i64 c.value : Value) = .int .i64 ((⟨c.up,c.down,c.value,c.time,c.proc,c.marks ++ ([(⟨(1 : Int),(0 : Int),(pickV l ((p + 1) + 1) (2 : Int)),false⟩ : MarkD)])⟩ : CopyD).value)) ∧ ((.int .i64 c.time : Value) = .int .i64 ((⟨c.up,c.down,c.value,c.time,c.proc,c.marks ++ ([(⟨(1 : Int),(0 : Int),(pickV l ((p + 1) + 1) (2 : Int)),false⟩ : MarkD)])⟩ : CopyD).time)) ∧ ((.int .i64 c.proc : Value) = .int .i64 ((⟨c.up,c.down,c.value,c.time,c.proc,c.marks ++ ([(⟨(1 : Int),(0 : Int),(pickV l ((p + 1) + 1) (2 : Int)),false⟩ : MarkD)])⟩ : CopyD).proc)) ∧ (((List.length (c.marks ++ ([(⟨(1 : Int),(0 : Int),(pickV l ((p + 1) + 1) (2 : Int)),false⟩ : MarkD)]))) = (List.length (c.marks ++ ([(⟨(1 : Int),(0 : Int),(pickV l ((p + 1) + 1) (2 : Int)),false⟩ : MarkD)])))) ∧ ((.marks (c.marks ++ ([(⟨(1 : Int),(0 : Int),(pickV l ((p + 1) + 1) (2 : Int)),false⟩ : MarkD)])) : Dat) = .marks ((⟨c.up,c.down,c.value,c.time,c.proc,c.marks ++ ([(⟨(1 : Int),(0 : Int),(pickV l ((p + 1) + 1) (2 : Int)),false⟩ : MarkD)])⟩ : CopyD).marks)) ∧ ((43 : Nat) ∉ ([998] : List Nat))) ∧ True) ∧ ((((70 : Nat) = 70) ∧ ((Sd (.bytes l)) ∧ (Si (((p + 1) + 1) + 1)) ∧ True) ∧ ((0 : Nat) ∈ ([0] : List Nat))) ∧ True) ∧ (true = true) ∧ ((([] : List Nat) = []) ∧ True) ∧ (true = true → (998 : Nat) = 998)) _ (by kernel_rfl) ⟨⟨⟨rfl,(congrArg Dat.ints (by first | rfl | omega | assumption | (symm; assumption) | simp | simp_all)),(by decide)⟩,⟨rfl,(congrArg Dat.ints (by first | rfl | omega | assumption | (symm; assumption) | simp | simp_all)),(by decide)⟩,(congrArg (Value.int .i64) (by first | rfl | omega | assumption | simp | simp_all)),(congrArg (Value.int .i64) (by first | rfl | omega | assumption | simp | simp_all)),(congrArg (Value.int .i64) (by first | rfl | omega | assumption | simp | simp_all)),⟨rfl,(congrArg Dat.marks (by first | rfl | omega | assumption | (symm; assumption) | simp | simp_all)),(by decide)⟩,tt⟩,⟨⟨rfl,⟨rfl,rfl,tt⟩,(by decide)⟩,tt⟩,rfl,⟨rfl,tt⟩,(fun _ => rfl)⟩)
     ·intro n35
      refine Lk cok tab25 hnt [] (⟨[(0,.ptr 998 0),(4,.ptr 4 0),(5,.ptr 5 0),(14,.ptr 5 4),(35,.b (decide ((pickV l (p + 1) (5 : Int)) = (3 : Int))))],[(3,⟨26,.fix (cC c)⟩),(4,⟨26,.fix [.v (.slice none 0 0),.v (.slice none 0 0),.i (0 : Int),.i (0 : Int),.i (0 : Int),.v (.slice none 0 0)]⟩),(5,⟨26,.fix [.own 11 (List.length c.up),.own 1011 (List.length c.down),.i c.value,.i c.time,.i (3 : Int),.own 2011 (List.length c.marks)]⟩),(11,⟨3,.row (.ints c.up)⟩),(998,⟨70,.fix [.sl (.bytes l),.i ((p + 1) + 1)]⟩),(1011,⟨3,.row (.ints c.down)⟩),(2011,⟨33,.row (.marks c.marks)⟩)],[13,5,2011,1011,11,7,4,3,998,999]⟩)
       (True ∧ (True ∧ True) ∧ True)
       ⟨tt,⟨tt,tt⟩,tt⟩ ?_
      refine blockQ_normal (thenQ_normal ?_)
      refine Kk cok tab25 hnt [] [4] (⟨[(4,.ptr 4 0)],[(3,⟨26,.fix (cC c)⟩),(4,⟨26,.fix [.own 11 (List.length c.up),.own 1011 (List.length c.down),.i c.value,.i c.time,.i (3 : Int),.own 2011 (List.length c.marks)]⟩),(5,⟨26,.fix [.own 11 (List.length c.up),.own 1011 (List.length c.down),.i c.value,.i c.time,.i (3 : Int),.own 2011 (List.length c.marks)]⟩),(11,⟨3,.row (.ints c.up)⟩),(998,⟨70,.fix [.sl (.bytes l),.i ((p + 1) + 1)]⟩),(1011,⟨3,.row (.ints c.down)⟩),(2011,⟨33,.row (.marks c.marks)⟩)],[13,5,2011,1011,11,7,4,3,998,999]⟩)
       (True ∧ (True ∧ True) ∧ True)
       ⟨tt,⟨tt,tt⟩,tt⟩ ?_
      refine W.ret ?_
      exact endP_ret ((⟨c.up,c.down,c.value,c.time,(3 : Int),c.marks⟩ : CopyD),((p + 1) + 1)) (show (smallK (⟨c.up,c.down,c.value,c.time,(3 : Int),c.marks⟩ : CopyD)) ∧ (p ≤ ((p + 1) + 1) ∧ ((p + 1) + 1) ≤ p + 10) from ⟨(by first | (unfold smallK; omega) | (unfold smallK; simp; omega)),(by first | assumption | omega | rfl | (simp; done) | (simp; omega))⟩) [(0,998)] (.agg [.own 11 (List.length c.up),.own 1011 (List.length c.down),.i c.value,.i c.time,.i (3 : Int),.own 2011 (List.length c.marks)]) (by kernel_rfl) (@cast (((((List.length c.up) = (List.length c.up)) ∧ ((.ints c.up : Dat) = .ints ((⟨c.up,c.down,c.value,c.time,(3 : Int),c.marks⟩ : CopyD).up)) ∧ ((11 : Nat) ∉ ([998] : List Nat))) ∧ (((List.length c.down) = (List.length c.down)) ∧ ((.ints c.down : Dat) = .ints ((⟨c.up,c.down,c.value,c.time,(3 : Int),c.marks⟩ : CopyD).down)) ∧ ((1011 : Nat) ∉ ([998] : List Nat))) ∧ ((.int .i64 c.value : Value) = .int .i64 ((⟨c.up,c.down,c.value,c.time,(3 : Int),c.marks⟩ : CopyD).value)) ∧ ((.int .i64 c.time : Value) = .int .i64 ((⟨c.up,c.down,c.value,c.time,(3 : Int),c.marks⟩ : CopyD).time)) ∧ ((.int .i64 (3 : Int) : Value) = .int .i64 ((⟨c.up,c.down,c.value,c.time,(3 : Int),c.marks⟩ : CopyD).proc)) ∧ (((List.length c.marks) = (List.length c.marks)) ∧ ((.marks c.marks : Dat) = .marks ((⟨c.up,c.down,c.value,c.time,(3 : Int),c.marks⟩ : CopyD).marks)) ∧ ((2011 : Nat) ∉ ([998] : List Nat))) ∧ True) ∧ ((((70 : Nat) = 70) ∧ ((Sd (.bytes l)) ∧ (Si ((p + 1) + 1)) ∧ True) ∧ ((0 : Nat) ∈ ([0] : List Nat))) ∧ True) ∧ (true = true) ∧ ((([] : List Nat) = []) ∧ True) ∧ (true = true → (998 : Nat) = 998)) _ (by kernel_rfl) ⟨⟨⟨rfl,(congrArg Dat.ints (by first | rfl | omega | assumption | (symm; assumption) | simp | simp_all)),(by decide)⟩,⟨rfl,(congrArg Dat.ints (by first | rfl | omega | assumption | (symm; assumption) | simp | simp_all)),(by decide)⟩,(congrArg (Value.int .i64) (by first | rfl | omega | assumption | simp | simp_all)),(congrArg (Value.int .i64) (by first | rfl | omega | assumption | simp | simp_all)),(congrArg (Value.int .i64) (by first | rfl | omega | assumption | simp | simp_all)),⟨rfl,(congrArg Dat.marks (by first | rfl | omega | assumption | (symm; assumption) | simp | simp_all)),(by decide)⟩,tt⟩,⟨⟨rfl,⟨rfl,rfl,tt⟩,(by decide)⟩,tt⟩,rfl,⟨rfl,tt⟩,(fun _ => rfl)⟩)
theorem ent25 : Entr prog 25 := ⟨_,func25,rfl,by decide⟩
end Go.Proofs.Try

set_option linter.unusedSimpArgs false
set_option linter.unusedVariables false
namespace Go.Proofs.Try
open Go.Ab Go.RowKit
def pre24 : List AV → List AV → Prop := preP [] [.bytes,.int] (fun _ (l,p,_) => (0 ≤ p ∧ p ≤ 700000))
def rel24 : RelS := relP [] [.bytes,.int] (ι := CopyD × Int) (fun _ (l,p,_) (g,q) => (smallK g) ∧ (p ≤ q ∧ q ≤ p + 600)) (fun _ (l,p,_) (g,q) => (.agg (cC g),[],[.sl (.bytes l),.i q]))
abbrev T24 : Tab := lk []
theorem tab24 : TabOK prog T24 := TabOK.nil
set_option maxRecDepth 100000 in
set_option maxHeartbeats 1000000 in
theorem rok24 : RelOK prog 24 (some 70) [] pre24 rel24 := by
 refine RelOK.mk cok func24 rfl rfl rfl ?_
 rintro _ ⟨(l : List UInt8),(p : Int),_⟩ hpre F hnt0
 have hnt : F.nt = 19 := hnt0.trans ntmps24
 replace hpre : (0 ≤ p ∧ p ≤ 700000) := hpre
 have hp := hpre
 refine W.to (⟨[(0,.ptr 998 0)],[(998,⟨70,.fix [.sl (.bytes l),.i p]⟩)],[998,999]⟩) rfl ?_
 refine Kk cok tab24 hnt [] [0,2] (⟨[(0,.ptr 998 0),(2,.ptr 2 0)],[(2,⟨26,.fix [.v (.slice none 0 0),.v (.slice none 0 0),.i (0 : Int),.i (0 : Int),.i (0 : Int),.v (.slice none 0 0)]⟩),(998,⟨70,.fix [.sl (.bytes l),.i p]⟩)],[2,998,999]⟩)
  (True ∧ True)
  ⟨tt,tt⟩ ?_
 refine W.seq (W.wi ?_)
 refine WI.runT cok tab24 hnt [] 1 1 (⟨[(0,.ptr 998 0),(2,.ptr 2 0),(6,.ptr 998 0)],[(2,⟨26,.fix [.v (.slice none 0 0),.v (.slice none 0 0),.i (0 : Int),.i (0 : Int),.i (0 : Int),.v (.slice none 0 0)]⟩),(998,⟨70,.fix [.sl (.bytes l),.i p]⟩)],[2,998,999]⟩)
  (True ∧ True) (by kernel_rfl) rfl
  ⟨tt,tt⟩ ?_
 refine WI.call [.ptr 998 0] [.sl (.bytes l),.i p] [] [] (some (70,998)) (True) (True) none rok22 ent22 hnt rfl rfl (wanted_none rfl) (by kernel_rfl) (by kernel_rfl) (by kernel_rfl) ⟨tt,tt⟩
  (@cast (0 ≤ p ∧ p ≤ 800000) _ (by kernel_rfl) (by omega)) (Or.inl rfl) rfl ?_
 rintro r bl fx2 hR
 obtain ⟨⟨a7,b7,q7⟩,hq7,rfl,rfl,rfl⟩ := (@cast _ (∃ x : CopyD × CopyD × Int,((validCopy x.1 = true) ∧ (validCopy x.2.1 = true) ∧ (p ≤ x.2.2 ∧ x.2.2 ≤ p + 500)) ∧ r = (.tup [.agg (cC (x.1)),.agg (cC (x.2.1))]) ∧ bl = ([]) ∧ fx2 = ([.sl (.bytes l),.i x.2.2])) (by kernel_rfl) hR)
 clear hR
 replace hq7 : (validCopy a7 = true) ∧ (validCopy b7 = true) ∧ (p ≤ q7 ∧ q7 ≤ p + 500) := hq7
 obtain ⟨hga7,hgb7,hq17⟩ := hq7
 refine ⟨by kernel_rfl,WI.to (⟨[(0,.ptr 998 0),(2,.ptr 2 0),(6,.ptr 998 0),(7,.tup [.agg (cC a7),.agg (cC b7)])],[(2,⟨26,.fix [.v (.slice none 0 0),.v (.slice none 0 0),.i (0 : Int),.i (0 : Int),.i (0 : Int),.v (.slice none 0 0)]⟩),(998,⟨70,.fix [.sl (.bytes l),.i q7]⟩)],[7,2,998,999]⟩) 2 (by kernel_rfl) rfl ?_⟩
 refine WI.runT cok tab24 hnt [] 7 9 (⟨[(0,.ptr 998 0),(2,.ptr 2 0),(3,.ptr 3 0),(4,.ptr 4 0),(5,.tup [.agg (cC a7),.agg (cC b7)]),(6,.ptr 998 0),(7,.tup [.agg (cC a7),.agg (cC b7)]),(8,.agg (cC a7)),(9,.agg (cC b7))],[(2,⟨26,.fix [.v (.slice none 0 0),.v (.slice none 0 0),.i (0 : Int),.i (0 : Int),.i (0 : Int),.v (.slice none 0 0)]⟩),(3,⟨26,.fix (cC a7)⟩),(4,⟨26,.fix (cC b7)⟩),(998,⟨70,.fix [.sl (.bytes l),.i q7]⟩)],[4,3,7,2,998,999]⟩)
  (True ∧ True ∧ True ∧ True ∧ True ∧ (True ∧ True) ∧ (True ∧ True) ∧ True) (by kernel_rfl) rfl
  ⟨tt,tt,tt,tt,tt,⟨tt,tt⟩,⟨tt,tt⟩,tt⟩ ?_
 refine WI.nil rfl (thenQ_normal ?_)
 refine W.keepE [0,2,3,4] [(0,.ptr 998 0),(2,.ptr 2 0),(3,.ptr 3 0),(4,.ptr 4 0)] (by kernel_rfl) ?_
 refine W.to (⟨[(0,.ptr 998 0),(2,.ptr 2 0),(3,.ptr 3 0),(4,.ptr 4 0)],[(2,⟨26,.fix [.v (.slice none 0 0),.v (.slice none 0 0),.i (0 : Int),.i (0 : Int),.i (0 : Int),.v (.slice none 0 0)]⟩),(3,⟨26,.fix (cC a7)⟩),(4,⟨26,.fix (cC b7)⟩),(998,⟨70,.fix [.sl (.bytes l),.i q7]⟩)],[4,3,7,2,998,999]⟩) rfl ?_
 refine W.seq ?_
 refine W.seq (W.wi ?_)
 refine WI.runT cok tab24 hnt [] 1 1 (⟨[(0,.ptr 998 0),(2,.ptr 2 0),(3,.ptr 3 0),(4,.ptr 4 0),(10,.ptr 998 0)],[(2,⟨26,.fix [.v (.slice none 0 0),.v (.slice none 0 0),.i (0 : Int),.i (0 : Int),.i (0 : Int),.v (.slice none 0 0)]⟩),(3,⟨26,.fix (cC a7)⟩),(4,⟨26,.fix (cC b7)⟩),(998,⟨70,.fix [.sl (.bytes l),.i q7]⟩)],[4,3,7,2,998,999]⟩)
  (True ∧ True) (by kernel_rfl) rfl
  ⟨tt,tt⟩ ?_
 refine WI.call [.ptr 998 0,.i (2 : Int)] [.sl (.bytes l),.i q7] [.i (2 : Int)] [.i (2 : Int)] (some (70,998)) (True) (True ∧ True) none rok23 ent23 hnt rfl rfl (wanted_none rfl) (by kernel_rfl) (by kernel_rfl) (by kernel_rfl) ⟨tt,tt,tt⟩
  (@cast (0 ≤ q7 ∧ q7 ≤ 1000000) _ (by kernel_rfl) (by omega)) (Or.inl rfl) rfl ?_
 rintro r bl fx2 hR
 obtain ⟨⟨v11,q11⟩,hq11,rfl,rfl,rfl⟩ := (@cast _ (∃ x : Int × Int,((0 ≤ x.1 ∧ x.1 < max (2 : Int) 1) ∧ (x.2 = q7 + 1)) ∧ r = (.i x.1) ∧ bl = ([]) ∧ fx2 = ([.sl (.bytes l),.i x.2])) (by kernel_rfl) hR)
 clear hR
 replace hq11 : (0 ≤ v11 ∧ v11 < max (2 : Int) 1) ∧ (q11 = q7 + 1) := hq11
 obtain ⟨hv11,hq111⟩ := hq11
 refine ⟨by kernel_rfl,WI.to (⟨[(0,.ptr 998 0),(2,.ptr 2 0),(3,.ptr 3 0),(4,.ptr 4 0),(10,.ptr 998 0),(11,.i v11)],[(2,⟨26,.fix [.v (.slice none 0 0),.v (.slice none 0 0),.i (0 : Int),.i (0 : Int),.i (0 : Int),.v (.slice none 0 0)]⟩),(3,⟨26,.fix (cC a7)⟩),(4,⟨26,.fix (cC b7)⟩),(998,⟨70,.fix [.sl (.bytes l),.i q11]⟩)],[11,4,3,7,2,998,999]⟩) 2 (by kernel_rfl) rfl ?_⟩
 refine WI.runT cok tab24 hnt [] 1 3 (⟨[(0,.ptr 998 0),(2,.ptr 2 0),(3,.ptr 3 0),(4,.ptr 4 0),(10,.ptr 998 0),(11,.i v11),(12,.b (decide (v11 = (0 : Int))))],[(2,⟨26,.fix [.v (.slice none 0 0),.v (.slice none 0 0),.i (0 : Int),.i (0 : Int),.i (0 : Int),.v (.slice none 0 0)]⟩),(3,⟨26,.fix (cC a7)⟩),(4,⟨26,.fix (cC b7)⟩),(998,⟨70,.fix [.sl (.bytes l),.i q11]⟩)],[11,4,3,7,2,998,999]⟩)
  ((True ∧ True ∧ True) ∧ True) (by kernel_rfl) rfl
  ⟨⟨tt,tt,tt⟩,tt⟩ ?_
 refine WI.nil rfl (thenQ_normal ?_)
 refine W.keepE [0,2,3,4,12] [(0,.ptr 998 0),(2,.ptr 2 0),(3,.ptr 3 0),(4,.ptr 4 0),(12,.b (decide (v11 = (0 : Int))))] (by kernel_rfl) ?_
 refine W.to (⟨[(0,.ptr 998 0),(2,.ptr 2 0),(3,.ptr 3 0),(4,.ptr 4 0),(12,.b (decide (v11 = (0 : Int))))],[(2,⟨26,.fix [.v (.slice none 0 0),.v (.slice none 0 0),.i (0 : Int),.i (0 : Int),.i (0 : Int),.v (.slice none 0 0)]⟩),(3,⟨26,.fix (cC a7)⟩),(4,⟨26,.fix (cC b7)⟩),(998,⟨70,.fix [.sl (.bytes l),.i q11]⟩)],[11,4,3,7,2,998,999]⟩) rfl ?_
 refine W.ifP (v11 = (0 : Int)) (.b (decide (v11 = (0 : Int)))) (by kernel_rfl) rfl trivial ?_ ?_
 ·intro h12
  refine W.seq (W.wi ?_)
  refine WI.runT cok tab24 hnt [] 2 2 (⟨[(0,.ptr 998 0),(2,.ptr 2 0),(3,.ptr 3 0),(4,.ptr 4 0),(12,.b (decide (v11 = (0 : Int)))),(13,.ptr 998 0),(14,.agg (cC b7))],[(2,⟨26,.fix [.v (.slice none 0 0),.v (.slice none 0 0),.i (0 : Int),.i (0 : Int),.i (0 : Int),.v (.slice none 0 0)]⟩),(3,⟨26,.fix (cC a7)⟩),(4,⟨26,.fix (cC b7)⟩),(998,⟨70,.fix [.sl (.bytes l),.i q11]⟩)],[11,4,3,7,2,998,999]⟩)
   (True ∧ True ∧ True) (by kernel_rfl) rfl
   ⟨tt,tt,tt⟩ ?_
  refine WI.call [.ptr 998 0,.agg (cC b7)] [.sl (.bytes l),.i q11] [.agg (cC b7)] [.agg (cC b7)] (some (70,998)) (True) ((True ∧ (True ∧ (True ∧ (True ∧ (True ∧ (True ∧ (True ∧ True))))))) ∧ True) none rok25 ent25 hnt rfl rfl (wanted_none rfl) (by kernel_rfl) (by kernel_rfl) (by kernel_rfl) ⟨tt,⟨tt,tt,tt,tt,tt,tt,tt,tt⟩,tt⟩
   (@cast ((0 ≤ q11 ∧ q11 ≤ 900000) ∧ (validCopy b7 = true)) _ (by kernel_rfl) ⟨(by omega),(by omega)⟩) (Or.inl rfl) rfl ?_
  rintro r bl fx2 hR
  obtain ⟨⟨g15,q15⟩,hq15,rfl,rfl,rfl⟩ := (@cast _ (∃ x : CopyD × Int,((smallK x.1) ∧ (q11 ≤ x.2 ∧ x.2 ≤ q11 + 10)) ∧ r = (.agg (cC (x.1))) ∧ bl = ([]) ∧ fx2 = ([.sl (.bytes l),.i x.2])) (by kernel_rfl) hR)
  clear hR
  replace hq15 : (smallK g15) ∧ (q11 ≤ q15 ∧ q15 ≤ q11 + 10) := hq15
  obtain ⟨hg15,hq115⟩ := hq15
  refine ⟨by kernel_rfl,WI.to (⟨[(0,.ptr 998 0),(2,.ptr 2 0),(3,.ptr 3 0),(4,.ptr 4 0),(12,.b (decide (v11 = (0 : Int)))),(13,.ptr 998 0),(14,.agg (cC b7)),(15,.agg (cC g15))],[(2,⟨26,.fix [.v (.slice none 0 0),.v (.slice none 0 0),.i (0 : Int),.i (0 : Int),.i (0 : Int),.v (.slice none 0 0)]⟩),(3,⟨26,.fix (cC a7)⟩),(4,⟨26,.fix (cC b7)⟩),(998,⟨70,.fix [.sl (.bytes l),.i q15]⟩)],[15,11,4,3,7,2,998,999]⟩) 3 (by kernel_rfl) rfl ?_⟩
  refine WI.runT cok tab24 hnt [] 1 4 (⟨[(0,.ptr 998 0),(2,.ptr 2 0),(3,.ptr 3 0),(4,.ptr 4 0),(12,.b (decide (v11 = (0 : Int)))),(13,.ptr 998 0),(14,.agg (cC b7)),(15,.agg (cC g15))],[(2,⟨26,.fix (cC g15)⟩),(3,⟨26,.fix (cC a7)⟩),(4,⟨26,.fix (cC b7)⟩),(998,⟨70,.fix [.sl (.bytes l),.i q15]⟩)],[15,11,4,3,7,2,998,999]⟩)
   ((True ∧ True) ∧ True) (by kernel_rfl) rfl
   ⟨⟨tt,tt⟩,tt⟩ ?_
  refine WI.nil rfl (thenQ_normal ?_)
  refine W.keepE [2] [(2,.ptr 2 0)] (by kernel_rfl) ?_
  refine W.to (⟨[(2,.ptr 2 0)],[(2,⟨26,.fix (cC g15)⟩),(3,⟨26,.fix (cC a7)⟩),(4,⟨26,.fix (cC b7)⟩),(998,⟨70,.fix [.sl (.bytes l),.i q15]⟩)],[15,11,4,3,7,2,998,999]⟩) rfl ?_
  refine W.ret (thenQ_ret ?_)
  exact endP_ret (g15,q15) (show (smallK g15) ∧ (p ≤ q15 ∧ q15 ≤ p + 600) from ⟨(by first | assumption | omega | rfl | (simp; done) | (simp; omega)),(by first | assumption | omega | rfl | (simp; done) | (simp; omega))⟩) [(0,998)] (.agg (cC g15)) (by kernel_rfl) (@cast ((Sc g15) ∧ ((((70 : Nat) = 70) ∧ ((Sd (.bytes l)) ∧ (Si q15) ∧ True) ∧ ((0 : Nat) ∈ ([0] : List Nat))) ∧ True) ∧ (true = true) ∧ ((([] : List Nat) = []) ∧ True) ∧ (true = true → (998 : Nat) = 998)) _ (by kernel_rfl) ⟨⟨rfl,rfl,rfl,rfl,rfl,rfl,tt⟩,⟨⟨rfl,⟨rfl,rfl,tt⟩,(by decide)⟩,tt⟩,rfl,⟨rfl,tt⟩,(fun _ => rfl)⟩)
 ·intro n12
  refine W.skip (thenQ_normal ?_)
  refine W.seq (W.wi ?_)
  refine WI.runT cok tab24 hnt [] 2 2 (⟨[(0,.ptr 998 0),(2,.ptr 2 0),(3,.ptr 3 0),(4,.ptr 4 0),(12,.b (decide (v11 = (0 : Int)))),(16,.ptr 998 0),(17,.agg (cC a7))],[(2,⟨26,.fix [.v (.slice none 0 0),.v (.slice none 0 0),.i (0 : Int),.i (0 : Int),.i (0 : Int),.v (.slice none 0 0)]⟩),(3,⟨26,.fix (cC a7)⟩),(4,⟨26,.fix (cC b7)⟩),(998,⟨70,.fix [.sl (.bytes l),.i q11]⟩)],[11,4,3,7,2,998,999]⟩)
   (True ∧ True ∧ True) (by kernel_rfl) rfl
   ⟨tt,tt,tt⟩ ?_
  refine WI.call [.ptr 998 0,.agg (cC a7)] [.sl (.bytes l),.i q11] [.agg (cC a7)] [.agg (cC a7)] (some (70,998)) (True) ((True ∧ (True ∧ (True ∧ (True ∧ (True ∧ (True ∧ (True ∧ True))))))) ∧ True) none rok25 ent25 hnt rfl rfl (wanted_none rfl) (by kernel_rfl) (by kernel_rfl) (by kernel_rfl) ⟨tt,⟨tt,tt,tt,tt,tt,tt,tt,tt⟩,tt⟩
   (@cast ((0 ≤ q11 ∧ q11 ≤ 900000) ∧ (validCopy a7 = true)) _ (by kernel_rfl) ⟨(by omega),(by omega)⟩) (Or.inl rfl) rfl ?_
  rintro r bl fx2 hR
  obtain ⟨⟨g18,q18⟩,hq18,rfl,rfl,rfl⟩ := (@cast _ (∃ x : CopyD × Int,((smallK x.1) ∧ (q11 ≤ x.2 ∧ x.2 ≤ q11 + 10)) ∧ r = (.agg (cC (x.1))) ∧ bl = ([]) ∧ fx2 = ([.sl (.bytes l),.i x.2])) (by kernel_rfl) hR)
  clear hR
  replace hq18 : (smallK g18) ∧ (q11 ≤ q18 ∧ q18 ≤ q11 + 10) := hq18
  obtain ⟨hg18,hq118⟩ := hq18
  refine ⟨by kernel_rfl,WI.to (⟨[(0,.ptr 998 0),(2,.ptr 2 0),(3,.ptr 3 0),(4,.ptr 4 0),(12,.b (decide (v11 = (0 : Int)))),(16,.ptr 998 0),(17,.agg (cC a7)),(18,.agg (cC g18))],[(2,⟨26,.fix [.v (.slice none 0 0),.v (.slice none 0 0),.i (0 : Int),.i (0 : Int),.i (0 : Int),.v (.slice none 0 0)]⟩),(3,⟨26,.fix (cC a7)⟩),(4,⟨26,.fix (cC b7)⟩),(998,⟨70,.fix [.sl (.bytes l),.i q18]⟩)],[18,11,4,3,7,2,998,999]⟩) 3 (by kernel_rfl) rfl ?_⟩
  refine WI.runT cok tab24 hnt [] 1 4 (⟨[(0,.ptr 998 0),(2,.ptr 2 0),(3,.ptr 3 0),(4,.ptr 4 0),(12,.b (decide (v11 = (0 : Int)))),(16,.ptr 998 0),(17,.agg (cC a7)),(18,.agg (cC g18))],[(2,⟨26,.fix (cC g18)⟩),(3,⟨26,.fix (cC a7)⟩),(4,⟨26,.fix (cC b7)⟩),(998,⟨70,.fix [.sl (.bytes l),.i q18]⟩)],[18,11,4,3,7,2,998,999]⟩)
   ((True ∧ True) ∧ True) (by kernel_rfl) rfl
   ⟨⟨tt,tt⟩,tt⟩ ?_
  refine WI.nil rfl (thenQ_normal ?_)
  refine W.keepE [2] [(2,.ptr 2 0)] (by kernel_rfl) ?_
  refine W.to (⟨[(2,.ptr 2 0)],[(2,⟨26,.fix (cC g18)⟩),(3,⟨26,.fix (cC a7)⟩),(4,⟨26,.fix (cC b7)⟩),(998,⟨70,.fix [.sl (.bytes l),.i q18]⟩)],[18,11,4,3,7,2,998,999]⟩) rfl ?_
  refine W.ret ?_
  exact endP_ret (g18,q18) (show (smallK g18) ∧ (p ≤ q18 ∧ q18 ≤ p + 600) from ⟨(by first | assumption | omega | rfl | (simp; done) | (simp; omega)),(by first | assumption | omega | rfl | (simp; done) | (simp; omega))⟩) [(0,998)] (.agg (cC g18)) (by kernel_rfl) (@cast ((Sc g18) ∧ ((((70 : Nat) = 70) ∧ ((Sd (.bytes l)) ∧ (Si q18) ∧ True) ∧ ((0 : Nat) ∈ ([0] : List Nat))) ∧ True) ∧ (true = true) ∧ ((([] : List Nat) = []) ∧ True) ∧ (true = true → (998 : Nat) = 998)) _ (by kernel_rfl) ⟨⟨rfl,rfl,rfl,rfl,rfl,rfl,tt⟩,⟨⟨rfl,⟨rfl,rfl,tt⟩,(by decide)⟩,tt⟩,rfl,⟨rfl,tt⟩,(fun _ => rfl)⟩)
theorem ent24 : Entr prog 24 := ⟨_,func24,rfl,by decide⟩
end Go.Proofs.Try

set_option linter.unusedSimpArgs false
set_option linter.unusedVariables false
namespace Go.Proofs.Try
open Go.Ab Go.RowKit
def pre18 : List AV → List AV → Prop := preP [.bytes] [] (fun (code,_) _ => True)
def rel18 : RelS := relP [.bytes] [] (ι := CopyD × Int × Int) (fun (code,_) _ (g,vv,pp) => (smallK g) ∧ (-100 ≤ vv ∧ vv ≤ 100 ∧ -100 ≤ pp ∧ pp ≤ 100)) (fun (code,_) _ (g,vv,pp) => (.tup [.agg (cC g),.i vv,.i pp],[],[]))
abbrev T18 : Tab := lk []
theorem tab18 : TabOK prog T18 := TabOK.nil
set_option maxRecDepth 100000 in
set_option maxHeartbeats 1000000 in
theorem rok18 : RelOK prog 18 none [.s .bytes] pre18 rel18 := by
 refine RelOK.mk cok func18 rfl rfl rfl ?_
 rintro ⟨(code : List UInt8),_⟩ _ hpre F hnt0
 have hnt : F.nt = 16 := hnt0.trans ntmps18
 clear hpre
 refine W.to (⟨[(0,.sl (.bytes code))],[],[998,999]⟩) rfl ?_
 refine Kk cok tab18 hnt [] [0,2] (⟨[(0,.sl (.bytes code)),(2,.ptr 2 0)],[(2,⟨26,.fix [.v (.slice none 0 0),.v (.slice none 0 0),.i (0 : Int),.i (0 : Int),.i (0 : Int),.v (.slice none 0 0)]⟩)],[2,998,999]⟩)
  (True ∧ True ∧ True ∧ True)
  ⟨tt,tt,tt,tt⟩ ?_
 refine W.seq (W.wi ?_)
 refine WI.runT cok tab18 hnt [] 1 1 (⟨[(0,.sl (.bytes code)),(2,.ptr 2 0),(6,.sl (.bytes code))],[(2,⟨26,.fix [.v (.slice none 0 0),.v (.slice none 0 0),.i (0 : Int),.i (0 : Int),.i (0 : Int),.v (.slice none 0 0)]⟩)],[2,998,999]⟩)
  (True ∧ True) (by kernel_rfl) rfl
  ⟨tt,tt⟩ ?_
 refine WI.call [.sl (.bytes code)] [] [.sl (.bytes code)] [.sl (.bytes code)] none (True) (True ∧ True) none rok21 ent21 hnt rfl rfl (wanted_none rfl) (by kernel_rfl) (by kernel_rfl) (by kernel_rfl) ⟨tt,tt,tt⟩
  (@cast (True) _ (by kernel_rfl) trivial) (Or.inl rfl) rfl ?_
 rintro r bl fx2 hR
 obtain ⟨l7,hq7,rfl,rfl,rfl⟩ := (@cast _ (∃ x : (List UInt8),(True) ∧ r = (.ptr 0 0) ∧ bl = ([⟨70,.fix [.sl (.bytes x),.i (0 : Int)]⟩]) ∧ fx2 = ([])) (by kernel_rfl) hR)
 clear hR
 replace hq7 : True := hq7
 refine ⟨by kernel_rfl,WI.to (⟨[(0,.sl (.bytes code)),(2,.ptr 2 0),(6,.sl (.bytes code)),(7,.ptr 7 0)],[(2,⟨26,.fix [.v (.slice none 0 0),.v (.slice none 0 0),.i (0 : Int),.i (0 : Int),.i (0 : Int),.v (.slice none 0 0)]⟩),(7,⟨70,.fix [.sl (.bytes l7),.i (0 : Int)]⟩)],[7,2,998,999]⟩) 2 (by kernel_rfl) rfl ?_⟩
 refine WI.runT cok tab18 hnt [] 1 3 (⟨[(0,.sl (.bytes code)),(2,.ptr 2 0),(5,.ptr 7 0),(6,.sl (.bytes code)),(7,.ptr 7 0)],[(2,⟨26,.fix [.v (.slice none 0 0),.v (.slice none 0 0),.i (0 : Int),.i (0 : Int),.i (0 : Int),.v (.slice none 0 0)]⟩),(7,⟨70,.fix [.sl (.bytes l7),.i (0 : Int)]⟩)],[7,2,998,999]⟩)
  (True ∧ True) (by kernel_rfl) rfl
  ⟨tt,tt⟩ ?_
 refine WI.nil rfl (thenQ_normal ?_)
 refine W.keepE [2,5] [(2,.ptr 2 0),(5,.ptr 7 0)] (by kernel_rfl) ?_
 refine W.to (⟨[(2,.ptr 2 0),(5,.ptr 7 0)],[(2,⟨26,.fix [.v (.slice none 0 0),.v (.slice none 0 0),.i (0 : Int),.i (0 : Int),.i (0 : Int),.v (.slice none 0 0)]⟩),(7,⟨70,.fix [.sl (.bytes l7),.i (0 : Int)]⟩)],[7,2,998,999]⟩) rfl ?_
 refine W.seq (W.wi ?_)
 refine WI.runT cok tab18 hnt [] 1 1 (⟨[(2,.ptr 2 0),(5,.ptr 7 0),(8,.ptr 7 0)],[(2,⟨26,.fix [.v (.slice none 0 0),.v (.slice none 0 0),.i (0 : Int),.i (0 : Int),.i (0 : Int),.v (.slice none 0 0)]⟩),(7,⟨70,.fix [.sl (.bytes l7),.i (0 : Int)]⟩)],[7,2,998,999]⟩)
  (True ∧ True) (by kernel_rfl) rfl
  ⟨tt,tt⟩ ?_
 refine WI.call [.ptr 7 0] [.sl (.bytes l7),.i (0 : Int)] [] [] (some (70,7)) (True) (True) none rok24 ent24 hnt rfl rfl (wanted_none rfl) (by kernel_rfl) (by kernel_rfl) (by kernel_rfl) ⟨tt,tt⟩
  (@cast (0 ≤ (0 : Int) ∧ (0 : Int) ≤ 700000) _ (by kernel_rfl) (by omega)) (Or.inl rfl) rfl ?_
 rintro r bl fx2 hR
 obtain ⟨⟨g9,q9⟩,hq9,rfl,rfl,rfl⟩ := (@cast _ (∃ x : CopyD × Int,((smallK x.1) ∧ ((0 : Int) ≤ x.2 ∧ x.2 ≤ (0 : Int) + 600)) ∧ r = (.agg (cC (x.1))) ∧ bl = ([]) ∧ fx2 = ([.sl (.bytes l7),.i x.2])) (by kernel_rfl) hR)
 clear hR
 replace hq9 : (smallK g9) ∧ ((0 : Int) ≤ q9 ∧ q9 ≤ (0 : Int) + 600) := hq9
 obtain ⟨hg9,hq19⟩ := hq9
 refine ⟨by kernel_rfl,WI.to (⟨[(2,.ptr 2 0),(5,.ptr 7 0),(8,.ptr 7 0),(9,.agg (cC g9))],[(2,⟨26,.fix [.v (.slice none 0 0),.v (.slice none 0 0),.i (0 : Int),.i (0 : Int),.i (0 : Int),.v (.slice none 0 0)]⟩),(7,⟨70,.fix [.sl (.bytes l7),.i q9]⟩)],[9,7,2,998,999]⟩) 2 (by kernel_rfl) rfl ?_⟩
 refine WI.runT cok tab18 hnt [] 2 4 (⟨[(2,.ptr 2 0),(5,.ptr 7 0),(8,.ptr 7 0),(9,.agg (cC g9)),(10,.ptr 7 0),(11,.sl (.ints ([(1 : Int),(2 : Int),(3 : Int),(0 : Int),(4 : Int),(-1 : Int)])))],[(2,⟨26,.fix [.v (.slice none 0 0),.v (.slice none 0 0),.i (0 : Int),.i (0 : Int),.i (0 : Int),.v (.slice none 0 0)]⟩),(7,⟨70,.fix [.sl (.bytes l7),.i q9]⟩)],[11,9,7,2,998,999]⟩)
  (True ∧ (True ∧ True ∧ True ∧ True ∧ True ∧ True ∧ True) ∧ True) (by kernel_rfl) rfl
  ⟨tt,⟨tt,tt,tt,tt,tt,tt,tt⟩,tt⟩ ?_
 refine WI.call [.ptr 7 0,.sl (.ints ([(1 : Int),(2 : Int),(3 : Int),(0 : Int),(4 : Int),(-1 : Int)]))] [.sl (.bytes l7),.i q9] [.sl (.ints ([(1 : Int),(2 : Int),(3 : Int),(0 : Int),(4 : Int),(-1 : Int)]))] [.sl (.ints ([(1 : Int),(2 : Int),(3 : Int),(0 : Int),(4 : Int),(-1 : Int)]))] (some (70,7)) (True) (True ∧ True) none rok42 ent42 hnt rfl rfl (wanted_none rfl) (by kernel_rfl) (by kernel_rfl) (by kernel_rfl) ⟨tt,tt,tt⟩
  (@cast ((0 ≤ q9 ∧ q9 ≤ 1000000) ∧ (0 < ([(1 : Int),(2 : Int),(3 : Int),(0 : Int),(4 : Int),(-1 : Int)]).length) ∧ (([(1 : Int),(2 : Int),(3 : Int),(0 : Int),(4 : Int),(-1 : Int)]).length ≤ 1000)) _ (by kernel_rfl) ⟨(by omega),⟨(by (first | omega | (simp only [List.length_set]; done) | (simp only [List.length_append,List.length_cons,List.length_nil,List.length_take,List.length_drop,List.length_set,List.length_replicate,List.length_map] at *; omega) | assumption)),(by (first | omega | (simp only [List.length_set]; done) | (simp only [List.length_append,List.length_cons,List.length_nil,List.length_take,List.length_drop,List.length_set,List.length_replicate,List.length_map] at *; omega) | assumption))⟩⟩) (Or.inl rfl) rfl ?_
 rintro r bl fx2 hR
 obtain ⟨⟨v12,q12⟩,hq12,rfl,rfl,rfl⟩ := (@cast _ (∃ x : Int × Int,((x.1 ∈ ([(1 : Int),(2 : Int),(3 : Int),(0 : Int),(4 : Int),(-1 : Int)])) ∧ (x.2 = q9 + 1)) ∧ r = (.i x.1) ∧ bl = ([]) ∧ fx2 = ([.sl (.bytes l7),.i x.2])) (by kernel_rfl) hR)
 clear hR
 replace hq12 : (v12 ∈ ([(1 : Int),(2 : Int),(3 : Int),(0 : Int),(4 : Int),(-1 : Int)])) ∧ (q12 = q9 + 1) := hq12
 obtain ⟨hv12,hq112⟩ := hq12
 simp only [List.mem_cons,List.not_mem_nil,or_false] at hv12
 refine ⟨by kernel_rfl,WI.to (⟨[(2,.ptr 2 0),(5,.ptr 7 0),(8,.ptr 7 0),(9,.agg (cC g9)),(10,.ptr 7 0),(11,.sl (.ints ([(1 : Int),(2 : Int),(3 : Int),(0 : Int),(4 : Int),(-1 : Int)]))),(12,.i v12)],[(2,⟨26,.fix [.v (.slice none 0 0),.v (.slice none 0 0),.i (0 : Int),.i (0 : Int),.i (0 : Int),.v (.slice none 0 0)]⟩),(7,⟨70,.fix [.sl (.bytes l7),.i q12]⟩)],[12,11,9,7,2,998,999]⟩) 5 (by kernel_rfl) rfl ?_⟩
 refine WI.runT cok tab18 hnt [] 2 7 (⟨[(2,.ptr 2 0),(5,.ptr 7 0),(8,.ptr 7 0),(9,.agg (cC g9)),(10,.ptr 7 0),(11,.sl (.ints ([(1 : Int),(2 : Int),(3 : Int),(0 : Int),(4 : Int),(-1 : Int)]))),(12,.i v12),(13,.ptr 7 0),(14,.sl (.ints ([(0 : Int),(1 : Int),(2 : Int),(3 : Int),(-1 : Int)])))],[(2,⟨26,.fix [.v (.slice none 0 0),.v (.slice none 0 0),.i (0 : Int),.i (0 : Int),.i (0 : Int),.v (.slice none 0 0)]⟩),(7,⟨70,.fix [.sl (.bytes l7),.i q12]⟩)],[14,12,11,9,7,2,998,999]⟩)
  (True ∧ (True ∧ True ∧ True ∧ True ∧ True ∧ True) ∧ True) (by kernel_rfl) rfl
  ⟨tt,⟨tt,tt,tt,tt,tt,tt⟩,tt⟩ ?_
 refine WI.call [.ptr 7 0,.sl (.ints ([(0 : Int),(1 : Int),(2 : Int),(3 : Int),(-1 : Int)]))] [.sl (.bytes l7),.i q12] [.sl (.ints ([(0 : Int),(1 : Int),(2 : Int),(3 : Int),(-1 : Int)]))] [.sl (.ints ([(0 : Int),(1 : Int),(2 : Int),(3 : Int),(-1 : Int)]))] (some (70,7)) (True) (True ∧ True) none rok42 ent42 hnt rfl rfl (wanted_none rfl) (by kernel_rfl) (by kernel_rfl) (by kernel_rfl) ⟨tt,tt,tt⟩
  (@cast ((0 ≤ q12 ∧ q12 ≤ 1000000) ∧ (0 < ([(0 : Int),(1 : Int),(2 : Int),(3 : Int),(-1 : Int)]).length) ∧ (([(0 : Int),(1 : Int),(2 : Int),(3 : Int),(-1 : Int)]).length ≤ 1000)) _ (by kernel_rfl) ⟨(by omega),⟨(by (first | omega | (simp only [List.length_set]; done) | (simp only [List.length_append,List.length_cons,List.length_nil,List.length_take,List.length_drop,List.length_set,List.length_replicate,List.length_map] at *; omega) | assumption)),(by (first | omega | (simp only [List.length_set]; done) | (simp only [List.length_append,List.length_cons,List.length_nil,List.length_take,List.length_drop,List.length_set,List.length_replicate,List.length_map] at *; omega) | assumption))⟩⟩) (Or.inl rfl) rfl ?_
 rintro r bl fx2 hR
 obtain ⟨⟨v15,q15⟩,hq15,rfl,rfl,rfl⟩ := (@cast _ (∃ x : Int × Int,((x.1 ∈ ([(0 : Int),(1 : Int),(2 : Int),(3 : Int),(-1 : Int)])) ∧ (x.2 = q12 + 1)) ∧ r = (.i x.1) ∧ bl = ([]) ∧ fx2 = ([.sl (.bytes l7),.i x.2])) (by kernel_rfl) hR)
 clear hR
 replace hq15 : (v15 ∈ ([(0 : Int),(1 : Int),(2 : Int),(3 : Int),(-1 : Int)])) ∧ (q15 = q12 + 1) := hq15
 obtain ⟨hv15,hq115⟩ := hq15
 simp only [List.mem_cons,List.not_mem_nil,or_false] at hv15
 refine ⟨by kernel_rfl,WI.to (⟨[(2,.ptr 2 0),(5,.ptr 7 0),(8,.ptr 7 0),(9,.agg (cC g9)),(10,.ptr 7 0),(11,.sl (.ints ([(1 : Int),(2 : Int),(3 : Int),(0 : Int),(4 : Int),(-1 : Int)]))),(12,.i v12),(13,.ptr 7 0),(14,.sl (.ints ([(0 : Int),(1 : Int),(2 : Int),(3 : Int),(-1 : Int)]))),(15,.i v15)],[(2,⟨26,.fix [.v (.slice none 0 0),.v (.slice none 0 0),.i (0 : Int),.i (0 : Int),.i (0 : Int),.v (.slice none 0 0)]⟩),(7,⟨70,.fix [.sl (.bytes l7),.i q15]⟩)],[15,14,12,11,9,7,2,998,999]⟩) 8 (by kernel_rfl) rfl ?_⟩
 refine WI.runT cok tab18 hnt [] 3 11 (⟨[(2,.ptr 2 0),(3,.i v12),(4,.i v15),(5,.ptr 7 0),(8,.ptr 7 0),(9,.agg (cC g9)),(10,.ptr 7 0),(11,.sl (.ints ([(1 : Int),(2 : Int),(3 : Int),(0 : Int),(4 : Int),(-1 : Int)]))),(12,.i v12),(13,.ptr 7 0),(14,.sl (.ints ([(0 : Int),(1 : Int),(2 : Int),(3 : Int),(-1 : Int)]))),(15,.i v15)],[(2,⟨26,.fix (cC g9)⟩),(7,⟨70,.fix [.sl (.bytes l7),.i q15]⟩)],[15,14,12,11,9,7,2,998,999]⟩)
  ((True ∧ True) ∧ True ∧ True ∧ True) (by kernel_rfl) rfl
  ⟨⟨tt,tt⟩,tt,tt,tt⟩ ?_
 refine WI.nil rfl (thenQ_normal ?_)
 refine W.keepE [2,3,4] [(2,.ptr 2 0),(3,.i v12),(4,.i v15)] (by kernel_rfl) ?_
 refine W.to (⟨[(2,.ptr 2 0),(3,.i v12),(4,.i v15)],[(2,⟨26,.fix (cC g9)⟩),(7,⟨70,.fix [.sl (.bytes l7),.i q15]⟩)],[15,14,12,11,9,7,2,998,999]⟩) rfl ?_
 refine W.ret ?_
 exact endP_ret (g9,v12,v15) (show (smallK g9) ∧ (-100 ≤ v12 ∧ v12 ≤ 100 ∧ -100 ≤ v15 ∧ v15 ≤ 100) from ⟨(by first | assumption | omega | rfl | (simp; done) | (simp; omega)),(by refine ⟨?_,?_⟩ <;> first | omega | (refine ⟨?_,?_⟩ <;> first | omega | (refine ⟨?_,?_⟩ <;> first | omega | (refine ⟨?_,?_⟩ <;> omega))))⟩) [] (.tup [.agg (cC g9),.i v12,.i v15]) (by kernel_rfl) (@cast (((Sc g9) ∧ (Si v12) ∧ (Si v15) ∧ True) ∧ True ∧ (true = true) ∧ True ∧ (false = true → (0 : Nat) = 998)) _ (by kernel_rfl) ⟨⟨⟨rfl,rfl,rfl,rfl,rfl,rfl,tt⟩,rfl,rfl,tt⟩,tt,rfl,tt,(fun h => by cases h)⟩)
theorem ent18 : Entr prog 18 := ⟨_,func18,rfl,by decide⟩
end Go.Proofs.Try

set_option linter.unusedSimpArgs false
set_option linter.unusedVariables false
namespace Go.Proofs.Try
open Go.Ab Go.RowKit
def fs5 : FnS := fnS [.s .bytes] [.bytes] (fun _ (code,_) => (.b true,[],True))
abbrev T5 : Tab := lk [(9,fs9),(10,fs10),(11,fs11),(12,fs12),(19,fs19),(20,fs20)]
theorem tab5 : TabOK prog T5 := (TabOK.cons ok9 ent9 (TabOK.cons ok10 ent10 (TabOK.cons ok11 ent11 (TabOK.cons ok12 ent12 (TabOK.cons ok19 ent19 (TabOK.cons ok20 ent20 TabOK.nil))))))
set_option maxRecDepth 100000 in
set_option maxHeartbeats 1000000 in
theorem ok5 : FnOK prog 5 fs5 := by
 refine FnOK.mk cok func5 rfl rfl rfl ?_
 rintro fl ⟨(code : List UInt8),_⟩ hpre F hnt0 _
 have hnt : F.nt = 73 := hnt0.trans ntmps5
 clear hpre
 refine W.to (⟨[(0,.sl (.bytes code))],[],[999]⟩) rfl ?_
 refine W.lenOf 0 (.bytes code) (by kernel_rfl) ?_
 intro hl_code; replace hl_code : List.length code ≤ 9223372036854775807 := hl_code
 refine Kk cok tab5 hnt [] [0] (⟨[(0,.sl (.bytes code))],[],[999]⟩)
  (True ∧ True)
  ⟨tt,tt⟩ ?_
 refine W.seq ?_
 refine Kk cok tab5 hnt [] [0,12] (⟨[(0,.sl (.bytes code)),(12,.b (decide ((1048576 : Int) < (code.length : Int))))],[],[999]⟩)
  (True ∧ True ∧ (True ∧ True ∧ True) ∧ True)
  ⟨tt,tt,⟨tt,tt,tt⟩,tt⟩ ?_
 refine W.ifP ((1048576 : Int) < (code.length : Int)) (.b (decide ((1048576 : Int) < (code.length : Int)))) (by kernel_rfl) rfl trivial ?_ ?_
 ·intro h12
  refine Kk cok tab5 hnt [] [2] (⟨[(2,.b true)],[],[999]⟩)
   (True ∧ True)
   ⟨tt,tt⟩ ?_
  refine W.ret (thenQ_ret ?_)
  exact endQ_ret (.b true) (by kernel_rfl) (@cast (Sv (.bool true)) _ (by kernel_rfl) rfl)
 ·intro n12
  refine W.skip (thenQ_normal ?_)
  refine W.seq (W.wi ?_)
  refine WI.runT cok tab5 hnt [] 1 1 (⟨[(0,.sl (.bytes code)),(12,.b (decide ((1048576 : Int) < (code.length : Int)))),(14,.sl (.bytes code))],[],[999]⟩)
   (True ∧ True) (by kernel_rfl) rfl
   ⟨tt,tt⟩ ?_
  refine WI.call [.sl (.bytes code)] [] [.sl (.bytes code)] [.sl (.bytes code)] none (True) (True ∧ True) none rok18 ent18 hnt rfl rfl (wanted_none rfl) (by kernel_rfl) (by kernel_rfl) (by kernel_rfl) ⟨tt,tt,tt⟩
   (@cast (True) _ (by kernel_rfl) trivial) (Or.inl rfl) rfl ?_
  rintro r bl fx2 hR
  obtain ⟨⟨g15,vv15,pp15⟩,hq15,rfl,rfl,rfl⟩ := (@cast _ (∃ x : CopyD × Int × Int,((smallK x.1) ∧ (-100 ≤ x.2.1 ∧ x.2.1 ≤ 100 ∧ -100 ≤ x.2.2 ∧ x.2.2 ≤ 100)) ∧ r = (.tup [.agg (cC (x.1)),.i x.2.1,.i x.2.2]) ∧ bl = ([]) ∧ fx2 = ([])) (by kernel_rfl) hR)
  clear hR
  replace hq15 : (smallK g15) ∧ (-100 ≤ vv15 ∧ vv15 ≤ 100 ∧ -100 ≤ pp15 ∧ pp15 ≤ 100) := hq15
  obtain ⟨hg15,hb15⟩ := hq15
  refine ⟨by kernel_rfl,WI.to (⟨[(0,.sl (.bytes code)),(12,.b (decide ((1048576 : Int) < (code.length : Int)))),(14,.sl (.bytes code)),(15,.tup [.agg (cC g15),.i vv15,.i pp15])],[],[999]⟩) 2 (by kernel_rfl) rfl ?_⟩
  refine WI.runT cok tab5 hnt [] 8 10 (⟨[(0,.sl (.bytes code)),(3,.ptr 3 0),(4,.i vv15),(5,.i pp15),(12,.b (decide ((1048576 : Int) < (code.length : Int)))),(13,.tup [.agg (cC g15),.i vv15,.i pp15]),(14,.sl (.bytes code)),(15,.tup [.agg (cC g15),.i vv15,.i pp15]),(16,.agg (cC g15)),(17,.i vv15),(18,.i pp15)],[(3,⟨26,.fix (cC g15)⟩)],[3,999]⟩)
   (True ∧ True ∧ True ∧ True ∧ True ∧ (True ∧ True) ∧ True ∧ True ∧ True) (by kernel_rfl) rfl
   ⟨tt,tt,tt,tt,tt,⟨tt,tt⟩,tt,tt,tt⟩ ?_
  refine WI.nil rfl (thenQ_normal ?_)
  refine W.keepE [3,4,5] [(3,.ptr 3 0),(4,.i vv15),(5,.i pp15)] (by kernel_rfl) ?_
  refine W.to (⟨[(3,.ptr 3 0),(4,.i vv15),(5,.i pp15)],[(3,⟨26,.fix (cC g15)⟩)],[3,999]⟩) rfl ?_
  refine Kk cok tab5 hnt [] [3,4,5,6,7] (⟨[(3,.ptr 3 0),(4,.i vv15),(5,.i pp15),(6,.ptr 6 0),(7,.b ((putIn g15 vv15 pp15).2))],[(3,⟨26,.fix (cC g15)⟩),(6,⟨26,.fix [.own 23 (List.length ((putIn g15 vv15 pp15).1.up)),.own 1023 (List.length ((putIn g15 vv15 pp15).1.down)),.i ((putIn g15 vv15 pp15).1.value),.i ((putIn g15 vv15 pp15).1.time),.i ((putIn g15 vv15 pp15).1.proc),.own 2023 (List.length ((putIn g15 vv15 pp15).1.marks))]⟩),(23,⟨3,.row (.ints ((putIn g15 vv15 pp15).1.up))⟩),(1023,⟨3,.row (.ints ((putIn g15 vv15 pp15).1.down))⟩),(2023,⟨33,.row (.marks ((putIn g15 vv15 pp15).1.marks))⟩)],[6,2023,1023,23,3,999]⟩)
   (True ∧ True ∧ True ∧ (True ∧ ((True ∧ True ∧ True ∧ True ∧ True ∧ True ∧ True ∧ True) ∧ True ∧ True ∧ True) ∧ True) ∧ True ∧ True ∧ True ∧ True ∧ (True ∧ True) ∧ True ∧ True)
   ⟨tt,tt,tt,⟨tt,⟨⟨tt,tt,tt,tt,tt,tt,tt,tt⟩,tt,tt,tt⟩,tt⟩,tt,tt,tt,tt,⟨tt,tt⟩,tt,tt⟩ ?_
  refine Kk cok tab5 hnt [] [3,4,6,7,8,9] (⟨[(3,.ptr 3 0),(4,.i vv15),(6,.ptr 6 0),(7,.b ((putIn g15 vv15 pp15).2)),(8,.ptr 8 0),(9,.b ((putIn g15 vv15 pp15).2))],[(3,⟨26,.fix (cC g15)⟩),(6,⟨26,.fix [.own 23 (List.length ((putIn g15 vv15 pp15).1.up)),.own 1023 (List.length ((putIn g15 vv15 pp15).1.down)),.i ((putIn g15 vv15 pp15).1.value),.i ((putIn g15 vv15 pp15).1.time),.i ((putIn g15 vv15 pp15).1.proc),.own 2023 (List.length ((putIn g15 vv15 pp15).1.marks))]⟩),(8,⟨26,.fix (cC ((putIn g15 vv15 pp15).1))⟩),(23,⟨3,.row (.ints ((putIn g15 vv15 pp15).1.up))⟩),(1023,⟨3,.row (.ints ((putIn g15 vv15 pp15).1.down))⟩),(2023,⟨33,.row (.marks ((putIn g15 vv15 pp15).1.marks))⟩)],[8,6,2023,1023,23,3,999]⟩)
   (True ∧ True ∧ True ∧ (True ∧ ((True ∧ True ∧ True ∧ True ∧ True ∧ True ∧ True ∧ True) ∧ True ∧ True ∧ True) ∧ True) ∧ True ∧ True ∧ True ∧ True ∧ (True ∧ True) ∧ True ∧ True)
   ⟨tt,tt,tt,⟨tt,⟨⟨tt,tt,tt,tt,tt,tt,tt,tt⟩,tt,tt,tt⟩,tt⟩,tt,tt,tt,tt,⟨tt,tt⟩,tt,tt⟩ ?_
  refine W.seq ?_
  refine Kk cok tab5 hnt [] [3,4,6,7,8,9,45] ((fun (Z1:Bool)=>(⟨[(3,.ptr 3 0),(4,.i vv15),(6,.ptr 6 0),(7,.b Z1),(8,.ptr 8 0),(9,.b Z1),(45,.b (((!(sameC (putIn g15 vv15 pp15).1 (putIn g15 vv15 pp15).1)) || (Z1 != Z1)) || (!Z1)))],[(3,⟨26,.fix (cC g15)⟩),(6,⟨26,.fix [.own 23 (List.length ((putIn g15 vv15 pp15).1.up)),.own 1023 (List.length ((putIn g15 vv15 pp15).1.down)),.i ((putIn g15 vv15 pp15).1.value),.i ((putIn g15 vv15 pp15).1.time),.i ((putIn g15 vv15 pp15).1.proc),.own 2023 (List.length ((putIn g15 vv15 pp15).1.marks))]⟩),(8,⟨26,.fix (cC ((putIn g15 vv15 pp15).1))⟩),(23,⟨3,.row (.ints ((putIn g15 vv15 pp15).1.up))⟩),(1023,⟨3,.row (.ints ((putIn g15 vv15 pp15).1.down))⟩),(2023,⟨33,.row (.marks ((putIn g15 vv15 pp15).1.marks))⟩)],[8,6,2023,1023,23,3,999]⟩:St)) ((putIn g15 vv15 pp15).2))
   ((fun (Z1:Bool)=>((fun (Z2:Bool)=>(True ∧ (True ∧ ((True ∧ (((True ∧ ((True ∧ ((List.length ((putIn g15 vv15 pp15).1.up)) = (List.length ((putIn g15 vv15 pp15).1.up)))) ∧ ((True ∧ ((List.length ((putIn g15 vv15 pp15).1.down)) = (List.length ((putIn g15 vv15 pp15).1.down)))) ∧ (True ∧ (True ∧ (True ∧ ((True ∧ ((List.length ((putIn g15 vv15 pp15).1.marks)) = (List.length ((putIn g15 vv15 pp15).1.marks)))) ∧ True))))))) ∧ ((True ∧ (True ∧ (True ∧ (True ∧ (True ∧ (True ∧ (True ∧ True))))))) ∧ True)) ∧ True)) ∧ (True ∧ (True ∧ (((!Z1) = true → True) ∧ (((!Z1) = true → True) ∧ (((!Z1) = true → ((((!Z1) = true) ∧ True) ∧ (((!Z1) = true) ∧ True))) ∧ ((True ∧ ((Z1 = true → True) ∧ (Z1 = false → ((!Z1) = true) ∧ True))) ∧ (True ∧ (((!Z2) = true → True) ∧ (((!Z2) = true → (((!Z2) = true) ∧ True)) ∧ ((True ∧ ((Z2 = true → True) ∧ (Z2 = false → ((!Z2) = true) ∧ True))) ∧ True)))))))))))))) (Z1 || (((putIn g15 vv15 pp15).2) != ((putIn g15 vv15 pp15).2))))) (!(sameC (putIn g15 vv15 pp15).1 (putIn g15 vv15 pp15).1)))
   ⟨tt,tt,⟨tt,⟨⟨tt,⟨tt,rfl⟩,⟨tt,rfl⟩,tt,tt,tt,⟨tt,rfl⟩,tt⟩,⟨tt,tt,tt,tt,tt,tt,tt,tt⟩,tt⟩,tt⟩,tt,tt,(fun _ => trivial),(fun _ => trivial),(fun hG => ⟨⟨hG,tt⟩,hG,tt⟩),⟨tt,(fun _ => trivial),(fun hp => ⟨(not_t hp),tt⟩)⟩,tt,(fun _ => trivial),(fun hG => ⟨hG,tt⟩),⟨tt,(fun _ => trivial),(fun hp => ⟨(not_t hp),tt⟩)⟩,tt⟩ ?_
  refine W.if' (((!(sameC (putIn g15 vv15 pp15).1 (putIn g15 vv15 pp15).1)) || (((putIn g15 vv15 pp15).2) != ((putIn g15 vv15 pp15).2))) || (!((putIn g15 vv15 pp15).2))) (.b (((!(sameC (putIn g15 vv15 pp15).1 (putIn g15 vv15 pp15).1)) || (((putIn g15 vv15 pp15).2) != ((putIn g15 vv15 pp15).2))) || (!((putIn g15 vv15 pp15).2)))) (by kernel_rfl) rfl trivial ?_ ?_
  ·intro h45
   refine Kk cok tab5 hnt [] [2] (⟨[(2,.b ((sameC (putIn g15 vv15 pp15).1 (putIn g15 vv15 pp15).1) && (((putIn g15 vv15 pp15).2) == ((putIn g15 vv15 pp15).2))))],[(3,⟨26,.fix (cC g15)⟩),(6,⟨26,.fix [.own 23 (List.length ((putIn g15 vv15 pp15).1.up)),.own 1023 (List.length ((putIn g15 vv15 pp15).1.down)),.i ((putIn g15 vv15 pp15).1.value),.i ((putIn g15 vv15 pp15).1.time),.i ((putIn g15 vv15 pp15).1.proc),.own 2023 (List.length ((putIn g15 vv15 pp15).1.marks))]⟩),(8,⟨26,.fix (cC ((putIn g15 vv15 pp15).1))⟩),(23,⟨3,.row (.ints ((putIn g15 vv15 pp15).1.up))⟩),(1023,⟨3,.row (.ints ((putIn g15 vv15 pp15).1.down))⟩),(2023,⟨33,.row (.marks ((putIn g15 vv15 pp15).1.marks))⟩)],[8,6,2023,1023,23,3,999]⟩)
    ((fun (Z1:Bool)=>(True ∧ (True ∧ ((True ∧ (((True ∧ ((True ∧ ((List.length ((putIn g15 vv15 pp15).1.up)) = (List.length ((putIn g15 vv15 pp15).1.up)))) ∧ ((True ∧ ((List.length ((putIn g15 vv15 pp15).1.down)) = (List.length ((putIn g15 vv15 pp15).1.down)))) ∧ (True ∧ (True ∧ (True ∧ ((True ∧ ((List.length ((putIn g15 vv15 pp15).1.marks)) = (List.length ((putIn g15 vv15 pp15).1.marks)))) ∧ True))))))) ∧ ((True ∧ (True ∧ (True ∧ (True ∧ (True ∧ (True ∧ (True ∧ True))))))) ∧ True)) ∧ True)) ∧ (True ∧ ((Z1 = true → True) ∧ ((Z1 = true → True) ∧ ((Z1 = true → (((Z1 = true) ∧ True) ∧ ((Z1 = true) ∧ True))) ∧ ((True ∧ ((Z1 = true → (Z1 = true) ∧ True) ∧ (Z1 = false → True))) ∧ (True ∧ True)))))))))) (sameC (putIn g15 vv15 pp15).1 (putIn g15 vv15 pp15).1))
    ⟨tt,tt,⟨tt,⟨⟨tt,⟨tt,rfl⟩,⟨tt,rfl⟩,tt,tt,tt,⟨tt,rfl⟩,tt⟩,⟨tt,tt,tt,tt,tt,tt,tt,tt⟩,tt⟩,tt⟩,tt,(fun _ => trivial),(fun _ => trivial),(fun hG => ⟨⟨hG,tt⟩,hG,tt⟩),⟨tt,(fun hp => ⟨hp,tt⟩),(fun _ => trivial)⟩,tt,tt⟩ ?_
   refine W.ret (thenQ_ret ?_)
   exact endQ_ret (.b ((sameC (putIn g15 vv15 pp15).1 (putIn g15 vv15 pp15).1) && (((putIn g15 vv15 pp15).2) == ((putIn g15 vv15 pp15).2)))) (by kernel_rfl) (@cast ((.bool ((sameC (putIn g15 vv15 pp15).1 (putIn g15 vv15 pp15).1) && (((putIn g15 vv15 pp15).2) == ((putIn g15 vv15 pp15).2))) : Value) = .bool true) _ (by kernel_rfl) (congrArg Value.bool (by simp [same_refl])))
  ·intro n45
   refine W.skip (thenQ_normal ?_)
   refine Kk cok tab5 hnt [] [2] (⟨[(2,.b (((hasInt (valuesC (putIn g15 vv15 pp15).1) vv15) && (decide ((((List.length ((putIn g15 vv15 pp15).1.marks)) : Nat) : Int) = ((((List.length g15.marks) + 1) : Nat) : Int)))) && (withinC g15 (putIn g15 vv15 pp15).1)))],[(3,⟨26,.fix (cC g15)⟩),(6,⟨26,.fix [.own 23 (List.length ((putIn g15 vv15 pp15).1.up)),.own 1023 (List.length ((putIn g15 vv15 pp15).1.down)),.i ((putIn g15 vv15 pp15).1.value),.i ((putIn g15 vv15 pp15).1.time),.i ((putIn g15 vv15 pp15).1.proc),.own 2023 (List.length ((putIn g15 vv15 pp15).1.marks))]⟩),(8,⟨26,.fix (cC ((putIn g15 vv15 pp15).1))⟩),(23,⟨3,.row (.ints ((putIn g15 vv15 pp15).1.up))⟩),(1023,⟨3,.row (.ints ((putIn g15 vv15 pp15).1.down))⟩),(2023,⟨33,.row (.marks ((putIn g15 vv15 pp15).1.marks))⟩)],[55,8,6,2023,1023,23,3,999]⟩)
    ((fun (Z1:Bool)=>((fun (Z2:Bool)=>(True ∧ (((True ∧ (((True ∧ ((True ∧ ((List.length ((putIn g15 vv15 pp15).1.up)) = (List.length ((putIn g15 vv15 pp15).1.up)))) ∧ ((True ∧ ((List.length ((putIn g15 vv15 pp15).1.down)) = (List.length ((putIn g15 vv15 pp15).1.down)))) ∧ (True ∧ (True ∧ (True ∧ ((True ∧ ((List.length ((putIn g15 vv15 pp15).1.marks)) = (List.length ((putIn g15 vv15 pp15).1.marks)))) ∧ True))))))) ∧ True) ∧ True)) ∧ ((List.length (valuesC (putIn g15 vv15 pp15).1)) = (List.length (valuesC (putIn g15 vv15 pp15).1)))) ∧ (True ∧ ((True ∧ ((True ∧ (True ∧ True)) ∧ True)) ∧ (True ∧ ((Z1 = true → True) ∧ ((Z1 = true → ((Z1 = true) ∧ True)) ∧ ((Z1 = true → ((Z1 = true) ∧ True)) ∧ ((Z1 = true → True) ∧ ((Z1 = true → ((Z1 = true) ∧ True)) ∧ ((Z1 = true → ((Z1 = true) ∧ True)) ∧ ((Z1 = true → (((Z1 = true) ∧ True) ∧ (True ∧ (Fits .i64 ((((List.length g15.marks) + 1) : Nat) : Int))))) ∧ ((Z1 = true → (((Z1 = true) ∧ True) ∧ (((Z1 = true) ∧ True) ∧ True))) ∧ ((True ∧ ((Z1 = true → (Z1 = true) ∧ True) ∧ (Z1 = false → True))) ∧ (True ∧ ((Z2 = true → True) ∧ ((Z2 = true → True) ∧ ((Z2 = true → (True ∧ (((((Z2 = true) ∧ True) ∧ (True ∧ (True ∧ (True ∧ (True ∧ (True ∧ (True ∧ True))))))) ∧ ((((Z2 = true) ∧ True) ∧ ((True ∧ ((List.length ((putIn g15 vv15 pp15).1.up)) = (List.length ((putIn g15 vv15 pp15).1.up)))) ∧ ((True ∧ ((List.length ((putIn g15 vv15 pp15).1.down)) = (List.length ((putIn g15 vv15 pp15).1.down)))) ∧ (True ∧ (True ∧ (True ∧ ((True ∧ ((List.length ((putIn g15 vv15 pp15).1.marks)) = (List.length ((putIn g15 vv15 pp15).1.marks)))) ∧ True))))))) ∧ True)) ∧ True))) ∧ ((True ∧ ((Z2 = true → (Z2 = true) ∧ True) ∧ (Z2 = false → True))) ∧ (True ∧ True))))))))))))))))))))) (Z1 && (decide ((((List.length ((putIn g15 vv15 pp15).1.marks)) : Nat) : Int) = ((((List.length g15.marks) + 1) : Nat) : Int)))))) (hasInt (valuesC (putIn g15 vv15 pp15).1) vv15))
    ⟨tt,⟨⟨tt,⟨⟨tt,⟨tt,rfl⟩,⟨tt,rfl⟩,tt,tt,tt,⟨tt,rfl⟩,tt⟩,tt⟩,tt⟩,rfl⟩,tt,⟨tt,⟨tt,tt,tt⟩,tt⟩,tt,(fun _ => trivial),(fun hG => ⟨hG,tt⟩),(fun hG => ⟨hG,tt⟩),(fun _ => trivial),(fun hG => ⟨hG,tt⟩),(fun hG => ⟨hG,tt⟩),(fun hG => ⟨⟨hG,tt⟩,tt,(by have h9 : smallK g15 := (by assumption); unfold smallK at h9; exact fits_i64 (by omega) (by omega))⟩),(fun hG => ⟨⟨hG,tt⟩,⟨hG,tt⟩,tt⟩),⟨tt,(fun hp => ⟨hp,tt⟩),(fun _ => trivial)⟩,tt,(fun _ => trivial),(fun _ => trivial),(fun hG => ⟨tt,⟨⟨⟨hG,tt⟩,tt,tt,tt,tt,tt,tt,tt⟩,⟨⟨hG,tt⟩,⟨tt,rfl⟩,⟨tt,rfl⟩,tt,tt,tt,⟨tt,rfl⟩,tt⟩,tt⟩,tt⟩),⟨tt,(fun hp => ⟨hp,tt⟩),(fun _ => trivial)⟩,tt,tt⟩ ?_
   refine W.ret ?_
   exact endQ_ret (.b (((hasInt (valuesC (putIn g15 vv15 pp15).1) vv15) && (decide ((((List.length ((putIn g15 vv15 pp15).1.marks)) : Nat) : Int) = ((((List.length g15.marks) + 1) : Nat) : Int)))) && (withinC g15 (putIn g15 vv15 pp15).1))) (by kernel_rfl) (@cast ((.bool (((hasInt (valuesC (putIn g15 vv15 pp15).1) vv15) && (decide ((((List.length ((putIn g15 vv15 pp15).1.marks)) : Nat) : Int) = ((((List.length g15.marks) + 1) : Nat) : Int)))) && (withinC g15 (putIn g15 vv15 pp15).1)) : Value) = .bool true) _ (by kernel_rfl) (congrArg Value.bool (by exact put_law (not_g (or_r n45)))))
end Go.Proofs.Try
