import Derived.Test.YtjcapebfkgoicaaDoorTF6S0
import Derived.Test.YtjcapebfkgoicaaDoorTF6S1
import Derived.Test.YtjcapebfkgoicaaDoorTF6S3
import Derived.Test.YtjcapebfkgoicaaDoorTF6S5
import Derived.Test.YtjcapebfkgoicaaDoorTF6S6
set_option linter.unusedSimpArgs false
set_option linter.unusedVariables false
namespace Go.Proofs.Tryd
open Go.Ab Go.RowKit
def fs6 : FnS := fnS [.o] [.str] (fun _ (s,_) => (.b true,[],True))
abbrev T6 : Tab := lk [(11,fs11),(14,fs14),(17,fs17),(19,fs19)]
theorem tab6 : TabOK prog T6 := (TabOK.cons ok11 ent11 (TabOK.cons ok14 ent14 (TabOK.cons ok17 ent17 (TabOK.cons ok19 ent19 TabOK.nil))))
set_option maxRecDepth 100000 in
set_option maxHeartbeats 1000000 in
theorem ok6 : FnOK prog 6 fs6 := by
 refine FnOK.mk cok func6 rfl rfl rfl ?_
 rintro fl ⟨(s : ByteArray),_⟩ hpre F hnt0 _
 have hnt : F.nt = 66 := hnt0.trans ntmps6
 clear hpre
 refine W.to (⟨[(0,.v (.string s))],[],[999]⟩) rfl ?_
 refine Kk cok tab6 hnt [] [0] (⟨[(0,.v (.string s))],[],[999]⟩)
  (True ∧ True)
  ⟨tt,tt⟩ ?_
 refine W.seq ?_
 refine Kk cok tab6 hnt [] [0,13] (⟨[(0,.v (.string s)),(13,.b (decide ((1048576 : Int) < ((s.size : Nat) : Int))))],[],[999]⟩)
  (True ∧ True ∧ (True ∧ True ∧ True) ∧ True)
  ⟨tt,tt,⟨tt,tt,tt⟩,tt⟩ ?_
 refine W.ifP ((1048576 : Int) < ((s.size : Nat) : Int)) (.b (decide ((1048576 : Int) < ((s.size : Nat) : Int)))) (by kernel_rfl) rfl trivial ?_ ?_
 ·intro h13
  refine Kk cok tab6 hnt [] [2] (⟨[(2,.b true)],[],[999]⟩)
   (True ∧ True)
   ⟨tt,tt⟩ ?_
  refine W.ret (thenQ_ret ?_)
  exact endQ_ret (.b true) (by kernel_rfl) (@cast (Sv (.bool true)) _ (by kernel_rfl) rfl)
 ·intro n13
  have hpl := parse_len s.data.toList
  refine W.skip (thenQ_normal ?_)
  refine Kk cok tab6 hnt [] [0,3,4] (⟨[(0,.v (.string s)),(3,.sl (.calls ((parseS s.data.toList).1))),(4,.b ((parseS s.data.toList).2))],[],[999]⟩)
   (True ∧ (True ∧ (True ∧ True) ∧ (s.size ≤ 1999999)) ∧ True ∧ True ∧ True ∧ True ∧ True ∧ True)
   ⟨tt,⟨tt,⟨tt,tt⟩,(by omega)⟩,tt,tt,tt,tt,tt,tt⟩ ?_
  refine Kk cok tab6 hnt [] [0,3,4,5,6] (⟨[(0,.v (.string s)),(3,.sl (.calls ((parseS s.data.toList).1))),(4,.b ((parseS s.data.toList).2)),(5,.own 21 (List.length ((parseI s.data.toList).1))),(6,.b ((parseI s.data.toList).2))],[(21,⟨40,.row (.calls ((parseI s.data.toList).1))⟩)],[21,999]⟩)
   (True ∧ (True ∧ (True ∧ True) ∧ (s.size ≤ 1999999)) ∧ True ∧ True ∧ True ∧ True ∧ True ∧ True)
   ⟨tt,⟨tt,⟨tt,tt⟩,(by omega)⟩,tt,tt,tt,tt,tt,tt⟩ ?_
  refine W.seq ?_
  refine Kk cok tab6 hnt [] [0,3,4,5,32] (⟨[(0,.v (.string s)),(3,.sl (.calls ((parseS s.data.toList).1))),(4,.b ((parseS s.data.toList).2)),(5,.own 21 (List.length ((parseI s.data.toList).1))),(32,.b ((!(decide (((parseI s.data.toList).1) = ((parseS s.data.toList).1)))) || (((parseI s.data.toList).2) != ((parseS s.data.toList).2))))],[(21,⟨40,.row (.calls ((parseI s.data.toList).1))⟩)],[21,999]⟩)
   ((fun (Z1:Bool)=>(True ∧ (True ∧ ((True ∧ (((True ∧ ((List.length ((parseI s.data.toList).1)) = (List.length ((parseI s.data.toList).1)))) ∧ (True ∧ True)) ∧ True)) ∧ (True ∧ (True ∧ (((!Z1) = true → True) ∧ (((!Z1) = true → True) ∧ (((!Z1) = true → ((((!Z1) = true) ∧ True) ∧ (((!Z1) = true) ∧ True))) ∧ ((True ∧ ((Z1 = true → True) ∧ (Z1 = false → ((!Z1) = true) ∧ True))) ∧ True)))))))))) (!(decide (((parseI s.data.toList).1) = ((parseS s.data.toList).1)))))
   ⟨tt,tt,⟨tt,⟨⟨tt,rfl⟩,tt,tt⟩,tt⟩,tt,tt,(fun _ => trivial),(fun _ => trivial),(fun hG => ⟨⟨hG,tt⟩,hG,tt⟩),⟨tt,(fun _ => trivial),(fun hp => ⟨(not_t hp),tt⟩)⟩,tt⟩ ?_
  refine W.if' ((!(decide (((parseI s.data.toList).1) = ((parseS s.data.toList).1)))) || (((parseI s.data.toList).2) != ((parseS s.data.toList).2))) (.b ((!(decide (((parseI s.data.toList).1) = ((parseS s.data.toList).1)))) || (((parseI s.data.toList).2) != ((parseS s.data.toList).2)))) (by kernel_rfl) rfl trivial ?_ ?_
  ·intro h32
   refine Kk cok tab6 hnt [] [2] (⟨[(2,.b false)],[(21,⟨40,.row (.calls ((parseI s.data.toList).1))⟩)],[21,999]⟩)
    (True ∧ True)
    ⟨tt,tt⟩ ?_
   refine W.ret (thenQ_ret ?_)
   exact endQ_ret (.b false) (by kernel_rfl) (@cast ((.bool false : Value) = .bool true) _ (by kernel_rfl) (congrArg Value.bool (by exfalso; rw [parse_eq] at h32; first | done | simp at h32)))
  ·intro n32
   refine W.skip (thenQ_normal ?_)
   refine Kk cok tab6 hnt [] [0,3,4,5,7] (⟨[(0,.v (.string s)),(3,.sl (.calls ((parseS s.data.toList).1))),(4,.b ((parseS s.data.toList).2)),(5,.own 21 (List.length ((parseI s.data.toList).1))),(7,.i (1 : Int))],[(21,⟨40,.row (.calls ((parseI s.data.toList).1))⟩)],[21,999]⟩)
    (True ∧ True)
    ⟨tt,tt⟩ ?_
   refine W.seq (W.wi ?_)
   refine WI.runT cok tab6 hnt [] 2 2 (⟨[(0,.v (.string s)),(3,.sl (.calls ((parseS s.data.toList).1))),(4,.b ((parseS s.data.toList).2)),(5,.own 21 (List.length ((parseI s.data.toList).1))),(7,.i (1 : Int)),(33,.own 21 (List.length ((parseI s.data.toList).1))),(34,.i (1 : Int))],[(21,⟨40,.row (.calls ((parseI s.data.toList).1))⟩)],[21,999]⟩)
    (True ∧ True ∧ True) (by kernel_rfl) rfl
    ⟨tt,tt,tt⟩ ?_
   refine WI.callH _ [.own 21 (List.length ((parseI s.data.toList).1)),.i (1 : Int)] [] (.fn 18 []) _ _ [(911,21)] (hok18 ((parseI s.data.toList).1) (1 : Int) ⟨(by omega),(by omega)⟩) ent18 hnt rfl rfl (wanted_none rfl) (by kernel_rfl) (by kernel_rfl) trivial (by kernel_rfl) (by kernel_rfl) (by kernel_rfl) (@cast (((some ⟨40,.row (.calls ((parseI s.data.toList).1))⟩ : Option LB) = some ⟨40,.row (.calls ((parseI s.data.toList).1))⟩) ∧ (true = true) ∧ (True)) _ (by kernel_rfl) ⟨rfl,rfl,tt⟩) (by kernel_rfl) rfl ?_
   rintro r s1 u1 ⟨rfl,rfl,rfl⟩
   refine ⟨[(911,21)],by kernel_rfl,WI.to (⟨[(0,.v (.string s)),(3,.sl (.calls ((parseS s.data.toList).1))),(4,.b ((parseS s.data.toList).2)),(5,.own 21 (List.length ((parseI s.data.toList).1))),(7,.i (1 : Int)),(33,.own 21 (List.length ((parseI s.data.toList).1))),(34,.i (1 : Int)),(35,.i ((1 : Int) + 7 * ((((parseI s.data.toList).1).length : Nat) : Int)))],[(21,⟨40,.row (.calls (markC ((parseI s.data.toList).1) (1 : Int)))⟩)],[21,999]⟩) 3 (by kernel_rfl) rfl ?_⟩
   refine WI.runT cok tab6 hnt [] 1 4 (⟨[(0,.v (.string s)),(3,.sl (.calls ((parseS s.data.toList).1))),(4,.b ((parseS s.data.toList).2)),(5,.own 21 (List.length ((parseI s.data.toList).1))),(7,.i ((1 : Int) + 7 * ((((parseI s.data.toList).1).length : Nat) : Int))),(33,.own 21 (List.length ((parseI s.data.toList).1))),(34,.i (1 : Int)),(35,.i ((1 : Int) + 7 * ((((parseI s.data.toList).1).length : Nat) : Int)))],[(21,⟨40,.row (.calls (markC ((parseI s.data.toList).1) (1 : Int)))⟩)],[21,999]⟩)
    (True ∧ True) (by kernel_rfl) rfl
    ⟨tt,tt⟩ ?_
   refine WI.nil rfl (thenQ_normal ?_)
   refine W.keepE [0,3,4,5,7] [(0,.v (.string s)),(3,.sl (.calls ((parseS s.data.toList).1))),(4,.b ((parseS s.data.toList).2)),(5,.own 21 (List.length ((parseI s.data.toList).1))),(7,.i ((1 : Int) + 7 * ((((parseI s.data.toList).1).length : Nat) : Int)))] (by kernel_rfl) ?_
   refine W.to (⟨[(0,.v (.string s)),(3,.sl (.calls ((parseS s.data.toList).1))),(4,.b ((parseS s.data.toList).2)),(5,.own 21 (List.length ((parseI s.data.toList).1))),(7,.i ((1 : Int) + 7 * ((((parseI s.data.toList).1).length : Nat) : Int)))],[(21,⟨40,.row (.calls (markC ((parseI s.data.toList).1) (1 : Int)))⟩)],[21,999]⟩) rfl ?_
   refine Kk cok tab6 hnt [] [0,3,4,5,7,8] (⟨[(0,.v (.string s)),(3,.sl (.calls ((parseS s.data.toList).1))),(4,.b ((parseS s.data.toList).2)),(5,.own 21 (List.length ((parseI s.data.toList).1))),(7,.i ((1 : Int) + 7 * ((((parseI s.data.toList).1).length : Nat) : Int))),(8,.i (1 : Int))],[(21,⟨40,.row (.calls (markC ((parseI s.data.toList).1) (1 : Int)))⟩)],[21,999]⟩)
    (True ∧ True)
    ⟨tt,tt⟩ ?_
   refine Kk cok tab6 hnt [] [0,3,4,5,7,8] (⟨[(0,.v (.string s)),(3,.sl (.calls ((parseS s.data.toList).1))),(4,.b ((parseS s.data.toList).2)),(5,.own 21 (List.length ((parseI s.data.toList).1))),(7,.i ((1 : Int) + 7 * ((((parseI s.data.toList).1).length : Nat) : Int))),(8,.i (heldC (markC ((parseI s.data.toList).1) (1 : Int)) (1 : Int)))],[(21,⟨40,.row (.calls (markC ((parseI s.data.toList).1) (1 : Int)))⟩)],[21,999]⟩)
    (True ∧ True ∧ (True ∧ ((True ∧ ((List.length ((parseI s.data.toList).1)) = (List.length (markC ((parseI s.data.toList).1) (1 : Int))))) ∧ True ∧ True) ∧ ((markC ((parseI s.data.toList).1) (1 : Int)).length ≤ 2000000) ∧ 0 ≤ (1 : Int) ∧ (1 : Int) ≤ 1000000000) ∧ True ∧ True)
    ⟨tt,tt,⟨tt,⟨⟨tt,(by first | omega | (rw [markC_len]; done) | (rw [markC_len]; omega))⟩,tt,tt⟩,(by first | omega | (rw [markC_len]; done) | (rw [markC_len]; omega)),(by omega)⟩,tt,tt⟩ ?_
   refine W.seq ?_
   refine Kk cok tab6 hnt [] [0,3,4,5,7,8,40] (⟨[(0,.v (.string s)),(3,.sl (.calls ((parseS s.data.toList).1))),(4,.b ((parseS s.data.toList).2)),(5,.own 21 (List.length ((parseI s.data.toList).1))),(7,.i ((1 : Int) + 7 * ((((parseI s.data.toList).1).length : Nat) : Int))),(8,.i (heldC (markC ((parseI s.data.toList).1) (1 : Int)) (1 : Int))),(40,.b (decide ((heldC (markC ((parseI s.data.toList).1) (1 : Int)) (1 : Int)) < (0 : Int))))],[(21,⟨40,.row (.calls (markC ((parseI s.data.toList).1) (1 : Int)))⟩)],[21,999]⟩)
    (True ∧ (True ∧ True ∧ True) ∧ True)
    ⟨tt,⟨tt,tt,tt⟩,tt⟩ ?_
   refine W.ifP ((heldC (markC ((parseI s.data.toList).1) (1 : Int)) (1 : Int)) < (0 : Int)) (.b (decide ((heldC (markC ((parseI s.data.toList).1) (1 : Int)) (1 : Int)) < (0 : Int)))) (by kernel_rfl) rfl trivial ?_ ?_
   ·intro h40
    refine Kk cok tab6 hnt [] [2] (⟨[(2,.b false)],[(21,⟨40,.row (.calls (markC ((parseI s.data.toList).1) (1 : Int)))⟩)],[21,999]⟩)
     (True ∧ True)
     ⟨tt,tt⟩ ?_
    refine W.ret (thenQ_ret ?_)
    exact endQ_ret (.b false) (by kernel_rfl) (@cast ((.bool false : Value) = .bool true) _ (by kernel_rfl) (congrArg Value.bool (by exfalso; rw [heldC_mark] at h40; omega)))
   ·intro n40
    refine W.skip (thenQ_normal ?_)
    refine W.seq ?_
    refine Kk cok tab6 hnt [] [0,3,4,5,7,43] (⟨[(0,.v (.string s)),(3,.sl (.calls ((parseS s.data.toList).1))),(4,.b ((parseS s.data.toList).2)),(5,.own 21 (List.length ((parseI s.data.toList).1))),(7,.i ((1 : Int) + 7 * ((((parseI s.data.toList).1).length : Nat) : Int))),(43,.b (decide ((heldC (markC ((parseI s.data.toList).1) (1 : Int)) (1 : Int)) ≠ ((1 : Int) + 7 * ((((parseI s.data.toList).1).length : Nat) : Int)))))],[(21,⟨40,.row (.calls (markC ((parseI s.data.toList).1) (1 : Int)))⟩)],[21,999]⟩)
     (True ∧ True ∧ (True ∧ True ∧ True) ∧ True)
     ⟨tt,tt,⟨tt,tt,tt⟩,tt⟩ ?_
    refine W.ifP ((heldC (markC ((parseI s.data.toList).1) (1 : Int)) (1 : Int)) ≠ ((1 : Int) + 7 * ((((parseI s.data.toList).1).length : Nat) : Int))) (.b (decide ((heldC (markC ((parseI s.data.toList).1) (1 : Int)) (1 : Int)) ≠ ((1 : Int) + 7 * ((((parseI s.data.toList).1).length : Nat) : Int))))) (by kernel_rfl) rfl trivial ?_ ?_
    ·intro h43
     refine Kk cok tab6 hnt [] [2] (⟨[(2,.b false)],[(21,⟨40,.row (.calls (markC ((parseI s.data.toList).1) (1 : Int)))⟩)],[21,999]⟩)
      (True ∧ True)
      ⟨tt,tt⟩ ?_
     refine W.ret (thenQ_ret ?_)
     exact endQ_ret (.b false) (by kernel_rfl) (@cast ((.bool false : Value) = .bool true) _ (by kernel_rfl) (congrArg Value.bool (by exfalso; rw [heldC_mark] at h43; omega)))
    ·intro n43
     refine W.skip (thenQ_normal ?_)
     refine Kk cok tab6 hnt [] [3,4,5,7,9,10] (⟨[(3,.sl (.calls ((parseS s.data.toList).1))),(4,.b ((parseS s.data.toList).2)),(5,.own 21 (List.length ((parseI s.data.toList).1))),(7,.i ((1 : Int) + 7 * ((((parseI s.data.toList).1).length : Nat) : Int))),(9,.own 46 (List.length ((parseI s.data.toList).1))),(10,.b ((parseI s.data.toList).2))],[(21,⟨40,.row (.calls (markC ((parseI s.data.toList).1) (1 : Int)))⟩),(46,⟨40,.row (.calls ((parseI s.data.toList).1))⟩)],[46,21,999]⟩)
      (True ∧ (True ∧ (True ∧ True) ∧ (s.size ≤ 1999999)) ∧ True ∧ True ∧ True ∧ True ∧ True ∧ True)
      ⟨tt,⟨tt,⟨tt,tt⟩,(by omega)⟩,tt,tt,tt,tt,tt,tt⟩ ?_
     refine W.seq ?_
     refine Kk cok tab6 hnt [] [5,7,57] (⟨[(5,.own 21 (List.length ((parseI s.data.toList).1))),(7,.i ((1 : Int) + 7 * ((((parseI s.data.toList).1).length : Nat) : Int))),(57,.b ((!(decide (((parseI s.data.toList).1) = ((parseS s.data.toList).1)))) || (((parseI s.data.toList).2) != ((parseS s.data.toList).2))))],[(21,⟨40,.row (.calls (markC ((parseI s.data.toList).1) (1 : Int)))⟩),(46,⟨40,.row (.calls ((parseI s.data.toList).1))⟩)],[46,21,999]⟩)
      ((fun (Z1:Bool)=>(True ∧ (True ∧ ((True ∧ (((True ∧ ((List.length ((parseI s.data.toList).1)) = (List.length ((parseI s.data.toList).1)))) ∧ (True ∧ True)) ∧ True)) ∧ (True ∧ (True ∧ (((!Z1) = true → True) ∧ (((!Z1) = true → True) ∧ (((!Z1) = true → ((((!Z1) = true) ∧ True) ∧ (((!Z1) = true) ∧ True))) ∧ ((True ∧ ((Z1 = true → True) ∧ (Z1 = false → ((!Z1) = true) ∧ True))) ∧ True)))))))))) (!(decide (((parseI s.data.toList).1) = ((parseS s.data.toList).1)))))
      ⟨tt,tt,⟨tt,⟨⟨tt,rfl⟩,tt,tt⟩,tt⟩,tt,tt,(fun _ => trivial),(fun _ => trivial),(fun hG => ⟨⟨hG,tt⟩,hG,tt⟩),⟨tt,(fun _ => trivial),(fun hp => ⟨(not_t hp),tt⟩)⟩,tt⟩ ?_
     refine W.if' ((!(decide (((parseI s.data.toList).1) = ((parseS s.data.toList).1)))) || (((parseI s.data.toList).2) != ((parseS s.data.toList).2))) (.b ((!(decide (((parseI s.data.toList).1) = ((parseS s.data.toList).1)))) || (((parseI s.data.toList).2) != ((parseS s.data.toList).2)))) (by kernel_rfl) rfl trivial ?_ ?_
     ·intro h57
      refine Kk cok tab6 hnt [] [2] (⟨[(2,.b false)],[(21,⟨40,.row (.calls (markC ((parseI s.data.toList).1) (1 : Int)))⟩),(46,⟨40,.row (.calls ((parseI s.data.toList).1))⟩)],[46,21,999]⟩)
       (True ∧ True)
       ⟨tt,tt⟩ ?_
      refine W.ret (thenQ_ret ?_)
      exact endQ_ret (.b false) (by kernel_rfl) (@cast ((.bool false : Value) = .bool true) _ (by kernel_rfl) (congrArg Value.bool (by exfalso; rw [parse_eq] at h57; first | done | simp at h57)))
     ·intro n57
      refine W.skip (thenQ_normal ?_)
      refine Kk cok tab6 hnt [] [5,7,8] (⟨[(5,.own 21 (List.length ((parseI s.data.toList).1))),(7,.i ((1 : Int) + 7 * ((((parseI s.data.toList).1).length : Nat) : Int))),(8,.i (1 : Int))],[(21,⟨40,.row (.calls (markC ((parseI s.data.toList).1) (1 : Int)))⟩),(46,⟨40,.row (.calls ((parseI s.data.toList).1))⟩)],[46,21,999]⟩)
       (True ∧ True)
       ⟨tt,tt⟩ ?_
      refine Kk cok tab6 hnt [] [7,8] (⟨[(7,.i ((1 : Int) + 7 * ((((parseI s.data.toList).1).length : Nat) : Int))),(8,.i (heldC (markC ((parseI s.data.toList).1) (1 : Int)) (1 : Int)))],[(21,⟨40,.row (.calls (markC ((parseI s.data.toList).1) (1 : Int)))⟩),(46,⟨40,.row (.calls ((parseI s.data.toList).1))⟩)],[46,21,999]⟩)
       (True ∧ True ∧ (True ∧ ((True ∧ ((List.length ((parseI s.data.toList).1)) = (List.length (markC ((parseI s.data.toList).1) (1 : Int))))) ∧ True ∧ True) ∧ ((markC ((parseI s.data.toList).1) (1 : Int)).length ≤ 2000000) ∧ 0 ≤ (1 : Int) ∧ (1 : Int) ≤ 1000000000) ∧ True ∧ True)
       ⟨tt,tt,⟨tt,⟨⟨tt,(by first | omega | (rw [markC_len]; done) | (rw [markC_len]; omega))⟩,tt,tt⟩,(by first | omega | (rw [markC_len]; done) | (rw [markC_len]; omega)),(by omega)⟩,tt,tt⟩ ?_
      refine W.seq ?_
      refine Kk cok tab6 hnt [] [7,8,62] (⟨[(7,.i ((1 : Int) + 7 * ((((parseI s.data.toList).1).length : Nat) : Int))),(8,.i (heldC (markC ((parseI s.data.toList).1) (1 : Int)) (1 : Int))),(62,.b (decide ((heldC (markC ((parseI s.data.toList).1) (1 : Int)) (1 : Int)) < (0 : Int))))],[(21,⟨40,.row (.calls (markC ((parseI s.data.toList).1) (1 : Int)))⟩),(46,⟨40,.row (.calls ((parseI s.data.toList).1))⟩)],[46,21,999]⟩)
       (True ∧ (True ∧ True ∧ True) ∧ True)
       ⟨tt,⟨tt,tt,tt⟩,tt⟩ ?_
      refine W.ifP ((heldC (markC ((parseI s.data.toList).1) (1 : Int)) (1 : Int)) < (0 : Int)) (.b (decide ((heldC (markC ((parseI s.data.toList).1) (1 : Int)) (1 : Int)) < (0 : Int)))) (by kernel_rfl) rfl trivial ?_ ?_
      ·intro h62
       refine Kk cok tab6 hnt [] [2] (⟨[(2,.b false)],[(21,⟨40,.row (.calls (markC ((parseI s.data.toList).1) (1 : Int)))⟩),(46,⟨40,.row (.calls ((parseI s.data.toList).1))⟩)],[46,21,999]⟩)
        (True ∧ True)
        ⟨tt,tt⟩ ?_
       refine W.ret (thenQ_ret ?_)
       exact endQ_ret (.b false) (by kernel_rfl) (@cast ((.bool false : Value) = .bool true) _ (by kernel_rfl) (congrArg Value.bool (by exfalso; rw [heldC_mark] at h62; omega)))
      ·intro n62
       refine W.skip (thenQ_normal ?_)
       refine W.seq ?_
       refine Kk cok tab6 hnt [] [65] (⟨[(65,.b (decide ((heldC (markC ((parseI s.data.toList).1) (1 : Int)) (1 : Int)) ≠ ((1 : Int) + 7 * ((((parseI s.data.toList).1).length : Nat) : Int)))))],[(21,⟨40,.row (.calls (markC ((parseI s.data.toList).1) (1 : Int)))⟩),(46,⟨40,.row (.calls ((parseI s.data.toList).1))⟩)],[46,21,999]⟩)
        (True ∧ True ∧ (True ∧ True ∧ True) ∧ True)
        ⟨tt,tt,⟨tt,tt,tt⟩,tt⟩ ?_
       refine W.ifP ((heldC (markC ((parseI s.data.toList).1) (1 : Int)) (1 : Int)) ≠ ((1 : Int) + 7 * ((((parseI s.data.toList).1).length : Nat) : Int))) (.b (decide ((heldC (markC ((parseI s.data.toList).1) (1 : Int)) (1 : Int)) ≠ ((1 : Int) + 7 * ((((parseI s.data.toList).1).length : Nat) : Int))))) (by kernel_rfl) rfl trivial ?_ ?_
       ·intro h65
        refine Kk cok tab6 hnt [] [2] (⟨[(2,.b false)],[(21,⟨40,.row (.calls (markC ((parseI s.data.toList).1) (1 : Int)))⟩),(46,⟨40,.row (.calls ((parseI s.data.toList).1))⟩)],[46,21,999]⟩)
         (True ∧ True)
         ⟨tt,tt⟩ ?_
        refine W.ret (thenQ_ret ?_)
        exact endQ_ret (.b false) (by kernel_rfl) (@cast ((.bool false : Value) = .bool true) _ (by kernel_rfl) (congrArg Value.bool (by exfalso; rw [heldC_mark] at h65; omega)))
       ·intro n65
        refine W.skip (thenQ_normal ?_)
        refine Kk cok tab6 hnt [] [2] (⟨[(2,.b true)],[(21,⟨40,.row (.calls (markC ((parseI s.data.toList).1) (1 : Int)))⟩),(46,⟨40,.row (.calls ((parseI s.data.toList).1))⟩)],[46,21,999]⟩)
         (True ∧ True)
         ⟨tt,tt⟩ ?_
        refine W.ret ?_
        exact endQ_ret (.b true) (by kernel_rfl) (@cast (Sv (.bool true)) _ (by kernel_rfl) rfl)
end Go.Proofs.Tryd
