import Derived.Test.YtbjllmoklglgeaaLF6S0
import Derived.Test.YtbjllmoklglgeaaLF6S1
import Derived.Test.YtbjllmoklglgeaaLF6S6
import Derived.Test.YtbjllmoklglgeaaLF6S4
import Derived.Test.YtbjllmoklglgeaaLF6S5
set_option linter.unusedSimpArgs false
set_option linter.unusedVariables false
namespace Go.Proofs.Try
open Go.Ab Go.RowKit
abbrev T54 : Tab := lk [(55,fs55)]
theorem tab54 : TabOK prog T54 := (TabOK.cons ok55 ent55 TabOK.nil)
theorem ent54 : Entr prog 54 := ⟨_,func54,rfl,by decide⟩
set_option maxRecDepth 100000 in
set_option maxHeartbeats 1000000 in
theorem hokN54 : ∀ (nn : Nat) (s : ByteArray) (h : List CallD) (f : Nat → Nat → Bool) (rows : List Int) (o : List Int) (us : Int) (out : List (List Int)),((isObject s = true) ∧ (validHistory h = true) ∧ (rows = rowsOf h.length f) ∧ (headO h o) ∧ (us = mask h.length (hasN o)) ∧ (out.length + 6 ^ (h.length - o.length) ≤ 100000)) → (h.length - o.length) < nn → HOK prog 54 [901,902,903,904] [.ptr 901 0,.ep [.sl (.calls h)],.ep [.v (.string s)],.ptr 902 0,.ptr 903 0,.ep [.sl (.ints rows)],.ptr 904 0] [(811,⟨3,.row (.ints o)⟩),(812,⟨23,.row (.intss out)⟩),(901,⟨23,.fix [.own 811 o.length]⟩),(902,⟨46,.fix [.own 812 out.length]⟩),(903,⟨3,.fix [.i us]⟩),(904,⟨1,.fix [.fn 54 [.ptr 901 0,.ep [.sl (.calls h)],.ep [.v (.string s)],.ptr 902 0,.ptr 903 0,.ep [.sl (.ints rows)],.ptr 904 0]]⟩)] [901,902,903,904,811,812] (fun r s1 u1 => r = (.tup []) ∧ s1 = ([(811,⟨3,.row (.ints o)⟩),(812,⟨23,.row (.intss (out ++ ordersF s h f (h.length - o.length) o))⟩),(901,⟨23,.fix [.own 811 o.length]⟩),(902,⟨46,.fix [.own 812 (List.length (out ++ ordersF s h f (h.length - o.length) o))]⟩),(903,⟨3,.fix [.i us]⟩),(904,⟨1,.fix [.fn 54 [.ptr 901 0,.ep [.sl (.calls h)],.ep [.v (.string s)],.ptr 902 0,.ptr 903 0,.ep [.sl (.ints rows)],.ptr 904 0]]⟩)]) ∧ u1 = ([901,902,903,904,811,812])) := by
 intro nn
 induction nn with
 | zero => intro s h f rows o us out _ hmu; exact absurd hmu (Nat.not_lt_zero _)
 | succ nn ih =>
  intro s h f rows o us out hpre hmu
  obtain ⟨hs,hv,hr,ho,hu,hz⟩ := hpre
  refine HOK.of cok func54 rfl rfl rfl ?_
  intro F hnt0
  have hnt : F.nt = 70 := hnt0.trans ntmps54
  refine W.to (⟨[(0,.ptr 901 0),(1,.ep [.sl (.calls h)]),(2,.ep [.v (.string s)]),(3,.ptr 902 0),(4,.ptr 903 0),(5,.ep [.sl (.ints rows)]),(6,.ptr 904 0)],[(811,⟨3,.row (.ints o)⟩),(812,⟨23,.row (.intss out)⟩),(901,⟨23,.fix [.own 811 o.length]⟩),(902,⟨46,.fix [.own 812 out.length]⟩),(903,⟨3,.fix [.i us]⟩),(904,⟨1,.fix [.fn 54 [.ptr 901 0,.ep [.sl (.calls h)],.ep [.v (.string s)],.ptr 902 0,.ptr 903 0,.ep [.sl (.ints rows)],.ptr 904 0]]⟩)],[901,902,903,904,811,812]⟩) rfl ?_
  have hv6 := (valid_iff.1 hv).1
  have hol := ho.2.2
  have hrl : rows.length = h.length := by rw [hr,rowsOf_len]
  refine W.seq ?_
  refine W.K cok tab54 hnt [] [0,1,2,3,4,5,6,14] (⟨[(0,.ptr 901 0),(1,.ep [.sl (.calls h)]),(2,.ep [.v (.string s)]),(3,.ptr 902 0),(4,.ptr 903 0),(5,.ep [.sl (.ints rows)]),(6,.ptr 904 0),(14,.b (decide ((o.length : Int) = (h.length : Int))))],[(811,⟨3,.row (.ints o)⟩),(812,⟨23,.row (.intss out)⟩),(901,⟨23,.fix [.own 811 o.length]⟩),(902,⟨46,.fix [.own 812 out.length]⟩),(903,⟨3,.fix [.i us]⟩),(904,⟨1,.fix [.fn 54 [.ptr 901 0,.ep [.sl (.calls h)],.ep [.v (.string s)],.ptr 902 0,.ptr 903 0,.ep [.sl (.ints rows)],.ptr 904 0]]⟩)],[901,902,903,904,811,812]⟩)
   (True ∧ True ∧ True ∧ True ∧ (True ∧ True ∧ True) ∧ True) (by kernel_rfl)
   ⟨tt,tt,tt,tt,⟨tt,tt,tt⟩,tt⟩ ?_
  refine W.ifP ((o.length : Int) = (h.length : Int)) (.b (decide ((o.length : Int) = (h.length : Int)))) (by kernel_rfl) rfl trivial ?_ ?_
  ·intro h14
   refine W.seq ?_
   refine W.seq (W.wi ?_)
   refine WI.runT cok tab54 hnt [] 3 3 (⟨[(0,.ptr 901 0),(1,.ep [.sl (.calls h)]),(2,.ep [.v (.string s)]),(3,.ptr 902 0),(4,.ptr 903 0),(5,.ep [.sl (.ints rows)]),(6,.ptr 904 0),(14,.b (decide ((o.length : Int) = (h.length : Int)))),(16,.v (.string s)),(17,.sl (.calls h)),(18,.own 811 o.length)],[(811,⟨3,.row (.ints o)⟩),(812,⟨23,.row (.intss out)⟩),(901,⟨23,.fix [.own 811 o.length]⟩),(902,⟨46,.fix [.own 812 out.length]⟩),(903,⟨3,.fix [.i us]⟩),(904,⟨1,.fix [.fn 54 [.ptr 901 0,.ep [.sl (.calls h)],.ep [.v (.string s)],.ptr 902 0,.ptr 903 0,.ep [.sl (.ints rows)],.ptr 904 0]]⟩)],[901,902,903,904,811,812]⟩)
    (True ∧ True ∧ True ∧ True) (by kernel_rfl) rfl
    ⟨tt,tt,tt,tt⟩ ?_
   refine WI.callH _ [.v (.string s),.sl (.calls h),.own 811 o.length] [] (.fn 28 []) _ _ [(911,811)] (hok28h s h o ⟨(by exact hs),(by exact hv),(by exact ho.1),(by omega)⟩) ent28h hnt rfl rfl (wanted_none rfl) (by kernel_rfl) (by kernel_rfl) trivial (by kernel_rfl) (by kernel_rfl) (by kernel_rfl) (@cast (((some ⟨3,.row (.ints o)⟩ : Option LB) = some ⟨3,.row (.ints o)⟩) ∧ ((true = true) ∧ (True))) _ (by kernel_rfl) ⟨rfl,rfl,tt⟩) (by kernel_rfl) rfl ?_
   rintro r s1 u1 ⟨rfl,rfl,rfl⟩
   refine ⟨[(911,811)],by kernel_rfl,WI.to (⟨[(0,.ptr 901 0),(1,.ep [.sl (.calls h)]),(2,.ep [.v (.string s)]),(3,.ptr 902 0),(4,.ptr 903 0),(5,.ep [.sl (.ints rows)]),(6,.ptr 904 0),(14,.b (decide ((o.length : Int) = (h.length : Int)))),(16,.v (.string s)),(17,.sl (.calls h)),(18,.own 811 o.length),(19,.tup [.agg [.sl (.ints ((playedR s h o).1.getD 0 [])),.sl (.ints ((playedR s h o).1.getD 1 []))],.b ((playedR s h o).2)])],[(811,⟨3,.row (.ints o)⟩),(812,⟨23,.row (.intss out)⟩),(901,⟨23,.fix [.own 811 o.length]⟩),(902,⟨46,.fix [.own 812 out.length]⟩),(903,⟨3,.fix [.i us]⟩),(904,⟨1,.fix [.fn 54 [.ptr 901 0,.ep [.sl (.calls h)],.ep [.v (.string s)],.ptr 902 0,.ptr 903 0,.ep [.sl (.ints rows)],.ptr 904 0]]⟩)],[901,902,903,904,811,812]⟩) 4 (by kernel_rfl) rfl ?_⟩
   refine WI.runT cok tab54 hnt [] 6 10 (⟨[(0,.ptr 901 0),(1,.ep [.sl (.calls h)]),(2,.ep [.v (.string s)]),(3,.ptr 902 0),(4,.ptr 903 0),(5,.ep [.sl (.ints rows)]),(6,.ptr 904 0),(7,.ptr 7 0),(8,.b ((playedR s h o).2)),(14,.b (decide ((o.length : Int) = (h.length : Int)))),(15,.tup [.agg [.sl (.ints ((playedR s h o).1.getD 0 [])),.sl (.ints ((playedR s h o).1.getD 1 []))],.b ((playedR s h o).2)]),(16,.v (.string s)),(17,.sl (.calls h)),(18,.own 811 o.length),(19,.tup [.agg [.sl (.ints ((playedR s h o).1.getD 0 [])),.sl (.ints ((playedR s h o).1.getD 1 []))],.b ((playedR s h o).2)]),(20,.agg [.sl (.ints ((playedR s h o).1.getD 0 [])),.sl (.ints ((playedR s h o).1.getD 1 []))]),(21,.b ((playedR s h o).2))],[(7,⟨42,.row (.intss ([((playedR s h o).1.getD 0 []),((playedR s h o).1.getD 1 [])]))⟩),(811,⟨3,.row (.ints o)⟩),(812,⟨23,.row (.intss out)⟩),(901,⟨23,.fix [.own 811 o.length]⟩),(902,⟨46,.fix [.own 812 out.length]⟩),(903,⟨3,.fix [.i us]⟩),(904,⟨1,.fix [.fn 54 [.ptr 901 0,.ep [.sl (.calls h)],.ep [.v (.string s)],.ptr 902 0,.ptr 903 0,.ep [.sl (.ints rows)],.ptr 904 0]]⟩)],[7,901,902,903,904,811,812]⟩)
    (True ∧ True ∧ True ∧ True ∧ (True ∧ True ∧ ((List.length ([[],[]] : List (List Int))) = 2)) ∧ True ∧ True) (by kernel_rfl) rfl
    ⟨tt,tt,tt,tt,⟨tt,tt,(by first | rfl | assumption | omega)⟩,tt,tt⟩ ?_
   refine WI.nil rfl (thenQ_normal ?_)
   refine W.keepE [0,3,8] [(0,.ptr 901 0),(3,.ptr 902 0),(8,.b ((playedR s h o).2))] (by kernel_rfl) ?_
   refine W.to (⟨[(0,.ptr 901 0),(3,.ptr 902 0),(8,.b ((playedR s h o).2))],[(7,⟨42,.row (.intss ([((playedR s h o).1.getD 0 []),((playedR s h o).1.getD 1 [])]))⟩),(811,⟨3,.row (.ints o)⟩),(812,⟨23,.row (.intss out)⟩),(901,⟨23,.fix [.own 811 o.length]⟩),(902,⟨46,.fix [.own 812 out.length]⟩),(903,⟨3,.fix [.i us]⟩),(904,⟨1,.fix [.fn 54 [.ptr 901 0,.ep [.sl (.calls h)],.ep [.v (.string s)],.ptr 902 0,.ptr 903 0,.ep [.sl (.ints rows)],.ptr 904 0]]⟩)],[7,901,902,903,904,811,812]⟩) rfl ?_
   refine W.K cok tab54 hnt [] [0,3,22] (⟨[(0,.ptr 901 0),(3,.ptr 902 0),(22,.b ((playedR s h o).2))],[(7,⟨42,.row (.intss ([((playedR s h o).1.getD 0 []),((playedR s h o).1.getD 1 [])]))⟩),(811,⟨3,.row (.ints o)⟩),(812,⟨23,.row (.intss out)⟩),(901,⟨23,.fix [.own 811 o.length]⟩),(902,⟨46,.fix [.own 812 out.length]⟩),(903,⟨3,.fix [.i us]⟩),(904,⟨1,.fix [.fn 54 [.ptr 901 0,.ep [.sl (.calls h)],.ep [.v (.string s)],.ptr 902 0,.ptr 903 0,.ep [.sl (.ints rows)],.ptr 904 0]]⟩)],[7,901,902,903,904,811,812]⟩)
    (True ∧ True) (by kernel_rfl)
    ⟨tt,tt⟩ ?_
   refine W.if' ((playedR s h o).2) (.b ((playedR s h o).2)) (by kernel_rfl) rfl trivial ?_ ?_
   ·intro h22
    refine W.LA cok tab54 hnt [26,27] (⟨[(0,.ptr 901 0),(3,.ptr 902 0),(22,.b ((playedR s h o).2)),(23,.own 812 out.length),(24,.own 811 o.length),(25,.sl (.ints o)),(26,.own 26 (List.length ([o]))),(27,.own 27 (List.length (out ++ ([o]))))],[(7,⟨42,.row (.intss ([((playedR s h o).1.getD 0 []),((playedR s h o).1.getD 1 [])]))⟩),(26,⟨23,.row (.intss ([o]))⟩),(27,⟨23,.row (.intss (out ++ ([o])))⟩),(811,⟨3,.row (.ints o)⟩),(901,⟨23,.fix [.own 811 o.length]⟩),(902,⟨46,.fix [.own 27 (List.length (out ++ ([o])))]⟩),(903,⟨3,.fix [.i us]⟩),(904,⟨1,.fix [.fn 54 [.ptr 901 0,.ep [.sl (.calls h)],.ep [.v (.string s)],.ptr 902 0,.ptr 903 0,.ep [.sl (.ints rows)],.ptr 904 0]]⟩)],[27,26,25,7,901,902,903,904,811,812]⟩)
     (True ∧ True ∧ ((True ∧ ((True ∧ (o.length = o.length)) ∧ True) ∧ (o.length * 8 ≤ 140737488355328)) ∧ (o.length = o.length)) ∧ (True ∧ True) ∧ ((True ∧ (out.length = out.length)) ∧ (True ∧ ((List.length ([o])) = (List.length ([o])))) ∧ ((out.length + (List.length ([o]))) * 24 ≤ 140737488355328)) ∧ (True ∧ True) ∧ True) (by kernel_rfl) (by kernel_rfl)
     ⟨tt,tt,⟨⟨tt,⟨⟨tt,rfl⟩,tt⟩,(by have hp1 := Nat.pow_pos (n := h.length - o.length) (show 0 < 6 by omega); (try simp only [List.length_cons,List.length_nil]); first | omega | (rw [hoo]; omega))⟩,rfl⟩,⟨tt,tt⟩,⟨⟨tt,rfl⟩,⟨tt,rfl⟩,(by have hp1 := Nat.pow_pos (n := h.length - o.length) (show 0 < 6 by omega); (try simp only [List.length_cons,List.length_nil]); first | omega | (rw [hoo]; omega))⟩,⟨tt,tt⟩,tt⟩ ?_
    refine thenQ_normal ?_
    refine W.ret (thenQ_ret ?_)
    exact endH_ret (.tup []) [(811,⟨3,.row (.ints o)⟩),(812,⟨23,.row (.intss (out ++ ordersF s h f (h.length - o.length) o))⟩),(901,⟨23,.fix [.own 811 o.length]⟩),(902,⟨46,.fix [.own 812 (List.length (out ++ ordersF s h f (h.length - o.length) o))]⟩),(903,⟨3,.fix [.i us]⟩),(904,⟨1,.fix [.fn 54 [.ptr 901 0,.ep [.sl (.calls h)],.ep [.v (.string s)],.ptr 902 0,.ptr 903 0,.ep [.sl (.ints rows)],.ptr 904 0]]⟩)] [901,902,903,904,811,812] ⟨rfl,rfl,rfl⟩ [(901,901),(902,902),(903,903),(904,904),(811,811),(812,27)] (.tup []) (by kernel_rfl) (@cast (True ∧ (((((3 : Nat) = 3) ∧ (((.ints o : Dat) = .ints o) ∧ ((811 : Nat) ∈ ([901,902,903,904,811,812] : List Nat)))) ∧ ((((23 : Nat) = 23) ∧ (((.intss (out ++ ([o])) : Dat) = .intss (out ++ ordersF s h f (h.length - o.length) o)) ∧ ((812 : Nat) ∈ ([901,902,903,904,811,812] : List Nat)))) ∧ ((((23 : Nat) = 23) ∧ (((((811 : Nat) = 811) ∧ ((o.length = o.length) ∧ ((811 : Nat) ∈ ([901,902,903,904,811,812] : List Nat)))) ∧ True) ∧ ((901 : Nat) ∈ ([901,902,903,904,811,812] : List Nat)))) ∧ ((((46 : Nat) = 46) ∧ (((((27 : Nat) = 27) ∧ (((List.length (out ++ ([o]))) = (List.length (out ++ ordersF s h f (h.length - o.length) o))) ∧ ((812 : Nat) ∈ ([901,902,903,904,811,812] : List Nat)))) ∧ True) ∧ ((902 : Nat) ∈ ([901,902,903,904,811,812] : List Nat)))) ∧ ((((3 : Nat) = 3) ∧ ((((.int .i64 us : Value) = .int .i64 us) ∧ True) ∧ ((903 : Nat) ∈ ([901,902,903,904,811,812] : List Nat)))) ∧ ((((1 : Nat) = 1) ∧ (((((54 : Nat) = 54) ∧ ((((901 : Nat) = 901) ∧ (((0 : Nat) = 0) ∧ ((901 : Nat) ∈ ([901,902,903,904,811,812] : List Nat)))) ∧ ((((.ep [.sl (.calls h)] : AV) = .ep [.sl (.calls h)]) ∧ (([] : List Nat) = [])) ∧ ((((.ep [.v (.string s)] : AV) = .ep [.v (.string s)]) ∧ (([] : List Nat) = [])) ∧ ((((902 : Nat) = 902) ∧ (((0 : Nat) = 0) ∧ ((902 : Nat) ∈ ([901,902,903,904,811,812] : List Nat)))) ∧ ((((903 : Nat) = 903) ∧ (((0 : Nat) = 0) ∧ ((903 : Nat) ∈ ([901,902,903,904,811,812] : List Nat)))) ∧ ((((.ep [.sl (.ints rows)] : AV) = .ep [.sl (.ints rows)]) ∧ (([] : List Nat) = [])) ∧ ((((904 : Nat) = 904) ∧ (((0 : Nat) = 0) ∧ ((904 : Nat) ∈ ([901,902,903,904,811,812] : List Nat)))) ∧ True)))))))) ∧ True) ∧ ((904 : Nat) ∈ ([901,902,903,904,811,812] : List Nat)))) ∧ True)))))) ∧ ((true = true) ∧ (true = true)))) _ (by kernel_rfl) ⟨tt,⟨⟨rfl,rfl,(by decide)⟩,⟨rfl,(congrArg Dat.intss (by rw [orders_yes h14 h22])),(by decide)⟩,⟨rfl,⟨⟨rfl,rfl,(by decide)⟩,tt⟩,(by decide)⟩,⟨rfl,⟨⟨rfl,(by first | rfl | exact congrArg List.length (by rw [orders_yes h14 h22]) | omega | assumption | simp | simp_all),(by decide)⟩,tt⟩,(by decide)⟩,⟨rfl,⟨rfl,tt⟩,(by decide)⟩,⟨rfl,⟨⟨rfl,⟨rfl,rfl,(by decide)⟩,⟨rfl,rfl⟩,⟨rfl,rfl⟩,⟨rfl,rfl,(by decide)⟩,⟨rfl,rfl,(by decide)⟩,⟨rfl,rfl⟩,⟨rfl,rfl,(by decide)⟩,tt⟩,tt⟩,(by decide)⟩,tt⟩,rfl,rfl⟩)
   ·intro n22
    refine W.skip (thenQ_normal ?_)
    refine W.ret (thenQ_ret ?_)
    exact endH_ret (.tup []) [(811,⟨3,.row (.ints o)⟩),(812,⟨23,.row (.intss (out ++ ordersF s h f (h.length - o.length) o))⟩),(901,⟨23,.fix [.own 811 o.length]⟩),(902,⟨46,.fix [.own 812 (List.length (out ++ ordersF s h f (h.length - o.length) o))]⟩),(903,⟨3,.fix [.i us]⟩),(904,⟨1,.fix [.fn 54 [.ptr 901 0,.ep [.sl (.calls h)],.ep [.v (.string s)],.ptr 902 0,.ptr 903 0,.ep [.sl (.ints rows)],.ptr 904 0]]⟩)] [901,902,903,904,811,812] ⟨rfl,rfl,rfl⟩ [(901,901),(902,902),(903,903),(904,904),(811,811),(812,812)] (.tup []) (by kernel_rfl) (@cast (True ∧ (((((3 : Nat) = 3) ∧ (((.ints o : Dat) = .ints o) ∧ ((811 : Nat) ∈ ([901,902,903,904,811,812] : List Nat)))) ∧ ((((23 : Nat) = 23) ∧ (((.intss out : Dat) = .intss (out ++ ordersF s h f (h.length - o.length) o)) ∧ ((812 : Nat) ∈ ([901,902,903,904,811,812] : List Nat)))) ∧ ((((23 : Nat) = 23) ∧ (((((811 : Nat) = 811) ∧ ((o.length = o.length) ∧ ((811 : Nat) ∈ ([901,902,903,904,811,812] : List Nat)))) ∧ True) ∧ ((901 : Nat) ∈ ([901,902,903,904,811,812] : List Nat)))) ∧ ((((46 : Nat) = 46) ∧ (((((812 : Nat) = 812) ∧ ((out.length = (List.length (out ++ ordersF s h f (h.length - o.length) o))) ∧ ((812 : Nat) ∈ ([901,902,903,904,811,812] : List Nat)))) ∧ True) ∧ ((902 : Nat) ∈ ([901,902,903,904,811,812] : List Nat)))) ∧ ((((3 : Nat) = 3) ∧ ((((.int .i64 us : Value) = .int .i64 us) ∧ True) ∧ ((903 : Nat) ∈ ([901,902,903,904,811,812] : List Nat)))) ∧ ((((1 : Nat) = 1) ∧ (((((54 : Nat) = 54) ∧ ((((901 : Nat) = 901) ∧ (((0 : Nat) = 0) ∧ ((901 : Nat) ∈ ([901,902,903,904,811,812] : List Nat)))) ∧ ((((.ep [.sl (.calls h)] : AV) = .ep [.sl (.calls h)]) ∧ (([] : List Nat) = [])) ∧ ((((.ep [.v (.string s)] : AV) = .ep [.v (.string s)]) ∧ (([] : List Nat) = [])) ∧ ((((902 : Nat) = 902) ∧ (((0 : Nat) = 0) ∧ ((902 : Nat) ∈ ([901,902,903,904,811,812] : List Nat)))) ∧ ((((903 : Nat) = 903) ∧ (((0 : Nat) = 0) ∧ ((903 : Nat) ∈ ([901,902,903,904,811,812] : List Nat)))) ∧ ((((.ep [.sl (.ints rows)] : AV) = .ep [.sl (.ints rows)]) ∧ (([] : List Nat) = [])) ∧ ((((904 : Nat) = 904) ∧ (((0 : Nat) = 0) ∧ ((904 : Nat) ∈ ([901,902,903,904,811,812] : List Nat)))) ∧ True)))))))) ∧ True) ∧ ((904 : Nat) ∈ ([901,902,903,904,811,812] : List Nat)))) ∧ True)))))) ∧ ((true = true) ∧ (true = true)))) _ (by kernel_rfl) ⟨tt,⟨⟨rfl,rfl,(by decide)⟩,⟨rfl,(congrArg Dat.intss (by rw [orders_no h14 n22,List.append_nil])),(by decide)⟩,⟨rfl,⟨⟨rfl,rfl,(by decide)⟩,tt⟩,(by decide)⟩,⟨rfl,⟨⟨rfl,(by first | rfl | exact congrArg List.length (by rw [orders_no h14 n22,List.append_nil]) | omega | assumption | simp | simp_all),(by decide)⟩,tt⟩,(by decide)⟩,⟨rfl,⟨rfl,tt⟩,(by decide)⟩,⟨rfl,⟨⟨rfl,⟨rfl,rfl,(by decide)⟩,⟨rfl,rfl⟩,⟨rfl,rfl⟩,⟨rfl,rfl,(by decide)⟩,⟨rfl,rfl,(by decide)⟩,⟨rfl,rfl⟩,⟨rfl,rfl,(by decide)⟩,tt⟩,tt⟩,(by decide)⟩,tt⟩,rfl,rfl⟩)
  ·intro n14
   refine W.skip (thenQ_normal ?_)
   refine W.K cok tab54 hnt [] [0,4,5,6,29,30] (⟨[(0,.ptr 901 0),(4,.ptr 903 0),(5,.ep [.sl (.ints rows)]),(6,.ptr 904 0),(29,.i (h.length : Int)),(30,.i (0 : Int))],[(811,⟨3,.row (.ints o)⟩),(812,⟨23,.row (.intss out)⟩),(901,⟨23,.fix [.own 811 o.length]⟩),(902,⟨46,.fix [.own 812 out.length]⟩),(903,⟨3,.fix [.i us]⟩),(904,⟨1,.fix [.fn 54 [.ptr 901 0,.ep [.sl (.calls h)],.ep [.v (.string s)],.ptr 902 0,.ptr 903 0,.ep [.sl (.ints rows)],.ptr 904 0]]⟩)],[901,902,903,904,811,812]⟩)
    (True ∧ True ∧ True ∧ True) (by kernel_rfl)
    ⟨tt,tt,tt,tt⟩ ?_
   refine W.block ?_
   refine W.loop (ι := Nat × (List Int) × (List (List Int)) × Int) (fun (x : Nat × (List Int) × (List (List Int)) × Int) => match x with | (k,oo,ou,uu) => (⟨[(0,.ptr 901 0),(4,.ptr 903 0),(5,.ep [.sl (.ints rows)]),(6,.ptr 904 0),(29,.i (h.length : Int)),(30,.i ((k : Nat) : Int))],[(811,⟨3,.row (.ints oo)⟩),(812,⟨23,.row (.intss ou)⟩),(901,⟨23,.fix [.own 811 oo.length]⟩),(902,⟨46,.fix [.own 812 ou.length]⟩),(903,⟨3,.fix [.i uu]⟩),(904,⟨1,.fix [.fn 54 [.ptr 901 0,.ep [.sl (.calls h)],.ep [.v (.string s)],.ptr 902 0,.ptr 903 0,.ep [.sl (.ints rows)],.ptr 904 0]]⟩)],[811,812,901,902,903,904]⟩ : St))
    (fun (x : Nat × (List Int) × (List (List Int)) × Int) => match x with | (k,oo,ou,uu) => (k ≤ h.length) ∧ (oo = o) ∧ (uu = mask h.length (hasN o)) ∧ (ou = out ++ ordersUp s h f (h.length - o.length - 1) o k))
    (fun (x : Nat × (List Int) × (List (List Int)) × Int) => match x with | (k,oo,ou,uu) => (h.length - k : Nat)) (0,o,out,us) ?_ ?_ ?_
   ·exact (show (0 ≤ h.length) ∧ (o = o) ∧ (us = mask h.length (hasN o)) ∧ (out = out ++ ordersUp s h f (h.length - o.length - 1) o 0) from ⟨(by first | assumption | omega | rfl | (intro _ hjj; omega) | (simp; done) | (simp; omega)),(by first | assumption | omega | rfl | (intro _ hjj; omega) | (simp; done) | (simp; omega)),(by first | assumption | omega | rfl | (intro _ hjj; omega) | (simp; done) | (simp; omega)),(by simp [ordersUp])⟩)
   ·exact Sub.of [] (@cast (((((901 : Nat) = 901) ∧ (((0 : Nat) = 0) ∧ ((901 : Nat) ∈ ([811,812,901,902,903,904] : List Nat)))) ∧ ((((903 : Nat) = 903) ∧ (((0 : Nat) = 0) ∧ ((903 : Nat) ∈ ([811,812,901,902,903,904] : List Nat)))) ∧ ((((.ep [.sl (.ints rows)] : AV) = .ep [.sl (.ints rows)]) ∧ (([] : List Nat) = [])) ∧ ((((904 : Nat) = 904) ∧ (((0 : Nat) = 0) ∧ ((904 : Nat) ∈ ([811,812,901,902,903,904] : List Nat)))) ∧ (((.int .i64 (h.length : Int) : Value) = .int .i64 (h.length : Int)) ∧ (((.int .i64 (0 : Int) : Value) = .int .i64 ((0 : Nat) : Int)) ∧ True)))))) ∧ (((((3 : Nat) = 3) ∧ (((.ints o : Dat) = .ints o) ∧ ((811 : Nat) ∈ ([811,812,901,902,903,904] : List Nat)))) ∧ ((((23 : Nat) = 23) ∧ (((.intss out : Dat) = .intss out) ∧ ((812 : Nat) ∈ ([811,812,901,902,903,904] : List Nat)))) ∧ ((((23 : Nat) = 23) ∧ (((((811 : Nat) = 811) ∧ ((o.length = o.length) ∧ ((811 : Nat) ∈ ([811,812,901,902,903,904] : List Nat)))) ∧ True) ∧ ((901 : Nat) ∈ ([811,812,901,902,903,904] : List Nat)))) ∧ ((((46 : Nat) = 46) ∧ (((((812 : Nat) = 812) ∧ ((out.length = out.length) ∧ ((812 : Nat) ∈ ([811,812,901,902,903,904] : List Nat)))) ∧ True) ∧ ((902 : Nat) ∈ ([811,812,901,902,903,904] : List Nat)))) ∧ ((((3 : Nat) = 3) ∧ ((((.int .i64 us : Value) = .int .i64 us) ∧ True) ∧ ((903 : Nat) ∈ ([811,812,901,902,903,904] : List Nat)))) ∧ ((((1 : Nat) = 1) ∧ (((((54 : Nat) = 54) ∧ ((((901 : Nat) = 901) ∧ (((0 : Nat) = 0) ∧ ((901 : Nat) ∈ ([811,812,901,902,903,904] : List Nat)))) ∧ ((((.ep [.sl (.calls h)] : AV) = .ep [.sl (.calls h)]) ∧ (([] : List Nat) = [])) ∧ ((((.ep [.v (.string s)] : AV) = .ep [.v (.string s)]) ∧ (([] : List Nat) = [])) ∧ ((((902 : Nat) = 902) ∧ (((0 : Nat) = 0) ∧ ((902 : Nat) ∈ ([811,812,901,902,903,904] : List Nat)))) ∧ ((((903 : Nat) = 903) ∧ (((0 : Nat) = 0) ∧ ((903 : Nat) ∈ ([811,812,901,902,903,904] : List Nat)))) ∧ ((((.ep [.sl (.ints rows)] : AV) = .ep [.sl (.ints rows)]) ∧ (([] : List Nat) = [])) ∧ ((((904 : Nat) = 904) ∧ (((0 : Nat) = 0) ∧ ((904 : Nat) ∈ ([811,812,901,902,903,904] : List Nat)))) ∧ True)))))))) ∧ True) ∧ ((904 : Nat) ∈ ([811,812,901,902,903,904] : List Nat)))) ∧ True)))))) ∧ ((true = true) ∧ (true = true)))) _ (by kernel_rfl) ⟨⟨⟨rfl,rfl,(by decide)⟩,⟨rfl,rfl,(by decide)⟩,⟨rfl,rfl⟩,⟨rfl,rfl,(by decide)⟩,rfl,(congrArg (Value.int .i64) (by first | rfl | omega | assumption | simp | simp_all)),tt⟩,⟨⟨rfl,rfl,(by decide)⟩,⟨rfl,rfl,(by decide)⟩,⟨rfl,⟨⟨rfl,rfl,(by decide)⟩,tt⟩,(by decide)⟩,⟨rfl,⟨⟨rfl,rfl,(by decide)⟩,tt⟩,(by decide)⟩,⟨rfl,⟨rfl,tt⟩,(by decide)⟩,⟨rfl,⟨⟨rfl,⟨rfl,rfl,(by decide)⟩,⟨rfl,rfl⟩,⟨rfl,rfl⟩,⟨rfl,rfl,(by decide)⟩,⟨rfl,rfl,(by decide)⟩,⟨rfl,rfl⟩,⟨rfl,rfl,(by decide)⟩,tt⟩,tt⟩,(by decide)⟩,tt⟩,rfl,rfl⟩)
   ·rintro ⟨k,oo,ou,uu⟩ hC0
    have hC : (k ≤ h.length) ∧ (oo = o) ∧ (uu = mask h.length (hasN o)) ∧ (ou = out ++ ordersUp s h f (h.length - o.length - 1) o k) := hC0
    clear hC0
    obtain ⟨hk,hoo,huu,hou⟩ := hC
    refine W.to (⟨[(0,.ptr 901 0),(4,.ptr 903 0),(5,.ep [.sl (.ints rows)]),(6,.ptr 904 0),(29,.i (h.length : Int)),(30,.i ((k : Nat) : Int))],[(811,⟨3,.row (.ints oo)⟩),(812,⟨23,.row (.intss ou)⟩),(901,⟨23,.fix [.own 811 oo.length]⟩),(902,⟨46,.fix [.own 812 ou.length]⟩),(903,⟨3,.fix [.i uu]⟩),(904,⟨1,.fix [.fn 54 [.ptr 901 0,.ep [.sl (.calls h)],.ep [.v (.string s)],.ptr 902 0,.ptr 903 0,.ep [.sl (.ints rows)],.ptr 904 0]]⟩)],[811,812,901,902,903,904]⟩) rfl ?_
    refine W.K cok tab54 hnt [] [0,4,5,6,29,30,31] (⟨[(0,.ptr 901 0),(4,.ptr 903 0),(5,.ep [.sl (.ints rows)]),(6,.ptr 904 0),(29,.i (h.length : Int)),(30,.i ((k : Nat) : Int)),(31,.b (decide (((k : Nat) : Int) < (h.length : Int))))],[(811,⟨3,.row (.ints oo)⟩),(812,⟨23,.row (.intss ou)⟩),(901,⟨23,.fix [.own 811 oo.length]⟩),(902,⟨46,.fix [.own 812 ou.length]⟩),(903,⟨3,.fix [.i uu]⟩),(904,⟨1,.fix [.fn 54 [.ptr 901 0,.ep [.sl (.calls h)],.ep [.v (.string s)],.ptr 902 0,.ptr 903 0,.ep [.sl (.ints rows)],.ptr 904 0]]⟩)],[811,812,901,902,903,904]⟩)
     ((True ∧ True ∧ True) ∧ True) (by kernel_rfl)
     ⟨⟨tt,tt,tt⟩,tt⟩ ?_
    refine W.seq ?_
    refine W.ifP (((k : Nat) : Int) < (h.length : Int)) (.b (decide (((k : Nat) : Int) < (h.length : Int)))) (by kernel_rfl) rfl trivial ?_ ?_
    ·intro h31
     refine W.skip (thenQ_normal ?_)
     refine W.seq ?_
     refine W.block ?_
     refine W.K cok tab54 hnt [] [0,4,5,6,9,29,30] (⟨[(0,.ptr 901 0),(4,.ptr 903 0),(5,.ep [.sl (.ints rows)]),(6,.ptr 904 0),(9,.i ((k : Nat) : Int)),(29,.i (h.length : Int)),(30,.i ((k : Nat) : Int))],[(811,⟨3,.row (.ints oo)⟩),(812,⟨23,.row (.intss ou)⟩),(901,⟨23,.fix [.own 811 oo.length]⟩),(902,⟨46,.fix [.own 812 ou.length]⟩),(903,⟨3,.fix [.i uu]⟩),(904,⟨1,.fix [.fn 54 [.ptr 901 0,.ep [.sl (.calls h)],.ep [.v (.string s)],.ptr 902 0,.ptr 903 0,.ep [.sl (.ints rows)],.ptr 904 0]]⟩)],[811,812,901,902,903,904]⟩)
      (True ∧ True ∧ True) (by kernel_rfl)
      ⟨tt,tt,tt⟩ ?_
     refine W.seq ?_
     refine W.KA cok tab54 hnt [] [0,4,5,6,9,29,30,47] (⟨[(0,.ptr 901 0),(4,.ptr 903 0),(5,.ep [.sl (.ints rows)]),(6,.ptr 904 0),(9,.i ((k : Nat) : Int)),(29,.i (h.length : Int)),(30,.i ((k : Nat) : Int)),(47,.b ((decide ((bitsI .and .i64 (shrI .i64 uu ((k : Nat) : Int)) (1 : Int)) = (1 : Int))) || (decide ((bitsI .andNot .i64 (rows.getD k 0) uu) ≠ (0 : Int)))))],[(811,⟨3,.row (.ints oo)⟩),(812,⟨23,.row (.intss ou)⟩),(901,⟨23,.fix [.own 811 oo.length]⟩),(902,⟨46,.fix [.own 812 ou.length]⟩),(903,⟨3,.fix [.i uu]⟩),(904,⟨1,.fix [.fn 54 [.ptr 901 0,.ep [.sl (.calls h)],.ep [.v (.string s)],.ptr 902 0,.ptr 903 0,.ep [.sl (.ints rows)],.ptr 904 0]]⟩)],[811,812,901,902,903,904]⟩)
      (True ∧ True ∧ (True ∧ (Fits .u64 ((k : Nat) : Int))) ∧ (True ∧ True ∧ (0 ≤ ((k : Nat) : Int))) ∧ (True ∧ True ∧ True) ∧ (True ∧ True ∧ True) ∧ True ∧ ((!(decide ((bitsI .and .i64 (shrI .i64 uu ((k : Nat) : Int)) (1 : Int)) = (1 : Int)))) = true → True) ∧ ((!(decide ((bitsI .and .i64 (shrI .i64 uu ((k : Nat) : Int)) (1 : Int)) = (1 : Int)))) = true → True) ∧ ((!(decide ((bitsI .and .i64 (shrI .i64 uu ((k : Nat) : Int)) (1 : Int)) = (1 : Int)))) = true → ((((!(decide ((bitsI .and .i64 (shrI .i64 uu ((k : Nat) : Int)) (1 : Int)) = (1 : Int)))) = true) ∧ True) ∧ (((!(decide ((bitsI .and .i64 (shrI .i64 uu ((k : Nat) : Int)) (1 : Int)) = (1 : Int)))) = true) ∧ True) ∧ (0 ≤ ((k : Nat) : Int)) ∧ (((k : Nat) : Int) < (rows.length : Int)))) ∧ ((!(decide ((bitsI .and .i64 (shrI .i64 uu ((k : Nat) : Int)) (1 : Int)) = (1 : Int)))) = true → (((!(decide ((bitsI .and .i64 (shrI .i64 uu ((k : Nat) : Int)) (1 : Int)) = (1 : Int)))) = true) ∧ True)) ∧ ((!(decide ((bitsI .and .i64 (shrI .i64 uu ((k : Nat) : Int)) (1 : Int)) = (1 : Int)))) = true → True) ∧ ((!(decide ((bitsI .and .i64 (shrI .i64 uu ((k : Nat) : Int)) (1 : Int)) = (1 : Int)))) = true → ((((!(decide ((bitsI .and .i64 (shrI .i64 uu ((k : Nat) : Int)) (1 : Int)) = (1 : Int)))) = true) ∧ True) ∧ (((!(decide ((bitsI .and .i64 (shrI .i64 uu ((k : Nat) : Int)) (1 : Int)) = (1 : Int)))) = true) ∧ True) ∧ True)) ∧ ((!(decide ((bitsI .and .i64 (shrI .i64 uu ((k : Nat) : Int)) (1 : Int)) = (1 : Int)))) = true → ((((!(decide ((bitsI .and .i64 (shrI .i64 uu ((k : Nat) : Int)) (1 : Int)) = (1 : Int)))) = true) ∧ True) ∧ True ∧ True)) ∧ (True ∧ ((decide ((bitsI .and .i64 (shrI .i64 uu ((k : Nat) : Int)) (1 : Int)) = (1 : Int))) = true → True) ∧ ((decide ((bitsI .and .i64 (shrI .i64 uu ((k : Nat) : Int)) (1 : Int)) = (1 : Int))) = false → ((!(decide ((bitsI .and .i64 (shrI .i64 uu ((k : Nat) : Int)) (1 : Int)) = (1 : Int)))) = true) ∧ True)) ∧ True) (by kernel_rfl) (by kernel_rfl)
      ⟨tt,tt,⟨tt,(by exact fits_u64 (by omega) (by omega))⟩,⟨tt,tt,(by omega)⟩,⟨tt,tt,tt⟩,⟨tt,tt,tt⟩,tt,(fun _ => trivial),(fun _ => trivial),(fun hG => ⟨⟨hG,tt⟩,⟨hG,tt⟩,(by have hg0 : ¬ ((bitsI .and .i64 (shrI .i64 uu ((k : Nat) : Int)) (1 : Int)) = (1 : Int)) := of_decide_eq_false (not_f hG); omega),(by have hg0 : ¬ ((bitsI .and .i64 (shrI .i64 uu ((k : Nat) : Int)) (1 : Int)) = (1 : Int)) := of_decide_eq_false (not_f hG); omega)⟩),(fun hG => ⟨hG,tt⟩),(fun _ => trivial),(fun hG => ⟨⟨hG,tt⟩,⟨hG,tt⟩,tt⟩),(fun hG => ⟨⟨hG,tt⟩,tt,tt⟩),⟨tt,(fun _ => trivial),(fun hp => ⟨(not_t hp),tt⟩)⟩,tt⟩ ?_
     refine W.if' ((decide ((bitsI .and .i64 (shrI .i64 uu ((k : Nat) : Int)) (1 : Int)) = (1 : Int))) || (decide ((bitsI .andNot .i64 (rows.getD k 0) uu) ≠ (0 : Int)))) (.b ((decide ((bitsI .and .i64 (shrI .i64 uu ((k : Nat) : Int)) (1 : Int)) = (1 : Int))) || (decide ((bitsI .andNot .i64 (rows.getD k 0) uu) ≠ (0 : Int))))) (by kernel_rfl) rfl trivial ?_ ?_
     ·intro h47
      have hfk : freeB f h.length o k = false := free_no (by omega) (by omega) (by rw [← hr,← huu]; exact h47)
      refine W.exit (thenQ_exit (blockQ_hit ?_))
      refine thenQ_normal ?_
      refine W.L cok tab54 hnt [] (⟨[(0,.ptr 901 0),(4,.ptr 903 0),(5,.ep [.sl (.ints rows)]),(6,.ptr 904 0),(9,.i ((k : Nat) : Int)),(29,.i (h.length : Int)),(30,.i (((k + 1) : Nat) : Int)),(47,.b ((decide ((bitsI .and .i64 (shrI .i64 uu ((k : Nat) : Int)) (1 : Int)) = (1 : Int))) || (decide ((bitsI .andNot .i64 (rows.getD k 0) uu) ≠ (0 : Int))))),(69,.i (((k + 1) : Nat) : Int))],[(811,⟨3,.row (.ints oo)⟩),(812,⟨23,.row (.intss ou)⟩),(901,⟨23,.fix [.own 811 oo.length]⟩),(902,⟨46,.fix [.own 812 ou.length]⟩),(903,⟨3,.fix [.i uu]⟩),(904,⟨1,.fix [.fn 54 [.ptr 901 0,.ep [.sl (.calls h)],.ep [.v (.string s)],.ptr 902 0,.ptr 903 0,.ep [.sl (.ints rows)],.ptr 904 0]]⟩)],[811,812,901,902,903,904]⟩)
       ((True ∧ True ∧ (Fits .i64 (((k + 1) : Nat) : Int))) ∧ True ∧ True) (by kernel_rfl)
       ⟨⟨tt,tt,(by exact fits_i64 (by omega) (by omega))⟩,tt,tt⟩ ?_
      refine thenQ_normal ?_
      refine ⟨((k + 1),oo,ou,uu),(show ((k + 1) ≤ h.length) ∧ (oo = o) ∧ (uu = mask h.length (hasN o)) ∧ (ou = out ++ ordersUp s h f (h.length - o.length - 1) o (k + 1)) from ⟨(by first | assumption | omega | rfl | (intro _ hjj; omega) | (simp; done) | (simp; omega)),(by first | exact hoo | (rw [take_pop rfl]; exact hoo)),(by first | exact huu | (rw [huu,used_push (by omega) (by omega)]; exact used_pop (by omega) (by omega) (free_has hfk))),(by first | (rw [up_no hfk]; exact hou) | (rw [hoo]; exact up_step (oo := []) hfk hou))⟩),(show h.length - (k + 1) < h.length - k from (by first | omega | (simp_all; omega))),?_⟩
      exact Sub.of [] (@cast (((((901 : Nat) = 901) ∧ (((0 : Nat) = 0) ∧ ((901 : Nat) ∈ ([811,812,901,902,903,904] : List Nat)))) ∧ ((((903 : Nat) = 903) ∧ (((0 : Nat) = 0) ∧ ((903 : Nat) ∈ ([811,812,901,902,903,904] : List Nat)))) ∧ ((((.ep [.sl (.ints rows)] : AV) = .ep [.sl (.ints rows)]) ∧ (([] : List Nat) = [])) ∧ ((((904 : Nat) = 904) ∧ (((0 : Nat) = 0) ∧ ((904 : Nat) ∈ ([811,812,901,902,903,904] : List Nat)))) ∧ (((.int .i64 (h.length : Int) : Value) = .int .i64 (h.length : Int)) ∧ (((.int .i64 (((k + 1) : Nat) : Int) : Value) = .int .i64 (((k + 1) : Nat) : Int)) ∧ True)))))) ∧ (((((3 : Nat) = 3) ∧ (((.ints oo : Dat) = .ints oo) ∧ ((811 : Nat) ∈ ([811,812,901,902,903,904] : List Nat)))) ∧ ((((23 : Nat) = 23) ∧ (((.intss ou : Dat) = .intss ou) ∧ ((812 : Nat) ∈ ([811,812,901,902,903,904] : List Nat)))) ∧ ((((23 : Nat) = 23) ∧ (((((811 : Nat) = 811) ∧ ((oo.length = oo.length) ∧ ((811 : Nat) ∈ ([811,812,901,902,903,904] : List Nat)))) ∧ True) ∧ ((901 : Nat) ∈ ([811,812,901,902,903,904] : List Nat)))) ∧ ((((46 : Nat) = 46) ∧ (((((812 : Nat) = 812) ∧ ((ou.length = ou.length) ∧ ((812 : Nat) ∈ ([811,812,901,902,903,904] : List Nat)))) ∧ True) ∧ ((902 : Nat) ∈ ([811,812,901,902,903,904] : List Nat)))) ∧ ((((3 : Nat) = 3) ∧ ((((.int .i64 uu : Value) = .int .i64 uu) ∧ True) ∧ ((903 : Nat) ∈ ([811,812,901,902,903,904] : List Nat)))) ∧ ((((1 : Nat) = 1) ∧ (((((54 : Nat) = 54) ∧ ((((901 : Nat) = 901) ∧ (((0 : Nat) = 0) ∧ ((901 : Nat) ∈ ([811,812,901,902,903,904] : List Nat)))) ∧ ((((.ep [.sl (.calls h)] : AV) = .ep [.sl (.calls h)]) ∧ (([] : List Nat) = [])) ∧ ((((.ep [.v (.string s)] : AV) = .ep [.v (.string s)]) ∧ (([] : List Nat) = [])) ∧ ((((902 : Nat) = 902) ∧ (((0 : Nat) = 0) ∧ ((902 : Nat) ∈ ([811,812,901,902,903,904] : List Nat)))) ∧ ((((903 : Nat) = 903) ∧ (((0 : Nat) = 0) ∧ ((903 : Nat) ∈ ([811,812,901,902,903,904] : List Nat)))) ∧ ((((.ep [.sl (.ints rows)] : AV) = .ep [.sl (.ints rows)]) ∧ (([] : List Nat) = [])) ∧ ((((904 : Nat) = 904) ∧ (((0 : Nat) = 0) ∧ ((904 : Nat) ∈ ([811,812,901,902,903,904] : List Nat)))) ∧ True)))))))) ∧ True) ∧ ((904 : Nat) ∈ ([811,812,901,902,903,904] : List Nat)))) ∧ True)))))) ∧ ((true = true) ∧ (true = true)))) _ (by kernel_rfl) ⟨⟨⟨rfl,rfl,(by decide)⟩,⟨rfl,rfl,(by decide)⟩,⟨rfl,rfl⟩,⟨rfl,rfl,(by decide)⟩,rfl,rfl,tt⟩,⟨⟨rfl,rfl,(by decide)⟩,⟨rfl,rfl,(by decide)⟩,⟨rfl,⟨⟨rfl,rfl,(by decide)⟩,tt⟩,(by decide)⟩,⟨rfl,⟨⟨rfl,rfl,(by decide)⟩,tt⟩,(by decide)⟩,⟨rfl,⟨rfl,tt⟩,(by decide)⟩,⟨rfl,⟨⟨rfl,⟨rfl,rfl,(by decide)⟩,⟨rfl,rfl⟩,⟨rfl,rfl⟩,⟨rfl,rfl,(by decide)⟩,⟨rfl,rfl,(by decide)⟩,⟨rfl,rfl⟩,⟨rfl,rfl,(by decide)⟩,tt⟩,tt⟩,(by decide)⟩,tt⟩,rfl,rfl⟩)
     ·intro n47
      have n47_0 : ¬ ((bitsI .and .i64 (shrI .i64 uu ((k : Nat) : Int)) (1 : Int)) = (1 : Int)) := of_decide_eq_false (or_l n47)
      have n47_1 : ¬ ((bitsI .andNot .i64 (rows.getD k 0) uu) ≠ (0 : Int)) := of_decide_eq_false (or_r n47)
      have hfk : freeB f h.length o k = true := free_yes (by omega) (by omega) (by rw [← hr,← huu]; exact n47)
      refine W.skip (thenQ_normal ?_)
      refine W.KA cok tab54 hnt [51] [0,4,5,6,9,29,30] (⟨[(0,.ptr 901 0),(4,.ptr 903 0),(5,.ep [.sl (.ints rows)]),(6,.ptr 904 0),(9,.i ((k : Nat) : Int)),(29,.i (h.length : Int)),(30,.i ((k : Nat) : Int))],[(51,⟨3,.row (.ints (oo ++ ([((k : Nat) : Int)])))⟩),(812,⟨23,.row (.intss ou)⟩),(901,⟨23,.fix [.own 51 (List.length (oo ++ ([((k : Nat) : Int)])))]⟩),(902,⟨46,.fix [.own 812 ou.length]⟩),(903,⟨3,.fix [.i (bitsI .or .i64 uu (shlI .i64 (1 : Int) ((k : Nat) : Int)))]⟩),(904,⟨1,.fix [.fn 54 [.ptr 901 0,.ep [.sl (.calls h)],.ep [.v (.string s)],.ptr 902 0,.ptr 903 0,.ep [.sl (.ints rows)],.ptr 904 0]]⟩)],[51,50,811,812,901,902,903,904]⟩)
       (True ∧ True ∧ (True ∧ True) ∧ ((True ∧ (oo.length = oo.length)) ∧ True ∧ ((oo.length + (List.length ([((k : Nat) : Int)]))) * 8 ≤ 140737488355328)) ∧ True ∧ True ∧ (True ∧ (Fits .u64 ((k : Nat) : Int))) ∧ (True ∧ True ∧ (0 ≤ ((k : Nat) : Int)) ∧ (Fits .i64 (shlI .i64 (1 : Int) ((k : Nat) : Int)))) ∧ (True ∧ True ∧ True) ∧ (True ∧ True) ∧ (True ∧ True) ∧ True) (by kernel_rfl) (by kernel_rfl)
       ⟨tt,tt,⟨tt,tt⟩,⟨⟨tt,rfl⟩,tt,(by have hp1 := Nat.pow_pos (n := h.length - o.length) (show 0 < 6 by omega); (try simp only [List.length_cons,List.length_nil]); first | omega | (rw [hoo]; omega))⟩,tt,tt,⟨tt,(by exact fits_u64 (by omega) (by omega))⟩,⟨tt,tt,(by omega),(by exact fits_shl (by omega))⟩,⟨tt,tt,tt⟩,⟨tt,tt⟩,⟨tt,tt⟩,tt⟩ ?_
      refine W.seq (W.wi ?_)
      refine WI.runT cok tab54 hnt [] 1 1 (⟨[(0,.ptr 901 0),(4,.ptr 903 0),(5,.ep [.sl (.ints rows)]),(6,.ptr 904 0),(9,.i ((k : Nat) : Int)),(29,.i (h.length : Int)),(30,.i ((k : Nat) : Int)),(57,.fn 54 [.ptr 901 0,.ep [.sl (.calls h)],.ep [.v (.string s)],.ptr 902 0,.ptr 903 0,.ep [.sl (.ints rows)],.ptr 904 0])],[(51,⟨3,.row (.ints (oo ++ ([((k : Nat) : Int)])))⟩),(812,⟨23,.row (.intss ou)⟩),(901,⟨23,.fix [.own 51 (List.length (oo ++ ([((k : Nat) : Int)])))]⟩),(902,⟨46,.fix [.own 812 ou.length]⟩),(903,⟨3,.fix [.i (bitsI .or .i64 uu (shlI .i64 (1 : Int) ((k : Nat) : Int)))]⟩),(904,⟨1,.fix [.fn 54 [.ptr 901 0,.ep [.sl (.calls h)],.ep [.v (.string s)],.ptr 902 0,.ptr 903 0,.ep [.sl (.ints rows)],.ptr 904 0]]⟩)],[51,50,811,812,901,902,903,904]⟩)
       (True ∧ True) (by kernel_rfl) rfl
       ⟨tt,tt⟩ ?_
      refine WI.callH _ [] [.ptr 901 0,.ep [.sl (.calls h)],.ep [.v (.string s)],.ptr 902 0,.ptr 903 0,.ep [.sl (.ints rows)],.ptr 904 0] (.fn 54 [.ptr 901 0,.ep [.sl (.calls h)],.ep [.v (.string s)],.ptr 902 0,.ptr 903 0,.ep [.sl (.ints rows)],.ptr 904 0]) _ _ [(901,901),(811,51),(902,902),(812,812),(903,903),(904,904)] (ih s h f rows (oo ++ ([((k : Nat) : Int)])) (bitsI .or .i64 uu (shlI .i64 (1 : Int) ((k : Nat) : Int))) ou ⟨(by exact hs),(by exact hv),(by exact hr),(by rw [hoo]; exact headO_snoc ho (by omega) (free_has hfk) (by omega)),(by rw [huu,hoo]; exact used_push (by omega) (by omega)),(by rw [hoo,hou,show h.length - (o ++ [((k : Nat) : Int)]).length = h.length - o.length - 1 by (simp; omega)]; exact ord_room hz hv6 (by omega) (by omega))⟩ (by rw [hoo]; simp; omega)) ent54 hnt rfl rfl (wanted_none rfl) (by kernel_rfl) (by kernel_rfl) trivial (by kernel_rfl) (by kernel_rfl) (by kernel_rfl) (@cast (((some ⟨3,.row (.ints (oo ++ ([((k : Nat) : Int)])))⟩ : Option LB) = some ⟨3,.row (.ints (oo ++ ([((k : Nat) : Int)])))⟩) ∧ ((true = true) ∧ (((some ⟨23,.row (.intss ou)⟩ : Option LB) = some ⟨23,.row (.intss ou)⟩) ∧ ((true = true) ∧ (((some ⟨23,.fix [.own 51 (List.length (oo ++ ([((k : Nat) : Int)])))]⟩ : Option LB) = some ⟨23,.fix [.own 51 (List.length (oo ++ ([((k : Nat) : Int)])))]⟩) ∧ ((true = true) ∧ (((some ⟨46,.fix [.own 812 ou.length]⟩ : Option LB) = some ⟨46,.fix [.own 812 ou.length]⟩) ∧ ((true = true) ∧ (((some ⟨3,.fix [.i (bitsI .or .i64 uu (shlI .i64 (1 : Int) ((k : Nat) : Int)))]⟩ : Option LB) = some ⟨3,.fix [.i (bitsI .or .i64 uu (shlI .i64 (1 : Int) ((k : Nat) : Int)))]⟩) ∧ ((true = true) ∧ (((some ⟨1,.fix [.fn 54 [.ptr 901 0,.ep [.sl (.calls h)],.ep [.v (.string s)],.ptr 902 0,.ptr 903 0,.ep [.sl (.ints rows)],.ptr 904 0]]⟩ : Option LB) = some ⟨1,.fix [.fn 54 [.ptr 901 0,.ep [.sl (.calls h)],.ep [.v (.string s)],.ptr 902 0,.ptr 903 0,.ep [.sl (.ints rows)],.ptr 904 0]]⟩) ∧ ((true = true) ∧ (True))))))))))))) _ (by kernel_rfl) ⟨rfl,rfl,rfl,rfl,rfl,rfl,rfl,rfl,rfl,rfl,rfl,rfl,tt⟩) (by kernel_rfl) rfl ?_
      rintro r s1 u1 ⟨rfl,rfl,rfl⟩
      refine ⟨[(901,901),(902,902),(903,903),(904,904),(811,58),(812,1058)],by kernel_rfl,WI.to (⟨[(0,.ptr 901 0),(4,.ptr 903 0),(5,.ep [.sl (.ints rows)]),(6,.ptr 904 0),(9,.i ((k : Nat) : Int)),(29,.i (h.length : Int)),(30,.i ((k : Nat) : Int)),(57,.fn 54 [.ptr 901 0,.ep [.sl (.calls h)],.ep [.v (.string s)],.ptr 902 0,.ptr 903 0,.ep [.sl (.ints rows)],.ptr 904 0]),(58,.tup [])],[(58,⟨3,.row (.ints (oo ++ ([((k : Nat) : Int)])))⟩),(901,⟨23,.fix [.own 58 (List.length (oo ++ ([((k : Nat) : Int)])))]⟩),(902,⟨46,.fix [.own 1058 (List.length (ou ++ ordersF s h f (h.length - (oo ++ ([((k : Nat) : Int)])).length) (oo ++ ([((k : Nat) : Int)]))))]⟩),(903,⟨3,.fix [.i (bitsI .or .i64 uu (shlI .i64 (1 : Int) ((k : Nat) : Int)))]⟩),(904,⟨1,.fix [.fn 54 [.ptr 901 0,.ep [.sl (.calls h)],.ep [.v (.string s)],.ptr 902 0,.ptr 903 0,.ep [.sl (.ints rows)],.ptr 904 0]]⟩),(1058,⟨23,.row (.intss (ou ++ ordersF s h f (h.length - (oo ++ ([((k : Nat) : Int)])).length) (oo ++ ([((k : Nat) : Int)]))))⟩)],[1058,58,51,50,811,812,901,902,903,904]⟩) 2 (by kernel_rfl) rfl ?_⟩
      refine WI.nil rfl (thenQ_normal ?_)
      refine W.keepE [0,4,5,6,9,29,30] [(0,.ptr 901 0),(4,.ptr 903 0),(5,.ep [.sl (.ints rows)]),(6,.ptr 904 0),(9,.i ((k : Nat) : Int)),(29,.i (h.length : Int)),(30,.i ((k : Nat) : Int))] (by kernel_rfl) ?_
      refine W.to (⟨[(0,.ptr 901 0),(4,.ptr 903 0),(5,.ep [.sl (.ints rows)]),(6,.ptr 904 0),(9,.i ((k : Nat) : Int)),(29,.i (h.length : Int)),(30,.i ((k : Nat) : Int))],[(58,⟨3,.row (.ints (oo ++ ([((k : Nat) : Int)])))⟩),(901,⟨23,.fix [.own 58 (List.length (oo ++ ([((k : Nat) : Int)])))]⟩),(902,⟨46,.fix [.own 1058 (List.length (ou ++ ordersF s h f (h.length - (oo ++ ([((k : Nat) : Int)])).length) (oo ++ ([((k : Nat) : Int)]))))]⟩),(903,⟨3,.fix [.i (bitsI .or .i64 uu (shlI .i64 (1 : Int) ((k : Nat) : Int)))]⟩),(904,⟨1,.fix [.fn 54 [.ptr 901 0,.ep [.sl (.calls h)],.ep [.v (.string s)],.ptr 902 0,.ptr 903 0,.ep [.sl (.ints rows)],.ptr 904 0]]⟩),(1058,⟨23,.row (.intss (ou ++ ordersF s h f (h.length - (oo ++ ([((k : Nat) : Int)])).length) (oo ++ ([((k : Nat) : Int)]))))⟩)],[1058,58,51,50,811,812,901,902,903,904]⟩) rfl ?_
      refine W.LA cok tab54 hnt [] (⟨[(0,.ptr 901 0),(4,.ptr 903 0),(5,.ep [.sl (.ints rows)]),(6,.ptr 904 0),(9,.i ((k : Nat) : Int)),(29,.i (h.length : Int)),(30,.i ((k : Nat) : Int)),(59,.own 58 (List.length (oo ++ ([((k : Nat) : Int)])))),(60,.own 58 (List.length (oo ++ ([((k : Nat) : Int)])))),(61,.i (((List.length (oo ++ ([((k : Nat) : Int)]))) : Nat) : Int)),(62,.i ((((List.length (oo ++ ([((k : Nat) : Int)]))) : Nat) : Int) - (1 : Int))),(63,.own 58 (Int.toNat ((((List.length (oo ++ ([((k : Nat) : Int)]))) : Nat) : Int) - (1 : Int)))),(64,.i (bitsI .or .i64 uu (shlI .i64 (1 : Int) ((k : Nat) : Int)))),(65,.i ((k : Nat) : Int)),(66,.v (.int .u64 ((k : Nat) : Int))),(67,.i (shlI .i64 (1 : Int) ((k : Nat) : Int))),(68,.i (bitsI .andNot .i64 (bitsI .or .i64 uu (shlI .i64 (1 : Int) ((k : Nat) : Int))) (shlI .i64 (1 : Int) ((k : Nat) : Int))))],[(58,⟨3,.row (.ints (oo ++ ([((k : Nat) : Int)])))⟩),(901,⟨23,.fix [.own 58 (Int.toNat ((((List.length (oo ++ ([((k : Nat) : Int)]))) : Nat) : Int) - (1 : Int)))]⟩),(902,⟨46,.fix [.own 1058 (List.length (ou ++ ordersF s h f (h.length - (oo ++ ([((k : Nat) : Int)])).length) (oo ++ ([((k : Nat) : Int)]))))]⟩),(903,⟨3,.fix [.i (bitsI .andNot .i64 (bitsI .or .i64 uu (shlI .i64 (1 : Int) ((k : Nat) : Int))) (shlI .i64 (1 : Int) ((k : Nat) : Int)))]⟩),(904,⟨1,.fix [.fn 54 [.ptr 901 0,.ep [.sl (.calls h)],.ep [.v (.string s)],.ptr 902 0,.ptr 903 0,.ep [.sl (.ints rows)],.ptr 904 0]]⟩),(1058,⟨23,.row (.intss (ou ++ ordersF s h f (h.length - (oo ++ ([((k : Nat) : Int)])).length) (oo ++ ([((k : Nat) : Int)]))))⟩)],[1058,58,51,50,811,812,901,902,903,904]⟩)
       (True ∧ True ∧ True ∧ (True ∧ True ∧ (Fits .i64 ((((List.length (oo ++ ([((k : Nat) : Int)]))) : Nat) : Int) - (1 : Int)))) ∧ (True ∧ True ∧ (0 ≤ ((((List.length (oo ++ ([((k : Nat) : Int)]))) : Nat) : Int) - (1 : Int))) ∧ (((((List.length (oo ++ ([((k : Nat) : Int)]))) : Nat) : Int) - (1 : Int)) ≤ (((List.length (oo ++ ([((k : Nat) : Int)]))) : Nat) : Int))) ∧ True ∧ True ∧ (True ∧ (Fits .u64 ((k : Nat) : Int))) ∧ (True ∧ True ∧ (0 ≤ ((k : Nat) : Int)) ∧ (Fits .i64 (shlI .i64 (1 : Int) ((k : Nat) : Int)))) ∧ (True ∧ True ∧ True) ∧ (True ∧ True) ∧ (True ∧ True) ∧ True) (by kernel_rfl) (by kernel_rfl)
       ⟨tt,tt,tt,⟨tt,tt,(by rw [hoo]; exact fits_i64 (by first | (simp; done) | (simp; omega)) (by first | (simp; done) | (simp; omega)))⟩,⟨tt,tt,(by rw [hoo]; first | (simp; done) | (simp; omega) | omega),(by rw [hoo]; first | (simp; done) | (simp; omega) | omega)⟩,tt,tt,⟨tt,(by exact fits_u64 (by omega) (by omega))⟩,⟨tt,tt,(by omega),(by exact fits_shl (by omega))⟩,⟨tt,tt,tt⟩,⟨tt,tt⟩,⟨tt,tt⟩,tt⟩ ?_
      refine blockQ_normal (thenQ_normal ?_)
      refine W.cutRow 58 3 (.ints (oo ++ ([((k : Nat) : Int)]))) (.ints (List.take (Int.toNat ((((List.length (oo ++ ([((k : Nat) : Int)]))) : Nat) : Int) - (1 : Int))) (oo ++ ([((k : Nat) : Int)])))) (Int.toNat ((((List.length (oo ++ ([((k : Nat) : Int)]))) : Nat) : Int) - (1 : Int))) (⟨[(0,.ptr 901 0),(4,.ptr 903 0),(5,.ep [.sl (.ints rows)]),(6,.ptr 904 0),(9,.i ((k : Nat) : Int)),(29,.i (h.length : Int)),(30,.i ((k : Nat) : Int)),(59,.own 58 (List.length (oo ++ ([((k : Nat) : Int)])))),(60,.own 58 (List.length (oo ++ ([((k : Nat) : Int)])))),(61,.i (((List.length (oo ++ ([((k : Nat) : Int)]))) : Nat) : Int)),(62,.i ((((List.length (oo ++ ([((k : Nat) : Int)]))) : Nat) : Int) - (1 : Int))),(63,.own 58 (Int.toNat ((((List.length (oo ++ ([((k : Nat) : Int)]))) : Nat) : Int) - (1 : Int)))),(64,.i (bitsI .or .i64 uu (shlI .i64 (1 : Int) ((k : Nat) : Int)))),(65,.i ((k : Nat) : Int)),(66,.v (.int .u64 ((k : Nat) : Int))),(67,.i (shlI .i64 (1 : Int) ((k : Nat) : Int))),(68,.i (bitsI .andNot .i64 (bitsI .or .i64 uu (shlI .i64 (1 : Int) ((k : Nat) : Int))) (shlI .i64 (1 : Int) ((k : Nat) : Int))))],[(58,⟨3,.row (.ints (List.take (Int.toNat ((((List.length (oo ++ ([((k : Nat) : Int)]))) : Nat) : Int) - (1 : Int))) (oo ++ ([((k : Nat) : Int)]))))⟩),(901,⟨23,.fix [.own 58 (Int.toNat ((((List.length (oo ++ ([((k : Nat) : Int)]))) : Nat) : Int) - (1 : Int)))]⟩),(902,⟨46,.fix [.own 1058 (List.length (ou ++ ordersF s h f (h.length - (oo ++ ([((k : Nat) : Int)])).length) (oo ++ ([((k : Nat) : Int)]))))]⟩),(903,⟨3,.fix [.i (bitsI .andNot .i64 (bitsI .or .i64 uu (shlI .i64 (1 : Int) ((k : Nat) : Int))) (shlI .i64 (1 : Int) ((k : Nat) : Int)))]⟩),(904,⟨1,.fix [.fn 54 [.ptr 901 0,.ep [.sl (.calls h)],.ep [.v (.string s)],.ptr 902 0,.ptr 903 0,.ep [.sl (.ints rows)],.ptr 904 0]]⟩),(1058,⟨23,.row (.intss (ou ++ ordersF s h f (h.length - (oo ++ ([((k : Nat) : Int)])).length) (oo ++ ([((k : Nat) : Int)]))))⟩)],[1058,58,51,50,811,812,901,902,903,904]⟩) (by kernel_rfl) (by rfl) (show (Int.toNat ((((List.length (oo ++ ([((k : Nat) : Int)]))) : Nat) : Int) - (1 : Int))) ≤ (List.length (oo ++ ([((k : Nat) : Int)]))) from (by rw [hoo]; first | (simp; done) | (simp; omega) | omega)) (by kernel_rfl) ?_
      refine W.L cok tab54 hnt [] (⟨[(0,.ptr 901 0),(4,.ptr 903 0),(5,.ep [.sl (.ints rows)]),(6,.ptr 904 0),(9,.i ((k : Nat) : Int)),(29,.i (h.length : Int)),(30,.i (((k + 1) : Nat) : Int)),(59,.own 58 (List.length (oo ++ ([((k : Nat) : Int)])))),(60,.own 58 (List.length (oo ++ ([((k : Nat) : Int)])))),(61,.i (((List.length (oo ++ ([((k : Nat) : Int)]))) : Nat) : Int)),(62,.i ((((List.length (oo ++ ([((k : Nat) : Int)]))) : Nat) : Int) - (1 : Int))),(63,.own 58 (Int.toNat ((((List.length (oo ++ ([((k : Nat) : Int)]))) : Nat) : Int) - (1 : Int)))),(64,.i (bitsI .or .i64 uu (shlI .i64 (1 : Int) ((k : Nat) : Int)))),(65,.i ((k : Nat) : Int)),(66,.v (.int .u64 ((k : Nat) : Int))),(67,.i (shlI .i64 (1 : Int) ((k : Nat) : Int))),(68,.i (bitsI .andNot .i64 (bitsI .or .i64 uu (shlI .i64 (1 : Int) ((k : Nat) : Int))) (shlI .i64 (1 : Int) ((k : Nat) : Int)))),(69,.i (((k + 1) : Nat) : Int))],[(58,⟨3,.row (.ints (List.take (Int.toNat ((((List.length (oo ++ ([((k : Nat) : Int)]))) : Nat) : Int) - (1 : Int))) (oo ++ ([((k : Nat) : Int)]))))⟩),(901,⟨23,.fix [.own 58 (Int.toNat ((((List.length (oo ++ ([((k : Nat) : Int)]))) : Nat) : Int) - (1 : Int)))]⟩),(902,⟨46,.fix [.own 1058 (List.length (ou ++ ordersF s h f (h.length - (oo ++ ([((k : Nat) : Int)])).length) (oo ++ ([((k : Nat) : Int)]))))]⟩),(903,⟨3,.fix [.i (bitsI .andNot .i64 (bitsI .or .i64 uu (shlI .i64 (1 : Int) ((k : Nat) : Int))) (shlI .i64 (1 : Int) ((k : Nat) : Int)))]⟩),(904,⟨1,.fix [.fn 54 [.ptr 901 0,.ep [.sl (.calls h)],.ep [.v (.string s)],.ptr 902 0,.ptr 903 0,.ep [.sl (.ints rows)],.ptr 904 0]]⟩),(1058,⟨23,.row (.intss (ou ++ ordersF s h f (h.length - (oo ++ ([((k : Nat) : Int)])).length) (oo ++ ([((k : Nat) : Int)]))))⟩)],[1058,58,51,50,811,812,901,902,903,904]⟩)
       ((True ∧ True ∧ (Fits .i64 (((k + 1) : Nat) : Int))) ∧ True ∧ True) (by kernel_rfl)
       ⟨⟨tt,tt,(by exact fits_i64 (by omega) (by omega))⟩,tt,tt⟩ ?_
      refine thenQ_normal ?_
      refine ⟨((k + 1),(List.take (Int.toNat ((((List.length (oo ++ ([((k : Nat) : Int)]))) : Nat) : Int) - (1 : Int))) (oo ++ ([((k : Nat) : Int)]))),(ou ++ ordersF s h f (h.length - (oo ++ ([((k : Nat) : Int)])).length) (oo ++ ([((k : Nat) : Int)]))),(bitsI .andNot .i64 (bitsI .or .i64 uu (shlI .i64 (1 : Int) ((k : Nat) : Int))) (shlI .i64 (1 : Int) ((k : Nat) : Int)))),(show ((k + 1) ≤ h.length) ∧ ((List.take (Int.toNat ((((List.length (oo ++ ([((k : Nat) : Int)]))) : Nat) : Int) - (1 : Int))) (oo ++ ([((k : Nat) : Int)]))) = o) ∧ ((bitsI .andNot .i64 (bitsI .or .i64 uu (shlI .i64 (1 : Int) ((k : Nat) : Int))) (shlI .i64 (1 : Int) ((k : Nat) : Int))) = mask h.length (hasN o)) ∧ ((ou ++ ordersF s h f (h.length - (oo ++ ([((k : Nat) : Int)])).length) (oo ++ ([((k : Nat) : Int)]))) = out ++ ordersUp s h f (h.length - o.length - 1) o (k + 1)) from ⟨(by first | assumption | omega | rfl | (intro _ hjj; omega) | (simp; done) | (simp; omega)),(by first | exact hoo | (rw [take_pop rfl]; exact hoo)),(by first | exact huu | (rw [huu,used_push (by omega) (by omega)]; exact used_pop (by omega) (by omega) (free_has hfk))),(by first | (rw [up_no hfk]; exact hou) | (rw [hoo]; exact up_step (oo := []) hfk hou))⟩),(show h.length - (k + 1) < h.length - k from (by first | omega | (simp_all; omega))),?_⟩
      exact Sub.of [(811,58),(812,1058)] (@cast (((((901 : Nat) = 901) ∧ (((0 : Nat) = 0) ∧ ((901 : Nat) ∈ ([811,812,901,902,903,904] : List Nat)))) ∧ ((((903 : Nat) = 903) ∧ (((0 : Nat) = 0) ∧ ((903 : Nat) ∈ ([811,812,901,902,903,904] : List Nat)))) ∧ ((((.ep [.sl (.ints rows)] : AV) = .ep [.sl (.ints rows)]) ∧ (([] : List Nat) = [])) ∧ ((((904 : Nat) = 904) ∧ (((0 : Nat) = 0) ∧ ((904 : Nat) ∈ ([811,812,901,902,903,904] : List Nat)))) ∧ (((.int .i64 (h.length : Int) : Value) = .int .i64 (h.length : Int)) ∧ (((.int .i64 (((k + 1) : Nat) : Int) : Value) = .int .i64 (((k + 1) : Nat) : Int)) ∧ True)))))) ∧ (((((3 : Nat) = 3) ∧ (((.ints (List.take (Int.toNat ((((List.length (oo ++ ([((k : Nat) : Int)]))) : Nat) : Int) - (1 : Int))) (oo ++ ([((k : Nat) : Int)]))) : Dat) = .ints (List.take (Int.toNat ((((List.length (oo ++ ([((k : Nat) : Int)]))) : Nat) : Int) - (1 : Int))) (oo ++ ([((k : Nat) : Int)])))) ∧ ((811 : Nat) ∈ ([811,812,901,902,903,904] : List Nat)))) ∧ ((((23 : Nat) = 23) ∧ (((.intss (ou ++ ordersF s h f (h.length - (oo ++ ([((k : Nat) : Int)])).length) (oo ++ ([((k : Nat) : Int)]))) : Dat) = .intss (ou ++ ordersF s h f (h.length - (oo ++ ([((k : Nat) : Int)])).length) (oo ++ ([((k : Nat) : Int)])))) ∧ ((812 : Nat) ∈ ([811,812,901,902,903,904] : List Nat)))) ∧ ((((23 : Nat) = 23) ∧ (((((58 : Nat) = 58) ∧ (((Int.toNat ((((List.length (oo ++ ([((k : Nat) : Int)]))) : Nat) : Int) - (1 : Int))) = (List.length (List.take (Int.toNat ((((List.length (oo ++ ([((k : Nat) : Int)]))) : Nat) : Int) - (1 : Int))) (oo ++ ([((k : Nat) : Int)]))))) ∧ ((811 : Nat) ∈ ([811,812,901,902,903,904] : List Nat)))) ∧ True) ∧ ((901 : Nat) ∈ ([811,812,901,902,903,904] : List Nat)))) ∧ ((((46 : Nat) = 46) ∧ (((((1058 : Nat) = 1058) ∧ (((List.length (ou ++ ordersF s h f (h.length - (oo ++ ([((k : Nat) : Int)])).length) (oo ++ ([((k : Nat) : Int)])))) = (List.length (ou ++ ordersF s h f (h.length - (oo ++ ([((k : Nat) : Int)])).length) (oo ++ ([((k : Nat) : Int)]))))) ∧ ((812 : Nat) ∈ ([811,812,901,902,903,904] : List Nat)))) ∧ True) ∧ ((902 : Nat) ∈ ([811,812,901,902,903,904] : List Nat)))) ∧ ((((3 : Nat) = 3) ∧ ((((.int .i64 (bitsI .andNot .i64 (bitsI .or .i64 uu (shlI .i64 (1 : Int) ((k : Nat) : Int))) (shlI .i64 (1 : Int) ((k : Nat) : Int))) : Value) = .int .i64 (bitsI .andNot .i64 (bitsI .or .i64 uu (shlI .i64 (1 : Int) ((k : Nat) : Int))) (shlI .i64 (1 : Int) ((k : Nat) : Int)))) ∧ True) ∧ ((903 : Nat) ∈ ([811,812,901,902,903,904] : List Nat)))) ∧ ((((1 : Nat) = 1) ∧ (((((54 : Nat) = 54) ∧ ((((901 : Nat) = 901) ∧ (((0 : Nat) = 0) ∧ ((901 : Nat) ∈ ([811,812,901,902,903,904] : List Nat)))) ∧ ((((.ep [.sl (.calls h)] : AV) = .ep [.sl (.calls h)]) ∧ (([] : List Nat) = [])) ∧ ((((.ep [.v (.string s)] : AV) = .ep [.v (.string s)]) ∧ (([] : List Nat) = [])) ∧ ((((902 : Nat) = 902) ∧ (((0 : Nat) = 0) ∧ ((902 : Nat) ∈ ([811,812,901,902,903,904] : List Nat)))) ∧ ((((903 : Nat) = 903) ∧ (((0 : Nat) = 0) ∧ ((903 : Nat) ∈ ([811,812,901,902,903,904] : List Nat)))) ∧ ((((.ep [.sl (.ints rows)] : AV) = .ep [.sl (.ints rows)]) ∧ (([] : List Nat) = [])) ∧ ((((904 : Nat) = 904) ∧ (((0 : Nat) = 0) ∧ ((904 : Nat) ∈ ([811,812,901,902,903,904] : List Nat)))) ∧ True)))))))) ∧ True) ∧ ((904 : Nat) ∈ ([811,812,901,902,903,904] : List Nat)))) ∧ True)))))) ∧ ((true = true) ∧ (true = true)))) _ (by kernel_rfl) ⟨⟨⟨rfl,rfl,(by decide)⟩,⟨rfl,rfl,(by decide)⟩,⟨rfl,rfl⟩,⟨rfl,rfl,(by decide)⟩,rfl,rfl,tt⟩,⟨⟨rfl,rfl,(by decide)⟩,⟨rfl,rfl,(by decide)⟩,⟨rfl,⟨⟨rfl,(by first | rfl | omega | assumption | (symm; assumption) | simp | simp_all),(by decide)⟩,tt⟩,(by decide)⟩,⟨rfl,⟨⟨rfl,rfl,(by decide)⟩,tt⟩,(by decide)⟩,⟨rfl,⟨rfl,tt⟩,(by decide)⟩,⟨rfl,⟨⟨rfl,⟨rfl,rfl,(by decide)⟩,⟨rfl,rfl⟩,⟨rfl,rfl⟩,⟨rfl,rfl,(by decide)⟩,⟨rfl,rfl,(by decide)⟩,⟨rfl,rfl⟩,⟨rfl,rfl,(by decide)⟩,tt⟩,tt⟩,(by decide)⟩,tt⟩,rfl,rfl⟩)
    ·intro n31
     refine W.exit (thenQ_exit (thenQ_exit (blockQ_hit ?_)))
     exact endH_norm (.tup []) [(811,⟨3,.row (.ints o)⟩),(812,⟨23,.row (.intss (out ++ ordersF s h f (h.length - o.length) o))⟩),(901,⟨23,.fix [.own 811 o.length]⟩),(902,⟨46,.fix [.own 812 (List.length (out ++ ordersF s h f (h.length - o.length) o))]⟩),(903,⟨3,.fix [.i us]⟩),(904,⟨1,.fix [.fn 54 [.ptr 901 0,.ep [.sl (.calls h)],.ep [.v (.string s)],.ptr 902 0,.ptr 903 0,.ep [.sl (.ints rows)],.ptr 904 0]]⟩)] [901,902,903,904,811,812] ⟨rfl,rfl,rfl⟩ [(901,901),(902,902),(903,903),(904,904),(811,811),(812,812)] (.tup []) (by kernel_rfl) (@cast (True ∧ (((((3 : Nat) = 3) ∧ (((.ints oo : Dat) = .ints o) ∧ ((811 : Nat) ∈ ([901,902,903,904,811,812] : List Nat)))) ∧ ((((23 : Nat) = 23) ∧ (((.intss ou : Dat) = .intss (out ++ ordersF s h f (h.length - o.length) o)) ∧ ((812 : Nat) ∈ ([901,902,903,904,811,812] : List Nat)))) ∧ ((((23 : Nat) = 23) ∧ (((((811 : Nat) = 811) ∧ ((oo.length = o.length) ∧ ((811 : Nat) ∈ ([901,902,903,904,811,812] : List Nat)))) ∧ True) ∧ ((901 : Nat) ∈ ([901,902,903,904,811,812] : List Nat)))) ∧ ((((46 : Nat) = 46) ∧ (((((812 : Nat) = 812) ∧ ((ou.length = (List.length (out ++ ordersF s h f (h.length - o.length) o))) ∧ ((812 : Nat) ∈ ([901,902,903,904,811,812] : List Nat)))) ∧ True) ∧ ((902 : Nat) ∈ ([901,902,903,904,811,812] : List Nat)))) ∧ ((((3 : Nat) = 3) ∧ ((((.int .i64 uu : Value) = .int .i64 us) ∧ True) ∧ ((903 : Nat) ∈ ([901,902,903,904,811,812] : List Nat)))) ∧ ((((1 : Nat) = 1) ∧ (((((54 : Nat) = 54) ∧ ((((901 : Nat) = 901) ∧ (((0 : Nat) = 0) ∧ ((901 : Nat) ∈ ([901,902,903,904,811,812] : List Nat)))) ∧ ((((.ep [.sl (.calls h)] : AV) = .ep [.sl (.calls h)]) ∧ (([] : List Nat) = [])) ∧ ((((.ep [.v (.string s)] : AV) = .ep [.v (.string s)]) ∧ (([] : List Nat) = [])) ∧ ((((902 : Nat) = 902) ∧ (((0 : Nat) = 0) ∧ ((902 : Nat) ∈ ([901,902,903,904,811,812] : List Nat)))) ∧ ((((903 : Nat) = 903) ∧ (((0 : Nat) = 0) ∧ ((903 : Nat) ∈ ([901,902,903,904,811,812] : List Nat)))) ∧ ((((.ep [.sl (.ints rows)] : AV) = .ep [.sl (.ints rows)]) ∧ (([] : List Nat) = [])) ∧ ((((904 : Nat) = 904) ∧ (((0 : Nat) = 0) ∧ ((904 : Nat) ∈ ([901,902,903,904,811,812] : List Nat)))) ∧ True)))))))) ∧ True) ∧ ((904 : Nat) ∈ ([901,902,903,904,811,812] : List Nat)))) ∧ True)))))) ∧ ((true = true) ∧ (true = true)))) _ (by kernel_rfl) ⟨tt,⟨⟨rfl,(congrArg Dat.ints (by first | exact hoo | (rw [hou,orders_end (by omega),show k = h.length by omega]))),(by decide)⟩,⟨rfl,(congrArg Dat.intss (by first | exact hoo | (rw [hou,orders_end (by omega),show k = h.length by omega]))),(by decide)⟩,⟨rfl,⟨⟨rfl,(by first | rfl | exact congrArg List.length (by first | exact hoo | (rw [hou,orders_end (by omega),show k = h.length by omega])) | omega | assumption | simp | simp_all),(by decide)⟩,tt⟩,(by decide)⟩,⟨rfl,⟨⟨rfl,(by first | rfl | exact congrArg List.length (by first | exact hoo | (rw [hou,orders_end (by omega),show k = h.length by omega])) | omega | assumption | simp | simp_all),(by decide)⟩,tt⟩,(by decide)⟩,⟨rfl,⟨(congrArg (Value.int .i64) (by first | rfl | omega | assumption | simp | simp_all)),tt⟩,(by decide)⟩,⟨rfl,⟨⟨rfl,⟨rfl,rfl,(by decide)⟩,⟨rfl,rfl⟩,⟨rfl,rfl⟩,⟨rfl,rfl,(by decide)⟩,⟨rfl,rfl,(by decide)⟩,⟨rfl,rfl⟩,⟨rfl,rfl,(by decide)⟩,tt⟩,tt⟩,(by decide)⟩,tt⟩,rfl,rfl⟩)
theorem hok54 (s : ByteArray) (h : List CallD) (f : Nat → Nat → Bool) (rows : List Int) (o : List Int) (us : Int) (out : List (List Int)) (hpre : (isObject s = true) ∧ (validHistory h = true) ∧ (rows = rowsOf h.length f) ∧ (headO h o) ∧ (us = mask h.length (hasN o)) ∧ (out.length + 6 ^ (h.length - o.length) ≤ 100000)) : HOK prog 54 [901,902,903,904] [.ptr 901 0,.ep [.sl (.calls h)],.ep [.v (.string s)],.ptr 902 0,.ptr 903 0,.ep [.sl (.ints rows)],.ptr 904 0] [(811,⟨3,.row (.ints o)⟩),(812,⟨23,.row (.intss out)⟩),(901,⟨23,.fix [.own 811 o.length]⟩),(902,⟨46,.fix [.own 812 out.length]⟩),(903,⟨3,.fix [.i us]⟩),(904,⟨1,.fix [.fn 54 [.ptr 901 0,.ep [.sl (.calls h)],.ep [.v (.string s)],.ptr 902 0,.ptr 903 0,.ep [.sl (.ints rows)],.ptr 904 0]]⟩)] [901,902,903,904,811,812] (fun r s1 u1 => r = (.tup []) ∧ s1 = ([(811,⟨3,.row (.ints o)⟩),(812,⟨23,.row (.intss (out ++ ordersF s h f (h.length - o.length) o))⟩),(901,⟨23,.fix [.own 811 o.length]⟩),(902,⟨46,.fix [.own 812 (List.length (out ++ ordersF s h f (h.length - o.length) o))]⟩),(903,⟨3,.fix [.i us]⟩),(904,⟨1,.fix [.fn 54 [.ptr 901 0,.ep [.sl (.calls h)],.ep [.v (.string s)],.ptr 902 0,.ptr 903 0,.ep [.sl (.ints rows)],.ptr 904 0]]⟩)]) ∧ u1 = ([901,902,903,904,811,812])) := hokN54 _ s h f rows o us out hpre (Nat.lt_succ_self _)
end Go.Proofs.Try

set_option linter.unusedSimpArgs false
set_option linter.unusedVariables false
namespace Go.Proofs.Try
open Go.Ab Go.RowKit
def fs37 : FnS := fnS [.o,.s .calls,.s .ints] [.str,.calls,.ints] (fun _ (s,h,rows,_) => (.sl (.intss (ordersF s h (bitF rows) h.length [])),[],(isObject s = true) ∧ (validHistory h = true) ∧ (rows = rowsOf h.length (bitF rows))))
abbrev T37 : Tab := lk []
theorem tab37 : TabOK prog T37 := TabOK.nil
set_option maxRecDepth 100000 in
set_option maxHeartbeats 1000000 in
theorem ok37 : FnOK prog 37 fs37 := by
 refine FnOK.mk cok func37 rfl rfl rfl ?_
 rintro fl ⟨(s : ByteArray),(h : List CallD),(rows : List Int),_⟩ hpre F hnt0 _
 have hnt : F.nt = 17 := hnt0.trans ntmps37
 replace hpre : (isObject s = true) ∧ (validHistory h = true) ∧ (rows = rowsOf h.length (bitF rows)) := hpre
 obtain ⟨hs,hv,hr⟩ := hpre
 refine W.to (⟨[(0,.v (.string s)),(1,.sl (.calls h)),(2,.sl (.ints rows))],[],[999]⟩) rfl ?_
 have hv6 := (valid_iff.1 hv).1
 refine W.lenOf 1 (.calls h) (by kernel_rfl) ?_
 intro hl_h; replace hl_h : List.length h ≤ 9223372036854775807 := hl_h
 refine W.lenOf 2 (.ints rows) (by kernel_rfl) ?_
 intro hl_rows; replace hl_rows : List.length rows ≤ 9223372036854775807 := hl_rows
 refine W.K cok tab37 hnt [] [3,4,5] (⟨[(3,.ptr 3 0),(4,.ptr 4 0),(5,.ptr 5 0)],[(3,⟨9,.fix [.v (.string s)]⟩),(4,⟨26,.fix [.sl (.calls h)]⟩),(5,⟨23,.fix [.sl (.ints rows)]⟩)],[5,4,3,999]⟩)
  (True ∧ True ∧ True ∧ True ∧ True) (by kernel_rfl)
  ⟨tt,tt,tt,tt,tt⟩ ?_
 refine W.subS [] (⟨[(3,.ep [.v (.string s)]),(4,.ep [.sl (.calls h)]),(5,.ep [.sl (.ints rows)])],[],[999]⟩) (@cast ((((([.v (.string s)] : List AV) = [.v (.string s)]) ∧ ((([] : List Nat) = []) ∧ ((3 : Nat) ∉ ([] : List Nat)))) ∧ (((([.sl (.calls h)] : List AV) = [.sl (.calls h)]) ∧ ((([] : List Nat) = []) ∧ ((4 : Nat) ∉ ([] : List Nat)))) ∧ (((([.sl (.ints rows)] : List AV) = [.sl (.ints rows)]) ∧ ((([] : List Nat) = []) ∧ ((5 : Nat) ∉ ([] : List Nat)))) ∧ True))) ∧ (True ∧ ((true = true) ∧ (true = true)))) _ (by kernel_rfl) ⟨⟨⟨rfl,rfl,(by decide)⟩,⟨rfl,rfl,(by decide)⟩,⟨rfl,rfl,(by decide)⟩,tt⟩,tt,rfl,rfl⟩) ?_
 refine W.K cok tab37 hnt [11] [3,4,5,7] (⟨[(3,.ep [.v (.string s)]),(4,.ep [.sl (.calls h)]),(5,.ep [.sl (.ints rows)]),(7,.ptr 7 0)],[(7,⟨46,.fix [.own 11 (List.length ([] : List (List Int)))]⟩),(11,⟨23,.row (.intss ([] : List (List Int)))⟩)],[7,11,999]⟩)
  (True ∧ True ∧ (True ∧ True) ∧ True) (by kernel_rfl)
  ⟨tt,tt,⟨tt,tt⟩,tt⟩ ?_
 refine W.K cok tab37 hnt [12] [3,4,5,7,8,9] (⟨[(3,.ep [.v (.string s)]),(4,.ep [.sl (.calls h)]),(5,.ep [.sl (.ints rows)]),(7,.ptr 7 0),(8,.ptr 8 0),(9,.ptr 9 0)],[(7,⟨46,.fix [.own 11 (List.length ([] : List (List Int)))]⟩),(8,⟨23,.fix [.own 12 (List.length ([] : List Int))]⟩),(9,⟨3,.fix [.i (0 : Int)]⟩),(11,⟨23,.row (.intss ([] : List (List Int)))⟩),(12,⟨3,.row (.ints ([] : List Int))⟩)],[9,8,12,7,11,999]⟩)
  (True ∧ True ∧ True ∧ (True ∧ True) ∧ (True ∧ True) ∧ True) (by kernel_rfl)
  ⟨tt,tt,tt,⟨tt,tt⟩,⟨tt,tt⟩,tt⟩ ?_
 refine W.K cok tab37 hnt [] [3,4,5,7,8,9,10] (⟨[(3,.ep [.v (.string s)]),(4,.ep [.sl (.calls h)]),(5,.ep [.sl (.ints rows)]),(7,.ptr 7 0),(8,.ptr 8 0),(9,.ptr 9 0),(10,.ptr 10 0)],[(7,⟨46,.fix [.own 11 (List.length ([] : List (List Int)))]⟩),(8,⟨23,.fix [.own 12 (List.length ([] : List Int))]⟩),(9,⟨3,.fix [.i (0 : Int)]⟩),(10,⟨1,.fix [.v (.nilFunc)]⟩),(11,⟨23,.row (.intss ([] : List (List Int)))⟩),(12,⟨3,.row (.ints ([] : List Int))⟩)],[10,9,8,12,7,11,999]⟩)
  (True ∧ True) (by kernel_rfl)
  ⟨tt,tt⟩ ?_
 refine W.K cok tab37 hnt [] [7,10] (⟨[(7,.ptr 7 0),(10,.ptr 10 0)],[(7,⟨46,.fix [.own 11 (List.length ([] : List (List Int)))]⟩),(8,⟨23,.fix [.own 12 (List.length ([] : List Int))]⟩),(9,⟨3,.fix [.i (0 : Int)]⟩),(10,⟨1,.fix [.fn 54 [.ptr 8 0,.ep [.sl (.calls h)],.ep [.v (.string s)],.ptr 7 0,.ptr 9 0,.ep [.sl (.ints rows)],.ptr 10 0]]⟩),(11,⟨23,.row (.intss ([] : List (List Int)))⟩),(12,⟨3,.row (.ints ([] : List Int))⟩)],[10,9,8,12,7,11,999]⟩)
  (True ∧ (True ∧ True) ∧ True) (by kernel_rfl)
  ⟨tt,⟨tt,tt⟩,tt⟩ ?_
 refine W.seq (W.wi ?_)
 refine WI.runT cok tab37 hnt [] 1 1 (⟨[(7,.ptr 7 0),(10,.ptr 10 0),(14,.fn 54 [.ptr 8 0,.ep [.sl (.calls h)],.ep [.v (.string s)],.ptr 7 0,.ptr 9 0,.ep [.sl (.ints rows)],.ptr 10 0])],[(7,⟨46,.fix [.own 11 (List.length ([] : List (List Int)))]⟩),(8,⟨23,.fix [.own 12 (List.length ([] : List Int))]⟩),(9,⟨3,.fix [.i (0 : Int)]⟩),(10,⟨1,.fix [.fn 54 [.ptr 8 0,.ep [.sl (.calls h)],.ep [.v (.string s)],.ptr 7 0,.ptr 9 0,.ep [.sl (.ints rows)],.ptr 10 0]]⟩),(11,⟨23,.row (.intss ([] : List (List Int)))⟩),(12,⟨3,.row (.ints ([] : List Int))⟩)],[10,9,8,12,7,11,999]⟩)
  (True ∧ True) (by kernel_rfl) rfl
  ⟨tt,tt⟩ ?_
 refine WI.callH _ [] [.ptr 8 0,.ep [.sl (.calls h)],.ep [.v (.string s)],.ptr 7 0,.ptr 9 0,.ep [.sl (.ints rows)],.ptr 10 0] (.fn 54 [.ptr 8 0,.ep [.sl (.calls h)],.ep [.v (.string s)],.ptr 7 0,.ptr 9 0,.ep [.sl (.ints rows)],.ptr 10 0]) _ _ [(901,8),(811,12),(902,7),(812,11),(903,9),(904,10)] (hok54 s h (bitF rows) rows ([] : List Int) (0 : Int) ([] : List (List Int)) ⟨(by exact hs),(by exact hv),(by exact hr),(by exact headO_nil h),(by exact (used_nil _).symm),(by have := pow6_le hv6; simp; omega)⟩) ent54 hnt rfl rfl (wanted_none rfl) (by kernel_rfl) (by kernel_rfl) trivial (by kernel_rfl) (by kernel_rfl) (by kernel_rfl) (@cast (((some ⟨3,.row (.ints ([] : List Int))⟩ : Option LB) = some ⟨3,.row (.ints ([] : List Int))⟩) ∧ ((true = true) ∧ (((some ⟨23,.row (.intss ([] : List (List Int)))⟩ : Option LB) = some ⟨23,.row (.intss ([] : List (List Int)))⟩) ∧ ((true = true) ∧ (((some ⟨23,.fix [.own 12 (List.length ([] : List Int))]⟩ : Option LB) = some ⟨23,.fix [.own 12 (List.length ([] : List Int))]⟩) ∧ ((true = true) ∧ (((some ⟨46,.fix [.own 11 (List.length ([] : List (List Int)))]⟩ : Option LB) = some ⟨46,.fix [.own 11 (List.length ([] : List (List Int)))]⟩) ∧ ((true = true) ∧ (((some ⟨3,.fix [.i (0 : Int)]⟩ : Option LB) = some ⟨3,.fix [.i (0 : Int)]⟩) ∧ ((true = true) ∧ (((some ⟨1,.fix [.fn 54 [.ptr 8 0,.ep [.sl (.calls h)],.ep [.v (.string s)],.ptr 7 0,.ptr 9 0,.ep [.sl (.ints rows)],.ptr 10 0]]⟩ : Option LB) = some ⟨1,.fix [.fn 54 [.ptr 8 0,.ep [.sl (.calls h)],.ep [.v (.string s)],.ptr 7 0,.ptr 9 0,.ep [.sl (.ints rows)],.ptr 10 0]]⟩) ∧ ((true = true) ∧ (True))))))))))))) _ (by kernel_rfl) ⟨rfl,rfl,rfl,rfl,rfl,rfl,rfl,rfl,rfl,rfl,rfl,rfl,tt⟩) (by kernel_rfl) rfl ?_
 rintro r s1 u1 ⟨rfl,rfl,rfl⟩
 refine ⟨[(901,8),(902,7),(903,9),(904,10),(811,15),(812,1015)],by kernel_rfl,WI.to (⟨[(7,.ptr 7 0),(10,.ptr 10 0),(14,.fn 54 [.ptr 8 0,.ep [.sl (.calls h)],.ep [.v (.string s)],.ptr 7 0,.ptr 9 0,.ep [.sl (.ints rows)],.ptr 10 0]),(15,.tup [])],[(7,⟨46,.fix [.own 1015 (List.length (([] : List (List Int)) ++ ordersF s h (bitF rows) (h.length - ([] : List Int).length) ([] : List Int)))]⟩),(8,⟨23,.fix [.own 15 (List.length ([] : List Int))]⟩),(9,⟨3,.fix [.i (0 : Int)]⟩),(10,⟨1,.fix [.fn 54 [.ptr 8 0,.ep [.sl (.calls h)],.ep [.v (.string s)],.ptr 7 0,.ptr 9 0,.ep [.sl (.ints rows)],.ptr 10 0]]⟩),(15,⟨3,.row (.ints ([] : List Int))⟩),(1015,⟨23,.row (.intss (([] : List (List Int)) ++ ordersF s h (bitF rows) (h.length - ([] : List Int).length) ([] : List Int)))⟩)],[1015,15,10,9,8,12,7,11,999]⟩) 2 (by kernel_rfl) rfl ?_⟩
 refine WI.nil rfl (thenQ_normal ?_)
 refine W.keepE [7] [(7,.ptr 7 0)] (by kernel_rfl) ?_
 refine W.to (⟨[(7,.ptr 7 0)],[(7,⟨46,.fix [.own 1015 (List.length (([] : List (List Int)) ++ ordersF s h (bitF rows) (h.length - ([] : List Int).length) ([] : List Int)))]⟩),(8,⟨23,.fix [.own 15 (List.length ([] : List Int))]⟩),(9,⟨3,.fix [.i (0 : Int)]⟩),(10,⟨1,.fix [.fn 54 [.ptr 8 0,.ep [.sl (.calls h)],.ep [.v (.string s)],.ptr 7 0,.ptr 9 0,.ep [.sl (.ints rows)],.ptr 10 0]]⟩),(15,⟨3,.row (.ints ([] : List Int))⟩),(1015,⟨23,.row (.intss (([] : List (List Int)) ++ ordersF s h (bitF rows) (h.length - ([] : List Int).length) ([] : List Int)))⟩)],[1015,15,10,9,8,12,7,11,999]⟩) rfl ?_
 refine W.K cok tab37 hnt [] [6] (⟨[(6,.own 1015 (List.length (([] : List (List Int)) ++ ordersF s h (bitF rows) (h.length - ([] : List Int).length) ([] : List Int))))],[(7,⟨46,.fix [.own 1015 (List.length (([] : List (List Int)) ++ ordersF s h (bitF rows) (h.length - ([] : List Int).length) ([] : List Int)))]⟩),(8,⟨23,.fix [.own 15 (List.length ([] : List Int))]⟩),(9,⟨3,.fix [.i (0 : Int)]⟩),(10,⟨1,.fix [.fn 54 [.ptr 8 0,.ep [.sl (.calls h)],.ep [.v (.string s)],.ptr 7 0,.ptr 9 0,.ep [.sl (.ints rows)],.ptr 10 0]]⟩),(15,⟨3,.row (.ints ([] : List Int))⟩),(1015,⟨23,.row (.intss (([] : List (List Int)) ++ ordersF s h (bitF rows) (h.length - ([] : List Int).length) ([] : List Int)))⟩)],[1015,15,10,9,8,12,7,11,999]⟩)
  (True ∧ True ∧ True) (by kernel_rfl)
  ⟨tt,tt,tt⟩ ?_
 refine W.ret ?_
 exact endQ_ret (.own 1015 (List.length (([] : List (List Int)) ++ ordersF s h (bitF rows) (h.length - ([] : List Int).length) ([] : List Int)))) (by kernel_rfl) (@cast (((List.length (([] : List (List Int)) ++ ordersF s h (bitF rows) (h.length - ([] : List Int).length) ([] : List Int))) = (List.length (([] : List (List Int)) ++ ordersF s h (bitF rows) (h.length - ([] : List Int).length) ([] : List Int)))) ∧ (((.intss (([] : List (List Int)) ++ ordersF s h (bitF rows) (h.length - ([] : List Int).length) ([] : List Int)) : Dat) = .intss (ordersF s h (bitF rows) h.length [])) ∧ ((1015 : Nat) ∉ ([] : List Nat)))) _ (by kernel_rfl) ⟨rfl,⟨(congrArg Dat.intss (by simp)),(by decide)⟩⟩)
theorem ent37 : Entr prog 37 := ⟨_,func37,rfl,by decide⟩
end Go.Proofs.Try

set_option linter.unusedSimpArgs false
set_option linter.unusedVariables false
namespace Go.Proofs.Try
open Go.Ab Go.RowKit
def fs19 : FnS := fnS [.o,.s .calls] [.str,.calls] (fun _ (s,h,_) => (.b (explains s h (quietF h)),[],True))
abbrev T19 : Tab := lk [(25,fs25),(26,fs26),(37,fs37),(38,fs38)]
theorem tab19 : TabOK prog T19 := (TabOK.cons ok25 ent25 (TabOK.cons ok26 ent26 (TabOK.cons ok37 ent37 (TabOK.cons ok38 ent38 TabOK.nil))))
set_option maxRecDepth 100000 in
set_option maxHeartbeats 1000000 in
theorem ok19 : FnOK prog 19 fs19 := by
 refine FnOK.mk cok func19 rfl rfl rfl ?_
 rintro fl ⟨(s : ByteArray),(h : List CallD),_⟩ hpre F hnt0 _
 have hnt : F.nt = 20 := hnt0.trans ntmps19
 clear hpre
 refine W.to (⟨[(0,.v (.string s)),(1,.sl (.calls h))],[],[999]⟩) rfl ?_
 refine W.lenOf 1 (.calls h) (by kernel_rfl) ?_
 intro hl_h; replace hl_h : List.length h ≤ 9223372036854775807 := hl_h
 refine W.K cok tab19 hnt [] [0,1] (⟨[(0,.v (.string s)),(1,.sl (.calls h))],[],[999]⟩)
  (True ∧ True) (by kernel_rfl)
  ⟨tt,tt⟩ ?_
 refine W.K cok tab19 hnt [] [4] (⟨[(4,.b (((isObject s) && (validHistory h)) && (decide ((0 : Int) < (((List.length (ordersF s h (bitF (quietAhead h)) h.length [])) : Nat) : Int)))))],[],[999]⟩)
  (True ∧ (True ∧ (True ∧ True) ∧ True) ∧ True ∧ ((isObject s) = true → True) ∧ ((isObject s) = true → (True ∧ ((((isObject s) = true) ∧ True) ∧ True) ∧ True)) ∧ (True ∧ ((isObject s) = true → ((isObject s) = true) ∧ True) ∧ ((isObject s) = false → True)) ∧ True ∧ (((isObject s) && (validHistory h)) = true → True) ∧ (((isObject s) && (validHistory h)) = true → True) ∧ (((isObject s) && (validHistory h)) = true → True) ∧ (((isObject s) && (validHistory h)) = true → (True ∧ (((((isObject s) && (validHistory h)) = true) ∧ True) ∧ True) ∧ True)) ∧ (((isObject s) && (validHistory h)) = true → (True ∧ (((((isObject s) && (validHistory h)) = true) ∧ True) ∧ ((((isObject s) && (validHistory h)) = true) ∧ True) ∧ ((((isObject s) && (validHistory h)) = true) ∧ True) ∧ True) ∧ (isObject s = true) ∧ (validHistory h = true) ∧ ((quietAhead h) = rowsOf h.length (bitF (quietAhead h))))) ∧ (((isObject s) && (validHistory h)) = true → ((((isObject s) && (validHistory h)) = true) ∧ True)) ∧ (((isObject s) && (validHistory h)) = true → (((((isObject s) && (validHistory h)) = true) ∧ True) ∧ True ∧ True)) ∧ (True ∧ (((isObject s) && (validHistory h)) = true → (((isObject s) && (validHistory h)) = true) ∧ True) ∧ (((isObject s) && (validHistory h)) = false → True)) ∧ True ∧ True) (by kernel_rfl)
  ⟨tt,⟨tt,⟨tt,tt⟩,tt⟩,tt,(fun _ => trivial),(fun hG => ⟨tt,⟨⟨hG,tt⟩,tt⟩,tt⟩),⟨tt,(fun hp => ⟨hp,tt⟩),(fun _ => trivial)⟩,tt,(fun _ => trivial),(fun _ => trivial),(fun _ => trivial),(fun hG => ⟨tt,⟨⟨hG,tt⟩,tt⟩,tt⟩),(fun hG => ⟨tt,⟨⟨hG,tt⟩,⟨hG,tt⟩,⟨hG,tt⟩,tt⟩,(by exact and_l hG),(by exact and_r hG),(by exact quiet_rows (and_r hG))⟩),(fun hG => ⟨hG,tt⟩),(fun hG => ⟨⟨hG,tt⟩,tt,tt⟩),⟨tt,(fun hp => ⟨hp,tt⟩),(fun _ => trivial)⟩,tt,tt⟩ ?_
 refine W.ret ?_
 exact endQ_ret (.b (((isObject s) && (validHistory h)) && (decide ((0 : Int) < (((List.length (ordersF s h (bitF (quietAhead h)) h.length [])) : Nat) : Int))))) (by kernel_rfl) (@cast ((.bool (((isObject s) && (validHistory h)) && (decide ((0 : Int) < (((List.length (ordersF s h (bitF (quietAhead h)) h.length [])) : Nat) : Int)))) : Value) = .bool (explains s h (quietF h))) _ (by kernel_rfl) (congrArg Value.bool (by exact by_gt quiet_eq)))
theorem ent19 : Entr prog 19 := ⟨_,func19,rfl,by decide⟩
end Go.Proofs.Try

set_option linter.unusedSimpArgs false
set_option linter.unusedVariables false
namespace Go.Proofs.Try
open Go.Ab Go.RowKit
def fs29 : FnS := fnS [.o,.o] [.call,.call] (fun _ (a,b,_) => (.b (decide (a = b)),[],True))
abbrev T29 : Tab := lk []
theorem tab29 : TabOK prog T29 := TabOK.nil
set_option maxRecDepth 100000 in
set_option maxHeartbeats 1000000 in
theorem ok29 : FnOK prog 29 fs29 := by
 refine FnOK.mk cok func29 rfl rfl rfl ?_
 rintro fl ⟨(a : CallD),(b : CallD),_⟩ hpre F hnt0 _
 have hnt : F.nt = 40 := hnt0.trans ntmps29
 clear hpre
 refine W.to (⟨[(0,.agg [.i a.proc,.i a.obj,.i a.kind,.i a.arg,.i a.ret,.i a.frm,.i a.to]),(1,.agg [.i b.proc,.i b.obj,.i b.kind,.i b.arg,.i b.ret,.i b.frm,.i b.to])],[],[999]⟩) rfl ?_
 refine W.K cok tab29 hnt [] [2,3] (⟨[(2,.ptr 2 0),(3,.ptr 3 0)],[(2,⟨38,.fix [.i a.proc,.i a.obj,.i a.kind,.i a.arg,.i a.ret,.i a.frm,.i a.to]⟩),(3,⟨38,.fix [.i b.proc,.i b.obj,.i b.kind,.i b.arg,.i b.ret,.i b.frm,.i b.to]⟩)],[3,2,999]⟩)
  (True ∧ True ∧ True ∧ True) (by kernel_rfl)
  ⟨tt,tt,tt,tt⟩ ?_
 refine W.seq ?_
 refine W.K cok tab29 hnt [] [2,3,9] (⟨[(2,.ptr 2 0),(3,.ptr 3 0),(9,.b (decide (a.proc ≠ b.proc)))],[(2,⟨38,.fix [.i a.proc,.i a.obj,.i a.kind,.i a.arg,.i a.ret,.i a.frm,.i a.to]⟩),(3,⟨38,.fix [.i b.proc,.i b.obj,.i b.kind,.i b.arg,.i b.ret,.i b.frm,.i b.to]⟩)],[3,2,999]⟩)
  (True ∧ True ∧ True ∧ True ∧ (True ∧ True ∧ True) ∧ True) (by kernel_rfl)
  ⟨tt,tt,tt,tt,⟨tt,tt,tt⟩,tt⟩ ?_
 refine W.ifP (a.proc ≠ b.proc) (.b (decide (a.proc ≠ b.proc))) (by kernel_rfl) rfl trivial ?_ ?_
 ·intro h9
  refine W.K cok tab29 hnt [] [4] (⟨[(4,.b false)],[(2,⟨38,.fix [.i a.proc,.i a.obj,.i a.kind,.i a.arg,.i a.ret,.i a.frm,.i a.to]⟩),(3,⟨38,.fix [.i b.proc,.i b.obj,.i b.kind,.i b.arg,.i b.ret,.i b.frm,.i b.to]⟩)],[3,2,999]⟩)
   (True ∧ True) (by kernel_rfl)
   ⟨tt,tt⟩ ?_
  refine W.ret (thenQ_ret ?_)
  exact endQ_ret (.b false) (by kernel_rfl) (@cast ((.bool false : Value) = .bool (decide (a = b))) _ (by kernel_rfl) (congrArg Value.bool (by first | (symm; exact decide_eq_true (call_ext (by omega) (by omega) (by omega) (by omega) (by omega) (by omega) (by omega))) | (symm; exact decide_eq_false (fun e => by subst e; simp_all)))))
 ·intro n9
  refine W.skip (thenQ_normal ?_)
  refine W.seq ?_
  refine W.K cok tab29 hnt [] [2,3,14] (⟨[(2,.ptr 2 0),(3,.ptr 3 0),(14,.b (decide (a.obj ≠ b.obj)))],[(2,⟨38,.fix [.i a.proc,.i a.obj,.i a.kind,.i a.arg,.i a.ret,.i a.frm,.i a.to]⟩),(3,⟨38,.fix [.i b.proc,.i b.obj,.i b.kind,.i b.arg,.i b.ret,.i b.frm,.i b.to]⟩)],[3,2,999]⟩)
   (True ∧ True ∧ True ∧ True ∧ (True ∧ True ∧ True) ∧ True) (by kernel_rfl)
   ⟨tt,tt,tt,tt,⟨tt,tt,tt⟩,tt⟩ ?_
  refine W.ifP (a.obj ≠ b.obj) (.b (decide (a.obj ≠ b.obj))) (by kernel_rfl) rfl trivial ?_ ?_
  ·intro h14
   refine W.K cok tab29 hnt [] [4] (⟨[(4,.b false)],[(2,⟨38,.fix [.i a.proc,.i a.obj,.i a.kind,.i a.arg,.i a.ret,.i a.frm,.i a.to]⟩),(3,⟨38,.fix [.i b.proc,.i b.obj,.i b.kind,.i b.arg,.i b.ret,.i b.frm,.i b.to]⟩)],[3,2,999]⟩)
    (True ∧ True) (by kernel_rfl)
    ⟨tt,tt⟩ ?_
   refine W.ret (thenQ_ret ?_)
   exact endQ_ret (.b false) (by kernel_rfl) (@cast ((.bool false : Value) = .bool (decide (a = b))) _ (by kernel_rfl) (congrArg Value.bool (by first | (symm; exact decide_eq_true (call_ext (by omega) (by omega) (by omega) (by omega) (by omega) (by omega) (by omega))) | (symm; exact decide_eq_false (fun e => by subst e; simp_all)))))
  ·intro n14
   refine W.skip (thenQ_normal ?_)
   refine W.seq ?_
   refine W.K cok tab29 hnt [] [2,3,19] (⟨[(2,.ptr 2 0),(3,.ptr 3 0),(19,.b (decide (a.kind ≠ b.kind)))],[(2,⟨38,.fix [.i a.proc,.i a.obj,.i a.kind,.i a.arg,.i a.ret,.i a.frm,.i a.to]⟩),(3,⟨38,.fix [.i b.proc,.i b.obj,.i b.kind,.i b.arg,.i b.ret,.i b.frm,.i b.to]⟩)],[3,2,999]⟩)
    (True ∧ True ∧ True ∧ True ∧ (True ∧ True ∧ True) ∧ True) (by kernel_rfl)
    ⟨tt,tt,tt,tt,⟨tt,tt,tt⟩,tt⟩ ?_
   refine W.ifP (a.kind ≠ b.kind) (.b (decide (a.kind ≠ b.kind))) (by kernel_rfl) rfl trivial ?_ ?_
   ·intro h19
    refine W.K cok tab29 hnt [] [4] (⟨[(4,.b false)],[(2,⟨38,.fix [.i a.proc,.i a.obj,.i a.kind,.i a.arg,.i a.ret,.i a.frm,.i a.to]⟩),(3,⟨38,.fix [.i b.proc,.i b.obj,.i b.kind,.i b.arg,.i b.ret,.i b.frm,.i b.to]⟩)],[3,2,999]⟩)
     (True ∧ True) (by kernel_rfl)
     ⟨tt,tt⟩ ?_
    refine W.ret (thenQ_ret ?_)
    exact endQ_ret (.b false) (by kernel_rfl) (@cast ((.bool false : Value) = .bool (decide (a = b))) _ (by kernel_rfl) (congrArg Value.bool (by first | (symm; exact decide_eq_true (call_ext (by omega) (by omega) (by omega) (by omega) (by omega) (by omega) (by omega))) | (symm; exact decide_eq_false (fun e => by subst e; simp_all)))))
   ·intro n19
    refine W.skip (thenQ_normal ?_)
    refine W.seq ?_
    refine W.K cok tab29 hnt [] [2,3,24] (⟨[(2,.ptr 2 0),(3,.ptr 3 0),(24,.b (decide (a.arg ≠ b.arg)))],[(2,⟨38,.fix [.i a.proc,.i a.obj,.i a.kind,.i a.arg,.i a.ret,.i a.frm,.i a.to]⟩),(3,⟨38,.fix [.i b.proc,.i b.obj,.i b.kind,.i b.arg,.i b.ret,.i b.frm,.i b.to]⟩)],[3,2,999]⟩)
     (True ∧ True ∧ True ∧ True ∧ (True ∧ True ∧ True) ∧ True) (by kernel_rfl)
     ⟨tt,tt,tt,tt,⟨tt,tt,tt⟩,tt⟩ ?_
    refine W.ifP (a.arg ≠ b.arg) (.b (decide (a.arg ≠ b.arg))) (by kernel_rfl) rfl trivial ?_ ?_
    ·intro h24
     refine W.K cok tab29 hnt [] [4] (⟨[(4,.b false)],[(2,⟨38,.fix [.i a.proc,.i a.obj,.i a.kind,.i a.arg,.i a.ret,.i a.frm,.i a.to]⟩),(3,⟨38,.fix [.i b.proc,.i b.obj,.i b.kind,.i b.arg,.i b.ret,.i b.frm,.i b.to]⟩)],[3,2,999]⟩)
      (True ∧ True) (by kernel_rfl)
      ⟨tt,tt⟩ ?_
     refine W.ret (thenQ_ret ?_)
     exact endQ_ret (.b false) (by kernel_rfl) (@cast ((.bool false : Value) = .bool (decide (a = b))) _ (by kernel_rfl) (congrArg Value.bool (by first | (symm; exact decide_eq_true (call_ext (by omega) (by omega) (by omega) (by omega) (by omega) (by omega) (by omega))) | (symm; exact decide_eq_false (fun e => by subst e; simp_all)))))
    ·intro n24
     refine W.skip (thenQ_normal ?_)
     refine W.seq ?_
     refine W.K cok tab29 hnt [] [2,3,29] (⟨[(2,.ptr 2 0),(3,.ptr 3 0),(29,.b (decide (a.ret ≠ b.ret)))],[(2,⟨38,.fix [.i a.proc,.i a.obj,.i a.kind,.i a.arg,.i a.ret,.i a.frm,.i a.to]⟩),(3,⟨38,.fix [.i b.proc,.i b.obj,.i b.kind,.i b.arg,.i b.ret,.i b.frm,.i b.to]⟩)],[3,2,999]⟩)
      (True ∧ True ∧ True ∧ True ∧ (True ∧ True ∧ True) ∧ True) (by kernel_rfl)
      ⟨tt,tt,tt,tt,⟨tt,tt,tt⟩,tt⟩ ?_
     refine W.ifP (a.ret ≠ b.ret) (.b (decide (a.ret ≠ b.ret))) (by kernel_rfl) rfl trivial ?_ ?_
     ·intro h29
      refine W.K cok tab29 hnt [] [4] (⟨[(4,.b false)],[(2,⟨38,.fix [.i a.proc,.i a.obj,.i a.kind,.i a.arg,.i a.ret,.i a.frm,.i a.to]⟩),(3,⟨38,.fix [.i b.proc,.i b.obj,.i b.kind,.i b.arg,.i b.ret,.i b.frm,.i b.to]⟩)],[3,2,999]⟩)
       (True ∧ True) (by kernel_rfl)
       ⟨tt,tt⟩ ?_
      refine W.ret (thenQ_ret ?_)
      exact endQ_ret (.b false) (by kernel_rfl) (@cast ((.bool false : Value) = .bool (decide (a = b))) _ (by kernel_rfl) (congrArg Value.bool (by first | (symm; exact decide_eq_true (call_ext (by omega) (by omega) (by omega) (by omega) (by omega) (by omega) (by omega))) | (symm; exact decide_eq_false (fun e => by subst e; simp_all)))))
     ·intro n29
      refine W.skip (thenQ_normal ?_)
      refine W.seq ?_
      refine W.K cok tab29 hnt [] [2,3,34] (⟨[(2,.ptr 2 0),(3,.ptr 3 0),(34,.b (decide (a.frm ≠ b.frm)))],[(2,⟨38,.fix [.i a.proc,.i a.obj,.i a.kind,.i a.arg,.i a.ret,.i a.frm,.i a.to]⟩),(3,⟨38,.fix [.i b.proc,.i b.obj,.i b.kind,.i b.arg,.i b.ret,.i b.frm,.i b.to]⟩)],[3,2,999]⟩)
       (True ∧ True ∧ True ∧ True ∧ (True ∧ True ∧ True) ∧ True) (by kernel_rfl)
       ⟨tt,tt,tt,tt,⟨tt,tt,tt⟩,tt⟩ ?_
      refine W.ifP (a.frm ≠ b.frm) (.b (decide (a.frm ≠ b.frm))) (by kernel_rfl) rfl trivial ?_ ?_
      ·intro h34
       refine W.K cok tab29 hnt [] [4] (⟨[(4,.b false)],[(2,⟨38,.fix [.i a.proc,.i a.obj,.i a.kind,.i a.arg,.i a.ret,.i a.frm,.i a.to]⟩),(3,⟨38,.fix [.i b.proc,.i b.obj,.i b.kind,.i b.arg,.i b.ret,.i b.frm,.i b.to]⟩)],[3,2,999]⟩)
        (True ∧ True) (by kernel_rfl)
        ⟨tt,tt⟩ ?_
       refine W.ret (thenQ_ret ?_)
       exact endQ_ret (.b false) (by kernel_rfl) (@cast ((.bool false : Value) = .bool (decide (a = b))) _ (by kernel_rfl) (congrArg Value.bool (by first | (symm; exact decide_eq_true (call_ext (by omega) (by omega) (by omega) (by omega) (by omega) (by omega) (by omega))) | (symm; exact decide_eq_false (fun e => by subst e; simp_all)))))
      ·intro n34
       refine W.skip (thenQ_normal ?_)
       refine W.seq ?_
       refine W.K cok tab29 hnt [] [39] (⟨[(39,.b (decide (a.to ≠ b.to)))],[(2,⟨38,.fix [.i a.proc,.i a.obj,.i a.kind,.i a.arg,.i a.ret,.i a.frm,.i a.to]⟩),(3,⟨38,.fix [.i b.proc,.i b.obj,.i b.kind,.i b.arg,.i b.ret,.i b.frm,.i b.to]⟩)],[3,2,999]⟩)
        (True ∧ True ∧ True ∧ True ∧ (True ∧ True ∧ True) ∧ True) (by kernel_rfl)
        ⟨tt,tt,tt,tt,⟨tt,tt,tt⟩,tt⟩ ?_
       refine W.ifP (a.to ≠ b.to) (.b (decide (a.to ≠ b.to))) (by kernel_rfl) rfl trivial ?_ ?_
       ·intro h39
        refine W.K cok tab29 hnt [] [4] (⟨[(4,.b false)],[(2,⟨38,.fix [.i a.proc,.i a.obj,.i a.kind,.i a.arg,.i a.ret,.i a.frm,.i a.to]⟩),(3,⟨38,.fix [.i b.proc,.i b.obj,.i b.kind,.i b.arg,.i b.ret,.i b.frm,.i b.to]⟩)],[3,2,999]⟩)
         (True ∧ True) (by kernel_rfl)
         ⟨tt,tt⟩ ?_
        refine W.ret (thenQ_ret ?_)
        exact endQ_ret (.b false) (by kernel_rfl) (@cast ((.bool false : Value) = .bool (decide (a = b))) _ (by kernel_rfl) (congrArg Value.bool (by first | (symm; exact decide_eq_true (call_ext (by omega) (by omega) (by omega) (by omega) (by omega) (by omega) (by omega))) | (symm; exact decide_eq_false (fun e => by subst e; simp_all)))))
       ·intro n39
        refine W.skip (thenQ_normal ?_)
        refine W.K cok tab29 hnt [] [4] (⟨[(4,.b true)],[(2,⟨38,.fix [.i a.proc,.i a.obj,.i a.kind,.i a.arg,.i a.ret,.i a.frm,.i a.to]⟩),(3,⟨38,.fix [.i b.proc,.i b.obj,.i b.kind,.i b.arg,.i b.ret,.i b.frm,.i b.to]⟩)],[3,2,999]⟩)
         (True ∧ True) (by kernel_rfl)
         ⟨tt,tt⟩ ?_
        refine W.ret ?_
        exact endQ_ret (.b true) (by kernel_rfl) (@cast ((.bool true : Value) = .bool (decide (a = b))) _ (by kernel_rfl) (congrArg Value.bool (by first | (symm; exact decide_eq_true (call_ext (by omega) (by omega) (by omega) (by omega) (by omega) (by omega) (by omega))) | (symm; exact decide_eq_false (fun e => by subst e; simp_all)))))
theorem ent29 : Entr prog 29 := ⟨_,func29,rfl,by decide⟩
end Go.Proofs.Try

set_option linter.unusedSimpArgs false
set_option linter.unusedVariables false
namespace Go.Proofs.Try
open Go.Ab Go.RowKit
def fs12 : FnS := fnS [.s .calls,.s .calls] [.calls,.calls] (fun _ (a,b,_) => (.b (decide (a = b)),[],True))
abbrev T12 : Tab := lk [(29,fs29)]
theorem tab12 : TabOK prog T12 := (TabOK.cons ok29 ent29 TabOK.nil)
set_option maxRecDepth 100000 in
set_option maxHeartbeats 1000000 in
theorem ok12 : FnOK prog 12 fs12 := by
 refine FnOK.mk cok func12 rfl rfl rfl ?_
 rintro fl ⟨(a : List CallD),(b : List CallD),_⟩ hpre F hnt0 _
 have hnt : F.nt = 27 := hnt0.trans ntmps12
 clear hpre
 refine W.to (⟨[(0,.sl (.calls a)),(1,.sl (.calls b))],[],[999]⟩) rfl ?_
 refine W.lenOf 0 (.calls a) (by kernel_rfl) ?_
 intro hl_a; replace hl_a : List.length a ≤ 9223372036854775807 := hl_a
 refine W.lenOf 1 (.calls b) (by kernel_rfl) ?_
 intro hl_b; replace hl_b : List.length b ≤ 9223372036854775807 := hl_b
 refine W.K cok tab12 hnt [] [0,1] (⟨[(0,.sl (.calls a)),(1,.sl (.calls b))],[],[999]⟩)
  (True ∧ True) (by kernel_rfl)
  ⟨tt,tt⟩ ?_
 refine W.seq ?_
 refine W.K cok tab12 hnt [] [0,1,10] (⟨[(0,.sl (.calls a)),(1,.sl (.calls b)),(10,.b (decide ((a.length : Int) ≠ (b.length : Int))))],[],[999]⟩)
  (True ∧ True ∧ True ∧ True ∧ (True ∧ True ∧ True) ∧ True) (by kernel_rfl)
  ⟨tt,tt,tt,tt,⟨tt,tt,tt⟩,tt⟩ ?_
 refine W.ifP ((a.length : Int) ≠ (b.length : Int)) (.b (decide ((a.length : Int) ≠ (b.length : Int)))) (by kernel_rfl) rfl trivial ?_ ?_
 ·intro h10
  refine W.K cok tab12 hnt [] [4] (⟨[(4,.b false)],[],[999]⟩)
   (True ∧ True) (by kernel_rfl)
   ⟨tt,tt⟩ ?_
  refine W.ret (thenQ_ret ?_)
  exact endQ_ret (.b false) (by kernel_rfl) (@cast ((.bool false : Value) = .bool (decide (a = b))) _ (by kernel_rfl) (congrArg Value.bool (by symm; exact decide_eq_false (fun e => h10 (by rw [e])))))
 ·intro n10
  refine W.skip (thenQ_normal ?_)
  refine W.seq ?_
  refine W.K cok tab12 hnt [] [0,1,5] (⟨[(0,.sl (.calls a)),(1,.sl (.calls b)),(5,.i (0 : Int))],[],[999]⟩)
   (True ∧ True) (by kernel_rfl)
   ⟨tt,tt⟩ ?_
  refine W.block ?_
  refine W.loop (ι := Nat) (fun (i : Nat) => (⟨[(0,.sl (.calls a)),(1,.sl (.calls b)),(5,.i ((i : Nat) : Int))],[],[999]⟩ : St))
   (fun (i : Nat) => (i ≤ a.length) ∧ (∀ j,j < i → a.getD j default = b.getD j default))
   (fun (i : Nat) => (a.length - i : Nat)) (0) ?_ ?_ ?_
  ·exact (show (0 ≤ a.length) ∧ (∀ j,j < 0 → a.getD j default = b.getD j default) from ⟨(by first | assumption | omega | rfl | (intro _ hjj; omega) | (simp; done) | (simp; omega)),(by exact upto_zero)⟩)
  ·exact Sub.of [] (@cast ((((.calls a : Dat) = .calls a) ∧ (((.calls b : Dat) = .calls b) ∧ (((.int .i64 (0 : Int) : Value) = .int .i64 ((0 : Nat) : Int)) ∧ True))) ∧ (True ∧ ((true = true) ∧ (true = true)))) _ (by kernel_rfl) ⟨⟨rfl,rfl,(congrArg (Value.int .i64) (by first | rfl | omega | assumption | simp | simp_all)),tt⟩,tt,rfl,rfl⟩)
  ·rintro i hC0
   have hC : (i ≤ a.length) ∧ (∀ j,j < i → a.getD j default = b.getD j default) := hC0
   clear hC0
   obtain ⟨hi,hA⟩ := hC
   refine W.to (⟨[(0,.sl (.calls a)),(1,.sl (.calls b)),(5,.i ((i : Nat) : Int))],[],[999]⟩) rfl ?_
   refine W.seq ?_
   refine W.K cok tab12 hnt [] [0,1,5,14] (⟨[(0,.sl (.calls a)),(1,.sl (.calls b)),(5,.i ((i : Nat) : Int)),(14,.b (decide (((i : Nat) : Int) < (a.length : Int))))],[],[999]⟩)
    (True ∧ True ∧ True ∧ (True ∧ True ∧ True) ∧ True) (by kernel_rfl)
    ⟨tt,tt,tt,⟨tt,tt,tt⟩,tt⟩ ?_
   refine W.ifP (((i : Nat) : Int) < (a.length : Int)) (.b (decide (((i : Nat) : Int) < (a.length : Int)))) (by kernel_rfl) rfl trivial ?_ ?_
   ·intro h14
    refine W.skip (thenQ_normal ?_)
    refine W.seq ?_
    refine W.block ?_
    refine W.KA cok tab12 hnt [] [0,1,5,26] (⟨[(0,.sl (.calls a)),(1,.sl (.calls b)),(5,.i ((i : Nat) : Int)),(26,.b (!(decide ((a.getD i default) = (b.getD i default)))))],[],[999]⟩)
     (True ∧ True ∧ (True ∧ True ∧ (0 ≤ ((i : Nat) : Int)) ∧ (((i : Nat) : Int) < (a.length : Int))) ∧ True ∧ True ∧ True ∧ (True ∧ True ∧ (0 ≤ ((i : Nat) : Int)) ∧ (((i : Nat) : Int) < (b.length : Int))) ∧ True ∧ (True ∧ (True ∧ True ∧ True) ∧ True) ∧ True ∧ True) (by kernel_rfl) (by kernel_rfl)
     ⟨tt,tt,⟨tt,tt,(by omega),(by omega)⟩,tt,tt,tt,⟨tt,tt,(by omega),(by omega)⟩,tt,⟨tt,⟨tt,tt,tt⟩,tt⟩,tt,tt⟩ ?_
    refine W.if' (!(decide ((a.getD i default) = (b.getD i default)))) (.b (!(decide ((a.getD i default) = (b.getD i default))))) (by kernel_rfl) rfl trivial ?_ ?_
    ·intro h26
     refine W.K cok tab12 hnt [] [4] (⟨[(4,.b false)],[],[999]⟩)
      (True ∧ True) (by kernel_rfl)
      ⟨tt,tt⟩ ?_
     refine W.ret (blockQ_ret (thenQ_ret (thenQ_ret (blockQ_ret (thenQ_ret ?_)))))
     exact endQ_ret (.b false) (by kernel_rfl) (@cast ((.bool false : Value) = .bool (decide (a = b))) _ (by kernel_rfl) (congrArg Value.bool (by symm; exact decide_eq_false (fun e => by rw [e] at h26; simp at h26))))
    ·intro n26
     refine W.skip (blockQ_normal (thenQ_normal ?_))
     refine W.L cok tab12 hnt [] (⟨[(0,.sl (.calls a)),(1,.sl (.calls b)),(5,.i (((i + 1) : Nat) : Int)),(15,.i ((i : Nat) : Int)),(16,.i (((i + 1) : Nat) : Int)),(26,.b (!(decide ((a.getD i default) = (b.getD i default)))))],[],[999]⟩)
      (True ∧ (True ∧ True ∧ (Fits .i64 (((i + 1) : Nat) : Int))) ∧ True ∧ True) (by kernel_rfl)
      ⟨tt,⟨tt,tt,(by exact fits_i64 (by omega) (by omega))⟩,tt,tt⟩ ?_
     refine thenQ_normal ?_
     refine ⟨((i + 1)),(show ((i + 1) ≤ a.length) ∧ (∀ j,j < (i + 1) → a.getD j default = b.getD j default) from ⟨(by first | assumption | omega | rfl | (intro _ hjj; omega) | (simp; done) | (simp; omega)),(by exact upto_succ hA (by simpa using n26))⟩),(show a.length - (i + 1) < a.length - i from (by first | omega | (simp_all; omega))),?_⟩
     exact Sub.of [] (@cast ((((.calls a : Dat) = .calls a) ∧ (((.calls b : Dat) = .calls b) ∧ (((.int .i64 (((i + 1) : Nat) : Int) : Value) = .int .i64 (((i + 1) : Nat) : Int)) ∧ True))) ∧ (True ∧ ((true = true) ∧ (true = true)))) _ (by kernel_rfl) ⟨⟨rfl,rfl,rfl,tt⟩,tt,rfl,rfl⟩)
   ·intro n14
    refine W.exit (thenQ_exit (thenQ_exit (blockQ_hit ?_)))
    refine thenQ_normal ?_
    refine W.K cok tab12 hnt [] [4] (⟨[(4,.b true)],[],[999]⟩)
     (True ∧ True) (by kernel_rfl)
     ⟨tt,tt⟩ ?_
    refine W.ret ?_
    exact endQ_ret (.b true) (by kernel_rfl) (@cast ((.bool true : Value) = .bool (decide (a = b))) _ (by kernel_rfl) (congrArg Value.bool (by symm; exact decide_eq_true (calls_ext (by omega) (fun j hj => hA j (by omega))))))
theorem ent12 : Entr prog 12 := ⟨_,func12,rfl,by decide⟩
end Go.Proofs.Try
