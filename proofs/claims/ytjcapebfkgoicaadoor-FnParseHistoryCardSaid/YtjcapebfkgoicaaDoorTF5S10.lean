import Derived.Test.YtjcapebfkgoicaaDoorTF5S0
import Derived.Test.YtjcapebfkgoicaaDoorTF5S1
import Derived.Test.YtjcapebfkgoicaaDoorTF5S5
import Derived.Test.YtjcapebfkgoicaaDoorTF5S6
import Derived.Test.YtjcapebfkgoicaaDoorTF5S9
import Derived.Test.YtjcapebfkgoicaaDoorTF5S3
import Derived.Test.YtjcapebfkgoicaaDoorTF5S2
set_option linter.unusedSimpArgs false
set_option linter.unusedVariables false
namespace Go.Proofs.Tryd
open Go.Ab Go.RowKit
def pre34x : List AV → List AV → Prop := preP [.int] [.bytes,.int] (fun (n,_) (l,p,_) => (0 ≤ p ∧ p ≤ 1000000))
def rel34x : RelS := relP [.int] [.bytes,.int] (ι := Unit) (fun (n,_) (l,p,_) _ => True) (fun (n,_) (l,p,_) _ => (.i (pickV l p n),[],[.sl (.bytes l),.i (p + 1)]))
abbrev T34x : Tab := lk []
theorem tab34x : TabOK prog T34x := TabOK.nil
set_option maxRecDepth 100000 in
set_option maxHeartbeats 1000000 in
theorem rok34x : RelOK prog 34 (some 68) [.o] pre34x rel34x := by
 refine RelOK.mk cok func34 rfl rfl rfl ?_
 rintro ⟨(n : Int),_⟩ ⟨(l : List UInt8),(p : Int),_⟩ hpre F hnt0
 have hnt : F.nt = 99 := hnt0.trans ntmps34
 replace hpre : (0 ≤ p ∧ p ≤ 1000000) := hpre
 have hp := hpre
 refine W.to (⟨[(0,.ptr 998 0),(1,.i n)],[(998,⟨68,.fix [.sl (.bytes l),.i p]⟩)],[998,999]⟩) rfl ?_
 have hu : ∀ i : Nat,((UInt8.toNat (l.getD i default) : Nat) : Int) ≤ 255 := fun i => by have := (l.getD i default).toNat_lt; omega
 refine Kk cok tab34x hnt [] [0,1] (⟨[(0,.ptr 998 0),(1,.i n)],[(998,⟨68,.fix [.sl (.bytes l),.i p]⟩)],[998,999]⟩)
  (True ∧ True)
  ⟨tt,tt⟩ ?_
 refine Kk cok tab34x hnt [] [0,1] (⟨[(0,.ptr 998 0),(1,.i n)],[(998,⟨68,.fix [.sl (.bytes l),.i (p + (1 : Int))]⟩)],[998,999]⟩)
  (True ∧ True ∧ True ∧ True ∧ True ∧ (True ∧ True ∧ (Fits .i64 (p + (1 : Int)))) ∧ True ∧ True ∧ (True ∧ True) ∧ True)
  ⟨tt,tt,tt,tt,tt,⟨tt,tt,(by exact fits_i64 (by omega) (by omega))⟩,tt,tt,⟨tt,tt⟩,tt⟩ ?_
 refine W.seq ?_
 refine Kk cok tab34x hnt [] [0,1,24] (⟨[(0,.ptr 998 0),(1,.i n),(24,.b ((decide (n < (1 : Int))) || (decide ((l.length : Int) = (0 : Int)))))],[(998,⟨68,.fix [.sl (.bytes l),.i (p + (1 : Int))]⟩)],[998,999]⟩)
  ((fun (Z1:Bool)=>(True ∧ ((True ∧ (True ∧ True)) ∧ (True ∧ (((!Z1) = true → True) ∧ (((!Z1) = true → (((!Z1) = true) ∧ True)) ∧ (((!Z1) = true → (((!Z1) = true) ∧ True)) ∧ (((!Z1) = true → (((!Z1) = true) ∧ True)) ∧ (((!Z1) = true → (((!Z1) = true) ∧ True)) ∧ (((!Z1) = true → ((((!Z1) = true) ∧ True) ∧ (True ∧ True))) ∧ ((True ∧ ((Z1 = true → True) ∧ (Z1 = false → ((!Z1) = true) ∧ True))) ∧ True))))))))))) (decide (n < (1 : Int))))
  ⟨tt,⟨tt,tt,tt⟩,tt,(fun _ => trivial),(fun hG => ⟨hG,tt⟩),(fun hG => ⟨hG,tt⟩),(fun hG => ⟨hG,tt⟩),(fun hG => ⟨hG,tt⟩),(fun hG => ⟨⟨hG,tt⟩,tt,tt⟩),⟨tt,(fun _ => trivial),(fun hp => ⟨(not_t hp),tt⟩)⟩,tt⟩ ?_
 refine W.if' ((decide (n < (1 : Int))) || (decide ((l.length : Int) = (0 : Int)))) (.b ((decide (n < (1 : Int))) || (decide ((l.length : Int) = (0 : Int))))) (by kernel_rfl) rfl trivial ?_ ?_
 ·intro h24
  refine Kk cok tab34x hnt [] [4] (⟨[(4,.i (0 : Int))],[(998,⟨68,.fix [.sl (.bytes l),.i (p + (1 : Int))]⟩)],[998,999]⟩)
   (True ∧ True)
   ⟨tt,tt⟩ ?_
  refine W.ret (thenQ_ret ?_)
  exact endP_ret () (show True from trivial) [(0,998)] (.i (0 : Int)) (by kernel_rfl) (@cast (((.int .i64 (0 : Int) : Value) = .int .i64 (pickV l p n)) ∧ ((((68 : Nat) = 68) ∧ ((Sd (.bytes l)) ∧ ((.int .i64 (p + (1 : Int)) : Value) = .int .i64 (p + 1)) ∧ True) ∧ ((0 : Nat) ∈ ([0] : List Nat))) ∧ True) ∧ (true = true) ∧ ((([] : List Nat) = []) ∧ True) ∧ (true = true → (998 : Nat) = 998)) _ (by kernel_rfl) ⟨(congrArg (Value.int .i64) (by first | rfl | omega | assumption | (exact pickV_0 h24; done) | simp | simp_all)),⟨⟨rfl,⟨rfl,(congrArg (Value.int .i64) (by first | rfl | omega | assumption | simp | simp_all)),tt⟩,(by decide)⟩,tt⟩,rfl,⟨rfl,tt⟩,(fun _ => rfl)⟩)
 ·intro n24
  have n24_0 : ¬ (n < (1 : Int)) := of_decide_eq_false (or_l n24)
  have n24_1 : ¬ ((l.length : Int) = (0 : Int)) := of_decide_eq_false (or_r n24)
  refine W.skip (thenQ_normal ?_)
  refine Kk cok tab34x hnt [] [0,1,5] (⟨[(0,.ptr 998 0),(1,.i n),(5,.i ((p + (1 : Int)) - (1 : Int)))],[(998,⟨68,.fix [.sl (.bytes l),.i (p + (1 : Int))]⟩)],[998,999]⟩)
   (True ∧ True ∧ True ∧ True ∧ (True ∧ True ∧ (Fits .i64 ((p + (1 : Int)) - (1 : Int)))) ∧ True ∧ True)
   ⟨tt,tt,tt,tt,⟨tt,tt,(by exact fits_i64 (by omega) (by omega))⟩,tt,tt⟩ ?_
  refine W.seq ?_
  refine Kk cok tab34x hnt [] [0,1,5,36] (⟨[(0,.ptr 998 0),(1,.i n),(5,.i ((p + (1 : Int)) - (1 : Int))),(36,.b (decide (((p + (1 : Int)) - (1 : Int)) < (l.length : Int))))],[(998,⟨68,.fix [.sl (.bytes l),.i (p + (1 : Int))]⟩)],[998,999]⟩)
   (True ∧ True ∧ True ∧ True ∧ True ∧ True ∧ (True ∧ True ∧ True) ∧ True)
   ⟨tt,tt,tt,tt,tt,tt,⟨tt,tt,tt⟩,tt⟩ ?_
  refine W.ifP (((p + (1 : Int)) - (1 : Int)) < (l.length : Int)) (.b (decide (((p + (1 : Int)) - (1 : Int)) < (l.length : Int)))) (by kernel_rfl) rfl trivial ?_ ?_
  ·intro h36
   have hu1 := hu (Int.toNat (p + 1 - 1))
   refine Kk cok tab34x hnt [] [4] (⟨[(4,.i (Int.tmod (((UInt8.toNat (l.getD (Int.toNat ((p + (1 : Int)) - (1 : Int))) default)) : Nat) : Int) n))],[(998,⟨68,.fix [.sl (.bytes l),.i (p + (1 : Int))]⟩)],[998,999]⟩)
    (True ∧ True ∧ True ∧ True ∧ True ∧ (True ∧ True ∧ (0 ≤ ((p + (1 : Int)) - (1 : Int))) ∧ (((p + (1 : Int)) - (1 : Int)) < (l.length : Int))) ∧ True ∧ (True ∧ (Fits .i64 (((UInt8.toNat (l.getD (Int.toNat ((p + (1 : Int)) - (1 : Int))) default)) : Nat) : Int))) ∧ True ∧ (True ∧ True ∧ (n ≠ 0)) ∧ True ∧ True)
    ⟨tt,tt,tt,tt,tt,⟨tt,tt,(by omega),(by omega)⟩,tt,⟨tt,(by exact fits_i64 (by (first | omega | (simp only [List.length_set]; done) | (simp only [List.length_append,List.length_cons,List.length_nil,List.length_take,List.length_drop,List.length_set,List.length_replicate,List.length_map] at *; omega) | assumption)) (by (first | omega | (simp only [List.length_set]; done) | (simp only [List.length_append,List.length_cons,List.length_nil,List.length_take,List.length_drop,List.length_set,List.length_replicate,List.length_map] at *; omega) | assumption)))⟩,tt,⟨tt,tt,(by omega)⟩,tt,tt⟩ ?_
   refine W.ret (thenQ_ret ?_)
   exact endP_ret () (show True from trivial) [(0,998)] (.i (Int.tmod (((UInt8.toNat (l.getD (Int.toNat ((p + (1 : Int)) - (1 : Int))) default)) : Nat) : Int) n)) (by kernel_rfl) (@cast (((.int .i64 (Int.tmod (((UInt8.toNat (l.getD (Int.toNat ((p + (1 : Int)) - (1 : Int))) default)) : Nat) : Int) n) : Value) = .int .i64 (pickV l p n)) ∧ ((((68 : Nat) = 68) ∧ ((Sd (.bytes l)) ∧ ((.int .i64 (p + (1 : Int)) : Value) = .int .i64 (p + 1)) ∧ True) ∧ ((0 : Nat) ∈ ([0] : List Nat))) ∧ True) ∧ (true = true) ∧ ((([] : List Nat) = []) ∧ True) ∧ (true = true → (998 : Nat) = 998)) _ (by kernel_rfl) ⟨(congrArg (Value.int .i64) (by first | rfl | omega | assumption | (exact pickV_1 n24 h36; done) | simp | simp_all)),⟨⟨rfl,⟨rfl,(congrArg (Value.int .i64) (by first | rfl | omega | assumption | simp | simp_all)),tt⟩,(by decide)⟩,tt⟩,rfl,⟨rfl,tt⟩,(fun _ => rfl)⟩)
  ·intro n36
   refine W.skip (thenQ_normal ?_)
   have hl0 : 0 < (List.length l : Int) := by omega
   have hm1 := Int.tmod_lt_of_pos (p + 1 - 1) hl0
   have hm2 := Int.tmod_nonneg (List.length l : Int) (show 0 ≤ p + 1 - 1 by omega)
   have hm3 := Int.tmod_lt_of_pos ((p + 1 - 1) * 7 + 3) hl0
   have hm4 := Int.tmod_nonneg (List.length l : Int) (show 0 ≤ (p + 1 - 1) * 7 + 3 by omega)
   have hd1 : 0 ≤ Int.tdiv (p + 1 - 1) (List.length l : Int) := Int.tdiv_nonneg (by omega) (by omega)
   have hd2 : Int.tdiv (p + 1 - 1) (List.length l : Int) ≤ p + 1 - 1 := Int.tdiv_le_self _ (by omega)
   have hu2 := hu (Int.toNat (Int.tmod (p + 1 - 1) (List.length l : Int)))
   have hu3 := hu (Int.toNat (Int.tmod ((p + 1 - 1) * 7 + 3) (List.length l : Int)))
   refine W.KA cok tab34x hnt [] [1,6] (⟨[(1,.i n),(6,.i (((((((UInt8.toNat (l.getD (Int.toNat (Int.tmod ((p + (1 : Int)) - (1 : Int)) (l.length : Int))) default)) : Nat) : Int) * (131 : Int)) + ((((UInt8.toNat (l.getD (Int.toNat (Int.tmod ((((p + (1 : Int)) - (1 : Int)) * (7 : Int)) + (3 : Int)) (l.length : Int))) default)) : Nat) : Int) * (1117 : Int))) + (((p + (1 : Int)) - (1 : Int)) * (29 : Int))) + ((Int.tdiv ((p + (1 : Int)) - (1 : Int)) (l.length : Int)) * (53 : Int))))],[(998,⟨68,.fix [.sl (.bytes l),.i (p + (1 : Int))]⟩)],[998,999]⟩)
    (True ∧ True ∧ True ∧ True ∧ True ∧ True ∧ True ∧ True ∧ True ∧ True ∧ (True ∧ True ∧ ((l.length : Int) ≠ 0)) ∧ (True ∧ True ∧ (0 ≤ (Int.tmod ((p + (1 : Int)) - (1 : Int)) (l.length : Int))) ∧ ((Int.tmod ((p + (1 : Int)) - (1 : Int)) (l.length : Int)) < (l.length : Int))) ∧ True ∧ (True ∧ (Fits .i64 (((UInt8.toNat (l.getD (Int.toNat (Int.tmod ((p + (1 : Int)) - (1 : Int)) (l.length : Int))) default)) : Nat) : Int))) ∧ (True ∧ True ∧ (Fits .i64 ((((UInt8.toNat (l.getD (Int.toNat (Int.tmod ((p + (1 : Int)) - (1 : Int)) (l.length : Int))) default)) : Nat) : Int) * (131 : Int)))) ∧ True ∧ True ∧ True ∧ True ∧ True ∧ (True ∧ True ∧ (Fits .i64 (((p + (1 : Int)) - (1 : Int)) * (7 : Int)))) ∧ (True ∧ True ∧ (Fits .i64 ((((p + (1 : Int)) - (1 : Int)) * (7 : Int)) + (3 : Int)))) ∧ True ∧ True ∧ True ∧ True ∧ True ∧ (True ∧ True ∧ ((l.length : Int) ≠ 0)) ∧ (True ∧ True ∧ (0 ≤ (Int.tmod ((((p + (1 : Int)) - (1 : Int)) * (7 : Int)) + (3 : Int)) (l.length : Int))) ∧ ((Int.tmod ((((p + (1 : Int)) - (1 : Int)) * (7 : Int)) + (3 : Int)) (l.length : Int)) < (l.length : Int))) ∧ True ∧ (True ∧ (Fits .i64 (((UInt8.toNat (l.getD (Int.toNat (Int.tmod ((((p + (1 : Int)) - (1 : Int)) * (7 : Int)) + (3 : Int)) (l.length : Int))) default)) : Nat) : Int))) ∧ (True ∧ True ∧ (Fits .i64 ((((UInt8.toNat (l.getD (Int.toNat (Int.tmod ((((p + (1 : Int)) - (1 : Int)) * (7 : Int)) + (3 : Int)) (l.length : Int))) default)) : Nat) : Int) * (1117 : Int)))) ∧ (True ∧ True ∧ (Fits .i64 (((((UInt8.toNat (l.getD (Int.toNat (Int.tmod ((p + (1 : Int)) - (1 : Int)) (l.length : Int))) default)) : Nat) : Int) * (131 : Int)) + ((((UInt8.toNat (l.getD (Int.toNat (Int.tmod ((((p + (1 : Int)) - (1 : Int)) * (7 : Int)) + (3 : Int)) (l.length : Int))) default)) : Nat) : Int) * (1117 : Int))))) ∧ True ∧ (True ∧ True ∧ (Fits .i64 (((p + (1 : Int)) - (1 : Int)) * (29 : Int)))) ∧ (True ∧ True ∧ (Fits .i64 ((((((UInt8.toNat (l.getD (Int.toNat (Int.tmod ((p + (1 : Int)) - (1 : Int)) (l.length : Int))) default)) : Nat) : Int) * (131 : Int)) + ((((UInt8.toNat (l.getD (Int.toNat (Int.tmod ((((p + (1 : Int)) - (1 : Int)) * (7 : Int)) + (3 : Int)) (l.length : Int))) default)) : Nat) : Int) * (1117 : Int))) + (((p + (1 : Int)) - (1 : Int)) * (29 : Int))))) ∧ True ∧ True ∧ True ∧ True ∧ True ∧ True ∧ (True ∧ True ∧ ((l.length : Int) ≠ 0) ∧ (Fits .i64 (Int.tdiv ((p + (1 : Int)) - (1 : Int)) (l.length : Int)))) ∧ (True ∧ True ∧ (Fits .i64 ((Int.tdiv ((p + (1 : Int)) - (1 : Int)) (l.length : Int)) * (53 : Int)))) ∧ (True ∧ True ∧ (Fits .i64 (((((((UInt8.toNat (l.getD (Int.toNat (Int.tmod ((p + (1 : Int)) - (1 : Int)) (l.length : Int))) default)) : Nat) : Int) * (131 : Int)) + ((((UInt8.toNat (l.getD (Int.toNat (Int.tmod ((((p + (1 : Int)) - (1 : Int)) * (7 : Int)) + (3 : Int)) (l.length : Int))) default)) : Nat) : Int) * (1117 : Int))) + (((p + (1 : Int)) - (1 : Int)) * (29 : Int))) + ((Int.tdiv ((p + (1 : Int)) - (1 : Int)) (l.length : Int)) * (53 : Int))))) ∧ True ∧ True) (by kernel_rfl) (by kernel_rfl)
    ⟨tt,tt,tt,tt,tt,tt,tt,tt,tt,tt,⟨tt,tt,(by omega)⟩,⟨tt,tt,(by omega),(by omega)⟩,tt,⟨tt,(by exact fits_i64 (by (first | omega | (simp only [List.length_set]; done) | (simp only [List.length_append,List.length_cons,List.length_nil,List.length_take,List.length_drop,List.length_set,List.length_replicate,List.length_map] at *; omega) | assumption)) (by (first | omega | (simp only [List.length_set]; done) | (simp only [List.length_append,List.length_cons,List.length_nil,List.length_take,List.length_drop,List.length_set,List.length_replicate,List.length_map] at *; omega) | assumption)))⟩,⟨tt,tt,(by exact fits_i64 (by (first | omega | (simp only [List.length_set]; done) | (simp only [List.length_append,List.length_cons,List.length_nil,List.length_take,List.length_drop,List.length_set,List.length_replicate,List.length_map] at *; omega) | assumption)) (by (first | omega | (simp only [List.length_set]; done) | (simp only [List.length_append,List.length_cons,List.length_nil,List.length_take,List.length_drop,List.length_set,List.length_replicate,List.length_map] at *; omega) | assumption)))⟩,tt,tt,tt,tt,tt,⟨tt,tt,(by exact fits_i64 (by omega) (by omega))⟩,⟨tt,tt,(by exact fits_i64 (by omega) (by omega))⟩,tt,tt,tt,tt,tt,⟨tt,tt,(by omega)⟩,⟨tt,tt,(by omega),(by omega)⟩,tt,⟨tt,(by exact fits_i64 (by (first | omega | (simp only [List.length_set]; done) | (simp only [List.length_append,List.length_cons,List.length_nil,List.length_take,List.length_drop,List.length_set,List.length_replicate,List.length_map] at *; omega) | assumption)) (by (first | omega | (simp only [List.length_set]; done) | (simp only [List.length_append,List.length_cons,List.length_nil,List.length_take,List.length_drop,List.length_set,List.length_replicate,List.length_map] at *; omega) | assumption)))⟩,⟨tt,tt,(by exact fits_i64 (by (first | omega | (simp only [List.length_set]; done) | (simp only [List.length_append,List.length_cons,List.length_nil,List.length_take,List.length_drop,List.length_set,List.length_replicate,List.length_map] at *; omega) | assumption)) (by (first | omega | (simp only [List.length_set]; done) | (simp only [List.length_append,List.length_cons,List.length_nil,List.length_take,List.length_drop,List.length_set,List.length_replicate,List.length_map] at *; omega) | assumption)))⟩,⟨tt,tt,(by exact fits_i64 (by (first | omega | (simp only [List.length_set]; done) | (simp only [List.length_append,List.length_cons,List.length_nil,List.length_take,List.length_drop,List.length_set,List.length_replicate,List.length_map] at *; omega) | assumption)) (by (first | omega | (simp only [List.length_set]; done) | (simp only [List.length_append,List.length_cons,List.length_nil,List.length_take,List.length_drop,List.length_set,List.length_replicate,List.length_map] at *; omega) | assumption)))⟩,tt,⟨tt,tt,(by exact fits_i64 (by omega) (by omega))⟩,⟨tt,tt,(by exact fits_i64 (by (first | omega | (simp only [List.length_set]; done) | (simp only [List.length_append,List.length_cons,List.length_nil,List.length_take,List.length_drop,List.length_set,List.length_replicate,List.length_map] at *; omega) | assumption)) (by (first | omega | (simp only [List.length_set]; done) | (simp only [List.length_append,List.length_cons,List.length_nil,List.length_take,List.length_drop,List.length_set,List.length_replicate,List.length_map] at *; omega) | assumption)))⟩,tt,tt,tt,tt,tt,tt,⟨tt,tt,(by omega),(by exact fits_i64 (by omega) (by omega))⟩,⟨tt,tt,(by exact fits_i64 (by omega) (by omega))⟩,⟨tt,tt,(by exact fits_i64 (by (first | omega | (simp only [List.length_set]; done) | (simp only [List.length_append,List.length_cons,List.length_nil,List.length_take,List.length_drop,List.length_set,List.length_replicate,List.length_map] at *; omega) | assumption)) (by (first | omega | (simp only [List.length_set]; done) | (simp only [List.length_append,List.length_cons,List.length_nil,List.length_take,List.length_drop,List.length_set,List.length_replicate,List.length_map] at *; omega) | assumption)))⟩,tt,tt⟩ ?_
   refine Kk cok tab34x hnt [] [1,6] (⟨[(1,.i n),(6,.i (bitsI .xor .i64 (((((((UInt8.toNat (l.getD (Int.toNat (Int.tmod ((p + (1 : Int)) - (1 : Int)) (l.length : Int))) default)) : Nat) : Int) * (131 : Int)) + ((((UInt8.toNat (l.getD (Int.toNat (Int.tmod ((((p + (1 : Int)) - (1 : Int)) * (7 : Int)) + (3 : Int)) (l.length : Int))) default)) : Nat) : Int) * (1117 : Int))) + (((p + (1 : Int)) - (1 : Int)) * (29 : Int))) + ((Int.tdiv ((p + (1 : Int)) - (1 : Int)) (l.length : Int)) * (53 : Int))) (Int.tdiv (((((((UInt8.toNat (l.getD (Int.toNat (Int.tmod ((p + (1 : Int)) - (1 : Int)) (l.length : Int))) default)) : Nat) : Int) * (131 : Int)) + ((((UInt8.toNat (l.getD (Int.toNat (Int.tmod ((((p + (1 : Int)) - (1 : Int)) * (7 : Int)) + (3 : Int)) (l.length : Int))) default)) : Nat) : Int) * (1117 : Int))) + (((p + (1 : Int)) - (1 : Int)) * (29 : Int))) + ((Int.tdiv ((p + (1 : Int)) - (1 : Int)) (l.length : Int)) * (53 : Int))) (64 : Int))))],[(998,⟨68,.fix [.sl (.bytes l),.i (p + (1 : Int))]⟩)],[998,999]⟩)
    (True ∧ True ∧ (True ∧ True ∧ ((64 : Int) ≠ 0) ∧ (Fits .i64 (Int.tdiv (((((((UInt8.toNat (l.getD (Int.toNat (Int.tmod ((p + (1 : Int)) - (1 : Int)) (l.length : Int))) default)) : Nat) : Int) * (131 : Int)) + ((((UInt8.toNat (l.getD (Int.toNat (Int.tmod ((((p + (1 : Int)) - (1 : Int)) * (7 : Int)) + (3 : Int)) (l.length : Int))) default)) : Nat) : Int) * (1117 : Int))) + (((p + (1 : Int)) - (1 : Int)) * (29 : Int))) + ((Int.tdiv ((p + (1 : Int)) - (1 : Int)) (l.length : Int)) * (53 : Int))) (64 : Int)))) ∧ (True ∧ True ∧ True) ∧ True ∧ True)
    ⟨tt,tt,⟨tt,tt,(by decide),(by exact fits_i64 (Int.le_trans (by omega) (Int.tdiv_nonneg (by omega) (by omega))) (Int.le_trans (Int.tdiv_le_self _ (by omega)) (by omega)))⟩,⟨tt,tt,tt⟩,tt,tt⟩ ?_
   refine Kk cok tab34x hnt [] [4] (⟨[(4,.i (Int.tmod (bitsI .xor .i64 (((((((UInt8.toNat (l.getD (Int.toNat (Int.tmod ((p + (1 : Int)) - (1 : Int)) (l.length : Int))) default)) : Nat) : Int) * (131 : Int)) + ((((UInt8.toNat (l.getD (Int.toNat (Int.tmod ((((p + (1 : Int)) - (1 : Int)) * (7 : Int)) + (3 : Int)) (l.length : Int))) default)) : Nat) : Int) * (1117 : Int))) + (((p + (1 : Int)) - (1 : Int)) * (29 : Int))) + ((Int.tdiv ((p + (1 : Int)) - (1 : Int)) (l.length : Int)) * (53 : Int))) (Int.tdiv (((((((UInt8.toNat (l.getD (Int.toNat (Int.tmod ((p + (1 : Int)) - (1 : Int)) (l.length : Int))) default)) : Nat) : Int) * (131 : Int)) + ((((UInt8.toNat (l.getD (Int.toNat (Int.tmod ((((p + (1 : Int)) - (1 : Int)) * (7 : Int)) + (3 : Int)) (l.length : Int))) default)) : Nat) : Int) * (1117 : Int))) + (((p + (1 : Int)) - (1 : Int)) * (29 : Int))) + ((Int.tdiv ((p + (1 : Int)) - (1 : Int)) (l.length : Int)) * (53 : Int))) (64 : Int))) n))],[(998,⟨68,.fix [.sl (.bytes l),.i (p + (1 : Int))]⟩)],[998,999]⟩)
    (True ∧ True ∧ (True ∧ True ∧ (n ≠ 0)) ∧ True ∧ True)
    ⟨tt,tt,⟨tt,tt,(by omega)⟩,tt,tt⟩ ?_
   refine W.ret ?_
   exact endP_ret () (show True from trivial) [(0,998)] (.i (Int.tmod (bitsI .xor .i64 (((((((UInt8.toNat (l.getD (Int.toNat (Int.tmod ((p + (1 : Int)) - (1 : Int)) (l.length : Int))) default)) : Nat) : Int) * (131 : Int)) + ((((UInt8.toNat (l.getD (Int.toNat (Int.tmod ((((p + (1 : Int)) - (1 : Int)) * (7 : Int)) + (3 : Int)) (l.length : Int))) default)) : Nat) : Int) * (1117 : Int))) + (((p + (1 : Int)) - (1 : Int)) * (29 : Int))) + ((Int.tdiv ((p + (1 : Int)) - (1 : Int)) (l.length : Int)) * (53 : Int))) (Int.tdiv (((((((UInt8.toNat (l.getD (Int.toNat (Int.tmod ((p + (1 : Int)) - (1 : Int)) (l.length : Int))) default)) : Nat) : Int) * (131 : Int)) + ((((UInt8.toNat (l.getD (Int.toNat (Int.tmod ((((p + (1 : Int)) - (1 : Int)) * (7 : Int)) + (3 : Int)) (l.length : Int))) default)) : Nat) : Int) * (1117 : Int))) + (((p + (1 : Int)) - (1 : Int)) * (29 : Int))) + ((Int.tdiv ((p + (1 : Int)) - (1 : Int)) (l.length : Int)) * (53 : Int))) (64 : Int))) n)) (by kernel_rfl) (@cast (((.int .i64 (Int.tmod (bitsI .xor .i64 (((((((UInt8.toNat (l.getD (Int.toNat (Int.tmod ((p + (1 : Int)) - (1 : Int)) (l.length : Int))) default)) : Nat) : Int) * (131 : Int)) + ((((UInt8.toNat (l.getD (Int.toNat (Int.tmod ((((p + (1 : Int)) - (1 : Int)) * (7 : Int)) + (3 : Int)) (l.length : Int))) default)) : Nat) : Int) * (1117 : Int))) + (((p + (1 : Int)) - (1 : Int)) * (29 : Int))) + ((Int.tdiv ((p + (1 : Int)) - (1 : Int)) (l.length : Int)) * (53 : Int))) (Int.tdiv (((((((UInt8.toNat (l.getD (Int.toNat (Int.tmod ((p + (1 : Int)) - (1 : Int)) (l.length : Int))) default)) : Nat) : Int) * (131 : Int)) + ((((UInt8.toNat (l.getD (Int.toNat (Int.tmod ((((p + (1 : Int)) - (1 : Int)) * (7 : Int)) + (3 : Int)) (l.length : Int))) default)) : Nat) : Int) * (1117 : Int))) + (((p + (1 : Int)) - (1 : Int)) * (29 : Int))) + ((Int.tdiv ((p + (1 : Int)) - (1 : Int)) (l.length : Int)) * (53 : Int))) (64 : Int))) n) : Value) = .int .i64 (pickV l p n)) ∧ ((((68 : Nat) = 68) ∧ ((Sd (.bytes l)) ∧ ((.int .i64 (p + (1 : Int)) : Value) = .int .i64 (p + 1)) ∧ True) ∧ ((0 : Nat) ∈ ([0] : List Nat))) ∧ True) ∧ (true = true) ∧ ((([] : List Nat) = []) ∧ True) ∧ (true = true → (998 : Nat) = 998)) _ (by kernel_rfl) ⟨(congrArg (Value.int .i64) (by first | rfl | omega | assumption | (exact pickV_2 n24 n36 rfl; done) | simp | simp_all)),⟨⟨rfl,⟨rfl,(congrArg (Value.int .i64) (by first | rfl | omega | assumption | simp | simp_all)),tt⟩,(by decide)⟩,tt⟩,rfl,⟨rfl,tt⟩,(fun _ => rfl)⟩)
theorem ent34x : Entr prog 34 := ⟨_,func34,rfl,by decide⟩
def fs34x : FnS := fnP 68 [.o] [.int] [.bytes,.int] (fun (n,_) (l,p,_) => (0 ≤ p ∧ p ≤ 1000000)) (fun (n,_) (l,p,_) _ => (.i (pickV l p n),[],[.sl (.bytes l),.i (p + 1)]))
theorem ok34x : FnX prog 34 fs34x := FnX.mk rok34x (fun _ _ => rfl)
end Go.Proofs.Tryd

set_option linter.unusedSimpArgs false
set_option linter.unusedVariables false
namespace Go.Proofs.Tryd
open Go.Ab Go.RowKit
def pre52x : List AV → List AV → Prop := preP [.strs] [.bytes,.int] (fun (xs,_) (l,p,_) => (0 ≤ p ∧ p ≤ 1000000) ∧ (0 < xs.length) ∧ (xs.length ≤ 1000))
def rel52x : RelS := relP [.strs] [.bytes,.int] (ι := Unit) (fun (xs,_) (l,p,_) _ => True) (fun (xs,_) (l,p,_) _ => (.v (.string (ofV l p xs)),[],[.sl (.bytes l),.i (p + 1)]))
abbrev T52x : Tab := lk [(34,fs34x)]
theorem tab52x : TabOK prog T52x := (TabOK.cons ok34x ent34x TabOK.nil)
set_option maxRecDepth 100000 in
set_option maxHeartbeats 1000000 in
theorem rok52x : RelOK prog 52 (some 68) [.s .strs] pre52x rel52x := by
 refine RelOK.mk cok func52 rfl rfl rfl ?_
 rintro ⟨(xs : List ByteArray),_⟩ ⟨(l : List UInt8),(p : Int),_⟩ hpre F hnt0
 have hnt : F.nt = 12 := hnt0.trans ntmps52
 replace hpre : (0 ≤ p ∧ p ≤ 1000000) ∧ (0 < xs.length) ∧ (xs.length ≤ 1000) := hpre
 obtain ⟨hp,hx,hx2⟩ := hpre
 refine W.to (⟨[(0,.ptr 998 0),(1,.sl (.strs xs))],[(998,⟨68,.fix [.sl (.bytes l),.i p]⟩)],[998,999]⟩) rfl ?_
 refine Kk cok tab52x hnt [] [0,1] (⟨[(0,.ptr 998 0),(1,.sl (.strs xs))],[(998,⟨68,.fix [.sl (.bytes l),.i p]⟩)],[998,999]⟩)
  (True ∧ True)
  ⟨tt,tt⟩ ?_
 refine Kk cok tab52x hnt [] [4] (⟨[(4,.v (.string (xs.getD (Int.toNat (pickV l p (xs.length : Int))) default)))],[(998,⟨68,.fix [.sl (.bytes l),.i (p + 1)]⟩)],[9,998,999]⟩)
  (True ∧ True ∧ True ∧ True ∧ (True ∧ True ∧ (True ∧ True) ∧ 0 ≤ p ∧ p ≤ 1000000) ∧ (True ∧ True ∧ (0 ≤ (pickV l p (xs.length : Int))) ∧ ((pickV l p (xs.length : Int)) < (xs.length : Int))) ∧ True ∧ True ∧ True)
  ⟨tt,tt,tt,tt,⟨tt,tt,⟨tt,tt⟩,(by omega)⟩,⟨tt,tt,(by have h9 := pickV_bnd (l := l) (n := (xs.length : Int)) hp; omega),(by have h9 := pickV_bnd (l := l) (n := (xs.length : Int)) hp; omega)⟩,tt,tt,tt⟩ ?_
 refine W.ret ?_
 exact endP_ret () (show True from trivial) [(0,998)] (.v (.string (xs.getD (Int.toNat (pickV l p (xs.length : Int))) default))) (by kernel_rfl) (@cast ((((.string (xs.getD (Int.toNat (pickV l p (xs.length : Int))) default)) : Value) = (.string (ofV l p xs))) ∧ ((((68 : Nat) = 68) ∧ ((Sd (.bytes l)) ∧ (Si (p + 1)) ∧ True) ∧ ((0 : Nat) ∈ ([0] : List Nat))) ∧ True) ∧ (true = true) ∧ ((([] : List Nat) = []) ∧ True) ∧ (true = true → (998 : Nat) = 998)) _ (by kernel_rfl) ⟨(by first | rfl | omega | assumption | (symm; assumption) | simp | simp_all),⟨⟨rfl,⟨rfl,rfl,tt⟩,(by decide)⟩,tt⟩,rfl,⟨rfl,tt⟩,(fun _ => rfl)⟩)
theorem ent52x : Entr prog 52 := ⟨_,func52,rfl,by decide⟩
def fs52x : FnS := fnP 68 [.s .strs] [.strs] [.bytes,.int] (fun (xs,_) (l,p,_) => (0 ≤ p ∧ p ≤ 1000000) ∧ (0 < xs.length) ∧ (xs.length ≤ 1000)) (fun (xs,_) (l,p,_) _ => (.v (.string (ofV l p xs)),[],[.sl (.bytes l),.i (p + 1)]))
theorem ok52x : FnX prog 52 fs52x := FnX.mk rok52x (fun _ _ => rfl)
end Go.Proofs.Tryd

set_option linter.unusedSimpArgs false
set_option linter.unusedVariables false
namespace Go.Proofs.Tryd
open Go.Ab Go.RowKit
def pre35 : List AV → List AV → Prop := preP [.str] [.bytes,.int] (fun (s,_) (l,p,_) => (0 ≤ p ∧ p ≤ 900000) ∧ (s.size ≤ 1000))
def rel35 : RelS := relP [.str] [.bytes,.int] (ι := ByteArray × Int) (fun (s,_) (l,p,_) (g,q) => (g.size ≤ 1020) ∧ (p ≤ q ∧ q ≤ p + 10)) (fun (s,_) (l,p,_) (g,q) => (.v (.string g),[],[.sl (.bytes l),.i q]))
abbrev T35 : Tab := lk [(34,fs34x),(52,fs52x)]
theorem tab35 : TabOK prog T35 := (TabOK.cons ok34x ent34x (TabOK.cons ok52x ent52x TabOK.nil))
set_option maxRecDepth 100000 in
set_option maxHeartbeats 1000000 in
theorem rok35 : RelOK prog 35 (some 68) [.o] pre35 rel35 := by
 refine RelOK.mk cok func35 rfl rfl rfl ?_
 rintro ⟨(s : ByteArray),_⟩ ⟨(l : List UInt8),(p : Int),_⟩ hpre F hnt0
 have hnt : F.nt = 45 := hnt0.trans ntmps35
 replace hpre : (0 ≤ p ∧ p ≤ 900000) ∧ (s.size ≤ 1000) := hpre
 obtain ⟨hp,hz⟩ := hpre
 refine W.to (⟨[(0,.ptr 998 0),(1,.v (.string s))],[(998,⟨68,.fix [.sl (.bytes l),.i p]⟩)],[998,999]⟩) rfl ?_
 have h9 := pickV_bnd (l := l) (p := p) (n := ((s.size + 1 : Nat) : Int)) (by omega)
 refine Kk cok tab35 hnt [] [0,1] (⟨[(0,.ptr 998 0),(1,.v (.string s))],[(998,⟨68,.fix [.sl (.bytes l),.i p]⟩)],[998,999]⟩)
  (True ∧ True)
  ⟨tt,tt⟩ ?_
 refine Kk cok tab35 hnt [] [0,1,5] (⟨[(0,.ptr 998 0),(1,.v (.string s)),(5,.i (pickV l p (((s.size + 1) : Nat) : Int)))],[(998,⟨68,.fix [.sl (.bytes l),.i (p + 1)]⟩)],[10,998,999]⟩)
  (True ∧ True ∧ True ∧ (True ∧ True ∧ (Fits .i64 (((s.size + 1) : Nat) : Int))) ∧ (True ∧ True ∧ (True ∧ True) ∧ 0 ≤ p ∧ p ≤ 1000000) ∧ True ∧ True)
  ⟨tt,tt,tt,⟨tt,tt,(by exact fits_i64 (by omega) (by omega))⟩,⟨tt,tt,⟨tt,tt⟩,(by omega)⟩,tt,tt⟩ ?_
 refine W.seq ?_
 refine Kk cok tab35 hnt [] [0,1,5,12] (⟨[(0,.ptr 998 0),(1,.v (.string s)),(5,.i (pickV l p (((s.size + 1) : Nat) : Int))),(12,.i (pickV l (p + 1) (5 : Int)))],[(998,⟨68,.fix [.sl (.bytes l),.i ((p + 1) + 1)]⟩)],[12,10,998,999]⟩)
  (True ∧ (True ∧ True ∧ (True ∧ True) ∧ 0 ≤ (p + 1) ∧ (p + 1) ≤ 1000000) ∧ True)
  ⟨tt,⟨tt,tt,⟨tt,tt⟩,(by omega)⟩,tt⟩ ?_
 refine W.block ?_
 refine W.seq ?_
 refine Kk cok tab35 hnt [] [0,1,5,12,13] (⟨[(0,.ptr 998 0),(1,.v (.string s)),(5,.i (pickV l p (((s.size + 1) : Nat) : Int))),(12,.i (pickV l (p + 1) (5 : Int))),(13,.b (decide ((pickV l (p + 1) (5 : Int)) = (0 : Int))))],[(998,⟨68,.fix [.sl (.bytes l),.i ((p + 1) + 1)]⟩)],[12,10,998,999]⟩)
  ((True ∧ True ∧ True) ∧ True ∧ True)
  ⟨⟨tt,tt,tt⟩,tt,tt⟩ ?_
 refine W.ifP ((pickV l (p + 1) (5 : Int)) = (0 : Int)) (.b (decide ((pickV l (p + 1) (5 : Int)) = (0 : Int)))) (by kernel_rfl) rfl trivial ?_ ?_
 ·intro h13
  refine W.skip (thenQ_normal ?_)
  refine W.ifP ((pickV l (p + 1) (5 : Int)) = (0 : Int)) (.b (decide ((pickV l (p + 1) (5 : Int)) = (0 : Int)))) (by kernel_rfl) rfl trivial ?_ ?_
  ·intro h13
   refine Kk cok tab35 hnt [] [0,1,5,19] (⟨[(0,.ptr 998 0),(1,.v (.string s)),(5,.i (pickV l p (((s.size + 1) : Nat) : Int))),(19,.b (decide ((pickV l p (((s.size + 1) : Nat) : Int)) < ((s.size : Nat) : Int))))],[(998,⟨68,.fix [.sl (.bytes l),.i ((p + 1) + 1)]⟩)],[12,10,998,999]⟩)
    (True ∧ True ∧ True ∧ (True ∧ True ∧ True) ∧ True)
    ⟨tt,tt,tt,⟨tt,tt,tt⟩,tt⟩ ?_
   refine W.ifP ((pickV l p (((s.size + 1) : Nat) : Int)) < ((s.size : Nat) : Int)) (.b (decide ((pickV l p (((s.size + 1) : Nat) : Int)) < ((s.size : Nat) : Int)))) (by kernel_rfl) rfl trivial ?_ ?_
   ·intro h19
    refine W.KA cok tab35 hnt [] [4] (⟨[(4,.v (.string (((s.extract 0 (Int.toNat (pickV l p (((s.size + 1) : Nat) : Int)))) ++ (ofV l ((p + 1) + 1) ([(⟨#[48]⟩ : ByteArray),(⟨#[49]⟩ : ByteArray),(⟨#[120]⟩ : ByteArray),(⟨#[61]⟩ : ByteArray),(⟨#[64]⟩ : ByteArray),(⟨#[45]⟩ : ByteArray),(⟨#[112]⟩ : ByteArray),(⟨#[57]⟩ : ByteArray),(⟨#[32]⟩ : ByteArray)]))) ++ (s.extract (Int.toNat ((pickV l p (((s.size + 1) : Nat) : Int)) + (1 : Int))) s.size))))],[(998,⟨68,.fix [.sl (.bytes l),.i (((p + 1) + 1) + 1)]⟩)],[25,24,12,10,998,999]⟩)
     (True ∧ True ∧ (True ∧ True ∧ True ∧ (0 ≤ (0 : Int)) ∧ ((0 : Int) ≤ (pickV l p (((s.size + 1) : Nat) : Int))) ∧ ((pickV l p (((s.size + 1) : Nat) : Int)) ≤ ((s.size : Nat) : Int))) ∧ True ∧ (True ∧ True ∧ True ∧ True ∧ True ∧ True ∧ True ∧ True ∧ True ∧ True) ∧ (True ∧ True ∧ (True ∧ True) ∧ (0 ≤ ((p + 1) + 1) ∧ ((p + 1) + 1) ≤ 1000000) ∧ (0 < ([(⟨#[48]⟩ : ByteArray),(⟨#[49]⟩ : ByteArray),(⟨#[120]⟩ : ByteArray),(⟨#[61]⟩ : ByteArray),(⟨#[64]⟩ : ByteArray),(⟨#[45]⟩ : ByteArray),(⟨#[112]⟩ : ByteArray),(⟨#[57]⟩ : ByteArray),(⟨#[32]⟩ : ByteArray)]).length) ∧ (([(⟨#[48]⟩ : ByteArray),(⟨#[49]⟩ : ByteArray),(⟨#[120]⟩ : ByteArray),(⟨#[61]⟩ : ByteArray),(⟨#[64]⟩ : ByteArray),(⟨#[45]⟩ : ByteArray),(⟨#[112]⟩ : ByteArray),(⟨#[57]⟩ : ByteArray),(⟨#[32]⟩ : ByteArray)]).length ≤ 1000)) ∧ (True ∧ True ∧ ((s.extract 0 (Int.toNat (pickV l p (((s.size + 1) : Nat) : Int)))).size + (ofV l ((p + 1) + 1) ([(⟨#[48]⟩ : ByteArray),(⟨#[49]⟩ : ByteArray),(⟨#[120]⟩ : ByteArray),(⟨#[61]⟩ : ByteArray),(⟨#[64]⟩ : ByteArray),(⟨#[45]⟩ : ByteArray),(⟨#[112]⟩ : ByteArray),(⟨#[57]⟩ : ByteArray),(⟨#[32]⟩ : ByteArray)])).size ≤ 9223372036854775807)) ∧ True ∧ True ∧ (True ∧ True ∧ (Fits .i64 ((pickV l p (((s.size + 1) : Nat) : Int)) + (1 : Int)))) ∧ (True ∧ True ∧ True ∧ (0 ≤ ((pickV l p (((s.size + 1) : Nat) : Int)) + (1 : Int))) ∧ (((pickV l p (((s.size + 1) : Nat) : Int)) + (1 : Int)) ≤ ((s.size : Nat) : Int)) ∧ (((s.size : Nat) : Int) ≤ ((s.size : Nat) : Int))) ∧ (True ∧ True ∧ (((s.extract 0 (Int.toNat (pickV l p (((s.size + 1) : Nat) : Int)))) ++ (ofV l ((p + 1) + 1) ([(⟨#[48]⟩ : ByteArray),(⟨#[49]⟩ : ByteArray),(⟨#[120]⟩ : ByteArray),(⟨#[61]⟩ : ByteArray),(⟨#[64]⟩ : ByteArray),(⟨#[45]⟩ : ByteArray),(⟨#[112]⟩ : ByteArray),(⟨#[57]⟩ : ByteArray),(⟨#[32]⟩ : ByteArray)]))).size + (s.extract (Int.toNat ((pickV l p (((s.size + 1) : Nat) : Int)) + (1 : Int))) s.size).size ≤ 9223372036854775807)) ∧ True ∧ True) (by kernel_rfl) (by kernel_rfl)
     ⟨tt,tt,⟨tt,tt,tt,(by omega),(by (try simp only [ByteArray.size_append,ByteArray.size_extract]); first | omega | exact ob_2 (ofV_small (by decide)) (by omega) | exact ob_3 (ofV_small (by decide)) (by omega)),(by (try simp only [ByteArray.size_append,ByteArray.size_extract]); first | omega | exact ob_2 (ofV_small (by decide)) (by omega) | exact ob_3 (ofV_small (by decide)) (by omega))⟩,tt,⟨tt,tt,tt,tt,tt,tt,tt,tt,tt,tt⟩,⟨tt,tt,⟨tt,tt⟩,(by omega),(by (first | omega | (simp only [List.length_set]; done) | (simp only [List.length_append,List.length_cons,List.length_nil,List.length_take,List.length_drop,List.length_set,List.length_replicate,List.length_map] at *; omega) | assumption)),(by (first | omega | (simp only [List.length_set]; done) | (simp only [List.length_append,List.length_cons,List.length_nil,List.length_take,List.length_drop,List.length_set,List.length_replicate,List.length_map] at *; omega) | assumption))⟩,⟨tt,tt,(by (try simp only [ByteArray.size_append,ByteArray.size_extract]); first | omega | exact ob_2 (ofV_small (by decide)) (by omega) | exact ob_3 (ofV_small (by decide)) (by omega))⟩,tt,tt,⟨tt,tt,(by exact fits_i64 (by omega) (by omega))⟩,⟨tt,tt,tt,(by (try simp only [ByteArray.size_append,ByteArray.size_extract]); first | omega | exact ob_2 (ofV_small (by decide)) (by omega) | exact ob_3 (ofV_small (by decide)) (by omega)),(by (try simp only [ByteArray.size_append,ByteArray.size_extract]); first | omega | exact ob_2 (ofV_small (by decide)) (by omega) | exact ob_3 (ofV_small (by decide)) (by omega)),(by (try simp only [ByteArray.size_append,ByteArray.size_extract]); first | omega | exact ob_2 (ofV_small (by decide)) (by omega) | exact ob_3 (ofV_small (by decide)) (by omega))⟩,⟨tt,tt,(by (try simp only [ByteArray.size_append,ByteArray.size_extract]); first | omega | exact ob_2 (ofV_small (by decide)) (by omega) | exact ob_3 (ofV_small (by decide)) (by omega))⟩,tt,tt⟩ ?_
    refine W.ret (blockQ_ret (thenQ_ret ?_))
    exact endP_ret ((((s.extract 0 (Int.toNat (pickV l p (((s.size + 1) : Nat) : Int)))) ++ (ofV l ((p + 1) + 1) ([(⟨#[48]⟩ : ByteArray),(⟨#[49]⟩ : ByteArray),(⟨#[120]⟩ : ByteArray),(⟨#[61]⟩ : ByteArray),(⟨#[64]⟩ : ByteArray),(⟨#[45]⟩ : ByteArray),(⟨#[112]⟩ : ByteArray),(⟨#[57]⟩ : ByteArray),(⟨#[32]⟩ : ByteArray)]))) ++ (s.extract (Int.toNat ((pickV l p (((s.size + 1) : Nat) : Int)) + (1 : Int))) s.size)),(((p + 1) + 1) + 1)) (show ((((s.extract 0 (Int.toNat (pickV l p (((s.size + 1) : Nat) : Int)))) ++ (ofV l ((p + 1) + 1) ([(⟨#[48]⟩ : ByteArray),(⟨#[49]⟩ : ByteArray),(⟨#[120]⟩ : ByteArray),(⟨#[61]⟩ : ByteArray),(⟨#[64]⟩ : ByteArray),(⟨#[45]⟩ : ByteArray),(⟨#[112]⟩ : ByteArray),(⟨#[57]⟩ : ByteArray),(⟨#[32]⟩ : ByteArray)]))) ++ (s.extract (Int.toNat ((pickV l p (((s.size + 1) : Nat) : Int)) + (1 : Int))) s.size)).size ≤ 1020) ∧ (p ≤ (((p + 1) + 1) + 1) ∧ (((p + 1) + 1) + 1) ≤ p + 10) from ⟨(by (try simp only [ByteArray.size_append,ByteArray.size_extract]); first | omega | exact ob_2 (ofV_small (by decide)) (by omega) | exact ob_3 (ofV_small (by decide)) (by omega)),(by first | assumption | omega | rfl | (simp; done) | (simp; omega))⟩) [(0,998)] (.v (.string (((s.extract 0 (Int.toNat (pickV l p (((s.size + 1) : Nat) : Int)))) ++ (ofV l ((p + 1) + 1) ([(⟨#[48]⟩ : ByteArray),(⟨#[49]⟩ : ByteArray),(⟨#[120]⟩ : ByteArray),(⟨#[61]⟩ : ByteArray),(⟨#[64]⟩ : ByteArray),(⟨#[45]⟩ : ByteArray),(⟨#[112]⟩ : ByteArray),(⟨#[57]⟩ : ByteArray),(⟨#[32]⟩ : ByteArray)]))) ++ (s.extract (Int.toNat ((pickV l p (((s.size + 1) : Nat) : Int)) + (1 : Int))) s.size)))) (by kernel_rfl) (@cast ((((.string (((s.extract 0 (Int.toNat (pickV l p (((s.size + 1) : Nat) : Int)))) ++ (ofV l ((p + 1) + 1) ([(⟨#[48]⟩ : ByteArray),(⟨#[49]⟩ : ByteArray),(⟨#[120]⟩ : ByteArray),(⟨#[61]⟩ : ByteArray),(⟨#[64]⟩ : ByteArray),(⟨#[45]⟩ : ByteArray),(⟨#[112]⟩ : ByteArray),(⟨#[57]⟩ : ByteArray),(⟨#[32]⟩ : ByteArray)]))) ++ (s.extract (Int.toNat ((pickV l p (((s.size + 1) : Nat) : Int)) + (1 : Int))) s.size))) : Value) = (.string (((s.extract 0 (Int.toNat (pickV l p (((s.size + 1) : Nat) : Int)))) ++ (ofV l ((p + 1) + 1) ([(⟨#[48]⟩ : ByteArray),(⟨#[49]⟩ : ByteArray),(⟨#[120]⟩ : ByteArray),(⟨#[61]⟩ : ByteArray),(⟨#[64]⟩ : ByteArray),(⟨#[45]⟩ : ByteArray),(⟨#[112]⟩ : ByteArray),(⟨#[57]⟩ : ByteArray),(⟨#[32]⟩ : ByteArray)]))) ++ (s.extract (Int.toNat ((pickV l p (((s.size + 1) : Nat) : Int)) + (1 : Int))) s.size)))) ∧ ((((68 : Nat) = 68) ∧ ((Sd (.bytes l)) ∧ (Si (((p + 1) + 1) + 1)) ∧ True) ∧ ((0 : Nat) ∈ ([0] : List Nat))) ∧ True) ∧ (true = true) ∧ ((([] : List Nat) = []) ∧ True) ∧ (true = true → (998 : Nat) = 998)) _ (by kernel_rfl) ⟨rfl,⟨⟨rfl,⟨rfl,rfl,tt⟩,(by decide)⟩,tt⟩,rfl,⟨rfl,tt⟩,(fun _ => rfl)⟩)
   ·intro n19
    refine W.skip (blockQ_normal (thenQ_normal ?_))
    refine Kk cok tab35 hnt [] [4] (⟨[(4,.v (.string s))],[(998,⟨68,.fix [.sl (.bytes l),.i ((p + 1) + 1)]⟩)],[12,10,998,999]⟩)
     (True ∧ True ∧ True)
     ⟨tt,tt,tt⟩ ?_
    refine W.ret ?_
    exact endP_ret (s,((p + 1) + 1)) (show (s.size ≤ 1020) ∧ (p ≤ ((p + 1) + 1) ∧ ((p + 1) + 1) ≤ p + 10) from ⟨(by (try simp only [ByteArray.size_append,ByteArray.size_extract]); first | omega | exact ob_2 (ofV_small (by decide)) (by omega) | exact ob_3 (ofV_small (by decide)) (by omega)),(by first | assumption | omega | rfl | (simp; done) | (simp; omega))⟩) [(0,998)] (.v (.string s)) (by kernel_rfl) (@cast ((((.string s) : Value) = (.string s)) ∧ ((((68 : Nat) = 68) ∧ ((Sd (.bytes l)) ∧ (Si ((p + 1) + 1)) ∧ True) ∧ ((0 : Nat) ∈ ([0] : List Nat))) ∧ True) ∧ (true = true) ∧ ((([] : List Nat) = []) ∧ True) ∧ (true = true → (998 : Nat) = 998)) _ (by kernel_rfl) ⟨rfl,⟨⟨rfl,⟨rfl,rfl,tt⟩,(by decide)⟩,tt⟩,rfl,⟨rfl,tt⟩,(fun _ => rfl)⟩)
  ·intro n13
   refine Kk cok tab35 hnt [] [0,1,5,12,32] (⟨[(0,.ptr 998 0),(1,.v (.string s)),(5,.i (pickV l p (((s.size + 1) : Nat) : Int))),(12,.i (pickV l (p + 1) (5 : Int))),(32,.b (decide ((pickV l (p + 1) (5 : Int)) = (2 : Int))))],[(998,⟨68,.fix [.sl (.bytes l),.i ((p + 1) + 1)]⟩)],[12,10,998,999]⟩)
    ((True ∧ True ∧ True) ∧ True ∧ True)
    ⟨⟨tt,tt,tt⟩,tt,tt⟩ ?_
   refine W.ifP ((pickV l (p + 1) (5 : Int)) = (2 : Int)) (.b (decide ((pickV l (p + 1) (5 : Int)) = (2 : Int)))) (by kernel_rfl) rfl trivial ?_ ?_
   ·intro h32
    refine Kk cok tab35 hnt [] [4] (⟨[(4,.v (.string (s.extract 0 (Int.toNat (pickV l p (((s.size + 1) : Nat) : Int))))))],[(998,⟨68,.fix [.sl (.bytes l),.i ((p + 1) + 1)]⟩)],[12,10,998,999]⟩)
     (True ∧ True ∧ (True ∧ True ∧ True ∧ (0 ≤ (0 : Int)) ∧ ((0 : Int) ≤ (pickV l p (((s.size + 1) : Nat) : Int))) ∧ ((pickV l p (((s.size + 1) : Nat) : Int)) ≤ ((s.size : Nat) : Int))) ∧ True ∧ True)
     ⟨tt,tt,⟨tt,tt,tt,(by omega),(by (try simp only [ByteArray.size_append,ByteArray.size_extract]); first | omega | exact ob_2 (ofV_small (by decide)) (by omega) | exact ob_3 (ofV_small (by decide)) (by omega)),(by (try simp only [ByteArray.size_append,ByteArray.size_extract]); first | omega | exact ob_2 (ofV_small (by decide)) (by omega) | exact ob_3 (ofV_small (by decide)) (by omega))⟩,tt,tt⟩ ?_
    refine W.ret (blockQ_ret (thenQ_ret ?_))
    exact endP_ret ((s.extract 0 (Int.toNat (pickV l p (((s.size + 1) : Nat) : Int)))),((p + 1) + 1)) (show ((s.extract 0 (Int.toNat (pickV l p (((s.size + 1) : Nat) : Int)))).size ≤ 1020) ∧ (p ≤ ((p + 1) + 1) ∧ ((p + 1) + 1) ≤ p + 10) from ⟨(by (try simp only [ByteArray.size_append,ByteArray.size_extract]); first | omega | exact ob_2 (ofV_small (by decide)) (by omega) | exact ob_3 (ofV_small (by decide)) (by omega)),(by first | assumption | omega | rfl | (simp; done) | (simp; omega))⟩) [(0,998)] (.v (.string (s.extract 0 (Int.toNat (pickV l p (((s.size + 1) : Nat) : Int)))))) (by kernel_rfl) (@cast ((((.string (s.extract 0 (Int.toNat (pickV l p (((s.size + 1) : Nat) : Int))))) : Value) = (.string (s.extract 0 (Int.toNat (pickV l p (((s.size + 1) : Nat) : Int)))))) ∧ ((((68 : Nat) = 68) ∧ ((Sd (.bytes l)) ∧ (Si ((p + 1) + 1)) ∧ True) ∧ ((0 : Nat) ∈ ([0] : List Nat))) ∧ True) ∧ (true = true) ∧ ((([] : List Nat) = []) ∧ True) ∧ (true = true → (998 : Nat) = 998)) _ (by kernel_rfl) ⟨rfl,⟨⟨rfl,⟨rfl,rfl,tt⟩,(by decide)⟩,tt⟩,rfl,⟨rfl,tt⟩,(fun _ => rfl)⟩)
   ·intro n32
    refine Kk cok tab35 hnt [] [0,1,37] (⟨[(0,.ptr 998 0),(1,.v (.string s)),(37,.b (decide ((pickV l (p + 1) (5 : Int)) = (3 : Int))))],[(998,⟨68,.fix [.sl (.bytes l),.i ((p + 1) + 1)]⟩)],[12,10,998,999]⟩)
     ((True ∧ True ∧ True) ∧ True ∧ True)
     ⟨⟨tt,tt,tt⟩,tt,tt⟩ ?_
    refine W.ifP ((pickV l (p + 1) (5 : Int)) = (3 : Int)) (.b (decide ((pickV l (p + 1) (5 : Int)) = (3 : Int)))) (by kernel_rfl) rfl trivial ?_ ?_
    ·intro h37
     refine Kk cok tab35 hnt [] [4] (⟨[(4,.v (.string (s ++ (ofV l ((p + 1) + 1) ([(⟨#[48]⟩ : ByteArray),(⟨#[32]⟩ : ByteArray),(⟨#[64,49]⟩ : ByteArray),(⟨#[32,48,120,112,48,61,48,64,50,57,45,51,48]⟩ : ByteArray),(⟨#[45]⟩ : ByteArray)])))))],[(998,⟨68,.fix [.sl (.bytes l),.i (((p + 1) + 1) + 1)]⟩)],[42,41,12,10,998,999]⟩)
      (True ∧ True ∧ (True ∧ True ∧ True ∧ True ∧ True ∧ True) ∧ (True ∧ True ∧ (True ∧ True) ∧ (0 ≤ ((p + 1) + 1) ∧ ((p + 1) + 1) ≤ 1000000) ∧ (0 < ([(⟨#[48]⟩ : ByteArray),(⟨#[32]⟩ : ByteArray),(⟨#[64,49]⟩ : ByteArray),(⟨#[32,48,120,112,48,61,48,64,50,57,45,51,48]⟩ : ByteArray),(⟨#[45]⟩ : ByteArray)]).length) ∧ (([(⟨#[48]⟩ : ByteArray),(⟨#[32]⟩ : ByteArray),(⟨#[64,49]⟩ : ByteArray),(⟨#[32,48,120,112,48,61,48,64,50,57,45,51,48]⟩ : ByteArray),(⟨#[45]⟩ : ByteArray)]).length ≤ 1000)) ∧ (True ∧ True ∧ (s.size + (ofV l ((p + 1) + 1) ([(⟨#[48]⟩ : ByteArray),(⟨#[32]⟩ : ByteArray),(⟨#[64,49]⟩ : ByteArray),(⟨#[32,48,120,112,48,61,48,64,50,57,45,51,48]⟩ : ByteArray),(⟨#[45]⟩ : ByteArray)])).size ≤ 9223372036854775807)) ∧ True ∧ True)
      ⟨tt,tt,⟨tt,tt,tt,tt,tt,tt⟩,⟨tt,tt,⟨tt,tt⟩,(by omega),(by (first | omega | (simp only [List.length_set]; done) | (simp only [List.length_append,List.length_cons,List.length_nil,List.length_take,List.length_drop,List.length_set,List.length_replicate,List.length_map] at *; omega) | assumption)),(by (first | omega | (simp only [List.length_set]; done) | (simp only [List.length_append,List.length_cons,List.length_nil,List.length_take,List.length_drop,List.length_set,List.length_replicate,List.length_map] at *; omega) | assumption))⟩,⟨tt,tt,(by (try simp only [ByteArray.size_append,ByteArray.size_extract]); first | omega | exact ob_2 (ofV_small (by decide)) (by omega) | exact ob_3 (ofV_small (by decide)) (by omega))⟩,tt,tt⟩ ?_
     refine W.ret (blockQ_ret (thenQ_ret ?_))
     exact endP_ret ((s ++ (ofV l ((p + 1) + 1) ([(⟨#[48]⟩ : ByteArray),(⟨#[32]⟩ : ByteArray),(⟨#[64,49]⟩ : ByteArray),(⟨#[32,48,120,112,48,61,48,64,50,57,45,51,48]⟩ : ByteArray),(⟨#[45]⟩ : ByteArray)]))),(((p + 1) + 1) + 1)) (show ((s ++ (ofV l ((p + 1) + 1) ([(⟨#[48]⟩ : ByteArray),(⟨#[32]⟩ : ByteArray),(⟨#[64,49]⟩ : ByteArray),(⟨#[32,48,120,112,48,61,48,64,50,57,45,51,48]⟩ : ByteArray),(⟨#[45]⟩ : ByteArray)]))).size ≤ 1020) ∧ (p ≤ (((p + 1) + 1) + 1) ∧ (((p + 1) + 1) + 1) ≤ p + 10) from ⟨(by (try simp only [ByteArray.size_append,ByteArray.size_extract]); first | omega | exact ob_2 (ofV_small (by decide)) (by omega) | exact ob_3 (ofV_small (by decide)) (by omega)),(by first | assumption | omega | rfl | (simp; done) | (simp; omega))⟩) [(0,998)] (.v (.string (s ++ (ofV l ((p + 1) + 1) ([(⟨#[48]⟩ : ByteArray),(⟨#[32]⟩ : ByteArray),(⟨#[64,49]⟩ : ByteArray),(⟨#[32,48,120,112,48,61,48,64,50,57,45,51,48]⟩ : ByteArray),(⟨#[45]⟩ : ByteArray)]))))) (by kernel_rfl) (@cast ((((.string (s ++ (ofV l ((p + 1) + 1) ([(⟨#[48]⟩ : ByteArray),(⟨#[32]⟩ : ByteArray),(⟨#[64,49]⟩ : ByteArray),(⟨#[32,48,120,112,48,61,48,64,50,57,45,51,48]⟩ : ByteArray),(⟨#[45]⟩ : ByteArray)])))) : Value) = (.string (s ++ (ofV l ((p + 1) + 1) ([(⟨#[48]⟩ : ByteArray),(⟨#[32]⟩ : ByteArray),(⟨#[64,49]⟩ : ByteArray),(⟨#[32,48,120,112,48,61,48,64,50,57,45,51,48]⟩ : ByteArray),(⟨#[45]⟩ : ByteArray)]))))) ∧ ((((68 : Nat) = 68) ∧ ((Sd (.bytes l)) ∧ (Si (((p + 1) + 1) + 1)) ∧ True) ∧ ((0 : Nat) ∈ ([0] : List Nat))) ∧ True) ∧ (true = true) ∧ ((([] : List Nat) = []) ∧ True) ∧ (true = true → (998 : Nat) = 998)) _ (by kernel_rfl) ⟨rfl,⟨⟨rfl,⟨rfl,rfl,tt⟩,(by decide)⟩,tt⟩,rfl,⟨rfl,tt⟩,(fun _ => rfl)⟩)
    ·intro n37
     refine W.skip (blockQ_normal (thenQ_normal ?_))
     refine Kk cok tab35 hnt [] [4] (⟨[(4,.v (.string s))],[(998,⟨68,.fix [.sl (.bytes l),.i ((p + 1) + 1)]⟩)],[12,10,998,999]⟩)
      (True ∧ True ∧ True)
      ⟨tt,tt,tt⟩ ?_
     refine W.ret ?_
     exact endP_ret (s,((p + 1) + 1)) (show (s.size ≤ 1020) ∧ (p ≤ ((p + 1) + 1) ∧ ((p + 1) + 1) ≤ p + 10) from ⟨(by (try simp only [ByteArray.size_append,ByteArray.size_extract]); first | omega | exact ob_2 (ofV_small (by decide)) (by omega) | exact ob_3 (ofV_small (by decide)) (by omega)),(by first | assumption | omega | rfl | (simp; done) | (simp; omega))⟩) [(0,998)] (.v (.string s)) (by kernel_rfl) (@cast ((((.string s) : Value) = (.string s)) ∧ ((((68 : Nat) = 68) ∧ ((Sd (.bytes l)) ∧ (Si ((p + 1) + 1)) ∧ True) ∧ ((0 : Nat) ∈ ([0] : List Nat))) ∧ True) ∧ (true = true) ∧ ((([] : List Nat) = []) ∧ True) ∧ (true = true → (998 : Nat) = 998)) _ (by kernel_rfl) ⟨rfl,⟨⟨rfl,⟨rfl,rfl,tt⟩,(by decide)⟩,tt⟩,rfl,⟨rfl,tt⟩,(fun _ => rfl)⟩)
 ·intro n13
  refine Lk cok tab35 hnt [] ((fun (Z1:Bool)=>(⟨[(0,.ptr 998 0),(1,.v (.string s)),(5,.i (pickV l p (((s.size + 1) : Nat) : Int))),(12,.i (pickV l (p + 1) (5 : Int))),(13,.b Z1),(15,.b Z1)],[(998,⟨68,.fix [.sl (.bytes l),.i ((p + 1) + 1)]⟩)],[12,10,998,999]⟩:St)) (decide ((pickV l (p + 1) (5 : Int)) = (1 : Int))))
   ((True ∧ True ∧ True) ∧ True ∧ True)
   ⟨⟨tt,tt,tt⟩,tt,tt⟩ ?_
  refine thenQ_normal ?_
  refine W.ifP ((pickV l (p + 1) (5 : Int)) = (1 : Int)) (.b (decide ((pickV l (p + 1) (5 : Int)) = (1 : Int)))) (by kernel_rfl) rfl trivial ?_ ?_
  ·intro h13
   refine Kk cok tab35 hnt [] [0,1,5,19] (⟨[(0,.ptr 998 0),(1,.v (.string s)),(5,.i (pickV l p (((s.size + 1) : Nat) : Int))),(19,.b (decide ((pickV l p (((s.size + 1) : Nat) : Int)) < ((s.size : Nat) : Int))))],[(998,⟨68,.fix [.sl (.bytes l),.i ((p + 1) + 1)]⟩)],[12,10,998,999]⟩)
    (True ∧ True ∧ True ∧ (True ∧ True ∧ True) ∧ True)
    ⟨tt,tt,tt,⟨tt,tt,tt⟩,tt⟩ ?_
   refine W.ifP ((pickV l p (((s.size + 1) : Nat) : Int)) < ((s.size : Nat) : Int)) (.b (decide ((pickV l p (((s.size + 1) : Nat) : Int)) < ((s.size : Nat) : Int)))) (by kernel_rfl) rfl trivial ?_ ?_
   ·intro h19
    refine W.KA cok tab35 hnt [] [4] (⟨[(4,.v (.string (((s.extract 0 (Int.toNat (pickV l p (((s.size + 1) : Nat) : Int)))) ++ (ofV l ((p + 1) + 1) ([(⟨#[48]⟩ : ByteArray),(⟨#[49]⟩ : ByteArray),(⟨#[120]⟩ : ByteArray),(⟨#[61]⟩ : ByteArray),(⟨#[64]⟩ : ByteArray),(⟨#[45]⟩ : ByteArray),(⟨#[112]⟩ : ByteArray),(⟨#[57]⟩ : ByteArray),(⟨#[32]⟩ : ByteArray)]))) ++ (s.extract (Int.toNat ((pickV l p (((s.size + 1) : Nat) : Int)) + (1 : Int))) s.size))))],[(998,⟨68,.fix [.sl (.bytes l),.i (((p + 1) + 1) + 1)]⟩)],[25,24,12,10,998,999]⟩)
     (True ∧ True ∧ (True ∧ True ∧ True ∧ (0 ≤ (0 : Int)) ∧ ((0 : Int) ≤ (pickV l p (((s.size + 1) : Nat) : Int))) ∧ ((pickV l p (((s.size + 1) : Nat) : Int)) ≤ ((s.size : Nat) : Int))) ∧ True ∧ (True ∧ True ∧ True ∧ True ∧ True ∧ True ∧ True ∧ True ∧ True ∧ True) ∧ (True ∧ True ∧ (True ∧ True) ∧ (0 ≤ ((p + 1) + 1) ∧ ((p + 1) + 1) ≤ 1000000) ∧ (0 < ([(⟨#[48]⟩ : ByteArray),(⟨#[49]⟩ : ByteArray),(⟨#[120]⟩ : ByteArray),(⟨#[61]⟩ : ByteArray),(⟨#[64]⟩ : ByteArray),(⟨#[45]⟩ : ByteArray),(⟨#[112]⟩ : ByteArray),(⟨#[57]⟩ : ByteArray),(⟨#[32]⟩ : ByteArray)]).length) ∧ (([(⟨#[48]⟩ : ByteArray),(⟨#[49]⟩ : ByteArray),(⟨#[120]⟩ : ByteArray),(⟨#[61]⟩ : ByteArray),(⟨#[64]⟩ : ByteArray),(⟨#[45]⟩ : ByteArray),(⟨#[112]⟩ : ByteArray),(⟨#[57]⟩ : ByteArray),(⟨#[32]⟩ : ByteArray)]).length ≤ 1000)) ∧ (True ∧ True ∧ ((s.extract 0 (Int.toNat (pickV l p (((s.size + 1) : Nat) : Int)))).size + (ofV l ((p + 1) + 1) ([(⟨#[48]⟩ : ByteArray),(⟨#[49]⟩ : ByteArray),(⟨#[120]⟩ : ByteArray),(⟨#[61]⟩ : ByteArray),(⟨#[64]⟩ : ByteArray),(⟨#[45]⟩ : ByteArray),(⟨#[112]⟩ : ByteArray),(⟨#[57]⟩ : ByteArray),(⟨#[32]⟩ : ByteArray)])).size ≤ 9223372036854775807)) ∧ True ∧ True ∧ (True ∧ True ∧ (Fits .i64 ((pickV l p (((s.size + 1) : Nat) : Int)) + (1 : Int)))) ∧ (True ∧ True ∧ True ∧ (0 ≤ ((pickV l p (((s.size + 1) : Nat) : Int)) + (1 : Int))) ∧ (((pickV l p (((s.size + 1) : Nat) : Int)) + (1 : Int)) ≤ ((s.size : Nat) : Int)) ∧ (((s.size : Nat) : Int) ≤ ((s.size : Nat) : Int))) ∧ (True ∧ True ∧ (((s.extract 0 (Int.toNat (pickV l p (((s.size + 1) : Nat) : Int)))) ++ (ofV l ((p + 1) + 1) ([(⟨#[48]⟩ : ByteArray),(⟨#[49]⟩ : ByteArray),(⟨#[120]⟩ : ByteArray),(⟨#[61]⟩ : ByteArray),(⟨#[64]⟩ : ByteArray),(⟨#[45]⟩ : ByteArray),(⟨#[112]⟩ : ByteArray),(⟨#[57]⟩ : ByteArray),(⟨#[32]⟩ : ByteArray)]))).size + (s.extract (Int.toNat ((pickV l p (((s.size + 1) : Nat) : Int)) + (1 : Int))) s.size).size ≤ 9223372036854775807)) ∧ True ∧ True) (by kernel_rfl) (by kernel_rfl)
     ⟨tt,tt,⟨tt,tt,tt,(by omega),(by (try simp only [ByteArray.size_append,ByteArray.size_extract]); first | omega | exact ob_2 (ofV_small (by decide)) (by omega) | exact ob_3 (ofV_small (by decide)) (by omega)),(by (try simp only [ByteArray.size_append,ByteArray.size_extract]); first | omega | exact ob_2 (ofV_small (by decide)) (by omega) | exact ob_3 (ofV_small (by decide)) (by omega))⟩,tt,⟨tt,tt,tt,tt,tt,tt,tt,tt,tt,tt⟩,⟨tt,tt,⟨tt,tt⟩,(by omega),(by (first | omega | (simp only [List.length_set]; done) | (simp only [List.length_append,List.length_cons,List.length_nil,List.length_take,List.length_drop,List.length_set,List.length_replicate,List.length_map] at *; omega) | assumption)),(by (first | omega | (simp only [List.length_set]; done) | (simp only [List.length_append,List.length_cons,List.length_nil,List.length_take,List.length_drop,List.length_set,List.length_replicate,List.length_map] at *; omega) | assumption))⟩,⟨tt,tt,(by (try simp only [ByteArray.size_append,ByteArray.size_extract]); first | omega | exact ob_2 (ofV_small (by decide)) (by omega) | exact ob_3 (ofV_small (by decide)) (by omega))⟩,tt,tt,⟨tt,tt,(by exact fits_i64 (by omega) (by omega))⟩,⟨tt,tt,tt,(by (try simp only [ByteArray.size_append,ByteArray.size_extract]); first | omega | exact ob_2 (ofV_small (by decide)) (by omega) | exact ob_3 (ofV_small (by decide)) (by omega)),(by (try simp only [ByteArray.size_append,ByteArray.size_extract]); first | omega | exact ob_2 (ofV_small (by decide)) (by omega) | exact ob_3 (ofV_small (by decide)) (by omega)),(by (try simp only [ByteArray.size_append,ByteArray.size_extract]); first | omega | exact ob_2 (ofV_small (by decide)) (by omega) | exact ob_3 (ofV_small (by decide)) (by omega))⟩,⟨tt,tt,(by (try simp only [ByteArray.size_append,ByteArray.size_extract]); first | omega | exact ob_2 (ofV_small (by decide)) (by omega) | exact ob_3 (ofV_small (by decide)) (by omega))⟩,tt,tt⟩ ?_
    refine W.ret (blockQ_ret (thenQ_ret ?_))
    exact endP_ret ((((s.extract 0 (Int.toNat (pickV l p (((s.size + 1) : Nat) : Int)))) ++ (ofV l ((p + 1) + 1) ([(⟨#[48]⟩ : ByteArray),(⟨#[49]⟩ : ByteArray),(⟨#[120]⟩ : ByteArray),(⟨#[61]⟩ : ByteArray),(⟨#[64]⟩ : ByteArray),(⟨#[45]⟩ : ByteArray),(⟨#[112]⟩ : ByteArray),(⟨#[57]⟩ : ByteArray),(⟨#[32]⟩ : ByteArray)]))) ++ (s.extract (Int.toNat ((pickV l p (((s.size + 1) : Nat) : Int)) + (1 : Int))) s.size)),(((p + 1) + 1) + 1)) (show ((((s.extract 0 (Int.toNat (pickV l p (((s.size + 1) : Nat) : Int)))) ++ (ofV l ((p + 1) + 1) ([(⟨#[48]⟩ : ByteArray),(⟨#[49]⟩ : ByteArray),(⟨#[120]⟩ : ByteArray),(⟨#[61]⟩ : ByteArray),(⟨#[64]⟩ : ByteArray),(⟨#[45]⟩ : ByteArray),(⟨#[112]⟩ : ByteArray),(⟨#[57]⟩ : ByteArray),(⟨#[32]⟩ : ByteArray)]))) ++ (s.extract (Int.toNat ((pickV l p (((s.size + 1) : Nat) : Int)) + (1 : Int))) s.size)).size ≤ 1020) ∧ (p ≤ (((p + 1) + 1) + 1) ∧ (((p + 1) + 1) + 1) ≤ p + 10) from ⟨(by (try simp only [ByteArray.size_append,ByteArray.size_extract]); first | omega | exact ob_2 (ofV_small (by decide)) (by omega) | exact ob_3 (ofV_small (by decide)) (by omega)),(by first | assumption | omega | rfl | (simp; done) | (simp; omega))⟩) [(0,998)] (.v (.string (((s.extract 0 (Int.toNat (pickV l p (((s.size + 1) : Nat) : Int)))) ++ (ofV l ((p + 1) + 1) ([(⟨#[48]⟩ : ByteArray),(⟨#[49]⟩ : ByteArray),(⟨#[120]⟩ : ByteArray),(⟨#[61]⟩ : ByteArray),(⟨#[64]⟩ : ByteArray),(⟨#[45]⟩ : ByteArray),(⟨#[112]⟩ : ByteArray),(⟨#[57]⟩ : ByteArray),(⟨#[32]⟩ : ByteArray)]))) ++ (s.extract (Int.toNat ((pickV l p (((s.size + 1) : Nat) : Int)) + (1 : Int))) s.size)))) (by kernel_rfl) (@cast ((((.string (((s.extract 0 (Int.toNat (pickV l p (((s.size + 1) : Nat) : Int)))) ++ (ofV l ((p + 1) + 1) ([(⟨#[48]⟩ : ByteArray),(⟨#[49]⟩ : ByteArray),(⟨#[120]⟩ : ByteArray),(⟨#[61]⟩ : ByteArray),(⟨#[64]⟩ : ByteArray),(⟨#[45]⟩ : ByteArray),(⟨#[112]⟩ : ByteArray),(⟨#[57]⟩ : ByteArray),(⟨#[32]⟩ : ByteArray)]))) ++ (s.extract (Int.toNat ((pickV l p (((s.size + 1) : Nat) : Int)) + (1 : Int))) s.size))) : Value) = (.string (((s.extract 0 (Int.toNat (pickV l p (((s.size + 1) : Nat) : Int)))) ++ (ofV l ((p + 1) + 1) ([(⟨#[48]⟩ : ByteArray),(⟨#[49]⟩ : ByteArray),(⟨#[120]⟩ : ByteArray),(⟨#[61]⟩ : ByteArray),(⟨#[64]⟩ : ByteArray),(⟨#[45]⟩ : ByteArray),(⟨#[112]⟩ : ByteArray),(⟨#[57]⟩ : ByteArray),(⟨#[32]⟩ : ByteArray)]))) ++ (s.extract (Int.toNat ((pickV l p (((s.size + 1) : Nat) : Int)) + (1 : Int))) s.size)))) ∧ ((((68 : Nat) = 68) ∧ ((Sd (.bytes l)) ∧ (Si (((p + 1) + 1) + 1)) ∧ True) ∧ ((0 : Nat) ∈ ([0] : List Nat))) ∧ True) ∧ (true = true) ∧ ((([] : List Nat) = []) ∧ True) ∧ (true = true → (998 : Nat) = 998)) _ (by kernel_rfl) ⟨rfl,⟨⟨rfl,⟨rfl,rfl,tt⟩,(by decide)⟩,tt⟩,rfl,⟨rfl,tt⟩,(fun _ => rfl)⟩)
   ·intro n19
    refine W.skip (blockQ_normal (thenQ_normal ?_))
    refine Kk cok tab35 hnt [] [4] (⟨[(4,.v (.string s))],[(998,⟨68,.fix [.sl (.bytes l),.i ((p + 1) + 1)]⟩)],[12,10,998,999]⟩)
     (True ∧ True ∧ True)
     ⟨tt,tt,tt⟩ ?_
    refine W.ret ?_
    exact endP_ret (s,((p + 1) + 1)) (show (s.size ≤ 1020) ∧ (p ≤ ((p + 1) + 1) ∧ ((p + 1) + 1) ≤ p + 10) from ⟨(by (try simp only [ByteArray.size_append,ByteArray.size_extract]); first | omega | exact ob_2 (ofV_small (by decide)) (by omega) | exact ob_3 (ofV_small (by decide)) (by omega)),(by first | assumption | omega | rfl | (simp; done) | (simp; omega))⟩) [(0,998)] (.v (.string s)) (by kernel_rfl) (@cast ((((.string s) : Value) = (.string s)) ∧ ((((68 : Nat) = 68) ∧ ((Sd (.bytes l)) ∧ (Si ((p + 1) + 1)) ∧ True) ∧ ((0 : Nat) ∈ ([0] : List Nat))) ∧ True) ∧ (true = true) ∧ ((([] : List Nat) = []) ∧ True) ∧ (true = true → (998 : Nat) = 998)) _ (by kernel_rfl) ⟨rfl,⟨⟨rfl,⟨rfl,rfl,tt⟩,(by decide)⟩,tt⟩,rfl,⟨rfl,tt⟩,(fun _ => rfl)⟩)
  ·intro n13
   refine Kk cok tab35 hnt [] [0,1,5,12,32] (⟨[(0,.ptr 998 0),(1,.v (.string s)),(5,.i (pickV l p (((s.size + 1) : Nat) : Int))),(12,.i (pickV l (p + 1) (5 : Int))),(32,.b (decide ((pickV l (p + 1) (5 : Int)) = (2 : Int))))],[(998,⟨68,.fix [.sl (.bytes l),.i ((p + 1) + 1)]⟩)],[12,10,998,999]⟩)
    ((True ∧ True ∧ True) ∧ True ∧ True)
    ⟨⟨tt,tt,tt⟩,tt,tt⟩ ?_
   refine W.ifP ((pickV l (p + 1) (5 : Int)) = (2 : Int)) (.b (decide ((pickV l (p + 1) (5 : Int)) = (2 : Int)))) (by kernel_rfl) rfl trivial ?_ ?_
   ·intro h32
    refine Kk cok tab35 hnt [] [4] (⟨[(4,.v (.string (s.extract 0 (Int.toNat (pickV l p (((s.size + 1) : Nat) : Int))))))],[(998,⟨68,.fix [.sl (.bytes l),.i ((p + 1) + 1)]⟩)],[12,10,998,999]⟩)
     (True ∧ True ∧ (True ∧ True ∧ True ∧ (0 ≤ (0 : Int)) ∧ ((0 : Int) ≤ (pickV l p (((s.size + 1) : Nat) : Int))) ∧ ((pickV l p (((s.size + 1) : Nat) : Int)) ≤ ((s.size : Nat) : Int))) ∧ True ∧ True)
     ⟨tt,tt,⟨tt,tt,tt,(by omega),(by (try simp only [ByteArray.size_append,ByteArray.size_extract]); first | omega | exact ob_2 (ofV_small (by decide)) (by omega) | exact ob_3 (ofV_small (by decide)) (by omega)),(by (try simp only [ByteArray.size_append,ByteArray.size_extract]); first | omega | exact ob_2 (ofV_small (by decide)) (by omega) | exact ob_3 (ofV_small (by decide)) (by omega))⟩,tt,tt⟩ ?_
    refine W.ret (blockQ_ret (thenQ_ret ?_))
    exact endP_ret ((s.extract 0 (Int.toNat (pickV l p (((s.size + 1) : Nat) : Int)))),((p + 1) + 1)) (show ((s.extract 0 (Int.toNat (pickV l p (((s.size + 1) : Nat) : Int)))).size ≤ 1020) ∧ (p ≤ ((p + 1) + 1) ∧ ((p + 1) + 1) ≤ p + 10) from ⟨(by (try simp only [ByteArray.size_append,ByteArray.size_extract]); first | omega | exact ob_2 (ofV_small (by decide)) (by omega) | exact ob_3 (ofV_small (by decide)) (by omega)),(by first | assumption | omega | rfl | (simp; done) | (simp; omega))⟩) [(0,998)] (.v (.string (s.extract 0 (Int.toNat (pickV l p (((s.size + 1) : Nat) : Int)))))) (by kernel_rfl) (@cast ((((.string (s.extract 0 (Int.toNat (pickV l p (((s.size + 1) : Nat) : Int))))) : Value) = (.string (s.extract 0 (Int.toNat (pickV l p (((s.size + 1) : Nat) : Int)))))) ∧ ((((68 : Nat) = 68) ∧ ((Sd (.bytes l)) ∧ (Si ((p + 1) + 1)) ∧ True) ∧ ((0 : Nat) ∈ ([0] : List Nat))) ∧ True) ∧ (true = true) ∧ ((([] : List Nat) = []) ∧ True) ∧ (true = true → (998 : Nat) = 998)) _ (by kernel_rfl) ⟨rfl,⟨⟨rfl,⟨rfl,rfl,tt⟩,(by decide)⟩,tt⟩,rfl,⟨rfl,tt⟩,(fun _ => rfl)⟩)
   ·intro n32
    refine Kk cok tab35 hnt [] [0,1,37] (⟨[(0,.ptr 998 0),(1,.v (.string s)),(37,.b (decide ((pickV l (p + 1) (5 : Int)) = (3 : Int))))],[(998,⟨68,.fix [.sl (.bytes l),.i ((p + 1) + 1)]⟩)],[12,10,998,999]⟩)
     ((True ∧ True ∧ True) ∧ True ∧ True)
     ⟨⟨tt,tt,tt⟩,tt,tt⟩ ?_
    refine W.ifP ((pickV l (p + 1) (5 : Int)) = (3 : Int)) (.b (decide ((pickV l (p + 1) (5 : Int)) = (3 : Int)))) (by kernel_rfl) rfl trivial ?_ ?_
    ·intro h37
     refine Kk cok tab35 hnt [] [4] (⟨[(4,.v (.string (s ++ (ofV l ((p + 1) + 1) ([(⟨#[48]⟩ : ByteArray),(⟨#[32]⟩ : ByteArray),(⟨#[64,49]⟩ : ByteArray),(⟨#[32,48,120,112,48,61,48,64,50,57,45,51,48]⟩ : ByteArray),(⟨#[45]⟩ : ByteArray)])))))],[(998,⟨68,.fix [.sl (.bytes l),.i (((p + 1) + 1) + 1)]⟩)],[42,41,12,10,998,999]⟩)
      (True ∧ True ∧ (True ∧ True ∧ True ∧ True ∧ True ∧ True) ∧ (True ∧ True ∧ (True ∧ True) ∧ (0 ≤ ((p + 1) + 1) ∧ ((p + 1) + 1) ≤ 1000000) ∧ (0 < ([(⟨#[48]⟩ : ByteArray),(⟨#[32]⟩ : ByteArray),(⟨#[64,49]⟩ : ByteArray),(⟨#[32,48,120,112,48,61,48,64,50,57,45,51,48]⟩ : ByteArray),(⟨#[45]⟩ : ByteArray)]).length) ∧ (([(⟨#[48]⟩ : ByteArray),(⟨#[32]⟩ : ByteArray),(⟨#[64,49]⟩ : ByteArray),(⟨#[32,48,120,112,48,61,48,64,50,57,45,51,48]⟩ : ByteArray),(⟨#[45]⟩ : ByteArray)]).length ≤ 1000)) ∧ (True ∧ True ∧ (s.size + (ofV l ((p + 1) + 1) ([(⟨#[48]⟩ : ByteArray),(⟨#[32]⟩ : ByteArray),(⟨#[64,49]⟩ : ByteArray),(⟨#[32,48,120,112,48,61,48,64,50,57,45,51,48]⟩ : ByteArray),(⟨#[45]⟩ : ByteArray)])).size ≤ 9223372036854775807)) ∧ True ∧ True)
      ⟨tt,tt,⟨tt,tt,tt,tt,tt,tt⟩,⟨tt,tt,⟨tt,tt⟩,(by omega),(by (first | omega | (simp only [List.length_set]; done) | (simp only [List.length_append,List.length_cons,List.length_nil,List.length_take,List.length_drop,List.length_set,List.length_replicate,List.length_map] at *; omega) | assumption)),(by (first | omega | (simp only [List.length_set]; done) | (simp only [List.length_append,List.length_cons,List.length_nil,List.length_take,List.length_drop,List.length_set,List.length_replicate,List.length_map] at *; omega) | assumption))⟩,⟨tt,tt,(by (try simp only [ByteArray.size_append,ByteArray.size_extract]); first | omega | exact ob_2 (ofV_small (by decide)) (by omega) | exact ob_3 (ofV_small (by decide)) (by omega))⟩,tt,tt⟩ ?_
     refine W.ret (blockQ_ret (thenQ_ret ?_))
     exact endP_ret ((s ++ (ofV l ((p + 1) + 1) ([(⟨#[48]⟩ : ByteArray),(⟨#[32]⟩ : ByteArray),(⟨#[64,49]⟩ : ByteArray),(⟨#[32,48,120,112,48,61,48,64,50,57,45,51,48]⟩ : ByteArray),(⟨#[45]⟩ : ByteArray)]))),(((p + 1) + 1) + 1)) (show ((s ++ (ofV l ((p + 1) + 1) ([(⟨#[48]⟩ : ByteArray),(⟨#[32]⟩ : ByteArray),(⟨#[64,49]⟩ : ByteArray),(⟨#[32,48,120,112,48,61,48,64,50,57,45,51,48]⟩ : ByteArray),(⟨#[45]⟩ : ByteArray)]))).size ≤ 1020) ∧ (p ≤ (((p + 1) + 1) + 1) ∧ (((p + 1) + 1) + 1) ≤ p + 10) from ⟨(by (try simp only [ByteArray.size_append,ByteArray.size_extract]); first | omega | exact ob_2 (ofV_small (by decide)) (by omega) | exact ob_3 (ofV_small (by decide)) (by omega)),(by first | assumption | omega | rfl | (simp; done) | (simp; omega))⟩) [(0,998)] (.v (.string (s ++ (ofV l ((p + 1) + 1) ([(⟨#[48]⟩ : ByteArray),(⟨#[32]⟩ : ByteArray),(⟨#[64,49]⟩ : ByteArray),(⟨#[32,48,120,112,48,61,48,64,50,57,45,51,48]⟩ : ByteArray),(⟨#[45]⟩ : ByteArray)]))))) (by kernel_rfl) (@cast ((((.string (s ++ (ofV l ((p + 1) + 1) ([(⟨#[48]⟩ : ByteArray),(⟨#[32]⟩ : ByteArray),(⟨#[64,49]⟩ : ByteArray),(⟨#[32,48,120,112,48,61,48,64,50,57,45,51,48]⟩ : ByteArray),(⟨#[45]⟩ : ByteArray)])))) : Value) = (.string (s ++ (ofV l ((p + 1) + 1) ([(⟨#[48]⟩ : ByteArray),(⟨#[32]⟩ : ByteArray),(⟨#[64,49]⟩ : ByteArray),(⟨#[32,48,120,112,48,61,48,64,50,57,45,51,48]⟩ : ByteArray),(⟨#[45]⟩ : ByteArray)]))))) ∧ ((((68 : Nat) = 68) ∧ ((Sd (.bytes l)) ∧ (Si (((p + 1) + 1) + 1)) ∧ True) ∧ ((0 : Nat) ∈ ([0] : List Nat))) ∧ True) ∧ (true = true) ∧ ((([] : List Nat) = []) ∧ True) ∧ (true = true → (998 : Nat) = 998)) _ (by kernel_rfl) ⟨rfl,⟨⟨rfl,⟨rfl,rfl,tt⟩,(by decide)⟩,tt⟩,rfl,⟨rfl,tt⟩,(fun _ => rfl)⟩)
    ·intro n37
     refine W.skip (blockQ_normal (thenQ_normal ?_))
     refine Kk cok tab35 hnt [] [4] (⟨[(4,.v (.string s))],[(998,⟨68,.fix [.sl (.bytes l),.i ((p + 1) + 1)]⟩)],[12,10,998,999]⟩)
      (True ∧ True ∧ True)
      ⟨tt,tt,tt⟩ ?_
     refine W.ret ?_
     exact endP_ret (s,((p + 1) + 1)) (show (s.size ≤ 1020) ∧ (p ≤ ((p + 1) + 1) ∧ ((p + 1) + 1) ≤ p + 10) from ⟨(by (try simp only [ByteArray.size_append,ByteArray.size_extract]); first | omega | exact ob_2 (ofV_small (by decide)) (by omega) | exact ob_3 (ofV_small (by decide)) (by omega)),(by first | assumption | omega | rfl | (simp; done) | (simp; omega))⟩) [(0,998)] (.v (.string s)) (by kernel_rfl) (@cast ((((.string s) : Value) = (.string s)) ∧ ((((68 : Nat) = 68) ∧ ((Sd (.bytes l)) ∧ (Si ((p + 1) + 1)) ∧ True) ∧ ((0 : Nat) ∈ ([0] : List Nat))) ∧ True) ∧ (true = true) ∧ ((([] : List Nat) = []) ∧ True) ∧ (true = true → (998 : Nat) = 998)) _ (by kernel_rfl) ⟨rfl,⟨⟨rfl,⟨rfl,rfl,tt⟩,(by decide)⟩,tt⟩,rfl,⟨rfl,tt⟩,(fun _ => rfl)⟩)
theorem ent35 : Entr prog 35 := ⟨_,func35,rfl,by decide⟩
end Go.Proofs.Tryd

set_option linter.unusedSimpArgs false
set_option linter.unusedVariables false
namespace Go.Proofs.Tryd
open Go.Ab Go.RowKit
def pre16 : List AV → List AV → Prop := preP [.bytes] [] (fun (code,_) _ => True)
def rel16 : RelS := relP [.bytes] [] (ι := ByteArray) (fun (code,_) _ g => (g.size ≤ 1020)) (fun (code,_) _ g => (.v (.string g),[],[]))
abbrev T16 : Tab := lk [(8,fs8)]
theorem tab16 : TabOK prog T16 := (TabOK.cons ok8 ent8 TabOK.nil)
set_option maxRecDepth 100000 in
set_option maxHeartbeats 1000000 in
theorem rok16 : RelOK prog 16 none [.s .bytes] pre16 rel16 := by
 refine RelOK.mk cok func16 rfl rfl rfl ?_
 rintro ⟨(code : List UInt8),_⟩ _ hpre F hnt0
 have hnt : F.nt = 19 := hnt0.trans ntmps16
 clear hpre
 refine W.to (⟨[(0,.sl (.bytes code))],[],[998,999]⟩) rfl ?_
 have hh9 := hist_le
 refine Kk cok tab16 hnt [] [0] (⟨[(0,.sl (.bytes code))],[],[998,999]⟩)
  (True ∧ True)
  ⟨tt,tt⟩ ?_
 refine W.seq (W.wi ?_)
 refine WI.runT cok tab16 hnt [] 1 1 (⟨[(0,.sl (.bytes code)),(5,.sl (.bytes code))],[],[998,999]⟩)
  (True ∧ True) (by kernel_rfl) rfl
  ⟨tt,tt⟩ ?_
 refine WI.call [.sl (.bytes code)] [] [.sl (.bytes code)] [.sl (.bytes code)] none (True) (True ∧ True) none rok27 ent27 hnt rfl rfl (wanted_none rfl) (by kernel_rfl) (by kernel_rfl) (by kernel_rfl) ⟨tt,tt,tt⟩
  (@cast (True) _ (by kernel_rfl) trivial) (Or.inl rfl) rfl ?_
 rintro r bl fx2 hR
 obtain ⟨l6,hq6,rfl,rfl,rfl⟩ := (@cast _ (∃ x : (List UInt8),(True) ∧ r = (.ptr 0 0) ∧ bl = ([⟨68,.fix [.sl (.bytes x),.i (0 : Int)]⟩]) ∧ fx2 = ([])) (by kernel_rfl) hR)
 clear hR
 replace hq6 : True := hq6
 refine ⟨by kernel_rfl,WI.to (⟨[(0,.sl (.bytes code)),(5,.sl (.bytes code)),(6,.ptr 6 0)],[(6,⟨68,.fix [.sl (.bytes l6),.i (0 : Int)]⟩)],[6,998,999]⟩) 2 (by kernel_rfl) rfl ?_⟩
 refine WI.runT cok tab16 hnt [] 1 3 (⟨[(0,.sl (.bytes code)),(3,.ptr 6 0),(5,.sl (.bytes code)),(6,.ptr 6 0)],[(6,⟨68,.fix [.sl (.bytes l6),.i (0 : Int)]⟩)],[6,998,999]⟩)
  (True ∧ True) (by kernel_rfl) rfl
  ⟨tt,tt⟩ ?_
 refine WI.nil rfl (thenQ_normal ?_)
 refine W.keepE [3] [(3,.ptr 6 0)] (by kernel_rfl) ?_
 refine W.to (⟨[(3,.ptr 6 0)],[(6,⟨68,.fix [.sl (.bytes l6),.i (0 : Int)]⟩)],[6,998,999]⟩) rfl ?_
 refine W.seq (W.wi ?_)
 refine WI.runT cok tab16 hnt [] 2 2 (⟨[(3,.ptr 6 0),(7,.ptr 6 0),(8,.ptr 6 0)],[(6,⟨68,.fix [.sl (.bytes l6),.i (0 : Int)]⟩)],[6,998,999]⟩)
  (True ∧ True ∧ True) (by kernel_rfl) rfl
  ⟨tt,tt,tt⟩ ?_
 refine WI.call [.ptr 6 0] [.sl (.bytes l6),.i (0 : Int)] [] [] (some (68,6)) (True) (True) none rok33 ent33 hnt rfl rfl (wanted_none rfl) (by kernel_rfl) (by kernel_rfl) (by kernel_rfl) ⟨tt,tt⟩
  (@cast (0 ≤ (0 : Int) ∧ (0 : Int) ≤ 1000000) _ (by kernel_rfl) (by omega)) (Or.inl rfl) rfl ?_
 rintro r bl fx2 hR
 obtain ⟨⟨v9,q9⟩,hq9,rfl,rfl,rfl⟩ := (@cast _ (∃ x : ByteArray × Int,((x.2 = (0 : Int) + 1)) ∧ r = (.v (.string x.1)) ∧ bl = ([]) ∧ fx2 = ([.sl (.bytes l6),.i x.2])) (by kernel_rfl) hR)
 clear hR
 replace hq9 : (q9 = (0 : Int) + 1) := hq9
 have hq19 := hq9
 refine ⟨by kernel_rfl,WI.to (⟨[(3,.ptr 6 0),(7,.ptr 6 0),(8,.ptr 6 0),(9,.v (.string v9))],[(6,⟨68,.fix [.sl (.bytes l6),.i q9]⟩)],[9,6,998,999]⟩) 3 (by kernel_rfl) rfl ?_⟩
 refine WI.call [.ptr 6 0,.v (.string v9)] [.sl (.bytes l6),.i q9] [.v (.string v9)] [.v (.string v9)] (some (68,6)) (True) (True ∧ True) none rok32 ent32 hnt rfl rfl (wanted_none rfl) (by kernel_rfl) (by kernel_rfl) (by kernel_rfl) ⟨tt,tt,tt⟩
  (@cast (0 ≤ q9 ∧ q9 ≤ 800000) _ (by kernel_rfl) (by omega)) (Or.inl rfl) rfl ?_
 rintro r bl fx2 hR
 obtain ⟨⟨g10,q10⟩,hq10,rfl,rfl,rfl⟩ := (@cast _ (∃ x : (List CallD) × Int,((GoodH x.1) ∧ (q9 ≤ x.2 ∧ x.2 ≤ q9 + 1200)) ∧ r = (.own 1 (List.length x.1)) ∧ bl = ([⟨40,.row (.calls x.1)⟩]) ∧ fx2 = ([.sl (.bytes l6),.i x.2])) (by kernel_rfl) hR)
 clear hR
 replace hq10 : (GoodH g10) ∧ (q9 ≤ q10 ∧ q10 ≤ q9 + 1200) := hq10
 obtain ⟨hg10,hq110⟩ := hq10
 refine ⟨by kernel_rfl,WI.to (⟨[(3,.ptr 6 0),(7,.ptr 6 0),(8,.ptr 6 0),(9,.v (.string v9)),(10,.own 1010 g10.length)],[(6,⟨68,.fix [.sl (.bytes l6),.i q10]⟩),(1010,⟨40,.row (.calls g10)⟩)],[1010,10,9,6,998,999]⟩) 4 (by kernel_rfl) rfl ?_⟩
 refine WI.runT cok tab16 hnt [] 2 6 (⟨[(3,.ptr 6 0),(4,.v (.string (histB g10))),(7,.ptr 6 0),(8,.ptr 6 0),(9,.v (.string v9)),(10,.own 1010 g10.length),(11,.v (.string (histB g10)))],[(6,⟨68,.fix [.sl (.bytes l6),.i q10]⟩),(1010,⟨40,.row (.calls g10)⟩)],[1010,10,9,6,998,999]⟩)
  ((True ∧ ((True ∧ (g10.length = g10.length)) ∧ True) ∧ True) ∧ True ∧ True) (by kernel_rfl) rfl
  ⟨⟨tt,⟨⟨tt,rfl⟩,tt⟩,tt⟩,tt,tt⟩ ?_
 refine WI.nil rfl (thenQ_normal ?_)
 refine W.keepE [3,4] [(3,.ptr 6 0),(4,.v (.string (histB g10)))] (by kernel_rfl) ?_
 refine W.to (⟨[(3,.ptr 6 0),(4,.v (.string (histB g10)))],[(6,⟨68,.fix [.sl (.bytes l6),.i q10]⟩),(1010,⟨40,.row (.calls g10)⟩)],[1010,10,9,6,998,999]⟩) rfl ?_
 refine W.seq ?_
 refine W.seq (W.wi ?_)
 refine WI.runT cok tab16 hnt [] 1 1 (⟨[(3,.ptr 6 0),(4,.v (.string (histB g10))),(12,.ptr 6 0)],[(6,⟨68,.fix [.sl (.bytes l6),.i q10]⟩),(1010,⟨40,.row (.calls g10)⟩)],[1010,10,9,6,998,999]⟩)
  (True ∧ True) (by kernel_rfl) rfl
  ⟨tt,tt⟩ ?_
 refine WI.call [.ptr 6 0,.i (3 : Int)] [.sl (.bytes l6),.i q10] [.i (3 : Int)] [.i (3 : Int)] (some (68,6)) (True) (True ∧ True) none rok34 ent34 hnt rfl rfl (wanted_none rfl) (by kernel_rfl) (by kernel_rfl) (by kernel_rfl) ⟨tt,tt,tt⟩
  (@cast (0 ≤ q10 ∧ q10 ≤ 1000000) _ (by kernel_rfl) (by omega)) (Or.inl rfl) rfl ?_
 rintro r bl fx2 hR
 obtain ⟨⟨v13,q13⟩,hq13,rfl,rfl,rfl⟩ := (@cast _ (∃ x : Int × Int,((0 ≤ x.1 ∧ x.1 < max (3 : Int) 1) ∧ (x.2 = q10 + 1)) ∧ r = (.i x.1) ∧ bl = ([]) ∧ fx2 = ([.sl (.bytes l6),.i x.2])) (by kernel_rfl) hR)
 clear hR
 replace hq13 : (0 ≤ v13 ∧ v13 < max (3 : Int) 1) ∧ (q13 = q10 + 1) := hq13
 obtain ⟨hv13,hq113⟩ := hq13
 refine ⟨by kernel_rfl,WI.to (⟨[(3,.ptr 6 0),(4,.v (.string (histB g10))),(12,.ptr 6 0),(13,.i v13)],[(6,⟨68,.fix [.sl (.bytes l6),.i q13]⟩),(1010,⟨40,.row (.calls g10)⟩)],[13,1010,10,9,6,998,999]⟩) 2 (by kernel_rfl) rfl ?_⟩
 refine WI.runT cok tab16 hnt [] 1 3 (⟨[(3,.ptr 6 0),(4,.v (.string (histB g10))),(12,.ptr 6 0),(13,.i v13),(14,.b (decide (v13 = (0 : Int))))],[(6,⟨68,.fix [.sl (.bytes l6),.i q13]⟩),(1010,⟨40,.row (.calls g10)⟩)],[13,1010,10,9,6,998,999]⟩)
  ((True ∧ True ∧ True) ∧ True) (by kernel_rfl) rfl
  ⟨⟨tt,tt,tt⟩,tt⟩ ?_
 refine WI.nil rfl (thenQ_normal ?_)
 refine W.keepE [3,4,14] [(3,.ptr 6 0),(4,.v (.string (histB g10))),(14,.b (decide (v13 = (0 : Int))))] (by kernel_rfl) ?_
 refine W.to (⟨[(3,.ptr 6 0),(4,.v (.string (histB g10))),(14,.b (decide (v13 = (0 : Int))))],[(6,⟨68,.fix [.sl (.bytes l6),.i q13]⟩),(1010,⟨40,.row (.calls g10)⟩)],[13,1010,10,9,6,998,999]⟩) rfl ?_
 refine W.ifP (v13 = (0 : Int)) (.b (decide (v13 = (0 : Int)))) (by kernel_rfl) rfl trivial ?_ ?_
 ·intro h14
  refine W.wi ?_
  refine WI.runT cok tab16 hnt [] 2 2 (⟨[(3,.ptr 6 0),(4,.v (.string (histB g10))),(14,.b (decide (v13 = (0 : Int)))),(15,.ptr 6 0),(16,.v (.string (histB g10)))],[(6,⟨68,.fix [.sl (.bytes l6),.i q13]⟩),(1010,⟨40,.row (.calls g10)⟩)],[13,1010,10,9,6,998,999]⟩)
   (True ∧ True ∧ True) (by kernel_rfl) rfl
   ⟨tt,tt,tt⟩ ?_
  refine WI.call [.ptr 6 0,.v (.string (histB g10))] [.sl (.bytes l6),.i q13] [.v (.string (histB g10))] [.v (.string (histB g10))] (some (68,6)) (True) (True ∧ True) none rok35 ent35 hnt rfl rfl (wanted_none rfl) (by kernel_rfl) (by kernel_rfl) (by kernel_rfl) ⟨tt,tt,tt⟩
   (@cast ((0 ≤ q13 ∧ q13 ≤ 900000) ∧ ((histB g10).size ≤ 1000)) _ (by kernel_rfl) ⟨(by omega),(by first | omega | (have h8 := hist_le g10; omega))⟩) (Or.inl rfl) rfl ?_
  rintro r bl fx2 hR
  obtain ⟨⟨g17,q17⟩,hq17,rfl,rfl,rfl⟩ := (@cast _ (∃ x : ByteArray × Int,((x.1.size ≤ 1020) ∧ (q13 ≤ x.2 ∧ x.2 ≤ q13 + 10)) ∧ r = (.v (.string x.1)) ∧ bl = ([]) ∧ fx2 = ([.sl (.bytes l6),.i x.2])) (by kernel_rfl) hR)
  clear hR
  replace hq17 : (g17.size ≤ 1020) ∧ (q13 ≤ q17 ∧ q17 ≤ q13 + 10) := hq17
  obtain ⟨hg17,hq117⟩ := hq17
  refine ⟨by kernel_rfl,WI.to (⟨[(3,.ptr 6 0),(4,.v (.string (histB g10))),(14,.b (decide (v13 = (0 : Int)))),(15,.ptr 6 0),(16,.v (.string (histB g10))),(17,.v (.string g17))],[(6,⟨68,.fix [.sl (.bytes l6),.i q17]⟩),(1010,⟨40,.row (.calls g10)⟩)],[17,13,1010,10,9,6,998,999]⟩) 3 (by kernel_rfl) rfl ?_⟩
  refine WI.runT cok tab16 hnt [] 1 4 (⟨[(3,.ptr 6 0),(4,.v (.string g17)),(14,.b (decide (v13 = (0 : Int)))),(15,.ptr 6 0),(16,.v (.string (histB g10))),(17,.v (.string g17))],[(6,⟨68,.fix [.sl (.bytes l6),.i q17]⟩),(1010,⟨40,.row (.calls g10)⟩)],[17,13,1010,10,9,6,998,999]⟩)
   (True ∧ True) (by kernel_rfl) rfl
   ⟨tt,tt⟩ ?_
  refine WI.nil rfl ?_
  refine thenQ_normal ?_
  refine Kk cok tab16 hnt [] [2] (⟨[(2,.v (.string g17))],[(6,⟨68,.fix [.sl (.bytes l6),.i q17]⟩),(1010,⟨40,.row (.calls g10)⟩)],[17,13,1010,10,9,6,998,999]⟩)
   (True ∧ True ∧ True)
   ⟨tt,tt,tt⟩ ?_
  refine W.ret ?_
  exact endP_ret (g17) (show (g17.size ≤ 1020) from (by first | omega | (have h8 := hist_le g10; omega))) [] (.v (.string g17)) (by kernel_rfl) (@cast ((((.string g17) : Value) = (.string g17)) ∧ True ∧ (true = true) ∧ True ∧ (false = true → (0 : Nat) = 998)) _ (by kernel_rfl) ⟨rfl,tt,rfl,tt,(fun h => by cases h)⟩)
 ·intro n14
  refine W.skip (thenQ_normal ?_)
  refine Kk cok tab16 hnt [] [2] (⟨[(2,.v (.string (histB g10)))],[(6,⟨68,.fix [.sl (.bytes l6),.i q13]⟩),(1010,⟨40,.row (.calls g10)⟩)],[13,1010,10,9,6,998,999]⟩)
   (True ∧ True ∧ True)
   ⟨tt,tt,tt⟩ ?_
  refine W.ret ?_
  exact endP_ret ((histB g10)) (show ((histB g10).size ≤ 1020) from (by first | omega | (have h8 := hist_le g10; omega))) [] (.v (.string (histB g10))) (by kernel_rfl) (@cast ((((.string (histB g10)) : Value) = (.string (histB g10))) ∧ True ∧ (true = true) ∧ True ∧ (false = true → (0 : Nat) = 998)) _ (by kernel_rfl) ⟨rfl,tt,rfl,tt,(fun h => by cases h)⟩)
theorem ent16 : Entr prog 16 := ⟨_,func16,rfl,by decide⟩
end Go.Proofs.Tryd

set_option linter.unusedSimpArgs false
set_option linter.unusedVariables false
namespace Go.Proofs.Tryd
open Go.Ab Go.RowKit
def fs5 : FnS := fnS [.s .bytes] [.bytes] (fun _ (code,_) => (.b true,[],True))
abbrev T5 : Tab := lk [(10,fs10),(13,fs13),(14,fs14),(15,fs15),(17,fs17)]
theorem tab5 : TabOK prog T5 := (TabOK.cons ok10 ent10 (TabOK.cons ok13 ent13 (TabOK.cons ok14 ent14 (TabOK.cons ok15 ent15 (TabOK.cons ok17 ent17 TabOK.nil)))))
set_option maxRecDepth 100000 in
set_option maxHeartbeats 1000000 in
theorem ok5 : FnOK prog 5 fs5 := by
 refine FnOK.mk cok func5 rfl rfl rfl ?_
 rintro fl ⟨(code : List UInt8),_⟩ hpre F hnt0 _
 have hnt : F.nt = 52 := hnt0.trans ntmps5
 clear hpre
 refine W.to (⟨[(0,.sl (.bytes code))],[],[999]⟩) rfl ?_
 refine W.lenOf 0 (.bytes code) (by kernel_rfl) ?_
 intro hl_code; replace hl_code : List.length code ≤ 9223372036854775807 := hl_code
 refine Kk cok tab5 hnt [] [0] (⟨[(0,.sl (.bytes code))],[],[999]⟩)
  (True ∧ True)
  ⟨tt,tt⟩ ?_
 refine W.seq ?_
 refine Kk cok tab5 hnt [] [0,10] (⟨[(0,.sl (.bytes code)),(10,.b (decide ((1048576 : Int) < (code.length : Int))))],[],[999]⟩)
  (True ∧ True ∧ (True ∧ True ∧ True) ∧ True)
  ⟨tt,tt,⟨tt,tt,tt⟩,tt⟩ ?_
 refine W.ifP ((1048576 : Int) < (code.length : Int)) (.b (decide ((1048576 : Int) < (code.length : Int)))) (by kernel_rfl) rfl trivial ?_ ?_
 ·intro h10
  refine Kk cok tab5 hnt [] [2] (⟨[(2,.b true)],[],[999]⟩)
   (True ∧ True)
   ⟨tt,tt⟩ ?_
  refine W.ret (thenQ_ret ?_)
  exact endQ_ret (.b true) (by kernel_rfl) (@cast (Sv (.bool true)) _ (by kernel_rfl) rfl)
 ·intro n10
  refine W.skip (thenQ_normal ?_)
  refine W.seq (W.wi ?_)
  refine WI.runT cok tab5 hnt [] 1 1 (⟨[(0,.sl (.bytes code)),(10,.b (decide ((1048576 : Int) < (code.length : Int)))),(11,.sl (.bytes code))],[],[999]⟩)
   (True ∧ True) (by kernel_rfl) rfl
   ⟨tt,tt⟩ ?_
  refine WI.call [.sl (.bytes code)] [] [.sl (.bytes code)] [.sl (.bytes code)] none (True) (True ∧ True) none rok16 ent16 hnt rfl rfl (wanted_none rfl) (by kernel_rfl) (by kernel_rfl) (by kernel_rfl) ⟨tt,tt,tt⟩
   (@cast (True) _ (by kernel_rfl) trivial) (Or.inl rfl) rfl ?_
  rintro r bl fx2 hR
  obtain ⟨g12,hq12,rfl,rfl,rfl⟩ := (@cast _ (∃ x : ByteArray,((x.size ≤ 1020)) ∧ r = (.v (.string x)) ∧ bl = ([]) ∧ fx2 = ([])) (by kernel_rfl) hR)
  clear hR
  replace hq12 : (g12.size ≤ 1020) := hq12
  have hg12 := hq12
  refine ⟨by kernel_rfl,WI.to (⟨[(0,.sl (.bytes code)),(10,.b (decide ((1048576 : Int) < (code.length : Int)))),(11,.sl (.bytes code)),(12,.v (.string g12))],[],[999]⟩) 2 (by kernel_rfl) rfl ?_⟩
  refine WI.runT cok tab5 hnt [] 1 3 (⟨[(0,.sl (.bytes code)),(3,.v (.string g12)),(10,.b (decide ((1048576 : Int) < (code.length : Int)))),(11,.sl (.bytes code)),(12,.v (.string g12))],[],[999]⟩)
   (True ∧ True) (by kernel_rfl) rfl
   ⟨tt,tt⟩ ?_
  refine WI.nil rfl (thenQ_normal ?_)
  refine W.keepE [3] [(3,.v (.string g12))] (by kernel_rfl) ?_
  refine W.to (⟨[(3,.v (.string g12))],[],[999]⟩) rfl ?_
  refine Kk cok tab5 hnt [] [3,4,5] (⟨[(3,.v (.string g12)),(4,.own 15 (List.length ((parseI g12.data.toList).1))),(5,.b ((parseI g12.data.toList).2))],[(15,⟨40,.row (.calls ((parseI g12.data.toList).1))⟩)],[15,999]⟩)
   (True ∧ (True ∧ (True ∧ True) ∧ (g12.size ≤ 1999999)) ∧ True ∧ True ∧ True ∧ True ∧ True ∧ True)
   ⟨tt,⟨tt,⟨tt,tt⟩,(by omega)⟩,tt,tt,tt,tt,tt,tt⟩ ?_
  refine Kk cok tab5 hnt [] [3,4,5,6,7] (⟨[(3,.v (.string g12)),(4,.own 15 (List.length ((parseI g12.data.toList).1))),(5,.b ((parseI g12.data.toList).2)),(6,.sl (.calls ((parseS g12.data.toList).1))),(7,.b ((parseS g12.data.toList).2))],[(15,⟨40,.row (.calls ((parseI g12.data.toList).1))⟩)],[15,999]⟩)
   (True ∧ (True ∧ (True ∧ True) ∧ (g12.size ≤ 1999999)) ∧ True ∧ True ∧ True ∧ True ∧ True ∧ True)
   ⟨tt,⟨tt,⟨tt,tt⟩,(by omega)⟩,tt,tt,tt,tt,tt,tt⟩ ?_
  refine W.seq ?_
  refine Kk cok tab5 hnt [] [3,4,5,6,7,35] ((fun (Z1:Bool)=>(⟨[(3,.v (.string g12)),(4,.own 15 (List.length ((parseI g12.data.toList).1))),(5,.b Z1),(6,.sl (.calls ((parseS g12.data.toList).1))),(7,.b ((parseS g12.data.toList).2)),(35,.b (((!(decide (((parseI g12.data.toList).1) = ((parseS g12.data.toList).1)))) || (Z1 != ((parseS g12.data.toList).2))) || (!Z1)))],[(15,⟨40,.row (.calls ((parseI g12.data.toList).1))⟩)],[15,999]⟩:St)) ((parseI g12.data.toList).2))
   ((fun (Z1:Bool)=>((fun (Z2:Bool)=>(True ∧ (True ∧ ((True ∧ (((True ∧ ((List.length ((parseI g12.data.toList).1)) = (List.length ((parseI g12.data.toList).1)))) ∧ (True ∧ True)) ∧ True)) ∧ (True ∧ (True ∧ (((!Z1) = true → True) ∧ (((!Z1) = true → True) ∧ (((!Z1) = true → ((((!Z1) = true) ∧ True) ∧ (((!Z1) = true) ∧ True))) ∧ ((True ∧ ((Z1 = true → True) ∧ (Z1 = false → ((!Z1) = true) ∧ True))) ∧ (True ∧ (((!Z2) = true → True) ∧ (((!Z2) = true → (((!Z2) = true) ∧ True)) ∧ ((True ∧ ((Z2 = true → True) ∧ (Z2 = false → ((!Z2) = true) ∧ True))) ∧ True)))))))))))))) (Z1 || (((parseI g12.data.toList).2) != ((parseS g12.data.toList).2))))) (!(decide (((parseI g12.data.toList).1) = ((parseS g12.data.toList).1)))))
   ⟨tt,tt,⟨tt,⟨⟨tt,rfl⟩,tt,tt⟩,tt⟩,tt,tt,(fun _ => trivial),(fun _ => trivial),(fun hG => ⟨⟨hG,tt⟩,hG,tt⟩),⟨tt,(fun _ => trivial),(fun hp => ⟨(not_t hp),tt⟩)⟩,tt,(fun _ => trivial),(fun hG => ⟨hG,tt⟩),⟨tt,(fun _ => trivial),(fun hp => ⟨(not_t hp),tt⟩)⟩,tt⟩ ?_
  refine W.if' (((!(decide (((parseI g12.data.toList).1) = ((parseS g12.data.toList).1)))) || (((parseI g12.data.toList).2) != ((parseS g12.data.toList).2))) || (!((parseI g12.data.toList).2))) (.b (((!(decide (((parseI g12.data.toList).1) = ((parseS g12.data.toList).1)))) || (((parseI g12.data.toList).2) != ((parseS g12.data.toList).2))) || (!((parseI g12.data.toList).2)))) (by kernel_rfl) rfl trivial ?_ ?_
  ·intro h35
   refine Kk cok tab5 hnt [] [2] (⟨[(2,.b ((decide (((parseI g12.data.toList).1) = ((parseS g12.data.toList).1))) && (((parseI g12.data.toList).2) == ((parseS g12.data.toList).2))))],[(15,⟨40,.row (.calls ((parseI g12.data.toList).1))⟩)],[15,999]⟩)
    ((fun (Z1:Bool)=>(True ∧ (True ∧ ((True ∧ (((True ∧ ((List.length ((parseI g12.data.toList).1)) = (List.length ((parseI g12.data.toList).1)))) ∧ (True ∧ True)) ∧ True)) ∧ (True ∧ ((Z1 = true → True) ∧ ((Z1 = true → True) ∧ ((Z1 = true → (((Z1 = true) ∧ True) ∧ ((Z1 = true) ∧ True))) ∧ ((True ∧ ((Z1 = true → (Z1 = true) ∧ True) ∧ (Z1 = false → True))) ∧ (True ∧ True)))))))))) (decide (((parseI g12.data.toList).1) = ((parseS g12.data.toList).1))))
    ⟨tt,tt,⟨tt,⟨⟨tt,rfl⟩,tt,tt⟩,tt⟩,tt,(fun _ => trivial),(fun _ => trivial),(fun hG => ⟨⟨hG,tt⟩,hG,tt⟩),⟨tt,(fun hp => ⟨hp,tt⟩),(fun _ => trivial)⟩,tt,tt⟩ ?_
   refine W.ret (thenQ_ret ?_)
   exact endQ_ret (.b ((decide (((parseI g12.data.toList).1) = ((parseS g12.data.toList).1))) && (((parseI g12.data.toList).2) == ((parseS g12.data.toList).2)))) (by kernel_rfl) (@cast ((.bool ((decide (((parseI g12.data.toList).1) = ((parseS g12.data.toList).1))) && (((parseI g12.data.toList).2) == ((parseS g12.data.toList).2))) : Value) = .bool true) _ (by kernel_rfl) (congrArg Value.bool (by rw [parse_eq]; simp)))
  ·intro n35
   refine W.skip (thenQ_normal ?_)
   refine Kk cok tab5 hnt [] [2] (⟨[(2,.b ((eqS (histB ((parseI g12.data.toList).1)) g12) && (validHistory ((parseI g12.data.toList).1))))],[(15,⟨40,.row (.calls ((parseI g12.data.toList).1))⟩)],[15,999]⟩)
    ((fun (Z1:Bool)=>(True ∧ ((True ∧ (((True ∧ ((List.length ((parseI g12.data.toList).1)) = (List.length ((parseI g12.data.toList).1)))) ∧ True) ∧ True)) ∧ (True ∧ ((True ∧ (True ∧ True)) ∧ (True ∧ ((Z1 = true → True) ∧ ((Z1 = true → (True ∧ (((((Z1 = true) ∧ True) ∧ ((List.length ((parseI g12.data.toList).1)) = (List.length ((parseI g12.data.toList).1)))) ∧ True) ∧ True))) ∧ ((True ∧ ((Z1 = true → (Z1 = true) ∧ True) ∧ (Z1 = false → True))) ∧ (True ∧ True)))))))))) (eqS (histB ((parseI g12.data.toList).1)) g12))
    ⟨tt,⟨tt,⟨⟨tt,rfl⟩,tt⟩,tt⟩,tt,⟨tt,tt,tt⟩,tt,(fun _ => trivial),(fun hG => ⟨tt,⟨⟨⟨hG,tt⟩,rfl⟩,tt⟩,tt⟩),⟨tt,(fun hp => ⟨hp,tt⟩),(fun _ => trivial)⟩,tt,tt⟩ ?_
   refine W.ret ?_
   exact endQ_ret (.b ((eqS (histB ((parseI g12.data.toList).1)) g12) && (validHistory ((parseI g12.data.toList).1)))) (by kernel_rfl) (@cast ((.bool ((eqS (histB ((parseI g12.data.toList).1)) g12) && (validHistory ((parseI g12.data.toList).1))) : Value) = .bool true) _ (by kernel_rfl) (congrArg Value.bool (by have h9 := parse_law (s := g12) (by simp at n35; exact n35.2); rw [h9.1,h9.2]; rfl)))
end Go.Proofs.Tryd
