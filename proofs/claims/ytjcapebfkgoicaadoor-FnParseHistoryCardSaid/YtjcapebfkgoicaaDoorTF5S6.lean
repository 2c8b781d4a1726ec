import Derived.Test.YtjcapebfkgoicaaDoorTF5S0
set_option linter.unusedSimpArgs false
set_option linter.unusedVariables false
namespace Go.Proofs.Tryd
open Go.Ab Go.RowKit
def pre34 : List AV → List AV → Prop := preP [.int] [.bytes,.int] (fun (n,_) (l,p,_) => (0 ≤ p ∧ p ≤ 1000000))
def rel34 : RelS := relP [.int] [.bytes,.int] (ι := Int × Int) (fun (n,_) (l,p,_) (v,q) => (0 ≤ v ∧ v < max n 1) ∧ (q = p + 1)) (fun (n,_) (l,p,_) (v,q) => (.i v,[],[.sl (.bytes l),.i q]))
abbrev T34 : Tab := lk []
theorem tab34 : TabOK prog T34 := TabOK.nil
set_option maxRecDepth 100000 in
set_option maxHeartbeats 1000000 in
theorem rok34 : RelOK prog 34 (some 68) [.o] pre34 rel34 := by
 refine RelOK.mk cok func34 rfl rfl rfl ?_
 rintro ⟨(n : Int),_⟩ ⟨(l : List UInt8),(p : Int),_⟩ hpre F hnt0
 have hnt : F.nt = 99 := hnt0.trans ntmps34
 replace hpre : (0 ≤ p ∧ p ≤ 1000000) := hpre
 have hp := hpre
 refine W.to (⟨[(0,.ptr 998 0),(1,.i n)],[(998,⟨68,.fix [.sl (.bytes l),.i p]⟩)],[998,999]⟩) rfl ?_
 have hu : ∀ i : Nat,((UInt8.toNat (l.getD i default) : Nat) : Int) ≤ 255 := fun i => by have := (l.getD i default).toNat_lt; omega
 refine Kk cok tab34 hnt [] [0,1] (⟨[(0,.ptr 998 0),(1,.i n)],[(998,⟨68,.fix [.sl (.bytes l),.i p]⟩)],[998,999]⟩)
  (True ∧ True)
  ⟨tt,tt⟩ ?_
 refine Kk cok tab34 hnt [] [0,1] (⟨[(0,.ptr 998 0),(1,.i n)],[(998,⟨68,.fix [.sl (.bytes l),.i (p + (1 : Int))]⟩)],[998,999]⟩)
  (True ∧ True ∧ True ∧ True ∧ True ∧ (True ∧ True ∧ (Fits .i64 (p + (1 : Int)))) ∧ True ∧ True ∧ (True ∧ True) ∧ True)
  ⟨tt,tt,tt,tt,tt,⟨tt,tt,(by exact fits_i64 (by omega) (by omega))⟩,tt,tt,⟨tt,tt⟩,tt⟩ ?_
 refine W.seq ?_
 refine Kk cok tab34 hnt [] [0,1,24] (⟨[(0,.ptr 998 0),(1,.i n),(24,.b ((decide (n < (1 : Int))) || (decide ((l.length : Int) = (0 : Int)))))],[(998,⟨68,.fix [.sl (.bytes l),.i (p + (1 : Int))]⟩)],[998,999]⟩)
  ((fun (Z1:Bool)=>(True ∧ ((True ∧ (True ∧ True)) ∧ (True ∧ (((!Z1) = true → True) ∧ (((!Z1) = true → (((!Z1) = true) ∧ True)) ∧ (((!Z1) = true → (((!Z1) = true) ∧ True)) ∧ (((!Z1) = true → (((!Z1) = true) ∧ True)) ∧ (((!Z1) = true → (((!Z1) = true) ∧ True)) ∧ (((!Z1) = true → ((((!Z1) = true) ∧ True) ∧ (True ∧ True))) ∧ ((True ∧ ((Z1 = true → True) ∧ (Z1 = false → ((!Z1) = true) ∧ True))) ∧ True))))))))))) (decide (n < (1 : Int))))
  ⟨tt,⟨tt,tt,tt⟩,tt,(fun _ => trivial),(fun hG => ⟨hG,tt⟩),(fun hG => ⟨hG,tt⟩),(fun hG => ⟨hG,tt⟩),(fun hG => ⟨hG,tt⟩),(fun hG => ⟨⟨hG,tt⟩,tt,tt⟩),⟨tt,(fun _ => trivial),(fun hp => ⟨(not_t hp),tt⟩)⟩,tt⟩ ?_
 refine W.if' ((decide (n < (1 : Int))) || (decide ((l.length : Int) = (0 : Int)))) (.b ((decide (n < (1 : Int))) || (decide ((l.length : Int) = (0 : Int))))) (by kernel_rfl) rfl trivial ?_ ?_
 ·intro h24
  refine Kk cok tab34 hnt [] [4] (⟨[(4,.i (0 : Int))],[(998,⟨68,.fix [.sl (.bytes l),.i (p + (1 : Int))]⟩)],[998,999]⟩)
   (True ∧ True)
   ⟨tt,tt⟩ ?_
  refine W.ret (thenQ_ret ?_)
  exact endP_ret ((0 : Int),(p + (1 : Int))) (show (0 ≤ (0 : Int) ∧ (0 : Int) < max n 1) ∧ ((p + (1 : Int)) = p + 1) from ⟨(by omega),(by first | assumption | omega | rfl | (simp; done) | (simp; omega))⟩) [(0,998)] (.i (0 : Int)) (by kernel_rfl) (@cast ((Si (0 : Int)) ∧ ((((68 : Nat) = 68) ∧ ((Sd (.bytes l)) ∧ (Si (p + (1 : Int))) ∧ True) ∧ ((0 : Nat) ∈ ([0] : List Nat))) ∧ True) ∧ (true = true) ∧ ((([] : List Nat) = []) ∧ True) ∧ (true = true → (998 : Nat) = 998)) _ (by kernel_rfl) ⟨rfl,⟨⟨rfl,⟨rfl,rfl,tt⟩,(by decide)⟩,tt⟩,rfl,⟨rfl,tt⟩,(fun _ => rfl)⟩)
 ·intro n24
  have n24_0 : ¬ (n < (1 : Int)) := of_decide_eq_false (or_l n24)
  have n24_1 : ¬ ((l.length : Int) = (0 : Int)) := of_decide_eq_false (or_r n24)
  refine W.skip (thenQ_normal ?_)
  refine Kk cok tab34 hnt [] [0,1,5] (⟨[(0,.ptr 998 0),(1,.i n),(5,.i ((p + (1 : Int)) - (1 : Int)))],[(998,⟨68,.fix [.sl (.bytes l),.i (p + (1 : Int))]⟩)],[998,999]⟩)
   (True ∧ True ∧ True ∧ True ∧ (True ∧ True ∧ (Fits .i64 ((p + (1 : Int)) - (1 : Int)))) ∧ True ∧ True)
   ⟨tt,tt,tt,tt,⟨tt,tt,(by exact fits_i64 (by omega) (by omega))⟩,tt,tt⟩ ?_
  refine W.seq ?_
  refine Kk cok tab34 hnt [] [0,1,5,36] (⟨[(0,.ptr 998 0),(1,.i n),(5,.i ((p + (1 : Int)) - (1 : Int))),(36,.b (decide (((p + (1 : Int)) - (1 : Int)) < (l.length : Int))))],[(998,⟨68,.fix [.sl (.bytes l),.i (p + (1 : Int))]⟩)],[998,999]⟩)
   (True ∧ True ∧ True ∧ True ∧ True ∧ True ∧ (True ∧ True ∧ True) ∧ True)
   ⟨tt,tt,tt,tt,tt,tt,⟨tt,tt,tt⟩,tt⟩ ?_
  refine W.ifP (((p + (1 : Int)) - (1 : Int)) < (l.length : Int)) (.b (decide (((p + (1 : Int)) - (1 : Int)) < (l.length : Int)))) (by kernel_rfl) rfl trivial ?_ ?_
  ·intro h36
   have hu1 := hu (Int.toNat (p + 1 - 1))
   refine Kk cok tab34 hnt [] [4] (⟨[(4,.i (Int.tmod (((UInt8.toNat (l.getD (Int.toNat ((p + (1 : Int)) - (1 : Int))) default)) : Nat) : Int) n))],[(998,⟨68,.fix [.sl (.bytes l),.i (p + (1 : Int))]⟩)],[998,999]⟩)
    (True ∧ True ∧ True ∧ True ∧ True ∧ (True ∧ True ∧ (0 ≤ ((p + (1 : Int)) - (1 : Int))) ∧ (((p + (1 : Int)) - (1 : Int)) < (l.length : Int))) ∧ True ∧ (True ∧ (Fits .i64 (((UInt8.toNat (l.getD (Int.toNat ((p + (1 : Int)) - (1 : Int))) default)) : Nat) : Int))) ∧ True ∧ (True ∧ True ∧ (n ≠ 0)) ∧ True ∧ True)
    ⟨tt,tt,tt,tt,tt,⟨tt,tt,(by omega),(by omega)⟩,tt,⟨tt,(by exact fits_i64 (by (first | omega | (simp only [List.length_set]; done) | (simp only [List.length_append,List.length_cons,List.length_nil,List.length_take,List.length_drop,List.length_set,List.length_replicate,List.length_map] at *; omega) | assumption)) (by (first | omega | (simp only [List.length_set]; done) | (simp only [List.length_append,List.length_cons,List.length_nil,List.length_take,List.length_drop,List.length_set,List.length_replicate,List.length_map] at *; omega) | assumption)))⟩,tt,⟨tt,tt,(by omega)⟩,tt,tt⟩ ?_
   refine W.ret (thenQ_ret ?_)
   exact endP_ret ((Int.tmod (((UInt8.toNat (l.getD (Int.toNat ((p + (1 : Int)) - (1 : Int))) default)) : Nat) : Int) n),(p + (1 : Int))) (show (0 ≤ (Int.tmod (((UInt8.toNat (l.getD (Int.toNat ((p + (1 : Int)) - (1 : Int))) default)) : Nat) : Int) n) ∧ (Int.tmod (((UInt8.toNat (l.getD (Int.toNat ((p + (1 : Int)) - (1 : Int))) default)) : Nat) : Int) n) < max n 1) ∧ ((p + (1 : Int)) = p + 1) from ⟨(by exact ⟨Int.tmod_nonneg _ (by omega),by have := Int.tmod_lt_of_pos ((UInt8.toNat (l.getD (Int.toNat (p + 1 - 1)) default) : Nat) : Int) (show 0 < n by omega); omega⟩),(by first | assumption | omega | rfl | (simp; done) | (simp; omega))⟩) [(0,998)] (.i (Int.tmod (((UInt8.toNat (l.getD (Int.toNat ((p + (1 : Int)) - (1 : Int))) default)) : Nat) : Int) n)) (by kernel_rfl) (@cast ((Si (Int.tmod (((UInt8.toNat (l.getD (Int.toNat ((p + (1 : Int)) - (1 : Int))) default)) : Nat) : Int) n)) ∧ ((((68 : Nat) = 68) ∧ ((Sd (.bytes l)) ∧ (Si (p + (1 : Int))) ∧ True) ∧ ((0 : Nat) ∈ ([0] : List Nat))) ∧ True) ∧ (true = true) ∧ ((([] : List Nat) = []) ∧ True) ∧ (true = true → (998 : Nat) = 998)) _ (by kernel_rfl) ⟨rfl,⟨⟨rfl,⟨rfl,rfl,tt⟩,(by decide)⟩,tt⟩,rfl,⟨rfl,tt⟩,(fun _ => rfl)⟩)
  ·intro n36
   refine W.skip (thenQ_normal ?_)
   have hl0 : 0 < (List.length l : Int) := by omega
   have hm1 := Int.tmod_lt_of_pos (p + 1 - 1) hl0
   have hm2 := Int.tmod_nonneg (List.length l : Int) (show 0 ≤ p + 1 - 1 by omega)
   have hm3 := Int.tmod_lt_of_pos ((p + 1 - 1) * 7 + 3) hl0
   have hm4 := Int.tmod_nonneg (List.length l : Int) (show 0 ≤ (p + 1 - 1) * 7 + 3 by omega)
   have hd1 : 0 ≤ Int.tdiv (p + 1 - 1) (List.length l : Int) := Int.tdiv_nonneg (by omega) (by omega)
   have hd2 : Int.tdiv (p + 1 - 1) (List.length l : Int) ≤ p + 1 - 1 := Int.tdiv_le_self _ (by omega)
   have hu2 := hu (Int.toNat (Int.tmod (p + 1 - 1) (List.length l : Int)))
   have hu3 := hu (Int.toNat (Int.tmod ((p + 1 - 1) * 7 + 3) (List.length l : Int)))
   refine W.KA cok tab34 hnt [] [1,6] (⟨[(1,.i n),(6,.i (((((((UInt8.toNat (l.getD (Int.toNat (Int.tmod ((p + (1 : Int)) - (1 : Int)) (l.length : Int))) default)) : Nat) : Int) * (131 : Int)) + ((((UInt8.toNat (l.getD (Int.toNat (Int.tmod ((((p + (1 : Int)) - (1 : Int)) * (7 : Int)) + (3 : Int)) (l.length : Int))) default)) : Nat) : Int) * (1117 : Int))) + (((p + (1 : Int)) - (1 : Int)) * (29 : Int))) + ((Int.tdiv ((p + (1 : Int)) - (1 : Int)) (l.length : Int)) * (53 : Int))))],[(998,⟨68,.fix [.sl (.bytes l),.i (p + (1 : Int))]⟩)],[998,999]⟩)
    (True ∧ True ∧ True ∧ True ∧ True ∧ True ∧ True ∧ True ∧ True ∧ True ∧ (True ∧ True ∧ ((l.length : Int) ≠ 0)) ∧ (True ∧ True ∧ (0 ≤ (Int.tmod ((p + (1 : Int)) - (1 : Int)) (l.length : Int))) ∧ ((Int.tmod ((p + (1 : Int)) - (1 : Int)) (l.length : Int)) < (l.length : Int))) ∧ True ∧ (True ∧ (Fits .i64 (((UInt8.toNat (l.getD (Int.toNat (Int.tmod ((p + (1 : Int)) - (1 : Int)) (l.length : Int))) default)) : Nat) : Int))) ∧ (True ∧ True ∧ (Fits .i64 ((((UInt8.toNat (l.getD (Int.toNat (Int.tmod ((p + (1 : Int)) - (1 : Int)) (l.length : Int))) default)) : Nat) : Int) * (131 : Int)))) ∧ True ∧ True ∧ True ∧ True ∧ True ∧ (True ∧ True ∧ (Fits .i64 (((p + (1 : Int)) - (1 : Int)) * (7 : Int)))) ∧ (True ∧ True ∧ (Fits .i64 ((((p + (1 : Int)) - (1 : Int)) * (7 : Int)) + (3 : Int)))) ∧ True ∧ True ∧ True ∧ True ∧ True ∧ (True ∧ True ∧ ((l.length : Int) ≠ 0)) ∧ (True ∧ True ∧ (0 ≤ (Int.tmod ((((p + (1 : Int)) - (1 : Int)) * (7 : Int)) + (3 : Int)) (l.length : Int))) ∧ ((Int.tmod ((((p + (1 : Int)) - (1 : Int)) * (7 : Int)) + (3 : Int)) (l.length : Int)) < (l.length : Int))) ∧ True ∧ (True ∧ (Fits .i64 (((UInt8.toNat (l.getD (Int.toNat (Int.tmod ((((p + (1 : Int)) - (1 : Int)) * (7 : Int)) + (3 : Int)) (l.length : Int))) default)) : Nat) : Int))) ∧ (True ∧ True ∧ (Fits .i64 ((((UInt8.toNat (l.getD (Int.toNat (Int.tmod ((((p + (1 : Int)) - (1 : Int)) * (7 : Int)) + (3 : Int)) (l.length : Int))) default)) : Nat) : Int) * (1117 : Int)))) ∧ (True ∧ True ∧ (Fits .i64 (((((UInt8.toNat (l.getD (Int.toNat (Int.tmod ((p + (1 : Int)) - (1 : Int)) (l.length : Int))) default)) : Nat) : Int) * (131 : Int)) + ((((UInt8.toNat (l.getD (Int.toNat (Int.tmod ((((p + (1 : Int)) - (1 : Int)) * (7 : Int)) + (3 : Int)) (l.length : Int))) default)) : Nat) : Int) * (1117 : Int))))) ∧ True ∧ (True ∧ True ∧ (Fits .i64 (((p + (1 : Int)) - (1 : Int)) * (29 : Int)))) ∧ (True ∧ True ∧ (Fits .i64 ((((((UInt8.toNat (l.getD (Int.toNat (Int.tmod ((p + (1 : Int)) - (1 : Int)) (l.length : Int))) default)) : Nat) : Int) * (131 : Int)) + ((((UInt8.toNat (l.getD (Int.toNat (Int.tmod ((((p + (1 : Int)) - (1 : Int)) * (7 : Int)) + (3 : Int)) (l.length : Int))) default)) : Nat) : Int) * (1117 : Int))) + (((p + (1 : Int)) - (1 : Int)) * (29 : Int))))) ∧ True ∧ True ∧ True ∧ True ∧ True ∧ True ∧ (True ∧ True ∧ ((l.length : Int) ≠ 0) ∧ (Fits .i64 (Int.tdiv ((p + (1 : Int)) - (1 : Int)) (l.length : Int)))) ∧ (True ∧ True ∧ (Fits .i64 ((Int.tdiv ((p + (1 : Int)) - (1 : Int)) (l.length : Int)) * (53 : Int)))) ∧ (True ∧ True ∧ (Fits .i64 (((((((UInt8.toNat (l.getD (Int.toNat (Int.tmod ((p + (1 : Int)) - (1 : Int)) (l.length : Int))) default)) : Nat) : Int) * (131 : Int)) + ((((UInt8.toNat (l.getD (Int.toNat (Int.tmod ((((p + (1 : Int)) - (1 : Int)) * (7 : Int)) + (3 : Int)) (l.length : Int))) default)) : Nat) : Int) * (1117 : Int))) + (((p + (1 : Int)) - (1 : Int)) * (29 : Int))) + ((Int.tdiv ((p + (1 : Int)) - (1 : Int)) (l.length : Int)) * (53 : Int))))) ∧ True ∧ True) (by kernel_rfl) (by kernel_rfl)
    ⟨tt,tt,tt,tt,tt,tt,tt,tt,tt,tt,⟨tt,tt,(by omega)⟩,⟨tt,tt,(by omega),(by omega)⟩,tt,⟨tt,(by exact fits_i64 (by (first | omega | (simp only [List.length_set]; done) | (simp only [List.length_append,List.length_cons,List.length_nil,List.length_take,List.length_drop,List.length_set,List.length_replicate,List.length_map] at *; omega) | assumption)) (by (first | omega | (simp only [List.length_set]; done) | (simp only [List.length_append,List.length_cons,List.length_nil,List.length_take,List.length_drop,List.length_set,List.length_replicate,List.length_map] at *; omega) | assumption)))⟩,⟨tt,tt,(by exact fits_i64 (by (first | omega | (simp only [List.length_set]; done) | (simp only [List.length_append,List.length_cons,List.length_nil,List.length_take,List.length_drop,List.length_set,List.length_replicate,List.length_map] at *; omega) | assumption)) (by (first | omega | (simp only [List.length_set]; done) | (simp only [List.length_append,List.length_cons,List.length_nil,List.length_take,List.length_drop,List.length_set,List.length_replicate,List.length_map] at *; omega) | assumption)))⟩,tt,tt,tt,tt,tt,⟨tt,tt,(by exact fits_i64 (by omega) (by omega))⟩,⟨tt,tt,(by exact fits_i64 (by omega) (by omega))⟩,tt,tt,tt,tt,tt,⟨tt,tt,(by omega)⟩,⟨tt,tt,(by omega),(by omega)⟩,tt,⟨tt,(by exact fits_i64 (by (first | omega | (simp only [List.length_set]; done) | (simp only [List.length_append,List.length_cons,List.length_nil,List.length_take,List.length_drop,List.length_set,List.length_replicate,List.length_map] at *; omega) | assumption)) (by (first | omega | (simp only [List.length_set]; done) | (simp only [List.length_append,List.length_cons,List.length_nil,List.length_take,List.length_drop,List.length_set,List.length_replicate,List.length_map] at *; omega) | assumption)))⟩,⟨tt,tt,(by exact fits_i64 (by (first | omega | (simp only [List.length_set]; done) | (simp only [List.length_append,List.length_cons,List.length_nil,List.length_take,List.length_drop,List.length_set,List.length_replicate,List.length_map] at *; omega) | assumption)) (by (first | omega | (simp only [List.length_set]; done) | (simp only [List.length_append,List.length_cons,List.length_nil,List.length_take,List.length_drop,List.length_set,List.length_replicate,List.length_map] at *; omega) | assumption)))⟩,⟨tt,tt,(by exact fits_i64 (by (first | omega | (simp only [List.length_set]; done) | (simp only [List.length_append,List.length_cons,List.length_nil,List.length_take,List.length_drop,List.length_set,List.length_replicate,List.length_map] at *; omega) | assumption)) (by (first | omega | (simp only [List.length_set]; done) | (simp only [List.length_append,List.length_cons,List.length_nil,List.length_take,List.length_drop,List.length_set,List.length_replicate,List.length_map] at *; omega) | assumption)))⟩,tt,⟨tt,tt,(by exact fits_i64 (by omega) (by omega))⟩,⟨tt,tt,(by exact fits_i64 (by (first | omega | (simp only [List.length_set]; done) | (simp only [List.length_append,List.length_cons,List.length_nil,List.length_take,List.length_drop,List.length_set,List.length_replicate,List.length_map] at *; omega) | assumption)) (by (first | omega | (simp only [List.length_set]; done) | (simp only [List.length_append,List.length_cons,List.length_nil,List.length_take,List.length_drop,List.length_set,List.length_replicate,List.length_map] at *; omega) | assumption)))⟩,tt,tt,tt,tt,tt,tt,⟨tt,tt,(by omega),(by exact fits_i64 (by omega) (by omega))⟩,⟨tt,tt,(by exact fits_i64 (by omega) (by omega))⟩,⟨tt,tt,(by exact fits_i64 (by (first | omega | (simp only [List.length_set]; done) | (simp only [List.length_append,List.length_cons,List.length_nil,List.length_take,List.length_drop,List.length_set,List.length_replicate,List.length_map] at *; omega) | assumption)) (by (first | omega | (simp only [List.length_set]; done) | (simp only [List.length_append,List.length_cons,List.length_nil,List.length_take,List.length_drop,List.length_set,List.length_replicate,List.length_map] at *; omega) | assumption)))⟩,tt,tt⟩ ?_
   refine Kk cok tab34 hnt [] [1,6] (⟨[(1,.i n),(6,.i (bitsI .xor .i64 (((((((UInt8.toNat (l.getD (Int.toNat (Int.tmod ((p + (1 : Int)) - (1 : Int)) (l.length : Int))) default)) : Nat) : Int) * (131 : Int)) + ((((UInt8.toNat (l.getD (Int.toNat (Int.tmod ((((p + (1 : Int)) - (1 : Int)) * (7 : Int)) + (3 : Int)) (l.length : Int))) default)) : Nat) : Int) * (1117 : Int))) + (((p + (1 : Int)) - (1 : Int)) * (29 : Int))) + ((Int.tdiv ((p + (1 : Int)) - (1 : Int)) (l.length : Int)) * (53 : Int))) (Int.tdiv (((((((UInt8.toNat (l.getD (Int.toNat (Int.tmod ((p + (1 : Int)) - (1 : Int)) (l.length : Int))) default)) : Nat) : Int) * (131 : Int)) + ((((UInt8.toNat (l.getD (Int.toNat (Int.tmod ((((p + (1 : Int)) - (1 : Int)) * (7 : Int)) + (3 : Int)) (l.length : Int))) default)) : Nat) : Int) * (1117 : Int))) + (((p + (1 : Int)) - (1 : Int)) * (29 : Int))) + ((Int.tdiv ((p + (1 : Int)) - (1 : Int)) (l.length : Int)) * (53 : Int))) (64 : Int))))],[(998,⟨68,.fix [.sl (.bytes l),.i (p + (1 : Int))]⟩)],[998,999]⟩)
    (True ∧ True ∧ (True ∧ True ∧ ((64 : Int) ≠ 0) ∧ (Fits .i64 (Int.tdiv (((((((UInt8.toNat (l.getD (Int.toNat (Int.tmod ((p + (1 : Int)) - (1 : Int)) (l.length : Int))) default)) : Nat) : Int) * (131 : Int)) + ((((UInt8.toNat (l.getD (Int.toNat (Int.tmod ((((p + (1 : Int)) - (1 : Int)) * (7 : Int)) + (3 : Int)) (l.length : Int))) default)) : Nat) : Int) * (1117 : Int))) + (((p + (1 : Int)) - (1 : Int)) * (29 : Int))) + ((Int.tdiv ((p + (1 : Int)) - (1 : Int)) (l.length : Int)) * (53 : Int))) (64 : Int)))) ∧ (True ∧ True ∧ True) ∧ True ∧ True)
    ⟨tt,tt,⟨tt,tt,(by decide),(by exact fits_i64 (Int.le_trans (by omega) (Int.tdiv_nonneg (by omega) (by omega))) (Int.le_trans (Int.tdiv_le_self _ (by omega)) (by omega)))⟩,⟨tt,tt,tt⟩,tt,tt⟩ ?_
   refine Kk cok tab34 hnt [] [4] (⟨[(4,.i (Int.tmod (bitsI .xor .i64 (((((((UInt8.toNat (l.getD (Int.toNat (Int.tmod ((p + (1 : Int)) - (1 : Int)) (l.length : Int))) default)) : Nat) : Int) * (131 : Int)) + ((((UInt8.toNat (l.getD (Int.toNat (Int.tmod ((((p + (1 : Int)) - (1 : Int)) * (7 : Int)) + (3 : Int)) (l.length : Int))) default)) : Nat) : Int) * (1117 : Int))) + (((p + (1 : Int)) - (1 : Int)) * (29 : Int))) + ((Int.tdiv ((p + (1 : Int)) - (1 : Int)) (l.length : Int)) * (53 : Int))) (Int.tdiv (((((((UInt8.toNat (l.getD (Int.toNat (Int.tmod ((p + (1 : Int)) - (1 : Int)) (l.length : Int))) default)) : Nat) : Int) * (131 : Int)) + ((((UInt8.toNat (l.getD (Int.toNat (Int.tmod ((((p + (1 : Int)) - (1 : Int)) * (7 : Int)) + (3 : Int)) (l.length : Int))) default)) : Nat) : Int) * (1117 : Int))) + (((p + (1 : Int)) - (1 : Int)) * (29 : Int))) + ((Int.tdiv ((p + (1 : Int)) - (1 : Int)) (l.length : Int)) * (53 : Int))) (64 : Int))) n))],[(998,⟨68,.fix [.sl (.bytes l),.i (p + (1 : Int))]⟩)],[998,999]⟩)
    (True ∧ True ∧ (True ∧ True ∧ (n ≠ 0)) ∧ True ∧ True)
    ⟨tt,tt,⟨tt,tt,(by omega)⟩,tt,tt⟩ ?_
   refine W.ret ?_
   exact endP_ret ((Int.tmod (bitsI .xor .i64 (((((((UInt8.toNat (l.getD (Int.toNat (Int.tmod ((p + (1 : Int)) - (1 : Int)) (l.length : Int))) default)) : Nat) : Int) * (131 : Int)) + ((((UInt8.toNat (l.getD (Int.toNat (Int.tmod ((((p + (1 : Int)) - (1 : Int)) * (7 : Int)) + (3 : Int)) (l.length : Int))) default)) : Nat) : Int) * (1117 : Int))) + (((p + (1 : Int)) - (1 : Int)) * (29 : Int))) + ((Int.tdiv ((p + (1 : Int)) - (1 : Int)) (l.length : Int)) * (53 : Int))) (Int.tdiv (((((((UInt8.toNat (l.getD (Int.toNat (Int.tmod ((p + (1 : Int)) - (1 : Int)) (l.length : Int))) default)) : Nat) : Int) * (131 : Int)) + ((((UInt8.toNat (l.getD (Int.toNat (Int.tmod ((((p + (1 : Int)) - (1 : Int)) * (7 : Int)) + (3 : Int)) (l.length : Int))) default)) : Nat) : Int) * (1117 : Int))) + (((p + (1 : Int)) - (1 : Int)) * (29 : Int))) + ((Int.tdiv ((p + (1 : Int)) - (1 : Int)) (l.length : Int)) * (53 : Int))) (64 : Int))) n),(p + (1 : Int))) (show (0 ≤ (Int.tmod (bitsI .xor .i64 (((((((UInt8.toNat (l.getD (Int.toNat (Int.tmod ((p + (1 : Int)) - (1 : Int)) (l.length : Int))) default)) : Nat) : Int) * (131 : Int)) + ((((UInt8.toNat (l.getD (Int.toNat (Int.tmod ((((p + (1 : Int)) - (1 : Int)) * (7 : Int)) + (3 : Int)) (l.length : Int))) default)) : Nat) : Int) * (1117 : Int))) + (((p + (1 : Int)) - (1 : Int)) * (29 : Int))) + ((Int.tdiv ((p + (1 : Int)) - (1 : Int)) (l.length : Int)) * (53 : Int))) (Int.tdiv (((((((UInt8.toNat (l.getD (Int.toNat (Int.tmod ((p + (1 : Int)) - (1 : Int)) (l.length : Int))) default)) : Nat) : Int) * (131 : Int)) + ((((UInt8.toNat (l.getD (Int.toNat (Int.tmod ((((p + (1 : Int)) - (1 : Int)) * (7 : Int)) + (3 : Int)) (l.length : Int))) default)) : Nat) : Int) * (1117 : Int))) + (((p + (1 : Int)) - (1 : Int)) * (29 : Int))) + ((Int.tdiv ((p + (1 : Int)) - (1 : Int)) (l.length : Int)) * (53 : Int))) (64 : Int))) n) ∧ (Int.tmod (bitsI .xor .i64 (((((((UInt8.toNat (l.getD (Int.toNat (Int.tmod ((p + (1 : Int)) - (1 : Int)) (l.length : Int))) default)) : Nat) : Int) * (131 : Int)) + ((((UInt8.toNat (l.getD (Int.toNat (Int.tmod ((((p + (1 : Int)) - (1 : Int)) * (7 : Int)) + (3 : Int)) (l.length : Int))) default)) : Nat) : Int) * (1117 : Int))) + (((p + (1 : Int)) - (1 : Int)) * (29 : Int))) + ((Int.tdiv ((p + (1 : Int)) - (1 : Int)) (l.length : Int)) * (53 : Int))) (Int.tdiv (((((((UInt8.toNat (l.getD (Int.toNat (Int.tmod ((p + (1 : Int)) - (1 : Int)) (l.length : Int))) default)) : Nat) : Int) * (131 : Int)) + ((((UInt8.toNat (l.getD (Int.toNat (Int.tmod ((((p + (1 : Int)) - (1 : Int)) * (7 : Int)) + (3 : Int)) (l.length : Int))) default)) : Nat) : Int) * (1117 : Int))) + (((p + (1 : Int)) - (1 : Int)) * (29 : Int))) + ((Int.tdiv ((p + (1 : Int)) - (1 : Int)) (l.length : Int)) * (53 : Int))) (64 : Int))) n) < max n 1) ∧ ((p + (1 : Int)) = p + 1) from ⟨(by exact ⟨Int.tmod_nonneg _ (xor_nonneg (by omega) (Int.tdiv_nonneg (by omega) (by omega)) (by omega) (Int.le_trans (Int.tdiv_le_self _ (by omega)) (by omega))),by refine Int.lt_of_lt_of_le (Int.tmod_lt_of_pos _ (show 0 < n by omega)) (by omega)⟩),(by first | assumption | omega | rfl | (simp; done) | (simp; omega))⟩) [(0,998)] (.i (Int.tmod (bitsI .xor .i64 (((((((UInt8.toNat (l.getD (Int.toNat (Int.tmod ((p + (1 : Int)) - (1 : Int)) (l.length : Int))) default)) : Nat) : Int) * (131 : Int)) + ((((UInt8.toNat (l.getD (Int.toNat (Int.tmod ((((p + (1 : Int)) - (1 : Int)) * (7 : Int)) + (3 : Int)) (l.length : Int))) default)) : Nat) : Int) * (1117 : Int))) + (((p + (1 : Int)) - (1 : Int)) * (29 : Int))) + ((Int.tdiv ((p + (1 : Int)) - (1 : Int)) (l.length : Int)) * (53 : Int))) (Int.tdiv (((((((UInt8.toNat (l.getD (Int.toNat (Int.tmod ((p + (1 : Int)) - (1 : Int)) (l.length : Int))) default)) : Nat) : Int) * (131 : Int)) + ((((UInt8.toNat (l.getD (Int.toNat (Int.tmod ((((p + (1 : Int)) - (1 : Int)) * (7 : Int)) + (3 : Int)) (l.length : Int))) default)) : Nat) : Int) * (1117 : Int))) + (((p + (1 : Int)) - (1 : Int)) * (29 : Int))) + ((Int.tdiv ((p + (1 : Int)) - (1 : Int)) (l.length : Int)) * (53 : Int))) (64 : Int))) n)) (by kernel_rfl) (@cast ((Si (Int.tmod (bitsI .xor .i64 (((((((UInt8.toNat (l.getD (Int.toNat (Int.tmod ((p + (1 : Int)) - (1 : Int)) (l.length : Int))) default)) : Nat) : Int) * (131 : Int)) + ((((UInt8.toNat (l.getD (Int.toNat (Int.tmod ((((p + (1 : Int)) - (1 : Int)) * (7 : Int)) + (3 : Int)) (l.length : Int))) default)) : Nat) : Int) * (1117 : Int))) + (((p + (1 : Int)) - (1 : Int)) * (29 : Int))) + ((Int.tdiv ((p + (1 : Int)) - (1 : Int)) (l.length : Int)) * (53 : Int))) (Int.tdiv (((((((UInt8.toNat (l.getD (Int.toNat (Int.tmod ((p + (1 : Int)) - (1 : Int)) (l.length : Int))) default)) : Nat) : Int) * (131 : Int)) + ((((UInt8.toNat (l.getD (Int.toNat (Int.tmod ((((p + (1 : Int)) - (1 : Int)) * (7 : Int)) + (3 : Int)) (l.length : Int))) default)) : Nat) : Int) * (1117 : Int))) + (((p + (1 : Int)) - (1 : Int)) * (29 : Int))) + ((Int.tdiv ((p + (1 : Int)) - (1 : Int)) (l.length : Int)) * (53 : Int))) (64 : Int))) n)) ∧ ((((68 : Nat) = 68) ∧ ((Sd (.bytes l)) ∧ (Si (p + (1 : Int))) ∧ True) ∧ ((0 : Nat) ∈ ([0] : List Nat))) ∧ True) ∧ (true = true) ∧ ((([] : List Nat) = []) ∧ True) ∧ (true = true → (998 : Nat) = 998)) _ (by kernel_rfl) ⟨rfl,⟨⟨rfl,⟨rfl,rfl,tt⟩,(by decide)⟩,tt⟩,rfl,⟨rfl,tt⟩,(fun _ => rfl)⟩)
theorem ent34 : Entr prog 34 := ⟨_,func34,rfl,by decide⟩
end Go.Proofs.Tryd

set_option linter.unusedSimpArgs false
set_option linter.unusedVariables false
namespace Go.Proofs.Tryd
open Go.Ab Go.RowKit
def pre52 : List AV → List AV → Prop := preP [.strs] [.bytes,.int] (fun (xs,_) (l,p,_) => (0 ≤ p ∧ p ≤ 1000000) ∧ (0 < xs.length) ∧ (xs.length ≤ 1000))
def rel52 : RelS := relP [.strs] [.bytes,.int] (ι := ByteArray × Int) (fun (xs,_) (l,p,_) (v,q) => (v ∈ xs) ∧ (q = p + 1)) (fun (xs,_) (l,p,_) (v,q) => (.v (.string v),[],[.sl (.bytes l),.i q]))
abbrev T52 : Tab := lk []
theorem tab52 : TabOK prog T52 := TabOK.nil
set_option maxRecDepth 100000 in
set_option maxHeartbeats 1000000 in
theorem rok52 : RelOK prog 52 (some 68) [.s .strs] pre52 rel52 := by
 refine RelOK.mk cok func52 rfl rfl rfl ?_
 rintro ⟨(xs : List ByteArray),_⟩ ⟨(l : List UInt8),(p : Int),_⟩ hpre F hnt0
 have hnt : F.nt = 12 := hnt0.trans ntmps52
 replace hpre : (0 ≤ p ∧ p ≤ 1000000) ∧ (0 < xs.length) ∧ (xs.length ≤ 1000) := hpre
 obtain ⟨hp,hx,hx2⟩ := hpre
 refine W.to (⟨[(0,.ptr 998 0),(1,.sl (.strs xs))],[(998,⟨68,.fix [.sl (.bytes l),.i p]⟩)],[998,999]⟩) rfl ?_
 refine Kk cok tab52 hnt [] [0,1] (⟨[(0,.ptr 998 0),(1,.sl (.strs xs))],[(998,⟨68,.fix [.sl (.bytes l),.i p]⟩)],[998,999]⟩)
  (True ∧ True)
  ⟨tt,tt⟩ ?_
 refine W.seq (W.wi ?_)
 refine WI.runT cok tab52 hnt [] 4 4 (⟨[(0,.ptr 998 0),(1,.sl (.strs xs)),(5,.sl (.strs xs)),(6,.ptr 998 0),(7,.sl (.strs xs)),(8,.i (xs.length : Int))],[(998,⟨68,.fix [.sl (.bytes l),.i p]⟩)],[998,999]⟩)
  (True ∧ True ∧ True ∧ True ∧ True) (by kernel_rfl) rfl
  ⟨tt,tt,tt,tt,tt⟩ ?_
 refine WI.call [.ptr 998 0,.i (xs.length : Int)] [.sl (.bytes l),.i p] [.i (xs.length : Int)] [.i (xs.length : Int)] (some (68,998)) (True) (True ∧ True) none rok34 ent34 hnt rfl rfl (wanted_none rfl) (by kernel_rfl) (by kernel_rfl) (by kernel_rfl) ⟨tt,tt,tt⟩
  (@cast (0 ≤ p ∧ p ≤ 1000000) _ (by kernel_rfl) (by omega)) (Or.inl rfl) rfl ?_
 rintro r bl fx2 hR
 obtain ⟨⟨v9,q9⟩,hq9,rfl,rfl,rfl⟩ := (@cast _ (∃ x : Int × Int,((0 ≤ x.1 ∧ x.1 < max (xs.length : Int) 1) ∧ (x.2 = p + 1)) ∧ r = (.i x.1) ∧ bl = ([]) ∧ fx2 = ([.sl (.bytes l),.i x.2])) (by kernel_rfl) hR)
 clear hR
 replace hq9 : (0 ≤ v9 ∧ v9 < max (xs.length : Int) 1) ∧ (q9 = p + 1) := hq9
 obtain ⟨hv9,hq19⟩ := hq9
 refine ⟨by kernel_rfl,WI.to (⟨[(0,.ptr 998 0),(1,.sl (.strs xs)),(5,.sl (.strs xs)),(6,.ptr 998 0),(7,.sl (.strs xs)),(8,.i (xs.length : Int)),(9,.i v9)],[(998,⟨68,.fix [.sl (.bytes l),.i q9]⟩)],[9,998,999]⟩) 5 (by kernel_rfl) rfl ?_⟩
 refine WI.runT cok tab52 hnt [] 3 8 (⟨[(0,.ptr 998 0),(1,.sl (.strs xs)),(4,.v (.string (xs.getD (Int.toNat v9) default))),(5,.sl (.strs xs)),(6,.ptr 998 0),(7,.sl (.strs xs)),(8,.i (xs.length : Int)),(9,.i v9),(10,.ep [.v (.string (xs.getD (Int.toNat v9) default))]),(11,.v (.string (xs.getD (Int.toNat v9) default)))],[(998,⟨68,.fix [.sl (.bytes l),.i q9]⟩)],[9,998,999]⟩)
  ((True ∧ True ∧ (0 ≤ v9) ∧ (v9 < (xs.length : Int))) ∧ True ∧ True ∧ True) (by kernel_rfl) rfl
  ⟨⟨tt,tt,(by omega),(by omega)⟩,tt,tt,tt⟩ ?_
 refine WI.nil rfl (thenQ_normal ?_)
 refine W.keepE [4] [(4,.v (.string (xs.getD (Int.toNat v9) default)))] (by kernel_rfl) ?_
 refine W.to (⟨[(4,.v (.string (xs.getD (Int.toNat v9) default)))],[(998,⟨68,.fix [.sl (.bytes l),.i q9]⟩)],[9,998,999]⟩) rfl ?_
 refine W.ret ?_
 exact endP_ret ((xs.getD (Int.toNat v9) default),q9) (show ((xs.getD (Int.toNat v9) default) ∈ xs) ∧ (q9 = p + 1) from ⟨(by exact getD_mem xs default (by omega)),(by first | assumption | omega | rfl | (simp; done) | (simp; omega))⟩) [(0,998)] (.v (.string (xs.getD (Int.toNat v9) default))) (by kernel_rfl) (@cast ((((.string (xs.getD (Int.toNat v9) default)) : Value) = (.string (xs.getD (Int.toNat v9) default))) ∧ ((((68 : Nat) = 68) ∧ ((Sd (.bytes l)) ∧ (Si q9) ∧ True) ∧ ((0 : Nat) ∈ ([0] : List Nat))) ∧ True) ∧ (true = true) ∧ ((([] : List Nat) = []) ∧ True) ∧ (true = true → (998 : Nat) = 998)) _ (by kernel_rfl) ⟨rfl,⟨⟨rfl,⟨rfl,rfl,tt⟩,(by decide)⟩,tt⟩,rfl,⟨rfl,tt⟩,(fun _ => rfl)⟩)
theorem ent52 : Entr prog 52 := ⟨_,func52,rfl,by decide⟩
end Go.Proofs.Tryd

set_option linter.unusedSimpArgs false
set_option linter.unusedVariables false
namespace Go.Proofs.Tryd
open Go.Ab Go.RowKit
def pre33 : List AV → List AV → Prop := preP [] [.bytes,.int] (fun _ (l,p,_) => (0 ≤ p ∧ p ≤ 1000000))
def rel33 : RelS := relP [] [.bytes,.int] (ι := ByteArray × Int) (fun _ (l,p,_) (v,q) => (q = p + 1)) (fun _ (l,p,_) (v,q) => (.v (.string v),[],[.sl (.bytes l),.i q]))
abbrev T33 : Tab := lk []
theorem tab33 : TabOK prog T33 := TabOK.nil
set_option maxRecDepth 100000 in
set_option maxHeartbeats 1000000 in
theorem rok33 : RelOK prog 33 (some 68) [] pre33 rel33 := by
 refine RelOK.mk cok func33 rfl rfl rfl ?_
 rintro _ ⟨(l : List UInt8),(p : Int),_⟩ hpre F hnt0
 have hnt : F.nt = 6 := hnt0.trans ntmps33
 replace hpre : (0 ≤ p ∧ p ≤ 1000000) := hpre
 have hp := hpre
 refine W.to (⟨[(0,.ptr 998 0)],[(998,⟨68,.fix [.sl (.bytes l),.i p]⟩)],[998,999]⟩) rfl ?_
 refine Kk cok tab33 hnt [] [0] (⟨[(0,.ptr 998 0)],[(998,⟨68,.fix [.sl (.bytes l),.i p]⟩)],[998,999]⟩)
  (True ∧ True)
  ⟨tt,tt⟩ ?_
 refine W.seq (W.wi ?_)
 refine WI.runT cok tab33 hnt [] 2 2 (⟨[(0,.ptr 998 0),(3,.ptr 998 0),(4,.sl (.strs ([nRegister,nQueue,nStack,nCounter,nSet,nMost,nRegister,nQueue,nStack,nCounter,nSet,nEmpty])))],[(998,⟨68,.fix [.sl (.bytes l),.i p]⟩)],[4,998,999]⟩)
  (True ∧ (True ∧ True ∧ True ∧ True ∧ True ∧ True ∧ True ∧ True ∧ True ∧ True ∧ True ∧ True ∧ True) ∧ True) (by kernel_rfl) rfl
  ⟨tt,⟨tt,tt,tt,tt,tt,tt,tt,tt,tt,tt,tt,tt,tt⟩,tt⟩ ?_
 refine WI.call [.ptr 998 0,.sl (.strs ([nRegister,nQueue,nStack,nCounter,nSet,nMost,nRegister,nQueue,nStack,nCounter,nSet,nEmpty]))] [.sl (.bytes l),.i p] [.sl (.strs ([nRegister,nQueue,nStack,nCounter,nSet,nMost,nRegister,nQueue,nStack,nCounter,nSet,nEmpty]))] [.sl (.strs ([nRegister,nQueue,nStack,nCounter,nSet,nMost,nRegister,nQueue,nStack,nCounter,nSet,nEmpty]))] (some (68,998)) (True) (True ∧ True) none rok52 ent52 hnt rfl rfl (wanted_none rfl) (by kernel_rfl) (by kernel_rfl) (by kernel_rfl) ⟨tt,tt,tt⟩
  (@cast ((0 ≤ p ∧ p ≤ 1000000) ∧ (0 < ([nRegister,nQueue,nStack,nCounter,nSet,nMost,nRegister,nQueue,nStack,nCounter,nSet,nEmpty]).length) ∧ (([nRegister,nQueue,nStack,nCounter,nSet,nMost,nRegister,nQueue,nStack,nCounter,nSet,nEmpty]).length ≤ 1000)) _ (by kernel_rfl) ⟨(by omega),⟨(by (first | omega | (simp only [List.length_set]; done) | (simp only [List.length_append,List.length_cons,List.length_nil,List.length_take,List.length_drop,List.length_set,List.length_replicate,List.length_map] at *; omega) | assumption)),(by (first | omega | (simp only [List.length_set]; done) | (simp only [List.length_append,List.length_cons,List.length_nil,List.length_take,List.length_drop,List.length_set,List.length_replicate,List.length_map] at *; omega) | assumption))⟩⟩) (Or.inl rfl) rfl ?_
 rintro r bl fx2 hR
 obtain ⟨⟨v5,q5⟩,hq5,rfl,rfl,rfl⟩ := (@cast _ (∃ x : ByteArray × Int,((x.1 ∈ ([nRegister,nQueue,nStack,nCounter,nSet,nMost,nRegister,nQueue,nStack,nCounter,nSet,nEmpty])) ∧ (x.2 = p + 1)) ∧ r = (.v (.string x.1)) ∧ bl = ([]) ∧ fx2 = ([.sl (.bytes l),.i x.2])) (by kernel_rfl) hR)
 clear hR
 replace hq5 : (v5 ∈ ([nRegister,nQueue,nStack,nCounter,nSet,nMost,nRegister,nQueue,nStack,nCounter,nSet,nEmpty])) ∧ (q5 = p + 1) := hq5
 obtain ⟨hv5,hq15⟩ := hq5
 simp only [List.mem_cons,List.not_mem_nil,or_false] at hv5
 refine ⟨by kernel_rfl,WI.to (⟨[(0,.ptr 998 0),(3,.ptr 998 0),(4,.sl (.strs ([nRegister,nQueue,nStack,nCounter,nSet,nMost,nRegister,nQueue,nStack,nCounter,nSet,nEmpty]))),(5,.v (.string v5))],[(998,⟨68,.fix [.sl (.bytes l),.i q5]⟩)],[5,4,998,999]⟩) 3 (by kernel_rfl) rfl ?_⟩
 refine WI.runT cok tab33 hnt [] 1 4 (⟨[(0,.ptr 998 0),(2,.v (.string v5)),(3,.ptr 998 0),(4,.sl (.strs ([nRegister,nQueue,nStack,nCounter,nSet,nMost,nRegister,nQueue,nStack,nCounter,nSet,nEmpty]))),(5,.v (.string v5))],[(998,⟨68,.fix [.sl (.bytes l),.i q5]⟩)],[5,4,998,999]⟩)
  (True ∧ True) (by kernel_rfl) rfl
  ⟨tt,tt⟩ ?_
 refine WI.nil rfl (thenQ_normal ?_)
 refine W.keepE [2] [(2,.v (.string v5))] (by kernel_rfl) ?_
 refine W.to (⟨[(2,.v (.string v5))],[(998,⟨68,.fix [.sl (.bytes l),.i q5]⟩)],[5,4,998,999]⟩) rfl ?_
 refine W.ret ?_
 exact endP_ret (v5,q5) (show (q5 = p + 1) from (by first | assumption | omega | rfl | (simp; done) | (simp; omega))) [(0,998)] (.v (.string v5)) (by kernel_rfl) (@cast ((((.string v5) : Value) = (.string v5)) ∧ ((((68 : Nat) = 68) ∧ ((Sd (.bytes l)) ∧ (Si q5) ∧ True) ∧ ((0 : Nat) ∈ ([0] : List Nat))) ∧ True) ∧ (true = true) ∧ ((([] : List Nat) = []) ∧ True) ∧ (true = true → (998 : Nat) = 998)) _ (by kernel_rfl) ⟨rfl,⟨⟨rfl,⟨rfl,rfl,tt⟩,(by decide)⟩,tt⟩,rfl,⟨rfl,tt⟩,(fun _ => rfl)⟩)
theorem ent33 : Entr prog 33 := ⟨_,func33,rfl,by decide⟩
end Go.Proofs.Tryd

set_option linter.unusedSimpArgs false
set_option linter.unusedVariables false
namespace Go.Proofs.Tryd
open Go.Ab Go.RowKit
def fs67 : FnS := fnS [.o] [.str] (fun _ (s,_) => (.b (isObject s),[],True))
abbrev T67 : Tab := lk []
theorem tab67 : TabOK prog T67 := TabOK.nil
set_option maxRecDepth 100000 in
set_option maxHeartbeats 1000000 in
theorem ok67 : FnOK prog 67 fs67 := by
 refine FnOK.mk cok func67 rfl rfl rfl ?_
 rintro fl ⟨(s : ByteArray),_⟩ hpre F hnt0 _
 have hnt : F.nt = 25 := hnt0.trans ntmps67
 clear hpre
 refine W.to (⟨[(0,.v (.string s))],[],[999]⟩) rfl ?_
 refine Kk cok tab67 hnt [] [0] (⟨[(0,.v (.string s))],[],[999]⟩)
  (True ∧ True)
  ⟨tt,tt⟩ ?_
 refine Kk cok tab67 hnt [] [2] (⟨[(2,.b ((((((eqS s nRegister) || (eqS s nQueue)) || (eqS s nStack)) || (eqS s nCounter)) || (eqS s nSet)) || (eqS s nMost)))],[],[999]⟩)
  ((fun (Z1:Bool)=>((fun (Z2:Bool)=>((fun (Z3:Bool)=>((fun (Z4:Bool)=>((fun (Z5:Bool)=>(True ∧ ((True ∧ (True ∧ True)) ∧ (True ∧ (((!Z1) = true → True) ∧ (((!Z1) = true → ((((!Z1) = true) ∧ True) ∧ (True ∧ True))) ∧ ((True ∧ ((Z1 = true → True) ∧ (Z1 = false → ((!Z1) = true) ∧ True))) ∧ (True ∧ (((!Z2) = true → True) ∧ (((!Z2) = true → ((((!Z2) = true) ∧ True) ∧ (True ∧ True))) ∧ ((True ∧ ((Z2 = true → True) ∧ (Z2 = false → ((!Z2) = true) ∧ True))) ∧ (True ∧ (((!Z3) = true → True) ∧ (((!Z3) = true → ((((!Z3) = true) ∧ True) ∧ (True ∧ True))) ∧ ((True ∧ ((Z3 = true → True) ∧ (Z3 = false → ((!Z3) = true) ∧ True))) ∧ (True ∧ (((!Z4) = true → True) ∧ (((!Z4) = true → ((((!Z4) = true) ∧ True) ∧ (True ∧ True))) ∧ ((True ∧ ((Z4 = true → True) ∧ (Z4 = false → ((!Z4) = true) ∧ True))) ∧ (True ∧ (((!Z5) = true → True) ∧ (((!Z5) = true → ((((!Z5) = true) ∧ True) ∧ (True ∧ True))) ∧ ((True ∧ ((Z5 = true → True) ∧ (Z5 = false → ((!Z5) = true) ∧ True))) ∧ (True ∧ True)))))))))))))))))))))))) (Z4 || (eqS s nSet)))) (Z3 || (eqS s nCounter)))) (Z2 || (eqS s nStack)))) (Z1 || (eqS s nQueue)))) (eqS s nRegister))
  ⟨tt,⟨tt,tt,tt⟩,tt,(fun _ => trivial),(fun hG => ⟨⟨hG,tt⟩,tt,tt⟩),⟨tt,(fun _ => trivial),(fun hp => ⟨(not_t hp),tt⟩)⟩,tt,(fun _ => trivial),(fun hG => ⟨⟨hG,tt⟩,tt,tt⟩),⟨tt,(fun _ => trivial),(fun hp => ⟨(not_t hp),tt⟩)⟩,tt,(fun _ => trivial),(fun hG => ⟨⟨hG,tt⟩,tt,tt⟩),⟨tt,(fun _ => trivial),(fun hp => ⟨(not_t hp),tt⟩)⟩,tt,(fun _ => trivial),(fun hG => ⟨⟨hG,tt⟩,tt,tt⟩),⟨tt,(fun _ => trivial),(fun hp => ⟨(not_t hp),tt⟩)⟩,tt,(fun _ => trivial),(fun hG => ⟨⟨hG,tt⟩,tt,tt⟩),⟨tt,(fun _ => trivial),(fun hp => ⟨(not_t hp),tt⟩)⟩,tt,tt⟩ ?_
 refine W.ret ?_
 exact endQ_ret (.b ((((((eqS s nRegister) || (eqS s nQueue)) || (eqS s nStack)) || (eqS s nCounter)) || (eqS s nSet)) || (eqS s nMost))) (by kernel_rfl) (@cast ((.bool ((((((eqS s nRegister) || (eqS s nQueue)) || (eqS s nStack)) || (eqS s nCounter)) || (eqS s nSet)) || (eqS s nMost)) : Value) = .bool (isObject s)) _ (by kernel_rfl) (congrArg Value.bool (by first | rfl | simp_all)))
theorem ent67 : Entr prog 67 := ⟨_,func67,rfl,by decide⟩
end Go.Proofs.Tryd

set_option linter.unusedSimpArgs false
set_option linter.unusedVariables false
namespace Go.Proofs.Tryd
open Go.Ab Go.RowKit
def fs83 : FnS := fnS [.s .ints,.o] [.ints,.int] (fun _ (l,n,_) => (.b (hasInt l n),[],True))
abbrev T83 : Tab := lk []
theorem tab83 : TabOK prog T83 := TabOK.nil
set_option maxRecDepth 100000 in
set_option maxHeartbeats 1000000 in
theorem ok83 : FnOK prog 83 fs83 := by
 refine FnOK.mk cok func83 rfl rfl rfl ?_
 rintro fl ⟨(l : List Int),(n : Int),_⟩ hpre F hnt0 _
 have hnt : F.nt = 18 := hnt0.trans ntmps83
 clear hpre
 refine W.to (⟨[(0,.sl (.ints l)),(1,.i n)],[],[999]⟩) rfl ?_
 refine W.lenOf 0 (.ints l) (by kernel_rfl) ?_
 intro hl_l; replace hl_l : List.length l ≤ 9223372036854775807 := hl_l
 refine Kk cok tab83 hnt [] [0,1] (⟨[(0,.sl (.ints l)),(1,.i n)],[],[999]⟩)
  (True ∧ True)
  ⟨tt,tt⟩ ?_
 refine W.seq ?_
 refine Kk cok tab83 hnt [] [0,1,5] (⟨[(0,.sl (.ints l)),(1,.i n),(5,.i (0 : Int))],[],[999]⟩)
  (True ∧ True)
  ⟨tt,tt⟩ ?_
 refine W.block ?_
 refine W.loop (ι := Nat) (fun (i : Nat) => (⟨[(0,.sl (.ints l)),(1,.i n),(5,.i ((i : Nat) : Int))],[],[999]⟩ : St))
  (fun (i : Nat) => (i ≤ l.length) ∧ (∀ j,j < i → decide (l.getD j 0 = n) = false))
  (fun (i : Nat) => (l.length - i : Nat)) (0) ?_ ?_ ?_
 ·exact (show (0 ≤ l.length) ∧ (∀ j,j < 0 → decide (l.getD j 0 = n) = false) from ⟨(by first | assumption | omega | rfl | (intro _ hjj; omega) | (simp; done) | (simp; omega)),(by exact upto_zero)⟩)
 ·exact Sub.of [] (@cast (((Sd (.ints l)) ∧ (Si n) ∧ ((.int .i64 (0 : Int) : Value) = .int .i64 ((0 : Nat) : Int)) ∧ True) ∧ True ∧ (true = true) ∧ (true = true)) _ (by kernel_rfl) ⟨⟨rfl,rfl,(congrArg (Value.int .i64) (by first | rfl | omega | assumption | simp | simp_all)),tt⟩,tt,rfl,rfl⟩)
 ·rintro i hC0
  have hC : (i ≤ l.length) ∧ (∀ j,j < i → decide (l.getD j 0 = n) = false) := hC0
  clear hC0
  obtain ⟨hi,hA⟩ := hC
  refine W.to (⟨[(0,.sl (.ints l)),(1,.i n),(5,.i ((i : Nat) : Int))],[],[999]⟩) rfl ?_
  refine W.seq ?_
  refine Kk cok tab83 hnt [] [0,1,5,9] (⟨[(0,.sl (.ints l)),(1,.i n),(5,.i ((i : Nat) : Int)),(9,.b (decide (((i : Nat) : Int) < (l.length : Int))))],[],[999]⟩)
   (True ∧ True ∧ True ∧ (True ∧ True ∧ True) ∧ True)
   ⟨tt,tt,tt,⟨tt,tt,tt⟩,tt⟩ ?_
  refine W.ifP (((i : Nat) : Int) < (l.length : Int)) (.b (decide (((i : Nat) : Int) < (l.length : Int)))) (by kernel_rfl) rfl trivial ?_ ?_
  ·intro h9
   refine W.skip (thenQ_normal ?_)
   refine W.seq ?_
   refine W.block ?_
   refine Kk cok tab83 hnt [] [0,1,5,17] (⟨[(0,.sl (.ints l)),(1,.i n),(5,.i ((i : Nat) : Int)),(17,.b (decide ((l.getD i 0) = n)))],[],[999]⟩)
    (True ∧ True ∧ (True ∧ True ∧ (0 ≤ ((i : Nat) : Int)) ∧ (((i : Nat) : Int) < (l.length : Int))) ∧ True ∧ True ∧ (True ∧ True ∧ True) ∧ True)
    ⟨tt,tt,⟨tt,tt,(by omega),(by omega)⟩,tt,tt,⟨tt,tt,tt⟩,tt⟩ ?_
   refine W.ifP ((l.getD i 0) = n) (.b (decide ((l.getD i 0) = n))) (by kernel_rfl) rfl trivial ?_ ?_
   ·intro h17
    refine Kk cok tab83 hnt [] [4] (⟨[(4,.b true)],[],[999]⟩)
     (True ∧ True)
     ⟨tt,tt⟩ ?_
    refine W.ret (blockQ_ret (thenQ_ret (thenQ_ret (blockQ_ret (thenQ_ret ?_)))))
    exact endQ_ret (.b true) (by kernel_rfl) (@cast ((.bool true : Value) = .bool (hasInt l n)) _ (by kernel_rfl) (congrArg Value.bool (by unfold hasInt; symm; exact anyN_true (i := i) (by omega) (decide_eq_true h17))))
   ·intro n17
    refine W.skip (blockQ_normal (thenQ_normal ?_))
    refine Lk cok tab83 hnt [] (⟨[(0,.sl (.ints l)),(1,.i n),(5,.i (((i + 1) : Nat) : Int)),(10,.i ((i : Nat) : Int)),(11,.i (((i + 1) : Nat) : Int)),(17,.b (decide ((l.getD i 0) = n)))],[],[999]⟩)
     (True ∧ (True ∧ True ∧ (Fits .i64 (((i + 1) : Nat) : Int))) ∧ True ∧ True)
     ⟨tt,⟨tt,tt,(by exact fits_i64 (by omega) (by omega))⟩,tt,tt⟩ ?_
    refine thenQ_normal ?_
    refine ⟨((i + 1)),(show ((i + 1) ≤ l.length) ∧ (∀ j,j < (i + 1) → decide (l.getD j 0 = n) = false) from ⟨(by first | assumption | omega | rfl | (intro _ hjj; omega) | (simp; done) | (simp; omega)),(by exact upto_succ hA (decide_eq_false n17))⟩),(show l.length - (i + 1) < l.length - i from (by first | omega | (simp_all; omega))),?_⟩
    exact Sub.of [] (@cast (((Sd (.ints l)) ∧ (Si n) ∧ (Si (((i + 1) : Nat) : Int)) ∧ True) ∧ True ∧ (true = true) ∧ (true = true)) _ (by kernel_rfl) ⟨⟨rfl,rfl,rfl,tt⟩,tt,rfl,rfl⟩)
  ·intro n9
   refine W.exit (thenQ_exit (thenQ_exit (blockQ_hit ?_)))
   refine thenQ_normal ?_
   refine Kk cok tab83 hnt [] [4] (⟨[(4,.b false)],[],[999]⟩)
    (True ∧ True)
    ⟨tt,tt⟩ ?_
   refine W.ret ?_
   exact endQ_ret (.b false) (by kernel_rfl) (@cast ((.bool false : Value) = .bool (hasInt l n)) _ (by kernel_rfl) (congrArg Value.bool (by unfold hasInt; symm; exact anyN_false (fun j hj => hA j (by omega)))))
theorem ent83 : Entr prog 83 := ⟨_,func83,rfl,by decide⟩
end Go.Proofs.Tryd
