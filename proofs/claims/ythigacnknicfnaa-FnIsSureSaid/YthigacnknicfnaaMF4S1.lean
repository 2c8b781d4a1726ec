import Derived.Test.YthigacnknicfnaaMF4S0
import Derived.Test.YthigacnknicfnaaFrameB
set_option linter.unusedSimpArgs false
set_option linter.unusedVariables false
namespace Go.Ab
theorem ve_1 {h : List EventD} {i : Nat} (hb : (!within (h.getD i default).proc 0 2 || !within (h.getD i default).kind 0 2) = true) : iAt h i = false := by
 unfold iAt pE kE
 cases h1 : within (h.getD i default).proc 0 2 <;> cases h2 : within (h.getD i default).kind 0 2 <;> rw [h1, h2] at hb <;> first | rfl | cases hb
theorem ve_ok {h : List EventD} {i : Nat} (hb : (!within (h.getD i default).proc 0 2 || !within (h.getD i default).kind 0 2) = false) : (within (pE h i) 0 2 && within (kE h i) 0 2) = true := by
 unfold pE kE
 cases h1 : within (h.getD i default).proc 0 2 <;> cases h2 : within (h.getD i default).kind 0 2 <;> rw [h1, h2] at hb <;> first | rfl | cases hb
theorem ve_2 {h : List EventD} {i : Nat} (hk : (h.getD i default).kind = 0) (hm : (h.getD i default).msg ≠ 0) : iAt h i = false := by
 unfold iAt kE mE
 rw [decide_eq_true hk, cond_true, decide_eq_false hm, Bool.and_false]
theorem ve_3 {h : List EventD} {i : Nat} (hb : (!within (h.getD i default).proc 0 2 || !within (h.getD i default).kind 0 2) = false) (hk : (h.getD i default).kind = 0) (hm : (h.getD i default).msg = 0) : iAt h i = true := by
 unfold iAt
 rw [ve_ok hb, Bool.true_and]
 unfold kE mE
 rw [decide_eq_true hk, cond_true, decide_eq_true hm]
theorem ve_p {h : List EventD} {i : Nat} (hi : i ≤ h.length) (k m : Int) : placeE (List.take i h) (List.length (List.take i h)) k m = placeE h i k m := place_take hi
theorem ve_4 {h : List EventD} {i : Nat} (hi : i ≤ h.length) (hk : ¬ (h.getD i default).kind = 0) (hb : (!within (h.getD i default).msg 0 6 || decide (0 ≤ placeE (List.take i h) (List.length (List.take i h)) (h.getD i default).kind (h.getD i default).msg)) = true) : iAt h i = false := by
 rw [ve_p hi] at hb
 unfold iAt kE mE
 rw [decide_eq_false hk, cond_false]
 have e : decide (placeE h i (h.getD i default).kind (h.getD i default).msg < 0) = !decide (0 ≤ placeE h i (h.getD i default).kind (h.getD i default).msg) := by
  rw [← decide_not]; exact decide_eq_decide.2 (by omega)
 rw [e]
 cases h1 : within (h.getD i default).msg 0 6 <;> cases h2 : decide (0 ≤ placeE h i (h.getD i default).kind (h.getD i default).msg) <;> rw [h1, h2] at hb <;> simp_all
theorem ve_5 {h : List EventD} {i : Nat} (hi : i ≤ h.length) (hk : (h.getD i default).kind = 2) (hb : (decide (placeE (List.take i h) (List.length (List.take i h)) 1 (h.getD i default).msg < 0) || decide ((h.getD (placeE (List.take i h) (List.length (List.take i h)) 1 (h.getD i default).msg).toNat default).proc = (h.getD i default).proc)) = true) : iAt h i = false := by
 rw [ve_p hi] at hb
 unfold iAt kE mE pE
 rw [decide_eq_false (show ¬ (h.getD i default).kind = 0 by omega), cond_false, decide_eq_true hk]
 have e : decide (0 ≤ placeE h i 1 (h.getD i default).msg) = !decide (placeE h i 1 (h.getD i default).msg < 0) := by
  rw [← decide_not]; exact decide_eq_decide.2 (by omega)
 have e2 : decide ((h.getD (placeE h i 1 (h.getD i default).msg).toNat default).proc ≠ (h.getD i default).proc) = !decide ((h.getD (placeE h i 1 (h.getD i default).msg).toNat default).proc = (h.getD i default).proc) := by
  rw [← decide_not]
 rw [e, e2, ← Bool.not_or, hb]
 simp
theorem ve_6 {h : List EventD} {i : Nat} (hi : i ≤ h.length) (h1 : (!within (h.getD i default).proc 0 2 || !within (h.getD i default).kind 0 2) = false) (hk : ¬ (h.getD i default).kind = 0)
  (h4 : (!within (h.getD i default).msg 0 6 || decide (0 ≤ placeE (List.take i h) (List.length (List.take i h)) (h.getD i default).kind (h.getD i default).msg)) = false)
  (h5 : ¬ (h.getD i default).kind = 2 ∨ (decide (placeE (List.take i h) (List.length (List.take i h)) 1 (h.getD i default).msg < 0) || decide ((h.getD (placeE (List.take i h) (List.length (List.take i h)) 1 (h.getD i default).msg).toNat default).proc = (h.getD i default).proc)) = false) : iAt h i = true := by
 rw [ve_p hi] at h4
 rw [ve_p hi] at h5
 unfold iAt
 rw [ve_ok h1, Bool.true_and]
 unfold kE mE pE
 rw [decide_eq_false hk, cond_false]
 rw [Bool.or_eq_false_iff, Bool.not_eq_false', decide_eq_false_iff_not] at h4
 rw [h4.1, decide_eq_true (show placeE h i (h.getD i default).kind (h.getD i default).msg < 0 by omega)]
 rcases h5 with h5 | h5
 ·rw [decide_eq_false h5]; rfl
 ·rw [Bool.or_eq_false_iff, decide_eq_false_iff_not, decide_eq_false_iff_not] at h5
  rw [decide_eq_true (show 0 ≤ placeE h i 1 (h.getD i default).msg by omega), decide_eq_true h5.2]
  simp
theorem sg_no {h : List EventD} {i : Nat} {b : Bool} (hb : (((!within (h.getD i default).proc 0 2 || !within (h.getD i default).kind 0 2) || !within (h.getD i default).msg 0 6) || (decide ((h.getD i default).kind = 0) && decide ((h.getD i default).msg ≠ 0))) = b) : sGuard h i = !b := by
 unfold sGuard pE kE mE
 rw [← hb]
 cases within (h.getD i default).proc 0 2 <;> cases within (h.getD i default).kind 0 2 <;> cases within (h.getD i default).msg 0 6 <;> cases decide ((h.getD i default).kind = 0) <;> cases decide ((h.getD i default).msg ≠ 0) <;> rfl
theorem s_no1 {h : List EventD} {i : Nat} (hb : (((!within (h.getD i default).proc 0 2 || !within (h.getD i default).kind 0 2) || !within (h.getD i default).msg 0 6) || (decide ((h.getD i default).kind = 0) && decide ((h.getD i default).msg ≠ 0))) = true) : sAt h i = false := by
 unfold sAt; rw [sg_no hb]; rfl
theorem s_no2 {h : List EventD} {i k : Nat} (hk : k < i) (hh : ((decide ((h.getD k default).kind ≠ 0) && decide ((h.getD i default).kind ≠ 0)) && decide ((h.getD k default).msg = (h.getD i default).msg)) = true) (hb : (h.getD k default).kind = (h.getD i default).kind ∨ (h.getD i default).kind = 1) : sAt h i = false := by
 have h1 : noAt h i k = false := by
  unfold noAt
  rw [show hitE h i k = true from hh]
  unfold kE
  rcases hb with hb | hb
  ·rw [decide_eq_false (show ¬ (h.getD k default).kind ≠ (h.getD i default).kind from fun e => e hb)]; rfl
  ·rw [decide_eq_false (show ¬ (h.getD i default).kind ≠ 1 from fun e => e hb), Bool.and_false]; rfl
 unfold sAt
 rw [allN_false hk h1, Bool.and_false]; rfl
theorem no_hit {h : List EventD} {i k : Nat} (hh : ((decide ((h.getD k default).kind ≠ 0) && decide ((h.getD i default).kind ≠ 0)) && decide ((h.getD k default).msg = (h.getD i default).msg)) = false) : noAt h i k = true := by
 unfold noAt
 rw [show hitE h i k = false from hh]; rfl
theorem no_yes {h : List EventD} {i k : Nat} (h1 : ¬ (h.getD k default).kind = (h.getD i default).kind) (h2 : ¬ (h.getD i default).kind = 1) : noAt h i k = true := by
 unfold noAt kE
 rw [decide_eq_true h1, decide_eq_true h2]; simp
theorem sent_hit {h : List EventD} {i k : Nat} {b : Bool} (hs : b = sentUp h i k) (hh : ((decide ((h.getD k default).kind ≠ 0) && decide ((h.getD i default).kind ≠ 0)) && decide ((h.getD k default).msg = (h.getD i default).msg)) = true) :
  (b || (decide ((h.getD k default).kind = 1) && decide ((h.getD k default).proc ≠ (h.getD i default).proc))) = sentUp h i (k + 1) := by
 rw [hs]
 simp only [sentUp]
 rw [show hitE h i k = true from hh]; rfl
theorem sent_no {h : List EventD} {i k : Nat} {b : Bool} (hs : b = sentUp h i k) (hh : ((decide ((h.getD k default).kind ≠ 0) && decide ((h.getD i default).kind ≠ 0)) && decide ((h.getD k default).msg = (h.getD i default).msg)) = false) : b = sentUp h i (k + 1) := by
 rw [hs]
 simp only [sentUp]
 rw [show hitE h i k = false from hh]; rfl
theorem s_no3 {h : List EventD} {i k : Nat} {b : Bool} (hk : k = i) (hs : b = sentUp h i k) (hb : (decide ((h.getD i default).kind = 2) && !b) = true) : sAt h i = false := by
 subst hk
 unfold sAt kE
 rw [← hs, hb, Bool.not_true, Bool.and_false]
theorem s_yes {h : List EventD} {i k : Nat} {b : Bool} (hk : k = i) (hs : b = sentUp h i k) (h1 : (((!within (h.getD i default).proc 0 2 || !within (h.getD i default).kind 0 2) || !within (h.getD i default).msg 0 6) || (decide ((h.getD i default).kind = 0) && decide ((h.getD i default).msg ≠ 0))) = false)
  (hB : ∀ j, j < k → noAt h i j = true) (hb : (decide ((h.getD i default).kind = 2) && !b) = false) : sAt h i = true := by
 subst hk
 unfold sAt
 rw [sg_no h1, allN_true hB]
 unfold kE
 rw [← hs, hb]; rfl
theorem sv_no {h : List EventD} {i : Nat} (hi : i < h.length) (hs : sAt h i = false) : false = validE h := by
 rw [← valid_s, allN_false hi hs, Bool.and_false]
theorem sv_yes {h : List EventD} {i : Nat} (hi : ¬ i < h.length) (hA : ∀ j, j < i → sAt h j = true) : decide (((h.length : Nat) : Int) ≤ 7) = validE h := by
 rw [← valid_s, allN_true (fun j hj => hA j (by omega)), Bool.and_true]
 exact decide_eq_decide.2 (by omega)
theorem set_val {h : List EventD} {m : Int} : (validE h && within m 0 (shlI .i64 1 ((h.length : Nat) : Int) - 1)) = isSetE h m := by
 unfold isSetE
 cases hv : validE h with
 | false => rfl
 | true =>
  have hl : h.length ≤ 7 := of_decide_eq_true (and_l hv)
  rw [shl_one (by omega), power_nat]
theorem cut_impl2 {h : List EventD} {k : Nat} (hk : k < 2 ^ h.length) {b : Bool} (hb : cutF (pastL h h.length) (Int.toNat ((k : Nat) : Int)) = b) : isCutE h ((k : Nat) : Int) = b := by
 unfold isCutE
 rw [hb, inRange_iff.2 ⟨by omega, by rw [power_nat]; omega⟩, Bool.true_and]
theorem cutsOf_no {h : List EventD} (hv : validE h = false) : cutsOf h = [] := by unfold cutsOf; rw [hv]; rfl
theorem cutsOf_yes {h : List EventD} (hv : validE h = true) : cutsOf h = cutsN h (2 ^ h.length) := by unfold cutsOf; rw [hv]; rfl
theorem cutsOf_small {h : List EventD} {i : Nat} (hi : i < (cutsOf h).length) : 0 ≤ (cutsOf h).getD i 0 ∧ (cutsOf h).getD i 0 < 128 := by
 have hm := getD_mem (cutsOf h) 0 hi
 cases hv : validE h with
 | false => rw [cutsOf_no hv] at hm; cases hm
 | true =>
  rw [cutsOf_yes hv] at hm ⊢
  obtain ⟨s, hs, e, _⟩ := cutsN_mem.1 hm
  have hl : h.length ≤ 7 := of_decide_eq_true (and_l hv)
  have := Nat.pow_le_pow_right (show 0 < 2 by omega) hl
  omega
structure DelI (p : Int → Bool) (l xs : List Int) (i j : Nat) : Prop where
 lt : i < j
 le : j ≤ l.length
 len : xs.length = l.length
 low : xs.take i = (l.take j).filter p
 high : ∀ q, j ≤ q → q < l.length → xs.getD q 0 = l.getD q 0
theorem take_snoc {l : List Int} {j : Nat} (hj : j < l.length) : l.take (j + 1) = l.take j ++ [l.getD j 0] := by
 rw [List.take_add_one, List.getD_eq_getElem?_getD, List.getElem?_eq_getElem hj]; rfl
theorem DelI.keep {p : Int → Bool} {l xs : List Int} {i j : Nat} (h : DelI p l xs i j) (hj : j < l.length) (hp : p (xs.getD j 0) = true) : DelI p l (xs.set i (xs.getD j 0)) (i + 1) (j + 1) := by
 have hx := h.high j (Nat.le_refl _) hj
 have := h.lt; have hl := h.len
 refine ⟨by omega, by omega, by simp [hl], ?_, fun q h1 h2 => ?_⟩
 ·rw [take_snoc (by simp; omega), List.take_set, List.set_eq_of_length_le (by simp; omega), h.low, take_snoc hj, List.filter_append]
  congr 1
  rw [hx] at hp
  rw [List.getD_eq_getElem?_getD, List.getElem?_set_self (by omega), List.filter_cons_of_pos hp, hx]; rfl
 ·rw [List.getD_eq_getElem?_getD, List.getElem?_set_ne (by omega), ← List.getD_eq_getElem?_getD]
  exact h.high q (by omega) h2
theorem DelI.skip {p : Int → Bool} {l xs : List Int} {i j : Nat} (h : DelI p l xs i j) (hj : j < l.length) (hp : p (xs.getD j 0) = false) : DelI p l xs i (j + 1) := by
 have hx := h.high j (Nat.le_refl _) hj
 have := h.lt
 refine ⟨by omega, by omega, h.len, ?_, fun q h1 h2 => h.high q (by omega) h2⟩
 rw [h.low, take_snoc hj, List.filter_append]
 rw [hx] at hp
 rw [List.filter_cons_of_neg (by rw [hp]; simp)]
 simp
theorem DelI.start {p : Int → Bool} {l : List Int} {k : Nat} (hk : k < l.length) (hp : p (l.getD k 0) = false) (hl : ∀ j, j < k → p (l.getD j 0) = true) : DelI p l l k (k + 1) := by
 refine ⟨by omega, by omega, rfl, ?_, fun q _ _ => rfl⟩
 rw [take_snoc hk, List.filter_append, List.filter_cons_of_neg (by rw [hp]; simp)]
 simp only [List.filter_nil, List.append_nil]
 symm
 rw [List.filter_eq_self]
 intro x hx
 obtain ⟨q, hq, rfl⟩ := List.mem_iff_getElem.1 hx
 rw [List.length_take] at hq
 have := hl q (by omega)
 rw [List.getD_eq_getElem?_getD, List.getElem?_eq_getElem (by omega)] at this
 rw [List.getElem_take]; exact this
theorem DelI.done {p : Int → Bool} {l xs : List Int} {i j : Nat} (h : DelI p l xs i j) (hj : ¬ j < l.length) : xs.take i = l.filter p := by
 have := h.le
 rw [h.low, List.take_of_length_le (by omega)]
theorem DelI.none {p : Int → Bool} {l : List Int} (hl : ∀ j, j < l.length → p (l.getD j 0) = true) : l = l.filter p := by
 symm
 rw [List.filter_eq_self]
 intro x hx
 obtain ⟨q, hq, rfl⟩ := List.mem_iff_getElem.1 hx
 have := hl q hq
 rw [List.getD_eq_getElem?_getD, List.getElem?_eq_getElem hq] at this
 exact this
end Go.Ab
namespace Go.Ab
theorem del_start {h : List EventD} {m : Nat} {l : List Int} (hf : (firstI l.length (fun jj => !markedE h m (l.getD jj 0).toNat) = -1 ∧ ∀ j, j < l.length → (!markedE h m (l.getD j 0).toNat) = false) ∨
  ∃ k, k < l.length ∧ firstI l.length (fun jj => !markedE h m (l.getD jj 0).toNat) = ((k : Nat) : Int) ∧ (!markedE h m (l.getD k 0).toNat) = true ∧ ∀ j, j < k → (!markedE h m (l.getD j 0).toNat) = false)
  (hn : ¬ firstI l.length (fun jj => !markedE h m (l.getD jj 0).toNat) = -1) : DelI (fun c => markedE h m c.toNat) l l (firstI l.length (fun jj => !markedE h m (l.getD jj 0).toNat)).toNat (firstI l.length (fun jj => !markedE h m (l.getD jj 0).toNat) + 1).toNat := by
 rcases hf with ⟨e, _⟩ | ⟨k, hk, e, h1, h2⟩
 ·exact absurd e hn
 ·rw [e, Int.toNat_natCast, show (((k : Nat) : Int) + 1).toNat = k + 1 by omega]
  exact DelI.start hk (by simpa using h1) (fun j hj => by simpa using h2 j hj)
theorem del_none {h : List EventD} {m : Nat} {l : List Int} (hf : (firstI l.length (fun jj => !markedE h m (l.getD jj 0).toNat) = -1 ∧ ∀ j, j < l.length → (!markedE h m (l.getD j 0).toNat) = false) ∨
  ∃ k, k < l.length ∧ firstI l.length (fun jj => !markedE h m (l.getD jj 0).toNat) = ((k : Nat) : Int) ∧ (!markedE h m (l.getD k 0).toNat) = true ∧ ∀ j, j < k → (!markedE h m (l.getD j 0).toNat) = false)
  (hn : firstI l.length (fun jj => !markedE h m (l.getD jj 0).toNat) = -1) (j : Nat) (hj : j < l.length) : markedE h m (l.getD j 0).toNat = true := by
 rcases hf with ⟨_, h1⟩ | ⟨k, hk, e, _, _⟩
 ·simpa using h1 j hj
 ·omega
theorem del_keep {p : Int → Bool} {l xs : List Int} {i j : Int} (h : DelI p l xs i.toNat j.toNat) (h0 : 0 ≤ i) (h1 : 0 ≤ j) (hj : j < ((l.length : Nat) : Int)) (hp : p (xs.getD j.toNat 0) = true) : DelI p l (xs.set i.toNat (xs.getD j.toNat 0)) (i + 1).toNat (j + 1).toNat := by
 rw [show (i + 1).toNat = i.toNat + 1 by omega, show (j + 1).toNat = j.toNat + 1 by omega]
 exact h.keep (by omega) hp
theorem del_skip {p : Int → Bool} {l xs : List Int} {i j : Int} (h : DelI p l xs i.toNat j.toNat) (h1 : 0 ≤ j) (hj : j < ((l.length : Nat) : Int)) (hp : p (xs.getD j.toNat 0) = false) : DelI p l xs i.toNat (j + 1).toNat := by
 rw [show (j + 1).toNat = j.toNat + 1 by omega]
 exact h.skip (by omega) hp
theorem set_bnd {h : List EventD} {m : Int} (hs : isSetE h m = true) : 0 ≤ m ∧ m < 128 := by
 have h1 := inRange_iff.1 (and_r hs)
 have hl := (set_small hs).1
 have := Nat.pow_le_pow_right (show 0 < 2 by omega) hl
 rw [power_nat] at h1
 omega
theorem mk_no {h : List EventD} {m : Int} (hs : isSetE h m = false) : [] = mkCuts h m := by unfold mkCuts; rw [hs]; rfl
theorem mk_no0 {h : List EventD} {m : Int} (hs : isSetE h m = false) : (mkCuts h m).length = 0 := by rw [← mk_no hs]; rfl
theorem mk_yes {h : List EventD} {m : Int} (hs : isSetE h m = true) (hv : validE h = true) : (cutsOf h).filter (fun c => markedE h m.toNat c.toNat) = mkCuts h m := by
 unfold mkCuts mcutsE
 rw [hs, cutsOf_yes hv]; rfl
end Go.Ab
namespace Go.Ab
theorem cutsOf_len (h : List EventD) : (cutsOf h).length ≤ 128 := by
 cases hv : validE h with
 | false => rw [cutsOf_no hv]; exact Nat.zero_le _
 | true =>
  rw [cutsOf_yes hv]
  have hl : h.length ≤ 7 := of_decide_eq_true (and_l hv)
  exact Nat.le_trans (cutsN_len h _) (Nat.pow_le_pow_right (by omega) hl)
end Go.Ab

set_option linter.unusedSimpArgs false
set_option linter.unusedVariables false
namespace Go.Ab
def ordAt (h : List CallD) (o : List Int) (i : Nat) : CallD := callAt h (o.getD i 0).toNat
def sts (s : ByteArray) (h : List CallD) (o : List Int) : Nat → List (List Int)
  | 0 => [[], []]
  | i + 1 => (sts s h o i).set (ordAt h o i).obj.toNat (specStep s ((sts s h o i).getD (ordAt h o i).obj.toNat []) (ordAt h o i)).1
def okAt (s : ByteArray) (h : List CallD) (o : List Int) (i : Nat) : Bool := (specStep s ((sts s h o i).getD (ordAt h o i).obj.toNat []) (ordAt h o i)).2
def runsB (s : ByteArray) (h : List CallD) (o : List Int) : Bool := allN o.length (okAt s h o)
def rightB (s : ByteArray) (h : List CallD) (o : List Int) : Bool := ((isObject s && validHistory h) && isOrd o ((h.length : Nat) : Int)) && runsB s h o
def behind (s : ByteArray) (h : List CallD) (o : List Int) (x : Int) : List Int × Bool := bif rightB s h o && within x 0 1 then ((sts s h o o.length).getD x.toNat [], true) else ([], false)
end Go.Ab
namespace Go.Ab
end Go.Ab
namespace Go.Ab
end Go.Ab
namespace Go.Ab
end Go.Ab
namespace Go.Ab
end Go.Ab
namespace Go.Ab
end Go.Ab
namespace Go.Ab
end Go.Ab
namespace Go.Ab
end Go.Ab

set_option linter.unusedSimpArgs false
set_option linter.unusedVariables false
namespace Go.Ab
theorem bits_andNot_val {a b : Nat} (ha : a < 2 ^ 62) (hb : b < 2 ^ 62) : ∃ c : Nat, bitsI .andNot .i64 ((a : Nat) : Int) ((b : Nat) : Int) = ((c : Nat) : Int) ∧ ∀ k, c.testBit k = (a.testBit k && !b.testBit k) := by
 have e : bitsI .andNot .i64 ((a : Nat) : Int) ((b : Nat) : Int) = IntKind.i64.wrap (((BitVec.ofInt 64 ((a : Nat) : Int) &&& ~~~ BitVec.ofInt 64 ((b : Nat) : Int)).toNat : Nat) : Int) := rfl
 have hx : (BitVec.ofInt 64 ((a : Nat) : Int)) = BitVec.ofNat 64 a := by apply BitVec.eq_of_toNat_eq; rw [BitVec.toNat_ofInt, BitVec.toNat_ofNat]; omega
 have hy : (BitVec.ofInt 64 ((b : Nat) : Int)) = BitVec.ofNat 64 b := by apply BitVec.eq_of_toNat_eq; rw [BitVec.toNat_ofInt, BitVec.toNat_ofNat]; omega
 rw [e, hx, hy]
 have hle : (BitVec.ofNat 64 a &&& ~~~ BitVec.ofNat 64 b).toNat ≤ a := by
  rw [BitVec.toNat_and, BitVec.toNat_ofNat, Nat.mod_eq_of_lt (by omega)]
  exact Nat.and_le_left
 refine ⟨_, IntWalk.i64_in _ (by omega), fun k => ?_⟩
 rw [BitVec.testBit_toNat, BitVec.getLsbD_and, BitVec.getLsbD_not, BitVec.getLsbD_ofNat, BitVec.getLsbD_ofNat]
 by_cases hk : k < 64
 ·simp [hk]
 ·have h1 : a.testBit k = false := Nat.testBit_lt_two_pow (Nat.lt_of_lt_of_le ha (Nat.pow_le_pow_right (by omega) (by omega)))
  simp [hk, h1]
end Go.Ab
namespace Go.Ab
end Go.Ab
namespace Go.Ab
section
variable {s : ByteArray} {h : List CallD} {f : Nat → Nat → Bool} {o : List Int}
end
end Go.Ab
namespace Go.Ab
end Go.Ab
namespace Go.Ab
section
variable {s : ByteArray} {h : List CallD} {f : Nat → Nat → Bool} {o : List Int}
end
end Go.Ab

set_option linter.unusedSimpArgs false
set_option linter.unusedVariables false
namespace Go.Ab
theorem av_at {h : List EventD} {m i : Nat} {s : Int} (hs : 0 ≤ s) {b : Bool} (hb : ((decide (bitOf s ((i : Nat) : Int) = 0) && isCutE h (s + power ((i : Nat) : Int))) && avB h m (s + power ((i : Nat) : Int)).toNat) = b) : avAt h m s.toNat i = b := by
 obtain ⟨n, rfl⟩ : ∃ n : Nat, s = ((n : Nat) : Int) := ⟨s.toNat, by omega⟩
 rw [← hb, power_nat, sBit0, show ((n : Nat) : Int) + ((2 ^ i : Nat) : Int) = ((n + 2 ^ i : Nat) : Int) by omega]
 simp only [Int.toNat_natCast]
 rfl
theorem av_isfull {h : List EventD} {s : Int} (hs : s = power ((h.length : Nat) : Int) - 1) : s.toNat = fullE h := by
 rw [hs, power_nat]
 have := Nat.pow_pos (n := h.length) (show 0 < 2 by omega)
 unfold fullE; omega
theorem av_notfull {h : List EventD} {s : Int} (h0 : 0 ≤ s) (hs : ¬ s = power ((h.length : Nat) : Int) - 1) : s.toNat ≠ fullE h := by
 rw [power_nat] at hs
 have := Nat.pow_pos (n := h.length) (show 0 < 2 by omega)
 unfold fullE; omega
theorem cut_rng {h : List EventD} {s : Int} (hc : isCutE h s = true) : 0 ≤ s ∧ s < ((2 ^ h.length : Nat) : Int) := by
 unfold isCutE at hc
 have := inRange_iff.1 (and_l hc)
 rw [power_nat] at this
 omega
theorem fr_no {h : List EventD} {m k : Nat} (hk : k < 2 ^ h.length) (hb : (!cutF (pastL h h.length) k || !(!markedE h m k)) = true) : freeE h m k = false := by
 have hc := cut_impl2 (h := h) hk (b := cutF (pastL h h.length) k) rfl
 unfold freeE
 rw [hc]
 cases h1 : cutF (pastL h h.length) k <;> cases h2 : markedE h m k <;> rw [h1, h2] at hb <;> first | rfl | cases hb
theorem fr_yes {h : List EventD} {m k : Nat} (hk : k < 2 ^ h.length) (hb : (!cutF (pastL h h.length) k || !(!markedE h m k)) = false) : freeE h m k = true := by
 have hc := cut_impl2 (h := h) hk (b := cutF (pastL h h.length) k) rfl
 unfold freeE
 rw [hc]
 cases h1 : cutF (pastL h h.length) k <;> cases h2 : markedE h m k <;> rw [h1, h2] at hb <;> first | rfl | cases hb
theorem ct_start1 {h : List EventD} {m k : Nat} {cs : List Int} (hc : cs = ctUp h m k) (h0 : k = 0) : cs.set k 1 = (ctUp h m k).set k ((stepC (ctV h m) k 0 : Nat) : Int) := by
 rw [hc]
 simp only [stepC]
 rw [if_pos h0]; rfl
theorem set_same {l : List Int} {k : Nat} (hk : k < l.length) : l.set k (l.getD k 0) = l := by
 rw [List.getD_eq_getElem?_getD, List.getElem?_eq_getElem hk]
 simp
theorem ct_start0 {h : List EventD} {m k : Nat} {cs : List Int} (hc : cs = ctUp h m k) (hk : k < 2 ^ h.length) (h0 : ¬ k = 0) : cs = (ctUp h m k).set k ((stepC (ctV h m) k 0 : Nat) : Int) := by
 rw [hc]
 simp only [stepC]
 rw [if_neg h0]
 have h1 := ctUp_get (m := m) (s := k) hk
 rw [if_neg (by omega)] at h1
 have h2 := set_same (l := ctUp h m k) (k := k) (by rw [ctUp_len]; exact hk)
 rw [h1] at h2
 exact h2.symm
theorem andNot_pow {k q : Nat} (hk : k < 2 ^ 60) (hq : q ≤ 60) (hb : k.testBit q = true) : bitsI .andNot .i64 ((k : Nat) : Int) (shlI .i64 1 ((q : Nat) : Int)) = ((k - 2 ^ q : Nat) : Int) := by
 rw [shl_one (by omega)]
 have hp := Nat.pow_lt_pow_right (show 1 < 2 by omega) (show q < 61 by omega)
 obtain ⟨c, hc1, hc2⟩ := bits_andNot_val (a := k) (b := 2 ^ q) (by omega) (by omega)
 rw [hc1]
 congr 1
 exact sub_is hb fun j => by rw [hc2, Nat.testBit_two_pow]
theorem cs_at {h : List EventD} {m k q : Nat} {cs : List Int} (hc : cs = (ctUp h m k).set k ((stepC (ctV h m) k q : Nat) : Int)) (hk : k < 2 ^ h.length) : cs.getD k 0 = ((stepC (ctV h m) k q : Nat) : Int) := by
 rw [hc, List.getD_eq_getElem?_getD, List.getElem?_set_self (by rw [ctUp_len]; exact hk)]; rfl
theorem cs_low {h : List EventD} {m k q j : Nat} {cs : List Int} (hc : cs = (ctUp h m k).set k ((stepC (ctV h m) k q : Nat) : Int)) (hk : k < 2 ^ h.length) (hj : j < k) : cs.getD j 0 = ((ctV h m j : Nat) : Int) := by
 rw [hc, List.getD_eq_getElem?_getD, List.getElem?_set_ne (by omega), ← List.getD_eq_getElem?_getD, ctUp_get (by omega), if_pos hj]
theorem cs_yes {h : List EventD} {m k q : Nat} {cs : List Int} {v : Int} (hc : cs = (ctUp h m k).set k ((stepC (ctV h m) k q : Nat) : Int)) (hb : k.testBit q = true) (hv : v = ((stepC (ctV h m) k q : Nat) : Int) + ((ctV h m (k - 2 ^ q) : Nat) : Int)) :
  cs.set k v = (ctUp h m k).set k ((stepC (ctV h m) k (q + 1) : Nat) : Int) := by
 rw [hc, List.set_set, hv]
 simp only [stepC]
 rw [if_pos hb]
 congr 1
theorem cs_no {h : List EventD} {m k q : Nat} {cs : List Int} (hc : cs = (ctUp h m k).set k ((stepC (ctV h m) k q : Nat) : Int)) (hb : k.testBit q = false) : cs = (ctUp h m k).set k ((stepC (ctV h m) k (q + 1) : Nat) : Int) := by
 rw [hc]
 simp only [stepC]
 rw [if_neg (by rw [hb]; simp)]
theorem cs_end {h : List EventD} {m k q : Nat} {cs : List Int} (hc : cs = (ctUp h m k).set k ((stepC (ctV h m) k q : Nat) : Int)) (hk : k < 2 ^ h.length) (hf : freeE h m k = true) (hq : q = h.length) : cs = ctUp h m (k + 1) := by
 subst hq
 rw [hc]
 exact ctUp_set hk (by rw [ctV_eq, if_pos hf])
theorem cs_last {h : List EventD} {m k : Nat} {cs : List Int} (hc : cs = ctUp h m k) (hk : k = 2 ^ h.length) {j : Nat} (hj : j = fullE h) : cs.getD j 0 = ((ctV h m (fullE h) : Nat) : Int) := by
 subst hj
 have hp := Nat.pow_pos (n := h.length) (show 0 < 2 by omega)
 rw [hc, ctUp_get (by unfold fullE; omega), if_pos (by unfold fullE; omega)]
theorem ct_init {h : List EventD} {m : Nat} (hn : h.length ≤ 60) : List.replicate (Int.toNat (shlI .i64 1 ((h.length : Nat) : Int))) (0 : Int) = ctUp h m 0 := by
 rw [shl_one (by omega), Int.toNat_natCast]
 exact ctUp_zero h m
theorem kbit {k q : Nat} (hk : k < 2 ^ 60) (hq : q ≤ 60) {b : Bool} (hb : decide (bitsI .and .i64 (shrI .i64 ((k : Nat) : Int) ((q : Nat) : Int)) 1 = 1) = b) : k.testBit q = b := by
 rw [← hb, iBit (by omega) hq]
theorem sure_law {h : List EventD} {m : Int} (hv : validE h = true) : ((!sureE h m || decide (0 < (((mkCuts h m).length : Nat) : Int))) && ((sureE h m || !hasInt (mkCuts h m) (power ((h.length : Nat) : Int) - 1)) || decide (((h.length : Nat) : Int) = 0))) = true := by
 have hn : h.length ≤ 7 := of_decide_eq_true (and_l hv)
 cases hs : sureE h m with
 | true =>
  have := sure_some (by omega) hs
  rw [decide_eq_true (show 0 < (((mkCuts h m).length : Nat) : Int) by omega)]; rfl
 | false =>
  cases hi : hasInt (mkCuts h m) (power ((h.length : Nat) : Int) - 1) with
  | true => rw [sure_full hi] at hs; cases hs
  | false => rfl
end Go.Ab

set_option linter.unusedSimpArgs false
set_option linter.unusedVariables false
namespace Go.Proofs.Try
open Go.Ab Go.RowKit
def fs35 : FnS := fnS [.o,.o,.o] [.int,.int,.int] (fun _ (n,low,high,_) => (.b (within n low high),[],True))
abbrev T35 : Tab := lk []
theorem tab35 : TabOK prog T35 := TabOK.nil
set_option maxRecDepth 100000 in
set_option maxHeartbeats 1000000 in
theorem ok35 : FnOK prog 35 fs35 := by
 refine FnOK.mk cok func35 rfl rfl rfl ?_
 rintro fl ⟨(n : Int),(low : Int),(high : Int),_⟩ hpre F hnt0 _
 have hnt : F.nt = 15 := hnt0.trans ntmps35
 clear hpre
 refine W.to (⟨[(0,.i n),(1,.i low),(2,.i high)],[],[999]⟩) rfl ?_
 refine Kk cok tab35 hnt [] [0,1,2] (⟨[(0,.i n),(1,.i low),(2,.i high)],[],[999]⟩)
  (True ∧ True)
  ⟨tt,tt⟩ ?_
 refine Kk cok tab35 hnt [] [6] (⟨[(6,.b ((decide (low ≤ n)) && (decide (n ≤ high))))],[],[999]⟩)
  ((fun (Z1:Bool)=>(True ∧ (True ∧ ((True ∧ (True ∧ True)) ∧ (True ∧ ((Z1 = true → True) ∧ ((Z1 = true → True) ∧ ((Z1 = true → (((Z1 = true) ∧ True) ∧ (((Z1 = true) ∧ True) ∧ True))) ∧ ((True ∧ ((Z1 = true → (Z1 = true) ∧ True) ∧ (Z1 = false → True))) ∧ (True ∧ True)))))))))) (decide (low ≤ n)))
  ⟨tt,tt,⟨tt,tt,tt⟩,tt,(fun _ => trivial),(fun _ => trivial),(fun hG => ⟨⟨hG,tt⟩,⟨hG,tt⟩,tt⟩),⟨tt,(fun hp => ⟨hp,tt⟩),(fun _ => trivial)⟩,tt,tt⟩ ?_
 refine W.ret ?_
 exact endQ_ret (.b ((decide (low ≤ n)) && (decide (n ≤ high)))) (by kernel_rfl) (@cast ((.bool ((decide (low ≤ n)) && (decide (n ≤ high))) : Value) = .bool (within n low high)) _ (by kernel_rfl) (congrArg Value.bool (by first | rfl | simp_all)))
theorem ent35 : Entr prog 35 := ⟨_,func35,rfl,by decide⟩
end Go.Proofs.Try

set_option linter.unusedSimpArgs false
set_option linter.unusedVariables false
namespace Go.Proofs.Try
open Go.Ab Go.RowKit
def fs42 : FnS := fnS [.o,.o,.o] [.event,(.ep .int),(.ep .int)] (fun _ (x,kd,ms,_) => (.b (decide (x.kind = kd) && decide (x.msg = ms)),[],True))
abbrev T42 : Tab := lk []
theorem tab42 : TabOK prog T42 := TabOK.nil
set_option maxRecDepth 100000 in
set_option maxHeartbeats 1000000 in
theorem ok42 : FnOK prog 42 fs42 := by
 refine FnOK.mk cok func42 rfl rfl rfl ?_
 rintro fl ⟨(x : EventD),(kd : Int),(ms : Int),_⟩ hpre F hnt0 _
 have hnt : F.nt = 15 := hnt0.trans ntmps42
 clear hpre
 refine W.to (⟨[(0,.agg [.i x.proc,.i x.kind,.i x.msg]),(1,.ep [.i kd]),(2,.ep [.i ms])],[],[999]⟩) rfl ?_
 refine Kk cok tab42 hnt [] [1,2,3] (⟨[(1,.ep [.i kd]),(2,.ep [.i ms]),(3,.ptr 3 0)],[(3,⟨47,.fix [.i x.proc,.i x.kind,.i x.msg]⟩)],[3,999]⟩)
  (True ∧ True ∧ True)
  ⟨tt,tt,tt⟩ ?_
 refine Kk cok tab42 hnt [] [4] (⟨[(4,.b ((decide (x.kind = kd)) && (decide (x.msg = ms))))],[(3,⟨47,.fix [.i x.proc,.i x.kind,.i x.msg]⟩)],[3,999]⟩)
  ((fun (Z1:Bool)=>(True ∧ (True ∧ (True ∧ ((True ∧ (True ∧ True)) ∧ (True ∧ ((Z1 = true → True) ∧ ((Z1 = true → ((Z1 = true) ∧ True)) ∧ ((Z1 = true → True) ∧ ((Z1 = true → (((Z1 = true) ∧ True) ∧ (((Z1 = true) ∧ True) ∧ True))) ∧ ((True ∧ ((Z1 = true → (Z1 = true) ∧ True) ∧ (Z1 = false → True))) ∧ (True ∧ True)))))))))))) (decide (x.kind = kd)))
  ⟨tt,tt,tt,⟨tt,tt,tt⟩,tt,(fun _ => trivial),(fun hG => ⟨hG,tt⟩),(fun _ => trivial),(fun hG => ⟨⟨hG,tt⟩,⟨hG,tt⟩,tt⟩),⟨tt,(fun hp => ⟨hp,tt⟩),(fun _ => trivial)⟩,tt,tt⟩ ?_
 refine W.ret ?_
 exact endQ_ret (.b ((decide (x.kind = kd)) && (decide (x.msg = ms)))) (by kernel_rfl) (@cast ((.bool ((decide (x.kind = kd)) && (decide (x.msg = ms))) : Value) = .bool (decide (x.kind = kd) && decide (x.msg = ms))) _ (by kernel_rfl) (congrArg Value.bool (by first | rfl | simp_all)))
theorem ent42 : Entr prog 42 := ⟨_,func42,rfl,by decide⟩
end Go.Proofs.Try

set_option linter.unusedSimpArgs false
set_option linter.unusedVariables false
namespace Go.Proofs.Try
open Go.Ab Go.RowKit
def fs41 : FnS := fnS [.s .events,.o] [.events,(.fn2 42 (.ep .int) (.ep .int))] (fun _ (l,(kd,ms),_) => (.i (firstI l.length (evIs l kd ms)),[],True))
abbrev T41 : Tab := lk [(42,fs42)]
theorem tab41 : TabOK prog T41 := (TabOK.cons ok42 ent42 TabOK.nil)
set_option maxRecDepth 100000 in
set_option maxHeartbeats 1000000 in
theorem ok41 : FnOK prog 41 fs41 := by
 refine FnOK.mk cok func41 rfl rfl rfl ?_
 rintro fl ⟨(l : List EventD),⟨(kd : Int),(ms : Int)⟩,_⟩ hpre F hnt0 _
 have hnt : F.nt = 19 := hnt0.trans ntmps41
 clear hpre
 refine W.to (⟨[(0,.sl (.events l)),(1,.fn 42 [.ep [.i kd],.ep [.i ms]])],[],[999]⟩) rfl ?_
 refine W.lenOf 0 (.events l) (by kernel_rfl) ?_
 intro hl_l; replace hl_l : List.length l ≤ 9223372036854775807 := hl_l
 refine Kk cok tab41 hnt [] [0,1] (⟨[(0,.sl (.events l)),(1,.fn 42 [.ep [.i kd],.ep [.i ms]])],[],[999]⟩)
  (True ∧ True)
  ⟨tt,tt⟩ ?_
 refine W.seq ?_
 refine Kk cok tab41 hnt [] [0,1,7,8] (⟨[(0,.sl (.events l)),(1,.fn 42 [.ep [.i kd],.ep [.i ms]]),(7,.i (l.length : Int)),(8,.i (0 : Int))],[],[999]⟩)
  (True ∧ True ∧ True ∧ True)
  ⟨tt,tt,tt,tt⟩ ?_
 refine W.block ?_
 refine W.loop (ι := Nat) (fun (i : Nat) => (⟨[(0,.sl (.events l)),(1,.fn 42 [.ep [.i kd],.ep [.i ms]]),(7,.i (l.length : Int)),(8,.i ((i : Nat) : Int))],[],[999]⟩ : St))
  (fun (i : Nat) => (i ≤ l.length) ∧ (∀ jj,jj < i → evIs l kd ms jj = false))
  (fun (i : Nat) => (l.length - i : Nat)) (0) ?_ ?_ ?_
 ·exact (show (0 ≤ l.length) ∧ (∀ jj,jj < 0 → evIs l kd ms jj = false) from ⟨(by first | assumption | omega | rfl | (intro _ hjj; omega) | (simp; done) | (simp; omega)),(by exact upto_zero)⟩)
 ·exact Sub.of [] (@cast (((Sd (.events l)) ∧ (((42 : Nat) = 42) ∧ (((.ep [.i kd] : AV) = .ep [.i kd]) ∧ (([] : List Nat) = [])) ∧ (((.ep [.i ms] : AV) = .ep [.i ms]) ∧ (([] : List Nat) = [])) ∧ True) ∧ (Si (l.length : Int)) ∧ ((.int .i64 (0 : Int) : Value) = .int .i64 ((0 : Nat) : Int)) ∧ True) ∧ True ∧ (true = true) ∧ (true = true)) _ (by kernel_rfl) ⟨⟨rfl,⟨rfl,⟨rfl,rfl⟩,⟨rfl,rfl⟩,tt⟩,rfl,(congrArg (Value.int .i64) (by first | rfl | omega | assumption | simp | simp_all)),tt⟩,tt,rfl,rfl⟩)
 ·rintro i hC0
  have hC : (i ≤ l.length) ∧ (∀ jj,jj < i → evIs l kd ms jj = false) := hC0
  clear hC0
  obtain ⟨hi,hA⟩ := hC
  refine W.to (⟨[(0,.sl (.events l)),(1,.fn 42 [.ep [.i kd],.ep [.i ms]]),(7,.i (l.length : Int)),(8,.i ((i : Nat) : Int))],[],[999]⟩) rfl ?_
  refine Kk cok tab41 hnt [] [0,1,7,8,9] (⟨[(0,.sl (.events l)),(1,.fn 42 [.ep [.i kd],.ep [.i ms]]),(7,.i (l.length : Int)),(8,.i ((i : Nat) : Int)),(9,.b (decide (((i : Nat) : Int) < (l.length : Int))))],[],[999]⟩)
   ((True ∧ True ∧ True) ∧ True)
   ⟨⟨tt,tt,tt⟩,tt⟩ ?_
  refine W.seq ?_
  refine W.ifP (((i : Nat) : Int) < (l.length : Int)) (.b (decide (((i : Nat) : Int) < (l.length : Int)))) (by kernel_rfl) rfl trivial ?_ ?_
  ·intro h9
   refine W.skip (thenQ_normal ?_)
   refine W.seq ?_
   refine W.block ?_
   refine Kk cok tab41 hnt [] [0,1,5,7,8] (⟨[(0,.sl (.events l)),(1,.fn 42 [.ep [.i kd],.ep [.i ms]]),(5,.i ((i : Nat) : Int)),(7,.i (l.length : Int)),(8,.i ((i : Nat) : Int))],[],[999]⟩)
    (True ∧ True ∧ True)
    ⟨tt,tt,tt⟩ ?_
   refine Kk cok tab41 hnt [] [0,1,5,7,8,16] (⟨[(0,.sl (.events l)),(1,.fn 42 [.ep [.i kd],.ep [.i ms]]),(5,.i ((i : Nat) : Int)),(7,.i (l.length : Int)),(8,.i ((i : Nat) : Int)),(16,.b (decide ((l.getD i default).kind = kd) && decide ((l.getD i default).msg = ms)))],[],[999]⟩)
    (True ∧ True ∧ True ∧ (True ∧ True ∧ (0 ≤ ((i : Nat) : Int)) ∧ (((i : Nat) : Int) < (l.length : Int))) ∧ True ∧ (True ∧ (True ∧ True ∧ True ∧ True) ∧ True) ∧ True)
    ⟨tt,tt,tt,⟨tt,tt,(by omega),(by omega)⟩,tt,⟨tt,⟨tt,tt,tt,tt⟩,tt⟩,tt⟩ ?_
   refine W.if' (decide ((l.getD i default).kind = kd) && decide ((l.getD i default).msg = ms)) (.b (decide ((l.getD i default).kind = kd) && decide ((l.getD i default).msg = ms))) (by kernel_rfl) rfl trivial ?_ ?_
   ·intro h16
    refine Kk cok tab41 hnt [] [4] (⟨[(4,.i ((i : Nat) : Int))],[],[999]⟩)
     (True ∧ True ∧ True)
     ⟨tt,tt,tt⟩ ?_
    refine W.ret (blockQ_ret (thenQ_ret (thenQ_ret (blockQ_ret (thenQ_ret ?_)))))
    exact endQ_ret (.i ((i : Nat) : Int)) (by kernel_rfl) (@cast ((.int .i64 ((i : Nat) : Int) : Value) = .int .i64 (firstI l.length (evIs l kd ms))) _ (by kernel_rfl) (congrArg (Value.int .i64) (by exact (firstI_yes (by omega) h16 hA).symm)))
   ·intro n16
    refine W.skip (blockQ_normal (thenQ_normal ?_))
    refine Lk cok tab41 hnt [] (⟨[(0,.sl (.events l)),(1,.fn 42 [.ep [.i kd],.ep [.i ms]]),(5,.i ((i : Nat) : Int)),(7,.i (l.length : Int)),(8,.i (((i + 1) : Nat) : Int)),(16,.b (decide ((l.getD i default).kind = kd) && decide ((l.getD i default).msg = ms))),(18,.i (((i + 1) : Nat) : Int))],[],[999]⟩)
     ((True ∧ True ∧ (Fits .i64 (((i + 1) : Nat) : Int))) ∧ True ∧ True)
     ⟨⟨tt,tt,(by exact fits_i64 (by omega) (by omega))⟩,tt,tt⟩ ?_
    refine thenQ_normal ?_
    refine ⟨((i + 1)),(show ((i + 1) ≤ l.length) ∧ (∀ jj,jj < (i + 1) → evIs l kd ms jj = false) from ⟨(by first | assumption | omega | rfl | (intro _ hjj; omega) | (simp; done) | (simp; omega)),(by exact upto_succ hA n16)⟩),(show l.length - (i + 1) < l.length - i from (by first | omega | (simp_all; omega))),?_⟩
    exact Sub.of [] (@cast (((Sd (.events l)) ∧ (((42 : Nat) = 42) ∧ (((.ep [.i kd] : AV) = .ep [.i kd]) ∧ (([] : List Nat) = [])) ∧ (((.ep [.i ms] : AV) = .ep [.i ms]) ∧ (([] : List Nat) = [])) ∧ True) ∧ (Si (l.length : Int)) ∧ (Si (((i + 1) : Nat) : Int)) ∧ True) ∧ True ∧ (true = true) ∧ (true = true)) _ (by kernel_rfl) ⟨⟨rfl,⟨rfl,⟨rfl,rfl⟩,⟨rfl,rfl⟩,tt⟩,rfl,rfl,tt⟩,tt,rfl,rfl⟩)
  ·intro n9
   refine W.exit (thenQ_exit (thenQ_exit (blockQ_hit ?_)))
   refine thenQ_normal ?_
   refine Kk cok tab41 hnt [] [4] (⟨[(4,.i (-1 : Int))],[],[999]⟩)
    (True ∧ True)
    ⟨tt,tt⟩ ?_
   refine W.ret ?_
   exact endQ_ret (.i (-1 : Int)) (by kernel_rfl) (@cast ((.int .i64 (-1 : Int) : Value) = .int .i64 (firstI l.length (evIs l kd ms))) _ (by kernel_rfl) (congrArg (Value.int .i64) (by exact (firstI_no (fun j hj => hA j (by omega))).symm)))
theorem ent41 : Entr prog 41 := ⟨_,func41,rfl,by decide⟩
end Go.Proofs.Try

set_option linter.unusedSimpArgs false
set_option linter.unusedVariables false
namespace Go.Proofs.Try
open Go.Ab Go.RowKit
def fs36 : FnS := fnS [.s .events,.o,.o] [.events,.int,.int] (fun _ (l,kd,ms,_) => (.i (placeE l l.length kd ms),[],True))
abbrev T36 : Tab := lk [(41,fs41)]
theorem tab36 : TabOK prog T36 := (TabOK.cons ok41 ent41 TabOK.nil)
set_option maxRecDepth 100000 in
set_option maxHeartbeats 1000000 in
theorem ok36 : FnOK prog 36 fs36 := by
 refine FnOK.mk cok func36 rfl rfl rfl ?_
 rintro fl ⟨(l : List EventD),(kd : Int),(ms : Int),_⟩ hpre F hnt0 _
 have hnt : F.nt = 10 := hnt0.trans ntmps36
 clear hpre
 refine W.to (⟨[(0,.sl (.events l)),(1,.i kd),(2,.i ms)],[],[999]⟩) rfl ?_
 refine W.lenOf 0 (.events l) (by kernel_rfl) ?_
 intro hl_l; replace hl_l : List.length l ≤ 9223372036854775807 := hl_l
 refine Kk cok tab36 hnt [] [0,4,5] (⟨[(0,.sl (.events l)),(4,.ptr 4 0),(5,.ptr 5 0)],[(4,⟨3,.fix [.i kd]⟩),(5,⟨3,.fix [.i ms]⟩)],[5,4,999]⟩)
  (True ∧ True ∧ True ∧ True)
  ⟨tt,tt,tt,tt⟩ ?_
 refine W.subS [] (⟨[(0,.sl (.events l)),(4,.ep [.i kd]),(5,.ep [.i ms])],[],[999]⟩) (@cast (((Sd (.events l)) ∧ ((([.i kd] : List AV) = [.i kd]) ∧ (([] : List Nat) = []) ∧ ((4 : Nat) ∉ ([] : List Nat))) ∧ ((([.i ms] : List AV) = [.i ms]) ∧ (([] : List Nat) = []) ∧ ((5 : Nat) ∉ ([] : List Nat))) ∧ True) ∧ True ∧ (true = true) ∧ (true = true)) _ (by kernel_rfl) ⟨⟨rfl,⟨rfl,rfl,(by decide)⟩,⟨rfl,rfl,(by decide)⟩,tt⟩,tt,rfl,rfl⟩) ?_
 refine Kk cok tab36 hnt [] [6] (⟨[(6,.i (firstI l.length (evIs l kd ms)))],[],[999]⟩)
  (True ∧ True ∧ (True ∧ (True ∧ True ∧ True) ∧ True) ∧ True ∧ True)
  ⟨tt,tt,⟨tt,⟨tt,tt,tt⟩,tt⟩,tt,tt⟩ ?_
 refine W.ret ?_
 exact endQ_ret (.i (firstI l.length (evIs l kd ms))) (by kernel_rfl) (@cast ((.int .i64 (firstI l.length (evIs l kd ms)) : Value) = .int .i64 (placeE l l.length kd ms)) _ (by kernel_rfl) (congrArg (Value.int .i64) (by rfl)))
theorem ent36 : Entr prog 36 := ⟨_,func36,rfl,by decide⟩
end Go.Proofs.Try

set_option linter.unusedSimpArgs false
set_option linter.unusedVariables false
namespace Go.Proofs.Try
open Go.Ab Go.RowKit
def fs15 : FnS := fnS [.s .events] [.events] (fun _ (h,_) => (.b (validE h),[],True))
abbrev T15 : Tab := lk [(35,fs35),(36,fs36)]
theorem tab15 : TabOK prog T15 := (TabOK.cons ok35 ent35 (TabOK.cons ok36 ent36 TabOK.nil))
set_option maxRecDepth 100000 in
set_option maxHeartbeats 1000000 in
theorem ok15 : FnOK prog 15 fs15 := by
 refine FnOK.mk cok func15 rfl rfl rfl ?_
 rintro fl ⟨(h : List EventD),_⟩ hpre F hnt0 _
 have hnt : F.nt = 69 := hnt0.trans ntmps15
 clear hpre
 refine W.to (⟨[(0,.sl (.events h))],[],[999]⟩) rfl ?_
 refine W.lenOf 0 (.events h) (by kernel_rfl) ?_
 intro hl_h; replace hl_h : List.length h ≤ 9223372036854775807 := hl_h
 refine Kk cok tab15 hnt [] [0] (⟨[(0,.sl (.events h))],[],[999]⟩)
  (True ∧ True)
  ⟨tt,tt⟩ ?_
 refine W.seq ?_
 refine Kk cok tab15 hnt [] [0,8] (⟨[(0,.sl (.events h)),(8,.b (decide ((7 : Int) < (h.length : Int))))],[],[999]⟩)
  (True ∧ True ∧ (True ∧ True ∧ True) ∧ True)
  ⟨tt,tt,⟨tt,tt,tt⟩,tt⟩ ?_
 refine W.ifP ((7 : Int) < (h.length : Int)) (.b (decide ((7 : Int) < (h.length : Int)))) (by kernel_rfl) rfl trivial ?_ ?_
 ·intro h8
  refine Kk cok tab15 hnt [] [2] (⟨[(2,.b false)],[],[999]⟩)
   (True ∧ True)
   ⟨tt,tt⟩ ?_
  refine W.ret (thenQ_ret ?_)
  exact endQ_ret (.b false) (by kernel_rfl) (@cast ((.bool false : Value) = .bool (validE h)) _ (by kernel_rfl) (congrArg Value.bool (by unfold validE; symm; exact and_fl (decide_eq_false (by omega)))))
 ·intro n8
  refine W.skip (thenQ_normal ?_)
  refine W.seq ?_
  refine Kk cok tab15 hnt [] [0,9,10,11] (⟨[(0,.sl (.events h)),(9,.sl (.events h)),(10,.i (h.length : Int)),(11,.i (0 : Int))],[],[999]⟩)
   (True ∧ True ∧ True ∧ True)
   ⟨tt,tt,tt,tt⟩ ?_
  refine W.block ?_
  refine W.loop (ι := Nat) (fun (i : Nat) => (⟨[(0,.sl (.events h)),(9,.sl (.events h)),(10,.i (h.length : Int)),(11,.i ((i : Nat) : Int))],[],[999]⟩ : St))
   (fun (i : Nat) => (i ≤ h.length) ∧ (∀ j,j < i → iAt h j = true))
   (fun (i : Nat) => (h.length - i : Nat)) (0) ?_ ?_ ?_
  ·exact (show (0 ≤ h.length) ∧ (∀ j,j < 0 → iAt h j = true) from ⟨(by first | assumption | omega | rfl | (intro _ hjj; omega) | (simp; done) | (simp; omega)),(by exact upto_zero)⟩)
  ·exact Sub.of [] (@cast (((Sd (.events h)) ∧ (Sd (.events h)) ∧ (Si (h.length : Int)) ∧ ((.int .i64 (0 : Int) : Value) = .int .i64 ((0 : Nat) : Int)) ∧ True) ∧ True ∧ (true = true) ∧ (true = true)) _ (by kernel_rfl) ⟨⟨rfl,rfl,rfl,(congrArg (Value.int .i64) (by first | rfl | omega | assumption | simp | simp_all)),tt⟩,tt,rfl,rfl⟩)
  ·rintro i hC0
   have hC : (i ≤ h.length) ∧ (∀ j,j < i → iAt h j = true) := hC0
   clear hC0
   obtain ⟨hi,hA⟩ := hC
   refine W.to (⟨[(0,.sl (.events h)),(9,.sl (.events h)),(10,.i (h.length : Int)),(11,.i ((i : Nat) : Int))],[],[999]⟩) rfl ?_
   refine Kk cok tab15 hnt [] [0,9,10,11,12] (⟨[(0,.sl (.events h)),(9,.sl (.events h)),(10,.i (h.length : Int)),(11,.i ((i : Nat) : Int)),(12,.b (decide (((i : Nat) : Int) < (h.length : Int))))],[],[999]⟩)
    ((True ∧ True ∧ True) ∧ True)
    ⟨⟨tt,tt,tt⟩,tt⟩ ?_
   refine W.seq ?_
   refine W.ifP (((i : Nat) : Int) < (h.length : Int)) (.b (decide (((i : Nat) : Int) < (h.length : Int)))) (by kernel_rfl) rfl trivial ?_ ?_
   ·intro h12
    refine W.skip (thenQ_normal ?_)
    refine W.seq ?_
    refine W.block ?_
    refine Kk cok tab15 hnt [] [0,3,4,9,10,11] (⟨[(0,.sl (.events h)),(3,.i ((i : Nat) : Int)),(4,.ptr 4 0),(9,.sl (.events h)),(10,.i (h.length : Int)),(11,.i ((i : Nat) : Int))],[(4,⟨47,.fix [.i ((h.getD i default).proc),.i ((h.getD i default).kind),.i ((h.getD i default).msg)]⟩)],[4,999]⟩)
     (True ∧ (True ∧ True ∧ (0 ≤ ((i : Nat) : Int)) ∧ (((i : Nat) : Int) < (h.length : Int))) ∧ True ∧ True ∧ True ∧ (True ∧ True) ∧ True)
     ⟨tt,⟨tt,tt,(by omega),(by omega)⟩,tt,tt,tt,⟨tt,tt⟩,tt⟩ ?_
    refine W.seq ?_
    refine Kk cok tab15 hnt [] [0,3,4,9,10,11,25] (⟨[(0,.sl (.events h)),(3,.i ((i : Nat) : Int)),(4,.ptr 4 0),(9,.sl (.events h)),(10,.i (h.length : Int)),(11,.i ((i : Nat) : Int)),(25,.b ((!(within ((h.getD i default).proc) (0 : Int) (2 : Int))) || (!(within ((h.getD i default).kind) (0 : Int) (2 : Int)))))],[(4,⟨47,.fix [.i ((h.getD i default).proc),.i ((h.getD i default).kind),.i ((h.getD i default).msg)]⟩)],[4,999]⟩)
     ((fun (Z1:Bool)=>(True ∧ (True ∧ ((True ∧ ((True ∧ (True ∧ (True ∧ True))) ∧ True)) ∧ (True ∧ (True ∧ (((!Z1) = true → True) ∧ (((!Z1) = true → (((!Z1) = true) ∧ True)) ∧ (((!Z1) = true → (True ∧ (((((!Z1) = true) ∧ True) ∧ (True ∧ (True ∧ True))) ∧ True))) ∧ (((!Z1) = true → (((!Z1) = true) ∧ True)) ∧ ((True ∧ ((Z1 = true → True) ∧ (Z1 = false → ((!Z1) = true) ∧ True))) ∧ True))))))))))) (!(within ((h.getD i default).proc) (0 : Int) (2 : Int))))
     ⟨tt,tt,⟨tt,⟨tt,tt,tt,tt⟩,tt⟩,tt,tt,(fun _ => trivial),(fun hG => ⟨hG,tt⟩),(fun hG => ⟨tt,⟨⟨hG,tt⟩,tt,tt,tt⟩,tt⟩),(fun hG => ⟨hG,tt⟩),⟨tt,(fun _ => trivial),(fun hp => ⟨(not_t hp),tt⟩)⟩,tt⟩ ?_
    refine W.if' ((!(within ((h.getD i default).proc) (0 : Int) (2 : Int))) || (!(within ((h.getD i default).kind) (0 : Int) (2 : Int)))) (.b ((!(within ((h.getD i default).proc) (0 : Int) (2 : Int))) || (!(within ((h.getD i default).kind) (0 : Int) (2 : Int))))) (by kernel_rfl) rfl trivial ?_ ?_
    ·intro h25
     refine Kk cok tab15 hnt [] [2] (⟨[(2,.b false)],[(4,⟨47,.fix [.i ((h.getD i default).proc),.i ((h.getD i default).kind),.i ((h.getD i default).msg)]⟩)],[4,999]⟩)
      (True ∧ True)
      ⟨tt,tt⟩ ?_
     refine W.ret (thenQ_ret (blockQ_ret (thenQ_ret (thenQ_ret (blockQ_ret (thenQ_ret ?_))))))
     exact endQ_ret (.b false) (by kernel_rfl) (@cast ((.bool false : Value) = .bool (validE h)) _ (by kernel_rfl) (congrArg Value.bool (by unfold validE; symm; exact and_fr (allN_false (i := i) (by omega) (ve_1 h25)))))
    ·intro n25
     refine W.skip (thenQ_normal ?_)
     refine W.seq ?_
     refine Kk cok tab15 hnt [] [0,3,4,9,10,11,28] (⟨[(0,.sl (.events h)),(3,.i ((i : Nat) : Int)),(4,.ptr 4 0),(9,.sl (.events h)),(10,.i (h.length : Int)),(11,.i ((i : Nat) : Int)),(28,.b (decide (((h.getD i default).kind) = (0 : Int))))],[(4,⟨47,.fix [.i ((h.getD i default).proc),.i ((h.getD i default).kind),.i ((h.getD i default).msg)]⟩)],[4,999]⟩)
      (True ∧ True ∧ (True ∧ True ∧ True) ∧ True)
      ⟨tt,tt,⟨tt,tt,tt⟩,tt⟩ ?_
     refine W.ifP (((h.getD i default).kind) = (0 : Int)) (.b (decide (((h.getD i default).kind) = (0 : Int)))) (by kernel_rfl) rfl trivial ?_ ?_
     ·intro h28
      refine W.seq ?_
      refine Kk cok tab15 hnt [] [0,9,10,11,31] (⟨[(0,.sl (.events h)),(9,.sl (.events h)),(10,.i (h.length : Int)),(11,.i ((i : Nat) : Int)),(31,.b (decide (((h.getD i default).msg) ≠ (0 : Int))))],[(4,⟨47,.fix [.i ((h.getD i default).proc),.i ((h.getD i default).kind),.i ((h.getD i default).msg)]⟩)],[4,999]⟩)
       (True ∧ True ∧ (True ∧ True ∧ True) ∧ True)
       ⟨tt,tt,⟨tt,tt,tt⟩,tt⟩ ?_
      refine W.ifP (((h.getD i default).msg) ≠ (0 : Int)) (.b (decide (((h.getD i default).msg) ≠ (0 : Int)))) (by kernel_rfl) rfl trivial ?_ ?_
      ·intro h31
       refine Kk cok tab15 hnt [] [2] (⟨[(2,.b false)],[(4,⟨47,.fix [.i ((h.getD i default).proc),.i ((h.getD i default).kind),.i ((h.getD i default).msg)]⟩)],[4,999]⟩)
        (True ∧ True)
        ⟨tt,tt⟩ ?_
       refine W.ret (thenQ_ret (thenQ_ret (blockQ_ret (thenQ_ret (thenQ_ret (blockQ_ret (thenQ_ret ?_)))))))
       exact endQ_ret (.b false) (by kernel_rfl) (@cast ((.bool false : Value) = .bool (validE h)) _ (by kernel_rfl) (congrArg Value.bool (by unfold validE; symm; exact and_fr (allN_false (i := i) (by omega) (ve_2 h28 h31)))))
      ·intro n31
       refine W.skip (thenQ_normal ?_)
       refine W.exit (thenQ_exit (blockQ_hit ?_))
       refine thenQ_normal ?_
       refine Lk cok tab15 hnt [] (⟨[(0,.sl (.events h)),(9,.sl (.events h)),(10,.i (h.length : Int)),(11,.i (((i + 1) : Nat) : Int)),(31,.b (decide (((h.getD i default).msg) ≠ (0 : Int)))),(68,.i (((i + 1) : Nat) : Int))],[(4,⟨47,.fix [.i ((h.getD i default).proc),.i ((h.getD i default).kind),.i ((h.getD i default).msg)]⟩)],[4,999]⟩)
        ((True ∧ True ∧ (Fits .i64 (((i + 1) : Nat) : Int))) ∧ True ∧ True)
        ⟨⟨tt,tt,(by exact fits_i64 (by omega) (by omega))⟩,tt,tt⟩ ?_
       refine thenQ_normal ?_
       refine ⟨((i + 1)),(show ((i + 1) ≤ h.length) ∧ (∀ j,j < (i + 1) → iAt h j = true) from ⟨(by first | assumption | omega | rfl | (intro _ hjj; omega) | (simp; done) | (simp; omega)),(by first | exact upto_succ hA (ve_6 (by omega) n25 n28 n46 (.inr n67)) | exact upto_succ hA (ve_6 (by omega) n25 n28 n46 (.inl n49)) | exact upto_succ hA (ve_3 n25 h28 (by omega)))⟩),(show h.length - (i + 1) < h.length - i from (by first | omega | (simp_all; omega))),?_⟩
       exact Sub.of [] (@cast (((Sd (.events h)) ∧ (Sd (.events h)) ∧ (Si (h.length : Int)) ∧ (Si (((i + 1) : Nat) : Int)) ∧ True) ∧ True ∧ (true = true) ∧ (true = true)) _ (by kernel_rfl) ⟨⟨rfl,rfl,rfl,rfl,tt⟩,tt,rfl,rfl⟩)
     ·intro n28
      refine W.skip (thenQ_normal ?_)
      refine W.seq ?_
      refine W.KA cok tab15 hnt [] [0,3,4,9,10,11,46] (⟨[(0,.sl (.events h)),(3,.i ((i : Nat) : Int)),(4,.ptr 4 0),(9,.sl (.events h)),(10,.i (h.length : Int)),(11,.i ((i : Nat) : Int)),(46,.b ((!(within ((h.getD i default).msg) (0 : Int) (6 : Int))) || (decide ((0 : Int) ≤ (placeE (List.take i h) (List.take i h).length ((h.getD i default).kind) ((h.getD i default).msg))))))],[(4,⟨47,.fix [.i ((h.getD i default).proc),.i ((h.getD i default).kind),.i ((h.getD i default).msg)]⟩)],[4,999]⟩)
       ((fun (Z1:Bool)=>(True ∧ (True ∧ ((True ∧ ((True ∧ (True ∧ (True ∧ True))) ∧ True)) ∧ (True ∧ (True ∧ (((!Z1) = true → True) ∧ (((!Z1) = true → True) ∧ (((!Z1) = true → ((((!Z1) = true) ∧ True) ∧ (True ∧ ((((!Z1) = true) ∧ True) ∧ ((0 ≤ (0 : Int)) ∧ (((0 : Int) ≤ ((i : Nat) : Int)) ∧ (((i : Nat) : Int) ≤ (h.length : Int)))))))) ∧ (((!Z1) = true → True) ∧ (((!Z1) = true → (((!Z1) = true) ∧ True)) ∧ (((!Z1) = true → True) ∧ (((!Z1) = true → (((!Z1) = true) ∧ True)) ∧ (((!Z1) = true → (True ∧ (((((!Z1) = true) ∧ True) ∧ ((((!Z1) = true) ∧ True) ∧ ((((!Z1) = true) ∧ True) ∧ True))) ∧ True))) ∧ (((!Z1) = true → ((((!Z1) = true) ∧ True) ∧ (True ∧ True))) ∧ ((True ∧ ((Z1 = true → True) ∧ (Z1 = false → ((!Z1) = true) ∧ True))) ∧ True)))))))))))))))) (!(within ((h.getD i default).msg) (0 : Int) (6 : Int)))) (by kernel_rfl) (by kernel_rfl)
       ⟨tt,tt,⟨tt,⟨tt,tt,tt,tt⟩,tt⟩,tt,tt,(fun _ => trivial),(fun _ => trivial),(fun hG => ⟨⟨hG,tt⟩,tt,⟨hG,tt⟩,(by omega),(by omega),(by omega)⟩),(fun _ => trivial),(fun hG => ⟨hG,tt⟩),(fun _ => trivial),(fun hG => ⟨hG,tt⟩),(fun hG => ⟨tt,⟨⟨hG,tt⟩,⟨hG,tt⟩,⟨hG,tt⟩,tt⟩,tt⟩),(fun hG => ⟨⟨hG,tt⟩,tt,tt⟩),⟨tt,(fun _ => trivial),(fun hp => ⟨(not_t hp),tt⟩)⟩,tt⟩ ?_
      refine W.if' ((!(within ((h.getD i default).msg) (0 : Int) (6 : Int))) || (decide ((0 : Int) ≤ (placeE (List.take i h) (List.take i h).length ((h.getD i default).kind) ((h.getD i default).msg))))) (.b ((!(within ((h.getD i default).msg) (0 : Int) (6 : Int))) || (decide ((0 : Int) ≤ (placeE (List.take i h) (List.take i h).length ((h.getD i default).kind) ((h.getD i default).msg)))))) (by kernel_rfl) rfl trivial ?_ ?_
      ·intro h46
       refine Kk cok tab15 hnt [] [2] (⟨[(2,.b false)],[(4,⟨47,.fix [.i ((h.getD i default).proc),.i ((h.getD i default).kind),.i ((h.getD i default).msg)]⟩)],[4,999]⟩)
        (True ∧ True)
        ⟨tt,tt⟩ ?_
       refine W.ret (thenQ_ret (blockQ_ret (thenQ_ret (thenQ_ret (blockQ_ret (thenQ_ret ?_))))))
       exact endQ_ret (.b false) (by kernel_rfl) (@cast ((.bool false : Value) = .bool (validE h)) _ (by kernel_rfl) (congrArg Value.bool (by unfold validE; symm; exact and_fr (allN_false (i := i) (by omega) (ve_4 (by omega) n28 h46)))))
      ·intro n46
       have n46_0 : ¬ ((0 : Int) ≤ (placeE (List.take i h) (List.take i h).length ((h.getD i default).kind) ((h.getD i default).msg))) := of_decide_eq_false (or_r n46)
       refine W.skip (thenQ_normal ?_)
       refine Kk cok tab15 hnt [] [0,3,4,9,10,11,49] (⟨[(0,.sl (.events h)),(3,.i ((i : Nat) : Int)),(4,.ptr 4 0),(9,.sl (.events h)),(10,.i (h.length : Int)),(11,.i ((i : Nat) : Int)),(49,.b (decide (((h.getD i default).kind) = (2 : Int))))],[(4,⟨47,.fix [.i ((h.getD i default).proc),.i ((h.getD i default).kind),.i ((h.getD i default).msg)]⟩)],[4,999]⟩)
        (True ∧ True ∧ (True ∧ True ∧ True) ∧ True)
        ⟨tt,tt,⟨tt,tt,tt⟩,tt⟩ ?_
       refine W.ifP (((h.getD i default).kind) = (2 : Int)) (.b (decide (((h.getD i default).kind) = (2 : Int)))) (by kernel_rfl) rfl trivial ?_ ?_
       ·intro h49
        refine W.KA cok tab15 hnt [] [0,4,5,9,10,11] (⟨[(0,.sl (.events h)),(4,.ptr 4 0),(5,.i (placeE (List.take i h) (List.take i h).length (1 : Int) ((h.getD i default).msg))),(9,.sl (.events h)),(10,.i (h.length : Int)),(11,.i ((i : Nat) : Int))],[(4,⟨47,.fix [.i ((h.getD i default).proc),.i ((h.getD i default).kind),.i ((h.getD i default).msg)]⟩)],[4,999]⟩)
         (True ∧ True ∧ (True ∧ True ∧ True ∧ (0 ≤ (0 : Int)) ∧ ((0 : Int) ≤ ((i : Nat) : Int)) ∧ (((i : Nat) : Int) ≤ (h.length : Int))) ∧ True ∧ True ∧ (True ∧ (True ∧ True ∧ True ∧ True) ∧ True) ∧ True ∧ True) (by kernel_rfl) (by kernel_rfl)
         ⟨tt,tt,⟨tt,tt,tt,(by omega),(by omega),(by omega)⟩,tt,tt,⟨tt,⟨tt,tt,tt,tt⟩,tt⟩,tt,tt⟩ ?_
        refine W.KA cok tab15 hnt [] [0,9,10,11,67] (⟨[(0,.sl (.events h)),(9,.sl (.events h)),(10,.i (h.length : Int)),(11,.i ((i : Nat) : Int)),(67,.b ((decide ((placeE (List.take i h) (List.take i h).length (1 : Int) ((h.getD i default).msg)) < (0 : Int))) || (decide (((h.getD (Int.toNat (placeE (List.take i h) (List.take i h).length (1 : Int) ((h.getD i default).msg))) default).proc) = ((h.getD i default).proc)))))],[(4,⟨47,.fix [.i ((h.getD i default).proc),.i ((h.getD i default).kind),.i ((h.getD i default).msg)]⟩)],[4,999]⟩)
         ((fun (Z1:Bool)=>(True ∧ ((True ∧ (True ∧ True)) ∧ (True ∧ (((!Z1) = true → True) ∧ (((!Z1) = true → True) ∧ (((!Z1) = true → ((((!Z1) = true) ∧ True) ∧ ((((!Z1) = true) ∧ True) ∧ ((0 ≤ (placeE (List.take i h) (List.take i h).length (1 : Int) ((h.getD i default).msg))) ∧ ((placeE (List.take i h) (List.take i h).length (1 : Int) ((h.getD i default).msg)) < (h.length : Int)))))) ∧ (((!Z1) = true → (((!Z1) = true) ∧ True)) ∧ (((!Z1) = true → (((!Z1) = true) ∧ True)) ∧ (((!Z1) = true → True) ∧ (((!Z1) = true → (((!Z1) = true) ∧ True)) ∧ (((!Z1) = true → ((((!Z1) = true) ∧ True) ∧ ((((!Z1) = true) ∧ True) ∧ True))) ∧ ((True ∧ ((Z1 = true → True) ∧ (Z1 = false → ((!Z1) = true) ∧ True))) ∧ True))))))))))))) (decide ((placeE (List.take i h) (List.take i h).length (1 : Int) ((h.getD i default).msg)) < (0 : Int)))) (by kernel_rfl) (by kernel_rfl)
         ⟨tt,⟨tt,tt,tt⟩,tt,(fun _ => trivial),(fun _ => trivial),(fun hG => ⟨⟨hG,tt⟩,⟨hG,tt⟩,(by have hg0 : ¬ ((placeE (List.take i h) (List.take i h).length (1 : Int) ((h.getD i default).msg)) < (0 : Int)) := of_decide_eq_false (not_f hG); have h9 := place_lt (h := h) (i := i) (k := 1) (m := (h.getD i default).msg); have h8 := ve_p (h := h) (i := i) (by omega) 1 (h.getD i default).msg; omega),(by have hg0 : ¬ ((placeE (List.take i h) (List.take i h).length (1 : Int) ((h.getD i default).msg)) < (0 : Int)) := of_decide_eq_false (not_f hG); have h9 := place_lt (h := h) (i := i) (k := 1) (m := (h.getD i default).msg); have h8 := ve_p (h := h) (i := i) (by omega) 1 (h.getD i default).msg; omega)⟩),(fun hG => ⟨hG,tt⟩),(fun hG => ⟨hG,tt⟩),(fun _ => trivial),(fun hG => ⟨hG,tt⟩),(fun hG => ⟨⟨hG,tt⟩,⟨hG,tt⟩,tt⟩),⟨tt,(fun _ => trivial),(fun hp => ⟨(not_t hp),tt⟩)⟩,tt⟩ ?_
        refine W.if' ((decide ((placeE (List.take i h) (List.take i h).length (1 : Int) ((h.getD i default).msg)) < (0 : Int))) || (decide (((h.getD (Int.toNat (placeE (List.take i h) (List.take i h).length (1 : Int) ((h.getD i default).msg))) default).proc) = ((h.getD i default).proc)))) (.b ((decide ((placeE (List.take i h) (List.take i h).length (1 : Int) ((h.getD i default).msg)) < (0 : Int))) || (decide (((h.getD (Int.toNat (placeE (List.take i h) (List.take i h).length (1 : Int) ((h.getD i default).msg))) default).proc) = ((h.getD i default).proc))))) (by kernel_rfl) rfl trivial ?_ ?_
        ·intro h67
         refine Kk cok tab15 hnt [] [2] (⟨[(2,.b false)],[(4,⟨47,.fix [.i ((h.getD i default).proc),.i ((h.getD i default).kind),.i ((h.getD i default).msg)]⟩)],[4,999]⟩)
          (True ∧ True)
          ⟨tt,tt⟩ ?_
         refine W.ret (blockQ_ret (thenQ_ret (thenQ_ret (blockQ_ret (thenQ_ret ?_)))))
         exact endQ_ret (.b false) (by kernel_rfl) (@cast ((.bool false : Value) = .bool (validE h)) _ (by kernel_rfl) (congrArg Value.bool (by unfold validE; symm; exact and_fr (allN_false (i := i) (by omega) (ve_5 (by omega) h49 h67)))))
        ·intro n67
         have n67_0 : ¬ ((placeE (List.take i h) (List.take i h).length (1 : Int) ((h.getD i default).msg)) < (0 : Int)) := of_decide_eq_false (or_l n67)
         have n67_1 : ¬ (((h.getD (Int.toNat (placeE (List.take i h) (List.take i h).length (1 : Int) ((h.getD i default).msg))) default).proc) = ((h.getD i default).proc)) := of_decide_eq_false (or_r n67)
         refine W.skip (blockQ_normal (thenQ_normal ?_))
         refine Lk cok tab15 hnt [] (⟨[(0,.sl (.events h)),(9,.sl (.events h)),(10,.i (h.length : Int)),(11,.i (((i + 1) : Nat) : Int)),(67,.b ((decide ((placeE (List.take i h) (List.take i h).length (1 : Int) ((h.getD i default).msg)) < (0 : Int))) || (decide (((h.getD (Int.toNat (placeE (List.take i h) (List.take i h).length (1 : Int) ((h.getD i default).msg))) default).proc) = ((h.getD i default).proc))))),(68,.i (((i + 1) : Nat) : Int))],[(4,⟨47,.fix [.i ((h.getD i default).proc),.i ((h.getD i default).kind),.i ((h.getD i default).msg)]⟩)],[4,999]⟩)
          ((True ∧ True ∧ (Fits .i64 (((i + 1) : Nat) : Int))) ∧ True ∧ True)
          ⟨⟨tt,tt,(by exact fits_i64 (by omega) (by omega))⟩,tt,tt⟩ ?_
         refine thenQ_normal ?_
         refine ⟨((i + 1)),(show ((i + 1) ≤ h.length) ∧ (∀ j,j < (i + 1) → iAt h j = true) from ⟨(by first | assumption | omega | rfl | (intro _ hjj; omega) | (simp; done) | (simp; omega)),(by first | exact upto_succ hA (ve_6 (by omega) n25 n28 n46 (.inr n67)) | exact upto_succ hA (ve_6 (by omega) n25 n28 n46 (.inl n49)) | exact upto_succ hA (ve_3 n25 h28 (by omega)))⟩),(show h.length - (i + 1) < h.length - i from (by first | omega | (simp_all; omega))),?_⟩
         exact Sub.of [] (@cast (((Sd (.events h)) ∧ (Sd (.events h)) ∧ (Si (h.length : Int)) ∧ (Si (((i + 1) : Nat) : Int)) ∧ True) ∧ True ∧ (true = true) ∧ (true = true)) _ (by kernel_rfl) ⟨⟨rfl,rfl,rfl,rfl,tt⟩,tt,rfl,rfl⟩)
       ·intro n49
        refine W.skip (blockQ_normal (thenQ_normal ?_))
        refine Lk cok tab15 hnt [] (⟨[(0,.sl (.events h)),(3,.i ((i : Nat) : Int)),(4,.ptr 4 0),(9,.sl (.events h)),(10,.i (h.length : Int)),(11,.i (((i + 1) : Nat) : Int)),(49,.b (decide (((h.getD i default).kind) = (2 : Int)))),(68,.i (((i + 1) : Nat) : Int))],[(4,⟨47,.fix [.i ((h.getD i default).proc),.i ((h.getD i default).kind),.i ((h.getD i default).msg)]⟩)],[4,999]⟩)
         ((True ∧ True ∧ (Fits .i64 (((i + 1) : Nat) : Int))) ∧ True ∧ True)
         ⟨⟨tt,tt,(by exact fits_i64 (by omega) (by omega))⟩,tt,tt⟩ ?_
        refine thenQ_normal ?_
        refine ⟨((i + 1)),(show ((i + 1) ≤ h.length) ∧ (∀ j,j < (i + 1) → iAt h j = true) from ⟨(by first | assumption | omega | rfl | (intro _ hjj; omega) | (simp; done) | (simp; omega)),(by first | exact upto_succ hA (ve_6 (by omega) n25 n28 n46 (.inr n67)) | exact upto_succ hA (ve_6 (by omega) n25 n28 n46 (.inl n49)) | exact upto_succ hA (ve_3 n25 h28 (by omega)))⟩),(show h.length - (i + 1) < h.length - i from (by first | omega | (simp_all; omega))),?_⟩
        exact Sub.of [] (@cast (((Sd (.events h)) ∧ (Sd (.events h)) ∧ (Si (h.length : Int)) ∧ (Si (((i + 1) : Nat) : Int)) ∧ True) ∧ True ∧ (true = true) ∧ (true = true)) _ (by kernel_rfl) ⟨⟨rfl,rfl,rfl,rfl,tt⟩,tt,rfl,rfl⟩)
   ·intro n12
    refine W.exit (thenQ_exit (thenQ_exit (blockQ_hit ?_)))
    refine thenQ_normal ?_
    refine Kk cok tab15 hnt [] [2] (⟨[(2,.b true)],[],[999]⟩)
     (True ∧ True)
     ⟨tt,tt⟩ ?_
    refine W.ret ?_
    exact endQ_ret (.b true) (by kernel_rfl) (@cast ((.bool true : Value) = .bool (validE h)) _ (by kernel_rfl) (congrArg Value.bool (by unfold validE; symm; exact and_t (decide_eq_true (by omega)) (allN_true (fun j hj => hA j (by omega))))))
theorem ent15 : Entr prog 15 := ⟨_,func15,rfl,by decide⟩
end Go.Proofs.Try

set_option linter.unusedSimpArgs false
set_option linter.unusedVariables false
namespace Go.Proofs.Try
open Go.Ab Go.RowKit
def fs22 : FnS := fnS [.s .events,.o] [.events,.int] (fun _ (h,c,_) => (.b (isSetE h c),[],True))
abbrev T22 : Tab := lk [(15,fs15),(35,fs35)]
theorem tab22 : TabOK prog T22 := (TabOK.cons ok15 ent15 (TabOK.cons ok35 ent35 TabOK.nil))
set_option maxRecDepth 100000 in
set_option maxHeartbeats 1000000 in
theorem ok22 : FnOK prog 22 fs22 := by
 refine FnOK.mk cok func22 rfl rfl rfl ?_
 rintro fl ⟨(h : List EventD),(c : Int),_⟩ hpre F hnt0 _
 have hnt : F.nt = 16 := hnt0.trans ntmps22
 clear hpre
 refine W.to (⟨[(0,.sl (.events h)),(1,.i c)],[],[999]⟩) rfl ?_
 refine W.lenOf 0 (.events h) (by kernel_rfl) ?_
 intro hl_h; replace hl_h : List.length h ≤ 9223372036854775807 := hl_h
 refine Kk cok tab22 hnt [] [0,1] (⟨[(0,.sl (.events h)),(1,.i c)],[],[999]⟩)
  (True ∧ True)
  ⟨tt,tt⟩ ?_
 refine Kk cok tab22 hnt [] [4] (⟨[(4,.b ((validE h) && (within c (0 : Int) ((shlI .i64 (1 : Int) (h.length : Int)) - (1 : Int)))))],[],[999]⟩)
  ((fun (Z1:Bool)=>(True ∧ ((True ∧ ((True ∧ True) ∧ True)) ∧ (True ∧ ((Z1 = true → True) ∧ ((Z1 = true → True) ∧ ((Z1 = true → ((Z1 = true) ∧ True)) ∧ ((Z1 = true → (((Z1 = true) ∧ True) ∧ (Fits .u64 (h.length : Int)))) ∧ ((Z1 = true → (True ∧ (((Z1 = true) ∧ True) ∧ ((0 ≤ (h.length : Int)) ∧ (Fits .i64 (shlI .i64 (1 : Int) (h.length : Int))))))) ∧ ((Z1 = true → (((Z1 = true) ∧ True) ∧ (True ∧ (Fits .i64 ((shlI .i64 (1 : Int) (h.length : Int)) - (1 : Int)))))) ∧ ((Z1 = true → (True ∧ ((((Z1 = true) ∧ True) ∧ (True ∧ (((Z1 = true) ∧ True) ∧ True))) ∧ True))) ∧ ((True ∧ ((Z1 = true → (Z1 = true) ∧ True) ∧ (Z1 = false → True))) ∧ (True ∧ True))))))))))))) (validE h))
  ⟨tt,⟨tt,⟨tt,tt⟩,tt⟩,tt,(fun _ => trivial),(fun _ => trivial),(fun hG => ⟨hG,tt⟩),(fun hG => ⟨⟨hG,tt⟩,(by have hn : h.length ≤ 7 := of_decide_eq_true (and_l hG); exact fits_u64 (by omega) (by omega))⟩),(fun hG => ⟨tt,⟨hG,tt⟩,(by omega),(by have hn : h.length ≤ 7 := of_decide_eq_true (and_l hG); exact fits_shl (by omega))⟩),(fun hG => ⟨⟨hG,tt⟩,tt,(by have hn : h.length ≤ 7 := of_decide_eq_true (and_l hG); rw [shl_one (by omega)]; have hp7 := Nat.pow_le_pow_right (show 0 < 2 by omega) hn; have hp0 := Nat.pow_pos (n := h.length) (show 0 < 2 by omega); exact fits_i64 (by omega) (by omega))⟩),(fun hG => ⟨tt,⟨⟨hG,tt⟩,tt,⟨hG,tt⟩,tt⟩,tt⟩),⟨tt,(fun hp => ⟨hp,tt⟩),(fun _ => trivial)⟩,tt,tt⟩ ?_
 refine W.ret ?_
 exact endQ_ret (.b ((validE h) && (within c (0 : Int) ((shlI .i64 (1 : Int) (h.length : Int)) - (1 : Int))))) (by kernel_rfl) (@cast ((.bool ((validE h) && (within c (0 : Int) ((shlI .i64 (1 : Int) (h.length : Int)) - (1 : Int)))) : Value) = .bool (isSetE h c)) _ (by kernel_rfl) (congrArg Value.bool (by exact set_val)))
theorem ent22 : Entr prog 22 := ⟨_,func22,rfl,by decide⟩
end Go.Proofs.Try

set_option linter.unusedSimpArgs false
set_option linter.unusedVariables false
namespace Go.Proofs.Try
open Go.Ab Go.RowKit
def fs30 : FnS := fnS [.s .events] [.events] (fun _ (h,_) => (.sl (.ints (pastL h h.length)),[],(h.length ≤ 60)))
abbrev T30 : Tab := lk []
theorem tab30 : TabOK prog T30 := TabOK.nil
set_option maxRecDepth 100000 in
set_option maxHeartbeats 1000000 in
theorem ok30 : FnOK prog 30 fs30 := by
 refine FnOK.mk cok func30 rfl rfl rfl ?_
 rintro fl ⟨(h : List EventD),_⟩ hpre F hnt0 _
 have hnt : F.nt = 64 := hnt0.trans ntmps30
 replace hpre : (h.length ≤ 60) := hpre
 have hn := hpre
 refine W.to (⟨[(0,.sl (.events h))],[],[999]⟩) rfl ?_
 refine W.lenOf 0 (.events h) (by kernel_rfl) ?_
 intro hl_h; replace hl_h : List.length h ≤ 9223372036854775807 := hl_h
 refine Kk cok tab30 hnt [] [0] (⟨[(0,.sl (.events h))],[],[999]⟩)
  (True ∧ True)
  ⟨tt,tt⟩ ?_
 refine Kk cok tab30 hnt [9] [0,3] (⟨[(0,.sl (.events h)),(3,.own 9 (List.length ([] : List Int)))],[(9,⟨3,.row (.ints ([] : List Int))⟩)],[9,999]⟩)
  (True ∧ True ∧ True)
  ⟨tt,tt,tt⟩ ?_
 refine W.seq ?_
 refine Kk cok tab30 hnt [] [0,3,10,11,12] (⟨[(0,.sl (.events h)),(3,.own 9 (List.length ([] : List Int))),(10,.sl (.events h)),(11,.i (h.length : Int)),(12,.i (0 : Int))],[(9,⟨3,.row (.ints ([] : List Int))⟩)],[9,999]⟩)
  (True ∧ True ∧ True ∧ True)
  ⟨tt,tt,tt,tt⟩ ?_
 refine W.block ?_
 refine W.loop (ι := Nat × (List Int)) (fun (x : Nat × (List Int)) => match x with | (i,o) => (⟨[(0,.sl (.events h)),(3,.own 9 o.length),(10,.sl (.events h)),(11,.i (h.length : Int)),(12,.i ((i : Nat) : Int))],[(9,⟨3,.row (.ints o)⟩)],[9,999]⟩ : St))
  (fun (x : Nat × (List Int)) => match x with | (i,o) => (i ≤ h.length) ∧ (o = pastL h i))
  (fun (x : Nat × (List Int)) => match x with | (i,o) => (h.length - i : Nat)) (0,([] : List Int)) ?_ ?_ ?_
 ·exact (show (0 ≤ h.length) ∧ (([] : List Int) = pastL h 0) from ⟨(by first | assumption | omega | rfl | (intro _ hjj; omega) | (simp; done) | (simp; omega)),(by rfl)⟩)
 ·exact Sub.of [] (@cast (((Sd (.events h)) ∧ (((9 : Nat) = 9) ∧ ((List.length ([] : List Int)) = (List.length ([] : List Int))) ∧ ((9 : Nat) ∈ ([9,999] : List Nat))) ∧ (Sd (.events h)) ∧ (Si (h.length : Int)) ∧ ((.int .i64 (0 : Int) : Value) = .int .i64 ((0 : Nat) : Int)) ∧ True) ∧ ((((3 : Nat) = 3) ∧ (Sd (.ints ([] : List Int))) ∧ ((9 : Nat) ∈ ([9,999] : List Nat))) ∧ True) ∧ (true = true) ∧ (true = true)) _ (by kernel_rfl) ⟨⟨rfl,⟨rfl,rfl,(by decide)⟩,rfl,rfl,(congrArg (Value.int .i64) (by first | rfl | omega | assumption | simp | simp_all)),tt⟩,⟨⟨rfl,rfl,(by decide)⟩,tt⟩,rfl,rfl⟩)
 ·rintro ⟨i,o⟩ hC0
  have hC : (i ≤ h.length) ∧ (o = pastL h i) := hC0
  clear hC0
  obtain ⟨hi,ho⟩ := hC
  refine W.to (⟨[(0,.sl (.events h)),(3,.own 9 o.length),(10,.sl (.events h)),(11,.i (h.length : Int)),(12,.i ((i : Nat) : Int))],[(9,⟨3,.row (.ints o)⟩)],[9,999]⟩) rfl ?_
  have hol : o.length = i := by rw [ho]; exact pastL_len h i
  refine Kk cok tab30 hnt [] [0,3,10,11,12,13] (⟨[(0,.sl (.events h)),(3,.own 9 o.length),(10,.sl (.events h)),(11,.i (h.length : Int)),(12,.i ((i : Nat) : Int)),(13,.b (decide (((i : Nat) : Int) < (h.length : Int))))],[(9,⟨3,.row (.ints o)⟩)],[9,999]⟩)
   ((True ∧ True ∧ True) ∧ True)
   ⟨⟨tt,tt,tt⟩,tt⟩ ?_
  refine W.seq ?_
  refine W.ifP (((i : Nat) : Int) < (h.length : Int)) (.b (decide (((i : Nat) : Int) < (h.length : Int)))) (by kernel_rfl) rfl trivial ?_ ?_
  ·intro h13
   refine W.skip (thenQ_normal ?_)
   refine W.seq ?_
   refine W.block ?_
   refine Kk cok tab30 hnt [] [0,3,4,5,10,11,12] (⟨[(0,.sl (.events h)),(3,.own 9 o.length),(4,.i ((i : Nat) : Int)),(5,.ptr 5 0),(10,.sl (.events h)),(11,.i (h.length : Int)),(12,.i ((i : Nat) : Int))],[(5,⟨47,.fix [.i ((h.getD i default).proc),.i ((h.getD i default).kind),.i ((h.getD i default).msg)]⟩),(9,⟨3,.row (.ints o)⟩)],[5,9,999]⟩)
    (True ∧ (True ∧ True ∧ (0 ≤ ((i : Nat) : Int)) ∧ (((i : Nat) : Int) < (h.length : Int))) ∧ True ∧ True ∧ True ∧ (True ∧ True) ∧ True)
    ⟨tt,⟨tt,tt,(by omega),(by omega)⟩,tt,tt,tt,⟨tt,tt⟩,tt⟩ ?_
   refine Kk cok tab30 hnt [] [0,3,4,5,6,10,11,12] (⟨[(0,.sl (.events h)),(3,.own 9 o.length),(4,.i ((i : Nat) : Int)),(5,.ptr 5 0),(6,.i (shlI .i64 (1 : Int) ((i : Nat) : Int))),(10,.sl (.events h)),(11,.i (h.length : Int)),(12,.i ((i : Nat) : Int))],[(5,⟨47,.fix [.i ((h.getD i default).proc),.i ((h.getD i default).kind),.i ((h.getD i default).msg)]⟩),(9,⟨3,.row (.ints o)⟩)],[5,9,999]⟩)
    (True ∧ (True ∧ (Fits .u64 ((i : Nat) : Int))) ∧ (True ∧ True ∧ (0 ≤ ((i : Nat) : Int)) ∧ (Fits .i64 (shlI .i64 (1 : Int) ((i : Nat) : Int)))) ∧ True ∧ True)
    ⟨tt,⟨tt,(by exact fits_u64 (by omega) (by omega))⟩,⟨tt,tt,(by omega),(by exact fits_shl (by omega))⟩,tt,tt⟩ ?_
   refine W.seq ?_
   refine Kk cok tab30 hnt [] [0,3,5,6,10,11,12,22,23,24] (⟨[(0,.sl (.events h)),(3,.own 9 o.length),(5,.ptr 5 0),(6,.i (shlI .i64 (1 : Int) ((i : Nat) : Int))),(10,.sl (.events h)),(11,.i (h.length : Int)),(12,.i ((i : Nat) : Int)),(22,.sl (.events (List.take i h))),(23,.i (((List.length (List.take i h)) : Nat) : Int)),(24,.i (0 : Int))],[(5,⟨47,.fix [.i ((h.getD i default).proc),.i ((h.getD i default).kind),.i ((h.getD i default).msg)]⟩),(9,⟨3,.row (.ints o)⟩)],[5,9,999]⟩)
    (True ∧ True ∧ (True ∧ True ∧ True ∧ (0 ≤ (0 : Int)) ∧ ((0 : Int) ≤ ((i : Nat) : Int)) ∧ (((i : Nat) : Int) ≤ (h.length : Int))) ∧ True ∧ True ∧ True)
    ⟨tt,tt,⟨tt,tt,tt,(by omega),(by omega),(by omega)⟩,tt,tt,tt⟩ ?_
   refine W.block ?_
   refine W.loop (ι := Nat × Int) (fun (x : Nat × Int) => match x with | (k,x) => (⟨[(0,.sl (.events h)),(3,.own 9 o.length),(5,.ptr 5 0),(6,.i x),(10,.sl (.events h)),(11,.i (h.length : Int)),(12,.i ((i : Nat) : Int)),(22,.sl (.events (List.take i h))),(23,.i (((List.length (List.take i h)) : Nat) : Int)),(24,.i ((k : Nat) : Int))],[(5,⟨47,.fix [.i ((h.getD i default).proc),.i ((h.getD i default).kind),.i ((h.getD i default).msg)]⟩),(9,⟨3,.row (.ints o)⟩)],[5,9,999]⟩ : St))
    (fun (x : Nat × Int) => match x with | (k,x) => (k ≤ i) ∧ (x = pastStep h (pastL h i) i k))
    (fun (x : Nat × Int) => match x with | (k,x) => (i - k : Nat)) (0,(shlI .i64 (1 : Int) ((i : Nat) : Int))) ?_ ?_ ?_
   ·exact (show (0 ≤ i) ∧ ((shlI .i64 (1 : Int) ((i : Nat) : Int)) = pastStep h (pastL h i) i 0) from ⟨(by first | assumption | omega | rfl | (intro _ hjj; omega) | (simp; done) | (simp; omega)),(by first | rfl | (rw [shl_one (by omega),← power_nat]; rfl))⟩)
   ·exact Sub.of [] (@cast (((Sd (.events h)) ∧ (((9 : Nat) = 9) ∧ (o.length = o.length) ∧ ((9 : Nat) ∈ ([5,9,999] : List Nat))) ∧ (((5 : Nat) = 5) ∧ ((0 : Nat) = 0) ∧ ((5 : Nat) ∈ ([5,9,999] : List Nat))) ∧ (Si (shlI .i64 (1 : Int) ((i : Nat) : Int))) ∧ (Sd (.events h)) ∧ (Si (h.length : Int)) ∧ (Si ((i : Nat) : Int)) ∧ (Sd (.events (List.take i h))) ∧ (Si (((List.length (List.take i h)) : Nat) : Int)) ∧ ((.int .i64 (0 : Int) : Value) = .int .i64 ((0 : Nat) : Int)) ∧ True) ∧ ((((47 : Nat) = 47) ∧ ((Si ((h.getD i default).proc)) ∧ (Si ((h.getD i default).kind)) ∧ (Si ((h.getD i default).msg)) ∧ True) ∧ ((5 : Nat) ∈ ([5,9,999] : List Nat))) ∧ (((3 : Nat) = 3) ∧ (Sd (.ints o)) ∧ ((9 : Nat) ∈ ([5,9,999] : List Nat))) ∧ True) ∧ (true = true) ∧ (true = true)) _ (by kernel_rfl) ⟨⟨rfl,⟨rfl,rfl,(by decide)⟩,⟨rfl,rfl,(by decide)⟩,rfl,rfl,rfl,rfl,rfl,rfl,(congrArg (Value.int .i64) (by first | rfl | omega | assumption | simp | simp_all)),tt⟩,⟨⟨rfl,⟨rfl,rfl,rfl,tt⟩,(by decide)⟩,⟨rfl,rfl,(by decide)⟩,tt⟩,rfl,rfl⟩)
   ·rintro ⟨k,x⟩ hC0
    have hC : (k ≤ i) ∧ (x = pastStep h (pastL h i) i k) := hC0
    clear hC0
    obtain ⟨hk,hx⟩ := hC
    refine W.to (⟨[(0,.sl (.events h)),(3,.own 9 o.length),(5,.ptr 5 0),(6,.i x),(10,.sl (.events h)),(11,.i (h.length : Int)),(12,.i ((i : Nat) : Int)),(22,.sl (.events (List.take i h))),(23,.i (((List.length (List.take i h)) : Nat) : Int)),(24,.i ((k : Nat) : Int))],[(5,⟨47,.fix [.i ((h.getD i default).proc),.i ((h.getD i default).kind),.i ((h.getD i default).msg)]⟩),(9,⟨3,.row (.ints o)⟩)],[5,9,999]⟩) rfl ?_
    refine Kk cok tab30 hnt [] [0,3,5,6,10,11,12,22,23,24,25] (⟨[(0,.sl (.events h)),(3,.own 9 o.length),(5,.ptr 5 0),(6,.i x),(10,.sl (.events h)),(11,.i (h.length : Int)),(12,.i ((i : Nat) : Int)),(22,.sl (.events (List.take i h))),(23,.i (((List.length (List.take i h)) : Nat) : Int)),(24,.i ((k : Nat) : Int)),(25,.b (decide (((k : Nat) : Int) < (((List.length (List.take i h)) : Nat) : Int))))],[(5,⟨47,.fix [.i ((h.getD i default).proc),.i ((h.getD i default).kind),.i ((h.getD i default).msg)]⟩),(9,⟨3,.row (.ints o)⟩)],[5,9,999]⟩)
     ((True ∧ True ∧ True) ∧ True)
     ⟨⟨tt,tt,tt⟩,tt⟩ ?_
    refine W.seq ?_
    refine W.ifP (((k : Nat) : Int) < (((List.length (List.take i h)) : Nat) : Int)) (.b (decide (((k : Nat) : Int) < (((List.length (List.take i h)) : Nat) : Int)))) (by kernel_rfl) rfl trivial ?_ ?_
    ·intro h25
     have h25' := h25
     simp only [List.length_append,List.length_cons,List.length_nil,List.length_take,List.length_drop,List.length_set,List.length_replicate,List.length_map] at h25'
     refine W.skip (thenQ_normal ?_)
     refine W.seq ?_
     refine W.block ?_
     refine Kk cok tab30 hnt [] [0,3,5,6,7,8,10,11,12,22,23,24] (⟨[(0,.sl (.events h)),(3,.own 9 o.length),(5,.ptr 5 0),(6,.i x),(7,.i ((k : Nat) : Int)),(8,.ptr 8 0),(10,.sl (.events h)),(11,.i (h.length : Int)),(12,.i ((i : Nat) : Int)),(22,.sl (.events (List.take i h))),(23,.i (((List.length (List.take i h)) : Nat) : Int)),(24,.i ((k : Nat) : Int))],[(5,⟨47,.fix [.i ((h.getD i default).proc),.i ((h.getD i default).kind),.i ((h.getD i default).msg)]⟩),(8,⟨47,.fix [.i ((List.getD (List.take i h) k default).proc),.i ((List.getD (List.take i h) k default).kind),.i ((List.getD (List.take i h) k default).msg)]⟩),(9,⟨3,.row (.ints o)⟩)],[8,5,9,999]⟩)
      (True ∧ (True ∧ True ∧ (0 ≤ ((k : Nat) : Int)) ∧ (((k : Nat) : Int) < (((List.length (List.take i h)) : Nat) : Int))) ∧ True ∧ True ∧ True ∧ (True ∧ True) ∧ True)
      ⟨tt,⟨tt,tt,(by omega),(by (first | omega | (simp only [List.length_set]; done) | (simp only [List.length_append,List.length_cons,List.length_nil,List.length_take,List.length_drop,List.length_set,List.length_replicate,List.length_map] at *; omega) | assumption))⟩,tt,tt,tt,⟨tt,tt⟩,tt⟩ ?_
     refine Kk cok tab30 hnt [] [0,3,5,6,7,10,11,12,22,23,24,50] (⟨[(0,.sl (.events h)),(3,.own 9 o.length),(5,.ptr 5 0),(6,.i x),(7,.i ((k : Nat) : Int)),(10,.sl (.events h)),(11,.i (h.length : Int)),(12,.i ((i : Nat) : Int)),(22,.sl (.events (List.take i h))),(23,.i (((List.length (List.take i h)) : Nat) : Int)),(24,.i ((k : Nat) : Int)),(50,.b ((decide (((List.getD (List.take i h) k default).proc) = ((h.getD i default).proc))) || (((decide (((h.getD i default).kind) = (2 : Int))) && (decide (((List.getD (List.take i h) k default).kind) = (1 : Int)))) && (decide (((List.getD (List.take i h) k default).msg) = ((h.getD i default).msg))))))],[(5,⟨47,.fix [.i ((h.getD i default).proc),.i ((h.getD i default).kind),.i ((h.getD i default).msg)]⟩),(8,⟨47,.fix [.i ((List.getD (List.take i h) k default).proc),.i ((List.getD (List.take i h) k default).kind),.i ((List.getD (List.take i h) k default).msg)]⟩),(9,⟨3,.row (.ints o)⟩)],[8,5,9,999]⟩)
      ((fun (Z1:Bool)=>((fun (Z2:Bool)=>((fun (Z3:Bool)=>((fun (Z4:Bool)=>((fun (Z5:Bool)=>((fun (Z6:Bool)=>(True ∧ (True ∧ (True ∧ (True ∧ ((True ∧ (True ∧ True)) ∧ (True ∧ ((Z4 = true → True) ∧ ((Z4 = true → ((Z4 = true) ∧ True)) ∧ ((Z4 = true → (((Z4 = true) ∧ True) ∧ (True ∧ True))) ∧ ((Z4 = true → True) ∧ ((Z5 = true → True) ∧ ((Z5 = true → ((Z5 = true) ∧ True)) ∧ ((Z5 = true → (((Z5 = true) ∧ True) ∧ (True ∧ True))) ∧ ((Z4 = true → (((Z4 = true) ∧ ((Z4 = true) ∧ True)) ∧ ((Z1 = true → (Z5 = true) ∧ True) ∧ (Z1 = false → True)))) ∧ ((Z4 = true → True) ∧ ((Z6 = true → True) ∧ ((Z6 = true → ((Z6 = true) ∧ True)) ∧ ((Z6 = true → True) ∧ ((Z6 = true → ((Z6 = true) ∧ True)) ∧ ((Z6 = true → (((Z6 = true) ∧ True) ∧ (((Z6 = true) ∧ True) ∧ True))) ∧ ((Z4 = true → (((Z4 = true) ∧ ((Z4 = true) ∧ True)) ∧ ((Z2 = true → (Z6 = true) ∧ True) ∧ (Z2 = false → True)))) ∧ ((True ∧ ((Z3 = true → True) ∧ (Z3 = false → (Z4 = true) ∧ True))) ∧ True))))))))))))))))))))))) (Z4 && (Z4 && Z2)))) (Z4 && (Z4 && Z1)))) (!Z3))) (decide (((List.getD (List.take i h) k default).proc) = ((h.getD i default).proc))))) (Z1 && (decide (((List.getD (List.take i h) k default).kind) = (1 : Int)))))) (decide (((h.getD i default).kind) = (2 : Int))))
      ⟨tt,tt,tt,tt,⟨tt,tt,tt⟩,tt,(fun _ => trivial),(fun hG => ⟨hG,tt⟩),(fun hG => ⟨⟨hG,tt⟩,tt,tt⟩),(fun _ => trivial),(fun _ => trivial),(fun hG => ⟨hG,tt⟩),(fun hG => ⟨⟨hG,tt⟩,tt,tt⟩),(fun hG => ⟨⟨hG,hG,tt⟩,(fun hp => ⟨(and_t hG (and_t hG hp)),tt⟩),(fun _ => trivial)⟩),(fun _ => trivial),(fun _ => trivial),(fun hG => ⟨hG,tt⟩),(fun _ => trivial),(fun hG => ⟨hG,tt⟩),(fun hG => ⟨⟨hG,tt⟩,⟨hG,tt⟩,tt⟩),(fun hG => ⟨⟨hG,hG,tt⟩,(fun hp => ⟨(and_t hG (and_t hG hp)),tt⟩),(fun _ => trivial)⟩),⟨tt,(fun _ => trivial),(fun hp => ⟨(not_t hp),tt⟩)⟩,tt⟩ ?_
     refine W.if' ((decide (((List.getD (List.take i h) k default).proc) = ((h.getD i default).proc))) || (((decide (((h.getD i default).kind) = (2 : Int))) && (decide (((List.getD (List.take i h) k default).kind) = (1 : Int)))) && (decide (((List.getD (List.take i h) k default).msg) = ((h.getD i default).msg))))) (.b ((decide (((List.getD (List.take i h) k default).proc) = ((h.getD i default).proc))) || (((decide (((h.getD i default).kind) = (2 : Int))) && (decide (((List.getD (List.take i h) k default).kind) = (1 : Int)))) && (decide (((List.getD (List.take i h) k default).msg) = ((h.getD i default).msg)))))) (by kernel_rfl) rfl trivial ?_ ?_
     ·intro h50
      refine Lk cok tab30 hnt [] (⟨[(0,.sl (.events h)),(3,.own 9 o.length),(5,.ptr 5 0),(6,.i (bitsI .or .i64 x (o.getD k 0))),(7,.i ((k : Nat) : Int)),(10,.sl (.events h)),(11,.i (h.length : Int)),(12,.i ((i : Nat) : Int)),(22,.sl (.events (List.take i h))),(23,.i (((List.length (List.take i h)) : Nat) : Int)),(24,.i ((k : Nat) : Int)),(50,.b ((decide (((List.getD (List.take i h) k default).proc) = ((h.getD i default).proc))) || (((decide (((h.getD i default).kind) = (2 : Int))) && (decide (((List.getD (List.take i h) k default).kind) = (1 : Int)))) && (decide (((List.getD (List.take i h) k default).msg) = ((h.getD i default).msg)))))),(51,.i x),(52,.own 9 o.length),(53,.i ((k : Nat) : Int)),(54,.pel 9 1 k 0),(55,.i (o.getD k 0)),(56,.i (bitsI .or .i64 x (o.getD k 0)))],[(5,⟨47,.fix [.i ((h.getD i default).proc),.i ((h.getD i default).kind),.i ((h.getD i default).msg)]⟩),(8,⟨47,.fix [.i ((List.getD (List.take i h) k default).proc),.i ((List.getD (List.take i h) k default).kind),.i ((List.getD (List.take i h) k default).msg)]⟩),(9,⟨3,.row (.ints o)⟩)],[8,5,9,999]⟩)
       (True ∧ True ∧ True ∧ (True ∧ True ∧ (0 ≤ ((k : Nat) : Int)) ∧ (((k : Nat) : Int) < (o.length : Int))) ∧ (True ∧ (k < o.length)) ∧ (True ∧ True ∧ True) ∧ True ∧ True)
       ⟨tt,tt,tt,⟨tt,tt,(by omega),(by omega)⟩,⟨tt,(by omega)⟩,⟨tt,tt,tt⟩,tt,tt⟩ ?_
      refine blockQ_normal (thenQ_normal ?_)
      refine Lk cok tab30 hnt [] (⟨[(0,.sl (.events h)),(3,.own 9 o.length),(5,.ptr 5 0),(6,.i (bitsI .or .i64 x (o.getD k 0))),(7,.i ((k : Nat) : Int)),(10,.sl (.events h)),(11,.i (h.length : Int)),(12,.i ((i : Nat) : Int)),(22,.sl (.events (List.take i h))),(23,.i (((List.length (List.take i h)) : Nat) : Int)),(24,.i (((k + 1) : Nat) : Int)),(50,.b ((decide (((List.getD (List.take i h) k default).proc) = ((h.getD i default).proc))) || (((decide (((h.getD i default).kind) = (2 : Int))) && (decide (((List.getD (List.take i h) k default).kind) = (1 : Int)))) && (decide (((List.getD (List.take i h) k default).msg) = ((h.getD i default).msg)))))),(51,.i x),(52,.own 9 o.length),(53,.i ((k : Nat) : Int)),(54,.pel 9 1 k 0),(55,.i (o.getD k 0)),(56,.i (bitsI .or .i64 x (o.getD k 0))),(57,.i (((k + 1) : Nat) : Int))],[(5,⟨47,.fix [.i ((h.getD i default).proc),.i ((h.getD i default).kind),.i ((h.getD i default).msg)]⟩),(8,⟨47,.fix [.i ((List.getD (List.take i h) k default).proc),.i ((List.getD (List.take i h) k default).kind),.i ((List.getD (List.take i h) k default).msg)]⟩),(9,⟨3,.row (.ints o)⟩)],[8,5,9,999]⟩)
       ((True ∧ True ∧ (Fits .i64 (((k + 1) : Nat) : Int))) ∧ True ∧ True)
       ⟨⟨tt,tt,(by exact fits_i64 (by omega) (by omega))⟩,tt,tt⟩ ?_
      refine thenQ_normal ?_
      refine ⟨((k + 1),(bitsI .or .i64 x (o.getD k 0))),(show ((k + 1) ≤ i) ∧ ((bitsI .or .i64 x (o.getD k 0)) = pastStep h (pastL h i) i (k + 1)) from ⟨(by first | assumption | omega | rfl | (intro _ hjj; omega) | (simp; done) | (simp; omega)),(by first | (rw [hx,ho]; exact (past_yes (by rw [getD_take h (default : EventD) (show k < i by omega)] at h50; exact h50)).symm) | (rw [hx]; exact (past_no (by rw [getD_take h (default : EventD) (show k < i by omega)] at n50; exact n50)).symm))⟩),(show i - (k + 1) < i - k from (by first | omega | (simp_all; omega))),?_⟩
      exact Sub.of [] (@cast (((Sd (.events h)) ∧ (((9 : Nat) = 9) ∧ (o.length = o.length) ∧ ((9 : Nat) ∈ ([5,9,999] : List Nat))) ∧ (((5 : Nat) = 5) ∧ ((0 : Nat) = 0) ∧ ((5 : Nat) ∈ ([5,9,999] : List Nat))) ∧ (Si (bitsI .or .i64 x (o.getD k 0))) ∧ (Sd (.events h)) ∧ (Si (h.length : Int)) ∧ (Si ((i : Nat) : Int)) ∧ (Sd (.events (List.take i h))) ∧ (Si (((List.length (List.take i h)) : Nat) : Int)) ∧ (Si (((k + 1) : Nat) : Int)) ∧ True) ∧ ((((47 : Nat) = 47) ∧ ((Si ((h.getD i default).proc)) ∧ (Si ((h.getD i default).kind)) ∧ (Si ((h.getD i default).msg)) ∧ True) ∧ ((5 : Nat) ∈ ([5,9,999] : List Nat))) ∧ (((3 : Nat) = 3) ∧ (Sd (.ints o)) ∧ ((9 : Nat) ∈ ([5,9,999] : List Nat))) ∧ True) ∧ (true = true) ∧ (true = true)) _ (by kernel_rfl) ⟨⟨rfl,⟨rfl,rfl,(by decide)⟩,⟨rfl,rfl,(by decide)⟩,rfl,rfl,rfl,rfl,rfl,rfl,rfl,tt⟩,⟨⟨rfl,⟨rfl,rfl,rfl,tt⟩,(by decide)⟩,⟨rfl,rfl,(by decide)⟩,tt⟩,rfl,rfl⟩)
     ·intro n50
      have n50_0 : ¬ (((List.getD (List.take i h) k default).proc) = ((h.getD i default).proc)) := of_decide_eq_false (or_l n50)
      refine W.skip (blockQ_normal (thenQ_normal ?_))
      refine Lk cok tab30 hnt [] (⟨[(0,.sl (.events h)),(3,.own 9 o.length),(5,.ptr 5 0),(6,.i x),(7,.i ((k : Nat) : Int)),(10,.sl (.events h)),(11,.i (h.length : Int)),(12,.i ((i : Nat) : Int)),(22,.sl (.events (List.take i h))),(23,.i (((List.length (List.take i h)) : Nat) : Int)),(24,.i (((k + 1) : Nat) : Int)),(50,.b ((decide (((List.getD (List.take i h) k default).proc) = ((h.getD i default).proc))) || (((decide (((h.getD i default).kind) = (2 : Int))) && (decide (((List.getD (List.take i h) k default).kind) = (1 : Int)))) && (decide (((List.getD (List.take i h) k default).msg) = ((h.getD i default).msg)))))),(57,.i (((k + 1) : Nat) : Int))],[(5,⟨47,.fix [.i ((h.getD i default).proc),.i ((h.getD i default).kind),.i ((h.getD i default).msg)]⟩),(8,⟨47,.fix [.i ((List.getD (List.take i h) k default).proc),.i ((List.getD (List.take i h) k default).kind),.i ((List.getD (List.take i h) k default).msg)]⟩),(9,⟨3,.row (.ints o)⟩)],[8,5,9,999]⟩)
       ((True ∧ True ∧ (Fits .i64 (((k + 1) : Nat) : Int))) ∧ True ∧ True)
       ⟨⟨tt,tt,(by exact fits_i64 (by omega) (by omega))⟩,tt,tt⟩ ?_
      refine thenQ_normal ?_
      refine ⟨((k + 1),x),(show ((k + 1) ≤ i) ∧ (x = pastStep h (pastL h i) i (k + 1)) from ⟨(by first | assumption | omega | rfl | (intro _ hjj; omega) | (simp; done) | (simp; omega)),(by first | (rw [hx,ho]; exact (past_yes (by rw [getD_take h (default : EventD) (show k < i by omega)] at h50; exact h50)).symm) | (rw [hx]; exact (past_no (by rw [getD_take h (default : EventD) (show k < i by omega)] at n50; exact n50)).symm))⟩),(show i - (k + 1) < i - k from (by first | omega | (simp_all; omega))),?_⟩
      exact Sub.of [] (@cast (((Sd (.events h)) ∧ (((9 : Nat) = 9) ∧ (o.length = o.length) ∧ ((9 : Nat) ∈ ([5,9,999] : List Nat))) ∧ (((5 : Nat) = 5) ∧ ((0 : Nat) = 0) ∧ ((5 : Nat) ∈ ([5,9,999] : List Nat))) ∧ (Si x) ∧ (Sd (.events h)) ∧ (Si (h.length : Int)) ∧ (Si ((i : Nat) : Int)) ∧ (Sd (.events (List.take i h))) ∧ (Si (((List.length (List.take i h)) : Nat) : Int)) ∧ (Si (((k + 1) : Nat) : Int)) ∧ True) ∧ ((((47 : Nat) = 47) ∧ ((Si ((h.getD i default).proc)) ∧ (Si ((h.getD i default).kind)) ∧ (Si ((h.getD i default).msg)) ∧ True) ∧ ((5 : Nat) ∈ ([5,9,999] : List Nat))) ∧ (((3 : Nat) = 3) ∧ (Sd (.ints o)) ∧ ((9 : Nat) ∈ ([5,9,999] : List Nat))) ∧ True) ∧ (true = true) ∧ (true = true)) _ (by kernel_rfl) ⟨⟨rfl,⟨rfl,rfl,(by decide)⟩,⟨rfl,rfl,(by decide)⟩,rfl,rfl,rfl,rfl,rfl,rfl,rfl,tt⟩,⟨⟨rfl,⟨rfl,rfl,rfl,tt⟩,(by decide)⟩,⟨rfl,rfl,(by decide)⟩,tt⟩,rfl,rfl⟩)
    ·intro n25
     have n25' := n25
     simp only [List.length_append,List.length_cons,List.length_nil,List.length_take,List.length_drop,List.length_set,List.length_replicate,List.length_map] at n25'
     refine W.exit (thenQ_exit (thenQ_exit (blockQ_hit ?_)))
     refine thenQ_normal ?_
     refine Lk cok tab30 hnt [61] (⟨[(0,.sl (.events h)),(3,.own 61 (List.length (o ++ ([x])))),(5,.ptr 5 0),(6,.i x),(10,.sl (.events h)),(11,.i (h.length : Int)),(12,.i ((i : Nat) : Int)),(22,.sl (.events (List.take i h))),(23,.i (((List.length (List.take i h)) : Nat) : Int)),(24,.i ((k : Nat) : Int)),(25,.b (decide (((k : Nat) : Int) < (((List.length (List.take i h)) : Nat) : Int)))),(58,.own 9 o.length),(59,.i x),(60,.sl (.ints ([x]))),(61,.own 61 (List.length (o ++ ([x]))))],[(5,⟨47,.fix [.i ((h.getD i default).proc),.i ((h.getD i default).kind),.i ((h.getD i default).msg)]⟩),(61,⟨3,.row (.ints (o ++ ([x])))⟩)],[61,60,5,9,999]⟩)
      (True ∧ True ∧ (True ∧ True) ∧ ((True ∧ (o.length = o.length)) ∧ True ∧ ((o.length + (List.length ([x]))) * 8 ≤ 140737488355328)) ∧ True ∧ True)
      ⟨tt,tt,⟨tt,tt⟩,⟨⟨tt,rfl⟩,tt,(by (first | omega | (simp only [List.length_set]; done) | (simp only [List.length_append,List.length_cons,List.length_nil,List.length_take,List.length_drop,List.length_set,List.length_replicate,List.length_map] at *; omega) | assumption))⟩,tt,tt⟩ ?_
     refine blockQ_normal (thenQ_normal ?_)
     refine Lk cok tab30 hnt [] (⟨[(0,.sl (.events h)),(3,.own 61 (List.length (o ++ ([x])))),(5,.ptr 5 0),(6,.i x),(10,.sl (.events h)),(11,.i (h.length : Int)),(12,.i (((i + 1) : Nat) : Int)),(22,.sl (.events (List.take i h))),(23,.i (((List.length (List.take i h)) : Nat) : Int)),(24,.i ((k : Nat) : Int)),(25,.b (decide (((k : Nat) : Int) < (((List.length (List.take i h)) : Nat) : Int)))),(58,.own 9 o.length),(59,.i x),(60,.sl (.ints ([x]))),(61,.own 61 (List.length (o ++ ([x])))),(62,.i (((i + 1) : Nat) : Int))],[(5,⟨47,.fix [.i ((h.getD i default).proc),.i ((h.getD i default).kind),.i ((h.getD i default).msg)]⟩),(61,⟨3,.row (.ints (o ++ ([x])))⟩)],[61,60,5,9,999]⟩)
      ((True ∧ True ∧ (Fits .i64 (((i + 1) : Nat) : Int))) ∧ True ∧ True)
      ⟨⟨tt,tt,(by exact fits_i64 (by omega) (by omega))⟩,tt,tt⟩ ?_
     refine thenQ_normal ?_
     refine ⟨((i + 1),(o ++ ([x]))),(show ((i + 1) ≤ h.length) ∧ ((o ++ ([x])) = pastL h (i + 1)) from ⟨(by first | assumption | omega | rfl | (intro _ hjj; omega) | (simp; done) | (simp; omega)),(by rw [ho,hx,show k = i by omega]; rfl)⟩),(show h.length - (i + 1) < h.length - i from (by first | omega | (simp_all; omega))),?_⟩
     exact Sub.of [(9,61)] (@cast (((Sd (.events h)) ∧ (((61 : Nat) = 61) ∧ ((List.length (o ++ ([x]))) = (List.length (o ++ ([x])))) ∧ ((9 : Nat) ∈ ([9,999] : List Nat))) ∧ (Sd (.events h)) ∧ (Si (h.length : Int)) ∧ (Si (((i + 1) : Nat) : Int)) ∧ True) ∧ ((((3 : Nat) = 3) ∧ (Sd (.ints (o ++ ([x])))) ∧ ((9 : Nat) ∈ ([9,999] : List Nat))) ∧ True) ∧ (true = true) ∧ (true = true)) _ (by kernel_rfl) ⟨⟨rfl,⟨rfl,rfl,(by decide)⟩,rfl,rfl,rfl,tt⟩,⟨⟨rfl,rfl,(by decide)⟩,tt⟩,rfl,rfl⟩)
  ·intro n13
   refine W.exit (thenQ_exit (thenQ_exit (blockQ_hit ?_)))
   refine thenQ_normal ?_
   refine Kk cok tab30 hnt [] [2] (⟨[(2,.own 9 o.length)],[(9,⟨3,.row (.ints o)⟩)],[9,999]⟩)
    (True ∧ True ∧ True)
    ⟨tt,tt,tt⟩ ?_
   refine W.subS [] (⟨[(2,.sl (.ints o))],[],[999]⟩) (@cast ((((o.length = o.length) ∧ (Sd (.ints o)) ∧ ((9 : Nat) ∉ ([] : List Nat))) ∧ True) ∧ True ∧ (true = true) ∧ (true = true)) _ (by kernel_rfl) ⟨⟨⟨rfl,rfl,(by decide)⟩,tt⟩,tt,rfl,rfl⟩) ?_
   refine W.ret ?_
   exact endQ_ret (.sl (.ints o)) (by kernel_rfl) (@cast ((.ints o : Dat) = .ints (pastL h h.length)) _ (by kernel_rfl) (congrArg Dat.ints (by rw [ho,show i = h.length by omega])))
theorem ent30 : Entr prog 30 := ⟨_,func30,rfl,by decide⟩
end Go.Proofs.Try
