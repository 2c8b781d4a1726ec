import Derived.Test.YtbeabmgjecndnaaPF3S0
set_option linter.unusedSimpArgs false
set_option linter.unusedVariables false
namespace Go.Ab
theorem has_snoc (o : List Int) (x y : Int) : hasInt (o ++ [x]) y = (hasInt o y || decide (y = x)) := by
 apply bool_ext
 rw [Bool.or_eq_true, hasInt_mem, hasInt_mem, decide_eq_true_eq]
 simp
theorem bits_andNot_val {a b : Nat} (ha : a < 2 ^ 62) (hb : b < 2 ^ 62) : ∃ c : Nat, bitsI .andNot .i64 ((a : Nat) : Int) ((b : Nat) : Int) = ((c : Nat) : Int) ∧ ∀ k, c.testBit k = (a.testBit k && !b.testBit k) := by
 have e : bitsI .andNot .i64 ((a : Nat) : Int) ((b : Nat) : Int) = IntKind.i64.wrap (((BitVec.ofInt 64 ((a : Nat) : Int) &&& ~~~ BitVec.ofInt 64 ((b : Nat) : Int)).toNat : Nat) : Int) := rfl
 have hx : (BitVec.ofInt 64 ((a : Nat) : Int)) = BitVec.ofNat 64 a := by apply BitVec.eq_of_toNat_eq; rw [BitVec.toNat_ofInt, BitVec.toNat_ofNat]; omega
 have hy : (BitVec.ofInt 64 ((b : Nat) : Int)) = BitVec.ofNat 64 b := by apply BitVec.eq_of_toNat_eq; rw [BitVec.toNat_ofInt, BitVec.toNat_ofNat]; omega
 rw [e, hx, hy]
 have hle : (BitVec.ofNat 64 a &&& ~~~ BitVec.ofNat 64 b).toNat ≤ a := by
  rw [BitVec.toNat_and, BitVec.toNat_ofNat, Nat.mod_eq_of_lt (by omega)]
  exact Nat.and_le_left
 refine ⟨_, IntWalk.i64_in _ (by omega), fun k => ?_⟩
 rw [BitVec.testBit_toNat, BitVec.getLsbD_and, BitVec.getLsbD_not, BitVec.getLsbD_ofNat, BitVec.getLsbD_ofNat]
 by_cases hk : k < 64
 ·simp [hk]
 ·have h1 : a.testBit k = false := Nat.testBit_lt_two_pow (Nat.lt_of_lt_of_le ha (Nat.pow_le_pow_right (by omega) (by omega)))
  simp [hk, h1]
theorem maskN_62 {n : Nat} (h : n ≤ 60) (p : Nat → Bool) : maskN n p < 2 ^ 62 := by
 have := maskN_lt n p
 have := Nat.pow_le_pow_right (show 0 < 2 by omega) (show n ≤ 62 by omega)
 omega
theorem mask_eq_of {n : Nat} {p : Nat → Bool} {c : Nat} (h : ∀ k, c.testBit k = (decide (k < n) && p k)) : ((c : Nat) : Int) = mask n p := by
 unfold mask
 have : c = maskN n p := Nat.eq_of_testBit_eq (fun k => by rw [h k, maskN_bit])
 rw [this]
theorem used_or {n k : Nat} {p : Nat → Bool} (hn : n ≤ 60) (hk : k < n) : bitsI .or .i64 (mask n p) (shlI .i64 1 ((k : Nat) : Int)) = mask n (fun j => p j || decide (j = k)) := by
 have h1 := maskN_62 hn p
 have h2 : 2 ^ k < 2 ^ 62 := Nat.pow_lt_pow_right (by omega) (by omega)
 rw [shl_one (by omega), show mask n p = ((maskN n p : Nat) : Int) from rfl, bits_or (by omega) (by omega)]
 refine mask_eq_of (fun j => ?_)
 rw [Nat.testBit_or, maskN_bit, Nat.testBit_two_pow]
 by_cases hj : k = j
 ·subst hj; simp [hk]
 ·simp [hj, Ne.symm hj]
theorem used_not {n k : Nat} {p : Nat → Bool} (hn : n ≤ 60) (hk : k < n) : bitsI .andNot .i64 (mask n p) (shlI .i64 1 ((k : Nat) : Int)) = mask n (fun j => p j && !decide (j = k)) := by
 have h1 := maskN_62 hn p
 have h2 : 2 ^ k < 2 ^ 62 := Nat.pow_lt_pow_right (by omega) (by omega)
 rw [shl_one (by omega)]
 obtain ⟨c, e, hc⟩ := bits_andNot_val (a := maskN n p) (b := 2 ^ k) h1 h2
 rw [show mask n p = ((maskN n p : Nat) : Int) from rfl, e]
 refine mask_eq_of (fun j => ?_)
 rw [hc, maskN_bit, Nat.testBit_two_pow]
 by_cases hj : k = j
 ·subst hj; simp
 ·simp [hj, Ne.symm hj]
def hasN (o : List Int) (k : Nat) : Bool := hasInt o ((k : Nat) : Int)
theorem used_push {n k : Nat} {o : List Int} (hn : n ≤ 60) (hk : k < n) : bitsI .or .i64 (mask n (hasN o)) (shlI .i64 1 ((k : Nat) : Int)) = mask n (hasN (o ++ [((k : Nat) : Int)])) := by
 rw [used_or hn hk, mask_inj]
 intro j _
 unfold hasN
 rw [has_snoc]
 congr 1
 exact bool_ext (by simp only [decide_eq_true_eq]; omega)
theorem used_pop {n k : Nat} {o : List Int} (hn : n ≤ 60) (hk : k < n) (hf : hasInt o ((k : Nat) : Int) = false) : bitsI .andNot .i64 (mask n (hasN (o ++ [((k : Nat) : Int)]))) (shlI .i64 1 ((k : Nat) : Int)) = mask n (hasN o) := by
 rw [used_not hn hk, mask_inj]
 intro j _
 unfold hasN
 rw [has_snoc]
 by_cases hj : j = k
 ·subst hj; rw [hf]; simp
 ·rw [decide_eq_false hj, decide_eq_false (show ¬ ((j : Nat) : Int) = ((k : Nat) : Int) by omega)]; simp
def freeB (f : Nat → Nat → Bool) (n : Nat) (o : List Int) (i : Nat) : Bool := !hasInt o ((i : Nat) : Int) && allN n (fun k => !f i k || hasInt o ((k : Nat) : Int))
theorem free_sub {n i : Nat} {f : Nat → Nat → Bool} {o : List Int} : (maskN n (f i) &&& maskN n (hasN o) = maskN n (f i)) ↔ allN n (fun k => !f i k || hasInt o ((k : Nat) : Int)) = true := by
 rw [allN_iff]
 constructor
 ·intro h k hk
  have := congrArg (fun x => x.testBit k) h
  simp only [Nat.testBit_and, maskN_bit, hk, decide_true, Bool.true_and] at this
  unfold hasN at this
  cases h1 : f i k <;> cases h2 : hasInt o ((k : Nat) : Int) <;> rw [h1, h2] at this <;> simp_all
 ·intro h
  apply Nat.eq_of_testBit_eq
  intro k
  rw [Nat.testBit_and, maskN_bit, maskN_bit]
  by_cases hk : k < n
  ·have := h k hk
   unfold hasN
   cases h1 : f i k <;> cases h2 : hasInt o ((k : Nat) : Int) <;> rw [h1, h2] at this <;> simp_all
  ·simp [hk]
theorem free_impl {n i : Nat} {f : Nat → Nat → Bool} {o : List Int} (hn : n ≤ 60) (hi : i < n) {b : Bool}
  (h : (decide (bitsI .and .i64 (shrI .i64 (mask n (hasN o)) ((i : Nat) : Int)) 1 = 1) || decide (bitsI .andNot .i64 ((rowsOf n f).getD i 0) (mask n (hasN o)) ≠ 0)) = b) : freeB f n o i = !b := by
 rw [← h, rowsOf_get f hi, show mask n (hasN o) = ((maskN n (hasN o) : Nat) : Int) from rfl, show mask n (f i) = ((maskN n (f i) : Nat) : Int) from rfl,
  iBit (maskN_62 hn _) (by omega), maskN_bit]
 have h2 := bits_andNot (a := maskN n (f i)) (b := maskN n (hasN o)) (maskN_62 hn _) (maskN_62 hn _)
 rw [free_sub] at h2
 unfold freeB
 rw [decide_eq_true hi, Bool.true_and]
 have h3 : decide (bitsI .andNot .i64 ((maskN n (f i) : Nat) : Int) ((maskN n (hasN o) : Nat) : Int) ≠ 0) = !allN n (fun k => !f i k || hasInt o ((k : Nat) : Int)) := bool_ext (by
  rw [decide_eq_true_eq, Bool.not_eq_true', ne_eq, h2]
  cases allN n (fun k => !f i k || hasInt o ((k : Nat) : Int)) <;> simp)
 rw [h3]
 unfold hasN
 cases hasInt o ((i : Nat) : Int) <;> cases allN n (fun k => !f i k || hasInt o ((k : Nat) : Int)) <;> rfl
def ordersF (s : ByteArray) (h : List CallD) (f : Nat → Nat → Bool) : Nat → List Int → List (List Int)
 | 0, o => bif runsB s h o then [o] else []
 | m + 1, o => (List.range h.length).flatMap fun i => bif freeB f h.length o i then ordersF s h f m (o ++ [((i : Nat) : Int)]) else []
def ordersUp (s : ByteArray) (h : List CallD) (f : Nat → Nat → Bool) (m : Nat) (o : List Int) (k : Nat) : List (List Int) := (List.range k).flatMap fun i => bif freeB f h.length o i then ordersF s h f m (o ++ [((i : Nat) : Int)]) else []
theorem up_yes {s : ByteArray} {h : List CallD} {f : Nat → Nat → Bool} {m k : Nat} {o : List Int} (hf : freeB f h.length o k = true) : ordersUp s h f m o (k + 1) = ordersUp s h f m o k ++ ordersF s h f m (o ++ [((k : Nat) : Int)]) := by
 unfold ordersUp
 rw [List.range_succ, List.flatMap_append]
 simp [hf]
theorem up_no {s : ByteArray} {h : List CallD} {f : Nat → Nat → Bool} {m k : Nat} {o : List Int} (hf : freeB f h.length o k = false) : ordersUp s h f m o (k + 1) = ordersUp s h f m o k := by
 unfold ordersUp
 rw [List.range_succ, List.flatMap_append]
 simp [hf]
theorem orders_up {s : ByteArray} {h : List CallD} {f : Nat → Nat → Bool} (m : Nat) (o : List Int) : ordersF s h f (m + 1) o = ordersUp s h f m o h.length := rfl
theorem orders_len {s : ByteArray} {h : List CallD} {f : Nat → Nat → Bool} (h6 : h.length ≤ 6) : ∀ (m : Nat) (o : List Int), (ordersF s h f m o).length ≤ 6 ^ m
 | 0, o => by simp only [ordersF]; cases runsB s h o <;> simp
 | m + 1, o => by
  have key : ∀ k, k ≤ 6 → (ordersUp s h f m o k).length ≤ k * 6 ^ m := by
   intro k
   induction k with
   | zero => intro _; simp [ordersUp]
   | succ k ih =>
    intro hk
    have ih' := ih (by omega)
    have h1 := orders_len h6 m (o ++ [((k : Nat) : Int)]) (s := s) (f := f)
    cases hf : freeB f h.length o k with
    | true => rw [up_yes hf, List.length_append, Nat.succ_mul]; omega
    | false => rw [up_no hf, Nat.succ_mul]; omega
  rw [orders_up]
  have := key h.length h6
  have h2 : h.length * 6 ^ m ≤ 6 * 6 ^ m := Nat.mul_le_mul_right _ h6
  rw [Nat.pow_succ, Nat.mul_comm]
  omega
theorem ordUp_len {s : ByteArray} {h : List CallD} {f : Nat → Nat → Bool} (h6 : h.length ≤ 6) (m : Nat) (o : List Int) {k : Nat} (hk : k ≤ 6) : (ordersUp s h f m o k).length ≤ k * 6 ^ m := by
 induction k with
 | zero => simp [ordersUp]
 | succ k ih =>
  have ih' := ih (by omega)
  have h1 := orders_len (s := s) (f := f) h6 m (o ++ [((k : Nat) : Int)])
  cases hf : freeB f h.length o k with
  | true => rw [up_yes hf, List.length_append, Nat.succ_mul]; omega
  | false => rw [up_no hf, Nat.succ_mul]; omega
def headO (h : List CallD) (o : List Int) : Prop := inH h o ∧ o.Nodup ∧ o.length ≤ h.length
theorem headO_nil (h : List CallD) : headO h [] := ⟨fun i hi => by simp at hi, List.nodup_nil, by simp⟩
theorem headO_snoc {h : List CallD} {o : List Int} {k : Nat} (ho : headO h o) (hk : k < h.length) (hf : hasInt o ((k : Nat) : Int) = false) (hl : o.length < h.length) : headO h (o ++ [((k : Nat) : Int)]) := by
 refine ⟨fun i hi => ?_, ?_, by simp; omega⟩
 ·simp only [List.getD_eq_getElem?_getD]
  by_cases h1 : i < o.length
  ·rw [List.getElem?_append_left h1, ← List.getD_eq_getElem?_getD]; exact ho.1 i h1
  ·have : i = o.length := by simp at hi; omega
   subst this
   rw [List.getElem?_append_right (Nat.le_refl _)]
   simp; omega
 ·refine List.nodup_append.2 ⟨ho.2.1, by simp, ?_⟩
  intro a ha b hb hab
  simp only [List.mem_singleton] at hb
  subst hb; subst hab
  rw [hasInt_mem.2 ha] at hf; cases hf
theorem free_has {f : Nat → Nat → Bool} {n i : Nat} {o : List Int} (hf : freeB f n o i = true) : hasInt o ((i : Nat) : Int) = false := by
 unfold freeB at hf
 have := and_l hf
 simpa using this
end Go.Ab
namespace Go.Ab
theorem pow6_le {m : Nat} (h : m ≤ 6) : 6 ^ m ≤ 46656 := Nat.pow_le_pow_right (by omega) h
theorem take_pop {o : List Int} {x : Int} {n : Int} (h : n = (((o ++ [x]).length : Nat) : Int) - 1) : List.take n.toNat (o ++ [x]) = o := by
 have : n.toNat = o.length := by rw [h]; simp
 rw [this]; simp
end Go.Ab
namespace Go.Ab
section
variable {s : ByteArray} {h : List CallD} {f : Nat → Nat → Bool} {o : List Int}
theorem orders_yes (hl : ((o.length : Nat) : Int) = ((h.length : Nat) : Int)) (hp : (playedR s h o).2 = true) : ordersF s h f (h.length - o.length) o = [o] := by
 rw [played_runs] at hp
 rw [show h.length - o.length = 0 by omega]; simp [ordersF, hp]
theorem orders_no (hl : ((o.length : Nat) : Int) = ((h.length : Nat) : Int)) (hp : (playedR s h o).2 = false) : ordersF s h f (h.length - o.length) o = [] := by
 rw [played_runs] at hp
 rw [show h.length - o.length = 0 by omega]; simp [ordersF, hp]
theorem orders_end (hl : o.length < h.length) : ordersF s h f (h.length - o.length) o = ordersUp s h f (h.length - o.length - 1) o h.length := by
 rw [show h.length - o.length = (h.length - o.length - 1) + 1 by omega]; rfl
theorem ord_room {out : List (List Int)} {k : Nat} (hz : out.length + 6 ^ (h.length - o.length) ≤ 100000) (h6 : h.length ≤ 6) (hk : k < h.length) (hl : o.length < h.length) :
  (out ++ ordersUp s h f (h.length - o.length - 1) o k).length + 6 ^ (h.length - o.length - 1) ≤ 100000 := by
 have h1 := ordUp_len (s := s) (f := f) h6 (h.length - o.length - 1) o (k := k) (by omega)
 have h2 : 6 ^ (h.length - o.length) = 6 ^ (h.length - o.length - 1) * 6 := by rw [← Nat.pow_succ]; congr 1; omega
 have h3 : (k + 1) * 6 ^ (h.length - o.length - 1) ≤ 6 * 6 ^ (h.length - o.length - 1) := Nat.mul_le_mul_right _ (by omega)
 rw [List.length_append]
 rw [Nat.succ_mul] at h3
 omega
theorem up_step {out ou oo : List (List Int)} {k : Nat} (hf : freeB f h.length o k = true) (hou : ou = out ++ ordersUp s h f (h.length - o.length - 1) o k) :
  ou ++ ordersF s h f (h.length - (o ++ [((k : Nat) : Int)]).length) (o ++ [((k : Nat) : Int)]) = out ++ ordersUp s h f (h.length - o.length - 1) o (k + 1) := by
 rw [hou, up_yes hf, List.append_assoc]
 congr 3
 simp; omega
theorem free_no {n i : Nat} (hn : n ≤ 60) (hi : i < n)
  (hb : (decide (bitsI .and .i64 (shrI .i64 (mask n (hasN o)) ((i : Nat) : Int)) 1 = 1) || decide (bitsI .andNot .i64 ((rowsOf n f).getD i 0) (mask n (hasN o)) ≠ 0)) = true) : freeB f n o i = false := free_impl hn hi hb
theorem free_yes {n i : Nat} (hn : n ≤ 60) (hi : i < n)
  (hb : (decide (bitsI .and .i64 (shrI .i64 (mask n (hasN o)) ((i : Nat) : Int)) 1 = 1) || decide (bitsI .andNot .i64 ((rowsOf n f).getD i 0) (mask n (hasN o)) ≠ 0)) = false) : freeB f n o i = true := free_impl hn hi hb
end
end Go.Ab
namespace Go.Ab
def bitF (rows : List Int) (i k : Nat) : Bool := (rows.getD i 0).toNat.testBit k
theorem ordersF_congr {s : ByteArray} {h : List CallD} {f g : Nat → Nat → Bool} (hfg : ∀ i k, i < h.length → k < h.length → f i k = g i k) : ∀ (m : Nat) (o : List Int), ordersF s h f m o = ordersF s h g m o
 | 0, o => rfl
 | m + 1, o => by
  simp only [ordersF]
  rw [List.flatMap_def, List.flatMap_def]
  congr 1
  apply List.map_congr_left
  intro i hi
  have hi := List.mem_range.1 hi
  have e : freeB f h.length o i = freeB g h.length o i := by
   unfold freeB
   congr 1
   apply bool_ext
   rw [allN_iff, allN_iff]
   exact ⟨fun hh k hk => by rw [← hfg i k hi hk]; exact hh k hk, fun hh k hk => by rw [hfg i k hi hk]; exact hh k hk⟩
  rw [e, ordersF_congr hfg]
theorem bitF_rows {n i k : Nat} {f : Nat → Nat → Bool} (hi : i < n) (hk : k < n) : bitF (rowsOf n f) i k = f i k := by
 unfold bitF
 rw [rowsOf_get f hi]
 unfold mask
 rw [Int.toNat_natCast, maskN_bit, decide_eq_true hk, Bool.true_and]
theorem orders_rows {s : ByteArray} {h : List CallD} {f : Nat → Nat → Bool} {m : Nat} {o : List Int} : ordersF s h (bitF (rowsOf h.length f)) m o = ordersF s h f m o := ordersF_congr (fun _ _ hi hk => bitF_rows hi hk) m o
theorem rows_self {n : Nat} {f : Nat → Nat → Bool} : rowsOf n f = rowsOf n (bitF (rowsOf n f)) := by
 apply rowsOf_congr
 intro i k hi hk
 exact (bitF_rows hi hk).symm
end Go.Ab
namespace Go.Ab
theorem used_nil (n : Nat) : mask n (hasN []) = 0 := mask_zero n (fun _ _ => rfl)
section
variable {s : ByteArray} {h : List CallD} {f : Nat → Nat → Bool} {o : List Int}
end
end Go.Ab

set_option linter.unusedSimpArgs false
set_option linter.unusedVariables false
namespace Go.Ab
def ordersBy (s : ByteArray) (h : List CallD) (f : Nat → Nat → Bool) : List (List Int) := bif isObject s && validHistory h then ordersF s h f h.length [] else []
def explains (s : ByteArray) (h : List CallD) (f : Nat → Nat → Bool) : Bool := decide (0 < (((ordersBy s h f).length : Nat) : Int))
section
variable {s : ByteArray} {h : List CallD} {f g : Nat → Nat → Bool} {rows : List Int}
theorem by_val (hg : (isObject s && validHistory h) = true) (e : rows = rowsOf h.length f) : ordersF s h (bitF rows) h.length [] = ordersBy s h f := by
 unfold ordersBy; rw [hg, e, orders_rows]; rfl
theorem by_no (hg : (isObject s && validHistory h) = false) : ordersBy s h f = [] := by unfold ordersBy; rw [hg]; rfl
theorem by_no' (hg : (!isObject s || !validHistory h) = true) : ordersBy s h f = [] := by_no (by cases h1 : isObject s <;> cases h2 : validHistory h <;> simp_all)
theorem by_yes' (hg : (!isObject s || !validHistory h) = false) : (isObject s && validHistory h) = true := by cases h1 : isObject s <;> cases h2 : validHistory h <;> simp_all
theorem ahead_rows (hv : validHistory h = true) : aheadOf h = rowsOf h.length (bitF (aheadOf h)) := by rw [ahead_eq hv]; exact rows_self
theorem explains_iff : explains s h f = true ↔ ∃ x, x ∈ ordersBy s h f := by
 unfold explains
 rw [decide_eq_true_eq]
 constructor
 ·intro h1
  have : 0 < (ordersBy s h f).length := by omega
  exact List.exists_mem_of_length_pos this
 ·rintro ⟨x, hx⟩
  have := List.length_pos_of_mem hx
  omega
end
end Go.Ab
namespace Go.Ab
end Go.Ab
namespace Go.Ab
end Go.Ab

set_option linter.unusedSimpArgs false
set_option linter.unusedVariables false
namespace Go.Ab
section
variable {s : ByteArray} {h : List CallD} {f g : Nat → Nat → Bool} {rows : List Int}
def respF (f : Nat → Nat → Bool) (n : Nat) (o : List Int) : Prop := ∀ k, k < o.length → freeB f n (o.take k) (o.getD k 0).toNat = true
theorem resp_snoc {n k : Nat} {o : List Int} (hr : respF f n o) (hf : freeB f n o k = true) : respF f n (o ++ [((k : Nat) : Int)]) := by
 intro j hj
 simp only [List.getD_eq_getElem?_getD]
 by_cases h1 : j < o.length
 ·rw [List.take_append_of_le_length (by omega), List.getElem?_append_left h1, ← List.getD_eq_getElem?_getD]; exact hr j h1
 ·have : j = o.length := by simp at hj; omega
  subst this
  rw [List.take_append_of_le_length (Nat.le_refl _), List.take_length, List.getElem?_append_right (Nat.le_refl _)]
  simpa using hf
theorem orders_mem {x : List Int} : ∀ (m : Nat) (o : List Int), headO h o → respF f h.length o → o.length + m = h.length → x ∈ ordersF s h f m o →
  headO h x ∧ x.length = h.length ∧ runsB s h x = true ∧ respF f h.length x ∧ ∃ t, x = o ++ t
 | 0, o, ho, hr, hm, hx => by
  simp only [ordersF] at hx
  cases h1 : runsB s h o with
  | false => rw [h1] at hx; simp at hx
  | true => rw [h1] at hx; simp at hx; subst hx; exact ⟨ho, by omega, h1, hr, [], by simp⟩
 | m + 1, o, ho, hr, hm, hx => by
  simp only [ordersF, List.mem_flatMap, List.mem_range] at hx
  obtain ⟨i, hi, h1⟩ := hx
  cases h2 : freeB f h.length o i with
  | false => rw [h2] at h1; simp at h1
  | true =>
   rw [h2] at h1
   obtain ⟨a, b, c, d, t, e⟩ := orders_mem m (o ++ [((i : Nat) : Int)]) (headO_snoc ho hi (free_has h2) (by omega)) (resp_snoc hr h2) (by simp; omega) h1
   exact ⟨a, b, c, d, ((i : Nat) : Int) :: t, by rw [e]; simp⟩
theorem by_guard {x : List Int} (hx : x ∈ ordersBy s h f) : (isObject s && validHistory h) = true := by
 cases hg : (isObject s && validHistory h) with
 | true => rfl
 | false => rw [by_no hg] at hx; simp at hx
theorem by_mem {x : List Int} (hx : x ∈ ordersBy s h f) : headO h x ∧ x.length = h.length ∧ runsB s h x = true ∧ respF f h.length x := by
 have hg := by_guard hx
 unfold ordersBy at hx
 rw [hg] at hx
 obtain ⟨a, b, c, d, _⟩ := orders_mem h.length [] (headO_nil h) (fun k hk => by simp at hk) (by simp) hx
 exact ⟨a, b, c, d⟩
end
end Go.Ab

set_option linter.unusedSimpArgs false
set_option linter.unusedVariables false
namespace Go.Ab
def okL (s : ByteArray) : List Int → List CallD → Bool
 | _, [] => true
 | l, c :: cs => (specStep s l c).2 && okL s (specStep s l c).1 cs
def at0 (c : CallD) : Bool := decide (c.obj = 0)
def okP (s : ByteArray) : List Int → List Int → List CallD → Bool
 | _, _, [] => true
 | a, b, c :: cs => bif at0 c then (specStep s a c).2 && okP s (specStep s a c).1 b cs else (specStep s b c).2 && okP s a (specStep s b c).1 cs
theorem okP_split (s : ByteArray) : ∀ (cs : List CallD) (a b : List Int), okP s a b cs = (okL s a (cs.filter at0) && okL s b (cs.filter fun c => !at0 c))
 | [], _, _ => rfl
 | c :: cs, a, b => by
  unfold okP
  cases h : at0 c with
  | true => simp [h, List.filter_cons, okL, okP_split s cs, Bool.and_assoc]
  | false => simp [h, List.filter_cons, okL, okP_split s cs, Bool.and_assoc, Bool.and_left_comm]
theorem okP_cons (s : ByteArray) (a b : List Int) (c : CallD) (cs : List CallD) : okP s a b (c :: cs) = bif at0 c then (specStep s a c).2 && okP s (specStep s a c).1 b cs else (specStep s b c).2 && okP s a (specStep s b c).1 cs := rfl
theorem runs_okP {s : ByteArray} {h : List CallD} {o : List Int} (hz : ∀ i, i < o.length → (ordAt h o i).obj = 0 ∨ (ordAt h o i).obj = 1) : ∀ (m i : Nat), i + m = o.length →
  ((∀ j, i ≤ j → j < o.length → okAt s h o j = true) ↔ okP s ((sts s h o i).getD 0 []) ((sts s h o i).getD 1 []) ((o.drop i).map fun x => callAt h x.toNat) = true)
 | 0, i, hi => by
  rw [List.drop_eq_nil_of_le (by omega)]
  exact ⟨fun _ => rfl, fun _ j h1 h2 => by omega⟩
 | m + 1, i, hi => by
  have hlt : i < o.length := by omega
  have ih := runs_okP (s := s) (h := h) (o := o) hz m (i + 1) (by omega)
  have hsplit : (∀ j, i ≤ j → j < o.length → okAt s h o j = true) ↔ okAt s h o i = true ∧ (∀ j, i + 1 ≤ j → j < o.length → okAt s h o j = true) :=
   ⟨fun h1 => ⟨h1 i (by omega) hlt, fun j h2 h3 => h1 j (by omega) h3⟩, fun h1 j h2 h3 => by
    by_cases e : j = i
    ·subst e; exact h1.1
    ·exact h1.2 j (by omega) h3⟩
  rw [hsplit, ih, List.drop_eq_getElem_cons hlt, List.map_cons]
  have e : callAt h (o[i]).toNat = ordAt h o i := by unfold ordAt; rw [List.getD_eq_getElem?_getD, List.getElem?_eq_getElem hlt]; rfl
  rw [e]
  have hl := sts_len s h o i
  obtain ⟨a, b, hab⟩ : ∃ a b, sts s h o i = [a, b] := by
   match hx : sts s h o i, hl with
   | [a, b], _ => exact ⟨a, b, rfl⟩
  simp only [sts, okAt, hab]
  rw [okP_cons]
  rcases hz i hlt with h0 | h0
  ·have : at0 (ordAt h o i) = true := by unfold at0; rw [h0]; rfl
   rw [this, h0]; simp
  ·have : at0 (ordAt h o i) = false := by unfold at0; rw [h0]; rfl
   rw [this, h0]; simp
theorem runs_play {s : ByteArray} {h : List CallD} {o : List Int} (hz : ∀ i, i < o.length → (ordAt h o i).obj = 0 ∨ (ordAt h o i).obj = 1) : runsB s h o = okP s [] [] (o.map fun x => callAt h x.toNat) := by
 have := runs_okP (s := s) hz o.length 0 (by omega)
 rw [List.drop_zero] at this
 apply bool_ext
 unfold runsB
 rw [allN_iff]
 exact ⟨fun h1 => this.1 (fun j _ hj => h1 j hj), fun h1 j hj => this.2 h1 j (Nat.zero_le _) hj⟩
def apart (a b : CallD) : Prop := ¬ b.to < a.frm
theorem valid_list {h : List CallD} : validHistory h = true ↔ h.length ≤ 6 ∧ (∀ c ∈ h, isCall c = true) ∧ h.Pairwise fun a b => clash b a = false := by
 rw [valid_iff]
 have e1 : (∀ i, i < h.length → isCall (callAt h i) = true) ↔ ∀ c ∈ h, isCall c = true := by
  unfold callAt
  constructor
  ·intro hh c hc
   obtain ⟨i, hi, rfl⟩ := List.mem_iff_getElem.1 hc
   have := hh i hi
   rwa [List.getD_eq_getElem?_getD, List.getElem?_eq_getElem hi] at this
  ·intro hh i hi; exact hh _ (getD_mem h default hi)
 have e2 : (∀ i k, i < h.length → k < i → clash (callAt h i) (callAt h k) = false) ↔ h.Pairwise fun a b => clash b a = false := by
  rw [List.pairwise_iff_getElem]
  unfold callAt
  constructor
  ·intro hh i j hi hj hij
   have := hh j i hj hij
   rwa [List.getD_eq_getElem?_getD, List.getElem?_eq_getElem hj, List.getD_eq_getElem?_getD, List.getElem?_eq_getElem hi] at this
  ·intro hh i k hi hk
   rw [List.getD_eq_getElem?_getD, List.getElem?_eq_getElem hi, List.getD_eq_getElem?_getD, List.getElem?_eq_getElem (show k < h.length by omega)]
   exact hh k i (by omega) hi hk
 rw [e1, e2]
theorem valid_nodup {h : List CallD} (hv : validHistory h = true) : h.Nodup := by
 refine List.Pairwise.imp ?_ (valid_list.1 hv).2.2
 intro a b hab e
 subst e
 unfold clash at hab
 simp at hab
theorem frm_to {h : List CallD} (hv : validHistory h = true) : ∀ c ∈ h, c.frm < c.to := fun c hc => (isCall_iff.1 ((valid_list.1 hv).2.1 c hc)).2.2.2.2.2.2.2
theorem obj01 {h : List CallD} (hv : validHistory h = true) : ∀ c ∈ h, c.obj = 0 ∨ c.obj = 1 := fun c hc => by have := (isCall_iff.1 ((valid_list.1 hv).2.1 c hc)).2.1; omega
theorem callAt_idx {h : List CallD} {c : CallD} (hc : c ∈ h) : callAt h (h.idxOf c) = c := by
 have h1 := List.idxOf_lt_length_iff.2 hc
 unfold callAt
 rw [List.getD_eq_getElem?_getD, List.getElem?_eq_getElem h1, Option.getD_some, List.getElem_idxOf h1]
theorem idx_callAt {h : List CallD} (hd : h.Nodup) {i : Nat} (hi : i < h.length) : h.idxOf (callAt h i) = i := by
 unfold callAt
 rw [List.getD_eq_getElem?_getD, List.getElem?_eq_getElem hi, Option.getD_some]
 exact hd.idxOf_getElem i hi
theorem orders_in {s : ByteArray} {h : List CallD} {f : Nat → Nat → Bool} {x : List Int} (hi : inH h x) (hl : x.length = h.length) (hr : runsB s h x = true) (hp : respF f h.length x) :
  ∀ m k, k + m = h.length → x ∈ ordersF s h f m (x.take k)
 | 0, k, hk => by
  simp only [ordersF]
  rw [List.take_of_length_le (by omega), hr]; simp
 | m + 1, k, hk => by
  simp only [ordersF, List.mem_flatMap, List.mem_range]
  have h1 := hi k (by omega)
  refine ⟨(x.getD k 0).toNat, by omega, ?_⟩
  rw [hp k (by omega)]
  have h2 := orders_in hi hl hr hp m (k + 1) (by omega)
  rw [List.take_succ_eq_append_getElem (show k < x.length by omega)] at h2
  have e : (((x.getD k 0).toNat : Nat) : Int) = x[k] := by
   rw [show (((x.getD k 0).toNat : Nat) : Int) = x.getD k 0 by omega, List.getD_eq_getElem?_getD, List.getElem?_eq_getElem (show k < x.length by omega)]; rfl
  rw [cond_true, e]
  exact h2
theorem explains_seq {s : ByteArray} {h : List CallD} : explains s h (aheadF h) = true ↔ (isObject s = true ∧ validHistory h = true) ∧ ∃ cs : List CallD, cs.Perm h ∧ cs.Pairwise apart ∧ okP s [] [] cs = true := by
 rw [explains_iff]
 constructor
 ·rintro ⟨x, hx⟩
  have hg := by_guard hx
  rw [Bool.and_eq_true] at hg
  obtain ⟨a, b, c, d⟩ := by_mem hx
  refine ⟨hg, x.map fun v => callAt h v.toNat, ?_, ?_, ?_⟩
  ·have p1 : (x.map Int.toNat).Nodup := by
    unfold List.Nodup
    rw [List.pairwise_map]
    refine (List.pairwise_iff_getElem.2 (fun i j hi hj hij e => ?_))
    have n1 := (List.pairwise_iff_getElem.1 a.2.1) i j hi hj hij
    have k1 := a.1 i hi
    have k2 := a.1 j hj
    rw [List.getD_eq_getElem?_getD, List.getElem?_eq_getElem hi, Option.getD_some] at k1
    rw [List.getD_eq_getElem?_getD, List.getElem?_eq_getElem hj, Option.getD_some] at k2
    omega
   have sub : ∀ v ∈ x.map Int.toNat, v < h.length := by
    intro v hv
    obtain ⟨w, hw, rfl⟩ := List.mem_map.1 hv
    obtain ⟨i, hi, rfl⟩ := List.mem_iff_getElem.1 hw
    have k1 := a.1 i hi
    rw [List.getD_eq_getElem?_getD, List.getElem?_eq_getElem hi, Option.getD_some] at k1
    omega
   have p2 : (x.map Int.toNat).Perm (List.range h.length) := by
    rw [List.perm_ext_iff_of_nodup p1 List.nodup_range]
    intro v
    rw [List.mem_range]
    refine ⟨sub v, fun hv => ?_⟩
    apply Classical.byContradiction
    intro hn
    have := List.Nodup.length_le_of_subset (l₁ := v :: x.map Int.toNat) (l₂ := List.range h.length) (List.nodup_cons.2 ⟨hn, p1⟩) (fun w hw => by
     rw [List.mem_range]
     rcases List.mem_cons.1 hw with e | e
     ·rw [e]; exact hv
     ·exact sub w e)
    simp at this
    omega
   have p3 := p2.map (callAt h)
   rw [List.map_map] at p3
   refine (show (x.map fun v => callAt h v.toNat) = List.map (callAt h ∘ Int.toNat) x from rfl) ▸ p3.trans ?_
   have : (List.range h.length).map (callAt h) = h := by
    apply List.ext_getElem (by simp)
    intro i h1 h2
    simp [callAt, List.getD_eq_getElem?_getD, h2]
   rw [this]
  ·rw [List.pairwise_map]
   refine (List.pairwise_iff_getElem.2 (fun i j hi hj hij e => ?_))
   have k1 := d i hi
   have k2 := a.1 j hj
   unfold freeB at k1
   have k3 := allN_get (and_r k1) (x.getD j 0).toNat (by omega)
   rw [List.getD_eq_getElem?_getD, List.getElem?_eq_getElem hi, List.getD_eq_getElem?_getD, List.getElem?_eq_getElem hj] at k3
   rw [List.getD_eq_getElem?_getD, List.getElem?_eq_getElem hj] at k2
   simp only [Option.getD_some] at k3 k2
   have k4 : aheadF h x[i].toNat x[j].toNat = true := by unfold aheadF isBefore; exact decide_eq_true e
   rw [k4, show ((x[j].toNat : Nat) : Int) = x[j] by omega] at k3
   have k5 := hasInt_mem.1 (by simpa using k3 : hasInt (x.take i) x[j] = true)
   obtain ⟨p, hp, hpe⟩ := List.mem_iff_getElem.1 k5
   rw [List.length_take] at hp
   rw [List.getElem_take] at hpe
   exact (List.pairwise_iff_getElem.1 a.2.1) p j (by omega) hj (by omega) hpe
  ·rw [← runs_play]
   ·exact c
   ·intro i hi
    have k1 := a.1 i hi
    exact obj01 hg.2 _ (getD_mem h default (by omega))
 ·rintro ⟨⟨hs, hv⟩, cs, hp, hpw, hok⟩
  have hnd := valid_nodup hv
  have hnc : cs.Nodup := hp.symm.nodup hnd
  have hmem : ∀ c, c ∈ cs → c ∈ h := fun c hc => hp.mem_iff.1 hc
  refine ⟨cs.map fun c => ((h.idxOf c : Nat) : Int), ?_⟩
  have gx : ∀ i (hi : i < cs.length), (cs.map fun c => ((h.idxOf c : Nat) : Int)).getD i 0 = ((h.idxOf cs[i] : Nat) : Int) := by
   intro i hi
   rw [List.getD_eq_getElem?_getD, List.getElem?_map, List.getElem?_eq_getElem hi]; rfl
  have hin : inH h (cs.map fun c => ((h.idxOf c : Nat) : Int)) := by
   intro i hi
   rw [List.length_map] at hi
   rw [gx i hi]
   have := List.idxOf_lt_length_iff.2 (hmem _ (List.getElem_mem hi))
   omega
  have hlen : (cs.map fun c => ((h.idxOf c : Nat) : Int)).length = h.length := by rw [List.length_map, hp.length_eq]
  have hcl : (cs.map fun c => ((h.idxOf c : Nat) : Int)).map (fun v => callAt h v.toNat) = cs := by
   rw [List.map_map]
   conv => rhs; rw [← List.map_id cs]
   apply List.map_congr_left
   intro c hc
   simp only [Function.comp, Int.toNat_natCast, id]
   exact callAt_idx (hmem c hc)
  have hrun : runsB s h (cs.map fun c => ((h.idxOf c : Nat) : Int)) = true := by
   rw [runs_play, hcl]
   ·exact hok
   ·intro i hi
    have k1 := hin i hi
    exact obj01 hv _ (getD_mem h default (by omega))
  have hresp : respF (aheadF h) h.length (cs.map fun c => ((h.idxOf c : Nat) : Int)) := by
   intro k hk
   rw [List.length_map] at hk
   rw [gx k hk, Int.toNat_natCast]
   unfold freeB
   refine and_t ?_ (allN_true (fun j hj => ?_))
   ·cases hh : hasInt (List.take k (cs.map fun c => ((h.idxOf c : Nat) : Int))) ((h.idxOf cs[k] : Nat) : Int) with
    | false => rfl
    | true =>
     exfalso
     have k5 := hasInt_mem.1 hh
     obtain ⟨p, hp1, hpe⟩ := List.mem_iff_getElem.1 k5
     rw [List.length_take, List.length_map] at hp1
     rw [List.getElem_take, List.getElem_map] at hpe
     have e1 : h.idxOf cs[p] = h.idxOf cs[k] := by omega
     have e2 := callAt_idx (hmem _ (List.getElem_mem (show p < cs.length by omega)))
     have e3 := callAt_idx (hmem _ (List.getElem_mem hk))
     rw [e1, e3] at e2
     exact (List.pairwise_iff_getElem.1 hnc) p k (by omega) hk (by omega) e2.symm
   ·cases ha : aheadF h (h.idxOf cs[k]) j with
    | false => rfl
    | true =>
     unfold aheadF isBefore at ha
     have ha := of_decide_eq_true ha
     rw [callAt_idx (hmem _ (List.getElem_mem hk))] at ha
     have hjm : callAt h j ∈ cs := hp.mem_iff.2 (getD_mem h default hj)
     obtain ⟨p, hp1, hpe⟩ := List.mem_iff_getElem.1 hjm
     have hlt : p < k := by
      apply Classical.byContradiction
      intro hn
      by_cases hpk : p = k
      ·subst hpk
       have := frm_to hv _ (hmem _ (List.getElem_mem hk))
       rw [← hpe] at ha
       omega
      ·have := (List.pairwise_iff_getElem.1 hpw) k p hk hp1 (by omega)
       unfold apart at this
       rw [hpe] at this
       exact this ha
     have : hasInt (List.take k (cs.map fun c => ((h.idxOf c : Nat) : Int))) ((j : Nat) : Int) = true := by
      apply hasInt_mem.2
      refine List.mem_iff_getElem.2 ⟨p, by rw [List.length_take, List.length_map]; omega, ?_⟩
      rw [List.getElem_take, List.getElem_map, hpe, idx_callAt hnd hj]
     rw [this]; rfl
  unfold ordersBy
  rw [hs, hv]
  have := orders_in hin hlen hrun hresp h.length 0 (by omega)
  rwa [List.take_zero] at this
end Go.Ab
namespace Go.Ab
end Go.Ab

set_option linter.unusedSimpArgs false
set_option linter.unusedVariables false
namespace Go.Ab
def regOK : Int → List CallD → Bool
 | _, [] => true
 | v, c :: cs => bif decide (c.kind = 0) then decide (c.ret = 0) && regOK c.arg cs else decide (c.ret = v) && regOK v cs
theorem eqS_reg : eqS nRegister nRegister = true ∧ eqS nRegister nQueue = false ∧ eqS nRegister nStack = false ∧ eqS nRegister nSet = false := by decide +kernel
theorem step_put {l : List Int} {c : CallD} (h : c.kind = 0) : specStep nRegister l c = ([c.arg], decide (c.ret = 0)) := by
 unfold specStep
 rw [decide_eq_true h, eqS_reg.1]; rfl
theorem step_look {l : List Int} {c : CallD} (h : c.kind = 2) : specStep nRegister l c = (l, decide (c.ret = l.getD 0 0)) := by
 unfold specStep
 rw [decide_eq_false (show ¬ c.kind = 0 by omega), decide_eq_true h, eqS_reg.2.1, eqS_reg.2.2.1, eqS_reg.2.2.2]
 simp only [cond_true, cond_false]
 cases l with
 | nil => rfl
 | cons a l => rw [decide_eq_false (show ¬ (((a :: l).length : Nat) : Int) = 0 by simp only [List.length_cons]; omega)]; rfl
theorem okL_reg : ∀ (cs : List CallD) (l : List Int), (∀ c ∈ cs, c.kind = 0 ∨ c.kind = 2) → okL nRegister l cs = regOK (l.getD 0 0) cs
 | [], _, _ => rfl
 | c :: cs, l, hk => by
  unfold okL regOK
  rcases hk c (by simp) with h | h
  ·rw [step_put h, decide_eq_true h]
   simp only [cond_true]
   rw [okL_reg cs [c.arg] (fun x hx => hk x (by simp [hx]))]
   rfl
  ·rw [step_look h, decide_eq_false (show ¬ c.kind = 0 by omega)]
   simp only [cond_false]
   rw [okL_reg cs l (fun x hx => hk x (by simp [hx]))]
def lastV (v : Int) : List CallD → Int
 | [] => v
 | c :: cs => lastV (bif decide (c.kind = 0) then c.arg else v) cs
theorem regOK_iff : ∀ (cs : List CallD) (v : Int), regOK v cs = true ↔ ∀ pre c post, cs = pre ++ c :: post → (c.kind = 0 → c.ret = 0) ∧ (c.kind ≠ 0 → c.ret = lastV v pre)
 | [], v => by
  refine ⟨fun _ pre c post e => ?_, fun _ => rfl⟩
  cases pre with
  | nil => cases e
  | cons _ _ => cases e
 | a :: cs, v => by
  have ih := regOK_iff cs
  unfold regOK
  by_cases ha : a.kind = 0
  ·rw [decide_eq_true ha, cond_true, Bool.and_eq_true, decide_eq_true_eq, ih]
   constructor
   ·rintro ⟨h1, h2⟩ pre c post e
    cases pre with
    | nil => injection e with e1 e2; subst e1; exact ⟨fun _ => h1, fun h => absurd ha h⟩
    | cons b pre =>
     injection e with e1 e2
     subst e1
     have := h2 pre c post e2
     unfold lastV
     rw [decide_eq_true ha]; exact this
   ·intro h
    refine ⟨(h [] a cs rfl).1 ha, fun pre c post e => ?_⟩
    have := h (a :: pre) c post (by rw [e]; rfl)
    unfold lastV at this
    rw [decide_eq_true ha] at this; exact this
  ·rw [decide_eq_false ha, cond_false, Bool.and_eq_true, decide_eq_true_eq, ih]
   constructor
   ·rintro ⟨h1, h2⟩ pre c post e
    cases pre with
    | nil => injection e with e1 e2; subst e1; exact ⟨fun h => absurd h ha, fun _ => h1⟩
    | cons b pre =>
     injection e with e1 e2
     subst e1
     have := h2 pre c post e2
     unfold lastV
     rw [decide_eq_false ha]; exact this
   ·intro h
    refine ⟨(h [] a cs rfl).2 ha, fun pre c post e => ?_⟩
    have := h (a :: pre) c post (by rw [e]; rfl)
    unfold lastV at this
    rw [decide_eq_false ha] at this; exact this
theorem lastV_none : ∀ (l : List CallD) (v : Int), (∀ c ∈ l, c.kind ≠ 0) → lastV v l = v
 | [], _, _ => rfl
 | a :: l, v, h => by
  unfold lastV
  rw [decide_eq_false (h a (by simp)), cond_false]
  exact lastV_none l v (fun c hc => h c (by simp [hc]))
theorem lastV_some : ∀ (l : List CallD) (v : Int), (∃ c ∈ l, c.kind = 0) → ∃ p1 w p2, l = p1 ++ w :: p2 ∧ w.kind = 0 ∧ (∀ c ∈ p2, c.kind ≠ 0) ∧ lastV v l = w.arg
 | [], v, h => by obtain ⟨c, hc, _⟩ := h; cases hc
 | a :: l, v, h => by
  by_cases hl : ∃ c ∈ l, c.kind = 0
  ·obtain ⟨p1, w, p2, e, h1, h2, h3⟩ := lastV_some l (bif decide (a.kind = 0) then a.arg else v) hl
   exact ⟨a :: p1, w, p2, by rw [e]; rfl, h1, h2, h3⟩
  ·have hn : ∀ c ∈ l, c.kind ≠ 0 := fun c hc e => hl ⟨c, hc, e⟩
   have ha : a.kind = 0 := by
    obtain ⟨c, hc, e⟩ := h
    rcases List.mem_cons.1 hc with e1 | e1
    ·rw [← e1]; exact e
    ·exact absurd e (hn c e1)
   refine ⟨[], a, l, rfl, ha, hn, ?_⟩
   unfold lastV
   rw [decide_eq_true ha, cond_true]
   exact lastV_none l _ hn
theorem last_spec {h : List CallD} {c : CallD} : ∀ n : Nat, 0 ≤ lastF h c n → (callAt h (lastF h c n).toNat).kind = 0 ∧ isBefore (callAt h (lastF h c n).toNat) c = true ∧ ∀ k, k < n → (callAt h k).kind = 0 → isBefore (callAt h k) c = true → (callAt h k).frm ≤ (callAt h (lastF h c n).toNat).frm
 | 0, h0 => by simp [lastF] at h0
 | n + 1, h0 => by
  have e : lastF h c (n + 1) = bif ((decide ((callAt h n).kind = 0) && isBefore (callAt h n) c) && (decide (lastF h c n < 0) || decide ((callAt h (lastF h c n).toNat).frm < (callAt h n).frm))) then ((n : Nat) : Int) else lastF h c n := rfl
  have ih := last_spec (h := h) (c := c) n
  have neg : lastF h c n < 0 → ∀ k, k < n → (callAt h k).kind = 0 → isBefore (callAt h k) c = true → False := by
   clear e h0 ih
   induction n with
   | zero => intro _ k hk; omega
   | succ n ih =>
    intro hl k hk k0 kb
    have e : lastF h c (n + 1) = bif ((decide ((callAt h n).kind = 0) && isBefore (callAt h n) c) && (decide (lastF h c n < 0) || decide ((callAt h (lastF h c n).toNat).frm < (callAt h n).frm))) then ((n : Nat) : Int) else lastF h c n := rfl
    cases hc : ((decide ((callAt h n).kind = 0) && isBefore (callAt h n) c) && (decide (lastF h c n < 0) || decide ((callAt h (lastF h c n).toNat).frm < (callAt h n).frm))) with
    | true => rw [e, hc, cond_true] at hl; omega
    | false =>
     rw [e, hc, cond_false] at hl
     by_cases hkn : k = n
     ·subst hkn
      rw [decide_eq_true k0, kb, decide_eq_true hl] at hc
      simp at hc
     ·exact ih hl k (by omega) k0 kb
  cases hc : ((decide ((callAt h n).kind = 0) && isBefore (callAt h n) c) && (decide (lastF h c n < 0) || decide ((callAt h (lastF h c n).toNat).frm < (callAt h n).frm))) with
  | true =>
   rw [hc, cond_true] at e
   rw [e]
   simp only [Int.toNat_natCast]
   simp only [Bool.and_eq_true, Bool.or_eq_true, decide_eq_true_eq] at hc
   refine ⟨hc.1.1, hc.1.2, fun k hk k0 kb => ?_⟩
   by_cases hkn : k = n
   ·subst hkn; exact Int.le_refl _
   ·rcases hc.2 with h1 | h1
    ·exact (neg h1 k (by omega) k0 kb).elim
    ·have hl0 : 0 ≤ lastF h c n := by
      apply Classical.byContradiction
      intro hx
      exact neg (by omega) k (by omega) k0 kb
     have := (ih hl0).2.2 k (by omega) k0 kb
     omega
  | false =>
   rw [hc, cond_false] at e
   rw [e] at h0 ⊢
   obtain ⟨a1, a2, a3⟩ := ih h0
   refine ⟨a1, a2, fun k hk k0 kb => ?_⟩
   by_cases hkn : k = n
   ·subst hkn
    rw [decide_eq_true k0, kb, decide_eq_false (show ¬ lastF h c k < 0 by omega)] at hc
    simp only [Bool.true_and, Bool.false_or, decide_eq_false_iff_not] at hc
    omega
   ·exact a3 k (by omega) k0 kb
theorem last_neg {h : List CallD} {c : CallD} : ∀ n : Nat, lastF h c n < 0 → ∀ k, k < n → (callAt h k).kind = 0 → isBefore (callAt h k) c = true → False
 | 0, _, k, hk, _, _ => by omega
 | n + 1, hl, k, hk, k0, kb => by
  have e : lastF h c (n + 1) = bif ((decide ((callAt h n).kind = 0) && isBefore (callAt h n) c) && (decide (lastF h c n < 0) || decide ((callAt h (lastF h c n).toNat).frm < (callAt h n).frm))) then ((n : Nat) : Int) else lastF h c n := rfl
  cases hc : ((decide ((callAt h n).kind = 0) && isBefore (callAt h n) c) && (decide (lastF h c n < 0) || decide ((callAt h (lastF h c n).toNat).frm < (callAt h n).frm))) with
  | true => rw [e, hc, cond_true] at hl; omega
  | false =>
   rw [e, hc, cond_false] at hl
   by_cases hkn : k = n
   ·subst hkn
    rw [decide_eq_true k0, kb, decide_eq_true hl] at hc
    simp at hc
   ·exact last_neg n hl k (by omega) k0 kb
structure OneW (h : List CallD) : Prop where
 hv : validHistory h = true
 obj : ∀ c ∈ h, c.obj = 0
 kind : ∀ c ∈ h, c.kind = 0 ∨ c.kind = 2
 put : ∀ c ∈ h, c.kind = 0 → c.ret = 0 ∧ 1 ≤ c.arg
 time : ∀ c ∈ h, 0 ≤ c.frm ∧ c.frm < c.to ∧ c.to ≤ 30
 frm : ∀ c ∈ h, ∀ d ∈ h, c.frm = d.frm → c = d
 arg : ∀ c ∈ h, ∀ d ∈ h, c.kind = 0 → d.kind = 0 → c.arg = d.arg → c = d
 wr : ∀ c ∈ h, ∀ d ∈ h, c.kind = 0 → d.kind = 0 → c = d ∨ c.to < d.frm ∨ d.to < c.frm
theorem call_at {h : List CallD} {c : CallD} (hc : c ∈ h) : ∃ i, i < h.length ∧ callAt h i = c := by
 obtain ⟨i, hi, rfl⟩ := List.mem_iff_getElem.1 hc
 exact ⟨i, hi, by unfold callAt; rw [List.getD_eq_getElem?_getD, List.getElem?_eq_getElem hi]; rfl⟩
theorem at_mem {h : List CallD} {i : Nat} (hi : i < h.length) : callAt h i ∈ h := getD_mem h default hi
theorem oneW {h : List CallD} (ho : oneWriter h = true) : OneW h := by
 obtain ⟨hv, hw, hs⟩ := oneWriter_iff.1 ho
 obtain ⟨h6, hcl, hcc⟩ := valid_iff.1 hv
 have two : ∀ c ∈ h, ∀ d ∈ h, c ≠ d → ∃ i k, i < h.length ∧ k < i ∧ ((callAt h i = c ∧ callAt h k = d) ∨ (callAt h i = d ∧ callAt h k = c)) := by
  intro c hc d hd hne
  obtain ⟨i, hi, ei⟩ := call_at hc
  obtain ⟨k, hk, ek⟩ := call_at hd
  rcases Nat.lt_trichotomy i k with h1 | h1 | h1
  ·exact ⟨k, i, hk, h1, .inr ⟨ek, ei⟩⟩
  ·subst h1; exact absurd (ei.symm.trans ek) hne
  ·exact ⟨i, k, hi, h1, .inl ⟨ei, ek⟩⟩
 have ow : ∀ c ∈ h, c.obj = 0 ∧ c.kind ≠ 1 ∧ (c.kind ≠ 0 ∨ (c.proc = 0 ∧ c.ret = 0 ∧ 1 ≤ c.arg)) := fun c hc => by
  obtain ⟨i, hi, rfl⟩ := call_at hc
  exact owOK_iff.1 (hw i hi)
 have ic : ∀ c ∈ h, isCall c = true := (valid_list.1 hv).2.1
 refine ⟨hv, fun c hc => (ow c hc).1, fun c hc => ?_, fun c hc h0 => ?_, fun c hc => ?_, fun c hc d hd e => ?_, fun c hc d hd c0 d0 e => ?_, fun c hc d hd c0 d0 => ?_⟩
 ·have h1 := isCall_iff.1 (ic c hc)
  have h2 := ow c hc
  omega
 ·have h2 := ow c hc
  omega
 ·have h1 := isCall_iff.1 (ic c hc)
  omega
 ·apply Classical.byContradiction
  intro hne
  obtain ⟨i, k, hi, hk, hh⟩ := two c hc d hd hne
  have a4 : ¬ clash (callAt h i) (callAt h k) = true := by rw [hcc i k hi hk]; simp
  rw [clash_iff] at a4
  rcases hh with ⟨e1, e2⟩ | ⟨e1, e2⟩ <;> rw [e1, e2] at a4 <;> omega
 ·apply Classical.byContradiction
  intro hne
  obtain ⟨i, k, hi, hk, hh⟩ := two c hc d hd hne
  have h3 := hs i k hi hk
  unfold samePut at h3
  rcases hh with ⟨e1, e2⟩ | ⟨e1, e2⟩ <;> rw [e1, e2] at h3 <;> simp [c0, d0, e] at h3
 ·apply Classical.byContradiction
  intro hn
  simp only [not_or] at hn
  obtain ⟨hne, n1, n2⟩ := hn
  obtain ⟨i, k, hi, hk, hh⟩ := two c hc d hd hne
  have a4 : ¬ clash (callAt h i) (callAt h k) = true := by rw [hcc i k hi hk]; simp
  rw [clash_iff] at a4
  have p1 := ow c hc
  have p2 := ow d hd
  rcases hh with ⟨e1, e2⟩ | ⟨e1, e2⟩ <;> rw [e1, e2] at a4 <;> omega
inductive Src (h : List CallD) (c : CallD) : Int → Prop where
 | none : c.ret = 0 → Src h c (-1)
 | put (k : Nat) : k < h.length → (callAt h k).kind = 0 → (callAt h k).arg = c.ret → c.ret ≠ 0 → Src h c ((k : Nat) : Int)
 | bad : c.ret ≠ 0 → (∀ k, k < h.length → (callAt h k).kind = 0 → (callAt h k).arg ≠ c.ret) → Src h c (-2)
theorem src_at (h : List CallD) (c : CallD) : Src h c (sourceR h c.ret) := by
 unfold sourceR
 by_cases h0 : c.ret = 0
 ·rw [decide_eq_true h0]; exact .none h0
 ·rw [decide_eq_false h0, cond_false]
  cases hf : fIdx h.length (putF h c.ret) with
  | none =>
   refine .bad h0 (fun k hk k0 ka => ?_)
   have := fIdx_no hf k hk
   unfold putF at this
   rw [decide_eq_true k0, decide_eq_true ka] at this
   cases this
  | some k =>
   have := fIdx_lt hf
   simp only [putF, Bool.and_eq_true, decide_eq_true_eq] at this
   exact .put k this.1 this.2.1 this.2.2 h0
theorem bef {a b : CallD} : isBefore a b = true ↔ a.to < b.frm := by unfold isBefore; simp
theorem over {a b : CallD} : doOverlap a b = true ↔ ¬ a.to < b.frm ∧ ¬ b.to < a.frm := by
 unfold doOverlap isBefore; simp
theorem keep_at {h : List CallD} (hk : keepsRegister nAtomic h = true) : oneWriter h = true ∧ (∀ c ∈ h, c.kind = 2 → sourceR h c.ret = lastBefore h c ∨ (0 ≤ sourceR h c.ret ∧ doOverlap (callAt h (sourceR h c.ret).toNat) c = true)) ∧
  ∀ c ∈ h, ∀ d ∈ h, c.kind = 2 → d.kind = 2 → isBefore c d = true → olderR h (sourceR h d.ret) (sourceR h c.ret) = false := by
 unfold keepsRegister at hk
 rw [eqS_aa, isP_a] at hk
 simp only [Bool.and_eq_true, Bool.not_true, Bool.false_or, Bool.not_eq_true', and_true] at hk
 obtain ⟨⟨ho, ha⟩, ht⟩ := hk
 refine ⟨ho, fun c hc c2 => ?_, fun c hc d hd c2 d2 hb => ?_⟩
 ·obtain ⟨i, hi, rfl⟩ := call_at hc
  have := allN_get ha i hi
  rw [decide_eq_false (show ¬ (callAt h i).kind ≠ 2 by omega), Bool.false_or] at this
  unfold keepOne at this
  rw [eqS_na] at this
  simpa using this
 ·obtain ⟨i, hi, rfl⟩ := call_at hc
  obtain ⟨k, hk, rfl⟩ := call_at hd
  cases hx : olderR h (sourceR h (callAt h k).ret) (sourceR h (callAt h i).ret) with
  | false => rfl
  | true =>
   exfalso
   have hp : turnP h i k = true := by unfold turnP; rw [decide_eq_true c2, decide_eq_true d2, hb, hx]; rfl
   unfold turn at ht
   have a1 : anyN h.length (turnP h i) = true := anyN_true hk hp
   cases hf : fIdx h.length (fun i => anyN h.length (turnP h i)) with
   | none => rw [fIdx_no hf i hi] at a1; cases a1
   | some j =>
    rw [hf] at ht
    simp only at ht
    cases hg : fIdx h.length (turnP h j) with
    | none =>
     have a2 := (fIdx_lt hf).2
     rw [anyN_false (fIdx_no hg)] at a2; cases a2
    | some m => rw [hg] at ht; cases ht
theorem keep_of {h : List CallD} (ho : oneWriter h = true) (h1 : ∀ c ∈ h, c.kind = 2 → sourceR h c.ret = lastBefore h c ∨ (0 ≤ sourceR h c.ret ∧ doOverlap (callAt h (sourceR h c.ret).toNat) c = true))
  (h2 : ∀ c ∈ h, ∀ d ∈ h, c.kind = 2 → d.kind = 2 → isBefore c d = true → olderR h (sourceR h d.ret) (sourceR h c.ret) = false) : keepsRegister nAtomic h = true := by
 unfold keepsRegister
 rw [eqS_aa, isP_a, ho]
 simp only [Bool.and_eq_true, Bool.not_true, Bool.false_or, Bool.not_eq_true', and_true, true_and]
 refine ⟨allN_true (fun i hi => ?_), ?_⟩
 ·by_cases k2 : (callAt h i).kind = 2
  ·rw [decide_eq_false (show ¬ (callAt h i).kind ≠ 2 by omega), Bool.false_or]
   unfold keepOne
   rw [eqS_na]
   simpa using h1 _ (at_mem hi) k2
  ·rw [decide_eq_true k2]; rfl
 ·rw [turn_none (fun j hj => anyN_false (fun k hk => ?_))]
  cases hp : turnP h j k with
  | false => rfl
  | true =>
   unfold turnP at hp
   simp only [Bool.and_eq_true, decide_eq_true_eq] at hp
   rw [h2 _ (at_mem hj) _ (at_mem hk) hp.1.1.1 hp.1.1.2 hp.1.2] at hp
   exact absurd hp.2 (by simp)
def baseK (h : List CallD) (c : CallD) : Int := bif decide (sourceR h c.ret < 0) then -1 else (callAt h (sourceR h c.ret).toNat).frm
def keyK (h : List CallD) (c : CallD) : Int := bif decide (c.kind = 0) then 64 * c.frm else 64 * baseK h c + 1 + c.frm
theorem key_put {h : List CallD} {c : CallD} (h0 : c.kind = 0) : keyK h c = 64 * c.frm := by unfold keyK; rw [decide_eq_true h0]; rfl
theorem key_look {h : List CallD} {c : CallD} (h0 : c.kind = 2) : keyK h c = 64 * baseK h c + 1 + c.frm := by unfold keyK; rw [decide_eq_false (show ¬ c.kind = 0 by omega)]; rfl
theorem base_cases {h : List CallD} (w : OneW h) (c : CallD) : (baseK h c = -1 ∧ (sourceR h c.ret = -1 ∧ c.ret = 0 ∨ sourceR h c.ret = -2)) ∨ ∃ p ∈ h, p.kind = 0 ∧ p.arg = c.ret ∧ c.ret ≠ 0 ∧ baseK h c = p.frm ∧ 0 ≤ sourceR h c.ret ∧ callAt h (sourceR h c.ret).toNat = p := by
 have hs := src_at h c
 unfold baseK
 generalize sourceR h c.ret = z at *
 cases hs with
 | none h0 => exact .inl ⟨rfl, .inl ⟨rfl, h0⟩⟩
 | bad h0 h1 => exact .inl ⟨rfl, .inr rfl⟩
 | put k hk k0 ka h0 =>
  refine .inr ⟨callAt h k, at_mem hk, k0, ka, h0, ?_, by omega, by simp⟩
  rw [decide_eq_false (show ¬ ((k : Nat) : Int) < 0 by omega)]; simp
theorem older_put {h : List CallD} {a b : CallD} {x y : Int} (hx : 0 ≤ x) (hy : 0 ≤ y) (ea : callAt h x.toNat = a) (eb : callAt h y.toNat = b) : olderR h x y = isBefore a b := by
 unfold olderR
 rw [decide_eq_false (show ¬ y < 0 by omega), decide_eq_true hx, decide_eq_false (show ¬ x = -1 by omega), ea, eb]; simp
theorem older_none {h : List CallD} {y : Int} (hy : 0 ≤ y) : olderR h (-1) y = true := by
 unfold olderR
 rw [decide_eq_false (show ¬ y < 0 by omega)]; simp
theorem key_mono {h : List CallD} (hk : keepsRegister nAtomic h = true) {x y : CallD} (hx : x ∈ h) (hy : y ∈ h) (hb : y.to < x.frm) : keyK h y < keyK h x := by
 obtain ⟨ho, h1, h2⟩ := keep_at hk
 have w := oneW ho
 have tx := w.time x hx
 have ty := w.time y hy
 -- what a look answers from
 have lk : ∀ c ∈ h, c.kind = 2 → ∀ q ∈ h, q.kind = 0 → q.to < c.frm → q.frm ≤ baseK h c := by
  intro c hc c2 q hq q0 qb
  have ⟨iq, hiq, eq⟩ := call_at hq
  have ln : 0 ≤ lastBefore h c := by
   apply Classical.byContradiction
   intro hn
   exact last_neg (h := h) (c := c) h.length (show lastF h c h.length < 0 by unfold lastBefore at hn; omega) iq hiq (by rw [eq]; exact q0) (by rw [eq]; exact bef.2 qb)
  have ls := last_spec (h := h) (c := c) h.length ln
  have lq := ls.2.2 iq hiq (by rw [eq]; exact q0) (by rw [eq]; exact bef.2 qb)
  rw [eq] at lq
  rcases h1 c hc c2 with e | ⟨e1, e2⟩
  ·unfold baseK
   rw [e, decide_eq_false (show ¬ lastBefore h c < 0 by omega), cond_false]
   exact lq
  ·rcases base_cases w c with ⟨_, (⟨a, _⟩ | a)⟩ | ⟨p, hp, p0, pa, _, pb, _, pe⟩
   ·omega
   ·omega
   ·rw [pe] at e2
    have := over.1 e2
    have tp := w.time p hp
    have tq := w.time q hq
    rw [pb]
    rcases w.wr p hp q hq p0 q0 with e3 | e3 | e3
    ·rw [e3]; exact Int.le_refl _
    ·omega
    ·omega
 have nb : ∀ c ∈ h, c.kind = 2 → sourceR h c.ret ≠ -2 := by
  intro c hc c2 e
  rcases h1 c hc c2 with e1 | ⟨e1, _⟩
  ·have := (lastF_bnd h c h.length).1
   unfold lastBefore at e1
   omega
  ·omega
 rcases w.kind y hy with y0 | y2 <;> rcases w.kind x hx with x0 | x2
 ·rw [key_put y0, key_put x0]; omega
 ·rw [key_put y0, key_look x2]
  have := lk x hx x2 y hy y0 hb
  omega
 ·rw [key_look y2, key_put x0]
  rcases base_cases w y with ⟨a, _⟩ | ⟨p, hp, p0, pa, _, pb, ps, pe⟩
  ·omega
  ·have tp := w.time p hp
   have : p.frm ≤ y.to := by
    rcases h1 y hy y2 with e | ⟨e1, e2⟩
    ·have ls := last_spec (h := h) (c := y) h.length (show 0 ≤ lastF h y h.length by unfold lastBefore at e; omega)
     have := bef.1 ls.2.1
     unfold lastBefore at e
     rw [← e, pe] at this
     omega
    ·rw [pe] at e2
     have := over.1 e2
     omega
   rcases w.wr p hp x hx p0 x0 with e3 | e3 | e3
   ·subst e3; omega
   ·omega
   ·omega
 ·rw [key_look y2, key_look x2]
  have ht := h2 y hy x hx y2 x2 (bef.2 hb)
  have : baseK h y ≤ baseK h x := by
   rcases base_cases w y with ⟨a, _⟩ | ⟨p, hp, p0, pa, _, pb, ps, pe⟩
   ·rcases base_cases w x with ⟨b, _⟩ | ⟨q, hq, q0, qa, _, qb, qs, qe⟩
    ·omega
    ·have := w.time q hq; omega
   ·rcases base_cases w x with ⟨b, (⟨c, _⟩ | c)⟩ | ⟨q, hq, q0, qa, _, qb, qs, qe⟩
    ·rw [c, older_none ps] at ht; cases ht
    ·exact absurd c (nb x hx x2)
    ·rw [older_put qs ps qe pe] at ht
     have hn : ¬ q.to < p.frm := fun hh => by rw [bef.2 hh] at ht; cases ht
     have tq := w.time q hq
     have tp := w.time p hp
     rcases w.wr p hp q hq p0 q0 with e3 | e3 | e3
     ·rw [pb, qb, e3]; exact Int.le_refl _
     ·omega
     ·omega
  omega
theorem atomic_linear {h : List CallD} (hk : keepsRegister nAtomic h = true) : explains nRegister h (aheadF h) = true := by
 obtain ⟨ho, h1, h2⟩ := keep_at hk
 have w := oneW ho
 let le : CallD → CallD → Bool := fun a b => decide (keyK h a ≤ keyK h b)
 have hp : (h.mergeSort le).Perm h := List.mergeSort_perm h le
 have hs : (h.mergeSort le).Pairwise (fun a b => le a b = true) := List.pairwise_mergeSort (fun a b c hab hbc => by simp only [le, decide_eq_true_eq] at *; omega) (fun a b => by simp only [le, Bool.or_eq_true, decide_eq_true_eq]; omega) h
 have hm : ∀ c, c ∈ h.mergeSort le ↔ c ∈ h := fun c => hp.mem_iff
 have hs' : (h.mergeSort le).Pairwise (fun a b => keyK h a ≤ keyK h b) := hs.imp (fun hab => by simpa [le] using hab)
 refine explains_seq.2 ⟨⟨by decide +kernel, w.hv⟩, h.mergeSort le, hp, ?_, ?_⟩
 ·have := List.Pairwise.and_mem.1 hs'
  refine this.imp (fun {a b} hab => ?_)
  intro hlt
  have := key_mono hk ((hm a).1 hab.1) ((hm b).1 hab.2.1) hlt
  omega
 ·generalize h.mergeSort le = cs at *
  rw [okP_split]
  have f0 : cs.filter at0 = cs := List.filter_eq_self.2 (fun c hc => by unfold at0; exact decide_eq_true (w.obj c ((hm c).1 hc)))
  have f1 : (cs.filter fun c => !at0 c) = [] := List.filter_eq_nil_iff.2 (fun c hc => by unfold at0; rw [decide_eq_true (w.obj c ((hm c).1 hc))]; simp)
  rw [f0, f1, show okL nRegister [] [] = true from rfl, Bool.and_true, okL_reg cs [] (fun c hc => w.kind c ((hm c).1 hc))]
  rw [regOK_iff]
  intro pre c post e
  have hc : c ∈ h := (hm c).1 (by rw [e]; simp)
  refine ⟨fun c0 => (w.put c hc c0).1, fun c0 => ?_⟩
  have c2 : c.kind = 2 := (w.kind c hc).resolve_left c0
  rw [e] at hs'
  have hpc : ∀ d ∈ pre, keyK h d ≤ keyK h c := fun d hd => (List.pairwise_append.1 hs').2.2 d hd c (by simp)
  have hpo : ∀ d ∈ post, keyK h c ≤ keyK h d := fun d hd => (List.pairwise_cons.1 (List.pairwise_append.1 hs').2.1).1 d hd
  have hin : ∀ d ∈ pre, d ∈ h := fun d hd => (hm d).1 (by rw [e]; simp [hd])
  have tc := w.time c hc
  rcases base_cases w c with ⟨a, (⟨b, c9⟩ | b)⟩ | ⟨p, hpm, p0, pa, _, pb, ps, pe⟩
  ·rw [lastV_none]
   ·exact c9
   ·intro d hd d0
    have := hpc d hd
    rw [key_put d0, key_look c2, a] at this
    have := w.time d (hin d hd)
    omega
  ·exfalso
   rcases h1 c hc c2 with e1 | ⟨e1, _⟩
   ·have := (lastF_bnd h c h.length).1
    unfold lastBefore at e1
    omega
   ·omega
  ·have kp : keyK h p = 64 * p.frm := key_put p0
   have kc : keyK h c = 64 * p.frm + 1 + c.frm := by rw [key_look c2, pb]
   have hpp : p ∈ pre := by
    have : p ∈ cs := (hm p).2 hpm
    rw [e] at this
    rcases List.mem_append.1 this with h3 | h3
    ·exact h3
    ·rcases List.mem_cons.1 h3 with h4 | h4
     ·rw [h4] at p0; omega
     ·have := hpo p h4; omega
   obtain ⟨p1, v, p2, e2, v0, vn, ve⟩ := lastV_some pre 0 ⟨p, hpp, p0⟩
   rw [show (([] : List Int).getD 0 0) = 0 from rfl, ve]
   have hv : v ∈ pre := by rw [e2]; simp
   have k1 : keyK h p ≤ keyK h v := by
    rw [e2] at hpp
    rcases List.mem_append.1 hpp with h3 | h3
    ·have h5 := (List.pairwise_append.1 hs').1
     rw [e2] at h5
     exact (List.pairwise_append.1 h5).2.2 p h3 v (by simp)
    ·rcases List.mem_cons.1 h3 with h4 | h4
     ·rw [h4]; exact Int.le_refl _
     ·exact absurd p0 (vn p h4)
   have k2 := hpc v hv
   rw [key_put v0] at k1 k2
   have : v = p := w.frm v (hin v hv) p hpm (by omega)
   rw [this, pa]
theorem linear_atomic {h : List CallD} (ho : oneWriter h = true) (hl : explains nRegister h (aheadF h) = true) : keepsRegister nAtomic h = true := by
 have w := oneW ho
 obtain ⟨_, cs, hp, hw, hok⟩ := explains_seq.1 hl
 have hm : ∀ c, c ∈ cs ↔ c ∈ h := fun c => hp.mem_iff
 rw [okP_split] at hok
 have f0 : cs.filter at0 = cs := List.filter_eq_self.2 (fun c hc => by unfold at0; exact decide_eq_true (w.obj c ((hm c).1 hc)))
 have f1 : (cs.filter fun c => !at0 c) = [] := List.filter_eq_nil_iff.2 (fun c hc => by unfold at0; rw [decide_eq_true (w.obj c ((hm c).1 hc))]; simp)
 rw [f0, f1, show okL nRegister [] [] = true from rfl, Bool.and_true, okL_reg cs [] (fun c hc => w.kind c ((hm c).1 hc)), regOK_iff] at hok
 have nd := (valid_nodup w.hv)
 have nc : cs.Nodup := hp.symm.nodup nd
 -- a look answers from the last put ahead of it
 have look : ∀ pre c post, cs = pre ++ c :: post → c.kind = 2 → (sourceR h c.ret = -1 ∧ ∀ d ∈ pre, d.kind ≠ 0) ∨ ∃ p1 p p2, pre = p1 ++ p :: p2 ∧ p.kind = 0 ∧ (∀ d ∈ p2, d.kind ≠ 0) ∧ 0 ≤ sourceR h c.ret ∧ callAt h (sourceR h c.ret).toNat = p := by
  intro pre c post e c2
  have hc : c ∈ h := (hm c).1 (by rw [e]; simp)
  have hr := (hok pre c post e).2 (by omega)
  have hin : ∀ d ∈ pre, d ∈ h := fun d hd => (hm d).1 (by rw [e]; simp [hd])
  by_cases hx : ∃ d ∈ pre, d.kind = 0
  ·obtain ⟨p1, p, p2, e2, p0, pn, pe⟩ := lastV_some pre (([] : List Int).getD 0 0) hx
   rw [pe] at hr
   have hpm : p ∈ h := hin p (by rw [e2]; simp)
   have pp := w.put p hpm p0
   right
   refine ⟨p1, p, p2, e2, p0, pn, ?_⟩
   rcases base_cases w c with ⟨_, (⟨_, b⟩ | b)⟩ | ⟨q, hq, q0, qa, _, _, qs, qe⟩
   ·omega
   ·exfalso
    have hs := src_at h c
    rw [b] at hs
    generalize hz : (-2 : Int) = z at hs
    cases hs with
    | none => omega
    | put k hk k0 ka h0 => omega
    | bad h0 h1 =>
     obtain ⟨k, hk, ek⟩ := call_at hpm
     exact h1 k hk (by rw [ek]; exact p0) (by rw [ek]; exact hr.symm)
   ·exact ⟨qs, by rw [qe]; exact w.arg q hq p hpm q0 p0 (by omega)⟩
  ·left
   have hn : ∀ d ∈ pre, d.kind ≠ 0 := fun d hd d0 => hx ⟨d, hd, d0⟩
   rw [lastV_none pre _ hn] at hr
   exact ⟨source_neg.2 hr, hn⟩
 have split : ∀ c ∈ h, ∃ pre post, cs = pre ++ c :: post := fun c hc => List.append_of_mem ((hm c).2 hc)
 -- what is before another one stands ahead of it
 have ord : ∀ pre c post, cs = pre ++ c :: post → ∀ d ∈ h, d.to < c.frm → d ∈ pre := by
  intro pre c post e d hd hb
  have : d ∈ cs := (hm d).2 hd
  rw [e] at this
  rcases List.mem_append.1 this with h3 | h3
  ·exact h3
  ·have tc := w.time d hd
   rcases List.mem_cons.1 h3 with h4 | h4
   ·rw [h4] at hb tc; omega
   ·rw [e] at hw
    have := (List.pairwise_cons.1 (List.pairwise_append.1 hw).2.1).1 d h4
    exact absurd hb this
 refine keep_of ho (fun c hc c2 => ?_) (fun c hc d hd c2 d2 hb => ?_)
 ·obtain ⟨pre, post, e⟩ := split c hc
  have hin : ∀ d ∈ pre, d ∈ h := fun d hd => (hm d).1 (by rw [e]; simp [hd])
  rcases look pre c post e c2 with ⟨a, hn⟩ | ⟨p1, p, p2, e2, p0, pn, ps, pe⟩
  ·left
   rw [a]
   have hb := lastF_bnd h c h.length
   apply Classical.byContradiction
   intro hne
   have ln : 0 ≤ lastF h c h.length := by unfold lastBefore at hne; omega
   have ls := last_spec (h := h) (c := c) h.length ln
   have : callAt h (lastF h c h.length).toNat ∈ pre := ord pre c post e _ (at_mem (by omega)) (bef.1 ls.2.1)
   exact hn _ this ls.1
  ·have hpm : p ∈ h := hin p (by rw [e2]; simp)
   by_cases hb : p.to < c.frm
   ·left
    obtain ⟨ip, hip, eip⟩ := call_at hpm
    have hbd := lastF_bnd h c h.length
    have ln : 0 ≤ lastF h c h.length := by
     apply Classical.byContradiction
     intro hn
     exact last_neg (h := h) (c := c) h.length (by omega) ip hip (by rw [eip]; exact p0) (by rw [eip]; exact bef.2 hb)
    have ls := last_spec (h := h) (c := c) h.length ln
    have hq : callAt h (lastF h c h.length).toNat ∈ h := at_mem (by omega)
    have e3 : callAt h (lastF h c h.length).toNat = p := by
     generalize hqq : callAt h (lastF h c h.length).toNat = q at *
     have q0 := ls.1
     have qb := bef.1 ls.2.1
     have ql := ls.2.2 ip hip (by rw [eip]; exact p0) (by rw [eip]; exact bef.2 hb)
     rw [eip] at ql
     have tp := w.time p hpm
     have tq := w.time q hq
     rcases w.wr p hpm q hq p0 q0 with e4 | e4 | e4
     ·exact e4.symm
     ·exfalso
      have qpre := ord pre c post e q hq qb
      rw [e2] at qpre
      have hw' := hw
      rw [e, e2] at hw'
      rcases List.mem_append.1 qpre with h3 | h3
      ·have := (List.pairwise_append.1 (List.pairwise_append.1 hw').1).2.2 q h3 p (by simp)
       exact this e4
      ·rcases List.mem_cons.1 h3 with h4 | h4
       ·rw [h4] at e4; omega
       ·exact pn q h4 q0
     ·omega
    -- the same call, the same place
    have hsl := source_lt h c.ret
    have i1 : (sourceR h c.ret).toNat < h.length := by omega
    have i2 : (lastF h c h.length).toNat < h.length := by omega
    have e5 := idx_callAt nd i1
    have e6 := idx_callAt nd i2
    rw [pe] at e5
    rw [e3] at e6
    unfold lastBefore
    omega
   ·right
    refine ⟨ps, ?_⟩
    rw [pe]
    refine over.2 ⟨hb, ?_⟩
    rw [e, e2] at hw
    exact (List.pairwise_append.1 hw).2.2 p (by simp) c (by simp)
 ·have hb := bef.1 hb
  obtain ⟨pre, post, e⟩ := split d hd
  have hcp := ord pre d post e c hc hb
  cases hx : olderR h (sourceR h d.ret) (sourceR h c.ret) with
  | false => rfl
  | true =>
   exfalso
   obtain ⟨q1, q2, eq⟩ := List.append_of_mem hcp
   have ec : cs = q1 ++ c :: (q2 ++ d :: post) := by rw [e, eq]; simp
   rcases look q1 c _ ec c2 with ⟨a, _⟩ | ⟨b1, b, b2, eb, b0, bn, bs, be⟩
   ·rw [a] at hx; unfold olderR at hx; simp at hx
   ·have bpre : b ∈ pre := by rw [eq, eb]; simp
    have bm : b ∈ h := (hm b).1 (by rw [e]; simp [bpre])
    rcases look pre d post e d2 with ⟨a, hn⟩ | ⟨p1, p, p2, e2, p0, pn, ps, pe⟩
    ·exact hn b bpre b0
    ·rw [older_put ps bs pe be] at hx
     have hlt := bef.1 hx
     have ppre : p ∈ pre := by rw [e2]; simp
     have pm : p ∈ h := (hm p).1 (by rw [e]; simp [ppre])
     have tp := w.time p pm
     have tb := w.time b bm
     rw [e2] at bpre
     rcases List.mem_append.1 bpre with h3 | h3
     ·rw [e, e2] at hw
      have := (List.pairwise_append.1 (List.pairwise_append.1 hw).1).2.2 b h3 p (by simp)
      exact this hlt
     ·rcases List.mem_cons.1 h3 with h4 | h4
      ·rw [h4] at hlt; omega
      ·exact pn b h4 b0
theorem atomic_iff {h : List CallD} (ho : oneWriter h = true) : keepsRegister nAtomic h = explains nRegister h (aheadF h) :=
 bool_ext ⟨atomic_linear, linear_atomic ho⟩
theorem regular_safe {h : List CallD} (hr : keepsRegister nRegular h = true) : keepsRegister nSafe h = true := by
 unfold keepsRegister at *
 rw [isP_r, show eqS nRegular nAtomic = false from by decide +kernel] at hr
 rw [show isPromise nSafe = true from by decide +kernel, show eqS nSafe nAtomic = false from by decide +kernel]
 simp only [Bool.and_eq_true, Bool.not_false, Bool.true_or, and_true] at *
 refine ⟨hr.1, allN_true (fun i hi => ?_)⟩
 have := allN_get hr.2 i hi
 cases h2 : decide ((callAt h i).kind ≠ 2) with
 | true => rfl
 | false =>
  rw [h2, Bool.false_or] at this
  rw [Bool.false_or]
  unfold keepOne at *
  rw [eqS_nr, cond_false] at this
  rw [show eqS nSafe nSafe = true from by decide +kernel, cond_true]
  cases h3 : decide (sourceR h (callAt h i).ret = lastBefore h (callAt h i)) with
  | true => rfl
  | false =>
   rw [h3, Bool.false_or, Bool.and_eq_true, decide_eq_true_eq] at this
   rw [Bool.false_or]
   have hs := source_spec this.1
   have hl := source_lt h (callAt h i).ret
   unfold overlapsPut
   exact anyN_true (i := (sourceR h (callAt h i).ret).toNat) (by omega) (by rw [decide_eq_true hs.2.1, this.2]; rfl)
theorem keeps_law {h : List CallD} (ho : oneWriter h = true) : (((keepsRegister nAtomic h == explains nRegister h (aheadF h)) && (!keepsRegister nAtomic h || keepsRegister nRegular h)) && (!keepsRegister nRegular h || keepsRegister nSafe h)) = true := by
 rw [← atomic_iff ho]
 refine and_t (and_t (by simp) ?_) ?_
 ·rw [keep_law]
  cases keepsRegister nRegular h <;> simp
 ·cases hr : keepsRegister nRegular h with
  | false => rfl
  | true => rw [regular_safe hr]; rfl
end Go.Ab

set_option linter.unusedSimpArgs false
set_option linter.unusedVariables false
namespace Go.Ab
theorem last_cond {h : List CallD} (ho : oneWriter h = true) {c : CallD} {k : Nat} (hk : k < h.length) :
  ((decide ((h.getD k default).kind = 0) && isBefore (h.getD k default) c) && (decide (lastF h c k < 0) || isBefore (h.getD (lastF h c k).toNat default) (h.getD k default))) =
  ((decide ((h.getD k default).kind = 0) && isBefore (h.getD k default) c) && (decide (lastF h c k < 0) || decide ((h.getD (lastF h c k).toNat default).frm < (h.getD k default).frm))) := by
 by_cases hl : lastF h c k < 0
 ·rw [decide_eq_true hl]; simp
 ·rw [decide_eq_false hl, Bool.false_or, Bool.false_or]
  by_cases k0 : (h.getD k default).kind = 0
  ·congr 1
   have w := oneW ho
   have ls := last_spec (h := h) (c := c) k (by omega)
   have lb := lastF_bnd h c k
   have m1 : callAt h (lastF h c k).toNat ∈ h := at_mem (by omega)
   have m2 : callAt h k ∈ h := at_mem hk
   have t1 := w.time _ m1
   have t2 := w.time _ m2
   have ww := w.wr _ m1 _ m2 ls.1 k0
   have ne : callAt h (lastF h c k).toNat ≠ callAt h k := fun e => by
    have e1 := idx_callAt (valid_nodup w.hv) (show (lastF h c k).toNat < h.length by omega)
    have e2 := idx_callAt (valid_nodup w.hv) hk
    rw [e] at e1
    omega
   apply bool_ext
   rw [bef, decide_eq_true_eq]
   show (callAt h (lastF h c k).toNat).to < (callAt h k).frm ↔ (callAt h (lastF h c k).toNat).frm < (callAt h k).frm
   rcases ww with e | e | e
   ·exact absurd e ne
   ·omega
   ·omega
  ·rw [decide_eq_false k0]; rfl
theorem lastS_yes {h : List CallD} (ho : oneWriter h = true) {c : CallD} {k : Nat} {o : Int} (e : o = lastF h c k) (hk : k < h.length) (hb : ((decide ((h.getD k default).kind = 0) && isBefore (h.getD k default) c) && (decide (o < 0) || isBefore (h.getD o.toNat default) (h.getD k default))) = true) : ((k : Nat) : Int) = lastF h c (k + 1) := by
 rw [e, last_cond ho hk] at hb
 exact (last_yes hb).symm
theorem lastS_no {h : List CallD} (ho : oneWriter h = true) {c : CallD} {k : Nat} {o : Int} (e : o = lastF h c k) (hk : k < h.length) (hb : ((decide ((h.getD k default).kind = 0) && isBefore (h.getD k default) c) && (decide (o < 0) || isBefore (h.getD o.toNat default) (h.getD k default))) = false) : o = lastF h c (k + 1) := by
 rw [e, last_cond ho hk] at hb
 rw [e]
 exact (last_no hb).symm
def keptB (pr : ByteArray) (h : List CallD) : Bool := allN h.length (fun i => decide ((callAt h i).kind ≠ 2) || keepOne h pr (callAt h i)) && (!eqS pr nAtomic || !(turn h).2.2)
theorem kept_fold {pr : ByteArray} {h : List CallD} (hg : (oneWriter h && isPromise pr) = true) : keptB pr h = keepsRegister pr h := by
 unfold keptB keepsRegister; rw [hg, Bool.true_and]
def ovUp (h : List CallD) (c : CallD) (k : Nat) : Bool := anyN k (fun j => decide ((callAt h j).kind = 0) && doOverlap (callAt h j) c)
theorem any_succ {k : Nat} {f : Nat → Bool} : anyN (k + 1) f = (anyN k f || f k) := by
 apply bool_ext
 rw [Bool.or_eq_true]
 constructor
 ·intro h
  cases hk : anyN k f with
  | true => exact .inl rfl
  | false =>
   cases hf : f k with
   | true => exact .inr rfl
   | false =>
    rw [anyN_false (fun j hj => by
     by_cases e : j = k
     ·rw [e]; exact hf
     ·cases hj2 : f j with
      | false => rfl
      | true => rw [anyN_true (show j < k by omega) hj2] at hk; cases hk)] at h
    cases h
 ·rintro (h | h)
  ·apply Classical.byContradiction
   intro hn
   have hn' : anyN (k + 1) f = false := by simpa using hn
   have : anyN k f = false := anyN_false (fun j hj => by
    cases hj2 : f j with
    | false => rfl
    | true => rw [anyN_true (show j < k + 1 by omega) hj2] at hn'; cases hn')
   rw [this] at h; cases h
  ·exact anyN_true (by omega) h
theorem ov_next {h : List CallD} {c : CallD} {k : Nat} {m : Bool} (hm : m = ovUp h c k) : (m || ((decide ((h.getD k default).kind = 0) && (!isBefore (h.getD k default) c)) && (!isBefore c (h.getD k default)))) = ovUp h c (k + 1) := by
 rw [hm]
 unfold ovUp
 rw [any_succ]
 unfold doOverlap callAt
 rw [Bool.and_assoc]
theorem ov_all {h : List CallD} {c : CallD} {k : Nat} {m : Bool} (hm : m = ovUp h c k) (hk : k = h.length) : m = overlapsPut h c := by rw [hm, hk]; rfl
theorem keep_val {h : List CallD} {pr : ByteArray} {c : CallD} {m fine over b : Bool} (hm : m = overlapsPut h c) (hf : fine = decide (sourceR h c.ret = lastBefore h c)) (hv : over = (decide (0 ≤ sourceR h c.ret) && doOverlap (callAt h (sourceR h c.ret).toNat) c))
  (hb : (((eqS pr nSafe && !m) && !fine) || (((!eqS pr nSafe) && !fine) && !over)) = b) : keepOne h pr c = !b := by
 subst hb
 unfold keepOne
 rw [← hm, ← hf, ← hv]
 cases eqS pr nSafe <;> cases m <;> cases fine <;> cases over <;> rfl
theorem keep_val2 {h : List CallD} {pr : ByteArray} {i : Nat} {m b : Bool} (hm : m = overlapsPut h (h.getD i default))
  (hb : (((eqS pr nSafe && !m) && !decide (sourceR h (h.getD (Int.toNat ((i : Nat) : Int)) default).ret = lastBefore h (h.getD (Int.toNat ((i : Nat) : Int)) default))) || (((!eqS pr nSafe) && !decide (sourceR h (h.getD (Int.toNat ((i : Nat) : Int)) default).ret = lastBefore h (h.getD (Int.toNat ((i : Nat) : Int)) default))) &&
   !((decide (0 ≤ sourceR h (h.getD (Int.toNat ((i : Nat) : Int)) default).ret) && (!isBefore (h.getD (sourceR h (h.getD (Int.toNat ((i : Nat) : Int)) default).ret).toNat default) (h.getD i default))) && (!isBefore (h.getD i default) (h.getD (sourceR h (h.getD (Int.toNat ((i : Nat) : Int)) default).ret).toNat default))))) = b) : keepOne h pr (h.getD i default) = !b := by
 simp only [Int.toNat_natCast] at hb
 exact keep_val hm rfl rfl (by rw [← hb, Bool.and_assoc (decide (0 ≤ sourceR h (h.getD i default).ret))]; rfl)
theorem turn_fold2 {h : List CallD} {i k : Nat} {b : Bool} (h2 : ¬ (h.getD i default).kind ≠ 2) (hb : ((decide ((h.getD k default).kind = 2) && isBefore (h.getD i default) (h.getD k default)) && olderR h (sourceR h (h.getD (Int.toNat ((k : Nat) : Int)) default).ret) (sourceR h (h.getD (Int.toNat ((i : Nat) : Int)) default).ret)) = b) : turnP h i k = b := by
 unfold turnP callAt
 rw [decide_eq_true (show (h.getD i default).kind = 2 by omega), Bool.true_and]
 exact hb
theorem kept_no {pr : ByteArray} {h : List CallD} {i : Nat} (hi : i < h.length) (h2 : ¬ (h.getD i default).kind ≠ 2) (hk : keepOne h pr (h.getD i default) = false) : keptB pr h = false := by
 unfold keptB
 exact and_fl (allN_false hi (or_f (decide_eq_false h2) hk))
theorem kept_turn {pr : ByteArray} {h : List CallD} {i k : Nat} (hi : i < h.length) (hk : k < h.length) (ha : eqS pr nAtomic = true) (ht : turnP h i k = true) : keptB pr h = false := by
 unfold keptB
 have : (turn h).2.2 = true := by
  unfold turn
  have a1 : anyN h.length (turnP h i) = true := anyN_true hk ht
  cases hf : fIdx h.length (fun i => anyN h.length (turnP h i)) with
  | none => rw [fIdx_no hf i hi] at a1; cases a1
  | some j =>
   simp only
   cases hg : fIdx h.length (turnP h j) with
   | none =>
    have a2 := (fIdx_lt hf).2
    rw [anyN_false (fIdx_no hg)] at a2; cases a2
   | some m => rfl
 rw [ha, this]; simp
theorem kept_yes {pr : ByteArray} {h : List CallD} (hA : ∀ j, j < h.length → (decide ((callAt h j).kind ≠ 2) || keepOne h pr (callAt h j)) = true) (hT : eqS pr nAtomic = true → ∀ j, j < h.length → ∀ k, k < h.length → turnP h j k = false) : keptB pr h = true := by
 unfold keptB
 refine and_t (allN_true hA) ?_
 cases ha : eqS pr nAtomic with
 | false => rfl
 | true => rw [turn_none (fun j hj => anyN_false (hT ha j hj))]; rfl
theorem turn_not {h : List CallD} {i k : Nat} (h2 : (h.getD i default).kind ≠ 2) : turnP h i k = false := by
 unfold turnP callAt
 rw [decide_eq_false h2]; rfl
theorem keeps_0' {h : List CallD} {pr : ByteArray} (hb : ((((!eqS pr nSafe) && (!eqS pr nRegular)) && (!eqS pr nAtomic)) || (!oneWriter h)) = true) : keepsRegister pr h = false := keeps_0 (by rw [Bool.or_comm]; exact hb)
theorem keeps_pr' {h : List CallD} {pr : ByteArray} (hb : ((((!eqS pr nSafe) && (!eqS pr nRegular)) && (!eqS pr nAtomic)) || (!oneWriter h)) = false) : (oneWriter h && isPromise pr) = true := keeps_pr (by rw [Bool.or_comm]; exact hb)
end Go.Ab

set_option linter.unusedSimpArgs false
set_option linter.unusedVariables false
namespace Go.Proofs.Try
open Go.Ab Go.RowKit
def fs38 : FnS := fnS [.o,.o,.o] [.int,.int,.int] (fun _ (n,low,high,_) => (.b (within n low high),[],True))
abbrev T38 : Tab := lk []
theorem tab38 : TabOK prog T38 := TabOK.nil
set_option maxRecDepth 100000 in
set_option maxHeartbeats 1000000 in
theorem ok38 : FnOK prog 38 fs38 := by
 refine FnOK.mk cok func38 rfl rfl rfl ?_
 rintro fl ⟨(n : Int),(low : Int),(high : Int),_⟩ hpre F hnt0 _
 have hnt : F.nt = 15 := hnt0.trans ntmps38
 clear hpre
 refine W.to (⟨[(0,.i n),(1,.i low),(2,.i high)],[],[999]⟩) rfl ?_
 refine Kk cok tab38 hnt [] [0,1,2] (⟨[(0,.i n),(1,.i low),(2,.i high)],[],[999]⟩)
  (True ∧ True)
  ⟨tt,tt⟩ ?_
 refine Kk cok tab38 hnt [] [6] (⟨[(6,.b ((decide (low ≤ n)) && (decide (n ≤ high))))],[],[999]⟩)
  ((fun (Z1:Bool)=>(True ∧ (True ∧ ((True ∧ (True ∧ True)) ∧ (True ∧ ((Z1 = true → True) ∧ ((Z1 = true → True) ∧ ((Z1 = true → (((Z1 = true) ∧ True) ∧ (((Z1 = true) ∧ True) ∧ True))) ∧ ((True ∧ ((Z1 = true → (Z1 = true) ∧ True) ∧ (Z1 = false → True))) ∧ (True ∧ True)))))))))) (decide (low ≤ n)))
  ⟨tt,tt,⟨tt,tt,tt⟩,tt,(fun _ => trivial),(fun _ => trivial),(fun hG => ⟨⟨hG,tt⟩,⟨hG,tt⟩,tt⟩),⟨tt,(fun hp => ⟨hp,tt⟩),(fun _ => trivial)⟩,tt,tt⟩ ?_
 refine W.ret ?_
 exact endQ_ret (.b ((decide (low ≤ n)) && (decide (n ≤ high)))) (by kernel_rfl) (@cast ((.bool ((decide (low ≤ n)) && (decide (n ≤ high))) : Value) = .bool (within n low high)) _ (by kernel_rfl) (congrArg Value.bool (by first | rfl | simp_all)))
theorem ent38 : Entr prog 38 := ⟨_,func38,rfl,by decide⟩
end Go.Proofs.Try

set_option linter.unusedSimpArgs false
set_option linter.unusedVariables false
namespace Go.Proofs.Try
open Go.Ab Go.RowKit
def fs32 : FnS := fnS [.o] [.call] (fun _ (c,_) => (.b (isCall c),[],True))
abbrev T32 : Tab := lk [(38,fs38)]
theorem tab32 : TabOK prog T32 := (TabOK.cons ok38 ent38 TabOK.nil)
set_option maxRecDepth 100000 in
set_option maxHeartbeats 1000000 in
theorem ok32 : FnOK prog 32 fs32 := by
 refine FnOK.mk cok func32 rfl rfl rfl ?_
 rintro fl ⟨(c : CallD),_⟩ hpre F hnt0 _
 have hnt : F.nt = 43 := hnt0.trans ntmps32
 clear hpre
 refine W.to (⟨[(0,.agg [.i c.proc,.i c.obj,.i c.kind,.i c.arg,.i c.ret,.i c.frm,.i c.to])],[],[999]⟩) rfl ?_
 refine Kk cok tab32 hnt [] [1] (⟨[(1,.ptr 1 0)],[(1,⟨35,.fix [.i c.proc,.i c.obj,.i c.kind,.i c.arg,.i c.ret,.i c.frm,.i c.to]⟩)],[1,999]⟩)
  (True ∧ True ∧ True)
  ⟨tt,tt,tt⟩ ?_
 refine Kk cok tab32 hnt [] [2] (⟨[(2,.b ((((((((within c.proc (0 : Int) (2 : Int)) && (within c.obj (0 : Int) (1 : Int))) && (within c.kind (0 : Int) (2 : Int))) && (within c.arg (0 : Int) (3 : Int))) && (within c.ret (-1 : Int) (20 : Int))) && (within c.frm (0 : Int) (30 : Int))) && (within c.to (0 : Int) (30 : Int))) && (decide (c.frm < c.to))))],[(1,⟨35,.fix [.i c.proc,.i c.obj,.i c.kind,.i c.arg,.i c.ret,.i c.frm,.i c.to]⟩)],[1,999]⟩)
  ((fun (Z1:Bool)=>((fun (Z2:Bool)=>((fun (Z3:Bool)=>((fun (Z4:Bool)=>((fun (Z5:Bool)=>((fun (Z6:Bool)=>((fun (Z7:Bool)=>(True ∧ (True ∧ ((True ∧ ((True ∧ (True ∧ (True ∧ True))) ∧ True)) ∧ (True ∧ ((Z1 = true → True) ∧ ((Z1 = true → ((Z1 = true) ∧ True)) ∧ ((Z1 = true → (True ∧ ((((Z1 = true) ∧ True) ∧ (True ∧ (True ∧ True))) ∧ True))) ∧ ((True ∧ ((Z1 = true → (Z1 = true) ∧ True) ∧ (Z1 = false → True))) ∧ (True ∧ ((Z2 = true → True) ∧ ((Z2 = true → ((Z2 = true) ∧ True)) ∧ ((Z2 = true → (True ∧ ((((Z2 = true) ∧ True) ∧ (True ∧ (True ∧ True))) ∧ True))) ∧ ((True ∧ ((Z2 = true → (Z2 = true) ∧ True) ∧ (Z2 = false → True))) ∧ (True ∧ ((Z3 = true → True) ∧ ((Z3 = true → ((Z3 = true) ∧ True)) ∧ ((Z3 = true → (True ∧ ((((Z3 = true) ∧ True) ∧ (True ∧ (True ∧ True))) ∧ True))) ∧ ((True ∧ ((Z3 = true → (Z3 = true) ∧ True) ∧ (Z3 = false → True))) ∧ (True ∧ ((Z4 = true → True) ∧ ((Z4 = true → ((Z4 = true) ∧ True)) ∧ ((Z4 = true → (True ∧ ((((Z4 = true) ∧ True) ∧ (True ∧ (True ∧ True))) ∧ True))) ∧ ((True ∧ ((Z4 = true → (Z4 = true) ∧ True) ∧ (Z4 = false → True))) ∧ (True ∧ ((Z5 = true → True) ∧ ((Z5 = true → ((Z5 = true) ∧ True)) ∧ ((Z5 = true → (True ∧ ((((Z5 = true) ∧ True) ∧ (True ∧ (True ∧ True))) ∧ True))) ∧ ((True ∧ ((Z5 = true → (Z5 = true) ∧ True) ∧ (Z5 = false → True))) ∧ (True ∧ ((Z6 = true → True) ∧ ((Z6 = true → ((Z6 = true) ∧ True)) ∧ ((Z6 = true → (True ∧ ((((Z6 = true) ∧ True) ∧ (True ∧ (True ∧ True))) ∧ True))) ∧ ((True ∧ ((Z6 = true → (Z6 = true) ∧ True) ∧ (Z6 = false → True))) ∧ (True ∧ ((Z7 = true → True) ∧ ((Z7 = true → ((Z7 = true) ∧ True)) ∧ ((Z7 = true → True) ∧ ((Z7 = true → ((Z7 = true) ∧ True)) ∧ ((Z7 = true → (((Z7 = true) ∧ True) ∧ (((Z7 = true) ∧ True) ∧ True))) ∧ ((True ∧ ((Z7 = true → (Z7 = true) ∧ True) ∧ (Z7 = false → True))) ∧ (True ∧ True)))))))))))))))))))))))))))))))))))))))))) (Z6 && (within c.to (0 : Int) (30 : Int))))) (Z5 && (within c.frm (0 : Int) (30 : Int))))) (Z4 && (within c.ret (-1 : Int) (20 : Int))))) (Z3 && (within c.arg (0 : Int) (3 : Int))))) (Z2 && (within c.kind (0 : Int) (2 : Int))))) (Z1 && (within c.obj (0 : Int) (1 : Int))))) (within c.proc (0 : Int) (2 : Int)))
  ⟨tt,tt,⟨tt,⟨tt,tt,tt,tt⟩,tt⟩,tt,(fun _ => trivial),(fun hG => ⟨hG,tt⟩),(fun hG => ⟨tt,⟨⟨hG,tt⟩,tt,tt,tt⟩,tt⟩),⟨tt,(fun hp => ⟨hp,tt⟩),(fun _ => trivial)⟩,tt,(fun _ => trivial),(fun hG => ⟨hG,tt⟩),(fun hG => ⟨tt,⟨⟨hG,tt⟩,tt,tt,tt⟩,tt⟩),⟨tt,(fun hp => ⟨hp,tt⟩),(fun _ => trivial)⟩,tt,(fun _ => trivial),(fun hG => ⟨hG,tt⟩),(fun hG => ⟨tt,⟨⟨hG,tt⟩,tt,tt,tt⟩,tt⟩),⟨tt,(fun hp => ⟨hp,tt⟩),(fun _ => trivial)⟩,tt,(fun _ => trivial),(fun hG => ⟨hG,tt⟩),(fun hG => ⟨tt,⟨⟨hG,tt⟩,tt,tt,tt⟩,tt⟩),⟨tt,(fun hp => ⟨hp,tt⟩),(fun _ => trivial)⟩,tt,(fun _ => trivial),(fun hG => ⟨hG,tt⟩),(fun hG => ⟨tt,⟨⟨hG,tt⟩,tt,tt,tt⟩,tt⟩),⟨tt,(fun hp => ⟨hp,tt⟩),(fun _ => trivial)⟩,tt,(fun _ => trivial),(fun hG => ⟨hG,tt⟩),(fun hG => ⟨tt,⟨⟨hG,tt⟩,tt,tt,tt⟩,tt⟩),⟨tt,(fun hp => ⟨hp,tt⟩),(fun _ => trivial)⟩,tt,(fun _ => trivial),(fun hG => ⟨hG,tt⟩),(fun _ => trivial),(fun hG => ⟨hG,tt⟩),(fun hG => ⟨⟨hG,tt⟩,⟨hG,tt⟩,tt⟩),⟨tt,(fun hp => ⟨hp,tt⟩),(fun _ => trivial)⟩,tt,tt⟩ ?_
 refine W.ret ?_
 exact endQ_ret (.b ((((((((within c.proc (0 : Int) (2 : Int)) && (within c.obj (0 : Int) (1 : Int))) && (within c.kind (0 : Int) (2 : Int))) && (within c.arg (0 : Int) (3 : Int))) && (within c.ret (-1 : Int) (20 : Int))) && (within c.frm (0 : Int) (30 : Int))) && (within c.to (0 : Int) (30 : Int))) && (decide (c.frm < c.to)))) (by kernel_rfl) (@cast ((.bool ((((((((within c.proc (0 : Int) (2 : Int)) && (within c.obj (0 : Int) (1 : Int))) && (within c.kind (0 : Int) (2 : Int))) && (within c.arg (0 : Int) (3 : Int))) && (within c.ret (-1 : Int) (20 : Int))) && (within c.frm (0 : Int) (30 : Int))) && (within c.to (0 : Int) (30 : Int))) && (decide (c.frm < c.to))) : Value) = .bool (isCall c)) _ (by kernel_rfl) (congrArg Value.bool (by first | rfl | simp_all)))
theorem ent32 : Entr prog 32 := ⟨_,func32,rfl,by decide⟩
end Go.Proofs.Try

set_option linter.unusedSimpArgs false
set_option linter.unusedVariables false
namespace Go.Proofs.Try
open Go.Ab Go.RowKit
def fs26 : FnS := fnS [.o,.o] [.call,.call] (fun _ (a,b,_) => (.b (isBefore a b),[],True))
abbrev T26 : Tab := lk []
theorem tab26 : TabOK prog T26 := TabOK.nil
set_option maxRecDepth 100000 in
set_option maxHeartbeats 1000000 in
theorem ok26 : FnOK prog 26 fs26 := by
 refine FnOK.mk cok func26 rfl rfl rfl ?_
 rintro fl ⟨(a : CallD),(b : CallD),_⟩ hpre F hnt0 _
 have hnt : F.nt = 10 := hnt0.trans ntmps26
 clear hpre
 refine W.to (⟨[(0,.agg [.i a.proc,.i a.obj,.i a.kind,.i a.arg,.i a.ret,.i a.frm,.i a.to]),(1,.agg [.i b.proc,.i b.obj,.i b.kind,.i b.arg,.i b.ret,.i b.frm,.i b.to])],[],[999]⟩) rfl ?_
 refine Kk cok tab26 hnt [] [2,3] (⟨[(2,.ptr 2 0),(3,.ptr 3 0)],[(2,⟨35,.fix [.i a.proc,.i a.obj,.i a.kind,.i a.arg,.i a.ret,.i a.frm,.i a.to]⟩),(3,⟨35,.fix [.i b.proc,.i b.obj,.i b.kind,.i b.arg,.i b.ret,.i b.frm,.i b.to]⟩)],[3,2,999]⟩)
  (True ∧ True ∧ True ∧ True)
  ⟨tt,tt,tt,tt⟩ ?_
 refine Kk cok tab26 hnt [] [4] (⟨[(4,.b (decide (a.to < b.frm)))],[(2,⟨35,.fix [.i a.proc,.i a.obj,.i a.kind,.i a.arg,.i a.ret,.i a.frm,.i a.to]⟩),(3,⟨35,.fix [.i b.proc,.i b.obj,.i b.kind,.i b.arg,.i b.ret,.i b.frm,.i b.to]⟩)],[3,2,999]⟩)
  (True ∧ True ∧ True ∧ True ∧ (True ∧ True ∧ True) ∧ True ∧ True)
  ⟨tt,tt,tt,tt,⟨tt,tt,tt⟩,tt,tt⟩ ?_
 refine W.ret ?_
 exact endQ_ret (.b (decide (a.to < b.frm))) (by kernel_rfl) (@cast ((.bool (decide (a.to < b.frm)) : Value) = .bool (isBefore a b)) _ (by kernel_rfl) (congrArg Value.bool (by first | rfl | simp_all)))
theorem ent26 : Entr prog 26 := ⟨_,func26,rfl,by decide⟩
end Go.Proofs.Try

set_option linter.unusedSimpArgs false
set_option linter.unusedVariables false
namespace Go.Proofs.Try
open Go.Ab Go.RowKit
def fs15 : FnS := fnS [.o,.o] [.call,.call] (fun _ (a,b,_) => (.b (doOverlap a b),[],True))
abbrev T15 : Tab := lk [(26,fs26)]
theorem tab15 : TabOK prog T15 := (TabOK.cons ok26 ent26 TabOK.nil)
set_option maxRecDepth 100000 in
set_option maxHeartbeats 1000000 in
theorem ok15 : FnOK prog 15 fs15 := by
 refine FnOK.mk cok func15 rfl rfl rfl ?_
 rintro fl ⟨(a : CallD),(b : CallD),_⟩ hpre F hnt0 _
 have hnt : F.nt = 15 := hnt0.trans ntmps15
 clear hpre
 refine W.to (⟨[(0,.agg [.i a.proc,.i a.obj,.i a.kind,.i a.arg,.i a.ret,.i a.frm,.i a.to]),(1,.agg [.i b.proc,.i b.obj,.i b.kind,.i b.arg,.i b.ret,.i b.frm,.i b.to])],[],[999]⟩) rfl ?_
 refine Kk cok tab15 hnt [] [2,3] (⟨[(2,.ptr 2 0),(3,.ptr 3 0)],[(2,⟨35,.fix [.i a.proc,.i a.obj,.i a.kind,.i a.arg,.i a.ret,.i a.frm,.i a.to]⟩),(3,⟨35,.fix [.i b.proc,.i b.obj,.i b.kind,.i b.arg,.i b.ret,.i b.frm,.i b.to]⟩)],[3,2,999]⟩)
  (True ∧ True ∧ True ∧ True)
  ⟨tt,tt,tt,tt⟩ ?_
 refine Kk cok tab15 hnt [] [4] (⟨[(4,.b ((!(isBefore a b)) && (!(isBefore b a))))],[(2,⟨35,.fix [.i a.proc,.i a.obj,.i a.kind,.i a.arg,.i a.ret,.i a.frm,.i a.to]⟩),(3,⟨35,.fix [.i b.proc,.i b.obj,.i b.kind,.i b.arg,.i b.ret,.i b.frm,.i b.to]⟩)],[3,2,999]⟩)
  ((fun (Z1:Bool)=>(True ∧ (True ∧ ((True ∧ ((True ∧ (True ∧ True)) ∧ True)) ∧ (True ∧ (True ∧ ((Z1 = true → True) ∧ ((Z1 = true → True) ∧ ((Z1 = true → (True ∧ ((((Z1 = true) ∧ True) ∧ (((Z1 = true) ∧ True) ∧ True)) ∧ True))) ∧ ((Z1 = true → ((Z1 = true) ∧ True)) ∧ ((True ∧ ((Z1 = true → (Z1 = true) ∧ True) ∧ (Z1 = false → True))) ∧ (True ∧ True)))))))))))) (!(isBefore a b)))
  ⟨tt,tt,⟨tt,⟨tt,tt,tt⟩,tt⟩,tt,tt,(fun _ => trivial),(fun _ => trivial),(fun hG => ⟨tt,⟨⟨hG,tt⟩,⟨hG,tt⟩,tt⟩,tt⟩),(fun hG => ⟨hG,tt⟩),⟨tt,(fun hp => ⟨hp,tt⟩),(fun _ => trivial)⟩,tt,tt⟩ ?_
 refine W.ret ?_
 exact endQ_ret (.b ((!(isBefore a b)) && (!(isBefore b a)))) (by kernel_rfl) (@cast ((.bool ((!(isBefore a b)) && (!(isBefore b a))) : Value) = .bool (doOverlap a b)) _ (by kernel_rfl) (congrArg Value.bool (by first | rfl | simp_all)))
theorem ent15 : Entr prog 15 := ⟨_,func15,rfl,by decide⟩
end Go.Proofs.Try
