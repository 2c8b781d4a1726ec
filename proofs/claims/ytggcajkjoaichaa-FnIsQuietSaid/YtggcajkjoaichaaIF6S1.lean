import Derived.Test.YtggcajkjoaichaaIF6S0
set_option linter.unusedSimpArgs false
set_option linter.unusedVariables false
namespace Go.Ab
theorem has_snoc (o : List Int) (x y : Int) : hasInt (o ++ [x]) y = (hasInt o y || decide (y = x)) := by
 apply bool_ext
 rw [Bool.or_eq_true, hasInt_mem, hasInt_mem, decide_eq_true_eq]
 simp
theorem bits_andNot_val {a b : Nat} (ha : a < 2 ^ 62) (hb : b < 2 ^ 62) : ∃ c : Nat, bitsI .andNot .i64 ((a : Nat) : Int) ((b : Nat) : Int) = ((c : Nat) : Int) ∧ ∀ k, c.testBit k = (a.testBit k && !b.testBit k) := by
 have e : bitsI .andNot .i64 ((a : Nat) : Int) ((b : Nat) : Int) = IntKind.i64.wrap (((BitVec.ofInt 64 ((a : Nat) : Int) &&& ~~~ BitVec.ofInt 64 ((b : Nat) : Int)).toNat : Nat) : Int) := rfl
 have hx : (BitVec.ofInt 64 ((a : Nat) : Int)) = BitVec.ofNat 64 a := by apply BitVec.eq_of_toNat_eq; rw [BitVec.toNat_ofInt, BitVec.toNat_ofNat]; omega
 have hy : (BitVec.ofInt 64 ((b : Nat) : Int)) = BitVec.ofNat 64 b := by apply BitVec.eq_of_toNat_eq; rw [BitVec.toNat_ofInt, BitVec.toNat_ofNat]; omega
 rw [e, hx, hy]
 have hle : (BitVec.ofNat 64 a &&& ~~~ BitVec.ofNat 64 b).toNat ≤ a := by
  rw [BitVec.toNat_and, BitVec.toNat_ofNat, Nat.mod_eq_of_lt (by omega)]
  exact Nat.and_le_left
 refine ⟨_, IntWalk.i64_in _ (by omega), fun k => ?_⟩
 rw [BitVec.testBit_toNat, BitVec.getLsbD_and, BitVec.getLsbD_not, BitVec.getLsbD_ofNat, BitVec.getLsbD_ofNat]
 by_cases hk : k < 64
 ·simp [hk]
 ·have h1 : a.testBit k = false := Nat.testBit_lt_two_pow (Nat.lt_of_lt_of_le ha (Nat.pow_le_pow_right (by omega) (by omega)))
  simp [hk, h1]
theorem maskN_62 {n : Nat} (h : n ≤ 60) (p : Nat → Bool) : maskN n p < 2 ^ 62 := by
 have := maskN_lt n p
 have := Nat.pow_le_pow_right (show 0 < 2 by omega) (show n ≤ 62 by omega)
 omega
theorem mask_eq_of {n : Nat} {p : Nat → Bool} {c : Nat} (h : ∀ k, c.testBit k = (decide (k < n) && p k)) : ((c : Nat) : Int) = mask n p := by
 unfold mask
 have : c = maskN n p := Nat.eq_of_testBit_eq (fun k => by rw [h k, maskN_bit])
 rw [this]
theorem used_or {n k : Nat} {p : Nat → Bool} (hn : n ≤ 60) (hk : k < n) : bitsI .or .i64 (mask n p) (shlI .i64 1 ((k : Nat) : Int)) = mask n (fun j => p j || decide (j = k)) := by
 have h1 := maskN_62 hn p
 have h2 : 2 ^ k < 2 ^ 62 := Nat.pow_lt_pow_right (by omega) (by omega)
 rw [shl_one (by omega), show mask n p = ((maskN n p : Nat) : Int) from rfl, bits_or (by omega) (by omega)]
 refine mask_eq_of (fun j => ?_)
 rw [Nat.testBit_or, maskN_bit, Nat.testBit_two_pow]
 by_cases hj : k = j
 ·subst hj; simp [hk]
 ·simp [hj, Ne.symm hj]
theorem used_not {n k : Nat} {p : Nat → Bool} (hn : n ≤ 60) (hk : k < n) : bitsI .andNot .i64 (mask n p) (shlI .i64 1 ((k : Nat) : Int)) = mask n (fun j => p j && !decide (j = k)) := by
 have h1 := maskN_62 hn p
 have h2 : 2 ^ k < 2 ^ 62 := Nat.pow_lt_pow_right (by omega) (by omega)
 rw [shl_one (by omega)]
 obtain ⟨c, e, hc⟩ := bits_andNot_val (a := maskN n p) (b := 2 ^ k) h1 h2
 rw [show mask n p = ((maskN n p : Nat) : Int) from rfl, e]
 refine mask_eq_of (fun j => ?_)
 rw [hc, maskN_bit, Nat.testBit_two_pow]
 by_cases hj : k = j
 ·subst hj; simp
 ·simp [hj, Ne.symm hj]
def hasN (o : List Int) (k : Nat) : Bool := hasInt o ((k : Nat) : Int)
theorem used_push {n k : Nat} {o : List Int} (hn : n ≤ 60) (hk : k < n) : bitsI .or .i64 (mask n (hasN o)) (shlI .i64 1 ((k : Nat) : Int)) = mask n (hasN (o ++ [((k : Nat) : Int)])) := by
 rw [used_or hn hk, mask_inj]
 intro j _
 unfold hasN
 rw [has_snoc]
 congr 1
 exact bool_ext (by simp only [decide_eq_true_eq]; omega)
theorem used_pop {n k : Nat} {o : List Int} (hn : n ≤ 60) (hk : k < n) (hf : hasInt o ((k : Nat) : Int) = false) : bitsI .andNot .i64 (mask n (hasN (o ++ [((k : Nat) : Int)]))) (shlI .i64 1 ((k : Nat) : Int)) = mask n (hasN o) := by
 rw [used_not hn hk, mask_inj]
 intro j _
 unfold hasN
 rw [has_snoc]
 by_cases hj : j = k
 ·subst hj; rw [hf]; simp
 ·rw [decide_eq_false hj, decide_eq_false (show ¬ ((j : Nat) : Int) = ((k : Nat) : Int) by omega)]; simp
def freeB (f : Nat → Nat → Bool) (n : Nat) (o : List Int) (i : Nat) : Bool := !hasInt o ((i : Nat) : Int) && allN n (fun k => !f i k || hasInt o ((k : Nat) : Int))
theorem free_sub {n i : Nat} {f : Nat → Nat → Bool} {o : List Int} : (maskN n (f i) &&& maskN n (hasN o) = maskN n (f i)) ↔ allN n (fun k => !f i k || hasInt o ((k : Nat) : Int)) = true := by
 rw [allN_iff]
 constructor
 ·intro h k hk
  have := congrArg (fun x => x.testBit k) h
  simp only [Nat.testBit_and, maskN_bit, hk, decide_true, Bool.true_and] at this
  unfold hasN at this
  cases h1 : f i k <;> cases h2 : hasInt o ((k : Nat) : Int) <;> rw [h1, h2] at this <;> simp_all
 ·intro h
  apply Nat.eq_of_testBit_eq
  intro k
  rw [Nat.testBit_and, maskN_bit, maskN_bit]
  by_cases hk : k < n
  ·have := h k hk
   unfold hasN
   cases h1 : f i k <;> cases h2 : hasInt o ((k : Nat) : Int) <;> rw [h1, h2] at this <;> simp_all
  ·simp [hk]
theorem free_impl {n i : Nat} {f : Nat → Nat → Bool} {o : List Int} (hn : n ≤ 60) (hi : i < n) {b : Bool}
  (h : (decide (bitsI .and .i64 (shrI .i64 (mask n (hasN o)) ((i : Nat) : Int)) 1 = 1) || decide (bitsI .andNot .i64 ((rowsOf n f).getD i 0) (mask n (hasN o)) ≠ 0)) = b) : freeB f n o i = !b := by
 rw [← h, rowsOf_get f hi, show mask n (hasN o) = ((maskN n (hasN o) : Nat) : Int) from rfl, show mask n (f i) = ((maskN n (f i) : Nat) : Int) from rfl,
  iBit (maskN_62 hn _) (by omega), maskN_bit]
 have h2 := bits_andNot (a := maskN n (f i)) (b := maskN n (hasN o)) (maskN_62 hn _) (maskN_62 hn _)
 rw [free_sub] at h2
 unfold freeB
 rw [decide_eq_true hi, Bool.true_and]
 have h3 : decide (bitsI .andNot .i64 ((maskN n (f i) : Nat) : Int) ((maskN n (hasN o) : Nat) : Int) ≠ 0) = !allN n (fun k => !f i k || hasInt o ((k : Nat) : Int)) := bool_ext (by
  rw [decide_eq_true_eq, Bool.not_eq_true', ne_eq, h2]
  cases allN n (fun k => !f i k || hasInt o ((k : Nat) : Int)) <;> simp)
 rw [h3]
 unfold hasN
 cases hasInt o ((i : Nat) : Int) <;> cases allN n (fun k => !f i k || hasInt o ((k : Nat) : Int)) <;> rfl
theorem free_spec {n i : Nat} {f : Nat → Nat → Bool} {o : List Int} (hn : n ≤ 60) (hi : i < n) {b : Bool}
  (h : (decide (bitOf (mask n (hasN o)) ((i : Nat) : Int) = 0) && decide (bitsI .and .i64 ((rowsOf n f).getD i 0) (mask n (hasN o)) = (rowsOf n f).getD i 0)) = b) : freeB f n o i = b := by
 rw [← h, rowsOf_get f hi, bits_mask hn]
 unfold freeB
 have e1 : decide (bitOf (mask n (hasN o)) ((i : Nat) : Int) = 0) = !hasInt o ((i : Nat) : Int) := by
  apply bool_ext
  rw [decide_eq_true_eq, bitOf_zero]
  unfold hasN
  cases hasInt o ((i : Nat) : Int) <;> simp [hi]
 have e2 : decide (((maskN n (f i) &&& maskN n (hasN o) : Nat) : Int) = mask n (f i)) = allN n (fun k => !f i k || hasInt o ((k : Nat) : Int)) := by
  apply bool_ext
  rw [decide_eq_true_eq, ← free_sub]
  unfold mask
  omega
 rw [e1, e2]
where
 bits_mask {n : Nat} {p q : Nat → Bool} (hn : n ≤ 60) : bitsI .and .i64 (mask n p) (mask n q) = ((maskN n p &&& maskN n q : Nat) : Int) := by
  have h1 := maskN_62 hn p
  have h2 := maskN_62 hn q
  unfold mask
  exact bits_and (by omega) (by omega)
def ordersF (s : ByteArray) (h : List CallD) (f : Nat → Nat → Bool) : Nat → List Int → List (List Int)
 | 0, o => bif runsB s h o then [o] else []
 | m + 1, o => (List.range h.length).flatMap fun i => bif freeB f h.length o i then ordersF s h f m (o ++ [((i : Nat) : Int)]) else []
def ordersUp (s : ByteArray) (h : List CallD) (f : Nat → Nat → Bool) (m : Nat) (o : List Int) (k : Nat) : List (List Int) := (List.range k).flatMap fun i => bif freeB f h.length o i then ordersF s h f m (o ++ [((i : Nat) : Int)]) else []
theorem up_yes {s : ByteArray} {h : List CallD} {f : Nat → Nat → Bool} {m k : Nat} {o : List Int} (hf : freeB f h.length o k = true) : ordersUp s h f m o (k + 1) = ordersUp s h f m o k ++ ordersF s h f m (o ++ [((k : Nat) : Int)]) := by
 unfold ordersUp
 rw [List.range_succ, List.flatMap_append]
 simp [hf]
theorem up_no {s : ByteArray} {h : List CallD} {f : Nat → Nat → Bool} {m k : Nat} {o : List Int} (hf : freeB f h.length o k = false) : ordersUp s h f m o (k + 1) = ordersUp s h f m o k := by
 unfold ordersUp
 rw [List.range_succ, List.flatMap_append]
 simp [hf]
theorem sts_snoc {s : ByteArray} {h : List CallD} {o : List Int} (x : Int) {i : Nat} (hi : i ≤ o.length) : sts s h (o ++ [x]) i = sts s h o i := by
 induction i with
 | zero => rfl
 | succ i ih =>
  have e : ordAt h (o ++ [x]) i = ordAt h o i := by unfold ordAt; rw [List.getD_eq_getElem?_getD, List.getElem?_append_left (by omega), ← List.getD_eq_getElem?_getD]
  simp only [sts]
  rw [ih (by omega), e]
theorem okAt_snoc {s : ByteArray} {h : List CallD} {o : List Int} (x : Int) {i : Nat} (hi : i < o.length) : okAt s h (o ++ [x]) i = okAt s h o i := by
 have e : ordAt h (o ++ [x]) i = ordAt h o i := by unfold ordAt; rw [List.getD_eq_getElem?_getD, List.getElem?_append_left (by omega), ← List.getD_eq_getElem?_getD]
 unfold okAt
 rw [sts_snoc x (by omega), e]
theorem runs_snoc {s : ByteArray} {h : List CallD} {o : List Int} (x : Int) (hr : runsB s h o = false) : runsB s h (o ++ [x]) = false := by
 unfold runsB at *
 obtain ⟨i, hi, h1⟩ := allN_not hr
 exact allN_false (i := i) (by simp; omega) (by rw [okAt_snoc x hi]; exact h1)
theorem orders_none {s : ByteArray} {h : List CallD} {f : Nat → Nat → Bool} : ∀ {m : Nat} {o : List Int}, runsB s h o = false → ordersF s h f m o = []
 | 0, o, hr => by simp [ordersF, hr]
 | m + 1, o, hr => by
  simp only [ordersF]
  rw [List.flatMap_eq_nil_iff]
  intro i _
  cases freeB f h.length o i with
  | false => rfl
  | true => exact orders_none (runs_snoc _ hr)
theorem orders_up {s : ByteArray} {h : List CallD} {f : Nat → Nat → Bool} (m : Nat) (o : List Int) : ordersF s h f (m + 1) o = ordersUp s h f m o h.length := rfl
theorem orders_len {s : ByteArray} {h : List CallD} {f : Nat → Nat → Bool} (h6 : h.length ≤ 6) : ∀ (m : Nat) (o : List Int), (ordersF s h f m o).length ≤ 6 ^ m
 | 0, o => by simp only [ordersF]; cases runsB s h o <;> simp
 | m + 1, o => by
  have key : ∀ k, k ≤ 6 → (ordersUp s h f m o k).length ≤ k * 6 ^ m := by
   intro k
   induction k with
   | zero => intro _; simp [ordersUp]
   | succ k ih =>
    intro hk
    have ih' := ih (by omega)
    have h1 := orders_len h6 m (o ++ [((k : Nat) : Int)]) (s := s) (f := f)
    cases hf : freeB f h.length o k with
    | true => rw [up_yes hf, List.length_append, Nat.succ_mul]; omega
    | false => rw [up_no hf, Nat.succ_mul]; omega
  rw [orders_up]
  have := key h.length h6
  have h2 : h.length * 6 ^ m ≤ 6 * 6 ^ m := Nat.mul_le_mul_right _ h6
  rw [Nat.pow_succ, Nat.mul_comm]
  omega
theorem ordUp_len {s : ByteArray} {h : List CallD} {f : Nat → Nat → Bool} (h6 : h.length ≤ 6) (m : Nat) (o : List Int) {k : Nat} (hk : k ≤ 6) : (ordersUp s h f m o k).length ≤ k * 6 ^ m := by
 induction k with
 | zero => simp [ordersUp]
 | succ k ih =>
  have ih' := ih (by omega)
  have h1 := orders_len (s := s) (f := f) h6 m (o ++ [((k : Nat) : Int)])
  cases hf : freeB f h.length o k with
  | true => rw [up_yes hf, List.length_append, Nat.succ_mul]; omega
  | false => rw [up_no hf, Nat.succ_mul]; omega
def headO (h : List CallD) (o : List Int) : Prop := inH h o ∧ o.Nodup ∧ o.length ≤ h.length
theorem headO_nil (h : List CallD) : headO h [] := ⟨fun i hi => by simp at hi, List.nodup_nil, by simp⟩
theorem headO_snoc {h : List CallD} {o : List Int} {k : Nat} (ho : headO h o) (hk : k < h.length) (hf : hasInt o ((k : Nat) : Int) = false) (hl : o.length < h.length) : headO h (o ++ [((k : Nat) : Int)]) := by
 refine ⟨fun i hi => ?_, ?_, by simp; omega⟩
 ·simp only [List.getD_eq_getElem?_getD]
  by_cases h1 : i < o.length
  ·rw [List.getElem?_append_left h1, ← List.getD_eq_getElem?_getD]; exact ho.1 i h1
  ·have : i = o.length := by simp at hi; omega
   subst this
   rw [List.getElem?_append_right (Nat.le_refl _)]
   simp; omega
 ·refine List.nodup_append.2 ⟨ho.2.1, by simp, ?_⟩
  intro a ha b hb hab
  simp only [List.mem_singleton] at hb
  subst hb; subst hab
  rw [hasInt_mem.2 ha] at hf; cases hf
theorem free_has {f : Nat → Nat → Bool} {n i : Nat} {o : List Int} (hf : freeB f n o i = true) : hasInt o ((i : Nat) : Int) = false := by
 unfold freeB at hf
 have := and_l hf
 simpa using this
end Go.Ab
namespace Go.Ab
theorem pow6_le {m : Nat} (h : m ≤ 6) : 6 ^ m ≤ 46656 := Nat.pow_le_pow_right (by omega) h
theorem take_pop {o : List Int} {x : Int} {n : Int} (h : n = (((o ++ [x]).length : Nat) : Int) - 1) : List.take n.toNat (o ++ [x]) = o := by
 have : n.toNat = o.length := by rw [h]; simp
 rw [this]; simp
end Go.Ab
namespace Go.Ab
section
variable {s : ByteArray} {h : List CallD} {f : Nat → Nat → Bool} {o : List Int}
theorem orders_yes (hl : ((o.length : Nat) : Int) = ((h.length : Nat) : Int)) (hp : (playedR s h o).2 = true) : ordersF s h f (h.length - o.length) o = [o] := by
 rw [played_runs] at hp
 rw [show h.length - o.length = 0 by omega]; simp [ordersF, hp]
theorem orders_no (hl : ((o.length : Nat) : Int) = ((h.length : Nat) : Int)) (hp : (playedR s h o).2 = false) : ordersF s h f (h.length - o.length) o = [] := by
 rw [played_runs] at hp
 rw [show h.length - o.length = 0 by omega]; simp [ordersF, hp]
theorem orders_end (hl : o.length < h.length) : ordersF s h f (h.length - o.length) o = ordersUp s h f (h.length - o.length - 1) o h.length := by
 rw [show h.length - o.length = (h.length - o.length - 1) + 1 by omega]; rfl
theorem ord_room {out : List (List Int)} {k : Nat} (hz : out.length + 6 ^ (h.length - o.length) ≤ 100000) (h6 : h.length ≤ 6) (hk : k < h.length) (hl : o.length < h.length) :
  (out ++ ordersUp s h f (h.length - o.length - 1) o k).length + 6 ^ (h.length - o.length - 1) ≤ 100000 := by
 have h1 := ordUp_len (s := s) (f := f) h6 (h.length - o.length - 1) o (k := k) (by omega)
 have h2 : 6 ^ (h.length - o.length) = 6 ^ (h.length - o.length - 1) * 6 := by rw [← Nat.pow_succ]; congr 1; omega
 have h3 : (k + 1) * 6 ^ (h.length - o.length - 1) ≤ 6 * 6 ^ (h.length - o.length - 1) := Nat.mul_le_mul_right _ (by omega)
 rw [List.length_append]
 rw [Nat.succ_mul] at h3
 omega
theorem up_step {out ou oo : List (List Int)} {k : Nat} (hf : freeB f h.length o k = true) (hou : ou = out ++ ordersUp s h f (h.length - o.length - 1) o k) :
  ou ++ ordersF s h f (h.length - (o ++ [((k : Nat) : Int)]).length) (o ++ [((k : Nat) : Int)]) = out ++ ordersUp s h f (h.length - o.length - 1) o (k + 1) := by
 rw [hou, up_yes hf, List.append_assoc]
 congr 3
 simp; omega
theorem free_no {n i : Nat} (hn : n ≤ 60) (hi : i < n)
  (hb : (decide (bitsI .and .i64 (shrI .i64 (mask n (hasN o)) ((i : Nat) : Int)) 1 = 1) || decide (bitsI .andNot .i64 ((rowsOf n f).getD i 0) (mask n (hasN o)) ≠ 0)) = true) : freeB f n o i = false := free_impl hn hi hb
theorem free_yes {n i : Nat} (hn : n ≤ 60) (hi : i < n)
  (hb : (decide (bitsI .and .i64 (shrI .i64 (mask n (hasN o)) ((i : Nat) : Int)) 1 = 1) || decide (bitsI .andNot .i64 ((rowsOf n f).getD i 0) (mask n (hasN o)) ≠ 0)) = false) : freeB f n o i = true := free_impl hn hi hb
end
end Go.Ab
namespace Go.Ab
def bitF (rows : List Int) (i k : Nat) : Bool := (rows.getD i 0).toNat.testBit k
theorem ordersF_congr {s : ByteArray} {h : List CallD} {f g : Nat → Nat → Bool} (hfg : ∀ i k, i < h.length → k < h.length → f i k = g i k) : ∀ (m : Nat) (o : List Int), ordersF s h f m o = ordersF s h g m o
 | 0, o => rfl
 | m + 1, o => by
  simp only [ordersF]
  rw [List.flatMap_def, List.flatMap_def]
  congr 1
  apply List.map_congr_left
  intro i hi
  have hi := List.mem_range.1 hi
  have e : freeB f h.length o i = freeB g h.length o i := by
   unfold freeB
   congr 1
   apply bool_ext
   rw [allN_iff, allN_iff]
   exact ⟨fun hh k hk => by rw [← hfg i k hi hk]; exact hh k hk, fun hh k hk => by rw [hfg i k hi hk]; exact hh k hk⟩
  rw [e, ordersF_congr hfg]
theorem bitF_rows {n i k : Nat} {f : Nat → Nat → Bool} (hi : i < n) (hk : k < n) : bitF (rowsOf n f) i k = f i k := by
 unfold bitF
 rw [rowsOf_get f hi]
 unfold mask
 rw [Int.toNat_natCast, maskN_bit, decide_eq_true hk, Bool.true_and]
theorem orders_rows {s : ByteArray} {h : List CallD} {f : Nat → Nat → Bool} {m : Nat} {o : List Int} : ordersF s h (bitF (rowsOf h.length f)) m o = ordersF s h f m o := ordersF_congr (fun _ _ hi hk => bitF_rows hi hk) m o
theorem rows_self {n : Nat} {f : Nat → Nat → Bool} : rowsOf n f = rowsOf n (bitF (rowsOf n f)) := by
 apply rowsOf_congr
 intro i k hi hk
 exact (bitF_rows hi hk).symm
end Go.Ab
namespace Go.Ab
theorem used_nil (n : Nat) : mask n (hasN []) = 0 := mask_zero n (fun _ _ => rfl)
theorem done_all {n : Nat} {o : List Int} {j : Nat} (hj : o.length ≤ j) : mask n (doneF o j) = mask n (hasN o) := by
 unfold doneF hasN
 rw [List.take_of_length_le hj]
section
variable {s : ByteArray} {h : List CallD} {f : Nat → Nat → Bool} {o : List Int}
theorem explain_end {ou : List (List Int)} {k : Nat} (hl : o.length < h.length) (hk : k = h.length) (hou : ou = ordersUp s h f (h.length - o.length - 1) o k) : ou = ordersF s h f (h.length - o.length) o := by
 rw [hou, hk, orders_end hl]
theorem explain_step {ou : List (List Int)} {k : Nat} (hf : freeB f h.length o k = true) (hou : ou = ordersUp s h f (h.length - o.length - 1) o k) :
  ou ++ ordersF s h f (h.length - (o ++ [((k : Nat) : Int)]).length) (o ++ [((k : Nat) : Int)]) = ordersUp s h f (h.length - o.length - 1) o (k + 1) := up_step (out := []) (oo := []) hf hou
theorem explain_one (hr : runsB s h o = true) (hl : ((o.length : Nat) : Int) = ((h.length : Nat) : Int)) : [o] = ordersF s h f (h.length - o.length) o := by
 rw [show h.length - o.length = 0 by omega]; simp [ordersF, hr]
theorem rest_len {m : Nat} (h6 : h.length ≤ 6) (hm : m ≤ 6) (o : List Int) : (ordersF s h f m o).length ≤ 46656 := Nat.le_trans (orders_len h6 m o) (pow6_le hm)
theorem upto_len6 {m k : Nat} (h6 : h.length ≤ 6) (hm : m ≤ 5) (hk : k ≤ 6) (o : List Int) : (ordersUp s h f m o k).length ≤ 46656 := by
 have h1 := ordUp_len (s := s) (f := f) h6 m o hk
 have h2 : 6 ^ m ≤ 6 ^ 5 := Nat.pow_le_pow_right (by omega) hm
 have h3 : k * 6 ^ m ≤ 6 * 6 ^ m := Nat.mul_le_mul_right _ hk
 omega
end
end Go.Ab

set_option linter.unusedSimpArgs false
set_option linter.unusedVariables false
namespace Go.Ab
def ordersBy (s : ByteArray) (h : List CallD) (f : Nat → Nat → Bool) : List (List Int) := bif isObject s && validHistory h then ordersF s h f h.length [] else []
def explains (s : ByteArray) (h : List CallD) (f : Nat → Nat → Bool) : Bool := decide (0 < (((ordersBy s h f).length : Nat) : Int))
section
variable {s : ByteArray} {h : List CallD} {f g : Nat → Nat → Bool} {rows : List Int}
theorem by_val (hg : (isObject s && validHistory h) = true) (e : rows = rowsOf h.length f) : ordersF s h (bitF rows) h.length [] = ordersBy s h f := by
 unfold ordersBy; rw [hg, e, orders_rows]; rfl
theorem by_no (hg : (isObject s && validHistory h) = false) : ordersBy s h f = [] := by unfold ordersBy; rw [hg]; rfl
theorem by_no' (hg : (!isObject s || !validHistory h) = true) : ordersBy s h f = [] := by_no (by cases h1 : isObject s <;> cases h2 : validHistory h <;> simp_all)
theorem by_yes' (hg : (!isObject s || !validHistory h) = false) : (isObject s && validHistory h) = true := by cases h1 : isObject s <;> cases h2 : validHistory h <;> simp_all
theorem by_gt (e : validHistory h = true → rows = rowsOf h.length f) : ((isObject s && validHistory h) && decide (0 < (((ordersF s h (bitF rows) h.length []).length : Nat) : Int))) = explains s h f := by
 cases hg : (isObject s && validHistory h) with
 | false => unfold explains; rw [by_no hg]; rfl
 | true => rw [by_val hg (e (by simp only [Bool.and_eq_true] at hg; exact hg.2))]; unfold explains; rfl
theorem quiet_rows (hv : validHistory h = true) : quietAhead h = rowsOf h.length (bitF (quietAhead h)) := by rw [quiet_eq hv]; exact rows_self
theorem ahead_rows (hv : validHistory h = true) : aheadOf h = rowsOf h.length (bitF (aheadOf h)) := by rw [ahead_eq hv]; exact rows_self
theorem free_mono {n : Nat} {o : List Int} {i : Nat} (hi : i < n) (hfg : ∀ i k, i < n → k < n → g i k = true → f i k = true) (h1 : freeB f n o i = true) : freeB g n o i = true := by
 unfold freeB at *
 rw [Bool.and_eq_true, allN_iff] at *
 refine ⟨h1.1, fun k hk => ?_⟩
 have h2 := h1.2 k hk
 have h3 := hfg i k hi hk
 cases hg : g i k with
 | false => rfl
 | true => rw [h3 hg] at h2; exact h2
theorem orders_mono (hfg : ∀ i k, i < h.length → k < h.length → g i k = true → f i k = true) {x : List Int} : ∀ (m : Nat) (o : List Int), x ∈ ordersF s h f m o → x ∈ ordersF s h g m o
 | 0, o, hx => hx
 | m + 1, o, hx => by
  simp only [ordersF, List.mem_flatMap, List.mem_range] at *
  obtain ⟨i, hi, h1⟩ := hx
  refine ⟨i, hi, ?_⟩
  cases h2 : freeB f h.length o i with
  | false => rw [h2] at h1; simp at h1
  | true =>
   rw [h2] at h1
   rw [free_mono hi hfg h2]
   exact orders_mono hfg m _ h1
theorem explains_iff : explains s h f = true ↔ ∃ x, x ∈ ordersBy s h f := by
 unfold explains
 rw [decide_eq_true_eq]
 constructor
 ·intro h1
  have : 0 < (ordersBy s h f).length := by omega
  exact List.exists_mem_of_length_pos this
 ·rintro ⟨x, hx⟩
  have := List.length_pos_of_mem hx
  omega
theorem by_mono (hfg : ∀ i k, i < h.length → k < h.length → g i k = true → f i k = true) {x : List Int} (hx : x ∈ ordersBy s h f) : x ∈ ordersBy s h g := by
 unfold ordersBy at *
 cases hg : (isObject s && validHistory h) with
 | false => rw [hg] at hx; simp at hx
 | true => rw [hg] at hx; exact orders_mono hfg _ _ hx
theorem explains_mono (hfg : ∀ i k, i < h.length → k < h.length → g i k = true → f i k = true) (h1 : explains s h f = true) : explains s h g = true := by
 rw [explains_iff] at *
 obtain ⟨x, hx⟩ := h1
 exact ⟨x, by_mono hfg hx⟩
theorem explains_same (hfg : ∀ i k, i < h.length → k < h.length → f i k = g i k) : explains s h f = explains s h g := by
 apply bool_ext
 exact ⟨explains_mono (fun i k hi hk e => by rw [hfg i k hi hk]; exact e), explains_mono (fun i k hi hk e => by rw [← hfg i k hi hk]; exact e)⟩
theorem quiet_ahead {i k : Nat} (hq : quietF h i k = true) : aheadF h i k = true := by
 obtain ⟨t, _, h2, h3, _⟩ := quiet_iff.1 hq
 simp only [aheadF, isBefore, decide_eq_true_eq]; omega
theorem quiet_law1 (ho : oneByOne h = true) : explains s h (quietF h) = explains s h (aheadF h) := by
 have hv : validHistory h = true := by unfold oneByOne at ho; exact and_r ho
 have e := quiet_one ho
 rw [quiet_eq hv, ahead_eq hv] at e
 apply explains_same
 intro i k hi hk
 rw [← bitF_rows (f := quietF h) hi hk, ← bitF_rows (f := aheadF h) hi hk, e]
theorem quiet_law2 (h1 : explains s h (aheadF h) = true) : explains s h (quietF h) = true := explains_mono (fun i k _ _ hq => quiet_ahead hq) h1
end
end Go.Ab
namespace Go.Ab
theorem quiet_law {s : ByteArray} {h : List CallD} : (((!(oneByOne h)) || ((explains s h (quietF h)) == (explains s h (aheadF h)))) && ((explains s h (quietF h)) || (!(explains s h (aheadF h))))) = true := by
 refine and_t ?_ ?_
 ·cases ho : oneByOne h with
  | false => rfl
  | true => rw [quiet_law1 ho]; simp
 ·cases hl : explains s h (aheadF h) with
  | false => simp
  | true => rw [quiet_law2 hl]; rfl
end Go.Ab
namespace Go.Ab
end Go.Ab

set_option linter.unusedSimpArgs false
set_option linter.unusedVariables false
namespace Go.Proofs.Try
open Go.Ab Go.RowKit
def fs69 : FnS := fnS [.o] [.str] (fun _ (s, _) => (.b (isSingle s), [], True))
abbrev T69 : Tab := lk []
theorem tab69 : TabOK prog T69 := TabOK.nil
set_option maxRecDepth 100000 in
set_option maxHeartbeats 1000000 in
theorem ok69 : FnOK prog 69 fs69 := by
 refine FnOK.mk cok func69 rfl rfl rfl ?_
 rintro fl ⟨(s : ByteArray), _⟩ hpre F hnt0 _
 have hnt : F.nt = 13 := hnt0.trans ntmps69
 clear hpre
 refine W.to (⟨[(0, .v (.string s))], [], [999]⟩) rfl ?_
 refine W.K cok tab69 hnt [] [0] (⟨[(0, .v (.string s))], [], [999]⟩)
  (True ∧ True) (by kernel_rfl)
  ⟨tt, tt⟩ ?_
 refine W.K cok tab69 hnt [] [2] (⟨[(2, .b (((eqS s nRegister) || (eqS s nCounter)) || (eqS s nMost)))], [], [999]⟩)
  (True ∧ (True ∧ True ∧ True) ∧ True ∧ ((!(eqS s nRegister)) = true → True) ∧ ((!(eqS s nRegister)) = true → ((((!(eqS s nRegister)) = true) ∧ True) ∧ True ∧ True)) ∧ (True ∧ ((eqS s nRegister) = true → True) ∧ ((eqS s nRegister) = false → ((!(eqS s nRegister)) = true) ∧ True)) ∧ True ∧ ((!((eqS s nRegister) || (eqS s nCounter))) = true → True) ∧ ((!((eqS s nRegister) || (eqS s nCounter))) = true → ((((!((eqS s nRegister) || (eqS s nCounter))) = true) ∧ True) ∧ True ∧ True)) ∧ (True ∧ (((eqS s nRegister) || (eqS s nCounter)) = true → True) ∧ (((eqS s nRegister) || (eqS s nCounter)) = false → ((!((eqS s nRegister) || (eqS s nCounter))) = true) ∧ True)) ∧ True ∧ True) (by kernel_rfl)
  ⟨tt, ⟨tt, tt, tt⟩, tt, (fun _ => trivial), (fun hG => ⟨⟨hG, tt⟩, tt, tt⟩), ⟨tt, (fun _ => trivial), (fun hp => ⟨(not_t hp), tt⟩)⟩, tt, (fun _ => trivial), (fun hG => ⟨⟨hG, tt⟩, tt, tt⟩), ⟨tt, (fun _ => trivial), (fun hp => ⟨(not_t hp), tt⟩)⟩, tt, tt⟩ ?_
 refine W.ret ?_
 exact endQ_ret (.b (((eqS s nRegister) || (eqS s nCounter)) || (eqS s nMost))) (by kernel_rfl) (@cast ((.bool (((eqS s nRegister) || (eqS s nCounter)) || (eqS s nMost)) : Value) = .bool (isSingle s)) _ (by kernel_rfl) (congrArg Value.bool (by first | rfl | simp_all)))
theorem ent69 : Entr prog 69 := ⟨_, func69, rfl, by decide⟩
end Go.Proofs.Try

set_option linter.unusedSimpArgs false
set_option linter.unusedVariables false
namespace Go.Proofs.Try
open Go.Ab Go.RowKit
def fs39 : FnS := fnS [.o] [.str] (fun _ (s, _) => (.b (isObject s), [], True))
abbrev T39 : Tab := lk [(69, fs69)]
theorem tab39 : TabOK prog T39 := (TabOK.cons ok69 ent69 TabOK.nil)
set_option maxRecDepth 100000 in
set_option maxHeartbeats 1000000 in
theorem ok39 : FnOK prog 39 fs39 := by
 refine FnOK.mk cok func39 rfl rfl rfl ?_
 rintro fl ⟨(s : ByteArray), _⟩ hpre F hnt0 _
 have hnt : F.nt = 17 := hnt0.trans ntmps39
 clear hpre
 refine W.to (⟨[(0, .v (.string s))], [], [999]⟩) rfl ?_
 refine W.K cok tab39 hnt [] [0] (⟨[(0, .v (.string s))], [], [999]⟩)
  (True ∧ True) (by kernel_rfl)
  ⟨tt, tt⟩ ?_
 refine W.K cok tab39 hnt [] [2] (⟨[(2, .b ((((isSingle s) || (eqS s nQueue)) || (eqS s nStack)) || (eqS s nSet)))], [], [999]⟩)
  (True ∧ (True ∧ (True ∧ True) ∧ True) ∧ True ∧ ((!(isSingle s)) = true → True) ∧ ((!(isSingle s)) = true → ((((!(isSingle s)) = true) ∧ True) ∧ True ∧ True)) ∧ (True ∧ ((isSingle s) = true → True) ∧ ((isSingle s) = false → ((!(isSingle s)) = true) ∧ True)) ∧ True ∧ ((!((isSingle s) || (eqS s nQueue))) = true → True) ∧ ((!((isSingle s) || (eqS s nQueue))) = true → ((((!((isSingle s) || (eqS s nQueue))) = true) ∧ True) ∧ True ∧ True)) ∧ (True ∧ (((isSingle s) || (eqS s nQueue)) = true → True) ∧ (((isSingle s) || (eqS s nQueue)) = false → ((!((isSingle s) || (eqS s nQueue))) = true) ∧ True)) ∧ True ∧ ((!(((isSingle s) || (eqS s nQueue)) || (eqS s nStack))) = true → True) ∧ ((!(((isSingle s) || (eqS s nQueue)) || (eqS s nStack))) = true → ((((!(((isSingle s) || (eqS s nQueue)) || (eqS s nStack))) = true) ∧ True) ∧ True ∧ True)) ∧ (True ∧ ((((isSingle s) || (eqS s nQueue)) || (eqS s nStack)) = true → True) ∧ ((((isSingle s) || (eqS s nQueue)) || (eqS s nStack)) = false → ((!(((isSingle s) || (eqS s nQueue)) || (eqS s nStack))) = true) ∧ True)) ∧ True ∧ True) (by kernel_rfl)
  ⟨tt, ⟨tt, ⟨tt, tt⟩, tt⟩, tt, (fun _ => trivial), (fun hG => ⟨⟨hG, tt⟩, tt, tt⟩), ⟨tt, (fun _ => trivial), (fun hp => ⟨(not_t hp), tt⟩)⟩, tt, (fun _ => trivial), (fun hG => ⟨⟨hG, tt⟩, tt, tt⟩), ⟨tt, (fun _ => trivial), (fun hp => ⟨(not_t hp), tt⟩)⟩, tt, (fun _ => trivial), (fun hG => ⟨⟨hG, tt⟩, tt, tt⟩), ⟨tt, (fun _ => trivial), (fun hp => ⟨(not_t hp), tt⟩)⟩, tt, tt⟩ ?_
 refine W.ret ?_
 exact endQ_ret (.b ((((isSingle s) || (eqS s nQueue)) || (eqS s nStack)) || (eqS s nSet))) (by kernel_rfl) (@cast ((.bool ((((isSingle s) || (eqS s nQueue)) || (eqS s nStack)) || (eqS s nSet)) : Value) = .bool (isObject s)) _ (by kernel_rfl) (congrArg Value.bool (by exact single_obj s)))
theorem ent39 : Entr prog 39 := ⟨_, func39, rfl, by decide⟩
end Go.Proofs.Try

set_option linter.unusedSimpArgs false
set_option linter.unusedVariables false
namespace Go.Proofs.Try
open Go.Ab Go.RowKit
def fs48 : FnS := fnS [.o, .o, .o] [.int, .int, .int] (fun _ (n, low, high, _) => (.b (within n low high), [], True))
abbrev T48 : Tab := lk []
theorem tab48 : TabOK prog T48 := TabOK.nil
set_option maxRecDepth 100000 in
set_option maxHeartbeats 1000000 in
theorem ok48 : FnOK prog 48 fs48 := by
 refine FnOK.mk cok func48 rfl rfl rfl ?_
 rintro fl ⟨(n : Int), (low : Int), (high : Int), _⟩ hpre F hnt0 _
 have hnt : F.nt = 15 := hnt0.trans ntmps48
 clear hpre
 refine W.to (⟨[(0, .i n), (1, .i low), (2, .i high)], [], [999]⟩) rfl ?_
 refine W.K cok tab48 hnt [] [0, 1, 2] (⟨[(0, .i n), (1, .i low), (2, .i high)], [], [999]⟩)
  (True ∧ True) (by kernel_rfl)
  ⟨tt, tt⟩ ?_
 refine W.K cok tab48 hnt [] [6] (⟨[(6, .b ((decide (low ≤ n)) && (decide (n ≤ high))))], [], [999]⟩)
  (True ∧ True ∧ (True ∧ True ∧ True) ∧ True ∧ ((decide (low ≤ n)) = true → True) ∧ ((decide (low ≤ n)) = true → True) ∧ ((decide (low ≤ n)) = true → ((((decide (low ≤ n)) = true) ∧ True) ∧ (((decide (low ≤ n)) = true) ∧ True) ∧ True)) ∧ (True ∧ ((decide (low ≤ n)) = true → ((decide (low ≤ n)) = true) ∧ True) ∧ ((decide (low ≤ n)) = false → True)) ∧ True ∧ True) (by kernel_rfl)
  ⟨tt, tt, ⟨tt, tt, tt⟩, tt, (fun _ => trivial), (fun _ => trivial), (fun hG => ⟨⟨hG, tt⟩, ⟨hG, tt⟩, tt⟩), ⟨tt, (fun hp => ⟨hp, tt⟩), (fun _ => trivial)⟩, tt, tt⟩ ?_
 refine W.ret ?_
 exact endQ_ret (.b ((decide (low ≤ n)) && (decide (n ≤ high)))) (by kernel_rfl) (@cast ((.bool ((decide (low ≤ n)) && (decide (n ≤ high))) : Value) = .bool (within n low high)) _ (by kernel_rfl) (congrArg Value.bool (by first | rfl | simp_all)))
theorem ent48 : Entr prog 48 := ⟨_, func48, rfl, by decide⟩
end Go.Proofs.Try

set_option linter.unusedSimpArgs false
set_option linter.unusedVariables false
namespace Go.Proofs.Try
open Go.Ab Go.RowKit
def fs46 : FnS := fnS [.o] [.call] (fun _ (c, _) => (.b (isCall c), [], True))
abbrev T46 : Tab := lk [(48, fs48)]
theorem tab46 : TabOK prog T46 := (TabOK.cons ok48 ent48 TabOK.nil)
set_option maxRecDepth 100000 in
set_option maxHeartbeats 1000000 in
theorem ok46 : FnOK prog 46 fs46 := by
 refine FnOK.mk cok func46 rfl rfl rfl ?_
 rintro fl ⟨(c : CallD), _⟩ hpre F hnt0 _
 have hnt : F.nt = 43 := hnt0.trans ntmps46
 clear hpre
 refine W.to (⟨[(0, .agg [.i c.proc, .i c.obj, .i c.kind, .i c.arg, .i c.ret, .i c.frm, .i c.to])], [], [999]⟩) rfl ?_
 refine W.K cok tab46 hnt [] [1] (⟨[(1, .ptr 1 0)], [(1, ⟨36, .fix [.i c.proc, .i c.obj, .i c.kind, .i c.arg, .i c.ret, .i c.frm, .i c.to]⟩)], [1, 999]⟩)
  (True ∧ True ∧ True) (by kernel_rfl)
  ⟨tt, tt, tt⟩ ?_
 refine W.K cok tab46 hnt [] [2] (⟨[(2, .b ((((((((within c.proc (0 : Int) (2 : Int)) && (within c.obj (0 : Int) (1 : Int))) && (within c.kind (0 : Int) (2 : Int))) && (within c.arg (0 : Int) (3 : Int))) && (within c.ret (-1 : Int) (20 : Int))) && (within c.frm (0 : Int) (30 : Int))) && (within c.to (0 : Int) (30 : Int))) && (decide (c.frm < c.to))))], [(1, ⟨36, .fix [.i c.proc, .i c.obj, .i c.kind, .i c.arg, .i c.ret, .i c.frm, .i c.to]⟩)], [1, 999]⟩)
  (True ∧ True ∧ (True ∧ (True ∧ True ∧ True ∧ True) ∧ True) ∧ True ∧ ((within c.proc (0 : Int) (2 : Int)) = true → True) ∧ ((within c.proc (0 : Int) (2 : Int)) = true → (((within c.proc (0 : Int) (2 : Int)) = true) ∧ True)) ∧ ((within c.proc (0 : Int) (2 : Int)) = true → (True ∧ ((((within c.proc (0 : Int) (2 : Int)) = true) ∧ True) ∧ True ∧ True ∧ True) ∧ True)) ∧ (True ∧ ((within c.proc (0 : Int) (2 : Int)) = true → ((within c.proc (0 : Int) (2 : Int)) = true) ∧ True) ∧ ((within c.proc (0 : Int) (2 : Int)) = false → True)) ∧ True ∧ (((within c.proc (0 : Int) (2 : Int)) && (within c.obj (0 : Int) (1 : Int))) = true → True) ∧ (((within c.proc (0 : Int) (2 : Int)) && (within c.obj (0 : Int) (1 : Int))) = true → ((((within c.proc (0 : Int) (2 : Int)) && (within c.obj (0 : Int) (1 : Int))) = true) ∧ True)) ∧ (((within c.proc (0 : Int) (2 : Int)) && (within c.obj (0 : Int) (1 : Int))) = true → (True ∧ (((((within c.proc (0 : Int) (2 : Int)) && (within c.obj (0 : Int) (1 : Int))) = true) ∧ True) ∧ True ∧ True ∧ True) ∧ True)) ∧ (True ∧ (((within c.proc (0 : Int) (2 : Int)) && (within c.obj (0 : Int) (1 : Int))) = true → (((within c.proc (0 : Int) (2 : Int)) && (within c.obj (0 : Int) (1 : Int))) = true) ∧ True) ∧ (((within c.proc (0 : Int) (2 : Int)) && (within c.obj (0 : Int) (1 : Int))) = false → True)) ∧ True ∧ ((((within c.proc (0 : Int) (2 : Int)) && (within c.obj (0 : Int) (1 : Int))) && (within c.kind (0 : Int) (2 : Int))) = true → True) ∧ ((((within c.proc (0 : Int) (2 : Int)) && (within c.obj (0 : Int) (1 : Int))) && (within c.kind (0 : Int) (2 : Int))) = true → (((((within c.proc (0 : Int) (2 : Int)) && (within c.obj (0 : Int) (1 : Int))) && (within c.kind (0 : Int) (2 : Int))) = true) ∧ True)) ∧ ((((within c.proc (0 : Int) (2 : Int)) && (within c.obj (0 : Int) (1 : Int))) && (within c.kind (0 : Int) (2 : Int))) = true → (True ∧ ((((((within c.proc (0 : Int) (2 : Int)) && (within c.obj (0 : Int) (1 : Int))) && (within c.kind (0 : Int) (2 : Int))) = true) ∧ True) ∧ True ∧ True ∧ True) ∧ True)) ∧ (True ∧ ((((within c.proc (0 : Int) (2 : Int)) && (within c.obj (0 : Int) (1 : Int))) && (within c.kind (0 : Int) (2 : Int))) = true → ((((within c.proc (0 : Int) (2 : Int)) && (within c.obj (0 : Int) (1 : Int))) && (within c.kind (0 : Int) (2 : Int))) = true) ∧ True) ∧ ((((within c.proc (0 : Int) (2 : Int)) && (within c.obj (0 : Int) (1 : Int))) && (within c.kind (0 : Int) (2 : Int))) = false → True)) ∧ True ∧ (((((within c.proc (0 : Int) (2 : Int)) && (within c.obj (0 : Int) (1 : Int))) && (within c.kind (0 : Int) (2 : Int))) && (within c.arg (0 : Int) (3 : Int))) = true → True) ∧ (((((within c.proc (0 : Int) (2 : Int)) && (within c.obj (0 : Int) (1 : Int))) && (within c.kind (0 : Int) (2 : Int))) && (within c.arg (0 : Int) (3 : Int))) = true → ((((((within c.proc (0 : Int) (2 : Int)) && (within c.obj (0 : Int) (1 : Int))) && (within c.kind (0 : Int) (2 : Int))) && (within c.arg (0 : Int) (3 : Int))) = true) ∧ True)) ∧ (((((within c.proc (0 : Int) (2 : Int)) && (within c.obj (0 : Int) (1 : Int))) && (within c.kind (0 : Int) (2 : Int))) && (within c.arg (0 : Int) (3 : Int))) = true → (True ∧ (((((((within c.proc (0 : Int) (2 : Int)) && (within c.obj (0 : Int) (1 : Int))) && (within c.kind (0 : Int) (2 : Int))) && (within c.arg (0 : Int) (3 : Int))) = true) ∧ True) ∧ True ∧ True ∧ True) ∧ True)) ∧ (True ∧ (((((within c.proc (0 : Int) (2 : Int)) && (within c.obj (0 : Int) (1 : Int))) && (within c.kind (0 : Int) (2 : Int))) && (within c.arg (0 : Int) (3 : Int))) = true → (((((within c.proc (0 : Int) (2 : Int)) && (within c.obj (0 : Int) (1 : Int))) && (within c.kind (0 : Int) (2 : Int))) && (within c.arg (0 : Int) (3 : Int))) = true) ∧ True) ∧ (((((within c.proc (0 : Int) (2 : Int)) && (within c.obj (0 : Int) (1 : Int))) && (within c.kind (0 : Int) (2 : Int))) && (within c.arg (0 : Int) (3 : Int))) = false → True)) ∧ True ∧ ((((((within c.proc (0 : Int) (2 : Int)) && (within c.obj (0 : Int) (1 : Int))) && (within c.kind (0 : Int) (2 : Int))) && (within c.arg (0 : Int) (3 : Int))) && (within c.ret (-1 : Int) (20 : Int))) = true → True) ∧ ((((((within c.proc (0 : Int) (2 : Int)) && (within c.obj (0 : Int) (1 : Int))) && (within c.kind (0 : Int) (2 : Int))) && (within c.arg (0 : Int) (3 : Int))) && (within c.ret (-1 : Int) (20 : Int))) = true → (((((((within c.proc (0 : Int) (2 : Int)) && (within c.obj (0 : Int) (1 : Int))) && (within c.kind (0 : Int) (2 : Int))) && (within c.arg (0 : Int) (3 : Int))) && (within c.ret (-1 : Int) (20 : Int))) = true) ∧ True)) ∧ ((((((within c.proc (0 : Int) (2 : Int)) && (within c.obj (0 : Int) (1 : Int))) && (within c.kind (0 : Int) (2 : Int))) && (within c.arg (0 : Int) (3 : Int))) && (within c.ret (-1 : Int) (20 : Int))) = true → (True ∧ ((((((((within c.proc (0 : Int) (2 : Int)) && (within c.obj (0 : Int) (1 : Int))) && (within c.kind (0 : Int) (2 : Int))) && (within c.arg (0 : Int) (3 : Int))) && (within c.ret (-1 : Int) (20 : Int))) = true) ∧ True) ∧ True ∧ True ∧ True) ∧ True)) ∧ (True ∧ ((((((within c.proc (0 : Int) (2 : Int)) && (within c.obj (0 : Int) (1 : Int))) && (within c.kind (0 : Int) (2 : Int))) && (within c.arg (0 : Int) (3 : Int))) && (within c.ret (-1 : Int) (20 : Int))) = true → ((((((within c.proc (0 : Int) (2 : Int)) && (within c.obj (0 : Int) (1 : Int))) && (within c.kind (0 : Int) (2 : Int))) && (within c.arg (0 : Int) (3 : Int))) && (within c.ret (-1 : Int) (20 : Int))) = true) ∧ True) ∧ ((((((within c.proc (0 : Int) (2 : Int)) && (within c.obj (0 : Int) (1 : Int))) && (within c.kind (0 : Int) (2 : Int))) && (within c.arg (0 : Int) (3 : Int))) && (within c.ret (-1 : Int) (20 : Int))) = false → True)) ∧ True ∧ (((((((within c.proc (0 : Int) (2 : Int)) && (within c.obj (0 : Int) (1 : Int))) && (within c.kind (0 : Int) (2 : Int))) && (within c.arg (0 : Int) (3 : Int))) && (within c.ret (-1 : Int) (20 : Int))) && (within c.frm (0 : Int) (30 : Int))) = true → True) ∧ (((((((within c.proc (0 : Int) (2 : Int)) && (within c.obj (0 : Int) (1 : Int))) && (within c.kind (0 : Int) (2 : Int))) && (within c.arg (0 : Int) (3 : Int))) && (within c.ret (-1 : Int) (20 : Int))) && (within c.frm (0 : Int) (30 : Int))) = true → ((((((((within c.proc (0 : Int) (2 : Int)) && (within c.obj (0 : Int) (1 : Int))) && (within c.kind (0 : Int) (2 : Int))) && (within c.arg (0 : Int) (3 : Int))) && (within c.ret (-1 : Int) (20 : Int))) && (within c.frm (0 : Int) (30 : Int))) = true) ∧ True)) ∧ (((((((within c.proc (0 : Int) (2 : Int)) && (within c.obj (0 : Int) (1 : Int))) && (within c.kind (0 : Int) (2 : Int))) && (within c.arg (0 : Int) (3 : Int))) && (within c.ret (-1 : Int) (20 : Int))) && (within c.frm (0 : Int) (30 : Int))) = true → (True ∧ (((((((((within c.proc (0 : Int) (2 : Int)) && (within c.obj (0 : Int) (1 : Int))) && (within c.kind (0 : Int) (2 : Int))) && (within c.arg (0 : Int) (3 : Int))) && (within c.ret (-1 : Int) (20 : Int))) && (within c.frm (0 : Int) (30 : Int))) = true) ∧ True) ∧ True ∧ True ∧ True) ∧ True)) ∧ (True ∧ (((((((within c.proc (0 : Int) (2 : Int)) && (within c.obj (0 : Int) (1 : Int))) && (within c.kind (0 : Int) (2 : Int))) && (within c.arg (0 : Int) (3 : Int))) && (within c.ret (-1 : Int) (20 : Int))) && (within c.frm (0 : Int) (30 : Int))) = true → (((((((within c.proc (0 : Int) (2 : Int)) && (within c.obj (0 : Int) (1 : Int))) && (within c.kind (0 : Int) (2 : Int))) && (within c.arg (0 : Int) (3 : Int))) && (within c.ret (-1 : Int) (20 : Int))) && (within c.frm (0 : Int) (30 : Int))) = true) ∧ True) ∧ (((((((within c.proc (0 : Int) (2 : Int)) && (within c.obj (0 : Int) (1 : Int))) && (within c.kind (0 : Int) (2 : Int))) && (within c.arg (0 : Int) (3 : Int))) && (within c.ret (-1 : Int) (20 : Int))) && (within c.frm (0 : Int) (30 : Int))) = false → True)) ∧ True ∧ ((((((((within c.proc (0 : Int) (2 : Int)) && (within c.obj (0 : Int) (1 : Int))) && (within c.kind (0 : Int) (2 : Int))) && (within c.arg (0 : Int) (3 : Int))) && (within c.ret (-1 : Int) (20 : Int))) && (within c.frm (0 : Int) (30 : Int))) && (within c.to (0 : Int) (30 : Int))) = true → True) ∧ ((((((((within c.proc (0 : Int) (2 : Int)) && (within c.obj (0 : Int) (1 : Int))) && (within c.kind (0 : Int) (2 : Int))) && (within c.arg (0 : Int) (3 : Int))) && (within c.ret (-1 : Int) (20 : Int))) && (within c.frm (0 : Int) (30 : Int))) && (within c.to (0 : Int) (30 : Int))) = true → (((((((((within c.proc (0 : Int) (2 : Int)) && (within c.obj (0 : Int) (1 : Int))) && (within c.kind (0 : Int) (2 : Int))) && (within c.arg (0 : Int) (3 : Int))) && (within c.ret (-1 : Int) (20 : Int))) && (within c.frm (0 : Int) (30 : Int))) && (within c.to (0 : Int) (30 : Int))) = true) ∧ True)) ∧ ((((((((within c.proc (0 : Int) (2 : Int)) && (within c.obj (0 : Int) (1 : Int))) && (within c.kind (0 : Int) (2 : Int))) && (within c.arg (0 : Int) (3 : Int))) && (within c.ret (-1 : Int) (20 : Int))) && (within c.frm (0 : Int) (30 : Int))) && (within c.to (0 : Int) (30 : Int))) = true → True) ∧ ((((((((within c.proc (0 : Int) (2 : Int)) && (within c.obj (0 : Int) (1 : Int))) && (within c.kind (0 : Int) (2 : Int))) && (within c.arg (0 : Int) (3 : Int))) && (within c.ret (-1 : Int) (20 : Int))) && (within c.frm (0 : Int) (30 : Int))) && (within c.to (0 : Int) (30 : Int))) = true → (((((((((within c.proc (0 : Int) (2 : Int)) && (within c.obj (0 : Int) (1 : Int))) && (within c.kind (0 : Int) (2 : Int))) && (within c.arg (0 : Int) (3 : Int))) && (within c.ret (-1 : Int) (20 : Int))) && (within c.frm (0 : Int) (30 : Int))) && (within c.to (0 : Int) (30 : Int))) = true) ∧ True)) ∧ ((((((((within c.proc (0 : Int) (2 : Int)) && (within c.obj (0 : Int) (1 : Int))) && (within c.kind (0 : Int) (2 : Int))) && (within c.arg (0 : Int) (3 : Int))) && (within c.ret (-1 : Int) (20 : Int))) && (within c.frm (0 : Int) (30 : Int))) && (within c.to (0 : Int) (30 : Int))) = true → ((((((((((within c.proc (0 : Int) (2 : Int)) && (within c.obj (0 : Int) (1 : Int))) && (within c.kind (0 : Int) (2 : Int))) && (within c.arg (0 : Int) (3 : Int))) && (within c.ret (-1 : Int) (20 : Int))) && (within c.frm (0 : Int) (30 : Int))) && (within c.to (0 : Int) (30 : Int))) = true) ∧ True) ∧ (((((((((within c.proc (0 : Int) (2 : Int)) && (within c.obj (0 : Int) (1 : Int))) && (within c.kind (0 : Int) (2 : Int))) && (within c.arg (0 : Int) (3 : Int))) && (within c.ret (-1 : Int) (20 : Int))) && (within c.frm (0 : Int) (30 : Int))) && (within c.to (0 : Int) (30 : Int))) = true) ∧ True) ∧ True)) ∧ (True ∧ ((((((((within c.proc (0 : Int) (2 : Int)) && (within c.obj (0 : Int) (1 : Int))) && (within c.kind (0 : Int) (2 : Int))) && (within c.arg (0 : Int) (3 : Int))) && (within c.ret (-1 : Int) (20 : Int))) && (within c.frm (0 : Int) (30 : Int))) && (within c.to (0 : Int) (30 : Int))) = true → ((((((((within c.proc (0 : Int) (2 : Int)) && (within c.obj (0 : Int) (1 : Int))) && (within c.kind (0 : Int) (2 : Int))) && (within c.arg (0 : Int) (3 : Int))) && (within c.ret (-1 : Int) (20 : Int))) && (within c.frm (0 : Int) (30 : Int))) && (within c.to (0 : Int) (30 : Int))) = true) ∧ True) ∧ ((((((((within c.proc (0 : Int) (2 : Int)) && (within c.obj (0 : Int) (1 : Int))) && (within c.kind (0 : Int) (2 : Int))) && (within c.arg (0 : Int) (3 : Int))) && (within c.ret (-1 : Int) (20 : Int))) && (within c.frm (0 : Int) (30 : Int))) && (within c.to (0 : Int) (30 : Int))) = false → True)) ∧ True ∧ True) (by kernel_rfl)
  ⟨tt, tt, ⟨tt, ⟨tt, tt, tt, tt⟩, tt⟩, tt, (fun _ => trivial), (fun hG => ⟨hG, tt⟩), (fun hG => ⟨tt, ⟨⟨hG, tt⟩, tt, tt, tt⟩, tt⟩), ⟨tt, (fun hp => ⟨hp, tt⟩), (fun _ => trivial)⟩, tt, (fun _ => trivial), (fun hG => ⟨hG, tt⟩), (fun hG => ⟨tt, ⟨⟨hG, tt⟩, tt, tt, tt⟩, tt⟩), ⟨tt, (fun hp => ⟨hp, tt⟩), (fun _ => trivial)⟩, tt, (fun _ => trivial), (fun hG => ⟨hG, tt⟩), (fun hG => ⟨tt, ⟨⟨hG, tt⟩, tt, tt, tt⟩, tt⟩), ⟨tt, (fun hp => ⟨hp, tt⟩), (fun _ => trivial)⟩, tt, (fun _ => trivial), (fun hG => ⟨hG, tt⟩), (fun hG => ⟨tt, ⟨⟨hG, tt⟩, tt, tt, tt⟩, tt⟩), ⟨tt, (fun hp => ⟨hp, tt⟩), (fun _ => trivial)⟩, tt, (fun _ => trivial), (fun hG => ⟨hG, tt⟩), (fun hG => ⟨tt, ⟨⟨hG, tt⟩, tt, tt, tt⟩, tt⟩), ⟨tt, (fun hp => ⟨hp, tt⟩), (fun _ => trivial)⟩, tt, (fun _ => trivial), (fun hG => ⟨hG, tt⟩), (fun hG => ⟨tt, ⟨⟨hG, tt⟩, tt, tt, tt⟩, tt⟩), ⟨tt, (fun hp => ⟨hp, tt⟩), (fun _ => trivial)⟩, tt, (fun _ => trivial), (fun hG => ⟨hG, tt⟩), (fun _ => trivial), (fun hG => ⟨hG, tt⟩), (fun hG => ⟨⟨hG, tt⟩, ⟨hG, tt⟩, tt⟩), ⟨tt, (fun hp => ⟨hp, tt⟩), (fun _ => trivial)⟩, tt, tt⟩ ?_
 refine W.ret ?_
 exact endQ_ret (.b ((((((((within c.proc (0 : Int) (2 : Int)) && (within c.obj (0 : Int) (1 : Int))) && (within c.kind (0 : Int) (2 : Int))) && (within c.arg (0 : Int) (3 : Int))) && (within c.ret (-1 : Int) (20 : Int))) && (within c.frm (0 : Int) (30 : Int))) && (within c.to (0 : Int) (30 : Int))) && (decide (c.frm < c.to)))) (by kernel_rfl) (@cast ((.bool ((((((((within c.proc (0 : Int) (2 : Int)) && (within c.obj (0 : Int) (1 : Int))) && (within c.kind (0 : Int) (2 : Int))) && (within c.arg (0 : Int) (3 : Int))) && (within c.ret (-1 : Int) (20 : Int))) && (within c.frm (0 : Int) (30 : Int))) && (within c.to (0 : Int) (30 : Int))) && (decide (c.frm < c.to))) : Value) = .bool (isCall c)) _ (by kernel_rfl) (congrArg Value.bool (by first | rfl | simp_all)))
theorem ent46 : Entr prog 46 := ⟨_, func46, rfl, by decide⟩
end Go.Proofs.Try

set_option linter.unusedSimpArgs false
set_option linter.unusedVariables false
namespace Go.Proofs.Try
open Go.Ab Go.RowKit
def fs62 : FnS := fnS [.o, .o] [.call, .call] (fun _ (a, b, _) => (.b (isBefore a b), [], True))
abbrev T62 : Tab := lk []
theorem tab62 : TabOK prog T62 := TabOK.nil
set_option maxRecDepth 100000 in
set_option maxHeartbeats 1000000 in
theorem ok62 : FnOK prog 62 fs62 := by
 refine FnOK.mk cok func62 rfl rfl rfl ?_
 rintro fl ⟨(a : CallD), (b : CallD), _⟩ hpre F hnt0 _
 have hnt : F.nt = 10 := hnt0.trans ntmps62
 clear hpre
 refine W.to (⟨[(0, .agg [.i a.proc, .i a.obj, .i a.kind, .i a.arg, .i a.ret, .i a.frm, .i a.to]), (1, .agg [.i b.proc, .i b.obj, .i b.kind, .i b.arg, .i b.ret, .i b.frm, .i b.to])], [], [999]⟩) rfl ?_
 refine W.K cok tab62 hnt [] [2, 3] (⟨[(2, .ptr 2 0), (3, .ptr 3 0)], [(2, ⟨36, .fix [.i a.proc, .i a.obj, .i a.kind, .i a.arg, .i a.ret, .i a.frm, .i a.to]⟩), (3, ⟨36, .fix [.i b.proc, .i b.obj, .i b.kind, .i b.arg, .i b.ret, .i b.frm, .i b.to]⟩)], [3, 2, 999]⟩)
  (True ∧ True ∧ True ∧ True) (by kernel_rfl)
  ⟨tt, tt, tt, tt⟩ ?_
 refine W.K cok tab62 hnt [] [4] (⟨[(4, .b (decide (a.to < b.frm)))], [(2, ⟨36, .fix [.i a.proc, .i a.obj, .i a.kind, .i a.arg, .i a.ret, .i a.frm, .i a.to]⟩), (3, ⟨36, .fix [.i b.proc, .i b.obj, .i b.kind, .i b.arg, .i b.ret, .i b.frm, .i b.to]⟩)], [3, 2, 999]⟩)
  (True ∧ True ∧ True ∧ True ∧ (True ∧ True ∧ True) ∧ True ∧ True) (by kernel_rfl)
  ⟨tt, tt, tt, tt, ⟨tt, tt, tt⟩, tt, tt⟩ ?_
 refine W.ret ?_
 exact endQ_ret (.b (decide (a.to < b.frm))) (by kernel_rfl) (@cast ((.bool (decide (a.to < b.frm)) : Value) = .bool (isBefore a b)) _ (by kernel_rfl) (congrArg Value.bool (by first | rfl | simp_all)))
theorem ent62 : Entr prog 62 := ⟨_, func62, rfl, by decide⟩
end Go.Proofs.Try

set_option linter.unusedSimpArgs false
set_option linter.unusedVariables false
namespace Go.Proofs.Try
open Go.Ab Go.RowKit
def fs47 : FnS := fnS [.o, .o] [.call, .call] (fun _ (a, b, _) => (.b (doOverlap a b), [], True))
abbrev T47 : Tab := lk [(62, fs62)]
theorem tab47 : TabOK prog T47 := (TabOK.cons ok62 ent62 TabOK.nil)
set_option maxRecDepth 100000 in
set_option maxHeartbeats 1000000 in
theorem ok47 : FnOK prog 47 fs47 := by
 refine FnOK.mk cok func47 rfl rfl rfl ?_
 rintro fl ⟨(a : CallD), (b : CallD), _⟩ hpre F hnt0 _
 have hnt : F.nt = 15 := hnt0.trans ntmps47
 clear hpre
 refine W.to (⟨[(0, .agg [.i a.proc, .i a.obj, .i a.kind, .i a.arg, .i a.ret, .i a.frm, .i a.to]), (1, .agg [.i b.proc, .i b.obj, .i b.kind, .i b.arg, .i b.ret, .i b.frm, .i b.to])], [], [999]⟩) rfl ?_
 refine W.K cok tab47 hnt [] [2, 3] (⟨[(2, .ptr 2 0), (3, .ptr 3 0)], [(2, ⟨36, .fix [.i a.proc, .i a.obj, .i a.kind, .i a.arg, .i a.ret, .i a.frm, .i a.to]⟩), (3, ⟨36, .fix [.i b.proc, .i b.obj, .i b.kind, .i b.arg, .i b.ret, .i b.frm, .i b.to]⟩)], [3, 2, 999]⟩)
  (True ∧ True ∧ True ∧ True) (by kernel_rfl)
  ⟨tt, tt, tt, tt⟩ ?_
 refine W.K cok tab47 hnt [] [4] (⟨[(4, .b ((!(isBefore a b)) && (!(isBefore b a))))], [(2, ⟨36, .fix [.i a.proc, .i a.obj, .i a.kind, .i a.arg, .i a.ret, .i a.frm, .i a.to]⟩), (3, ⟨36, .fix [.i b.proc, .i b.obj, .i b.kind, .i b.arg, .i b.ret, .i b.frm, .i b.to]⟩)], [3, 2, 999]⟩)
  (True ∧ True ∧ (True ∧ (True ∧ True ∧ True) ∧ True) ∧ True ∧ True ∧ ((!(isBefore a b)) = true → True) ∧ ((!(isBefore a b)) = true → True) ∧ ((!(isBefore a b)) = true → (True ∧ ((((!(isBefore a b)) = true) ∧ True) ∧ (((!(isBefore a b)) = true) ∧ True) ∧ True) ∧ True)) ∧ ((!(isBefore a b)) = true → (((!(isBefore a b)) = true) ∧ True)) ∧ (True ∧ ((!(isBefore a b)) = true → ((!(isBefore a b)) = true) ∧ True) ∧ ((!(isBefore a b)) = false → True)) ∧ True ∧ True) (by kernel_rfl)
  ⟨tt, tt, ⟨tt, ⟨tt, tt, tt⟩, tt⟩, tt, tt, (fun _ => trivial), (fun _ => trivial), (fun hG => ⟨tt, ⟨⟨hG, tt⟩, ⟨hG, tt⟩, tt⟩, tt⟩), (fun hG => ⟨hG, tt⟩), ⟨tt, (fun hp => ⟨hp, tt⟩), (fun _ => trivial)⟩, tt, tt⟩ ?_
 refine W.ret ?_
 exact endQ_ret (.b ((!(isBefore a b)) && (!(isBefore b a)))) (by kernel_rfl) (@cast ((.bool ((!(isBefore a b)) && (!(isBefore b a))) : Value) = .bool (doOverlap a b)) _ (by kernel_rfl) (congrArg Value.bool (by first | rfl | simp_all)))
theorem ent47 : Entr prog 47 := ⟨_, func47, rfl, by decide⟩
end Go.Proofs.Try
