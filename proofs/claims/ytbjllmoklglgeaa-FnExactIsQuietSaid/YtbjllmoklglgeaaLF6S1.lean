import Derived.Test.YtbjllmoklglgeaaLF6S0
set_option linter.unusedSimpArgs false
set_option linter.unusedVariables false
namespace Go.Ab
theorem has_snoc (o : List Int) (x y : Int) : hasInt (o ++ [x]) y = (hasInt o y || decide (y = x)) := by
 apply bool_ext
 rw [Bool.or_eq_true, hasInt_mem, hasInt_mem, decide_eq_true_eq]
 simp
theorem bits_andNot_val {a b : Nat} (ha : a < 2 ^ 62) (hb : b < 2 ^ 62) : ∃ c : Nat, bitsI .andNot .i64 ((a : Nat) : Int) ((b : Nat) : Int) = ((c : Nat) : Int) ∧ ∀ k, c.testBit k = (a.testBit k && !b.testBit k) := by
 have e : bitsI .andNot .i64 ((a : Nat) : Int) ((b : Nat) : Int) = IntKind.i64.wrap (((BitVec.ofInt 64 ((a : Nat) : Int) &&& ~~~ BitVec.ofInt 64 ((b : Nat) : Int)).toNat : Nat) : Int) := rfl
 have hx : (BitVec.ofInt 64 ((a : Nat) : Int)) = BitVec.ofNat 64 a := by apply BitVec.eq_of_toNat_eq; rw [BitVec.toNat_ofInt, BitVec.toNat_ofNat]; omega
 have hy : (BitVec.ofInt 64 ((b : Nat) : Int)) = BitVec.ofNat 64 b := by apply BitVec.eq_of_toNat_eq; rw [BitVec.toNat_ofInt, BitVec.toNat_ofNat]; omega
 rw [e, hx, hy]
 have hle : (BitVec.ofNat 64 a &&& ~~~ BitVec.ofNat 64 b).toNat ≤ a := by
  rw [BitVec.toNat_and, BitVec.toNat_ofNat, Nat.mod_eq_of_lt (by omega)]
  exact Nat.and_le_left
 refine ⟨_, IntWalk.i64_in _ (by omega), fun k => ?_⟩
 rw [BitVec.testBit_toNat, BitVec.getLsbD_and, BitVec.getLsbD_not, BitVec.getLsbD_ofNat, BitVec.getLsbD_ofNat]
 by_cases hk : k < 64
 ·simp [hk]
 ·have h1 : a.testBit k = false := Nat.testBit_lt_two_pow (Nat.lt_of_lt_of_le ha (Nat.pow_le_pow_right (by omega) (by omega)))
  simp [hk, h1]
theorem maskN_62 {n : Nat} (h : n ≤ 60) (p : Nat → Bool) : maskN n p < 2 ^ 62 := by
 have := maskN_lt n p
 have := Nat.pow_le_pow_right (show 0 < 2 by omega) (show n ≤ 62 by omega)
 omega
theorem mask_eq_of {n : Nat} {p : Nat → Bool} {c : Nat} (h : ∀ k, c.testBit k = (decide (k < n) && p k)) : ((c : Nat) : Int) = mask n p := by
 unfold mask
 have : c = maskN n p := Nat.eq_of_testBit_eq (fun k => by rw [h k, maskN_bit])
 rw [this]
theorem used_or {n k : Nat} {p : Nat → Bool} (hn : n ≤ 60) (hk : k < n) : bitsI .or .i64 (mask n p) (shlI .i64 1 ((k : Nat) : Int)) = mask n (fun j => p j || decide (j = k)) := by
 have h1 := maskN_62 hn p
 have h2 : 2 ^ k < 2 ^ 62 := Nat.pow_lt_pow_right (by omega) (by omega)
 rw [shl_one (by omega), show mask n p = ((maskN n p : Nat) : Int) from rfl, bits_or (by omega) (by omega)]
 refine mask_eq_of (fun j => ?_)
 rw [Nat.testBit_or, maskN_bit, Nat.testBit_two_pow]
 by_cases hj : k = j
 ·subst hj; simp [hk]
 ·simp [hj, Ne.symm hj]
theorem used_not {n k : Nat} {p : Nat → Bool} (hn : n ≤ 60) (hk : k < n) : bitsI .andNot .i64 (mask n p) (shlI .i64 1 ((k : Nat) : Int)) = mask n (fun j => p j && !decide (j = k)) := by
 have h1 := maskN_62 hn p
 have h2 : 2 ^ k < 2 ^ 62 := Nat.pow_lt_pow_right (by omega) (by omega)
 rw [shl_one (by omega)]
 obtain ⟨c, e, hc⟩ := bits_andNot_val (a := maskN n p) (b := 2 ^ k) h1 h2
 rw [show mask n p = ((maskN n p : Nat) : Int) from rfl, e]
 refine mask_eq_of (fun j => ?_)
 rw [hc, maskN_bit, Nat.testBit_two_pow]
 by_cases hj : k = j
 ·subst hj; simp
 ·simp [hj, Ne.symm hj]
def hasN (o : List Int) (k : Nat) : Bool := hasInt o ((k : Nat) : Int)
theorem used_push {n k : Nat} {o : List Int} (hn : n ≤ 60) (hk : k < n) : bitsI .or .i64 (mask n (hasN o)) (shlI .i64 1 ((k : Nat) : Int)) = mask n (hasN (o ++ [((k : Nat) : Int)])) := by
 rw [used_or hn hk, mask_inj]
 intro j _
 unfold hasN
 rw [has_snoc]
 congr 1
 exact bool_ext (by simp only [decide_eq_true_eq]; omega)
theorem used_pop {n k : Nat} {o : List Int} (hn : n ≤ 60) (hk : k < n) (hf : hasInt o ((k : Nat) : Int) = false) : bitsI .andNot .i64 (mask n (hasN (o ++ [((k : Nat) : Int)]))) (shlI .i64 1 ((k : Nat) : Int)) = mask n (hasN o) := by
 rw [used_not hn hk, mask_inj]
 intro j _
 unfold hasN
 rw [has_snoc]
 by_cases hj : j = k
 ·subst hj; rw [hf]; simp
 ·rw [decide_eq_false hj, decide_eq_false (show ¬ ((j : Nat) : Int) = ((k : Nat) : Int) by omega)]; simp
def freeB (f : Nat → Nat → Bool) (n : Nat) (o : List Int) (i : Nat) : Bool := !hasInt o ((i : Nat) : Int) && allN n (fun k => !f i k || hasInt o ((k : Nat) : Int))
theorem free_sub {n i : Nat} {f : Nat → Nat → Bool} {o : List Int} : (maskN n (f i) &&& maskN n (hasN o) = maskN n (f i)) ↔ allN n (fun k => !f i k || hasInt o ((k : Nat) : Int)) = true := by
 rw [allN_iff]
 constructor
 ·intro h k hk
  have := congrArg (fun x => x.testBit k) h
  simp only [Nat.testBit_and, maskN_bit, hk, decide_true, Bool.true_and] at this
  unfold hasN at this
  cases h1 : f i k <;> cases h2 : hasInt o ((k : Nat) : Int) <;> rw [h1, h2] at this <;> simp_all
 ·intro h
  apply Nat.eq_of_testBit_eq
  intro k
  rw [Nat.testBit_and, maskN_bit, maskN_bit]
  by_cases hk : k < n
  ·have := h k hk
   unfold hasN
   cases h1 : f i k <;> cases h2 : hasInt o ((k : Nat) : Int) <;> rw [h1, h2] at this <;> simp_all
  ·simp [hk]
theorem free_impl {n i : Nat} {f : Nat → Nat → Bool} {o : List Int} (hn : n ≤ 60) (hi : i < n) {b : Bool}
  (h : (decide (bitsI .and .i64 (shrI .i64 (mask n (hasN o)) ((i : Nat) : Int)) 1 = 1) || decide (bitsI .andNot .i64 ((rowsOf n f).getD i 0) (mask n (hasN o)) ≠ 0)) = b) : freeB f n o i = !b := by
 rw [← h, rowsOf_get f hi, show mask n (hasN o) = ((maskN n (hasN o) : Nat) : Int) from rfl, show mask n (f i) = ((maskN n (f i) : Nat) : Int) from rfl,
  iBit (maskN_62 hn _) (by omega), maskN_bit]
 have h2 := bits_andNot (a := maskN n (f i)) (b := maskN n (hasN o)) (maskN_62 hn _) (maskN_62 hn _)
 rw [free_sub] at h2
 unfold freeB
 rw [decide_eq_true hi, Bool.true_and]
 have h3 : decide (bitsI .andNot .i64 ((maskN n (f i) : Nat) : Int) ((maskN n (hasN o) : Nat) : Int) ≠ 0) = !allN n (fun k => !f i k || hasInt o ((k : Nat) : Int)) := bool_ext (by
  rw [decide_eq_true_eq, Bool.not_eq_true', ne_eq, h2]
  cases allN n (fun k => !f i k || hasInt o ((k : Nat) : Int)) <;> simp)
 rw [h3]
 unfold hasN
 cases hasInt o ((i : Nat) : Int) <;> cases allN n (fun k => !f i k || hasInt o ((k : Nat) : Int)) <;> rfl
theorem free_spec {n i : Nat} {f : Nat → Nat → Bool} {o : List Int} (hn : n ≤ 60) (hi : i < n) {b : Bool}
  (h : (decide (bitOf (mask n (hasN o)) ((i : Nat) : Int) = 0) && decide (bitsI .and .i64 ((rowsOf n f).getD i 0) (mask n (hasN o)) = (rowsOf n f).getD i 0)) = b) : freeB f n o i = b := by
 rw [← h, rowsOf_get f hi, bits_mask hn]
 unfold freeB
 have e1 : decide (bitOf (mask n (hasN o)) ((i : Nat) : Int) = 0) = !hasInt o ((i : Nat) : Int) := by
  apply bool_ext
  rw [decide_eq_true_eq, bitOf_zero]
  unfold hasN
  cases hasInt o ((i : Nat) : Int) <;> simp [hi]
 have e2 : decide (((maskN n (f i) &&& maskN n (hasN o) : Nat) : Int) = mask n (f i)) = allN n (fun k => !f i k || hasInt o ((k : Nat) : Int)) := by
  apply bool_ext
  rw [decide_eq_true_eq, ← free_sub]
  unfold mask
  omega
 rw [e1, e2]
where
 bits_mask {n : Nat} {p q : Nat → Bool} (hn : n ≤ 60) : bitsI .and .i64 (mask n p) (mask n q) = ((maskN n p &&& maskN n q : Nat) : Int) := by
  have h1 := maskN_62 hn p
  have h2 := maskN_62 hn q
  unfold mask
  exact bits_and (by omega) (by omega)
def ordersF (s : ByteArray) (h : List CallD) (f : Nat → Nat → Bool) : Nat → List Int → List (List Int)
 | 0, o => bif runsB s h o then [o] else []
 | m + 1, o => (List.range h.length).flatMap fun i => bif freeB f h.length o i then ordersF s h f m (o ++ [((i : Nat) : Int)]) else []
def ordersUp (s : ByteArray) (h : List CallD) (f : Nat → Nat → Bool) (m : Nat) (o : List Int) (k : Nat) : List (List Int) := (List.range k).flatMap fun i => bif freeB f h.length o i then ordersF s h f m (o ++ [((i : Nat) : Int)]) else []
theorem up_yes {s : ByteArray} {h : List CallD} {f : Nat → Nat → Bool} {m k : Nat} {o : List Int} (hf : freeB f h.length o k = true) : ordersUp s h f m o (k + 1) = ordersUp s h f m o k ++ ordersF s h f m (o ++ [((k : Nat) : Int)]) := by
 unfold ordersUp
 rw [List.range_succ, List.flatMap_append]
 simp [hf]
theorem up_no {s : ByteArray} {h : List CallD} {f : Nat → Nat → Bool} {m k : Nat} {o : List Int} (hf : freeB f h.length o k = false) : ordersUp s h f m o (k + 1) = ordersUp s h f m o k := by
 unfold ordersUp
 rw [List.range_succ, List.flatMap_append]
 simp [hf]
theorem sts_snoc {s : ByteArray} {h : List CallD} {o : List Int} (x : Int) {i : Nat} (hi : i ≤ o.length) : sts s h (o ++ [x]) i = sts s h o i := by
 induction i with
 | zero => rfl
 | succ i ih =>
  have e : ordAt h (o ++ [x]) i = ordAt h o i := by unfold ordAt; rw [List.getD_eq_getElem?_getD, List.getElem?_append_left (by omega), ← List.getD_eq_getElem?_getD]
  simp only [sts]
  rw [ih (by omega), e]
theorem okAt_snoc {s : ByteArray} {h : List CallD} {o : List Int} (x : Int) {i : Nat} (hi : i < o.length) : okAt s h (o ++ [x]) i = okAt s h o i := by
 have e : ordAt h (o ++ [x]) i = ordAt h o i := by unfold ordAt; rw [List.getD_eq_getElem?_getD, List.getElem?_append_left (by omega), ← List.getD_eq_getElem?_getD]
 unfold okAt
 rw [sts_snoc x (by omega), e]
theorem runs_snoc {s : ByteArray} {h : List CallD} {o : List Int} (x : Int) (hr : runsB s h o = false) : runsB s h (o ++ [x]) = false := by
 unfold runsB at *
 obtain ⟨i, hi, h1⟩ := allN_not hr
 exact allN_false (i := i) (by simp; omega) (by rw [okAt_snoc x hi]; exact h1)
theorem orders_none {s : ByteArray} {h : List CallD} {f : Nat → Nat → Bool} : ∀ {m : Nat} {o : List Int}, runsB s h o = false → ordersF s h f m o = []
 | 0, o, hr => by simp [ordersF, hr]
 | m + 1, o, hr => by
  simp only [ordersF]
  rw [List.flatMap_eq_nil_iff]
  intro i _
  cases freeB f h.length o i with
  | false => rfl
  | true => exact orders_none (runs_snoc _ hr)
theorem orders_up {s : ByteArray} {h : List CallD} {f : Nat → Nat → Bool} (m : Nat) (o : List Int) : ordersF s h f (m + 1) o = ordersUp s h f m o h.length := rfl
theorem orders_len {s : ByteArray} {h : List CallD} {f : Nat → Nat → Bool} (h6 : h.length ≤ 6) : ∀ (m : Nat) (o : List Int), (ordersF s h f m o).length ≤ 6 ^ m
 | 0, o => by simp only [ordersF]; cases runsB s h o <;> simp
 | m + 1, o => by
  have key : ∀ k, k ≤ 6 → (ordersUp s h f m o k).length ≤ k * 6 ^ m := by
   intro k
   induction k with
   | zero => intro _; simp [ordersUp]
   | succ k ih =>
    intro hk
    have ih' := ih (by omega)
    have h1 := orders_len h6 m (o ++ [((k : Nat) : Int)]) (s := s) (f := f)
    cases hf : freeB f h.length o k with
    | true => rw [up_yes hf, List.length_append, Nat.succ_mul]; omega
    | false => rw [up_no hf, Nat.succ_mul]; omega
  rw [orders_up]
  have := key h.length h6
  have h2 : h.length * 6 ^ m ≤ 6 * 6 ^ m := Nat.mul_le_mul_right _ h6
  rw [Nat.pow_succ, Nat.mul_comm]
  omega
theorem ordUp_len {s : ByteArray} {h : List CallD} {f : Nat → Nat → Bool} (h6 : h.length ≤ 6) (m : Nat) (o : List Int) {k : Nat} (hk : k ≤ 6) : (ordersUp s h f m o k).length ≤ k * 6 ^ m := by
 induction k with
 | zero => simp [ordersUp]
 | succ k ih =>
  have ih' := ih (by omega)
  have h1 := orders_len (s := s) (f := f) h6 m (o ++ [((k : Nat) : Int)])
  cases hf : freeB f h.length o k with
  | true => rw [up_yes hf, List.length_append, Nat.succ_mul]; omega
  | false => rw [up_no hf, Nat.succ_mul]; omega
def headO (h : List CallD) (o : List Int) : Prop := inH h o ∧ o.Nodup ∧ o.length ≤ h.length
theorem headO_nil (h : List CallD) : headO h [] := ⟨fun i hi => by simp at hi, List.nodup_nil, by simp⟩
theorem headO_snoc {h : List CallD} {o : List Int} {k : Nat} (ho : headO h o) (hk : k < h.length) (hf : hasInt o ((k : Nat) : Int) = false) (hl : o.length < h.length) : headO h (o ++ [((k : Nat) : Int)]) := by
 refine ⟨fun i hi => ?_, ?_, by simp; omega⟩
 ·simp only [List.getD_eq_getElem?_getD]
  by_cases h1 : i < o.length
  ·rw [List.getElem?_append_left h1, ← List.getD_eq_getElem?_getD]; exact ho.1 i h1
  ·have : i = o.length := by simp at hi; omega
   subst this
   rw [List.getElem?_append_right (Nat.le_refl _)]
   simp; omega
 ·refine List.nodup_append.2 ⟨ho.2.1, by simp, ?_⟩
  intro a ha b hb hab
  simp only [List.mem_singleton] at hb
  subst hb; subst hab
  rw [hasInt_mem.2 ha] at hf; cases hf
theorem free_has {f : Nat → Nat → Bool} {n i : Nat} {o : List Int} (hf : freeB f n o i = true) : hasInt o ((i : Nat) : Int) = false := by
 unfold freeB at hf
 have := and_l hf
 simpa using this
end Go.Ab
namespace Go.Ab
theorem pow6_le {m : Nat} (h : m ≤ 6) : 6 ^ m ≤ 46656 := Nat.pow_le_pow_right (by omega) h
theorem take_pop {o : List Int} {x : Int} {n : Int} (h : n = (((o ++ [x]).length : Nat) : Int) - 1) : List.take n.toNat (o ++ [x]) = o := by
 have : n.toNat = o.length := by rw [h]; simp
 rw [this]; simp
end Go.Ab
namespace Go.Ab
section
variable {s : ByteArray} {h : List CallD} {f : Nat → Nat → Bool} {o : List Int}
theorem orders_yes (hl : ((o.length : Nat) : Int) = ((h.length : Nat) : Int)) (hp : (playedR s h o).2 = true) : ordersF s h f (h.length - o.length) o = [o] := by
 rw [played_runs] at hp
 rw [show h.length - o.length = 0 by omega]; simp [ordersF, hp]
theorem orders_no (hl : ((o.length : Nat) : Int) = ((h.length : Nat) : Int)) (hp : (playedR s h o).2 = false) : ordersF s h f (h.length - o.length) o = [] := by
 rw [played_runs] at hp
 rw [show h.length - o.length = 0 by omega]; simp [ordersF, hp]
theorem orders_end (hl : o.length < h.length) : ordersF s h f (h.length - o.length) o = ordersUp s h f (h.length - o.length - 1) o h.length := by
 rw [show h.length - o.length = (h.length - o.length - 1) + 1 by omega]; rfl
theorem ord_room {out : List (List Int)} {k : Nat} (hz : out.length + 6 ^ (h.length - o.length) ≤ 100000) (h6 : h.length ≤ 6) (hk : k < h.length) (hl : o.length < h.length) :
  (out ++ ordersUp s h f (h.length - o.length - 1) o k).length + 6 ^ (h.length - o.length - 1) ≤ 100000 := by
 have h1 := ordUp_len (s := s) (f := f) h6 (h.length - o.length - 1) o (k := k) (by omega)
 have h2 : 6 ^ (h.length - o.length) = 6 ^ (h.length - o.length - 1) * 6 := by rw [← Nat.pow_succ]; congr 1; omega
 have h3 : (k + 1) * 6 ^ (h.length - o.length - 1) ≤ 6 * 6 ^ (h.length - o.length - 1) := Nat.mul_le_mul_right _ (by omega)
 rw [List.length_append]
 rw [Nat.succ_mul] at h3
 omega
theorem up_step {out ou oo : List (List Int)} {k : Nat} (hf : freeB f h.length o k = true) (hou : ou = out ++ ordersUp s h f (h.length - o.length - 1) o k) :
  ou ++ ordersF s h f (h.length - (o ++ [((k : Nat) : Int)]).length) (o ++ [((k : Nat) : Int)]) = out ++ ordersUp s h f (h.length - o.length - 1) o (k + 1) := by
 rw [hou, up_yes hf, List.append_assoc]
 congr 3
 simp; omega
theorem free_no {n i : Nat} (hn : n ≤ 60) (hi : i < n)
  (hb : (decide (bitsI .and .i64 (shrI .i64 (mask n (hasN o)) ((i : Nat) : Int)) 1 = 1) || decide (bitsI .andNot .i64 ((rowsOf n f).getD i 0) (mask n (hasN o)) ≠ 0)) = true) : freeB f n o i = false := free_impl hn hi hb
theorem free_yes {n i : Nat} (hn : n ≤ 60) (hi : i < n)
  (hb : (decide (bitsI .and .i64 (shrI .i64 (mask n (hasN o)) ((i : Nat) : Int)) 1 = 1) || decide (bitsI .andNot .i64 ((rowsOf n f).getD i 0) (mask n (hasN o)) ≠ 0)) = false) : freeB f n o i = true := free_impl hn hi hb
end
end Go.Ab
namespace Go.Ab
def bitF (rows : List Int) (i k : Nat) : Bool := (rows.getD i 0).toNat.testBit k
theorem ordersF_congr {s : ByteArray} {h : List CallD} {f g : Nat → Nat → Bool} (hfg : ∀ i k, i < h.length → k < h.length → f i k = g i k) : ∀ (m : Nat) (o : List Int), ordersF s h f m o = ordersF s h g m o
 | 0, o => rfl
 | m + 1, o => by
  simp only [ordersF]
  rw [List.flatMap_def, List.flatMap_def]
  congr 1
  apply List.map_congr_left
  intro i hi
  have hi := List.mem_range.1 hi
  have e : freeB f h.length o i = freeB g h.length o i := by
   unfold freeB
   congr 1
   apply bool_ext
   rw [allN_iff, allN_iff]
   exact ⟨fun hh k hk => by rw [← hfg i k hi hk]; exact hh k hk, fun hh k hk => by rw [hfg i k hi hk]; exact hh k hk⟩
  rw [e, ordersF_congr hfg]
theorem bitF_rows {n i k : Nat} {f : Nat → Nat → Bool} (hi : i < n) (hk : k < n) : bitF (rowsOf n f) i k = f i k := by
 unfold bitF
 rw [rowsOf_get f hi]
 unfold mask
 rw [Int.toNat_natCast, maskN_bit, decide_eq_true hk, Bool.true_and]
theorem orders_rows {s : ByteArray} {h : List CallD} {f : Nat → Nat → Bool} {m : Nat} {o : List Int} : ordersF s h (bitF (rowsOf h.length f)) m o = ordersF s h f m o := ordersF_congr (fun _ _ hi hk => bitF_rows hi hk) m o
theorem rows_self {n : Nat} {f : Nat → Nat → Bool} : rowsOf n f = rowsOf n (bitF (rowsOf n f)) := by
 apply rowsOf_congr
 intro i k hi hk
 exact (bitF_rows hi hk).symm
end Go.Ab
namespace Go.Ab
theorem used_nil (n : Nat) : mask n (hasN []) = 0 := mask_zero n (fun _ _ => rfl)
theorem done_all {n : Nat} {o : List Int} {j : Nat} (hj : o.length ≤ j) : mask n (doneF o j) = mask n (hasN o) := by
 unfold doneF hasN
 rw [List.take_of_length_le hj]
section
variable {s : ByteArray} {h : List CallD} {f : Nat → Nat → Bool} {o : List Int}
theorem explain_end {ou : List (List Int)} {k : Nat} (hl : o.length < h.length) (hk : k = h.length) (hou : ou = ordersUp s h f (h.length - o.length - 1) o k) : ou = ordersF s h f (h.length - o.length) o := by
 rw [hou, hk, orders_end hl]
theorem explain_step {ou : List (List Int)} {k : Nat} (hf : freeB f h.length o k = true) (hou : ou = ordersUp s h f (h.length - o.length - 1) o k) :
  ou ++ ordersF s h f (h.length - (o ++ [((k : Nat) : Int)]).length) (o ++ [((k : Nat) : Int)]) = ordersUp s h f (h.length - o.length - 1) o (k + 1) := up_step (out := []) (oo := []) hf hou
theorem explain_one (hr : runsB s h o = true) (hl : ((o.length : Nat) : Int) = ((h.length : Nat) : Int)) : [o] = ordersF s h f (h.length - o.length) o := by
 rw [show h.length - o.length = 0 by omega]; simp [ordersF, hr]
theorem rest_len {m : Nat} (h6 : h.length ≤ 6) (hm : m ≤ 6) (o : List Int) : (ordersF s h f m o).length ≤ 46656 := Nat.le_trans (orders_len h6 m o) (pow6_le hm)
theorem upto_len6 {m k : Nat} (h6 : h.length ≤ 6) (hm : m ≤ 5) (hk : k ≤ 6) (o : List Int) : (ordersUp s h f m o k).length ≤ 46656 := by
 have h1 := ordUp_len (s := s) (f := f) h6 m o hk
 have h2 : 6 ^ m ≤ 6 ^ 5 := Nat.pow_le_pow_right (by omega) hm
 have h3 : k * 6 ^ m ≤ 6 * 6 ^ m := Nat.mul_le_mul_right _ hk
 omega
end
end Go.Ab

set_option linter.unusedSimpArgs false
set_option linter.unusedVariables false
namespace Go.Ab
def ordersBy (s : ByteArray) (h : List CallD) (f : Nat → Nat → Bool) : List (List Int) := bif isObject s && validHistory h then ordersF s h f h.length [] else []
def explains (s : ByteArray) (h : List CallD) (f : Nat → Nat → Bool) : Bool := decide (0 < (((ordersBy s h f).length : Nat) : Int))
section
variable {s : ByteArray} {h : List CallD} {f g : Nat → Nat → Bool} {rows : List Int}
theorem by_val (hg : (isObject s && validHistory h) = true) (e : rows = rowsOf h.length f) : ordersF s h (bitF rows) h.length [] = ordersBy s h f := by
 unfold ordersBy; rw [hg, e, orders_rows]; rfl
theorem by_no (hg : (isObject s && validHistory h) = false) : ordersBy s h f = [] := by unfold ordersBy; rw [hg]; rfl
theorem by_gt (e : validHistory h = true → rows = rowsOf h.length f) : ((isObject s && validHistory h) && decide (0 < (((ordersF s h (bitF rows) h.length []).length : Nat) : Int))) = explains s h f := by
 cases hg : (isObject s && validHistory h) with
 | false => unfold explains; rw [by_no hg]; rfl
 | true => rw [by_val hg (e (by simp only [Bool.and_eq_true] at hg; exact hg.2))]; unfold explains; rfl
theorem quiet_rows (hv : validHistory h = true) : quietAhead h = rowsOf h.length (bitF (quietAhead h)) := by rw [quiet_eq hv]; exact rows_self
end
end Go.Ab
namespace Go.Ab
end Go.Ab
namespace Go.Ab
end Go.Ab

set_option linter.unusedSimpArgs false
set_option linter.unusedVariables false
namespace Go.Ab
def toUp {α : Type} (d : α) (h : List α) (i : Nat) : List α := h.take i ++ List.replicate (h.length - i) d
theorem toUp_len {α : Type} (d : α) (h : List α) {i : Nat} (hi : i ≤ h.length) : (toUp d h i).length = h.length := by
 unfold toUp; simp; omega
theorem toUp_zero {α : Type} (d : α) (h : List α) : List.replicate h.length d = toUp d h 0 := by unfold toUp; simp
theorem toUp_step {α : Type} {d : α} {h o : List α} {i : Nat} (ho : o = toUp d h i) (hi : i < h.length) : o.set i (h.getD i d) = toUp d h (i + 1) := by
 rw [ho]
 apply List.ext_getElem
 ·rw [List.length_set, toUp_len d h (by omega), toUp_len d h (by omega)]
 intro j h1 h2
 have hl : (h.take i).length = i := by rw [List.length_take]; omega
 rw [List.getElem_set]
 by_cases hj : i = j
 ·subst hj
  rw [if_pos rfl, List.getD_eq_getElem?_getD, List.getElem?_eq_getElem hi]
  have : (toUp d h (i + 1))[i] = (h.take (i + 1))[i]'(by rw [List.length_take]; omega) := List.getElem_append_left _
  rw [this, List.getElem_take]; rfl
 ·rw [if_neg hj]
  rw [List.length_set, toUp_len d h (by omega)] at h1
  by_cases hlt : j < i
  ·have e1 : (toUp d h i)[j]'(by rw [toUp_len d h (by omega)]; omega) = (h.take i)[j]'(by rw [List.length_take]; omega) := List.getElem_append_left _
   have e2 : (toUp d h (i + 1))[j] = (h.take (i + 1))[j]'(by rw [List.length_take]; omega) := List.getElem_append_left _
   rw [e1, e2, List.getElem_take, List.getElem_take]
  ·have e1 : (toUp d h i)[j]'(by rw [toUp_len d h (by omega)]; omega) = d := by
    have h3 : (h.take i).length ≤ j := by omega
    have h4 : j < (h.take i ++ List.replicate (h.length - i) d).length := by simp; omega
    have h5 : (h.take i ++ List.replicate (h.length - i) d)[j]'h4 = d := by rw [List.getElem_append_right h3, List.getElem_replicate]
    exact h5
   have e2 : (toUp d h (i + 1))[j] = d := by
    have h3 : (h.take (i + 1)).length ≤ j := by rw [List.length_take]; omega
    have h4 : j < (h.take (i + 1) ++ List.replicate (h.length - (i + 1)) d).length := h2
    have h5 : (h.take (i + 1) ++ List.replicate (h.length - (i + 1)) d)[j]'h4 = d := by rw [List.getElem_append_right h3, List.getElem_replicate]
    exact h5
   rw [e1, e2]
theorem toUp_all {α : Type} {d : α} {h o : List α} {i : Nat} (ho : o = toUp d h i) (hi : h.length ≤ i) : o = h := by
 rw [ho]; unfold toUp; rw [List.take_of_length_le hi, show h.length - i = 0 by omega]; simp
def szC (h : List CallD) (left : Int) : Int := bif decide (left - ((h.length : Nat) : Int) < 0) then -1 else left - ((h.length : Nat) : Int)
theorem sz_ok {h : List CallD} (hn : ¬ szC h 1048576 < 0) : h.length ≤ 1048576 := by
 unfold szC at hn
 cases hd : decide ((1048576 : Int) - ((h.length : Nat) : Int) < 0) with
 | true => rw [hd] at hn; simp at hn
 | false => have := of_decide_eq_false hd; omega
theorem calls_ext {a b : List CallD} (hl : a.length = b.length) (h : ∀ j, j < a.length → a.getD j default = b.getD j default) : a = b := by
 apply List.ext_getElem hl
 intro i h1 h2
 have := h i h1
 rw [List.getD_eq_getElem?_getD, List.getElem?_eq_getElem h1, List.getD_eq_getElem?_getD, List.getElem?_eq_getElem h2] at this
 exact this
theorem call_ext {a b : CallD} (h1 : a.proc = b.proc) (h2 : a.obj = b.obj) (h3 : a.kind = b.kind) (h4 : a.arg = b.arg) (h5 : a.ret = b.ret) (h6 : a.frm = b.frm) (h7 : a.to = b.to) : a = b := by
 cases a; cases b; simp_all
end Go.Ab

set_option linter.unusedSimpArgs false
set_option linter.unusedVariables false
namespace Go.Proofs.Try
open Go.Ab Go.RowKit
def fs7 : FnS := fnS [.s .calls,.o] [.calls,.int] (fun _ (h,left,_) => (.i (szC h left),[],(left = 1048576)))
abbrev T7 : Tab := lk []
theorem tab7 : TabOK prog T7 := TabOK.nil
set_option maxRecDepth 100000 in
set_option maxHeartbeats 1000000 in
theorem ok7 : FnOK prog 7 fs7 := by
 refine FnOK.mk cok func7 rfl rfl rfl ?_
 rintro fl ⟨(h : List CallD),(left : Int),_⟩ hpre F hnt0 _
 have hnt : F.nt = 12 := hnt0.trans ntmps7
 replace hpre : (left = 1048576) := hpre
 have hl := hpre
 refine W.to (⟨[(0,.sl (.calls h)),(1,.i left)],[],[999]⟩) rfl ?_
 refine W.lenOf 0 (.calls h) (by kernel_rfl) ?_
 intro hl_h; replace hl_h : List.length h ≤ 9223372036854775807 := hl_h
 refine W.K cok tab7 hnt [] [0,1] (⟨[(0,.sl (.calls h)),(1,.i left)],[],[999]⟩)
  (True ∧ True) (by kernel_rfl)
  ⟨tt,tt⟩ ?_
 refine W.K cok tab7 hnt [] [1] (⟨[(1,.i (left - (h.length : Int)))],[],[999]⟩)
  (True ∧ True ∧ True ∧ (True ∧ True ∧ (Fits .i64 (left - (h.length : Int)))) ∧ True ∧ True) (by kernel_rfl)
  ⟨tt,tt,tt,⟨tt,tt,(by exact fits_i64 (by omega) (by omega))⟩,tt,tt⟩ ?_
 refine W.seq ?_
 refine W.K cok tab7 hnt [] [1,10] (⟨[(1,.i (left - (h.length : Int))),(10,.b (decide ((left - (h.length : Int)) < (0 : Int))))],[],[999]⟩)
  (True ∧ (True ∧ True ∧ True) ∧ True) (by kernel_rfl)
  ⟨tt,⟨tt,tt,tt⟩,tt⟩ ?_
 refine W.ifP ((left - (h.length : Int)) < (0 : Int)) (.b (decide ((left - (h.length : Int)) < (0 : Int)))) (by kernel_rfl) rfl trivial ?_ ?_
 ·intro h10
  refine W.K cok tab7 hnt [] [4] (⟨[(4,.i (-1 : Int))],[],[999]⟩)
   (True ∧ True) (by kernel_rfl)
   ⟨tt,tt⟩ ?_
  refine W.ret (thenQ_ret ?_)
  exact endQ_ret (.i (-1 : Int)) (by kernel_rfl) (@cast ((.int .i64 (-1 : Int) : Value) = .int .i64 (szC h left)) _ (by kernel_rfl) (congrArg (Value.int .i64) (by unfold szC; rw [decide_eq_true h10]; rfl)))
 ·intro n10
  refine W.skip (thenQ_normal ?_)
  refine W.K cok tab7 hnt [] [4] (⟨[(4,.i (left - (h.length : Int)))],[],[999]⟩)
   (True ∧ True ∧ True) (by kernel_rfl)
   ⟨tt,tt,tt⟩ ?_
  refine W.ret ?_
  exact endQ_ret (.i (left - (h.length : Int))) (by kernel_rfl) (@cast ((.int .i64 (left - (h.length : Int)) : Value) = .int .i64 (szC h left)) _ (by kernel_rfl) (congrArg (Value.int .i64) (by unfold szC; rw [decide_eq_false n10]; rfl)))
theorem ent7 : Entr prog 7 := ⟨_,func7,rfl,by decide⟩
end Go.Proofs.Try

set_option linter.unusedSimpArgs false
set_option linter.unusedVariables false
namespace Go.Proofs.Try
open Go.Ab Go.RowKit
def fs24 : FnS := fnS [.o] [.call] (fun _ (a,_) => (.agg [.i a.proc,.i a.obj,.i a.kind,.i a.arg,.i a.ret,.i a.frm,.i a.to],[],True))
abbrev T24 : Tab := lk []
theorem tab24 : TabOK prog T24 := TabOK.nil
set_option maxRecDepth 100000 in
set_option maxHeartbeats 1000000 in
theorem ok24 : FnOK prog 24 fs24 := by
 refine FnOK.mk cok func24 rfl rfl rfl ?_
 rintro fl ⟨(a : CallD),_⟩ hpre F hnt0 _
 have hnt : F.nt = 26 := hnt0.trans ntmps24
 clear hpre
 refine W.to (⟨[(0,.agg [.i a.proc,.i a.obj,.i a.kind,.i a.arg,.i a.ret,.i a.frm,.i a.to])],[],[999]⟩) rfl ?_
 refine W.K cok tab24 hnt [] [1,2] (⟨[(1,.ptr 1 0),(2,.ptr 2 0)],[(1,⟨40,.fix [.i a.proc,.i a.obj,.i a.kind,.i a.arg,.i a.ret,.i a.frm,.i a.to]⟩),(2,⟨38,.fix [.i (0 : Int),.i (0 : Int),.i (0 : Int),.i (0 : Int),.i (0 : Int),.i (0 : Int),.i (0 : Int)]⟩)],[2,1,999]⟩)
  (True ∧ True ∧ True) (by kernel_rfl)
  ⟨tt,tt,tt⟩ ?_
 refine W.K cok tab24 hnt [] [1,2,3] (⟨[(1,.ptr 1 0),(2,.ptr 2 0),(3,.ptr 3 0)],[(1,⟨40,.fix [.i a.proc,.i a.obj,.i a.kind,.i a.arg,.i a.ret,.i a.frm,.i a.to]⟩),(2,⟨38,.fix [.i (0 : Int),.i (0 : Int),.i (0 : Int),.i (0 : Int),.i (0 : Int),.i (0 : Int),.i (0 : Int)]⟩),(3,⟨38,.fix [.i (0 : Int),.i (0 : Int),.i (0 : Int),.i (0 : Int),.i (0 : Int),.i (0 : Int),.i (0 : Int)]⟩)],[3,2,1,999]⟩)
  (True ∧ True) (by kernel_rfl)
  ⟨tt,tt⟩ ?_
 refine W.K cok tab24 hnt [] [1,2,3] (⟨[(1,.ptr 1 0),(2,.ptr 2 0),(3,.ptr 3 0)],[(1,⟨40,.fix [.i a.proc,.i a.obj,.i a.kind,.i a.arg,.i a.ret,.i a.frm,.i a.to]⟩),(2,⟨38,.fix [.i (0 : Int),.i (0 : Int),.i (0 : Int),.i (0 : Int),.i (0 : Int),.i (0 : Int),.i (0 : Int)]⟩),(3,⟨38,.fix [.i a.proc,.i (0 : Int),.i (0 : Int),.i (0 : Int),.i (0 : Int),.i (0 : Int),.i (0 : Int)]⟩)],[3,2,1,999]⟩)
  (True ∧ True ∧ True ∧ (True ∧ True) ∧ True) (by kernel_rfl)
  ⟨tt,tt,tt,⟨tt,tt⟩,tt⟩ ?_
 refine W.K cok tab24 hnt [] [1,2,3] (⟨[(1,.ptr 1 0),(2,.ptr 2 0),(3,.ptr 3 0)],[(1,⟨40,.fix [.i a.proc,.i a.obj,.i a.kind,.i a.arg,.i a.ret,.i a.frm,.i a.to]⟩),(2,⟨38,.fix [.i (0 : Int),.i (0 : Int),.i (0 : Int),.i (0 : Int),.i (0 : Int),.i (0 : Int),.i (0 : Int)]⟩),(3,⟨38,.fix [.i a.proc,.i a.obj,.i (0 : Int),.i (0 : Int),.i (0 : Int),.i (0 : Int),.i (0 : Int)]⟩)],[3,2,1,999]⟩)
  (True ∧ True ∧ True ∧ (True ∧ True) ∧ True) (by kernel_rfl)
  ⟨tt,tt,tt,⟨tt,tt⟩,tt⟩ ?_
 refine W.K cok tab24 hnt [] [1,2,3] (⟨[(1,.ptr 1 0),(2,.ptr 2 0),(3,.ptr 3 0)],[(1,⟨40,.fix [.i a.proc,.i a.obj,.i a.kind,.i a.arg,.i a.ret,.i a.frm,.i a.to]⟩),(2,⟨38,.fix [.i (0 : Int),.i (0 : Int),.i (0 : Int),.i (0 : Int),.i (0 : Int),.i (0 : Int),.i (0 : Int)]⟩),(3,⟨38,.fix [.i a.proc,.i a.obj,.i a.kind,.i (0 : Int),.i (0 : Int),.i (0 : Int),.i (0 : Int)]⟩)],[3,2,1,999]⟩)
  (True ∧ True ∧ True ∧ (True ∧ True) ∧ True) (by kernel_rfl)
  ⟨tt,tt,tt,⟨tt,tt⟩,tt⟩ ?_
 refine W.K cok tab24 hnt [] [1,2,3] (⟨[(1,.ptr 1 0),(2,.ptr 2 0),(3,.ptr 3 0)],[(1,⟨40,.fix [.i a.proc,.i a.obj,.i a.kind,.i a.arg,.i a.ret,.i a.frm,.i a.to]⟩),(2,⟨38,.fix [.i (0 : Int),.i (0 : Int),.i (0 : Int),.i (0 : Int),.i (0 : Int),.i (0 : Int),.i (0 : Int)]⟩),(3,⟨38,.fix [.i a.proc,.i a.obj,.i a.kind,.i a.arg,.i (0 : Int),.i (0 : Int),.i (0 : Int)]⟩)],[3,2,1,999]⟩)
  (True ∧ True ∧ True ∧ (True ∧ True) ∧ True) (by kernel_rfl)
  ⟨tt,tt,tt,⟨tt,tt⟩,tt⟩ ?_
 refine W.K cok tab24 hnt [] [1,2,3] (⟨[(1,.ptr 1 0),(2,.ptr 2 0),(3,.ptr 3 0)],[(1,⟨40,.fix [.i a.proc,.i a.obj,.i a.kind,.i a.arg,.i a.ret,.i a.frm,.i a.to]⟩),(2,⟨38,.fix [.i (0 : Int),.i (0 : Int),.i (0 : Int),.i (0 : Int),.i (0 : Int),.i (0 : Int),.i (0 : Int)]⟩),(3,⟨38,.fix [.i a.proc,.i a.obj,.i a.kind,.i a.arg,.i a.ret,.i (0 : Int),.i (0 : Int)]⟩)],[3,2,1,999]⟩)
  (True ∧ True ∧ True ∧ (True ∧ True) ∧ True) (by kernel_rfl)
  ⟨tt,tt,tt,⟨tt,tt⟩,tt⟩ ?_
 refine W.K cok tab24 hnt [] [1,2,3] (⟨[(1,.ptr 1 0),(2,.ptr 2 0),(3,.ptr 3 0)],[(1,⟨40,.fix [.i a.proc,.i a.obj,.i a.kind,.i a.arg,.i a.ret,.i a.frm,.i a.to]⟩),(2,⟨38,.fix [.i (0 : Int),.i (0 : Int),.i (0 : Int),.i (0 : Int),.i (0 : Int),.i (0 : Int),.i (0 : Int)]⟩),(3,⟨38,.fix [.i a.proc,.i a.obj,.i a.kind,.i a.arg,.i a.ret,.i a.frm,.i (0 : Int)]⟩)],[3,2,1,999]⟩)
  (True ∧ True ∧ True ∧ (True ∧ True) ∧ True) (by kernel_rfl)
  ⟨tt,tt,tt,⟨tt,tt⟩,tt⟩ ?_
 refine W.K cok tab24 hnt [] [2,3] (⟨[(2,.ptr 2 0),(3,.ptr 3 0)],[(1,⟨40,.fix [.i a.proc,.i a.obj,.i a.kind,.i a.arg,.i a.ret,.i a.frm,.i a.to]⟩),(2,⟨38,.fix [.i (0 : Int),.i (0 : Int),.i (0 : Int),.i (0 : Int),.i (0 : Int),.i (0 : Int),.i (0 : Int)]⟩),(3,⟨38,.fix [.i a.proc,.i a.obj,.i a.kind,.i a.arg,.i a.ret,.i a.frm,.i a.to]⟩)],[3,2,1,999]⟩)
  (True ∧ True ∧ True ∧ (True ∧ True) ∧ True) (by kernel_rfl)
  ⟨tt,tt,tt,⟨tt,tt⟩,tt⟩ ?_
 refine W.K cok tab24 hnt [] [2] (⟨[(2,.ptr 2 0)],[(1,⟨40,.fix [.i a.proc,.i a.obj,.i a.kind,.i a.arg,.i a.ret,.i a.frm,.i a.to]⟩),(2,⟨38,.fix [.i a.proc,.i a.obj,.i a.kind,.i a.arg,.i a.ret,.i a.frm,.i a.to]⟩),(3,⟨38,.fix [.i a.proc,.i a.obj,.i a.kind,.i a.arg,.i a.ret,.i a.frm,.i a.to]⟩)],[3,2,1,999]⟩)
  (True ∧ (True ∧ True) ∧ True) (by kernel_rfl)
  ⟨tt,⟨tt,tt⟩,tt⟩ ?_
 refine W.ret ?_
 exact endQ_ret (.agg [.i a.proc,.i a.obj,.i a.kind,.i a.arg,.i a.ret,.i a.frm,.i a.to]) (by kernel_rfl) (@cast (((.int .i64 a.proc : Value) = .int .i64 a.proc) ∧ (((.int .i64 a.obj : Value) = .int .i64 a.obj) ∧ (((.int .i64 a.kind : Value) = .int .i64 a.kind) ∧ (((.int .i64 a.arg : Value) = .int .i64 a.arg) ∧ (((.int .i64 a.ret : Value) = .int .i64 a.ret) ∧ (((.int .i64 a.frm : Value) = .int .i64 a.frm) ∧ (((.int .i64 a.to : Value) = .int .i64 a.to) ∧ True))))))) _ (by kernel_rfl) ⟨rfl,rfl,rfl,rfl,rfl,rfl,rfl,tt⟩)
theorem ent24 : Entr prog 24 := ⟨_,func24,rfl,by decide⟩
end Go.Proofs.Try

set_option linter.unusedSimpArgs false
set_option linter.unusedVariables false
namespace Go.Proofs.Try
open Go.Ab Go.RowKit
def fs9 : FnS := fnS [.s .calls] [.calls] (fun _ (h,_) => (.sl (.calls h),[],(h.length ≤ 1048576)))
abbrev T9 : Tab := lk [(24,fs24)]
theorem tab9 : TabOK prog T9 := (TabOK.cons ok24 ent24 TabOK.nil)
set_option maxRecDepth 100000 in
set_option maxHeartbeats 1000000 in
theorem ok9 : FnOK prog 9 fs9 := by
 refine FnOK.mk cok func9 rfl rfl rfl ?_
 rintro fl ⟨(h : List CallD),_⟩ hpre F hnt0 _
 have hnt : F.nt = 23 := hnt0.trans ntmps9
 replace hpre : (h.length ≤ 1048576) := hpre
 have hn := hpre
 refine W.to (⟨[(0,.sl (.calls h))],[],[999]⟩) rfl ?_
 refine W.lenOf 0 (.calls h) (by kernel_rfl) ?_
 intro hl_h; replace hl_h : List.length h ≤ 9223372036854775807 := hl_h
 refine W.K cok tab9 hnt [] [0] (⟨[(0,.sl (.calls h))],[],[999]⟩)
  (True ∧ True) (by kernel_rfl)
  ⟨tt,tt⟩ ?_
 refine W.K cok tab9 hnt [7] [0,3] (⟨[(0,.sl (.calls h)),(3,.own 7 (List.length (List.replicate h.length (⟨0,0,0,0,0,0,0⟩ : CallD))))],[(7,⟨38,.row (.calls (List.replicate h.length (⟨0,0,0,0,0,0,0⟩ : CallD)))⟩)],[7,999]⟩)
  (True ∧ True ∧ (True ∧ True ∧ ((h.length : Int) = (h.length : Int)) ∧ (0 ≤ (h.length : Int)) ∧ ((h.length : Int) * 56 ≤ 281474976710656)) ∧ True ∧ True) (by kernel_rfl)
  ⟨tt,tt,⟨tt,tt,rfl,(by omega),(by omega)⟩,tt,tt⟩ ?_
 refine W.seq ?_
 refine W.K cok tab9 hnt [] [0,3,4] (⟨[(0,.sl (.calls h)),(3,.own 7 (List.length (List.replicate h.length (⟨0,0,0,0,0,0,0⟩ : CallD)))),(4,.i (0 : Int))],[(7,⟨38,.row (.calls (List.replicate h.length (⟨0,0,0,0,0,0,0⟩ : CallD)))⟩)],[7,999]⟩)
  (True ∧ True) (by kernel_rfl)
  ⟨tt,tt⟩ ?_
 refine W.block ?_
 refine W.loop (ι := Nat × (List CallD)) (fun (x : Nat × (List CallD)) => match x with | (i,o) => (⟨[(0,.sl (.calls h)),(3,.own 7 o.length),(4,.i ((i : Nat) : Int))],[(7,⟨38,.row (.calls o)⟩)],[7,999]⟩ : St))
  (fun (x : Nat × (List CallD)) => match x with | (i,o) => (i ≤ h.length) ∧ (o = toUp default h i))
  (fun (x : Nat × (List CallD)) => match x with | (i,o) => (h.length - i : Nat)) (0,(List.replicate h.length (⟨0,0,0,0,0,0,0⟩ : CallD))) ?_ ?_ ?_
 ·exact (show (0 ≤ h.length) ∧ ((List.replicate h.length (⟨0,0,0,0,0,0,0⟩ : CallD)) = toUp default h 0) from ⟨(by first | assumption | omega | rfl | (intro _ hjj; omega) | (simp; done) | (simp; omega)),(by exact toUp_zero _ _)⟩)
 ·exact Sub.of [] (@cast ((((.calls h : Dat) = .calls h) ∧ ((((7 : Nat) = 7) ∧ (((List.length (List.replicate h.length (⟨0,0,0,0,0,0,0⟩ : CallD))) = (List.length (List.replicate h.length (⟨0,0,0,0,0,0,0⟩ : CallD)))) ∧ ((7 : Nat) ∈ ([7,999] : List Nat)))) ∧ (((.int .i64 (0 : Int) : Value) = .int .i64 ((0 : Nat) : Int)) ∧ True))) ∧ (((((38 : Nat) = 38) ∧ (((.calls (List.replicate h.length (⟨0,0,0,0,0,0,0⟩ : CallD)) : Dat) = .calls (List.replicate h.length (⟨0,0,0,0,0,0,0⟩ : CallD))) ∧ ((7 : Nat) ∈ ([7,999] : List Nat)))) ∧ True) ∧ ((true = true) ∧ (true = true)))) _ (by kernel_rfl) ⟨⟨rfl,⟨rfl,rfl,(by decide)⟩,(congrArg (Value.int .i64) (by first | rfl | omega | assumption | simp | simp_all)),tt⟩,⟨⟨rfl,rfl,(by decide)⟩,tt⟩,rfl,rfl⟩)
 ·rintro ⟨i,o⟩ hC0
  have hC : (i ≤ h.length) ∧ (o = toUp default h i) := hC0
  clear hC0
  obtain ⟨hi,ho⟩ := hC
  refine W.to (⟨[(0,.sl (.calls h)),(3,.own 7 o.length),(4,.i ((i : Nat) : Int))],[(7,⟨38,.row (.calls o)⟩)],[7,999]⟩) rfl ?_
  have hol : o.length = h.length := by rw [ho]; exact toUp_len _ _ hi
  refine W.seq ?_
  refine W.K cok tab9 hnt [] [0,3,4,11] (⟨[(0,.sl (.calls h)),(3,.own 7 o.length),(4,.i ((i : Nat) : Int)),(11,.b (decide (((i : Nat) : Int) < (h.length : Int))))],[(7,⟨38,.row (.calls o)⟩)],[7,999]⟩)
   (True ∧ True ∧ True ∧ (True ∧ True ∧ True) ∧ True) (by kernel_rfl)
   ⟨tt,tt,tt,⟨tt,tt,tt⟩,tt⟩ ?_
  refine W.ifP (((i : Nat) : Int) < (h.length : Int)) (.b (decide (((i : Nat) : Int) < (h.length : Int)))) (by kernel_rfl) rfl trivial ?_ ?_
  ·intro h11
   refine W.skip (thenQ_normal ?_)
   refine W.seq ?_
   refine W.block ?_
   refine W.L cok tab9 hnt [] (⟨[(0,.sl (.calls h)),(3,.own 7 o.length),(4,.i ((i : Nat) : Int)),(11,.b (decide (((i : Nat) : Int) < (h.length : Int)))),(14,.own 7 o.length),(15,.i ((i : Nat) : Int)),(16,.sl (.calls h)),(17,.i ((i : Nat) : Int)),(18,.ep [.i ((h.getD i default).proc),.i ((h.getD i default).obj),.i ((h.getD i default).kind),.i ((h.getD i default).arg),.i ((h.getD i default).ret),.i ((h.getD i default).frm),.i ((h.getD i default).to)]),(19,.agg [.i ((h.getD i default).proc),.i ((h.getD i default).obj),.i ((h.getD i default).kind),.i ((h.getD i default).arg),.i ((h.getD i default).ret),.i ((h.getD i default).frm),.i ((h.getD i default).to)]),(20,.agg [.i ((h.getD i default).proc),.i ((h.getD i default).obj),.i ((h.getD i default).kind),.i ((h.getD i default).arg),.i ((h.getD i default).ret),.i ((h.getD i default).frm),.i ((h.getD i default).to)]),(21,.pel 7 7 i 0)],[(7,⟨38,.row (.calls (List.set o i (h.getD i default)))⟩)],[7,999]⟩)
    (True ∧ True ∧ True ∧ True ∧ (True ∧ True ∧ (0 ≤ ((i : Nat) : Int)) ∧ (((i : Nat) : Int) < (h.length : Int))) ∧ True ∧ (True ∧ (True ∧ True) ∧ True) ∧ (True ∧ True ∧ (0 ≤ ((i : Nat) : Int)) ∧ (((i : Nat) : Int) < (o.length : Int))) ∧ (True ∧ True ∧ (i < o.length)) ∧ True) (by kernel_rfl)
    ⟨tt,tt,tt,tt,⟨tt,tt,(by omega),(by omega)⟩,tt,⟨tt,⟨tt,tt⟩,tt⟩,⟨tt,tt,(by omega),(by omega)⟩,⟨tt,tt,(by omega)⟩,tt⟩ ?_
   refine blockQ_normal (thenQ_normal ?_)
   refine W.L cok tab9 hnt [] (⟨[(0,.sl (.calls h)),(3,.own 7 o.length),(4,.i (((i + 1) : Nat) : Int)),(11,.b (decide (((i : Nat) : Int) < (h.length : Int)))),(12,.i ((i : Nat) : Int)),(13,.i (((i + 1) : Nat) : Int)),(14,.own 7 o.length),(15,.i ((i : Nat) : Int)),(16,.sl (.calls h)),(17,.i ((i : Nat) : Int)),(18,.ep [.i ((h.getD i default).proc),.i ((h.getD i default).obj),.i ((h.getD i default).kind),.i ((h.getD i default).arg),.i ((h.getD i default).ret),.i ((h.getD i default).frm),.i ((h.getD i default).to)]),(19,.agg [.i ((h.getD i default).proc),.i ((h.getD i default).obj),.i ((h.getD i default).kind),.i ((h.getD i default).arg),.i ((h.getD i default).ret),.i ((h.getD i default).frm),.i ((h.getD i default).to)]),(20,.agg [.i ((h.getD i default).proc),.i ((h.getD i default).obj),.i ((h.getD i default).kind),.i ((h.getD i default).arg),.i ((h.getD i default).ret),.i ((h.getD i default).frm),.i ((h.getD i default).to)]),(21,.pel 7 7 i 0)],[(7,⟨38,.row (.calls (List.set o i (h.getD i default)))⟩)],[7,999]⟩)
    (True ∧ (True ∧ True ∧ (Fits .i64 (((i + 1) : Nat) : Int))) ∧ True ∧ True) (by kernel_rfl)
    ⟨tt,⟨tt,tt,(by exact fits_i64 (by omega) (by omega))⟩,tt,tt⟩ ?_
   refine thenQ_normal ?_
   refine ⟨((i + 1),(List.set o i (h.getD i default))),(show ((i + 1) ≤ h.length) ∧ ((List.set o i (h.getD i default)) = toUp default h (i + 1)) from ⟨(by first | assumption | omega | rfl | (intro _ hjj; omega) | (simp; done) | (simp; omega)),(by exact toUp_step ho (by omega))⟩),(show h.length - (i + 1) < h.length - i from (by first | omega | (simp_all; omega))),?_⟩
   exact Sub.of [] (@cast ((((.calls h : Dat) = .calls h) ∧ ((((7 : Nat) = 7) ∧ ((o.length = (List.length (List.set o i (h.getD i default)))) ∧ ((7 : Nat) ∈ ([7,999] : List Nat)))) ∧ (((.int .i64 (((i + 1) : Nat) : Int) : Value) = .int .i64 (((i + 1) : Nat) : Int)) ∧ True))) ∧ (((((38 : Nat) = 38) ∧ (((.calls (List.set o i (h.getD i default)) : Dat) = .calls (List.set o i (h.getD i default))) ∧ ((7 : Nat) ∈ ([7,999] : List Nat)))) ∧ True) ∧ ((true = true) ∧ (true = true)))) _ (by kernel_rfl) ⟨⟨rfl,⟨rfl,(by first | rfl | omega | assumption | (symm; assumption) | simp | simp_all),(by decide)⟩,rfl,tt⟩,⟨⟨rfl,rfl,(by decide)⟩,tt⟩,rfl,rfl⟩)
  ·intro n11
   refine W.exit (thenQ_exit (thenQ_exit (blockQ_hit ?_)))
   refine thenQ_normal ?_
   refine W.K cok tab9 hnt [] [2] (⟨[(2,.own 7 o.length)],[(7,⟨38,.row (.calls o)⟩)],[7,999]⟩)
    (True ∧ True ∧ True) (by kernel_rfl)
    ⟨tt,tt,tt⟩ ?_
   refine W.ret ?_
   exact endQ_ret (.own 7 o.length) (by kernel_rfl) (@cast ((o.length = o.length) ∧ (((.calls o : Dat) = .calls h) ∧ ((7 : Nat) ∉ ([] : List Nat)))) _ (by kernel_rfl) ⟨rfl,⟨(congrArg Dat.calls (by exact toUp_all ho (by omega))),(by decide)⟩⟩)
theorem ent9 : Entr prog 9 := ⟨_,func9,rfl,by decide⟩
end Go.Proofs.Try

set_option linter.unusedSimpArgs false
set_option linter.unusedVariables false
namespace Go.Proofs.Try
open Go.Ab Go.RowKit
def fs20 : FnS := fnS [.o] [.str] (fun _ (s,_) => (.b (isObject s),[],True))
abbrev T20 : Tab := lk []
theorem tab20 : TabOK prog T20 := TabOK.nil
set_option maxRecDepth 100000 in
set_option maxHeartbeats 1000000 in
theorem ok20 : FnOK prog 20 fs20 := by
 refine FnOK.mk cok func20 rfl rfl rfl ?_
 rintro fl ⟨(s : ByteArray),_⟩ hpre F hnt0 _
 have hnt : F.nt = 25 := hnt0.trans ntmps20
 clear hpre
 refine W.to (⟨[(0,.v (.string s))],[],[999]⟩) rfl ?_
 refine W.K cok tab20 hnt [] [0] (⟨[(0,.v (.string s))],[],[999]⟩)
  (True ∧ True) (by kernel_rfl)
  ⟨tt,tt⟩ ?_
 refine W.K cok tab20 hnt [] [2] (⟨[(2,.b ((((((eqS s nRegister) || (eqS s nQueue)) || (eqS s nStack)) || (eqS s nCounter)) || (eqS s nSet)) || (eqS s nMost)))],[],[999]⟩)
  (True ∧ (True ∧ True ∧ True) ∧ True ∧ ((!(eqS s nRegister)) = true → True) ∧ ((!(eqS s nRegister)) = true → ((((!(eqS s nRegister)) = true) ∧ True) ∧ True ∧ True)) ∧ (True ∧ ((eqS s nRegister) = true → True) ∧ ((eqS s nRegister) = false → ((!(eqS s nRegister)) = true) ∧ True)) ∧ True ∧ ((!((eqS s nRegister) || (eqS s nQueue))) = true → True) ∧ ((!((eqS s nRegister) || (eqS s nQueue))) = true → ((((!((eqS s nRegister) || (eqS s nQueue))) = true) ∧ True) ∧ True ∧ True)) ∧ (True ∧ (((eqS s nRegister) || (eqS s nQueue)) = true → True) ∧ (((eqS s nRegister) || (eqS s nQueue)) = false → ((!((eqS s nRegister) || (eqS s nQueue))) = true) ∧ True)) ∧ True ∧ ((!(((eqS s nRegister) || (eqS s nQueue)) || (eqS s nStack))) = true → True) ∧ ((!(((eqS s nRegister) || (eqS s nQueue)) || (eqS s nStack))) = true → ((((!(((eqS s nRegister) || (eqS s nQueue)) || (eqS s nStack))) = true) ∧ True) ∧ True ∧ True)) ∧ (True ∧ ((((eqS s nRegister) || (eqS s nQueue)) || (eqS s nStack)) = true → True) ∧ ((((eqS s nRegister) || (eqS s nQueue)) || (eqS s nStack)) = false → ((!(((eqS s nRegister) || (eqS s nQueue)) || (eqS s nStack))) = true) ∧ True)) ∧ True ∧ ((!((((eqS s nRegister) || (eqS s nQueue)) || (eqS s nStack)) || (eqS s nCounter))) = true → True) ∧ ((!((((eqS s nRegister) || (eqS s nQueue)) || (eqS s nStack)) || (eqS s nCounter))) = true → ((((!((((eqS s nRegister) || (eqS s nQueue)) || (eqS s nStack)) || (eqS s nCounter))) = true) ∧ True) ∧ True ∧ True)) ∧ (True ∧ (((((eqS s nRegister) || (eqS s nQueue)) || (eqS s nStack)) || (eqS s nCounter)) = true → True) ∧ (((((eqS s nRegister) || (eqS s nQueue)) || (eqS s nStack)) || (eqS s nCounter)) = false → ((!((((eqS s nRegister) || (eqS s nQueue)) || (eqS s nStack)) || (eqS s nCounter))) = true) ∧ True)) ∧ True ∧ ((!(((((eqS s nRegister) || (eqS s nQueue)) || (eqS s nStack)) || (eqS s nCounter)) || (eqS s nSet))) = true → True) ∧ ((!(((((eqS s nRegister) || (eqS s nQueue)) || (eqS s nStack)) || (eqS s nCounter)) || (eqS s nSet))) = true → ((((!(((((eqS s nRegister) || (eqS s nQueue)) || (eqS s nStack)) || (eqS s nCounter)) || (eqS s nSet))) = true) ∧ True) ∧ True ∧ True)) ∧ (True ∧ ((((((eqS s nRegister) || (eqS s nQueue)) || (eqS s nStack)) || (eqS s nCounter)) || (eqS s nSet)) = true → True) ∧ ((((((eqS s nRegister) || (eqS s nQueue)) || (eqS s nStack)) || (eqS s nCounter)) || (eqS s nSet)) = false → ((!(((((eqS s nRegister) || (eqS s nQueue)) || (eqS s nStack)) || (eqS s nCounter)) || (eqS s nSet))) = true) ∧ True)) ∧ True ∧ True) (by kernel_rfl)
  ⟨tt,⟨tt,tt,tt⟩,tt,(fun _ => trivial),(fun hG => ⟨⟨hG,tt⟩,tt,tt⟩),⟨tt,(fun _ => trivial),(fun hp => ⟨(not_t hp),tt⟩)⟩,tt,(fun _ => trivial),(fun hG => ⟨⟨hG,tt⟩,tt,tt⟩),⟨tt,(fun _ => trivial),(fun hp => ⟨(not_t hp),tt⟩)⟩,tt,(fun _ => trivial),(fun hG => ⟨⟨hG,tt⟩,tt,tt⟩),⟨tt,(fun _ => trivial),(fun hp => ⟨(not_t hp),tt⟩)⟩,tt,(fun _ => trivial),(fun hG => ⟨⟨hG,tt⟩,tt,tt⟩),⟨tt,(fun _ => trivial),(fun hp => ⟨(not_t hp),tt⟩)⟩,tt,(fun _ => trivial),(fun hG => ⟨⟨hG,tt⟩,tt,tt⟩),⟨tt,(fun _ => trivial),(fun hp => ⟨(not_t hp),tt⟩)⟩,tt,tt⟩ ?_
 refine W.ret ?_
 exact endQ_ret (.b ((((((eqS s nRegister) || (eqS s nQueue)) || (eqS s nStack)) || (eqS s nCounter)) || (eqS s nSet)) || (eqS s nMost))) (by kernel_rfl) (@cast ((.bool ((((((eqS s nRegister) || (eqS s nQueue)) || (eqS s nStack)) || (eqS s nCounter)) || (eqS s nSet)) || (eqS s nMost)) : Value) = .bool (isObject s)) _ (by kernel_rfl) (congrArg Value.bool (by first | rfl | simp_all)))
theorem ent20 : Entr prog 20 := ⟨_,func20,rfl,by decide⟩
end Go.Proofs.Try

set_option linter.unusedSimpArgs false
set_option linter.unusedVariables false
namespace Go.Proofs.Try
open Go.Ab Go.RowKit
def fs40 : FnS := fnS [.o,.o,.o] [.int,.int,.int] (fun _ (n,low,high,_) => (.b (within n low high),[],True))
abbrev T40 : Tab := lk []
theorem tab40 : TabOK prog T40 := TabOK.nil
set_option maxRecDepth 100000 in
set_option maxHeartbeats 1000000 in
theorem ok40 : FnOK prog 40 fs40 := by
 refine FnOK.mk cok func40 rfl rfl rfl ?_
 rintro fl ⟨(n : Int),(low : Int),(high : Int),_⟩ hpre F hnt0 _
 have hnt : F.nt = 15 := hnt0.trans ntmps40
 clear hpre
 refine W.to (⟨[(0,.i n),(1,.i low),(2,.i high)],[],[999]⟩) rfl ?_
 refine W.K cok tab40 hnt [] [0,1,2] (⟨[(0,.i n),(1,.i low),(2,.i high)],[],[999]⟩)
  (True ∧ True) (by kernel_rfl)
  ⟨tt,tt⟩ ?_
 refine W.K cok tab40 hnt [] [6] (⟨[(6,.b ((decide (low ≤ n)) && (decide (n ≤ high))))],[],[999]⟩)
  (True ∧ True ∧ (True ∧ True ∧ True) ∧ True ∧ ((decide (low ≤ n)) = true → True) ∧ ((decide (low ≤ n)) = true → True) ∧ ((decide (low ≤ n)) = true → ((((decide (low ≤ n)) = true) ∧ True) ∧ (((decide (low ≤ n)) = true) ∧ True) ∧ True)) ∧ (True ∧ ((decide (low ≤ n)) = true → ((decide (low ≤ n)) = true) ∧ True) ∧ ((decide (low ≤ n)) = false → True)) ∧ True ∧ True) (by kernel_rfl)
  ⟨tt,tt,⟨tt,tt,tt⟩,tt,(fun _ => trivial),(fun _ => trivial),(fun hG => ⟨⟨hG,tt⟩,⟨hG,tt⟩,tt⟩),⟨tt,(fun hp => ⟨hp,tt⟩),(fun _ => trivial)⟩,tt,tt⟩ ?_
 refine W.ret ?_
 exact endQ_ret (.b ((decide (low ≤ n)) && (decide (n ≤ high)))) (by kernel_rfl) (@cast ((.bool ((decide (low ≤ n)) && (decide (n ≤ high))) : Value) = .bool (within n low high)) _ (by kernel_rfl) (congrArg Value.bool (by first | rfl | simp_all)))
theorem ent40 : Entr prog 40 := ⟨_,func40,rfl,by decide⟩
end Go.Proofs.Try

set_option linter.unusedSimpArgs false
set_option linter.unusedVariables false
namespace Go.Proofs.Try
open Go.Ab Go.RowKit
def fs39 : FnS := fnS [.o] [.call] (fun _ (c,_) => (.b (isCall c),[],True))
abbrev T39 : Tab := lk [(40,fs40)]
theorem tab39 : TabOK prog T39 := (TabOK.cons ok40 ent40 TabOK.nil)
set_option maxRecDepth 100000 in
set_option maxHeartbeats 1000000 in
theorem ok39 : FnOK prog 39 fs39 := by
 refine FnOK.mk cok func39 rfl rfl rfl ?_
 rintro fl ⟨(c : CallD),_⟩ hpre F hnt0 _
 have hnt : F.nt = 39 := hnt0.trans ntmps39
 clear hpre
 refine W.to (⟨[(0,.agg [.i c.proc,.i c.obj,.i c.kind,.i c.arg,.i c.ret,.i c.frm,.i c.to])],[],[999]⟩) rfl ?_
 refine W.K cok tab39 hnt [] [1] (⟨[(1,.ptr 1 0)],[(1,⟨38,.fix [.i c.proc,.i c.obj,.i c.kind,.i c.arg,.i c.ret,.i c.frm,.i c.to]⟩)],[1,999]⟩)
  (True ∧ True ∧ True) (by kernel_rfl)
  ⟨tt,tt,tt⟩ ?_
 refine W.K cok tab39 hnt [] [2] (⟨[(2,.b (((((((within c.proc (0 : Int) (2 : Int)) && (within c.obj (0 : Int) (1 : Int))) && (within c.kind (0 : Int) (2 : Int))) && (within c.arg (0 : Int) (3 : Int))) && (within c.ret (-1 : Int) (20 : Int))) && (within c.frm (0 : Int) (30 : Int))) && (within c.to (c.frm + (1 : Int)) (30 : Int))))],[(1,⟨38,.fix [.i c.proc,.i c.obj,.i c.kind,.i c.arg,.i c.ret,.i c.frm,.i c.to]⟩)],[1,999]⟩)
  (True ∧ True ∧ (True ∧ (True ∧ True ∧ True ∧ True) ∧ True) ∧ True ∧ ((within c.proc (0 : Int) (2 : Int)) = true → True) ∧ ((within c.proc (0 : Int) (2 : Int)) = true → (((within c.proc (0 : Int) (2 : Int)) = true) ∧ True)) ∧ ((within c.proc (0 : Int) (2 : Int)) = true → (True ∧ ((((within c.proc (0 : Int) (2 : Int)) = true) ∧ True) ∧ True ∧ True ∧ True) ∧ True)) ∧ (True ∧ ((within c.proc (0 : Int) (2 : Int)) = true → ((within c.proc (0 : Int) (2 : Int)) = true) ∧ True) ∧ ((within c.proc (0 : Int) (2 : Int)) = false → True)) ∧ True ∧ (((within c.proc (0 : Int) (2 : Int)) && (within c.obj (0 : Int) (1 : Int))) = true → True) ∧ (((within c.proc (0 : Int) (2 : Int)) && (within c.obj (0 : Int) (1 : Int))) = true → ((((within c.proc (0 : Int) (2 : Int)) && (within c.obj (0 : Int) (1 : Int))) = true) ∧ True)) ∧ (((within c.proc (0 : Int) (2 : Int)) && (within c.obj (0 : Int) (1 : Int))) = true → (True ∧ (((((within c.proc (0 : Int) (2 : Int)) && (within c.obj (0 : Int) (1 : Int))) = true) ∧ True) ∧ True ∧ True ∧ True) ∧ True)) ∧ (True ∧ (((within c.proc (0 : Int) (2 : Int)) && (within c.obj (0 : Int) (1 : Int))) = true → (((within c.proc (0 : Int) (2 : Int)) && (within c.obj (0 : Int) (1 : Int))) = true) ∧ True) ∧ (((within c.proc (0 : Int) (2 : Int)) && (within c.obj (0 : Int) (1 : Int))) = false → True)) ∧ True ∧ ((((within c.proc (0 : Int) (2 : Int)) && (within c.obj (0 : Int) (1 : Int))) && (within c.kind (0 : Int) (2 : Int))) = true → True) ∧ ((((within c.proc (0 : Int) (2 : Int)) && (within c.obj (0 : Int) (1 : Int))) && (within c.kind (0 : Int) (2 : Int))) = true → (((((within c.proc (0 : Int) (2 : Int)) && (within c.obj (0 : Int) (1 : Int))) && (within c.kind (0 : Int) (2 : Int))) = true) ∧ True)) ∧ ((((within c.proc (0 : Int) (2 : Int)) && (within c.obj (0 : Int) (1 : Int))) && (within c.kind (0 : Int) (2 : Int))) = true → (True ∧ ((((((within c.proc (0 : Int) (2 : Int)) && (within c.obj (0 : Int) (1 : Int))) && (within c.kind (0 : Int) (2 : Int))) = true) ∧ True) ∧ True ∧ True ∧ True) ∧ True)) ∧ (True ∧ ((((within c.proc (0 : Int) (2 : Int)) && (within c.obj (0 : Int) (1 : Int))) && (within c.kind (0 : Int) (2 : Int))) = true → ((((within c.proc (0 : Int) (2 : Int)) && (within c.obj (0 : Int) (1 : Int))) && (within c.kind (0 : Int) (2 : Int))) = true) ∧ True) ∧ ((((within c.proc (0 : Int) (2 : Int)) && (within c.obj (0 : Int) (1 : Int))) && (within c.kind (0 : Int) (2 : Int))) = false → True)) ∧ True ∧ (((((within c.proc (0 : Int) (2 : Int)) && (within c.obj (0 : Int) (1 : Int))) && (within c.kind (0 : Int) (2 : Int))) && (within c.arg (0 : Int) (3 : Int))) = true → True) ∧ (((((within c.proc (0 : Int) (2 : Int)) && (within c.obj (0 : Int) (1 : Int))) && (within c.kind (0 : Int) (2 : Int))) && (within c.arg (0 : Int) (3 : Int))) = true → ((((((within c.proc (0 : Int) (2 : Int)) && (within c.obj (0 : Int) (1 : Int))) && (within c.kind (0 : Int) (2 : Int))) && (within c.arg (0 : Int) (3 : Int))) = true) ∧ True)) ∧ (((((within c.proc (0 : Int) (2 : Int)) && (within c.obj (0 : Int) (1 : Int))) && (within c.kind (0 : Int) (2 : Int))) && (within c.arg (0 : Int) (3 : Int))) = true → (True ∧ (((((((within c.proc (0 : Int) (2 : Int)) && (within c.obj (0 : Int) (1 : Int))) && (within c.kind (0 : Int) (2 : Int))) && (within c.arg (0 : Int) (3 : Int))) = true) ∧ True) ∧ True ∧ True ∧ True) ∧ True)) ∧ (True ∧ (((((within c.proc (0 : Int) (2 : Int)) && (within c.obj (0 : Int) (1 : Int))) && (within c.kind (0 : Int) (2 : Int))) && (within c.arg (0 : Int) (3 : Int))) = true → (((((within c.proc (0 : Int) (2 : Int)) && (within c.obj (0 : Int) (1 : Int))) && (within c.kind (0 : Int) (2 : Int))) && (within c.arg (0 : Int) (3 : Int))) = true) ∧ True) ∧ (((((within c.proc (0 : Int) (2 : Int)) && (within c.obj (0 : Int) (1 : Int))) && (within c.kind (0 : Int) (2 : Int))) && (within c.arg (0 : Int) (3 : Int))) = false → True)) ∧ True ∧ ((((((within c.proc (0 : Int) (2 : Int)) && (within c.obj (0 : Int) (1 : Int))) && (within c.kind (0 : Int) (2 : Int))) && (within c.arg (0 : Int) (3 : Int))) && (within c.ret (-1 : Int) (20 : Int))) = true → True) ∧ ((((((within c.proc (0 : Int) (2 : Int)) && (within c.obj (0 : Int) (1 : Int))) && (within c.kind (0 : Int) (2 : Int))) && (within c.arg (0 : Int) (3 : Int))) && (within c.ret (-1 : Int) (20 : Int))) = true → (((((((within c.proc (0 : Int) (2 : Int)) && (within c.obj (0 : Int) (1 : Int))) && (within c.kind (0 : Int) (2 : Int))) && (within c.arg (0 : Int) (3 : Int))) && (within c.ret (-1 : Int) (20 : Int))) = true) ∧ True)) ∧ ((((((within c.proc (0 : Int) (2 : Int)) && (within c.obj (0 : Int) (1 : Int))) && (within c.kind (0 : Int) (2 : Int))) && (within c.arg (0 : Int) (3 : Int))) && (within c.ret (-1 : Int) (20 : Int))) = true → (True ∧ ((((((((within c.proc (0 : Int) (2 : Int)) && (within c.obj (0 : Int) (1 : Int))) && (within c.kind (0 : Int) (2 : Int))) && (within c.arg (0 : Int) (3 : Int))) && (within c.ret (-1 : Int) (20 : Int))) = true) ∧ True) ∧ True ∧ True ∧ True) ∧ True)) ∧ (True ∧ ((((((within c.proc (0 : Int) (2 : Int)) && (within c.obj (0 : Int) (1 : Int))) && (within c.kind (0 : Int) (2 : Int))) && (within c.arg (0 : Int) (3 : Int))) && (within c.ret (-1 : Int) (20 : Int))) = true → ((((((within c.proc (0 : Int) (2 : Int)) && (within c.obj (0 : Int) (1 : Int))) && (within c.kind (0 : Int) (2 : Int))) && (within c.arg (0 : Int) (3 : Int))) && (within c.ret (-1 : Int) (20 : Int))) = true) ∧ True) ∧ ((((((within c.proc (0 : Int) (2 : Int)) && (within c.obj (0 : Int) (1 : Int))) && (within c.kind (0 : Int) (2 : Int))) && (within c.arg (0 : Int) (3 : Int))) && (within c.ret (-1 : Int) (20 : Int))) = false → True)) ∧ True ∧ (((((((within c.proc (0 : Int) (2 : Int)) && (within c.obj (0 : Int) (1 : Int))) && (within c.kind (0 : Int) (2 : Int))) && (within c.arg (0 : Int) (3 : Int))) && (within c.ret (-1 : Int) (20 : Int))) && (within c.frm (0 : Int) (30 : Int))) = true → True) ∧ (((((((within c.proc (0 : Int) (2 : Int)) && (within c.obj (0 : Int) (1 : Int))) && (within c.kind (0 : Int) (2 : Int))) && (within c.arg (0 : Int) (3 : Int))) && (within c.ret (-1 : Int) (20 : Int))) && (within c.frm (0 : Int) (30 : Int))) = true → ((((((((within c.proc (0 : Int) (2 : Int)) && (within c.obj (0 : Int) (1 : Int))) && (within c.kind (0 : Int) (2 : Int))) && (within c.arg (0 : Int) (3 : Int))) && (within c.ret (-1 : Int) (20 : Int))) && (within c.frm (0 : Int) (30 : Int))) = true) ∧ True)) ∧ (((((((within c.proc (0 : Int) (2 : Int)) && (within c.obj (0 : Int) (1 : Int))) && (within c.kind (0 : Int) (2 : Int))) && (within c.arg (0 : Int) (3 : Int))) && (within c.ret (-1 : Int) (20 : Int))) && (within c.frm (0 : Int) (30 : Int))) = true → True) ∧ (((((((within c.proc (0 : Int) (2 : Int)) && (within c.obj (0 : Int) (1 : Int))) && (within c.kind (0 : Int) (2 : Int))) && (within c.arg (0 : Int) (3 : Int))) && (within c.ret (-1 : Int) (20 : Int))) && (within c.frm (0 : Int) (30 : Int))) = true → ((((((((within c.proc (0 : Int) (2 : Int)) && (within c.obj (0 : Int) (1 : Int))) && (within c.kind (0 : Int) (2 : Int))) && (within c.arg (0 : Int) (3 : Int))) && (within c.ret (-1 : Int) (20 : Int))) && (within c.frm (0 : Int) (30 : Int))) = true) ∧ True)) ∧ (((((((within c.proc (0 : Int) (2 : Int)) && (within c.obj (0 : Int) (1 : Int))) && (within c.kind (0 : Int) (2 : Int))) && (within c.arg (0 : Int) (3 : Int))) && (within c.ret (-1 : Int) (20 : Int))) && (within c.frm (0 : Int) (30 : Int))) = true → (((((((((within c.proc (0 : Int) (2 : Int)) && (within c.obj (0 : Int) (1 : Int))) && (within c.kind (0 : Int) (2 : Int))) && (within c.arg (0 : Int) (3 : Int))) && (within c.ret (-1 : Int) (20 : Int))) && (within c.frm (0 : Int) (30 : Int))) = true) ∧ True) ∧ True ∧ (Fits .i64 (c.frm + (1 : Int))))) ∧ (((((((within c.proc (0 : Int) (2 : Int)) && (within c.obj (0 : Int) (1 : Int))) && (within c.kind (0 : Int) (2 : Int))) && (within c.arg (0 : Int) (3 : Int))) && (within c.ret (-1 : Int) (20 : Int))) && (within c.frm (0 : Int) (30 : Int))) = true → (True ∧ (((((((((within c.proc (0 : Int) (2 : Int)) && (within c.obj (0 : Int) (1 : Int))) && (within c.kind (0 : Int) (2 : Int))) && (within c.arg (0 : Int) (3 : Int))) && (within c.ret (-1 : Int) (20 : Int))) && (within c.frm (0 : Int) (30 : Int))) = true) ∧ True) ∧ ((((((((within c.proc (0 : Int) (2 : Int)) && (within c.obj (0 : Int) (1 : Int))) && (within c.kind (0 : Int) (2 : Int))) && (within c.arg (0 : Int) (3 : Int))) && (within c.ret (-1 : Int) (20 : Int))) && (within c.frm (0 : Int) (30 : Int))) = true) ∧ True) ∧ True ∧ True) ∧ True)) ∧ (True ∧ (((((((within c.proc (0 : Int) (2 : Int)) && (within c.obj (0 : Int) (1 : Int))) && (within c.kind (0 : Int) (2 : Int))) && (within c.arg (0 : Int) (3 : Int))) && (within c.ret (-1 : Int) (20 : Int))) && (within c.frm (0 : Int) (30 : Int))) = true → (((((((within c.proc (0 : Int) (2 : Int)) && (within c.obj (0 : Int) (1 : Int))) && (within c.kind (0 : Int) (2 : Int))) && (within c.arg (0 : Int) (3 : Int))) && (within c.ret (-1 : Int) (20 : Int))) && (within c.frm (0 : Int) (30 : Int))) = true) ∧ True) ∧ (((((((within c.proc (0 : Int) (2 : Int)) && (within c.obj (0 : Int) (1 : Int))) && (within c.kind (0 : Int) (2 : Int))) && (within c.arg (0 : Int) (3 : Int))) && (within c.ret (-1 : Int) (20 : Int))) && (within c.frm (0 : Int) (30 : Int))) = false → True)) ∧ True ∧ True) (by kernel_rfl)
  ⟨tt,tt,⟨tt,⟨tt,tt,tt,tt⟩,tt⟩,tt,(fun _ => trivial),(fun hG => ⟨hG,tt⟩),(fun hG => ⟨tt,⟨⟨hG,tt⟩,tt,tt,tt⟩,tt⟩),⟨tt,(fun hp => ⟨hp,tt⟩),(fun _ => trivial)⟩,tt,(fun _ => trivial),(fun hG => ⟨hG,tt⟩),(fun hG => ⟨tt,⟨⟨hG,tt⟩,tt,tt,tt⟩,tt⟩),⟨tt,(fun hp => ⟨hp,tt⟩),(fun _ => trivial)⟩,tt,(fun _ => trivial),(fun hG => ⟨hG,tt⟩),(fun hG => ⟨tt,⟨⟨hG,tt⟩,tt,tt,tt⟩,tt⟩),⟨tt,(fun hp => ⟨hp,tt⟩),(fun _ => trivial)⟩,tt,(fun _ => trivial),(fun hG => ⟨hG,tt⟩),(fun hG => ⟨tt,⟨⟨hG,tt⟩,tt,tt,tt⟩,tt⟩),⟨tt,(fun hp => ⟨hp,tt⟩),(fun _ => trivial)⟩,tt,(fun _ => trivial),(fun hG => ⟨hG,tt⟩),(fun hG => ⟨tt,⟨⟨hG,tt⟩,tt,tt,tt⟩,tt⟩),⟨tt,(fun hp => ⟨hp,tt⟩),(fun _ => trivial)⟩,tt,(fun _ => trivial),(fun hG => ⟨hG,tt⟩),(fun _ => trivial),(fun hG => ⟨hG,tt⟩),(fun hG => ⟨⟨hG,tt⟩,tt,(by have hh := hG; simp only [Bool.and_eq_true,inRange_iff] at hh; exact fits_i64 (by omega) (by omega))⟩),(fun hG => ⟨tt,⟨⟨hG,tt⟩,⟨hG,tt⟩,tt,tt⟩,tt⟩),⟨tt,(fun hp => ⟨hp,tt⟩),(fun _ => trivial)⟩,tt,tt⟩ ?_
 refine W.ret ?_
 exact endQ_ret (.b (((((((within c.proc (0 : Int) (2 : Int)) && (within c.obj (0 : Int) (1 : Int))) && (within c.kind (0 : Int) (2 : Int))) && (within c.arg (0 : Int) (3 : Int))) && (within c.ret (-1 : Int) (20 : Int))) && (within c.frm (0 : Int) (30 : Int))) && (within c.to (c.frm + (1 : Int)) (30 : Int)))) (by kernel_rfl) (@cast ((.bool (((((((within c.proc (0 : Int) (2 : Int)) && (within c.obj (0 : Int) (1 : Int))) && (within c.kind (0 : Int) (2 : Int))) && (within c.arg (0 : Int) (3 : Int))) && (within c.ret (-1 : Int) (20 : Int))) && (within c.frm (0 : Int) (30 : Int))) && (within c.to (c.frm + (1 : Int)) (30 : Int))) : Value) = .bool (isCall c)) _ (by kernel_rfl) (congrArg Value.bool (by rw [validCall_eq])))
theorem ent39 : Entr prog 39 := ⟨_,func39,rfl,by decide⟩
end Go.Proofs.Try
