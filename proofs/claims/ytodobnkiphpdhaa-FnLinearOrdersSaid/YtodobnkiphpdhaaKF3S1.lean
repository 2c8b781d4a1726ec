import Derived.Test.YtodobnkiphpdhaaKF3S0
set_option linter.unusedSimpArgs false
set_option linter.unusedVariables false
namespace Go.Ab
theorem has_snoc (o : List Int) (x y : Int) : hasInt (o ++ [x]) y = (hasInt o y || decide (y = x)) := by
 apply bool_ext
 rw [Bool.or_eq_true, hasInt_mem, hasInt_mem, decide_eq_true_eq]
 simp
theorem bits_andNot_val {a b : Nat} (ha : a < 2 ^ 62) (hb : b < 2 ^ 62) : ∃ c : Nat, bitsI .andNot .i64 ((a : Nat) : Int) ((b : Nat) : Int) = ((c : Nat) : Int) ∧ ∀ k, c.testBit k = (a.testBit k && !b.testBit k) := by
 have e : bitsI .andNot .i64 ((a : Nat) : Int) ((b : Nat) : Int) = IntKind.i64.wrap (((BitVec.ofInt 64 ((a : Nat) : Int) &&& ~~~ BitVec.ofInt 64 ((b : Nat) : Int)).toNat : Nat) : Int) := rfl
 have hx : (BitVec.ofInt 64 ((a : Nat) : Int)) = BitVec.ofNat 64 a := by apply BitVec.eq_of_toNat_eq; rw [BitVec.toNat_ofInt, BitVec.toNat_ofNat]; omega
 have hy : (BitVec.ofInt 64 ((b : Nat) : Int)) = BitVec.ofNat 64 b := by apply BitVec.eq_of_toNat_eq; rw [BitVec.toNat_ofInt, BitVec.toNat_ofNat]; omega
 rw [e, hx, hy]
 have hle : (BitVec.ofNat 64 a &&& ~~~ BitVec.ofNat 64 b).toNat ≤ a := by
  rw [BitVec.toNat_and, BitVec.toNat_ofNat, Nat.mod_eq_of_lt (by omega)]
  exact Nat.and_le_left
 refine ⟨_, IntWalk.i64_in _ (by omega), fun k => ?_⟩
 rw [BitVec.testBit_toNat, BitVec.getLsbD_and, BitVec.getLsbD_not, BitVec.getLsbD_ofNat, BitVec.getLsbD_ofNat]
 by_cases hk : k < 64
 ·simp [hk]
 ·have h1 : a.testBit k = false := Nat.testBit_lt_two_pow (Nat.lt_of_lt_of_le ha (Nat.pow_le_pow_right (by omega) (by omega)))
  simp [hk, h1]
theorem maskN_62 {n : Nat} (h : n ≤ 60) (p : Nat → Bool) : maskN n p < 2 ^ 62 := by
 have := maskN_lt n p
 have := Nat.pow_le_pow_right (show 0 < 2 by omega) (show n ≤ 62 by omega)
 omega
theorem mask_eq_of {n : Nat} {p : Nat → Bool} {c : Nat} (h : ∀ k, c.testBit k = (decide (k < n) && p k)) : ((c : Nat) : Int) = mask n p := by
 unfold mask
 have : c = maskN n p := Nat.eq_of_testBit_eq (fun k => by rw [h k, maskN_bit])
 rw [this]
theorem used_or {n k : Nat} {p : Nat → Bool} (hn : n ≤ 60) (hk : k < n) : bitsI .or .i64 (mask n p) (shlI .i64 1 ((k : Nat) : Int)) = mask n (fun j => p j || decide (j = k)) := by
 have h1 := maskN_62 hn p
 have h2 : 2 ^ k < 2 ^ 62 := Nat.pow_lt_pow_right (by omega) (by omega)
 rw [shl_one (by omega), show mask n p = ((maskN n p : Nat) : Int) from rfl, bits_or (by omega) (by omega)]
 refine mask_eq_of (fun j => ?_)
 rw [Nat.testBit_or, maskN_bit, Nat.testBit_two_pow]
 by_cases hj : k = j
 ·subst hj; simp [hk]
 ·simp [hj, Ne.symm hj]
theorem used_not {n k : Nat} {p : Nat → Bool} (hn : n ≤ 60) (hk : k < n) : bitsI .andNot .i64 (mask n p) (shlI .i64 1 ((k : Nat) : Int)) = mask n (fun j => p j && !decide (j = k)) := by
 have h1 := maskN_62 hn p
 have h2 : 2 ^ k < 2 ^ 62 := Nat.pow_lt_pow_right (by omega) (by omega)
 rw [shl_one (by omega)]
 obtain ⟨c, e, hc⟩ := bits_andNot_val (a := maskN n p) (b := 2 ^ k) h1 h2
 rw [show mask n p = ((maskN n p : Nat) : Int) from rfl, e]
 refine mask_eq_of (fun j => ?_)
 rw [hc, maskN_bit, Nat.testBit_two_pow]
 by_cases hj : k = j
 ·subst hj; simp
 ·simp [hj, Ne.symm hj]
def hasN (o : List Int) (k : Nat) : Bool := hasInt o ((k : Nat) : Int)
theorem used_push {n k : Nat} {o : List Int} (hn : n ≤ 60) (hk : k < n) : bitsI .or .i64 (mask n (hasN o)) (shlI .i64 1 ((k : Nat) : Int)) = mask n (hasN (o ++ [((k : Nat) : Int)])) := by
 rw [used_or hn hk, mask_inj]
 intro j _
 unfold hasN
 rw [has_snoc]
 congr 1
 exact bool_ext (by simp only [decide_eq_true_eq]; omega)
theorem used_pop {n k : Nat} {o : List Int} (hn : n ≤ 60) (hk : k < n) (hf : hasInt o ((k : Nat) : Int) = false) : bitsI .andNot .i64 (mask n (hasN (o ++ [((k : Nat) : Int)]))) (shlI .i64 1 ((k : Nat) : Int)) = mask n (hasN o) := by
 rw [used_not hn hk, mask_inj]
 intro j _
 unfold hasN
 rw [has_snoc]
 by_cases hj : j = k
 ·subst hj; rw [hf]; simp
 ·rw [decide_eq_false hj, decide_eq_false (show ¬ ((j : Nat) : Int) = ((k : Nat) : Int) by omega)]; simp
def freeB (f : Nat → Nat → Bool) (n : Nat) (o : List Int) (i : Nat) : Bool := !hasInt o ((i : Nat) : Int) && allN n (fun k => !f i k || hasInt o ((k : Nat) : Int))
theorem free_sub {n i : Nat} {f : Nat → Nat → Bool} {o : List Int} : (maskN n (f i) &&& maskN n (hasN o) = maskN n (f i)) ↔ allN n (fun k => !f i k || hasInt o ((k : Nat) : Int)) = true := by
 rw [allN_iff]
 constructor
 ·intro h k hk
  have := congrArg (fun x => x.testBit k) h
  simp only [Nat.testBit_and, maskN_bit, hk, decide_true, Bool.true_and] at this
  unfold hasN at this
  cases h1 : f i k <;> cases h2 : hasInt o ((k : Nat) : Int) <;> rw [h1, h2] at this <;> simp_all
 ·intro h
  apply Nat.eq_of_testBit_eq
  intro k
  rw [Nat.testBit_and, maskN_bit, maskN_bit]
  by_cases hk : k < n
  ·have := h k hk
   unfold hasN
   cases h1 : f i k <;> cases h2 : hasInt o ((k : Nat) : Int) <;> rw [h1, h2] at this <;> simp_all
  ·simp [hk]
theorem free_impl {n i : Nat} {f : Nat → Nat → Bool} {o : List Int} (hn : n ≤ 60) (hi : i < n) {b : Bool}
  (h : (decide (bitsI .and .i64 (shrI .i64 (mask n (hasN o)) ((i : Nat) : Int)) 1 = 1) || decide (bitsI .andNot .i64 ((rowsOf n f).getD i 0) (mask n (hasN o)) ≠ 0)) = b) : freeB f n o i = !b := by
 rw [← h, rowsOf_get f hi, show mask n (hasN o) = ((maskN n (hasN o) : Nat) : Int) from rfl, show mask n (f i) = ((maskN n (f i) : Nat) : Int) from rfl,
  iBit (maskN_62 hn _) (by omega), maskN_bit]
 have h2 := bits_andNot (a := maskN n (f i)) (b := maskN n (hasN o)) (maskN_62 hn _) (maskN_62 hn _)
 rw [free_sub] at h2
 unfold freeB
 rw [decide_eq_true hi, Bool.true_and]
 have h3 : decide (bitsI .andNot .i64 ((maskN n (f i) : Nat) : Int) ((maskN n (hasN o) : Nat) : Int) ≠ 0) = !allN n (fun k => !f i k || hasInt o ((k : Nat) : Int)) := bool_ext (by
  rw [decide_eq_true_eq, Bool.not_eq_true', ne_eq, h2]
  cases allN n (fun k => !f i k || hasInt o ((k : Nat) : Int)) <;> simp)
 rw [h3]
 unfold hasN
 cases hasInt o ((i : Nat) : Int) <;> cases allN n (fun k => !f i k || hasInt o ((k : Nat) : Int)) <;> rfl
theorem free_spec {n i : Nat} {f : Nat → Nat → Bool} {o : List Int} (hn : n ≤ 60) (hi : i < n) {b : Bool}
  (h : (decide (bitOf (mask n (hasN o)) ((i : Nat) : Int) = 0) && decide (bitsI .and .i64 ((rowsOf n f).getD i 0) (mask n (hasN o)) = (rowsOf n f).getD i 0)) = b) : freeB f n o i = b := by
 rw [← h, rowsOf_get f hi, bits_mask hn]
 unfold freeB
 have e1 : decide (bitOf (mask n (hasN o)) ((i : Nat) : Int) = 0) = !hasInt o ((i : Nat) : Int) := by
  apply bool_ext
  rw [decide_eq_true_eq, bitOf_zero]
  unfold hasN
  cases hasInt o ((i : Nat) : Int) <;> simp [hi]
 have e2 : decide (((maskN n (f i) &&& maskN n (hasN o) : Nat) : Int) = mask n (f i)) = allN n (fun k => !f i k || hasInt o ((k : Nat) : Int)) := by
  apply bool_ext
  rw [decide_eq_true_eq, ← free_sub]
  unfold mask
  omega
 rw [e1, e2]
where
 bits_mask {n : Nat} {p q : Nat → Bool} (hn : n ≤ 60) : bitsI .and .i64 (mask n p) (mask n q) = ((maskN n p &&& maskN n q : Nat) : Int) := by
  have h1 := maskN_62 hn p
  have h2 := maskN_62 hn q
  unfold mask
  exact bits_and (by omega) (by omega)
def ordersF (s : ByteArray) (h : List CallD) (f : Nat → Nat → Bool) : Nat → List Int → List (List Int)
 | 0, o => bif runsB s h o then [o] else []
 | m + 1, o => (List.range h.length).flatMap fun i => bif freeB f h.length o i then ordersF s h f m (o ++ [((i : Nat) : Int)]) else []
def ordersUp (s : ByteArray) (h : List CallD) (f : Nat → Nat → Bool) (m : Nat) (o : List Int) (k : Nat) : List (List Int) := (List.range k).flatMap fun i => bif freeB f h.length o i then ordersF s h f m (o ++ [((i : Nat) : Int)]) else []
theorem up_yes {s : ByteArray} {h : List CallD} {f : Nat → Nat → Bool} {m k : Nat} {o : List Int} (hf : freeB f h.length o k = true) : ordersUp s h f m o (k + 1) = ordersUp s h f m o k ++ ordersF s h f m (o ++ [((k : Nat) : Int)]) := by
 unfold ordersUp
 rw [List.range_succ, List.flatMap_append]
 simp [hf]
theorem up_no {s : ByteArray} {h : List CallD} {f : Nat → Nat → Bool} {m k : Nat} {o : List Int} (hf : freeB f h.length o k = false) : ordersUp s h f m o (k + 1) = ordersUp s h f m o k := by
 unfold ordersUp
 rw [List.range_succ, List.flatMap_append]
 simp [hf]
theorem sts_snoc {s : ByteArray} {h : List CallD} {o : List Int} (x : Int) {i : Nat} (hi : i ≤ o.length) : sts s h (o ++ [x]) i = sts s h o i := by
 induction i with
 | zero => rfl
 | succ i ih =>
  have e : ordAt h (o ++ [x]) i = ordAt h o i := by unfold ordAt; rw [List.getD_eq_getElem?_getD, List.getElem?_append_left (by omega), ← List.getD_eq_getElem?_getD]
  simp only [sts]
  rw [ih (by omega), e]
theorem okAt_snoc {s : ByteArray} {h : List CallD} {o : List Int} (x : Int) {i : Nat} (hi : i < o.length) : okAt s h (o ++ [x]) i = okAt s h o i := by
 have e : ordAt h (o ++ [x]) i = ordAt h o i := by unfold ordAt; rw [List.getD_eq_getElem?_getD, List.getElem?_append_left (by omega), ← List.getD_eq_getElem?_getD]
 unfold okAt
 rw [sts_snoc x (by omega), e]
theorem runs_snoc {s : ByteArray} {h : List CallD} {o : List Int} (x : Int) (hr : runsB s h o = false) : runsB s h (o ++ [x]) = false := by
 unfold runsB at *
 obtain ⟨i, hi, h1⟩ := allN_not hr
 exact allN_false (i := i) (by simp; omega) (by rw [okAt_snoc x hi]; exact h1)
theorem orders_none {s : ByteArray} {h : List CallD} {f : Nat → Nat → Bool} : ∀ {m : Nat} {o : List Int}, runsB s h o = false → ordersF s h f m o = []
 | 0, o, hr => by simp [ordersF, hr]
 | m + 1, o, hr => by
  simp only [ordersF]
  rw [List.flatMap_eq_nil_iff]
  intro i _
  cases freeB f h.length o i with
  | false => rfl
  | true => exact orders_none (runs_snoc _ hr)
theorem orders_up {s : ByteArray} {h : List CallD} {f : Nat → Nat → Bool} (m : Nat) (o : List Int) : ordersF s h f (m + 1) o = ordersUp s h f m o h.length := rfl
theorem orders_len {s : ByteArray} {h : List CallD} {f : Nat → Nat → Bool} (h6 : h.length ≤ 6) : ∀ (m : Nat) (o : List Int), (ordersF s h f m o).length ≤ 6 ^ m
 | 0, o => by simp only [ordersF]; cases runsB s h o <;> simp
 | m + 1, o => by
  have key : ∀ k, k ≤ 6 → (ordersUp s h f m o k).length ≤ k * 6 ^ m := by
   intro k
   induction k with
   | zero => intro _; simp [ordersUp]
   | succ k ih =>
    intro hk
    have ih' := ih (by omega)
    have h1 := orders_len h6 m (o ++ [((k : Nat) : Int)]) (s := s) (f := f)
    cases hf : freeB f h.length o k with
    | true => rw [up_yes hf, List.length_append, Nat.succ_mul]; omega
    | false => rw [up_no hf, Nat.succ_mul]; omega
  rw [orders_up]
  have := key h.length h6
  have h2 : h.length * 6 ^ m ≤ 6 * 6 ^ m := Nat.mul_le_mul_right _ h6
  rw [Nat.pow_succ, Nat.mul_comm]
  omega
theorem ordUp_len {s : ByteArray} {h : List CallD} {f : Nat → Nat → Bool} (h6 : h.length ≤ 6) (m : Nat) (o : List Int) {k : Nat} (hk : k ≤ 6) : (ordersUp s h f m o k).length ≤ k * 6 ^ m := by
 induction k with
 | zero => simp [ordersUp]
 | succ k ih =>
  have ih' := ih (by omega)
  have h1 := orders_len (s := s) (f := f) h6 m (o ++ [((k : Nat) : Int)])
  cases hf : freeB f h.length o k with
  | true => rw [up_yes hf, List.length_append, Nat.succ_mul]; omega
  | false => rw [up_no hf, Nat.succ_mul]; omega
def headO (h : List CallD) (o : List Int) : Prop := inH h o ∧ o.Nodup ∧ o.length ≤ h.length
theorem headO_nil (h : List CallD) : headO h [] := ⟨fun i hi => by simp at hi, List.nodup_nil, by simp⟩
theorem headO_snoc {h : List CallD} {o : List Int} {k : Nat} (ho : headO h o) (hk : k < h.length) (hf : hasInt o ((k : Nat) : Int) = false) (hl : o.length < h.length) : headO h (o ++ [((k : Nat) : Int)]) := by
 refine ⟨fun i hi => ?_, ?_, by simp; omega⟩
 ·simp only [List.getD_eq_getElem?_getD]
  by_cases h1 : i < o.length
  ·rw [List.getElem?_append_left h1, ← List.getD_eq_getElem?_getD]; exact ho.1 i h1
  ·have : i = o.length := by simp at hi; omega
   subst this
   rw [List.getElem?_append_right (Nat.le_refl _)]
   simp; omega
 ·refine List.nodup_append.2 ⟨ho.2.1, by simp, ?_⟩
  intro a ha b hb hab
  simp only [List.mem_singleton] at hb
  subst hb; subst hab
  rw [hasInt_mem.2 ha] at hf; cases hf
theorem free_has {f : Nat → Nat → Bool} {n i : Nat} {o : List Int} (hf : freeB f n o i = true) : hasInt o ((i : Nat) : Int) = false := by
 unfold freeB at hf
 have := and_l hf
 simpa using this
theorem headO_ord {h : List CallD} {o : List Int} (ho : headO h o) (hl : o.length = h.length) : isOrd o ((h.length : Nat) : Int) = true := by
 unfold isOrd
 refine and_t (allN_true (fun i hi => ?_)) (decide_eq_true (by omega))
 unfold ordOK
 have h1 := ho.1 i hi
 exact and_t (inRange_iff.2 (by omega)) (by rw [nodup_take.1 ho.2.1 i hi]; rfl)
end Go.Ab
namespace Go.Ab
theorem pow6_le {m : Nat} (h : m ≤ 6) : 6 ^ m ≤ 46656 := Nat.pow_le_pow_right (by omega) h
theorem take_pop {o : List Int} {x : Int} {n : Int} (h : n = (((o ++ [x]).length : Nat) : Int) - 1) : List.take n.toNat (o ++ [x]) = o := by
 have : n.toNat = o.length := by rw [h]; simp
 rw [this]; simp
end Go.Ab
namespace Go.Ab
section
variable {s : ByteArray} {h : List CallD} {f : Nat → Nat → Bool} {o : List Int}
theorem orders_yes (hl : ((o.length : Nat) : Int) = ((h.length : Nat) : Int)) (hp : (playedR s h o).2 = true) : ordersF s h f (h.length - o.length) o = [o] := by
 rw [played_runs] at hp
 rw [show h.length - o.length = 0 by omega]; simp [ordersF, hp]
theorem orders_no (hl : ((o.length : Nat) : Int) = ((h.length : Nat) : Int)) (hp : (playedR s h o).2 = false) : ordersF s h f (h.length - o.length) o = [] := by
 rw [played_runs] at hp
 rw [show h.length - o.length = 0 by omega]; simp [ordersF, hp]
theorem orders_end (hl : o.length < h.length) : ordersF s h f (h.length - o.length) o = ordersUp s h f (h.length - o.length - 1) o h.length := by
 rw [show h.length - o.length = (h.length - o.length - 1) + 1 by omega]; rfl
theorem ord_room {out : List (List Int)} {k : Nat} (hz : out.length + 6 ^ (h.length - o.length) ≤ 100000) (h6 : h.length ≤ 6) (hk : k < h.length) (hl : o.length < h.length) :
  (out ++ ordersUp s h f (h.length - o.length - 1) o k).length + 6 ^ (h.length - o.length - 1) ≤ 100000 := by
 have h1 := ordUp_len (s := s) (f := f) h6 (h.length - o.length - 1) o (k := k) (by omega)
 have h2 : 6 ^ (h.length - o.length) = 6 ^ (h.length - o.length - 1) * 6 := by rw [← Nat.pow_succ]; congr 1; omega
 have h3 : (k + 1) * 6 ^ (h.length - o.length - 1) ≤ 6 * 6 ^ (h.length - o.length - 1) := Nat.mul_le_mul_right _ (by omega)
 rw [List.length_append]
 rw [Nat.succ_mul] at h3
 omega
theorem up_step {out ou oo : List (List Int)} {k : Nat} (hf : freeB f h.length o k = true) (hou : ou = out ++ ordersUp s h f (h.length - o.length - 1) o k) :
  ou ++ ordersF s h f (h.length - (o ++ [((k : Nat) : Int)]).length) (o ++ [((k : Nat) : Int)]) = out ++ ordersUp s h f (h.length - o.length - 1) o (k + 1) := by
 rw [hou, up_yes hf, List.append_assoc]
 congr 3
 simp; omega
theorem free_no {n i : Nat} (hn : n ≤ 60) (hi : i < n)
  (hb : (decide (bitsI .and .i64 (shrI .i64 (mask n (hasN o)) ((i : Nat) : Int)) 1 = 1) || decide (bitsI .andNot .i64 ((rowsOf n f).getD i 0) (mask n (hasN o)) ≠ 0)) = true) : freeB f n o i = false := free_impl hn hi hb
theorem free_yes {n i : Nat} (hn : n ≤ 60) (hi : i < n)
  (hb : (decide (bitsI .and .i64 (shrI .i64 (mask n (hasN o)) ((i : Nat) : Int)) 1 = 1) || decide (bitsI .andNot .i64 ((rowsOf n f).getD i 0) (mask n (hasN o)) ≠ 0)) = false) : freeB f n o i = true := free_impl hn hi hb
end
end Go.Ab
namespace Go.Ab
def bitF (rows : List Int) (i k : Nat) : Bool := (rows.getD i 0).toNat.testBit k
theorem ordersF_congr {s : ByteArray} {h : List CallD} {f g : Nat → Nat → Bool} (hfg : ∀ i k, i < h.length → k < h.length → f i k = g i k) : ∀ (m : Nat) (o : List Int), ordersF s h f m o = ordersF s h g m o
 | 0, o => rfl
 | m + 1, o => by
  simp only [ordersF]
  rw [List.flatMap_def, List.flatMap_def]
  congr 1
  apply List.map_congr_left
  intro i hi
  have hi := List.mem_range.1 hi
  have e : freeB f h.length o i = freeB g h.length o i := by
   unfold freeB
   congr 1
   apply bool_ext
   rw [allN_iff, allN_iff]
   exact ⟨fun hh k hk => by rw [← hfg i k hi hk]; exact hh k hk, fun hh k hk => by rw [hfg i k hi hk]; exact hh k hk⟩
  rw [e, ordersF_congr hfg]
theorem bitF_rows {n i k : Nat} {f : Nat → Nat → Bool} (hi : i < n) (hk : k < n) : bitF (rowsOf n f) i k = f i k := by
 unfold bitF
 rw [rowsOf_get f hi]
 unfold mask
 rw [Int.toNat_natCast, maskN_bit, decide_eq_true hk, Bool.true_and]
theorem orders_rows {s : ByteArray} {h : List CallD} {f : Nat → Nat → Bool} {m : Nat} {o : List Int} : ordersF s h (bitF (rowsOf h.length f)) m o = ordersF s h f m o := ordersF_congr (fun _ _ hi hk => bitF_rows hi hk) m o
theorem rows_self {n : Nat} {f : Nat → Nat → Bool} : rowsOf n f = rowsOf n (bitF (rowsOf n f)) := by
 apply rowsOf_congr
 intro i k hi hk
 exact (bitF_rows hi hk).symm
end Go.Ab
namespace Go.Ab
theorem used_nil (n : Nat) : mask n (hasN []) = 0 := mask_zero n (fun _ _ => rfl)
theorem done_all {n : Nat} {o : List Int} {j : Nat} (hj : o.length ≤ j) : mask n (doneF o j) = mask n (hasN o) := by
 unfold doneF hasN
 rw [List.take_of_length_le hj]
section
variable {s : ByteArray} {h : List CallD} {f : Nat → Nat → Bool} {o : List Int}
theorem explain_end {ou : List (List Int)} {k : Nat} (hl : o.length < h.length) (hk : k = h.length) (hou : ou = ordersUp s h f (h.length - o.length - 1) o k) : ou = ordersF s h f (h.length - o.length) o := by
 rw [hou, hk, orders_end hl]
theorem explain_step {ou : List (List Int)} {k : Nat} (hf : freeB f h.length o k = true) (hou : ou = ordersUp s h f (h.length - o.length - 1) o k) :
  ou ++ ordersF s h f (h.length - (o ++ [((k : Nat) : Int)]).length) (o ++ [((k : Nat) : Int)]) = ordersUp s h f (h.length - o.length - 1) o (k + 1) := up_step (out := []) (oo := []) hf hou
theorem explain_one (hr : runsB s h o = true) (hl : ((o.length : Nat) : Int) = ((h.length : Nat) : Int)) : [o] = ordersF s h f (h.length - o.length) o := by
 rw [show h.length - o.length = 0 by omega]; simp [ordersF, hr]
theorem rest_len {m : Nat} (h6 : h.length ≤ 6) (hm : m ≤ 6) (o : List Int) : (ordersF s h f m o).length ≤ 46656 := Nat.le_trans (orders_len h6 m o) (pow6_le hm)
theorem upto_len6 {m k : Nat} (h6 : h.length ≤ 6) (hm : m ≤ 5) (hk : k ≤ 6) (o : List Int) : (ordersUp s h f m o k).length ≤ 46656 := by
 have h1 := ordUp_len (s := s) (f := f) h6 m o hk
 have h2 : 6 ^ m ≤ 6 ^ 5 := Nat.pow_le_pow_right (by omega) hm
 have h3 : k * 6 ^ m ≤ 6 * 6 ^ m := Nat.mul_le_mul_right _ hk
 omega
end
theorem orders_count {s : ByteArray} {h : List CallD} {f : Nat → Nat → Bool} (h6 : h.length ≤ 6) : (ordersF s h f h.length []).length ≤ 46656 := rest_len h6 h6 []
end Go.Ab

set_option linter.unusedSimpArgs false
set_option linter.unusedVariables false
namespace Go.Ab
def ordersBy (s : ByteArray) (h : List CallD) (f : Nat → Nat → Bool) : List (List Int) := bif isObject s && validHistory h then ordersF s h f h.length [] else []
section
variable {s : ByteArray} {h : List CallD} {f g : Nat → Nat → Bool} {rows : List Int}
theorem by_val (hg : (isObject s && validHistory h) = true) (e : rows = rowsOf h.length f) : ordersF s h (bitF rows) h.length [] = ordersBy s h f := by
 unfold ordersBy; rw [hg, e, orders_rows]; rfl
theorem by_no (hg : (isObject s && validHistory h) = false) : ordersBy s h f = [] := by unfold ordersBy; rw [hg]; rfl
theorem by_no' (hg : (!isObject s || !validHistory h) = true) : ordersBy s h f = [] := by_no (by cases h1 : isObject s <;> cases h2 : validHistory h <;> simp_all)
theorem by_yes' (hg : (!isObject s || !validHistory h) = false) : (isObject s && validHistory h) = true := by cases h1 : isObject s <;> cases h2 : validHistory h <;> simp_all
theorem own_rows (hv : validHistory h = true) : ownAhead h = rowsOf h.length (bitF (ownAhead h)) := by rw [own_eq hv]; exact rows_self
theorem ahead_rows (hv : validHistory h = true) : aheadOf h = rowsOf h.length (bitF (aheadOf h)) := by rw [ahead_eq hv]; exact rows_self
theorem by_count : (ordersBy s h f).length ≤ 46656 := by
 cases hg : (isObject s && validHistory h) with
 | false => rw [by_no hg]; simp
 | true =>
  have h2 : validHistory h = true := by simp only [Bool.and_eq_true] at hg; exact hg.2
  have h1 := orders_count (s := s) (f := f) (valid_iff.1 h2).1
  unfold ordersBy; rw [hg]; exact h1
theorem free_mono {n : Nat} {o : List Int} {i : Nat} (hi : i < n) (hfg : ∀ i k, i < n → k < n → g i k = true → f i k = true) (h1 : freeB f n o i = true) : freeB g n o i = true := by
 unfold freeB at *
 rw [Bool.and_eq_true, allN_iff] at *
 refine ⟨h1.1, fun k hk => ?_⟩
 have h2 := h1.2 k hk
 have h3 := hfg i k hi hk
 cases hg : g i k with
 | false => rfl
 | true => rw [h3 hg] at h2; exact h2
theorem orders_mono (hfg : ∀ i k, i < h.length → k < h.length → g i k = true → f i k = true) {x : List Int} : ∀ (m : Nat) (o : List Int), x ∈ ordersF s h f m o → x ∈ ordersF s h g m o
 | 0, o, hx => hx
 | m + 1, o, hx => by
  simp only [ordersF, List.mem_flatMap, List.mem_range] at *
  obtain ⟨i, hi, h1⟩ := hx
  refine ⟨i, hi, ?_⟩
  cases h2 : freeB f h.length o i with
  | false => rw [h2] at h1; simp at h1
  | true =>
   rw [h2] at h1
   rw [free_mono hi hfg h2]
   exact orders_mono hfg m _ h1
theorem by_mono (hfg : ∀ i k, i < h.length → k < h.length → g i k = true → f i k = true) {x : List Int} (hx : x ∈ ordersBy s h f) : x ∈ ordersBy s h g := by
 unfold ordersBy at *
 cases hg : (isObject s && validHistory h) with
 | false => rw [hg] at hx; simp at hx
 | true => rw [hg] at hx; exact orders_mono hfg _ _ hx
theorem own_ahead {i k : Nat} (hq : ownF h i k = true) : aheadF h i k = true := by
 unfold ownF at hq; exact and_r hq
end
end Go.Ab
namespace Go.Ab
end Go.Ab
namespace Go.Ab
end Go.Ab

set_option linter.unusedSimpArgs false
set_option linter.unusedVariables false
namespace Go.Ab
theorem lists_ext {a b : List (List Int)} (hl : a.length = b.length) (h : ∀ j, j < a.length → a.getD j [] = b.getD j []) : a = b := by
 apply List.ext_getElem hl
 intro i h1 h2
 have := h i h1
 simpa [List.getD_eq_getElem?_getD, h1, h2] using this
section
variable {s : ByteArray} {h : List CallD} {f g : Nat → Nat → Bool} {rows : List Int}
def respF (f : Nat → Nat → Bool) (n : Nat) (o : List Int) : Prop := ∀ k, k < o.length → freeB f n (o.take k) (o.getD k 0).toNat = true
theorem resp_snoc {n k : Nat} {o : List Int} (hr : respF f n o) (hf : freeB f n o k = true) : respF f n (o ++ [((k : Nat) : Int)]) := by
 intro j hj
 simp only [List.getD_eq_getElem?_getD]
 by_cases h1 : j < o.length
 ·rw [List.take_append_of_le_length (by omega), List.getElem?_append_left h1, ← List.getD_eq_getElem?_getD]; exact hr j h1
 ·have : j = o.length := by simp at hj; omega
  subst this
  rw [List.take_append_of_le_length (Nat.le_refl _), List.take_length, List.getElem?_append_right (Nat.le_refl _)]
  simpa using hf
theorem orders_mem {x : List Int} : ∀ (m : Nat) (o : List Int), headO h o → respF f h.length o → o.length + m = h.length → x ∈ ordersF s h f m o →
  headO h x ∧ x.length = h.length ∧ runsB s h x = true ∧ respF f h.length x ∧ ∃ t, x = o ++ t
 | 0, o, ho, hr, hm, hx => by
  simp only [ordersF] at hx
  cases h1 : runsB s h o with
  | false => rw [h1] at hx; simp at hx
  | true => rw [h1] at hx; simp at hx; subst hx; exact ⟨ho, by omega, h1, hr, [], by simp⟩
 | m + 1, o, ho, hr, hm, hx => by
  simp only [ordersF, List.mem_flatMap, List.mem_range] at hx
  obtain ⟨i, hi, h1⟩ := hx
  cases h2 : freeB f h.length o i with
  | false => rw [h2] at h1; simp at h1
  | true =>
   rw [h2] at h1
   obtain ⟨a, b, c, d, t, e⟩ := orders_mem m (o ++ [((i : Nat) : Int)]) (headO_snoc ho hi (free_has h2) (by omega)) (resp_snoc hr h2) (by simp; omega) h1
   exact ⟨a, b, c, d, ((i : Nat) : Int) :: t, by rw [e]; simp⟩
theorem by_guard {x : List Int} (hx : x ∈ ordersBy s h f) : (isObject s && validHistory h) = true := by
 cases hg : (isObject s && validHistory h) with
 | true => rfl
 | false => rw [by_no hg] at hx; simp at hx
theorem by_mem {x : List Int} (hx : x ∈ ordersBy s h f) : headO h x ∧ x.length = h.length ∧ runsB s h x = true ∧ respF f h.length x := by
 have hg := by_guard hx
 unfold ordersBy at hx
 rw [hg] at hx
 obtain ⟨a, b, c, d, _⟩ := orders_mem h.length [] (headO_nil h) (fun k hk => by simp at hk) (by simp) hx
 exact ⟨a, b, c, d⟩
theorem by_right {x : List Int} (hx : x ∈ ordersBy s h f) : rightB s h x = true := by
 obtain ⟨a, b, c, d⟩ := by_mem hx
 unfold rightB
 rw [by_guard hx, headO_ord a b, c]; rfl
theorem bits_mk {n : Nat} {p q : Nat → Bool} (hn : n ≤ 60) : bitsI .and .i64 (mask n p) (mask n q) = ((maskN n p &&& maskN n q : Nat) : Int) := by
 have h1 := maskN_62 hn p
 have h2 := maskN_62 hn q
 unfold mask
 exact bits_and (by omega) (by omega)
theorem resp_mask {x : List Int} {k : Nat} (hn : h.length ≤ 60) (hx : headO h x ∧ x.length = h.length ∧ runsB s h x = true ∧ respF f h.length x) (hk : k < x.length) :
  bitsI .and .i64 ((rowsOf h.length f).getD (x.getD k 0).toNat 0) (mask h.length (doneF x k)) = (rowsOf h.length f).getD (x.getD k 0).toNat 0 := by
 have hi := hx.1.1 k hk
 rw [rowsOf_get f (show (x.getD k 0).toNat < h.length by omega), bits_mk hn]
 have h1 := hx.2.2.2 k hk
 unfold freeB at h1
 have h2 := free_sub.2 (and_r h1)
 have h3 : mask h.length (f (x.getD k 0).toNat) = ((maskN h.length (f (x.getD k 0).toNat) : Nat) : Int) := rfl
 rw [h3]
 exact congrArg _ h2
end
end Go.Ab

set_option linter.unusedSimpArgs false
set_option linter.unusedVariables false
namespace Go.Ab
end Go.Ab
namespace Go.Ab
end Go.Ab

set_option linter.unusedSimpArgs false
set_option linter.unusedVariables false
namespace Go.Ab
end Go.Ab
namespace Go.Ab
end Go.Ab

set_option linter.unusedSimpArgs false
set_option linter.unusedVariables false
namespace Go.Ab
def amongB (a b : List (List Int)) : Bool := allN a.length fun i => anyN b.length fun k => decide (a.getD i [] = b.getD k [])
def metUp (a b : List (List Int)) (i k : Nat) : Bool := anyN k fun j => decide (a.getD i [] = b.getD j [])
theorem met_succ {a b : List (List Int)} {i k : Nat} {m : Bool} (hm : m = metUp a b i k) : (bif m then true else decide (a.getD i [] = b.getD k [])) = metUp a b i (k + 1) := by
 unfold metUp at *
 rw [anyN_succ, ← hm]
 cases m <;> rfl
theorem met_succ' {a b : List (List Int)} {i k : Nat} {m : Bool} (hm : m = metUp a b i k) : (m || decide (a.getD i [] = b.getD k [])) = metUp a b i (k + 1) := by
 unfold metUp at *
 rw [anyN_succ, ← hm]
theorem among_sub {a b : List (List Int)} (hs : ∀ x ∈ a, x ∈ b) : amongB a b = true := by
 unfold amongB
 refine allN_true (fun i hi => ?_)
 obtain ⟨k, hk, e⟩ := List.mem_iff_getElem.1 (hs _ (getD_mem a [] hi))
 have e2 : b.getD k [] = b[k] := by rw [List.getD_eq_getElem?_getD, List.getElem?_eq_getElem hk]; rfl
 exact anyN_true (i := k) hk (decide_eq_true (by rw [e2]; exact e.symm))
section
variable {s : ByteArray} {h : List CallD}
theorem among_own : amongB (ordersBy s h (aheadF h)) (ordersBy s h (ownF h)) = true := among_sub (fun x hx => by_mono (fun i k _ _ hq => own_ahead hq) hx)
theorem points_by {x : List Int} (hx : x ∈ ordersBy s h (aheadF h)) : (pointsOf h x).2 = true := by
 have hg := by_guard hx
 have hv : validHistory h = true := and_r hg
 have hm := by_mem hx
 have hin := hm.1.1
 have hgo : GoodO x h.length := ⟨hm.2.1, fun v hv' => by
  obtain ⟨i, hi, rfl⟩ := List.mem_iff_getElem.1 hv'
  have := hin i hi
  rw [List.getD_eq_getElem?_getD, List.getElem?_eq_getElem hi] at this
  exact this, hm.1.2.1⟩
 rw [points_law hv hgo]
 refine allN_true (fun i hi => ?_)
 unfold goodF
 refine decide_eq_true ?_
 rw [ahead_eq hv]
 exact resp_mask (by have := (valid_iff.1 hv).1; omega) hm hi
theorem points_right {i : Nat} (hi : i < (ordersBy s h (aheadF h)).length) {b : Bool}
  (hb : ((!(pointsOf h ((ordersBy s h (aheadF h)).getD i [])).2) || (!rightB s h ((ordersBy s h (aheadF h)).getD i []))) = b) : b = false := by
 have hm := getD_mem (ordersBy s h (aheadF h)) [] hi
 rw [← hb, points_by hm, by_right hm]; rfl
end
end Go.Ab
namespace Go.Ab
section
variable {s : ByteArray} {h : List CallD}
end
end Go.Ab
namespace Go.Ab
section
variable {s : ByteArray} {h : List CallD}
end
end Go.Ab

set_option linter.unusedSimpArgs false
set_option linter.unusedVariables false
namespace Go.Proofs.Try
open Go.Ab Go.RowKit
def fs39 : FnS := fnS [.o] [.str] (fun _ (s,_) => (.b (isSingle s),[],True))
abbrev T39 : Tab := lk []
theorem tab39 : TabOK prog T39 := TabOK.nil
set_option maxRecDepth 100000 in
set_option maxHeartbeats 1000000 in
theorem ok39 : FnOK prog 39 fs39 := by
 refine FnOK.mk cok func39 rfl rfl rfl ?_
 rintro fl ⟨(s : ByteArray),_⟩ hpre F hnt0 _
 have hnt : F.nt = 13 := hnt0.trans ntmps39
 clear hpre
 refine W.to (⟨[(0,.v (.string s))],[],[999]⟩) rfl ?_
 refine W.K cok tab39 hnt [] [0] (⟨[(0,.v (.string s))],[],[999]⟩)
  (True ∧ True) (by kernel_rfl)
  ⟨tt,tt⟩ ?_
 refine W.K cok tab39 hnt [] [2] (⟨[(2,.b (((eqS s nRegister) || (eqS s nCounter)) || (eqS s nMost)))],[],[999]⟩)
  (True ∧ (True ∧ True ∧ True) ∧ True ∧ ((!(eqS s nRegister)) = true → True) ∧ ((!(eqS s nRegister)) = true → ((((!(eqS s nRegister)) = true) ∧ True) ∧ True ∧ True)) ∧ (True ∧ ((eqS s nRegister) = true → True) ∧ ((eqS s nRegister) = false → ((!(eqS s nRegister)) = true) ∧ True)) ∧ True ∧ ((!((eqS s nRegister) || (eqS s nCounter))) = true → True) ∧ ((!((eqS s nRegister) || (eqS s nCounter))) = true → ((((!((eqS s nRegister) || (eqS s nCounter))) = true) ∧ True) ∧ True ∧ True)) ∧ (True ∧ (((eqS s nRegister) || (eqS s nCounter)) = true → True) ∧ (((eqS s nRegister) || (eqS s nCounter)) = false → ((!((eqS s nRegister) || (eqS s nCounter))) = true) ∧ True)) ∧ True ∧ True) (by kernel_rfl)
  ⟨tt,⟨tt,tt,tt⟩,tt,(fun _ => trivial),(fun hG => ⟨⟨hG,tt⟩,tt,tt⟩),⟨tt,(fun _ => trivial),(fun hp => ⟨(not_t hp),tt⟩)⟩,tt,(fun _ => trivial),(fun hG => ⟨⟨hG,tt⟩,tt,tt⟩),⟨tt,(fun _ => trivial),(fun hp => ⟨(not_t hp),tt⟩)⟩,tt,tt⟩ ?_
 refine W.ret ?_
 exact endQ_ret (.b (((eqS s nRegister) || (eqS s nCounter)) || (eqS s nMost))) (by kernel_rfl) (@cast ((.bool (((eqS s nRegister) || (eqS s nCounter)) || (eqS s nMost)) : Value) = .bool (isSingle s)) _ (by kernel_rfl) (congrArg Value.bool (by first | rfl | simp_all)))
theorem ent39 : Entr prog 39 := ⟨_,func39,rfl,by decide⟩
end Go.Proofs.Try

set_option linter.unusedSimpArgs false
set_option linter.unusedVariables false
namespace Go.Proofs.Try
open Go.Ab Go.RowKit
def fs22 : FnS := fnS [.o] [.str] (fun _ (s,_) => (.b (isObject s),[],True))
abbrev T22 : Tab := lk [(39,fs39)]
theorem tab22 : TabOK prog T22 := (TabOK.cons ok39 ent39 TabOK.nil)
set_option maxRecDepth 100000 in
set_option maxHeartbeats 1000000 in
theorem ok22 : FnOK prog 22 fs22 := by
 refine FnOK.mk cok func22 rfl rfl rfl ?_
 rintro fl ⟨(s : ByteArray),_⟩ hpre F hnt0 _
 have hnt : F.nt = 17 := hnt0.trans ntmps22
 clear hpre
 refine W.to (⟨[(0,.v (.string s))],[],[999]⟩) rfl ?_
 refine W.K cok tab22 hnt [] [0] (⟨[(0,.v (.string s))],[],[999]⟩)
  (True ∧ True) (by kernel_rfl)
  ⟨tt,tt⟩ ?_
 refine W.K cok tab22 hnt [] [2] (⟨[(2,.b ((((isSingle s) || (eqS s nQueue)) || (eqS s nStack)) || (eqS s nSet)))],[],[999]⟩)
  (True ∧ (True ∧ (True ∧ True) ∧ True) ∧ True ∧ ((!(isSingle s)) = true → True) ∧ ((!(isSingle s)) = true → ((((!(isSingle s)) = true) ∧ True) ∧ True ∧ True)) ∧ (True ∧ ((isSingle s) = true → True) ∧ ((isSingle s) = false → ((!(isSingle s)) = true) ∧ True)) ∧ True ∧ ((!((isSingle s) || (eqS s nQueue))) = true → True) ∧ ((!((isSingle s) || (eqS s nQueue))) = true → ((((!((isSingle s) || (eqS s nQueue))) = true) ∧ True) ∧ True ∧ True)) ∧ (True ∧ (((isSingle s) || (eqS s nQueue)) = true → True) ∧ (((isSingle s) || (eqS s nQueue)) = false → ((!((isSingle s) || (eqS s nQueue))) = true) ∧ True)) ∧ True ∧ ((!(((isSingle s) || (eqS s nQueue)) || (eqS s nStack))) = true → True) ∧ ((!(((isSingle s) || (eqS s nQueue)) || (eqS s nStack))) = true → ((((!(((isSingle s) || (eqS s nQueue)) || (eqS s nStack))) = true) ∧ True) ∧ True ∧ True)) ∧ (True ∧ ((((isSingle s) || (eqS s nQueue)) || (eqS s nStack)) = true → True) ∧ ((((isSingle s) || (eqS s nQueue)) || (eqS s nStack)) = false → ((!(((isSingle s) || (eqS s nQueue)) || (eqS s nStack))) = true) ∧ True)) ∧ True ∧ True) (by kernel_rfl)
  ⟨tt,⟨tt,⟨tt,tt⟩,tt⟩,tt,(fun _ => trivial),(fun hG => ⟨⟨hG,tt⟩,tt,tt⟩),⟨tt,(fun _ => trivial),(fun hp => ⟨(not_t hp),tt⟩)⟩,tt,(fun _ => trivial),(fun hG => ⟨⟨hG,tt⟩,tt,tt⟩),⟨tt,(fun _ => trivial),(fun hp => ⟨(not_t hp),tt⟩)⟩,tt,(fun _ => trivial),(fun hG => ⟨⟨hG,tt⟩,tt,tt⟩),⟨tt,(fun _ => trivial),(fun hp => ⟨(not_t hp),tt⟩)⟩,tt,tt⟩ ?_
 refine W.ret ?_
 exact endQ_ret (.b ((((isSingle s) || (eqS s nQueue)) || (eqS s nStack)) || (eqS s nSet))) (by kernel_rfl) (@cast ((.bool ((((isSingle s) || (eqS s nQueue)) || (eqS s nStack)) || (eqS s nSet)) : Value) = .bool (isObject s)) _ (by kernel_rfl) (congrArg Value.bool (by exact single_obj s)))
theorem ent22 : Entr prog 22 := ⟨_,func22,rfl,by decide⟩
end Go.Proofs.Try

set_option linter.unusedSimpArgs false
set_option linter.unusedVariables false
namespace Go.Proofs.Try
open Go.Ab Go.RowKit
def fs53 : FnS := fnS [.o,.o,.o] [.int,.int,.int] (fun _ (n,low,high,_) => (.b (within n low high),[],True))
abbrev T53 : Tab := lk []
theorem tab53 : TabOK prog T53 := TabOK.nil
set_option maxRecDepth 100000 in
set_option maxHeartbeats 1000000 in
theorem ok53 : FnOK prog 53 fs53 := by
 refine FnOK.mk cok func53 rfl rfl rfl ?_
 rintro fl ⟨(n : Int),(low : Int),(high : Int),_⟩ hpre F hnt0 _
 have hnt : F.nt = 15 := hnt0.trans ntmps53
 clear hpre
 refine W.to (⟨[(0,.i n),(1,.i low),(2,.i high)],[],[999]⟩) rfl ?_
 refine W.K cok tab53 hnt [] [0,1,2] (⟨[(0,.i n),(1,.i low),(2,.i high)],[],[999]⟩)
  (True ∧ True) (by kernel_rfl)
  ⟨tt,tt⟩ ?_
 refine W.K cok tab53 hnt [] [6] (⟨[(6,.b ((decide (low ≤ n)) && (decide (n ≤ high))))],[],[999]⟩)
  (True ∧ True ∧ (True ∧ True ∧ True) ∧ True ∧ ((decide (low ≤ n)) = true → True) ∧ ((decide (low ≤ n)) = true → True) ∧ ((decide (low ≤ n)) = true → ((((decide (low ≤ n)) = true) ∧ True) ∧ (((decide (low ≤ n)) = true) ∧ True) ∧ True)) ∧ (True ∧ ((decide (low ≤ n)) = true → ((decide (low ≤ n)) = true) ∧ True) ∧ ((decide (low ≤ n)) = false → True)) ∧ True ∧ True) (by kernel_rfl)
  ⟨tt,tt,⟨tt,tt,tt⟩,tt,(fun _ => trivial),(fun _ => trivial),(fun hG => ⟨⟨hG,tt⟩,⟨hG,tt⟩,tt⟩),⟨tt,(fun hp => ⟨hp,tt⟩),(fun _ => trivial)⟩,tt,tt⟩ ?_
 refine W.ret ?_
 exact endQ_ret (.b ((decide (low ≤ n)) && (decide (n ≤ high)))) (by kernel_rfl) (@cast ((.bool ((decide (low ≤ n)) && (decide (n ≤ high))) : Value) = .bool (within n low high)) _ (by kernel_rfl) (congrArg Value.bool (by first | rfl | simp_all)))
theorem ent53 : Entr prog 53 := ⟨_,func53,rfl,by decide⟩
end Go.Proofs.Try

set_option linter.unusedSimpArgs false
set_option linter.unusedVariables false
namespace Go.Proofs.Try
open Go.Ab Go.RowKit
def fs40 : FnS := fnS [.o] [.call] (fun _ (c,_) => (.b (isCall c),[],True))
abbrev T40 : Tab := lk [(53,fs53)]
theorem tab40 : TabOK prog T40 := (TabOK.cons ok53 ent53 TabOK.nil)
set_option maxRecDepth 100000 in
set_option maxHeartbeats 1000000 in
theorem ok40 : FnOK prog 40 fs40 := by
 refine FnOK.mk cok func40 rfl rfl rfl ?_
 rintro fl ⟨(c : CallD),_⟩ hpre F hnt0 _
 have hnt : F.nt = 43 := hnt0.trans ntmps40
 clear hpre
 refine W.to (⟨[(0,.agg [.i c.proc,.i c.obj,.i c.kind,.i c.arg,.i c.ret,.i c.frm,.i c.to])],[],[999]⟩) rfl ?_
 refine W.K cok tab40 hnt [] [1] (⟨[(1,.ptr 1 0)],[(1,⟨49,.fix [.i c.proc,.i c.obj,.i c.kind,.i c.arg,.i c.ret,.i c.frm,.i c.to]⟩)],[1,999]⟩)
  (True ∧ True ∧ True) (by kernel_rfl)
  ⟨tt,tt,tt⟩ ?_
 refine W.K cok tab40 hnt [] [2] (⟨[(2,.b ((((((((within c.proc (0 : Int) (2 : Int)) && (within c.obj (0 : Int) (1 : Int))) && (within c.kind (0 : Int) (2 : Int))) && (within c.arg (0 : Int) (3 : Int))) && (within c.ret (-1 : Int) (20 : Int))) && (within c.frm (0 : Int) (30 : Int))) && (within c.to (0 : Int) (30 : Int))) && (decide (c.frm < c.to))))],[(1,⟨49,.fix [.i c.proc,.i c.obj,.i c.kind,.i c.arg,.i c.ret,.i c.frm,.i c.to]⟩)],[1,999]⟩)
  (True ∧ True ∧ (True ∧ (True ∧ True ∧ True ∧ True) ∧ True) ∧ True ∧ ((within c.proc (0 : Int) (2 : Int)) = true → True) ∧ ((within c.proc (0 : Int) (2 : Int)) = true → (((within c.proc (0 : Int) (2 : Int)) = true) ∧ True)) ∧ ((within c.proc (0 : Int) (2 : Int)) = true → (True ∧ ((((within c.proc (0 : Int) (2 : Int)) = true) ∧ True) ∧ True ∧ True ∧ True) ∧ True)) ∧ (True ∧ ((within c.proc (0 : Int) (2 : Int)) = true → ((within c.proc (0 : Int) (2 : Int)) = true) ∧ True) ∧ ((within c.proc (0 : Int) (2 : Int)) = false → True)) ∧ True ∧ (((within c.proc (0 : Int) (2 : Int)) && (within c.obj (0 : Int) (1 : Int))) = true → True) ∧ (((within c.proc (0 : Int) (2 : Int)) && (within c.obj (0 : Int) (1 : Int))) = true → ((((within c.proc (0 : Int) (2 : Int)) && (within c.obj (0 : Int) (1 : Int))) = true) ∧ True)) ∧ (((within c.proc (0 : Int) (2 : Int)) && (within c.obj (0 : Int) (1 : Int))) = true → (True ∧ (((((within c.proc (0 : Int) (2 : Int)) && (within c.obj (0 : Int) (1 : Int))) = true) ∧ True) ∧ True ∧ True ∧ True) ∧ True)) ∧ (True ∧ (((within c.proc (0 : Int) (2 : Int)) && (within c.obj (0 : Int) (1 : Int))) = true → (((within c.proc (0 : Int) (2 : Int)) && (within c.obj (0 : Int) (1 : Int))) = true) ∧ True) ∧ (((within c.proc (0 : Int) (2 : Int)) && (within c.obj (0 : Int) (1 : Int))) = false → True)) ∧ True ∧ ((((within c.proc (0 : Int) (2 : Int)) && (within c.obj (0 : Int) (1 : Int))) && (within c.kind (0 : Int) (2 : Int))) = true → True) ∧ ((((within c.proc (0 : Int) (2 : Int)) && (within c.obj (0 : Int) (1 : Int))) && (within c.kind (0 : Int) (2 : Int))) = true → (((((within c.proc (0 : Int) (2 : Int)) && (within c.obj (0 : Int) (1 : Int))) && (within c.kind (0 : Int) (2 : Int))) = true) ∧ True)) ∧ ((((within c.proc (0 : Int) (2 : Int)) && (within c.obj (0 : Int) (1 : Int))) && (within c.kind (0 : Int) (2 : Int))) = true → (True ∧ ((((((within c.proc (0 : Int) (2 : Int)) && (within c.obj (0 : Int) (1 : Int))) && (within c.kind (0 : Int) (2 : Int))) = true) ∧ True) ∧ True ∧ True ∧ True) ∧ True)) ∧ (True ∧ ((((within c.proc (0 : Int) (2 : Int)) && (within c.obj (0 : Int) (1 : Int))) && (within c.kind (0 : Int) (2 : Int))) = true → ((((within c.proc (0 : Int) (2 : Int)) && (within c.obj (0 : Int) (1 : Int))) && (within c.kind (0 : Int) (2 : Int))) = true) ∧ True) ∧ ((((within c.proc (0 : Int) (2 : Int)) && (within c.obj (0 : Int) (1 : Int))) && (within c.kind (0 : Int) (2 : Int))) = false → True)) ∧ True ∧ (((((within c.proc (0 : Int) (2 : Int)) && (within c.obj (0 : Int) (1 : Int))) && (within c.kind (0 : Int) (2 : Int))) && (within c.arg (0 : Int) (3 : Int))) = true → True) ∧ (((((within c.proc (0 : Int) (2 : Int)) && (within c.obj (0 : Int) (1 : Int))) && (within c.kind (0 : Int) (2 : Int))) && (within c.arg (0 : Int) (3 : Int))) = true → ((((((within c.proc (0 : Int) (2 : Int)) && (within c.obj (0 : Int) (1 : Int))) && (within c.kind (0 : Int) (2 : Int))) && (within c.arg (0 : Int) (3 : Int))) = true) ∧ True)) ∧ (((((within c.proc (0 : Int) (2 : Int)) && (within c.obj (0 : Int) (1 : Int))) && (within c.kind (0 : Int) (2 : Int))) && (within c.arg (0 : Int) (3 : Int))) = true → (True ∧ (((((((within c.proc (0 : Int) (2 : Int)) && (within c.obj (0 : Int) (1 : Int))) && (within c.kind (0 : Int) (2 : Int))) && (within c.arg (0 : Int) (3 : Int))) = true) ∧ True) ∧ True ∧ True ∧ True) ∧ True)) ∧ (True ∧ (((((within c.proc (0 : Int) (2 : Int)) && (within c.obj (0 : Int) (1 : Int))) && (within c.kind (0 : Int) (2 : Int))) && (within c.arg (0 : Int) (3 : Int))) = true → (((((within c.proc (0 : Int) (2 : Int)) && (within c.obj (0 : Int) (1 : Int))) && (within c.kind (0 : Int) (2 : Int))) && (within c.arg (0 : Int) (3 : Int))) = true) ∧ True) ∧ (((((within c.proc (0 : Int) (2 : Int)) && (within c.obj (0 : Int) (1 : Int))) && (within c.kind (0 : Int) (2 : Int))) && (within c.arg (0 : Int) (3 : Int))) = false → True)) ∧ True ∧ ((((((within c.proc (0 : Int) (2 : Int)) && (within c.obj (0 : Int) (1 : Int))) && (within c.kind (0 : Int) (2 : Int))) && (within c.arg (0 : Int) (3 : Int))) && (within c.ret (-1 : Int) (20 : Int))) = true → True) ∧ ((((((within c.proc (0 : Int) (2 : Int)) && (within c.obj (0 : Int) (1 : Int))) && (within c.kind (0 : Int) (2 : Int))) && (within c.arg (0 : Int) (3 : Int))) && (within c.ret (-1 : Int) (20 : Int))) = true → (((((((within c.proc (0 : Int) (2 : Int)) && (within c.obj (0 : Int) (1 : Int))) && (within c.kind (0 : Int) (2 : Int))) && (within c.arg (0 : Int) (3 : Int))) && (within c.ret (-1 : Int) (20 : Int))) = true) ∧ True)) ∧ ((((((within c.proc (0 : Int) (2 : Int)) && (within c.obj (0 : Int) (1 : Int))) && (within c.kind (0 : Int) (2 : Int))) && (within c.arg (0 : Int) (3 : Int))) && (within c.ret (-1 : Int) (20 : Int))) = true → (True ∧ ((((((((within c.proc (0 : Int) (2 : Int)) && (within c.obj (0 : Int) (1 : Int))) && (within c.kind (0 : Int) (2 : Int))) && (within c.arg (0 : Int) (3 : Int))) && (within c.ret (-1 : Int) (20 : Int))) = true) ∧ True) ∧ True ∧ True ∧ True) ∧ True)) ∧ (True ∧ ((((((within c.proc (0 : Int) (2 : Int)) && (within c.obj (0 : Int) (1 : Int))) && (within c.kind (0 : Int) (2 : Int))) && (within c.arg (0 : Int) (3 : Int))) && (within c.ret (-1 : Int) (20 : Int))) = true → ((((((within c.proc (0 : Int) (2 : Int)) && (within c.obj (0 : Int) (1 : Int))) && (within c.kind (0 : Int) (2 : Int))) && (within c.arg (0 : Int) (3 : Int))) && (within c.ret (-1 : Int) (20 : Int))) = true) ∧ True) ∧ ((((((within c.proc (0 : Int) (2 : Int)) && (within c.obj (0 : Int) (1 : Int))) && (within c.kind (0 : Int) (2 : Int))) && (within c.arg (0 : Int) (3 : Int))) && (within c.ret (-1 : Int) (20 : Int))) = false → True)) ∧ True ∧ (((((((within c.proc (0 : Int) (2 : Int)) && (within c.obj (0 : Int) (1 : Int))) && (within c.kind (0 : Int) (2 : Int))) && (within c.arg (0 : Int) (3 : Int))) && (within c.ret (-1 : Int) (20 : Int))) && (within c.frm (0 : Int) (30 : Int))) = true → True) ∧ (((((((within c.proc (0 : Int) (2 : Int)) && (within c.obj (0 : Int) (1 : Int))) && (within c.kind (0 : Int) (2 : Int))) && (within c.arg (0 : Int) (3 : Int))) && (within c.ret (-1 : Int) (20 : Int))) && (within c.frm (0 : Int) (30 : Int))) = true → ((((((((within c.proc (0 : Int) (2 : Int)) && (within c.obj (0 : Int) (1 : Int))) && (within c.kind (0 : Int) (2 : Int))) && (within c.arg (0 : Int) (3 : Int))) && (within c.ret (-1 : Int) (20 : Int))) && (within c.frm (0 : Int) (30 : Int))) = true) ∧ True)) ∧ (((((((within c.proc (0 : Int) (2 : Int)) && (within c.obj (0 : Int) (1 : Int))) && (within c.kind (0 : Int) (2 : Int))) && (within c.arg (0 : Int) (3 : Int))) && (within c.ret (-1 : Int) (20 : Int))) && (within c.frm (0 : Int) (30 : Int))) = true → (True ∧ (((((((((within c.proc (0 : Int) (2 : Int)) && (within c.obj (0 : Int) (1 : Int))) && (within c.kind (0 : Int) (2 : Int))) && (within c.arg (0 : Int) (3 : Int))) && (within c.ret (-1 : Int) (20 : Int))) && (within c.frm (0 : Int) (30 : Int))) = true) ∧ True) ∧ True ∧ True ∧ True) ∧ True)) ∧ (True ∧ (((((((within c.proc (0 : Int) (2 : Int)) && (within c.obj (0 : Int) (1 : Int))) && (within c.kind (0 : Int) (2 : Int))) && (within c.arg (0 : Int) (3 : Int))) && (within c.ret (-1 : Int) (20 : Int))) && (within c.frm (0 : Int) (30 : Int))) = true → (((((((within c.proc (0 : Int) (2 : Int)) && (within c.obj (0 : Int) (1 : Int))) && (within c.kind (0 : Int) (2 : Int))) && (within c.arg (0 : Int) (3 : Int))) && (within c.ret (-1 : Int) (20 : Int))) && (within c.frm (0 : Int) (30 : Int))) = true) ∧ True) ∧ (((((((within c.proc (0 : Int) (2 : Int)) && (within c.obj (0 : Int) (1 : Int))) && (within c.kind (0 : Int) (2 : Int))) && (within c.arg (0 : Int) (3 : Int))) && (within c.ret (-1 : Int) (20 : Int))) && (within c.frm (0 : Int) (30 : Int))) = false → True)) ∧ True ∧ ((((((((within c.proc (0 : Int) (2 : Int)) && (within c.obj (0 : Int) (1 : Int))) && (within c.kind (0 : Int) (2 : Int))) && (within c.arg (0 : Int) (3 : Int))) && (within c.ret (-1 : Int) (20 : Int))) && (within c.frm (0 : Int) (30 : Int))) && (within c.to (0 : Int) (30 : Int))) = true → True) ∧ ((((((((within c.proc (0 : Int) (2 : Int)) && (within c.obj (0 : Int) (1 : Int))) && (within c.kind (0 : Int) (2 : Int))) && (within c.arg (0 : Int) (3 : Int))) && (within c.ret (-1 : Int) (20 : Int))) && (within c.frm (0 : Int) (30 : Int))) && (within c.to (0 : Int) (30 : Int))) = true → (((((((((within c.proc (0 : Int) (2 : Int)) && (within c.obj (0 : Int) (1 : Int))) && (within c.kind (0 : Int) (2 : Int))) && (within c.arg (0 : Int) (3 : Int))) && (within c.ret (-1 : Int) (20 : Int))) && (within c.frm (0 : Int) (30 : Int))) && (within c.to (0 : Int) (30 : Int))) = true) ∧ True)) ∧ ((((((((within c.proc (0 : Int) (2 : Int)) && (within c.obj (0 : Int) (1 : Int))) && (within c.kind (0 : Int) (2 : Int))) && (within c.arg (0 : Int) (3 : Int))) && (within c.ret (-1 : Int) (20 : Int))) && (within c.frm (0 : Int) (30 : Int))) && (within c.to (0 : Int) (30 : Int))) = true → True) ∧ ((((((((within c.proc (0 : Int) (2 : Int)) && (within c.obj (0 : Int) (1 : Int))) && (within c.kind (0 : Int) (2 : Int))) && (within c.arg (0 : Int) (3 : Int))) && (within c.ret (-1 : Int) (20 : Int))) && (within c.frm (0 : Int) (30 : Int))) && (within c.to (0 : Int) (30 : Int))) = true → (((((((((within c.proc (0 : Int) (2 : Int)) && (within c.obj (0 : Int) (1 : Int))) && (within c.kind (0 : Int) (2 : Int))) && (within c.arg (0 : Int) (3 : Int))) && (within c.ret (-1 : Int) (20 : Int))) && (within c.frm (0 : Int) (30 : Int))) && (within c.to (0 : Int) (30 : Int))) = true) ∧ True)) ∧ ((((((((within c.proc (0 : Int) (2 : Int)) && (within c.obj (0 : Int) (1 : Int))) && (within c.kind (0 : Int) (2 : Int))) && (within c.arg (0 : Int) (3 : Int))) && (within c.ret (-1 : Int) (20 : Int))) && (within c.frm (0 : Int) (30 : Int))) && (within c.to (0 : Int) (30 : Int))) = true → ((((((((((within c.proc (0 : Int) (2 : Int)) && (within c.obj (0 : Int) (1 : Int))) && (within c.kind (0 : Int) (2 : Int))) && (within c.arg (0 : Int) (3 : Int))) && (within c.ret (-1 : Int) (20 : Int))) && (within c.frm (0 : Int) (30 : Int))) && (within c.to (0 : Int) (30 : Int))) = true) ∧ True) ∧ (((((((((within c.proc (0 : Int) (2 : Int)) && (within c.obj (0 : Int) (1 : Int))) && (within c.kind (0 : Int) (2 : Int))) && (within c.arg (0 : Int) (3 : Int))) && (within c.ret (-1 : Int) (20 : Int))) && (within c.frm (0 : Int) (30 : Int))) && (within c.to (0 : Int) (30 : Int))) = true) ∧ True) ∧ True)) ∧ (True ∧ ((((((((within c.proc (0 : Int) (2 : Int)) && (within c.obj (0 : Int) (1 : Int))) && (within c.kind (0 : Int) (2 : Int))) && (within c.arg (0 : Int) (3 : Int))) && (within c.ret (-1 : Int) (20 : Int))) && (within c.frm (0 : Int) (30 : Int))) && (within c.to (0 : Int) (30 : Int))) = true → ((((((((within c.proc (0 : Int) (2 : Int)) && (within c.obj (0 : Int) (1 : Int))) && (within c.kind (0 : Int) (2 : Int))) && (within c.arg (0 : Int) (3 : Int))) && (within c.ret (-1 : Int) (20 : Int))) && (within c.frm (0 : Int) (30 : Int))) && (within c.to (0 : Int) (30 : Int))) = true) ∧ True) ∧ ((((((((within c.proc (0 : Int) (2 : Int)) && (within c.obj (0 : Int) (1 : Int))) && (within c.kind (0 : Int) (2 : Int))) && (within c.arg (0 : Int) (3 : Int))) && (within c.ret (-1 : Int) (20 : Int))) && (within c.frm (0 : Int) (30 : Int))) && (within c.to (0 : Int) (30 : Int))) = false → True)) ∧ True ∧ True) (by kernel_rfl)
  ⟨tt,tt,⟨tt,⟨tt,tt,tt,tt⟩,tt⟩,tt,(fun _ => trivial),(fun hG => ⟨hG,tt⟩),(fun hG => ⟨tt,⟨⟨hG,tt⟩,tt,tt,tt⟩,tt⟩),⟨tt,(fun hp => ⟨hp,tt⟩),(fun _ => trivial)⟩,tt,(fun _ => trivial),(fun hG => ⟨hG,tt⟩),(fun hG => ⟨tt,⟨⟨hG,tt⟩,tt,tt,tt⟩,tt⟩),⟨tt,(fun hp => ⟨hp,tt⟩),(fun _ => trivial)⟩,tt,(fun _ => trivial),(fun hG => ⟨hG,tt⟩),(fun hG => ⟨tt,⟨⟨hG,tt⟩,tt,tt,tt⟩,tt⟩),⟨tt,(fun hp => ⟨hp,tt⟩),(fun _ => trivial)⟩,tt,(fun _ => trivial),(fun hG => ⟨hG,tt⟩),(fun hG => ⟨tt,⟨⟨hG,tt⟩,tt,tt,tt⟩,tt⟩),⟨tt,(fun hp => ⟨hp,tt⟩),(fun _ => trivial)⟩,tt,(fun _ => trivial),(fun hG => ⟨hG,tt⟩),(fun hG => ⟨tt,⟨⟨hG,tt⟩,tt,tt,tt⟩,tt⟩),⟨tt,(fun hp => ⟨hp,tt⟩),(fun _ => trivial)⟩,tt,(fun _ => trivial),(fun hG => ⟨hG,tt⟩),(fun hG => ⟨tt,⟨⟨hG,tt⟩,tt,tt,tt⟩,tt⟩),⟨tt,(fun hp => ⟨hp,tt⟩),(fun _ => trivial)⟩,tt,(fun _ => trivial),(fun hG => ⟨hG,tt⟩),(fun _ => trivial),(fun hG => ⟨hG,tt⟩),(fun hG => ⟨⟨hG,tt⟩,⟨hG,tt⟩,tt⟩),⟨tt,(fun hp => ⟨hp,tt⟩),(fun _ => trivial)⟩,tt,tt⟩ ?_
 refine W.ret ?_
 exact endQ_ret (.b ((((((((within c.proc (0 : Int) (2 : Int)) && (within c.obj (0 : Int) (1 : Int))) && (within c.kind (0 : Int) (2 : Int))) && (within c.arg (0 : Int) (3 : Int))) && (within c.ret (-1 : Int) (20 : Int))) && (within c.frm (0 : Int) (30 : Int))) && (within c.to (0 : Int) (30 : Int))) && (decide (c.frm < c.to)))) (by kernel_rfl) (@cast ((.bool ((((((((within c.proc (0 : Int) (2 : Int)) && (within c.obj (0 : Int) (1 : Int))) && (within c.kind (0 : Int) (2 : Int))) && (within c.arg (0 : Int) (3 : Int))) && (within c.ret (-1 : Int) (20 : Int))) && (within c.frm (0 : Int) (30 : Int))) && (within c.to (0 : Int) (30 : Int))) && (decide (c.frm < c.to))) : Value) = .bool (isCall c)) _ (by kernel_rfl) (congrArg Value.bool (by first | rfl | simp_all)))
theorem ent40 : Entr prog 40 := ⟨_,func40,rfl,by decide⟩
end Go.Proofs.Try

set_option linter.unusedSimpArgs false
set_option linter.unusedVariables false
namespace Go.Proofs.Try
open Go.Ab Go.RowKit
def fs46 : FnS := fnS [.o,.o] [.call,.call] (fun _ (a,b,_) => (.b (isBefore a b),[],True))
abbrev T46 : Tab := lk []
theorem tab46 : TabOK prog T46 := TabOK.nil
set_option maxRecDepth 100000 in
set_option maxHeartbeats 1000000 in
theorem ok46 : FnOK prog 46 fs46 := by
 refine FnOK.mk cok func46 rfl rfl rfl ?_
 rintro fl ⟨(a : CallD),(b : CallD),_⟩ hpre F hnt0 _
 have hnt : F.nt = 10 := hnt0.trans ntmps46
 clear hpre
 refine W.to (⟨[(0,.agg [.i a.proc,.i a.obj,.i a.kind,.i a.arg,.i a.ret,.i a.frm,.i a.to]),(1,.agg [.i b.proc,.i b.obj,.i b.kind,.i b.arg,.i b.ret,.i b.frm,.i b.to])],[],[999]⟩) rfl ?_
 refine W.K cok tab46 hnt [] [2,3] (⟨[(2,.ptr 2 0),(3,.ptr 3 0)],[(2,⟨49,.fix [.i a.proc,.i a.obj,.i a.kind,.i a.arg,.i a.ret,.i a.frm,.i a.to]⟩),(3,⟨49,.fix [.i b.proc,.i b.obj,.i b.kind,.i b.arg,.i b.ret,.i b.frm,.i b.to]⟩)],[3,2,999]⟩)
  (True ∧ True ∧ True ∧ True) (by kernel_rfl)
  ⟨tt,tt,tt,tt⟩ ?_
 refine W.K cok tab46 hnt [] [4] (⟨[(4,.b (decide (a.to < b.frm)))],[(2,⟨49,.fix [.i a.proc,.i a.obj,.i a.kind,.i a.arg,.i a.ret,.i a.frm,.i a.to]⟩),(3,⟨49,.fix [.i b.proc,.i b.obj,.i b.kind,.i b.arg,.i b.ret,.i b.frm,.i b.to]⟩)],[3,2,999]⟩)
  (True ∧ True ∧ True ∧ True ∧ (True ∧ True ∧ True) ∧ True ∧ True) (by kernel_rfl)
  ⟨tt,tt,tt,tt,⟨tt,tt,tt⟩,tt,tt⟩ ?_
 refine W.ret ?_
 exact endQ_ret (.b (decide (a.to < b.frm))) (by kernel_rfl) (@cast ((.bool (decide (a.to < b.frm)) : Value) = .bool (isBefore a b)) _ (by kernel_rfl) (congrArg Value.bool (by first | rfl | simp_all)))
theorem ent46 : Entr prog 46 := ⟨_,func46,rfl,by decide⟩
end Go.Proofs.Try

set_option linter.unusedSimpArgs false
set_option linter.unusedVariables false
namespace Go.Proofs.Try
open Go.Ab Go.RowKit
def fs41 : FnS := fnS [.o,.o] [.call,.call] (fun _ (a,b,_) => (.b (doOverlap a b),[],True))
abbrev T41 : Tab := lk [(46,fs46)]
theorem tab41 : TabOK prog T41 := (TabOK.cons ok46 ent46 TabOK.nil)
set_option maxRecDepth 100000 in
set_option maxHeartbeats 1000000 in
theorem ok41 : FnOK prog 41 fs41 := by
 refine FnOK.mk cok func41 rfl rfl rfl ?_
 rintro fl ⟨(a : CallD),(b : CallD),_⟩ hpre F hnt0 _
 have hnt : F.nt = 15 := hnt0.trans ntmps41
 clear hpre
 refine W.to (⟨[(0,.agg [.i a.proc,.i a.obj,.i a.kind,.i a.arg,.i a.ret,.i a.frm,.i a.to]),(1,.agg [.i b.proc,.i b.obj,.i b.kind,.i b.arg,.i b.ret,.i b.frm,.i b.to])],[],[999]⟩) rfl ?_
 refine W.K cok tab41 hnt [] [2,3] (⟨[(2,.ptr 2 0),(3,.ptr 3 0)],[(2,⟨49,.fix [.i a.proc,.i a.obj,.i a.kind,.i a.arg,.i a.ret,.i a.frm,.i a.to]⟩),(3,⟨49,.fix [.i b.proc,.i b.obj,.i b.kind,.i b.arg,.i b.ret,.i b.frm,.i b.to]⟩)],[3,2,999]⟩)
  (True ∧ True ∧ True ∧ True) (by kernel_rfl)
  ⟨tt,tt,tt,tt⟩ ?_
 refine W.K cok tab41 hnt [] [4] (⟨[(4,.b ((!(isBefore a b)) && (!(isBefore b a))))],[(2,⟨49,.fix [.i a.proc,.i a.obj,.i a.kind,.i a.arg,.i a.ret,.i a.frm,.i a.to]⟩),(3,⟨49,.fix [.i b.proc,.i b.obj,.i b.kind,.i b.arg,.i b.ret,.i b.frm,.i b.to]⟩)],[3,2,999]⟩)
  (True ∧ True ∧ (True ∧ (True ∧ True ∧ True) ∧ True) ∧ True ∧ True ∧ ((!(isBefore a b)) = true → True) ∧ ((!(isBefore a b)) = true → True) ∧ ((!(isBefore a b)) = true → (True ∧ ((((!(isBefore a b)) = true) ∧ True) ∧ (((!(isBefore a b)) = true) ∧ True) ∧ True) ∧ True)) ∧ ((!(isBefore a b)) = true → (((!(isBefore a b)) = true) ∧ True)) ∧ (True ∧ ((!(isBefore a b)) = true → ((!(isBefore a b)) = true) ∧ True) ∧ ((!(isBefore a b)) = false → True)) ∧ True ∧ True) (by kernel_rfl)
  ⟨tt,tt,⟨tt,⟨tt,tt,tt⟩,tt⟩,tt,tt,(fun _ => trivial),(fun _ => trivial),(fun hG => ⟨tt,⟨⟨hG,tt⟩,⟨hG,tt⟩,tt⟩,tt⟩),(fun hG => ⟨hG,tt⟩),⟨tt,(fun hp => ⟨hp,tt⟩),(fun _ => trivial)⟩,tt,tt⟩ ?_
 refine W.ret ?_
 exact endQ_ret (.b ((!(isBefore a b)) && (!(isBefore b a)))) (by kernel_rfl) (@cast ((.bool ((!(isBefore a b)) && (!(isBefore b a))) : Value) = .bool (doOverlap a b)) _ (by kernel_rfl) (congrArg Value.bool (by first | rfl | simp_all)))
theorem ent41 : Entr prog 41 := ⟨_,func41,rfl,by decide⟩
end Go.Proofs.Try
