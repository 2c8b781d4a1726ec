import Derived.Test.YthjkiipikpiepaaM1
set_option linter.unusedSimpArgs false
set_option linter.unusedVariables false
namespace Go.Ab
/-! ### Sums of powers of 2 -/
def maskN : Nat → (Nat → Bool) → Nat
  | 0, _ => 0
  | n + 1, p => maskN n p ||| (bif p n then 2 ^ n else 0)
def mask (n : Nat) (p : Nat → Bool) : Int := ((maskN n p : Nat) : Int)
theorem maskN_bit (n : Nat) (p : Nat → Bool) (j : Nat) : (maskN n p).testBit j = (decide (j < n) && p j) := by
  induction n with
  | zero => simp [maskN]
  | succ n ih =>
    simp only [maskN, Nat.testBit_or, ih]
    by_cases hj : j = n
    · subst hj
      cases hp : p j <;> simp [Nat.testBit_two_pow]
    · have e : (bif p n then 2 ^ n else 0).testBit j = false := by
        cases hp : p n <;> simp [Nat.testBit_two_pow]; omega
      rw [e, Bool.or_false]
      by_cases h1 : j < n
      · simp [h1, show j < n + 1 by omega]
      · simp [h1, show ¬ j < n + 1 by omega]
theorem maskN_lt (n : Nat) (p : Nat → Bool) : maskN n p < 2 ^ n := by
  apply Nat.lt_pow_two_of_testBit
  intro i hi
  rw [maskN_bit]
  simp; omega
theorem or_pow {a k : Nat} (h : a < 2 ^ k) : a ||| 2 ^ k = a + 2 ^ k := by
  have := Nat.two_pow_add_eq_or_of_lt h 1
  rw [Nat.mul_one] at this
  rw [Nat.or_comm, ← this, Nat.add_comm]
theorem maskN_succ (n : Nat) (p : Nat → Bool) : maskN (n + 1) p = maskN n p + (bif p n then 2 ^ n else 0) := by
  simp only [maskN]
  cases hp : p n
  · simp
  · simp only [cond_true]; exact or_pow (maskN_lt n p)
theorem bits_or {a b : Nat} (ha : a < 2 ^ 63) (hb : b < 2 ^ 63) : bitsI .or .i64 (a : Int) (b : Int) = ((a ||| b : Nat) : Int) := by
  have e : bitsI .or .i64 (a : Int) (b : Int) = IntKind.i64.wrap (((BitVec.ofInt 64 a ||| BitVec.ofInt 64 b).toNat : Nat) : Int) := rfl
  have h1 : (BitVec.ofInt 64 (a : Int)).toNat = a := by rw [BitVec.toNat_ofInt]; omega
  have h2 : (BitVec.ofInt 64 (b : Int)).toNat = b := by rw [BitVec.toNat_ofInt]; omega
  rw [e, BitVec.toNat_or, h1, h2]
  have := Nat.or_lt_two_pow ha hb
  exact IntWalk.i64_in _ (by omega)
theorem bits_and {a b : Nat} (ha : a < 2 ^ 63) (hb : b < 2 ^ 63) : bitsI .and .i64 (a : Int) (b : Int) = ((a &&& b : Nat) : Int) := by
  have e : bitsI .and .i64 (a : Int) (b : Int) = IntKind.i64.wrap (((BitVec.ofInt 64 a &&& BitVec.ofInt 64 b).toNat : Nat) : Int) := rfl
  have h1 : (BitVec.ofInt 64 (a : Int)).toNat = a := by rw [BitVec.toNat_ofInt]; omega
  have h2 : (BitVec.ofInt 64 (b : Int)).toNat = b := by rw [BitVec.toNat_ofInt]; omega
  rw [e, BitVec.toNat_and, h1, h2]
  have := Nat.and_lt_two_pow a hb
  exact IntWalk.i64_in _ (by omega)
theorem shl_one {k : Nat} (h : k ≤ 62) : shlI .i64 1 ((k : Nat) : Int) = ((2 ^ k : Nat) : Int) := by
  unfold shlI
  have : min (Int.toNat ((k : Nat) : Int)) IntKind.i64.bits = k := by
    rw [show IntKind.i64.bits = 64 from rfl]; omega
  rw [this, Int.one_mul]
  simp
theorem pow_le {k : Nat} (h : k ≤ 62) : 2 ^ k ≤ 4611686018427387904 := by
  have := Nat.pow_le_pow_right (show 0 < 2 by omega) h
  simpa using this
theorem fits_shl {k : Nat} (h : k ≤ 60) : Fits .i64 (shlI .i64 1 ((k : Nat) : Int)) := by
  rw [shl_one (by omega)]
  have := pow_le (k := k) (by omega)
  generalize 2 ^ k = m at *
  exact fits_i64 (by omega) (by omega)
theorem mask_or {n : Nat} (p : Nat → Bool) (h : n ≤ 60) (hp : p n = true) : bitsI .or .i64 (mask n p) (shlI .i64 1 ((n : Nat) : Int)) = mask (n + 1) p := by
  have h1 := maskN_lt n p
  have h2 := pow_le (k := n) (by omega)
  rw [shl_one (by omega)]
  unfold mask
  rw [bits_or (by omega) (by omega)]
  simp only [maskN, hp, cond_true]
theorem mask_skip {n : Nat} {p : Nat → Bool} (hp : p n = false) : mask (n + 1) p = mask n p := by simp [mask, maskN, hp]
theorem mask_add {n : Nat} {p : Nat → Bool} (hp : p n = true) : mask (n + 1) p = mask n p + ((2 ^ n : Nat) : Int) := by
  unfold mask; rw [maskN_succ, hp]; simp
theorem mask_bnd (n : Nat) (p : Nat → Bool) (h : n ≤ 61) : 0 ≤ mask n p ∧ mask n p ≤ 2305843009213693951 := by
  have h1 := maskN_lt n p
  have h2 := Nat.pow_le_pow_right (show 0 < 2 by omega) h
  unfold mask
  omega
def power (n : Int) : Int := ((2 ^ n.toNat : Nat) : Int)
def bitOf (x j : Int) : Int := Int.tmod (Int.tdiv x (power j)) 2
theorem bitOf_mask (n : Nat) (p : Nat → Bool) (j : Nat) : bitOf (mask n p) ((j : Nat) : Int) = if j < n ∧ p j = true then 1 else 0 := by
  unfold bitOf power mask
  rw [Int.toNat_natCast]
  have e : Int.tmod (Int.tdiv ((maskN n p : Nat) : Int) ((2 ^ j : Nat) : Int)) 2 = ((maskN n p / 2 ^ j % 2 : Nat) : Int) := rfl
  rw [e]
  have h := Nat.toNat_testBit (maskN n p) j
  rw [← h, maskN_bit]
  by_cases h1 : j < n <;> cases h2 : p j <;> simp [h1]
theorem bitOf_one {n : Nat} {p : Nat → Bool} {j : Nat} : bitOf (mask n p) ((j : Nat) : Int) = 1 ↔ j < n ∧ p j = true := by
  rw [bitOf_mask]; split <;> simp_all
theorem bitOf_zero {n : Nat} {p : Nat → Bool} {j : Nat} : bitOf (mask n p) ((j : Nat) : Int) = 0 ↔ ¬ (j < n ∧ p j = true) := by
  rw [bitOf_mask]; split <;> simp_all
theorem and_mask {n : Nat} (h : n ≤ 60) (p q : Nat → Bool) : bitsI .and .i64 (mask n p) (mask n q) = mask n (fun k => p k && q k) := by
  have h1 := maskN_lt n p
  have h1' := maskN_lt n q
  have h2 := pow_le (k := n) (by omega)
  unfold mask
  rw [bits_and (by omega) (by omega)]
  congr 1
  apply Nat.eq_of_testBit_eq
  intro i
  simp only [Nat.testBit_and, maskN_bit]
  cases decide (i < n) <;> simp
theorem mask_inj {n : Nat} {p q : Nat → Bool} : mask n p = mask n q ↔ ∀ k, k < n → p k = q k := by
  unfold mask
  constructor
  · intro h k hk
    have h1 : maskN n p = maskN n q := by omega
    have h2 : (maskN n p).testBit k = (maskN n q).testBit k := by rw [h1]
    simpa [maskN_bit, hk] using h2
  · intro h
    congr 1
    apply Nat.eq_of_testBit_eq
    intro i
    rw [maskN_bit, maskN_bit]
    by_cases hi : i < n
    · rw [h i hi]
    · simp [hi]
theorem power_pos (n : Int) : 1 ≤ power n := by
  unfold power; have := Nat.one_le_two_pow (n := n.toNat); omega
theorem power_le {n : Int} (h : n ≤ 60) : power n ≤ 1152921504606846976 := by
  unfold power
  have := Nat.pow_le_pow_right (show 0 < 2 by omega) (show n.toNat ≤ 60 by omega)
  omega
theorem power_step {x k : Int} (h : 0 < k) : 2 * x * power (k - 1) = x * power k := by
  unfold power
  rw [show k.toNat = (k - 1).toNat + 1 by omega, Nat.pow_succ, Int.natCast_mul, Int.mul_comm 2 x, Int.mul_assoc, Int.mul_comm (((2 ^ (k - 1).toNat : Nat) : Int)) _]
  rfl
theorem power_factor {x k n : Int} (h : x * power k = power n) (hx : 1 ≤ x) : x ≤ power n := by
  rw [← h]
  have := Int.mul_le_mul_of_nonneg_left (power_pos k) (show 0 ≤ x by omega)
  omega
theorem power_done {x k n : Int} (h : x * power k = power n) (hk : ¬ 0 < k) : x = power n := by
  rw [← h]; unfold power; rw [show k.toNat = 0 by omega]; simp
theorem ints_ext {a b : List Int} (h : a.length = b.length) (hA : ∀ j, j < a.length → a.getD j 0 = b.getD j 0) : a = b := by
  apply List.ext_getElem h
  intro i h1 h2
  have := hA i h1
  rwa [List.getD_eq_getElem?_getD, List.getD_eq_getElem?_getD, List.getElem?_eq_getElem h1, List.getElem?_eq_getElem h2] at this
/-! ### Rows of sums -/
def rowsOf (n : Nat) (f : Nat → Nat → Bool) : List Int := (List.range n).map fun i => mask n (f i)
def partRows (n : Nat) (f : Nat → Nat → Bool) (i k : Nat) : List Int := (List.range n).map fun j => if j < i then mask n (f j) else if j = i then mask k (f i) else 0
theorem rowsOf_len (n : Nat) (f : Nat → Nat → Bool) : (rowsOf n f).length = n := by simp [rowsOf]
theorem partRows_len (n : Nat) (f : Nat → Nat → Bool) (i k : Nat) : (partRows n f i k).length = n := by simp [partRows]
theorem rowsOf_get {n : Nat} (f : Nat → Nat → Bool) {i : Nat} (h : i < n) : (rowsOf n f).getD i 0 = mask n (f i) := by
  simp [rowsOf, List.getD_eq_getElem?_getD, h]
theorem partRows_get {n : Nat} (f : Nat → Nat → Bool) {i k : Nat} (h : i < n) : (partRows n f i k).getD i 0 = mask k (f i) := by
  simp [partRows, List.getD_eq_getElem?_getD, h]
theorem partRows_zero (n : Nat) (f : Nat → Nat → Bool) : List.replicate n 0 = partRows n f 0 0 := by
  apply List.ext_getElem
  · simp [partRows]
  · intro i h1 h2; simp [partRows]; intro h; simp [mask, maskN]
theorem partRows_set {n : Nat} {f : Nat → Nat → Bool} {i k : Nat} (_hi : i < n) {v : Int} (hv : v = mask (k + 1) (f i)) : (partRows n f i k).set i v = partRows n f i (k + 1) := by
  subst hv
  apply List.ext_getElem
  · simp [partRows]
  · intro j h1 h2
    simp only [List.getElem_set, partRows, List.getElem_map, List.getElem_range]
    by_cases hj : i = j
    · subst hj; simp
    · have hj' : ¬ j = i := fun h => hj h.symm
      simp [hj, hj']
theorem partRows_skip {n : Nat} {f : Nat → Nat → Bool} {i k : Nat} (hf : f i k = false) : partRows n f i k = partRows n f i (k + 1) := by
  unfold partRows; rw [mask_skip hf]
theorem partRows_next (n : Nat) (f : Nat → Nat → Bool) (i : Nat) : partRows n f i n = partRows n f (i + 1) 0 := by
  unfold partRows
  apply List.map_congr_left
  intro j _
  by_cases h1 : j < i
  · simp [h1, show j < i + 1 by omega]
  · by_cases h2 : j = i
    · subst h2; simp
    · simp only [h1, h2, show ¬ j < i + 1 by omega, if_false]
      simp [mask, maskN]
theorem partRows_end (n : Nat) (f : Nat → Nat → Bool) : partRows n f n 0 = rowsOf n f := by
  unfold partRows rowsOf
  apply List.map_congr_left
  intro j hj
  rw [if_pos (List.mem_range.1 hj)]
theorem rows_snoc (m n : Nat) (f : Nat → Nat → Bool) (x : Int) (hx : x = mask n (f m)) : ((List.range m).map fun i => mask n (f i)) ++ [x] = (List.range (m + 1)).map fun i => mask n (f i) := by
  rw [List.range_succ, List.map_append, hx]; rfl
def aheadF (h : List CallD) (i k : Nat) : Bool := isBefore (callAt h k) (callAt h i)
def ownF (h : List CallD) (i k : Nat) : Bool := decide ((callAt h i).proc = (callAt h k).proc) && isBefore (callAt h k) (callAt h i)
theorem own_fold {h : List CallD} {i k : Nat} {b : Bool} (hb : (decide ((h.getD k default).proc = (h.getD i default).proc) && isBefore (h.getD k default) (h.getD i default)) = b) : ownF h i k = b := by
  rw [← hb]; unfold ownF callAt; congr 1; exact bool_ext (by simp only [decide_eq_true_eq]; omega)
def aheadOf (h : List CallD) : List Int := bif validHistory h then rowsOf h.length (aheadF h) else []
def ownAhead (h : List CallD) : List Int := bif validHistory h then rowsOf h.length (ownF h) else []
end Go.Ab
