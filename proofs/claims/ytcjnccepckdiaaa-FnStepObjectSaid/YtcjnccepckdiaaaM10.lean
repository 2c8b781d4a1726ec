import Derived.Test.YtcjnccepckdiaaaM9
set_option linter.unusedSimpArgs false
set_option linter.unusedVariables false
namespace Go.Ab
/-! ### Objects, as impl has them -/
def isSingle (s : ByteArray) : Bool := (eqS s nRegister || eqS s nCounter) || eqS s nMost
def stAt (s : ByteArray) (l : List Int) (i : Nat) : Bool := within (l.getD i 0) 0 20 && (!eqS s nSet || !hasInt (l.take i) (l.getD i 0))
def isSt (s : ByteArray) (l : List Int) : Bool := allN l.length (stAt s l) && (bif isSingle s then decide (((l.length : Nat) : Int) ≤ 1) else decide (((l.length : Nat) : Int) ≤ 20))
def stepOK (s : ByteArray) (l : List Int) (c : CallD) : Bool := (isObject s && isSt s l) && isCall c
def stepObject (s : ByteArray) (l : List Int) (c : CallD) : List Int × Bool := bif stepOK s l c then specStep s l c else ([], false)
def oneOf (l : List Int) : Int := bif decide (((l.length : Nat) : Int) = 1) then l.getD 0 0 else 0
def iSingle (s : ByteArray) (l : List Int) (c : CallD) : List Int × Int :=
  bif decide (c.kind = 2) then (l, oneOf l)
  else bif decide (c.kind = 1) then ([], oneOf l)
  else bif eqS s nCounter then ([oneOf l + c.arg], 0)
  else bif eqS s nMost then ([max (oneOf l) c.arg], 0)
  else ([c.arg], 0)
def iSet (l : List Int) (c : CallD) : List Int × Int :=
  bif (decide (c.kind = 0) && decide (findI l c.arg < 0)) then (l ++ [c.arg], 1)
  else bif (decide (c.kind = 0) || decide (findI l c.arg < 0)) then (l, 0)
  else bif decide (c.kind = 1) then (l.take (findI l c.arg).toNat ++ l.drop (findI l c.arg + 1).toNat, 1)
  else (l, 1)
def topOf (s : ByteArray) (l : List Int) : Int := bif eqS s nStack then ((l.length : Nat) : Int) - 1 else 0
def iRow (s : ByteArray) (l : List Int) (c : CallD) : List Int × Int :=
  bif decide (c.kind = 0) then (l ++ [c.arg], 0)
  else bif decide (((l.length : Nat) : Int) = 0) then (l, -1)
  else bif decide (c.kind = 2) then (l, l.getD (topOf s l).toNat 0)
  else (l.take (topOf s l).toNat ++ l.drop (topOf s l + 1).toNat, l.getD (topOf s l).toNat 0)
def iStep (s : ByteArray) (l : List Int) (c : CallD) : List Int × Int := bif isSingle s then iSingle s l c else bif eqS s nSet then iSet l c else iRow s l c
theorem single_obj (s : ByteArray) : ((((isSingle s || eqS s nQueue) || eqS s nStack) || eqS s nSet)) = isObject s := by
  unfold isSingle isObject
  cases eqS s nRegister <;> cases eqS s nQueue <;> cases eqS s nStack <;> cases eqS s nCounter <;> cases eqS s nSet <;> cases eqS s nMost <;> rfl
theorem stI_no {s : ByteArray} {l : List Int} {i : Nat} (hi : i < l.length) (hb : ((!within (l.getD i 0) 0 20) || (eqS s nSet && hasInt (l.take i) (l.getD i 0))) = true) : isSt s l = false := by
  unfold isSt
  refine and_fl (allN_false hi ?_)
  unfold stAt
  cases h1 : within (l.getD i 0) 0 20 <;> cases h2 : eqS s nSet <;> cases h3 : hasInt (l.take i) (l.getD i 0) <;> simp_all
theorem stI_ok {s : ByteArray} {l : List Int} {i : Nat} (hb : ((!within (l.getD i 0) 0 20) || (eqS s nSet && hasInt (l.take i) (l.getD i 0))) = false) : stAt s l i = true := by
  unfold stAt
  cases h1 : within (l.getD i 0) 0 20 <;> cases h2 : eqS s nSet <;> cases h3 : hasInt (l.take i) (l.getD i 0) <;> simp_all
theorem stI_end {s : ByteArray} {l : List Int} (hA : allN l.length (stAt s l) = true) : ((isObject s && decide (((l.length : Nat) : Int) ≤ 20)) && (!isSingle s || decide (((l.length : Nat) : Int) ≤ 1))) = (isObject s && isSt s l) := by
  unfold isSt
  rw [hA, Bool.true_and, Bool.and_assoc]
  congr 1
  cases isSingle s with
  | false => simp
  | true =>
    simp only [Bool.not_true, Bool.false_or, cond_true]
    apply bool_ext
    simp only [Bool.and_eq_true, decide_eq_true_eq]
    omega
theorem stS_1 {s : ByteArray} {l : List Int} (hA : allN l.length (stAt s l) = true) (h : isSingle s = true) : decide (((l.length : Nat) : Int) ≤ 1) = isSt s l := by
  unfold isSt; rw [hA, h]; rfl
theorem stS_2 {s : ByteArray} {l : List Int} (hA : allN l.length (stAt s l) = true) (h : isSingle s = false) : decide (((l.length : Nat) : Int) ≤ 20) = isSt s l := by
  unfold isSt; rw [hA, h]; rfl
theorem st_iff {s : ByteArray} {l : List Int} (h : isSt s l = true) : l.length ≤ 20 ∧ (isSingle s = true → l.length ≤ 1) ∧ (∀ i, i < l.length → 0 ≤ l.getD i 0 ∧ l.getD i 0 ≤ 20) := by
  unfold isSt at h
  have h1 := allN_get (and_l h)
  have h2 := and_r h
  have h3 : ∀ i, i < l.length → 0 ≤ l.getD i 0 ∧ l.getD i 0 ≤ 20 := fun i hi => inRange_iff.1 (and_l (h1 i hi))
  cases hs : isSingle s with
  | true => rw [hs] at h2; have := of_decide_eq_true h2; exact ⟨by omega, fun _ => by omega, h3⟩
  | false => rw [hs] at h2; have := of_decide_eq_true h2; exact ⟨by omega, (fun hh => by cases hh), h3⟩
theorem valid_one (c : CallD) : validHistory [c] = isCall c := by
  unfold validHistory
  have : allN [c].length (fun i => isCall (callAt [c] i) && allN i (fun k => !clash (callAt [c] i) (callAt [c] k))) = isCall c := by
    apply bool_ext
    rw [allN_iff]
    constructor
    · intro h; exact and_l (h 0 (by simp))
    · intro h j hj
      have : j = 0 := by simp at hj; omega
      subst this
      exact and_t h (allN_true (fun k hk => by omega))
  rw [this]; simp
theorem eqS_iff {a b : ByteArray} : eqS a b = true ↔ a.toList = b.toList := by unfold eqS; simp
theorem name_ne {s a b : ByteArray} (h : eqS s a = true) (hab : eqS a b = false) : eqS s b = false := by
  cases hb : eqS s b with
  | false => rfl
  | true =>
    have e1 := eqS_iff.1 h
    have e2 := eqS_iff.1 hb
    have : eqS a b = true := eqS_iff.2 (by rw [← e1, e2])
    rw [this] at hab; cases hab
theorem one_eq {l : List Int} (h : l.length ≤ 1) : oneOf l = bif decide (((l.length : Nat) : Int) = 0) then 0 else l.getD 0 0 := by
  unfold oneOf
  by_cases h1 : l.length = 1
  · rw [h1]; rfl
  · rw [show l.length = 0 by omega]; rfl
theorem find_erase {l : List Int} {a : Int} (h : 0 ≤ findI l a) : l.take (findI l a).toNat ++ l.drop (findI l a + 1).toNat = l.erase a := by
  unfold findI at h ⊢
  cases hf : fIdx l.length (fun i => decide (l.getD i 0 = a)) with
  | none => rw [hf] at h; simp at h
  | some k =>
    have h1 := fIdx_lt hf
    have h2 : ∀ j, j < k → ¬ l.getD j 0 = a := by
      unfold fIdx at hf
      rw [List.find?_range_eq_some] at hf
      intro j hj he
      have := hf.2.2 j hj
      rw [decide_eq_true he] at this; cases this
    simp only
    rw [show (((k : Nat) : Int) + 1).toNat = k + 1 by omega, Int.toNat_natCast]
    exact erase_at l a k h1.1 (of_decide_eq_true h1.2) h2
theorem find_lt (l : List Int) (a : Int) : findI l a < ((l.length : Nat) : Int) ∧ -1 ≤ findI l a := by
  unfold findI
  cases hf : fIdx l.length (fun i => decide (l.getD i 0 = a)) with
  | none => simp only; omega
  | some k => have := (fIdx_lt hf).1; simp only; omega
theorem find_neg (l : List Int) (a : Int) : decide (findI l a < 0) = !hasInt l a := by
  rw [← findI_has]
  apply bool_ext
  simp only [decide_eq_true_eq, Bool.not_eq_true', decide_eq_false_iff_not]
  omega
theorem dec_comm (a b : Int) : decide (a = b) = decide (b = a) := bool_ext (by simp only [decide_eq_true_eq]; exact ⟨fun h => h.symm, fun h => h.symm⟩)
theorem step_eq {s : ByteArray} {l : List Int} {c : CallD} (hok : stepOK s l c = true) : (iStep s l c).1 = (specStep s l c).1 ∧ decide (c.ret = (iStep s l c).2) = (specStep s l c).2 := by
  unfold stepOK at hok
  have ho := and_l (and_l hok)
  obtain ⟨h20, h1, hb⟩ := st_iff (and_r (and_l hok))
  have hc := isCall_iff.1 (and_r hok)
  have hk : c.kind = 0 ∨ c.kind = 1 ∨ c.kind = 2 := by omega
  have n1 : eqS nRegister nQueue = false := by decide +kernel
  have n2 : eqS nRegister nStack = false := by decide +kernel
  have n3 : eqS nRegister nCounter = false := by decide +kernel
  have n4 : eqS nRegister nSet = false := by decide +kernel
  have n5 : eqS nRegister nMost = false := by decide +kernel
  have n6 : eqS nCounter nRegister = false := by decide +kernel
  have n7 : eqS nCounter nQueue = false := by decide +kernel
  have n8 : eqS nCounter nStack = false := by decide +kernel
  have n9 : eqS nCounter nSet = false := by decide +kernel
  have n10 : eqS nCounter nMost = false := by decide +kernel
  have n11 : eqS nMost nRegister = false := by decide +kernel
  have n12 : eqS nMost nQueue = false := by decide +kernel
  have n13 : eqS nMost nStack = false := by decide +kernel
  have n14 : eqS nMost nSet = false := by decide +kernel
  have n15 : eqS nMost nCounter = false := by decide +kernel
  have n16 : eqS nSet nQueue = false := by decide +kernel
  have n17 : eqS nSet nStack = false := by decide +kernel
  have n18 : eqS nStack nQueue = false := by decide +kernel
  have n19 : eqS nSet nMost = false := by decide +kernel
  have n20 : eqS nSet nCounter = false := by decide +kernel
  have n21 : eqS nSet nRegister = false := by decide +kernel
  cases hsi : isSingle s with
  | true =>
    have hl := h1 hsi
    have hone := one_eq hl
    have hcase : l = [] ∨ ∃ x, l = [x] := by
      match l, hl with
      | [], _ => exact .inl rfl
      | [x], _ => exact .inr ⟨x, rfl⟩
    unfold isSingle at hsi
    have hset : eqS s nSet = false ∧ eqS s nQueue = false ∧ eqS s nStack = false ∧ ((eqS s nRegister = true ∧ eqS s nCounter = false ∧ eqS s nMost = false) ∨ (eqS s nRegister = false ∧ eqS s nCounter = true ∧ eqS s nMost = false) ∨ (eqS s nRegister = false ∧ eqS s nCounter = false ∧ eqS s nMost = true)) := by
      rw [Bool.or_eq_true, Bool.or_eq_true] at hsi
      rcases hsi with (h | h) | h
      · exact ⟨name_ne h n4, name_ne h n1, name_ne h n2, .inl ⟨h, name_ne h n3, name_ne h n5⟩⟩
      · exact ⟨name_ne h n9, name_ne h n7, name_ne h n8, .inr (.inl ⟨name_ne h n6, h, name_ne h n10⟩)⟩
      · exact ⟨name_ne h n14, name_ne h n12, name_ne h n13, .inr (.inr ⟨name_ne h n11, name_ne h n15, h⟩)⟩
    obtain ⟨e1, e2, e3, e4⟩ := hset
    unfold iStep
    rw [show isSingle s = true from hsi]
    simp only [cond_true]
    rcases hcase with rfl | ⟨x, rfl⟩ <;> rcases hk with hk | hk | hk <;> rcases e4 with ⟨f1, f2, f3⟩ | ⟨f1, f2, f3⟩ | ⟨f1, f2, f3⟩ <;> simp [iSingle, specStep, hk, e1, e2, e3, f1, f2, f3, oneOf]
    · omega
    · by_cases hx : c.arg < x
      · rw [decide_eq_true hx, show max x c.arg = x by omega]; exact ⟨rfl, rfl⟩
      · rw [decide_eq_false hx, show max x c.arg = c.arg by omega]; exact ⟨rfl, rfl⟩
  | false =>
    unfold isSingle at hsi
    rw [Bool.or_eq_false_iff, Bool.or_eq_false_iff] at hsi
    obtain ⟨⟨g1, g2⟩, g3⟩ := hsi
    unfold iStep
    rw [show isSingle s = false from by unfold isSingle; rw [g1, g2, g3]; rfl]
    simp only [cond_false]
    cases hset : eqS s nSet with
    | true =>
      have f1 := name_ne hset n16
      have f2 := name_ne hset n17
      simp only [cond_true]
      unfold iSet
      rw [find_neg]
      cases hh : hasInt l c.arg with
      | false => rcases hk with hk | hk | hk <;> simp [specStep, hk, g1, g2, g3, hset, f1, f2, hh]
      | true =>
        have h0 : 0 ≤ findI l c.arg := of_decide_eq_true (by rw [findI_has]; exact hh)
        rcases hk with hk | hk | hk <;> simp [specStep, hk, g1, g2, g3, hset, f1, f2, hh, find_erase h0]
    | false =>
      simp only [cond_false]
      unfold isObject at ho
      rw [g1, g2, g3, hset] at ho
      simp only [Bool.false_or, Bool.or_false] at ho
      cases hq : eqS s nQueue with
      | true =>
        have f1 : eqS s nStack = false := name_ne hq (by decide +kernel)
        cases l with
        | nil => rcases hk with hk | hk | hk <;> simp [iRow, specStep, hk, g1, g2, g3, hset, hq, f1, topOf]
        | cons x l =>
          have hz : ¬ ((l.length : Nat) : Int) + 1 = 0 := by omega
          rcases hk with hk | hk | hk <;> simp [iRow, specStep, hk, g1, g2, g3, hset, hq, f1, topOf, hz]
      | false =>
        rw [hq, Bool.false_or] at ho
        cases hl : l.length with
        | zero =>
          have hl0 : l = [] := List.eq_nil_of_length_eq_zero hl
          subst hl0
          rcases hk with hk | hk | hk <;> simp [iRow, specStep, hk, g1, g2, g3, hset, hq, ho, topOf]
        | succ n =>
          have hn : ¬ (((l.length : Nat) : Int) = 0) := by omega
          have ht : (topOf s l).toNat = l.length - 1 := by unfold topOf; rw [ho]; simp only [cond_true]; omega
          have ht2 : (topOf s l + 1).toNat = l.length := by unfold topOf; rw [ho]; simp only [cond_true]; omega
          have hn2 : ¬ (n + 1 : Int) = 0 := by omega
          have hdrop : l.drop (n + 1) = [] := List.drop_eq_nil_of_le (by omega)
          rcases hk with hk | hk | hk <;> simp [iRow, specStep, hk, g1, g2, g3, hset, hq, ho, hn, ht, ht2, hl, hn2, hdrop]
end Go.Ab
namespace Go.Ab
theorem so_ok {s : ByteArray} {l : List Int} {c : CallD} (h : ((!(isObject s && isSt s l)) || (!validHistory [c])) = false) : stepOK s l c = true := by
  rw [valid_one] at h
  unfold stepOK
  cases h1 : (isObject s && isSt s l) <;> cases h2 : isCall c <;> simp_all
theorem so_no {s : ByteArray} {l : List Int} {c : CallD} (h : ((!(isObject s && isSt s l)) || (!validHistory [c])) = true) : stepObject s l c = ([], false) := by
  rw [valid_one] at h
  unfold stepObject stepOK
  cases h1 : (isObject s && isSt s l) <;> cases h2 : isCall c <;> simp_all
theorem so_yes {s : ByteArray} {l : List Int} {c : CallD} (h : stepOK s l c = true) : stepObject s l c = specStep s l c := by unfold stepObject; rw [h]; rfl
theorem sp_ok {s : ByteArray} {l : List Int} {c : CallD} (h : (((!isObject s) || (!isSt s l)) || (!isCall c)) = false) : stepOK s l c = true := by
  unfold stepOK
  cases h0 : isObject s <;> cases h1 : isSt s l <;> cases h2 : isCall c <;> simp_all
theorem sp_no {s : ByteArray} {l : List Int} {c : CallD} (h : (((!isObject s) || (!isSt s l)) || (!isCall c)) = true) : stepObject s l c = ([], false) := by
  unfold stepObject stepOK
  cases h0 : isObject s <;> cases h1 : isSt s l <;> cases h2 : isCall c <;> simp_all
theorem specStep_len (s : ByteArray) (l : List Int) (c : CallD) : (specStep s l c).1.length ≤ l.length + 1 := by
  unfold specStep
  simp only [if_bif, decide_eq_true_eq]
  repeat' split
  all_goals first | (simp; done) | (simp; omega) | (have := List.length_erase_le (a := c.arg) (l := l); simp; omega) | omega
end Go.Ab
namespace Go.Ab
theorem so_law1 {s : ByteArray} {l : List Int} {c : CallD} (hk : c.kind = 2) (hp : 0 < (stepObject s l c).1.length) : (stepObject s l c).1 = l := by
  cases hok : stepOK s l c with
  | false => unfold stepObject at hp; rw [hok] at hp; simp at hp
  | true =>
    rw [so_yes hok]
    simp only [specStep, hk, show decide ((2 : Int) = 0) = false from rfl, show decide ((2 : Int) = 2) = true from rfl, cond_true, cond_false, if_bif]
    repeat' split
    all_goals first | rfl | contradiction | (exfalso; simp_all; done)
theorem so_law2 {s : ByteArray} {l : List Int} {c : CallD} (hs : eqS s nStack = true) (hk : c.kind = 0) (hp : 0 < (stepObject s l c).1.length) (h20 : ((((stepObject s l c).1.length : Nat) : Int)) ≤ 20) :
    stepObject s (stepObject s l c).1 ⟨c.proc, c.obj, 1, c.arg, c.arg, c.frm, c.to⟩ = (l, true) := by
  have f1 : eqS s nRegister = false := name_ne hs (by decide +kernel)
  have f2 : eqS s nCounter = false := name_ne hs (by decide +kernel)
  have f3 : eqS s nMost = false := name_ne hs (by decide +kernel)
  have f4 : eqS s nSet = false := name_ne hs (by decide +kernel)
  have f5 : eqS s nQueue = false := name_ne hs (by decide +kernel)
  have hsi : isSingle s = false := by unfold isSingle; rw [f1, f2, f3]; rfl
  cases hok : stepOK s l c with
  | false => unfold stepObject at hp; rw [hok] at hp; simp at hp
  | true =>
    have e : (stepObject s l c).1 = l ++ [c.arg] := by
      rw [so_yes hok]; simp [specStep, hk, f1, f2, f3, f4]
    rw [e] at h20 ⊢
    unfold stepOK at hok
    have ho := and_l (and_l hok)
    obtain ⟨_, _, hb⟩ := st_iff (and_r (and_l hok))
    have hc := isCall_iff.1 (and_r hok)
    have hok2 : stepOK s (l ++ [c.arg]) ⟨c.proc, c.obj, 1, c.arg, c.arg, c.frm, c.to⟩ = true := by
      unfold stepOK
      refine and_t (and_t ho ?_) (isCall_iff.2 (by simp only; omega))
      unfold isSt
      rw [hsi]
      refine and_t (allN_true fun i hi => ?_) (decide_eq_true h20)
      unfold stAt
      rw [f4]
      refine and_t (inRange_iff.2 ?_) rfl
      by_cases hil : i < l.length
      · have := hb i hil
        rw [List.getD_eq_getElem?_getD, List.getElem?_append_left hil, ← List.getD_eq_getElem?_getD]
        omega
      · have hi2 : i = l.length := by simp at hi; omega
        subst hi2
        simp; omega
    rw [so_yes hok2]
    simp only [specStep, f5, hs, cond_false, cond_true]
    have hz : ¬ ((l.length : Nat) : Int) + 1 = 0 := by omega
    simp [hz]
theorem ne_nil_pos {l : List Int} (h : ¬ l = []) : 0 < l.length := List.length_pos_iff.2 h
end Go.Ab
