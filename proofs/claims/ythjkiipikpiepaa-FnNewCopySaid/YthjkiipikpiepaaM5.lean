import Derived.Test.YthjkiipikpiepaaM4
set_option linter.unusedSimpArgs false
set_option linter.unusedVariables false
namespace Go.Ab
def fIdx (n : Nat) (p : Nat → Bool) : Option Nat := (List.range n).find? p
theorem fIdx_some {n i : Nat} {p : Nat → Bool} (hi : i < n) (hp : p i = true) (hn : ∀ j, j < i → p j = false) : fIdx n p = some i := by
  unfold fIdx
  rw [List.find?_range_eq_some]
  exact ⟨hp, List.mem_range.2 hi, fun j hj => by rw [hn j hj]; rfl⟩
theorem fIdx_none {n : Nat} {p : Nat → Bool} (hn : ∀ j, j < n → p j = false) : fIdx n p = none := by
  unfold fIdx
  rw [List.find?_eq_none]
  intro x hx; rw [hn x (List.mem_range.1 hx)]; simp
theorem fIdx_lt {n i : Nat} {p : Nat → Bool} (h : fIdx n p = some i) : i < n ∧ p i = true := by
  unfold fIdx at h
  exact ⟨List.mem_range.1 (List.mem_of_find?_eq_some h), List.find?_some h⟩
theorem fIdx_no {n : Nat} {p : Nat → Bool} (h : fIdx n p = none) : ∀ j, j < n → p j = false := by
  unfold fIdx at h
  rw [List.find?_eq_none] at h
  intro j hj; simpa using h j (List.mem_range.2 hj)
/-! ### Sources -/
def putF (h : List CallD) (r : Int) (k : Nat) : Bool := decide ((callAt h k).kind = 0) && decide ((callAt h k).arg = r)
def idxV : Option Nat → Int
  | some k => ((k : Nat) : Int)
  | none => -2
def sourceR (h : List CallD) (r : Int) : Int := bif decide (r = 0) then -1 else idxV (fIdx h.length (putF h r))
theorem source_lt (h : List CallD) (r : Int) : sourceR h r < ((h.length : Nat) : Int) := by
  unfold sourceR
  cases hr : decide (r = 0) with
  | true => simp only [cond_true]; omega
  | false =>
    simp only [cond_false]
    cases hf : fIdx h.length (putF h r) with
    | none => simp only [idxV]; omega
    | some k => have := (fIdx_lt hf).1; simp only [idxV]; omega
theorem source_spec {h : List CallD} {r : Int} (h0 : 0 ≤ sourceR h r) : r ≠ 0 ∧ (callAt h (sourceR h r).toNat).kind = 0 ∧ (callAt h (sourceR h r).toNat).arg = r := by
  unfold sourceR at h0 ⊢
  cases hr : decide (r = 0) with
  | true => rw [hr] at h0; simp only [cond_true] at h0; omega
  | false =>
    rw [hr] at h0
    simp only [cond_false] at h0 ⊢
    cases hf : fIdx h.length (putF h r) with
    | none => rw [hf] at h0; simp only [idxV] at h0; omega
    | some k =>
      have := (fIdx_lt hf).2
      simp only [putF, Bool.and_eq_true, decide_eq_true_eq] at this
      simp only [idxV, Int.toNat_natCast]
      exact ⟨of_decide_eq_false hr, this.1, this.2⟩
theorem source_neg {h : List CallD} {r : Int} : sourceR h r = -1 ↔ r = 0 := by
  unfold sourceR
  constructor
  · intro hs
    cases hr : decide (r = 0) with
    | true => exact of_decide_eq_true hr
    | false =>
      rw [hr] at hs
      simp only [cond_false] at hs
      cases hf : fIdx h.length (putF h r) with
      | none => rw [hf] at hs; simp only [idxV] at hs; omega
      | some k => rw [hf] at hs; simp only [idxV] at hs; omega
  · intro h0; rw [decide_eq_true h0]; rfl
def lookP (c : CallD) : Bool := decide (c.kind = 2)
def srcs (h l : List CallD) : List Int := (l.filter lookP).map fun c => sourceR h c.ret
def sourcesOf (h : List CallD) : List Int := bif oneWriter h then srcs h h else []
theorem srcs_take {h l : List CallD} {k : Nat} (hk : k < l.length) : srcs h (l.take (k + 1)) = srcs h (l.take k) ++ (if (l.getD k default).kind = 2 then [sourceR h (l.getD k default).ret] else []) := by
  unfold srcs
  rw [List.take_succ_eq_append_getElem hk, List.filter_append, List.map_append]
  simp only [List.getD_eq_getElem?_getD, List.getElem?_eq_getElem hk, Option.getD_some, List.filter_cons, List.filter_nil, lookP, decide_eq_true_eq]
  split <;> rfl
theorem srcs_len (h l : List CallD) (k : Nat) : (srcs h (l.take k)).length ≤ k := by
  unfold srcs; rw [List.length_map]
  exact Nat.le_trans (List.length_filter_le _ _) (by rw [List.length_take]; omega)
theorem srcs_get {h l : List CallD} {k : Nat} (hk : k < l.length) (h2 : (l.getD k default).kind = 2) : (srcs h l).getD (srcs h (l.take k)).length 0 = sourceR h (l.getD k default).ret ∧ (srcs h (l.take k)).length < (srcs h l).length := by
  have e : srcs h l = srcs h (l.take k) ++ [sourceR h (l.getD k default).ret] ++ srcs h (l.drop (k + 1)) := by
    have e1 := srcs_take (h := h) hk
    rw [if_pos h2] at e1
    rw [← e1]
    unfold srcs
    rw [← List.map_append, ← List.filter_append, List.take_append_drop]
  constructor
  · rw [e, List.getD_eq_getElem?_getD, List.append_assoc, List.getElem?_append_right (Nat.le_refl _)]; simp
  · rw [e]; simp
theorem sources_eq {h : List CallD} (ho : oneWriter h = true) : sourcesOf h = srcs h h := by unfold sourcesOf; rw [ho]; rfl
theorem source_law {h : List CallD} {i : Nat} (hb : ((decide (0 ≤ sourceR h (h.getD i default).ret) && (decide ((h.getD (sourceR h (h.getD i default).ret).toNat default).kind ≠ 0) || decide ((h.getD (sourceR h (h.getD i default).ret).toNat default).arg ≠ (h.getD i default).ret))) ||
    (decide (sourceR h (h.getD i default).ret = -1) != decide ((h.getD i default).ret = 0))) = true) : False := by
  simp only [Bool.or_eq_true, Bool.and_eq_true, decide_eq_true_eq] at hb
  rcases hb with ⟨h1, h2⟩ | h1
  · have := source_spec h1
    unfold callAt at this
    omega
  · rw [show decide (sourceR h (h.getD i default).ret = -1) = decide ((h.getD i default).ret = 0) from bool_ext (by simp only [decide_eq_true_eq]; exact source_neg)] at h1
    simp at h1
/-! ### Turns -/
def olderR (h : List CallD) (a b : Int) : Bool := bif decide (b < 0) then false else (decide (a = -1) || (decide (0 ≤ a) && isBefore (callAt h a.toNat) (callAt h b.toNat)))
def turnP (h : List CallD) (i k : Nat) : Bool :=
  ((decide ((callAt h i).kind = 2) && decide ((callAt h k).kind = 2)) && isBefore (callAt h i) (callAt h k)) && olderR h (sourceR h (callAt h k).ret) (sourceR h (callAt h i).ret)
def turn (h : List CallD) : Int × Int × Bool :=
  match fIdx h.length (fun i => anyN h.length (turnP h i)) with
  | some i => match fIdx h.length (turnP h i) with
    | some k => (((i : Nat) : Int), ((k : Nat) : Int), true)
    | none => (-1, -1, false)
  | none => (-1, -1, false)
def turnOf (h : List CallD) : Int × Int × Bool := bif oneWriter h then turn h else (-1, -1, false)
theorem turn_some {h : List CallD} {i k : Nat} (hi : i < h.length) (hk : k < h.length) (hp : turnP h i k = true) (h1 : ∀ j, j < i → anyN h.length (turnP h j) = false) (h2 : ∀ j, j < k → turnP h i j = false) : turn h = (((i : Nat) : Int), ((k : Nat) : Int), true) := by
  unfold turn
  rw [fIdx_some hi (anyN_true hk hp) h1]
  simp only
  rw [fIdx_some hk hp h2]
theorem turn_none {h : List CallD} (h1 : ∀ j, j < h.length → anyN h.length (turnP h j) = false) : turn h = (-1, -1, false) := by
  unfold turn
  rw [fIdx_none h1]
theorem turn_spec {h : List CallD} (ht : (turn h).2.2 = true) : 0 ≤ (turn h).1 ∧ (turn h).1 < ((h.length : Nat) : Int) ∧ 0 ≤ (turn h).2.1 ∧ (turn h).2.1 < ((h.length : Nat) : Int) ∧ isBefore (callAt h (turn h).1.toNat) (callAt h (turn h).2.1.toNat) = true := by
  unfold turn at ht ⊢
  cases hf : fIdx h.length (fun i => anyN h.length (turnP h i)) with
  | none => rw [hf] at ht; cases ht
  | some i =>
    rw [hf] at ht
    simp only at ht ⊢
    cases hg : fIdx h.length (turnP h i) with
    | none => rw [hg] at ht; cases ht
    | some k =>
      have h1 := fIdx_lt hf
      have h2 := fIdx_lt hg
      simp only [turnP, Bool.and_eq_true] at h2
      simp only [Int.toNat_natCast]
      exact ⟨by omega, by omega, by omega, by omega, h2.2.1.2⟩
theorem turnP_impl {h : List CallD} {i k : Nat} (h1 : ((decide ((h.getD i default).kind ≠ 2) || decide ((h.getD k default).kind ≠ 2)) || (!isBefore (h.getD i default) (h.getD k default))) = true) : turnP h i k = false := by
  simp only [Bool.or_eq_true, decide_eq_true_eq, Bool.not_eq_true'] at h1
  unfold turnP callAt
  rcases h1 with (h1 | h1) | h1
  · rw [decide_eq_false h1]; rfl
  · rw [decide_eq_false h1, Bool.and_false]; rfl
  · rw [h1, Bool.and_false]; rfl
theorem older_eq {h : List CallD} {a b : Int} : olderR h a b = (decide (0 ≤ b) && (decide (a = -1) || (decide (0 ≤ a) && isBefore (callAt h a.toNat) (callAt h b.toNat)))) := by
  unfold olderR
  by_cases hb : b < 0
  · rw [decide_eq_true hb, decide_eq_false (show ¬ 0 ≤ b by omega)]; rfl
  · rw [decide_eq_false hb, decide_eq_true (show 0 ≤ b by omega)]; rfl
theorem turnP_impl2 {h : List CallD} {i k : Nat} {b : Bool} (h1 : ((decide ((h.getD i default).kind ≠ 2) || decide ((h.getD k default).kind ≠ 2)) || (!isBefore (h.getD i default) (h.getD k default))) = false)
    (h2 : (decide (0 ≤ sourceR h (h.getD i default).ret) && (decide (sourceR h (h.getD k default).ret = -1) || (decide (0 ≤ sourceR h (h.getD k default).ret) && isBefore (h.getD (sourceR h (h.getD k default).ret).toNat default) (h.getD (sourceR h (h.getD i default).ret).toNat default)))) = b) : turnP h i k = b := by
  simp only [Bool.or_eq_false_iff, decide_eq_false_iff_not, Decidable.not_not, Bool.not_eq_false'] at h1
  unfold turnP
  rw [older_eq, ← h2]
  unfold callAt
  rw [h1.1.1, h1.1.2, h1.2]; rfl
/-! ### Promises -/
def nSafe : ByteArray := ⟨#[115, 97, 102, 101]⟩
def nRegular : ByteArray := ⟨#[114, 101, 103, 117, 108, 97, 114]⟩
def nAtomic : ByteArray := ⟨#[97, 116, 111, 109, 105, 99]⟩
def lastF (h : List CallD) (look : CallD) : Nat → Int
  | 0 => -1
  | k + 1 => bif ((decide ((callAt h k).kind = 0) && isBefore (callAt h k) look) && (decide (lastF h look k < 0) || decide ((callAt h (lastF h look k).toNat).frm < (callAt h k).frm))) then ((k : Nat) : Int) else lastF h look k
def lastBefore (h : List CallD) (look : CallD) : Int := lastF h look h.length
theorem lastF_bnd (h : List CallD) (look : CallD) (k : Nat) : -1 ≤ lastF h look k ∧ lastF h look k < ((k : Nat) : Int) := by
  induction k with
  | zero => simp [lastF]
  | succ k ih =>
    simp only [lastF]
    cases ((decide ((callAt h k).kind = 0) && isBefore (callAt h k) look) && (decide (lastF h look k < 0) || decide ((callAt h (lastF h look k).toNat).frm < (callAt h k).frm))) <;> simp only [cond_true, cond_false] <;> omega
def overlapsPut (h : List CallD) (look : CallD) : Bool := anyN h.length (fun k => decide ((callAt h k).kind = 0) && doOverlap (callAt h k) look)
def keepOne (h : List CallD) (pr : ByteArray) (c : CallD) : Bool :=
  bif eqS pr nSafe then (decide (sourceR h c.ret = lastBefore h c) || overlapsPut h c)
  else (decide (sourceR h c.ret = lastBefore h c) || (decide (0 ≤ sourceR h c.ret) && doOverlap (callAt h (sourceR h c.ret).toNat) c))
def isPromise (pr : ByteArray) : Bool := eqS pr nSafe || eqS pr nRegular || eqS pr nAtomic
def keepsRegister (pr : ByteArray) (h : List CallD) : Bool :=
  ((oneWriter h && isPromise pr) && allN h.length (fun i => decide ((callAt h i).kind ≠ 2) || keepOne h pr (callAt h i))) && (!eqS pr nAtomic || !(turn h).2.2)
theorem eqS_na : eqS nAtomic nSafe = false := by decide +kernel
theorem eqS_nr : eqS nRegular nSafe = false := by decide +kernel
theorem eqS_ra : eqS nRegular nAtomic = false := by decide +kernel
theorem eqS_aa : eqS nAtomic nAtomic = true := by decide +kernel
theorem isP_a : isPromise nAtomic = true := by decide +kernel
theorem isP_r : isPromise nRegular = true := by decide +kernel
theorem keep_law (h : List CallD) : keepsRegister nAtomic h = (keepsRegister nRegular h && !(turn h).2.2) := by
  unfold keepsRegister keepOne
  rw [eqS_na, eqS_nr, eqS_ra, eqS_aa, isP_a, isP_r]
  simp
theorem turn_law {h : List CallD} (ho : oneWriter h = true) : turnOf h = turn h := by unfold turnOf; rw [ho]; rfl
theorem turnP_fold {h : List CallD} {i k : Nat} {b : Bool} (hb : (((decide ((h.getD i default).kind = 2) && decide ((h.getD k default).kind = 2)) && isBefore (h.getD i default) (h.getD k default)) && olderR h (sourceR h (h.getD (Int.toNat ((k : Nat) : Int)) default).ret) (sourceR h (h.getD (Int.toNat ((i : Nat) : Int)) default).ret)) = b) : turnP h i k = b := hb
theorem last_yes {h : List CallD} {c : CallD} {k : Nat} (hb : ((decide ((h.getD k default).kind = 0) && isBefore (h.getD k default) c) && (decide (lastF h c k < 0) || decide ((h.getD (lastF h c k).toNat default).frm < (h.getD k default).frm))) = true) : lastF h c (k + 1) = ((k : Nat) : Int) := by
  have e : lastF h c (k + 1) = bif ((decide ((h.getD k default).kind = 0) && isBefore (h.getD k default) c) && (decide (lastF h c k < 0) || decide ((h.getD (lastF h c k).toNat default).frm < (h.getD k default).frm))) then ((k : Nat) : Int) else lastF h c k := rfl
  rw [e, hb]; rfl
theorem last_no {h : List CallD} {c : CallD} {k : Nat} (hb : ((decide ((h.getD k default).kind = 0) && isBefore (h.getD k default) c) && (decide (lastF h c k < 0) || decide ((h.getD (lastF h c k).toNat default).frm < (h.getD k default).frm))) = false) : lastF h c (k + 1) = lastF h c k := by
  have e : lastF h c (k + 1) = bif ((decide ((h.getD k default).kind = 0) && isBefore (h.getD k default) c) && (decide (lastF h c k < 0) || decide ((h.getD (lastF h c k).toNat default).frm < (h.getD k default).frm))) then ((k : Nat) : Int) else lastF h c k := rfl
  rw [e, hb]; rfl
theorem keep_1 {h : List CallD} {pr : ByteArray} {c : CallD} {b : Bool} (hs : eqS pr nSafe = true) (hb : (decide (sourceR h c.ret = lastBefore h c) || overlapsPut h c) = b) : keepOne h pr c = b := by unfold keepOne; rw [hs]; exact hb
theorem keep_2 {h : List CallD} {pr : ByteArray} {c : CallD} {b : Bool} (hs : eqS pr nSafe = false) (hb : (decide (sourceR h c.ret = lastBefore h c) || (decide (0 ≤ sourceR h c.ret) && doOverlap (h.getD (sourceR h c.ret).toNat default) c)) = b) : keepOne h pr c = b := by unfold keepOne; rw [hs]; exact hb
theorem keeps_0 {h : List CallD} {pr : ByteArray} (hb : ((!oneWriter h) || (((!eqS pr nSafe) && (!eqS pr nRegular)) && (!eqS pr nAtomic))) = true) : keepsRegister pr h = false := by
  unfold keepsRegister isPromise
  cases h1 : oneWriter h <;> cases h2 : eqS pr nSafe <;> cases h3 : eqS pr nRegular <;> cases h4 : eqS pr nAtomic <;> simp_all
theorem keeps_pr {h : List CallD} {pr : ByteArray} (hb : ((!oneWriter h) || (((!eqS pr nSafe) && (!eqS pr nRegular)) && (!eqS pr nAtomic))) = false) : (oneWriter h && isPromise pr) = true := by
  unfold isPromise
  cases h1 : oneWriter h <;> cases h2 : eqS pr nSafe <;> cases h3 : eqS pr nRegular <;> cases h4 : eqS pr nAtomic <;> simp_all
theorem keeps_1 {h : List CallD} {pr : ByteArray} {i : Nat} (hi : i < h.length) (hk : ¬ (h.getD i default).kind ≠ 2) (hb : keepOne h pr (h.getD i default) = false) : keepsRegister pr h = false := by
  unfold keepsRegister
  exact and_fl (and_fr (allN_false hi (or_f (decide_eq_false hk) hb)))
theorem keeps_2 {h : List CallD} {pr : ByteArray} (hb : ((!oneWriter h) || (((!eqS pr nSafe) && (!eqS pr nRegular)) && (!eqS pr nAtomic))) = false) (hA : ∀ j, j < h.length → (decide ((callAt h j).kind ≠ 2) || keepOne h pr (callAt h j)) = true) (ha : (!eqS pr nAtomic) = true) : keepsRegister pr h = true := by
  unfold keepsRegister
  exact and_t (and_t (keeps_pr hb) (allN_true hA)) (or_tl ha)
theorem keeps_3 {h : List CallD} {pr : ByteArray} (hb : ((!oneWriter h) || (((!eqS pr nSafe) && (!eqS pr nRegular)) && (!eqS pr nAtomic))) = false) (hA : ∀ j, j < h.length → (decide ((callAt h j).kind ≠ 2) || keepOne h pr (callAt h j)) = true) (ha : (!eqS pr nAtomic) = false) : keepsRegister pr h = (!(turn h).2.2) := by
  unfold keepsRegister
  rw [and_t (keeps_pr hb) (allN_true hA), ha]; simp
theorem turn_final {h : List CallD} (ho : oneWriter h = true) : ((keepsRegister nAtomic h == (keepsRegister nRegular h && (!(turnOf h).2.2))) && ((!(turnOf h).2.2) || isBefore (h.getD (turnOf h).1.toNat default) (h.getD (turnOf h).2.1.toNat default))) = true := by
  rw [keep_law, turn_law ho]
  cases ht : (turn h).2.2 with
  | false => simp
  | true =>
    have h5 := (turn_spec ht).2.2.2.2
    unfold callAt at h5
    rw [h5]; simp
theorem nn_t {b : Bool} (h : (!!b) = true) : b = true := by simpa using h
end Go.Ab
