import Derived.Test.YtfoifegcfbglpaaQF3S0
import Derived.Lib.SlicesCompact
set_option linter.unusedSimpArgs false
set_option linter.unusedVariables false
namespace Go.Ab
theorem less_iff {a b : MarkD} : lessM a b = true ↔ a.proc < b.proc ∨ (a.proc = b.proc ∧ a.number < b.number) := by
 unfold lessM
 by_cases h : a.proc = b.proc
 ·rw [decide_eq_false (show ¬ a.proc ≠ b.proc by omega), cond_false, decide_eq_true_eq]; omega
 ·rw [decide_eq_true h, cond_true, decide_eq_true_eq]; omega
theorem less_no {a b : MarkD} : lessM a b = false ↔ ¬ (a.proc < b.proc ∨ (a.proc = b.proc ∧ a.number < b.number)) := by
 rw [← less_iff]; cases lessM a b <;> simp
theorem less_trans {a b c : MarkD} (h1 : lessM a b = true) (h2 : lessM b c = true) : lessM a c = true := by
 rw [less_iff] at *; omega
theorem less_irr (a : MarkD) : lessM a a = false := by rw [less_no]; omega
def sortedM (l : List MarkD) : Prop := l.Pairwise fun a b => lessM a b = true
theorem sorted_get {l : List MarkD} (hs : sortedM l) {i j : Nat} (hij : i < j) (hj : j < l.length) : lessM (l.getD i default) (l.getD j default) = true := by
 have := (List.pairwise_iff_getElem.1 hs) i j (by omega) hj hij
 rwa [List.getD_eq_getElem?_getD, List.getElem?_eq_getElem (show i < l.length by omega), List.getD_eq_getElem?_getD, List.getElem?_eq_getElem hj]
theorem sorted_of {l : List MarkD} (h : ∀ i j, i < j → j < l.length → lessM (l.getD i default) (l.getD j default) = true) : sortedM l := by
 refine List.pairwise_iff_getElem.2 (fun i j hi hj hij => ?_)
 have := h i j hij hj
 rwa [List.getD_eq_getElem?_getD, List.getElem?_eq_getElem hi, List.getD_eq_getElem?_getD, List.getElem?_eq_getElem hj] at this
theorem marks_sorted {l : List MarkD} (hm : marksOK l = true) : sortedM l := by
 refine sorted_of (fun i j hij hj => ?_)
 have key : ∀ d, i + d + 1 < l.length → lessM (l.getD i default) (l.getD (i + d + 1) default) = true := by
  intro d
  induction d with
  | zero =>
   intro h
   have := (mark_at hm h).2
   rcases this with e | e
   ·omega
   ·simpa using e
  | succ d ih =>
   intro h
   have h1 := ih (by omega)
   have := (mark_at hm h).2
   rcases this with e | e
   ·omega
   ·rw [show i + (d + 1) + 1 - 1 = i + d + 1 by omega] at e
    exact less_trans h1 e
 have := key (j - i - 1) (by omega)
 rwa [show i + (j - i - 1) + 1 = j by omega] at this
theorem cmpM_lt (a b : MarkD) : decide (cmpM a b < 0) = lessM a b := by
 have := cmpM_less a b
 cases h : lessM a b with
 | true =>
  rw [h] at this
  simp only [Bool.not_true, decide_eq_false_iff_not] at this
  exact decide_eq_true (by omega)
 | false =>
  rw [h] at this
  simp only [Bool.not_false, decide_eq_true_eq] at this
  exact decide_eq_false (by omega)
theorem cmpM_zero (a b : MarkD) : decide (cmpM a b = 0) = (!lessM a b && !lessM b a) := by
 unfold cmpM lessM cmpI
 simp only [orI]
 rcases Int.lt_trichotomy a.proc b.proc with h | h | h
 ·simp [h, show a.proc ≠ b.proc by omega]
 ·rcases Int.lt_trichotomy a.number b.number with g | g | g
  ·simp [h, g, show ¬ b.number < a.number by omega]
  ·simp [h, g]
  ·simp [h, g, show ¬ a.number < b.number by omega]
 ·simp [h, show ¬ a.proc < b.proc by omega, show a.proc ≠ b.proc by omega, show b.proc ≠ a.proc by omega]
def bsPos (l : List MarkD) (m : MarkD) : Nat := (l.filter fun x => lessM x m).length
def bsFound (l : List MarkD) (m : MarkD) : Bool := decide (bsPos l m < l.length) && decide (cmpM (l.getD (bsPos l m) default) m = 0)
theorem bs_at {l : List MarkD} {m : MarkD} {i : Nat} (hi : i ≤ l.length) (h1 : ∀ j, j < i → lessM (l.getD j default) m = true) (h2 : ∀ j, i ≤ j → j < l.length → lessM (l.getD j default) m = false) : bsPos l m = i := by
 unfold bsPos
 conv => lhs; rw [← List.take_append_drop i l]
 rw [List.filter_append, List.filter_eq_self.2, List.filter_eq_nil_iff.2]
 ·simp; omega
 ·intro x hx
  obtain ⟨k, hk, rfl⟩ := List.mem_iff_getElem.1 hx
  rw [List.length_drop] at hk
  have := h2 (i + k) (by omega) (by omega)
  rw [List.getD_eq_getElem?_getD, List.getElem?_eq_getElem (show i + k < l.length by omega)] at this
  rw [List.getElem_drop]; simpa using this
 ·intro x hx
  obtain ⟨k, hk, rfl⟩ := List.mem_iff_getElem.1 hx
  rw [List.length_take] at hk
  have := h1 k (by omega)
  rw [List.getD_eq_getElem?_getD, List.getElem?_eq_getElem (show k < l.length by omega)] at this
  rw [List.getElem_take]; simpa using this
theorem bs_lt {l : List MarkD} {m : MarkD} (hs : sortedM l) {i : Nat} (hi : i < l.length) (h : lessM (l.getD i default) m = true) : ∀ j, j ≤ i → lessM (l.getD j default) m = true := by
 intro j hj
 by_cases e : j = i
 ·rw [e]; exact h
 ·exact less_trans (sorted_get hs (show j < i by omega) hi) h
theorem bs_ge {l : List MarkD} {m : MarkD} (hs : sortedM l) {i : Nat} (h : lessM (l.getD i default) m = false) : ∀ j, i ≤ j → j < l.length → lessM (l.getD j default) m = false := by
 intro j hj hl
 by_cases e : j = i
 ·rw [e]; exact h
 ·cases hx : lessM (l.getD j default) m with
  | false => rfl
  | true => rw [less_trans (sorted_get hs (show i < j by omega) hl) hx] at h; cases h
theorem bs_spec {l : List MarkD} {m : MarkD} (hs : sortedM l) : bsPos l m ≤ l.length ∧ (∀ j, j < bsPos l m → lessM (l.getD j default) m = true) ∧ ∀ j, bsPos l m ≤ j → j < l.length → lessM (l.getD j default) m = false := by
 have main : ∃ i, i ≤ l.length ∧ (∀ j, j < i → lessM (l.getD j default) m = true) ∧ ∀ j, i ≤ j → j < l.length → lessM (l.getD j default) m = false := by
  induction l with
  | nil => exact ⟨0, Nat.le_refl _, fun j hj => by omega, fun j _ hj => by simp at hj⟩
  | cons x l ih =>
   cases hx : lessM x m with
   | false =>
    refine ⟨0, Nat.zero_le _, fun j hj => by omega, fun j _ hj => ?_⟩
    exact bs_ge (l := x :: l) hs (i := 0) hx j (Nat.zero_le _) hj
   | true =>
    obtain ⟨i, h1, h2, h3⟩ := ih (List.pairwise_cons.1 hs).2
    refine ⟨i + 1, by simp; omega, fun j hj => ?_, fun j hj hl => ?_⟩
    ·cases j with
     | zero => exact hx
     | succ j => exact h2 j (by omega)
    ·cases j with
     | zero => omega
     | succ j => exact h3 j (by omega) (by simpa using hl)
 obtain ⟨i, h1, h2, h3⟩ := main
 rw [bs_at h1 h2 h3]
 exact ⟨h1, h2, h3⟩
def insM (l : List MarkD) (i : Nat) (m : MarkD) : List MarkD := l.take i ++ m :: l.drop i
theorem insM_len {l : List MarkD} {i : Nat} {m : MarkD} (hi : i ≤ l.length) : (insM l i m).length = l.length + 1 := by unfold insM; simp; omega
theorem unite_one {l : List MarkD} {y : MarkD} (hs : sortedM l) : uniteL l [y] = bif !bsFound l y then some (insM l (bsPos l y) y) else bif decide ((l.getD (bsPos l y) default).value ≠ y.value) then none else some (l.set (bsPos l y) { l.getD (bsPos l y) default with gone := (l.getD (bsPos l y) default).gone || y.gone }) := by
 induction l with
 | nil => simp [uniteL, bsFound, bsPos, insM]
 | cons x l ih =>
  have hs' := (List.pairwise_cons.1 hs)
  rw [uniteL]
  cases hx : lessM x y with
  | true =>
   have ep : bsPos (x :: l) y = bsPos l y + 1 := by unfold bsPos; rw [List.filter_cons, hx]; rfl
   have ef : bsFound (x :: l) y = bsFound l y := by unfold bsFound; rw [ep]; simp
   rw [cond_true, ih hs'.2, ep, ef]
   cases bsFound l y with
   | false => simp [insM]
   | true =>
    simp only [Bool.not_true, cond_false, List.getD_cons_succ]
    cases decide ((l.getD (bsPos l y) default).value ≠ y.value) <;> simp
  | false =>
   have ep : bsPos (x :: l) y = 0 := bs_at (Nat.zero_le _) (fun j hj => by omega) (fun j hj hl => bs_ge hs (i := 0) hx j hj hl)
   have ef : bsFound (x :: l) y = !lessM y x := by
    unfold bsFound
    rw [ep, show List.getD (x :: l) 0 default = x from rfl, cmpM_zero, hx]
    simp
   rw [cond_false, ep, ef]
   cases hy : lessM y x with
   | true => simp [unite_nil, insM]
   | false =>
    simp only [cond_false, Bool.not_false, Bool.not_true]
    rw [show List.getD (x :: l) 0 default = x from rfl]
    cases decide (x.value ≠ y.value) <;> simp [unite_nil]
theorem unite_low : ∀ (n : Nat) (a b l : List MarkD) (z : MarkD), a.length + b.length ≤ n → uniteL a b = some l → (∀ x ∈ a, lessM z x = true) → (∀ x ∈ b, lessM z x = true) → ∀ x ∈ l, lessM z x = true
 | n, [], b, l, z, _, h, _, hb => by simp [uniteL] at h; subst h; exact hb
 | n, x :: a, [], l, z, _, h, ha, _ => by rw [unite_nil] at h; cases h; exact ha
 | 0, x :: a, y :: b, l, z, hn, _, _, _ => by simp at hn
 | n + 1, x :: a, y :: b, l, z, hn, h, ha, hb => by
  simp only [List.length_cons] at hn
  rw [uniteL] at h
  cases h1 : lessM x y with
  | true =>
   rw [h1, cond_true, Option.map_eq_some_iff] at h
   obtain ⟨l', e, rfl⟩ := h
   have := unite_low n a (y :: b) l' z (by simp only [List.length_cons]; omega) e (fun w hw => ha w (by simp [hw])) hb
   intro w hw
   rcases List.mem_cons.1 hw with e1 | e1
   ·rw [e1]; exact ha x (by simp)
   ·exact this w e1
  | false =>
   rw [h1, cond_false] at h
   cases h2 : lessM y x with
   | true =>
    rw [h2, cond_true, Option.map_eq_some_iff] at h
    obtain ⟨l', e, rfl⟩ := h
    have := unite_low n (x :: a) b l' z (by simp only [List.length_cons]; omega) e ha (fun w hw => hb w (by simp [hw]))
    intro w hw
    rcases List.mem_cons.1 hw with e1 | e1
    ·rw [e1]; exact hb y (by simp)
    ·exact this w e1
   | false =>
    rw [h2, cond_false] at h
    cases h3 : decide (x.value ≠ y.value) with
    | true => rw [h3, cond_true] at h; cases h
    | false =>
     rw [h3, cond_false, Option.map_eq_some_iff] at h
     obtain ⟨l', e, rfl⟩ := h
     have := unite_low n a b l' z (by omega) e (fun w hw => ha w (by simp [hw])) (fun w hw => hb w (by simp [hw]))
     intro w hw
     rcases List.mem_cons.1 hw with e1 | e1
     ·rw [e1]; exact (ha x (by simp) : lessM z x = true)
     ·exact this w e1
theorem less_eq {x y z : MarkD} (h1 : lessM x y = false) (h2 : lessM y x = false) (h3 : lessM y z = true) : lessM x z = true := by
 rw [less_no] at h1 h2; rw [less_iff] at *; omega
theorem unite_sortedN : ∀ (n : Nat) (a b l : List MarkD), a.length + b.length ≤ n → uniteL a b = some l → sortedM a → sortedM b → sortedM l
 | n, [], b, l, _, h, _, hb => by simp [uniteL] at h; subst h; exact hb
 | n, x :: a, [], l, _, h, ha, _ => by rw [unite_nil] at h; cases h; exact ha
 | 0, x :: a, y :: b, l, hn, _, _, _ => by simp at hn
 | n + 1, x :: a, y :: b, l, hn, h, ha, hb => by
  simp only [List.length_cons] at hn
  have ha' := List.pairwise_cons.1 ha
  have hb' := List.pairwise_cons.1 hb
  rw [uniteL] at h
  cases h1 : lessM x y with
  | true =>
   rw [h1, cond_true, Option.map_eq_some_iff] at h
   obtain ⟨l', e, rfl⟩ := h
   refine List.pairwise_cons.2 ⟨unite_low n a (y :: b) l' x (by simp only [List.length_cons]; omega) e ha'.1 (fun w hw => ?_), unite_sortedN n a (y :: b) l' (by simp only [List.length_cons]; omega) e ha'.2 hb⟩
   rcases List.mem_cons.1 hw with e1 | e1
   ·rw [e1]; exact h1
   ·exact less_trans h1 (hb'.1 w e1)
  | false =>
   rw [h1, cond_false] at h
   cases h2 : lessM y x with
   | true =>
    rw [h2, cond_true, Option.map_eq_some_iff] at h
    obtain ⟨l', e, rfl⟩ := h
    refine List.pairwise_cons.2 ⟨unite_low n (x :: a) b l' y (by simp only [List.length_cons]; omega) e (fun w hw => ?_) hb'.1, unite_sortedN n (x :: a) b l' (by simp only [List.length_cons]; omega) e ha hb'.2⟩
    rcases List.mem_cons.1 hw with e1 | e1
    ·rw [e1]; exact h2
    ·exact less_trans h2 (ha'.1 w e1)
   | false =>
    rw [h2, cond_false] at h
    cases h3 : decide (x.value ≠ y.value) with
    | true => rw [h3, cond_true] at h; cases h
    | false =>
     rw [h3, cond_false, Option.map_eq_some_iff] at h
     obtain ⟨l', e, rfl⟩ := h
     refine List.pairwise_cons.2 ⟨fun w hw => ?_, unite_sortedN n a b l' (by omega) e ha'.2 hb'.2⟩
     exact (unite_low n a b l' x (by omega) e ha'.1 (fun w hw => less_eq h1 h2 (hb'.1 w hw)) w hw : lessM x w = true)
theorem unite_sorted {a b l : List MarkD} (h : uniteL a b = some l) (ha : sortedM a) (hb : sortedM b) : sortedM l := unite_sortedN _ a b l (Nat.le_refl _) h ha hb
theorem unite_head {x : MarkD} {l b : List MarkD} (h : ∀ z ∈ b, lessM x z = true) : uniteL (x :: l) b = (uniteL l b).map (x :: ·) := by
 cases b with
 | nil => rw [unite_nil, unite_nil]; rfl
 | cons z b => rw [uniteL, h z (by simp)]; rfl
theorem unite_cons : ∀ (a : List MarkD) (y : MarkD) (b : List MarkD), sortedM a → sortedM (y :: b) → uniteL a (y :: b) = (uniteL a [y]).bind fun l => uniteL l b
 | [], y, b, _, hb => by
  have hb' := List.pairwise_cons.1 hb
  simp only [uniteL, Option.bind_some]
  rw [unite_head hb'.1]; simp [uniteL]
 | x :: a, y, b, ha, hb => by
  have ha' := List.pairwise_cons.1 ha
  have hb' := List.pairwise_cons.1 hb
  rw [uniteL]
  conv => rhs; rw [uniteL]
  cases h1 : lessM x y with
  | true =>
   simp only [cond_true]
   rw [unite_cons a y b ha'.2 hb]
   cases h9 : uniteL a [y] with
   | none => rfl
   | some l =>
    simp only [Option.bind_some, Option.map_some]
    rw [unite_head (fun z hz => less_trans h1 (hb'.1 z hz))]
  | false =>
   simp only [cond_false]
   cases h2 : lessM y x with
   | true =>
    simp only [cond_true]
    rw [unite_nil]
    simp only [Option.map_some, Option.bind_some]
    rw [unite_head hb'.1]
   | false =>
    simp only [cond_false]
    cases h3 : decide (x.value ≠ y.value) with
    | true => rfl
    | false =>
     simp only [cond_false]
     rw [unite_nil]
     simp only [Option.map_some, Option.bind_some]
     exact (unite_head (x := { x with gone := x.gone || y.gone }) (fun z hz => (less_eq h1 h2 (hb'.1 z hz) : lessM x z = true))).symm
theorem unite_app : ∀ (b a c : List MarkD), sortedM a → sortedM (b ++ c) → uniteL a (b ++ c) = (uniteL a b).bind fun l => uniteL l c
 | [], a, c, _, _ => by rw [unite_nil]; rfl
 | y :: b, a, c, ha, hb => by
  rw [List.cons_append, unite_cons a y (b ++ c) ha hb]
  have hb2 : sortedM (y :: b) := by
   have : sortedM ((y :: b) ++ c) := hb
   exact (List.pairwise_append.1 this).1
  rw [unite_cons a y b ha hb2]
  cases h9 : uniteL a [y] with
  | none => rfl
  | some l =>
   simp only [Option.bind_some]
   exact unite_app b l c (unite_sorted h9 ha (List.pairwise_singleton _ _)) (List.pairwise_cons.1 hb).2
theorem unite_next {a b ms : List MarkD} {i : Nat} (ha : sortedM a) (hb : sortedM b) (hi : i < b.length) (h : uniteL a (b.take i) = some ms) : uniteL a (b.take (i + 1)) = uniteL ms [b.getD i default] := by
 have hs : sortedM (b.take (i + 1)) := hb.sublist (List.take_sublist _ _)
 rw [take_get hi] at hs ⊢
 rw [unite_app _ _ _ ha hs, h]; rfl
end Go.Ab

set_option linter.unusedSimpArgs false
set_option linter.unusedVariables false
namespace Go.Ab
theorem shr_half {x : Int} (h0 : 0 ≤ x) (h1 : x < 4611686018427387904) : shrI .u64 x 1 = x / 2 := by
 unfold shrI
 rw [show (min (Int.toNat 1) IntKind.u64.bits) = 1 by decide]
 rw [Int.fdiv_eq_ediv_of_nonneg _ (by decide)]; rfl
theorem bs_stepA {l : List MarkD} {m : MarkD} {x : Int} (hs : sortedM l) (h0 : 0 ≤ x) (hx : x < ((l.length : Nat) : Int)) (h : cmpM (l.getD x.toNat default) m < 0) : ∀ q : Nat, ((q : Nat) : Int) < x + 1 → lessM (l.getD q default) m = true := by
 intro q hq
 have h2 : lessM (l.getD x.toNat default) m = true := by rw [← cmpM_lt]; exact decide_eq_true h
 exact bs_lt hs (by omega) h2 q (by omega)
theorem bs_stepB {l : List MarkD} {m : MarkD} {x : Int} (hs : sortedM l) (h0 : 0 ≤ x) (h : ¬ cmpM (l.getD x.toNat default) m < 0) : ∀ q : Nat, x ≤ ((q : Nat) : Int) → q < l.length → lessM (l.getD q default) m = false := by
 intro q hq hl
 have h2 : lessM (l.getD x.toNat default) m = false := by rw [← cmpM_lt]; exact decide_eq_false h
 exact bs_ge hs h2 q (by omega) hl
theorem bs_end {l : List MarkD} {m : MarkD} {i j : Int} (h0 : 0 ≤ i) (hij : i = j) (hj : j ≤ ((l.length : Nat) : Int)) (hA : ∀ q : Nat, ((q : Nat) : Int) < i → lessM (l.getD q default) m = true) (hB : ∀ q : Nat, j ≤ ((q : Nat) : Int) → q < l.length → lessM (l.getD q default) m = false) :
  i = ((bsPos l m : Nat) : Int) ∧ (decide (i < ((l.length : Nat) : Int)) && decide (cmpM (l.getD i.toNat default) m = 0)) = bsFound l m := by
 have e : bsPos l m = i.toNat := bs_at (by omega) (fun q hq => hA q (by omega)) (fun q hq hl => hB q (by omega) hl)
 refine ⟨by omega, ?_⟩
 unfold bsFound
 rw [e, show decide (i < ((l.length : Nat) : Int)) = decide (i.toNat < l.length) from bool_ext (by simp only [decide_eq_true_eq]; omega)]
theorem marks_ext {a b : List MarkD} (hl : a.length = b.length) (h : ∀ j, j < a.length → a.getD j default = b.getD j default) : a = b := by
 apply List.ext_getElem hl
 intro j h1 h2
 have := h j h1
 rwa [List.getD_eq_getElem?_getD, List.getElem?_eq_getElem h1, List.getD_eq_getElem?_getD, List.getElem?_eq_getElem h2] at this
theorem mark_same {x y : MarkD} (h : (!(decide (x.value = y.value) && (decide (x.proc = y.proc) && (decide (x.number = y.number) && ((x.gone == y.gone) && true))))) = false) : x = y := by
 simp only [Bool.not_eq_false', Bool.and_eq_true, decide_eq_true_eq, beq_iff_eq, and_true] at h
 cases x; cases y; simp at h ⊢; exact h
theorem mark_self {x : MarkD} (h : (!(decide (x.value = x.value) && (decide (x.proc = x.proc) && (decide (x.number = x.number) && ((x.gone == x.gone) && true))))) = true) : False := by
 simp at h
def sameC (a b : CopyD) : Bool := ((((decide (a.up = b.up) && decide (a.down = b.down)) && decide (a.value = b.value)) && decide (a.time = b.time)) && decide (a.proc = b.proc)) && decide (a.marks = b.marks)
theorem same_iff {a b : CopyD} : sameC a b = true ↔ a = b := by
 unfold sameC
 simp only [Bool.and_eq_true, decide_eq_true_eq]
 constructor
 ·rintro ⟨⟨⟨⟨⟨h1, h2⟩, h3⟩, h4⟩, h5⟩, h6⟩
  cases a; cases b; simp at *; exact ⟨h1, h2, h3, h4, h5, h6⟩
 ·rintro rfl; exact ⟨⟨⟨⟨⟨rfl, rfl⟩, rfl⟩, rfl⟩, rfl⟩, rfl⟩
theorem same_no {a b : CopyD} (h : a.marks ≠ b.marks) : sameC a b = false := by unfold sameC; rw [decide_eq_false h, Bool.and_false]
theorem same_yes {a b : CopyD} (h : a.marks = b.marks) : ((((decide (a.up = b.up) && decide (a.down = b.down)) && decide (a.value = b.value)) && decide (a.time = b.time)) && decide (a.proc = b.proc)) = sameC a b := by unfold sameC; rw [decide_eq_true h, Bool.and_true]
def withinC (a b : CopyD) : Bool := (mergeC a b).2 && sameC (mergeC a b).1 b
theorem found_lt {l : List MarkD} {m : MarkD} (h : bsFound l m = true) : bsPos l m < l.length := by
 unfold bsFound at h
 simp only [Bool.and_eq_true, decide_eq_true_eq] at h
 exact h.1
theorem one_ins {l : List MarkD} {m : MarkD} (hs : sortedM l) (h : (!bsFound l m) = true) : uniteL l [m] = some (insM l (Int.toNat ((bsPos l m : Nat) : Int)) m) := by
 rw [unite_one hs, h]; rfl
theorem one_set {l : List MarkD} {m : MarkD} (hs : sortedM l) (h : (!bsFound l m) = false) (hv : ¬ (l.getD (bsPos l m) default).value ≠ m.value) : uniteL l [m] = some (l.set (bsPos l m) { l.getD (bsPos l m) default with gone := (l.getD (bsPos l m) default).gone || m.gone }) := by
 rw [unite_one hs, h, decide_eq_false hv]; rfl
theorem one_none {a b ms : List MarkD} {q : Nat} (hx : uniteL a (b.take (q + 1)) = uniteL ms [b.getD q default]) (hb : sortedM b) (ha : sortedM a) (hq : q < b.length) (hs : sortedM ms) (h : (!bsFound ms (b.getD q default)) = false) (hv : (ms.getD (bsPos ms (b.getD q default)) default).value ≠ (b.getD q default).value) : (uniteP a b).2 = false := by
 rw [unite_one hs, h, decide_eq_true hv] at hx
 simp only [cond_false, cond_true] at hx
 have h2 := unite_app (b.take (q + 1)) a (b.drop (q + 1)) ha (by rw [List.take_append_drop]; exact hb)
 rw [List.take_append_drop, hx] at h2
 unfold uniteP
 rw [h2]; rfl
end Go.Ab
namespace Go.Ab
theorem merge_fin {a b : CopyD} {us ds : List Int} {ms : List MarkD} {k q : Nat} (hg : (validCopy a && validCopy b) = true) (hu : uniteL a.marks (b.marks.take q) = some ms) (hq : b.marks.length ≤ q) (hus : us = maxUp a.up b.up k) (hds : ds = maxUp a.down b.down k) (hk : k = 3) (h1 : a.up.length = 3) (h2 : a.down.length = 3) (v : Bool)
  (hv : validCopy ⟨us, ds, bif newerC b a then b.value else a.value, bif newerC b a then b.time else a.time, bif newerC b a then b.proc else a.proc, ms⟩ = v) :
  mergeC a b = bif v then (⟨us, ds, bif newerC b a then b.value else a.value, bif newerC b a then b.time else a.time, bif newerC b a then b.proc else a.proc, ms⟩, true) else (zeroC, false) := by
 subst hk
 rw [List.take_of_length_le hq] at hu
 have e : (⟨us, ds, bif newerC b a then b.value else a.value, bif newerC b a then b.time else a.time, bif newerC b a then b.proc else a.proc, ms⟩ : CopyD) = joinC a b ms := by
  unfold joinC; rw [maxUp_all hus h1, maxUp_all hds h2]
 rw [e] at hv ⊢
 unfold mergeC orZero
 rw [hg, hu]
 simp only [cond_true]
 rw [hv]
end Go.Ab

set_option linter.unusedSimpArgs false
set_option linter.unusedVariables false
namespace Go.Ab
theorem unite_self : ∀ a : List MarkD, uniteL a a = some a
 | [] => by simp [uniteL]
 | x :: a => by
  rw [uniteL, less_irr, decide_eq_false (show ¬ x.value ≠ x.value from fun h => h rfl), unite_self a]
  simp
theorem less_asymm {a b : MarkD} (h : lessM a b = true) : lessM b a = false := by rw [less_no]; rw [less_iff] at h; omega
theorem key_eq {x y : MarkD} (h1 : lessM x y = false) (h2 : lessM y x = false) : x.proc = y.proc ∧ x.number = y.number := by
 rw [less_no] at h1 h2; omega
theorem unite_commN : ∀ (n : Nat) (a b : List MarkD), a.length + b.length ≤ n → uniteL a b = uniteL b a
 | n, [], b, _ => by rw [unite_nil]; simp [uniteL]
 | n, x :: a, [], _ => by rw [unite_nil]; simp [uniteL]
 | 0, x :: a, y :: b, hn => by simp at hn
 | n + 1, x :: a, y :: b, hn => by
  simp only [List.length_cons] at hn
  rw [uniteL]
  conv => rhs; rw [uniteL]
  cases h1 : lessM x y with
  | true =>
   rw [less_asymm h1]
   simp only [cond_true, cond_false]
   rw [unite_commN n a (y :: b) (by simp only [List.length_cons]; omega)]
  | false =>
   cases h2 : lessM y x with
   | true =>
    simp only [cond_true, cond_false]
    rw [unite_commN n (x :: a) b (by simp only [List.length_cons]; omega)]
   | false =>
    simp only [cond_false]
    by_cases hv : x.value = y.value
    ·rw [decide_eq_false (show ¬ x.value ≠ y.value from fun h => h hv), decide_eq_false (show ¬ y.value ≠ x.value from fun h => h hv.symm)]
     simp only [cond_false]
     rw [unite_commN n a b (by omega)]
     have hk := key_eq h1 h2
     have e : ({ x with gone := x.gone || y.gone } : MarkD) = { y with gone := y.gone || x.gone } := by
      cases x; cases y; simp at *; exact ⟨hv, hk.1, hk.2, Bool.or_comm _ _⟩
     rw [e]
    ·rw [decide_eq_true (show x.value ≠ y.value from hv), decide_eq_true (show y.value ≠ x.value from fun h => hv h.symm)]
     rfl
theorem unite_comm (a b : List MarkD) : uniteL a b = uniteL b a := unite_commN _ a b (Nat.le_refl _)
theorem unite_absN : ∀ (n : Nat) (a b l : List MarkD), a.length + b.length ≤ n → uniteL a b = some l → uniteL a l = some l ∧ uniteL b l = some l
 | n, [], b, l, _, h => by
  simp [uniteL] at h; subst h
  exact ⟨by simp [uniteL], unite_self _⟩
 | n, x :: a, [], l, _, h => by
  rw [unite_nil] at h; cases h
  exact ⟨unite_self _, by simp [uniteL]⟩
 | 0, x :: a, y :: b, l, hn, _ => by simp at hn
 | n + 1, x :: a, y :: b, l, hn, h => by
  simp only [List.length_cons] at hn
  rw [uniteL] at h
  cases h1 : lessM x y with
  | true =>
   rw [h1, cond_true, Option.map_eq_some_iff] at h
   obtain ⟨l', e, rfl⟩ := h
   obtain ⟨i1, i2⟩ := unite_absN n a (y :: b) l' (by simp only [List.length_cons]; omega) e
   constructor
   ·rw [uniteL, less_irr, decide_eq_false (show ¬ x.value ≠ x.value from fun h => h rfl), i1]; simp
   ·rw [uniteL, less_asymm h1, h1, i2]; rfl
  | false =>
   rw [h1, cond_false] at h
   cases h2 : lessM y x with
   | true =>
    rw [h2, cond_true, Option.map_eq_some_iff] at h
    obtain ⟨l', e, rfl⟩ := h
    obtain ⟨i1, i2⟩ := unite_absN n (x :: a) b l' (by simp only [List.length_cons]; omega) e
    constructor
    ·rw [uniteL, h1, h2, i1]; rfl
    ·rw [uniteL, less_irr, decide_eq_false (show ¬ y.value ≠ y.value from fun h => h rfl), i2]; simp
   | false =>
    rw [h2, cond_false] at h
    cases h3 : decide (x.value ≠ y.value) with
    | true => rw [h3, cond_true] at h; cases h
    | false =>
     rw [h3, cond_false, Option.map_eq_some_iff] at h
     obtain ⟨l', e, rfl⟩ := h
     obtain ⟨i1, i2⟩ := unite_absN n a b l' (by omega) e
     have hv : x.value = y.value := Decidable.not_not.1 (of_decide_eq_false h3)
     constructor
     ·rw [uniteL, show lessM x { x with gone := x.gone || y.gone } = false from less_irr x, show lessM { x with gone := x.gone || y.gone } x = false from less_irr x, i1]
      simp
     ·rw [uniteL, show lessM y { x with gone := x.gone || y.gone } = false from h2, show lessM { x with gone := x.gone || y.gone } y = false from h1, i2, decide_eq_false (show ¬ y.value ≠ x.value from fun h => h hv.symm)]
      have hk := key_eq h1 h2
      simp only [cond_false, Option.map_some, Option.some.injEq, List.cons.injEq, and_true]
      cases x; cases y; simp at *
      refine ⟨hv.symm, hk.1.symm, hk.2.symm, ?_⟩
      rename_i g1 _ _ _ g2
      cases g1 <;> cases g2 <;> simp
theorem unite_abs {a b l : List MarkD} (h : uniteL a b = some l) : uniteL a l = some l ∧ uniteL b l = some l := unite_absN _ a b l (Nat.le_refl _) h
theorem maxL_get {a b : List Int} {k : Nat} (hk : k < 3) : (maxL a b 3).getD k 0 = max (a.getD k 0) (b.getD k 0) := by
 unfold maxL
 rw [List.getD_eq_getElem?_getD, List.getElem?_map, List.getElem?_range hk]; rfl
theorem maxL_len (a b : List Int) : (maxL a b 3).length = 3 := by simp [maxL]
theorem maxL_is {a b c : List Int} (hc : c.length = 3) (h : ∀ k, k < 3 → max (a.getD k 0) (b.getD k 0) = c.getD k 0) : maxL a b 3 = c := by
 apply ints_ext (by rw [maxL_len, hc])
 intro j hj
 rw [maxL_len] at hj
 rw [maxL_get hj, h j hj]
theorem newer_iff {a b : CopyD} : newerC a b = true ↔ b.time < a.time ∨ (a.time = b.time ∧ (b.proc < a.proc ∨ (a.proc = b.proc ∧ b.value < a.value))) := by
 unfold newerC
 by_cases h : a.time = b.time
 ·rw [decide_eq_false (show ¬ a.time ≠ b.time by omega), cond_false]
  by_cases g : a.proc = b.proc
  ·rw [decide_eq_false (show ¬ a.proc ≠ b.proc by omega), cond_false, decide_eq_true_eq]; omega
  ·rw [decide_eq_true (show a.proc ≠ b.proc from g), cond_true, decide_eq_true_eq]; omega
 ·rw [decide_eq_true (show a.time ≠ b.time from h), cond_true, decide_eq_true_eq]; omega
theorem newer_no {a b : CopyD} : newerC a b = false ↔ ¬ (b.time < a.time ∨ (a.time = b.time ∧ (b.proc < a.proc ∨ (a.proc = b.proc ∧ b.value < a.value)))) := by
 rw [← newer_iff]; cases newerC a b <;> simp
theorem copy_ext {a b : CopyD} (h1 : a.up = b.up) (h2 : a.down = b.down) (h3 : a.value = b.value) (h4 : a.time = b.time) (h5 : a.proc = b.proc) (h6 : a.marks = b.marks) : a = b := by
 cases a; cases b; simp at *; exact ⟨h1, h2, h3, h4, h5, h6⟩
theorem within_merge {a b : CopyD} : withinC a b = true ↔ mergeC a b = (b, true) := by
 unfold withinC
 rw [Bool.and_eq_true, same_iff]
 constructor
 ·rintro ⟨h1, h2⟩; exact Prod.ext h2 h1
 ·intro h; rw [h]; exact ⟨rfl, rfl⟩
theorem merge_is {a b c : CopyD} (ha : validCopy a = true) (hb : validCopy b = true) (hc : validCopy c = true) (hu : uniteL a.marks b.marks = some c.marks) (h1 : ∀ k, k < 3 → max (a.up.getD k 0) (b.up.getD k 0) = c.up.getD k 0) (h2 : ∀ k, k < 3 → max (a.down.getD k 0) (b.down.getD k 0) = c.down.getD k 0)
  (h3 : (bif newerC b a then b.value else a.value) = c.value) (h4 : (bif newerC b a then b.time else a.time) = c.time) (h5 : (bif newerC b a then b.proc else a.proc) = c.proc) : mergeC a b = (c, true) := by
 have hl := up_len hc
 have e : joinC a b c.marks = c := copy_ext (maxL_is hl.1 h1) (maxL_is hl.2.1 h2) h3 h4 h5 rfl
 unfold mergeC
 rw [ha, hb, hu]
 simp only [Bool.and_self, cond_true]
 rw [e]
 exact orZ_ok hc
theorem merge_inv {a b c : CopyD} (h : mergeC a b = (c, true)) : validCopy a = true ∧ validCopy b = true ∧ validCopy c = true ∧ uniteL a.marks b.marks = some c.marks ∧ (∀ k, k < 3 → max (a.up.getD k 0) (b.up.getD k 0) = c.up.getD k 0) ∧ (∀ k, k < 3 → max (a.down.getD k 0) (b.down.getD k 0) = c.down.getD k 0) ∧
  (bif newerC b a then b.value else a.value) = c.value ∧ (bif newerC b a then b.time else a.time) = c.time ∧ (bif newerC b a then b.proc else a.proc) = c.proc := by
 have hv : validCopy c = true := by have := merge_valid (a := a) (b := b) (by rw [h]); rw [h] at this; exact this
 unfold mergeC at h
 cases hg : (validCopy a && validCopy b) with
 | false => rw [hg, cond_false] at h; exact absurd (congrArg Prod.snd h) (by simp)
 | true =>
  rw [hg, cond_true] at h
  cases hu : uniteL a.marks b.marks with
  | none => rw [hu] at h; exact absurd (congrArg Prod.snd h) (by simp)
  | some ms =>
   rw [hu] at h
   simp only at h
   unfold orZero at h
   cases hj : validCopy (joinC a b ms) with
   | false => rw [hj, cond_false] at h; exact absurd (congrArg Prod.snd h) (by simp)
   | true =>
    rw [hj, cond_true] at h
    have e : joinC a b ms = c := congrArg Prod.fst h
    subst e
    exact ⟨and_l hg, and_r hg, hv, rfl, fun k hk => (maxL_get hk).symm, fun k hk => (maxL_get hk).symm, rfl, rfl, rfl⟩
theorem within_of {a b : CopyD} (ha : validCopy a = true) (hb : validCopy b = true) (hu : uniteL a.marks b.marks = some b.marks) (h1 : ∀ k, k < 3 → a.up.getD k 0 ≤ b.up.getD k 0) (h2 : ∀ k, k < 3 → a.down.getD k 0 ≤ b.down.getD k 0) (h3 : newerC b a = true ∨ (a.value = b.value ∧ a.time = b.time ∧ a.proc = b.proc)) : mergeC a b = (b, true) := by
 refine merge_is ha hb hb hu (fun k hk => by have := h1 k hk; omega) (fun k hk => by have := h2 k hk; omega) ?_ ?_ ?_
 all_goals
  rcases h3 with e | ⟨e1, e2, e3⟩
  ·rw [e]; rfl
  ·cases newerC b a
   ·simp only [cond_false]; first | exact e1 | exact e2 | exact e3
   ·rfl
theorem merge_comm (a b : CopyD) : mergeC a b = mergeC b a := by
 unfold mergeC
 rw [Bool.and_comm, unite_comm a.marks b.marks]
 cases hg : (validCopy b && validCopy a) with
 | false => rfl
 | true =>
  simp only [cond_true]
  cases uniteL b.marks a.marks with
  | none => rfl
  | some ms =>
   simp only
   have e : joinC a b ms = joinC b a ms := by
    unfold joinC
    have m : ∀ x y : List Int, maxL x y 3 = maxL y x 3 := fun x y => maxL_is (maxL_len y x) (fun k hk => by rw [maxL_get hk]; omega)
    rw [m a.up b.up, m a.down b.down]
    have key : (newerC b a = true ∧ newerC a b = false) ∨ (newerC b a = false ∧ newerC a b = true) ∨ (newerC b a = false ∧ newerC a b = false ∧ a.time = b.time ∧ a.proc = b.proc ∧ a.value = b.value) := by
     cases h1 : newerC b a <;> cases h2 : newerC a b
     ·rw [newer_no] at h1 h2; right; right; exact ⟨rfl, rfl, by omega, by omega, by omega⟩
     ·right; left; exact ⟨rfl, rfl⟩
     ·left; exact ⟨rfl, rfl⟩
     ·rw [newer_iff] at h1 h2; omega
    rcases key with ⟨e1, e2⟩ | ⟨e1, e2⟩ | ⟨e1, e2, e3, e4, e5⟩
    ·rw [e1, e2]; rfl
    ·rw [e1, e2]; rfl
    ·rw [e1, e2]; simp only [cond_false]; rw [e3, e4, e5]
   rw [e]
theorem merge_up {a b c : CopyD} (h : mergeC a b = (c, true)) : mergeC a c = (c, true) ∧ mergeC b c = (c, true) := by
 obtain ⟨h1, h2, h3, h4, h5, h6, h7, h8, h9⟩ := merge_inv h
 have hu := unite_abs h4
 constructor
 ·refine within_of h1 h3 hu.1 (fun k hk => by have := h5 k hk; omega) (fun k hk => by have := h6 k hk; omega) ?_
  cases hn : newerC b a with
  | true =>
   rw [hn] at h7 h8 h9
   simp only [cond_true] at h7 h8 h9
   left
   rw [newer_iff] at hn ⊢
   omega
  | false => rw [hn] at h7 h8 h9; exact .inr ⟨h7, h8, h9⟩
 ·refine within_of h2 h3 hu.2 (fun k hk => by have := h5 k hk; omega) (fun k hk => by have := h6 k hk; omega) ?_
  cases hn : newerC b a with
  | true => rw [hn] at h7 h8 h9; exact .inr ⟨h7, h8, h9⟩
  | false =>
   rw [hn] at h7 h8 h9
   simp only [cond_false] at h7 h8 h9
   rw [newer_no] at hn
   rw [newer_iff]
   omega
end Go.Ab
namespace Go.Ab
theorem same_refl (a : CopyD) : sameC a a = true := same_iff.2 rfl
end Go.Ab

set_option linter.unusedSimpArgs false
set_option linter.unusedVariables false
namespace Go.Ab
end Go.Ab

set_option linter.unusedSimpArgs false
set_option linter.unusedVariables false
namespace Go.Ab
abbrev Sm (c : CopyD) : Prop := c.up.length ≤ 1048576 ∧ c.down.length ≤ 1048576 ∧ c.marks.length ≤ 1048576
theorem valid_sm {c : CopyD} (h : validCopy c = true) : Sm c := by have := up_len h; exact ⟨by omega, by omega, by omega⟩
theorem zero_sm : Sm zeroC := ⟨by decide, by decide, by decide⟩
theorem orZero_sm (c : CopyD) : Sm (orZero c).1 := by
 unfold orZero
 cases h : validCopy c with
 | true => exact valid_sm h
 | false => exact zero_sm
theorem mergeC_sm (a b : CopyD) : Sm (mergeC a b).1 := by
 cases hg : (validCopy a && validCopy b) with
 | false => rw [merge_no hg]; exact zero_sm
 | true =>
  cases hu : (uniteP a.marks b.marks).2 with
  | false => rw [merge_none hg hu]; exact zero_sm
  | true => rw [merge_some hg hu]; exact orZero_sm _
end Go.Ab

set_option linter.unusedSimpArgs false
set_option linter.unusedVariables false
namespace Go.Ab
end Go.Ab
namespace Go.Ab
end Go.Ab

set_option linter.unusedSimpArgs false
set_option linter.unusedVariables false
namespace Go.Ab
open Go.Lib
abbrev sortZ (l : List Int) : List Int := l.mergeSort fun x y => decide (x ≤ y)
theorem asc_ext : ∀ {a b : List Int}, a.Pairwise (· < ·) → b.Pairwise (· < ·) → (∀ x, x ∈ a ↔ x ∈ b) → a = b
 | [], [], _, _, _ => rfl
 | [], y :: b, _, _, h => absurd ((h y).2 (by simp)) (by simp)
 | x :: a, [], _, _, h => absurd ((h x).1 (by simp)) (by simp)
 | x :: a, y :: b, ha, hb, h => by
  rw [List.pairwise_cons] at ha hb
  have e : x = y := by
   have h1 := (h x).1 (by simp)
   have h2 := (h y).2 (by simp)
   rw [List.mem_cons] at h1 h2
   rcases h1 with h1 | h1
   ·exact h1
   ·rcases h2 with h2 | h2
    ·exact h2.symm
    ·have := ha.1 y h2; have := hb.1 x h1; omega
  subst e
  rw [asc_ext ha.2 hb.2]
  intro z
  have hz := h z
  rw [List.mem_cons, List.mem_cons] at hz
  constructor
  ·intro hm
   rcases hz.1 (.inr hm) with e | e
   ·subst e; have := ha.1 z hm; omega
   ·exact e
  ·intro hm
   rcases hz.2 (.inr hm) with e | e
   ·subst e; have := hb.1 z hm; omega
   ·exact e
theorem compact_asc (d : Array Int) (hs : ∀ i j, i < j → j < d.size → d[i]! ≤ d[j]!) : ∀ m, m ≤ d.size →
  (compactUpTo d m).Pairwise (· < ·) ∧ (∀ x, x ∈ compactUpTo d m ↔ ∃ j, j < m ∧ d[j]! = x)
 | 0, _ => by
  refine ⟨by simp [compactUpTo], fun x => ⟨fun h => by simp [compactUpTo] at h, fun ⟨j, hj, _⟩ => by omega⟩⟩
 | m + 1, hm => by
  obtain ⟨h1, h2⟩ := compact_asc d hs m (by omega)
  rw [compactUpTo_succ]
  by_cases hk : keeps d m = true
  ·rw [if_pos hk]
   constructor
   ·rw [List.pairwise_append]
    refine ⟨h1, by simp, fun a ha b hb => ?_⟩
    simp only [List.mem_singleton] at hb
    subst hb
    obtain ⟨j, hj, rfl⟩ := (h2 a).1 ha
    unfold keeps at hk
    rcases of_decide_eq_true hk with h0 | h0
    ·omega
    ·have e1 := hs (m - 1) m (by omega) (by omega)
     by_cases hjm : j = m - 1
     ·subst hjm; omega
     ·have e2 := hs j (m - 1) (by omega) (by omega); omega
   ·intro x
    rw [List.mem_append, h2, List.mem_singleton]
    constructor
    ·rintro (⟨j, hj, e⟩ | e)
     ·exact ⟨j, by omega, e⟩
     ·exact ⟨m, by omega, e.symm⟩
    ·rintro ⟨j, hj, e⟩
     by_cases hjm : j = m
     ·subst hjm; exact .inr e.symm
     ·exact .inl ⟨j, by omega, e⟩
  ·rw [if_neg hk, List.append_nil]
   refine ⟨h1, fun x => ?_⟩
   rw [h2]
   constructor
   ·rintro ⟨j, hj, e⟩; exact ⟨j, by omega, e⟩
   ·rintro ⟨j, hj, e⟩
    by_cases hjm : j = m
    ·subst hjm
     have : ¬ (j = 0 ∨ d[j]! ≠ d[j - 1]!) := fun h => hk (by unfold keeps; exact decide_eq_true h)
     have h0 : j ≠ 0 := fun h => this (.inl h)
     have h1 : d[j]! = d[j - 1]! := Decidable.not_not.1 fun h => this (.inr h)
     exact ⟨j - 1, by omega, by rw [← h1]; exact e⟩
    ·exact ⟨j, by omega, e⟩
theorem get_arr (l : List Int) (j : Nat) : l.toArray[j]! = l.getD j 0 := by
 rw [List.getD_eq_getElem?_getD]
 simp [getElem!_def]
 try (cases l[j]? <;> rfl)
theorem compact_sort (l : List Int) : (compact (sortZ l)).Pairwise (· < ·) ∧ ∀ x, x ∈ compact (sortZ l) ↔ x ∈ l := by
 have hp : (sortZ l).Pairwise (fun a b => decide (a ≤ b) = true) := List.pairwise_mergeSort (by intro a b c h1 h2; have := of_decide_eq_true h1; have := of_decide_eq_true h2; exact decide_eq_true (by omega)) (by intro a b; simp; omega) l
 have hs : ∀ i j, i < j → j < (sortZ l).toArray.size → (sortZ l).toArray[i]! ≤ (sortZ l).toArray[j]! := by
  intro i j hij hj
  have hj' : j < (sortZ l).length := by simpa using hj
  rw [get_arr, get_arr, List.getD_eq_getElem?_getD, List.getD_eq_getElem?_getD, List.getElem?_eq_getElem hj', List.getElem?_eq_getElem (by omega)]
  exact of_decide_eq_true (List.pairwise_iff_getElem.1 hp i j (by omega) hj' hij)
 have h := compact_asc (sortZ l).toArray hs (sortZ l).length (by simp)
 refine ⟨h.1, fun x => ?_⟩
 show x ∈ compactUpTo _ _ ↔ _
 rw [h.2, ← List.mem_mergeSort (le := fun x y => decide (x ≤ y))]
 constructor
 ·rintro ⟨j, hj, rfl⟩
  rw [get_arr, List.getD_eq_getElem?_getD, List.getElem?_eq_getElem hj]
  exact List.getElem_mem _
 ·intro hx
  obtain ⟨j, hj, rfl⟩ := List.mem_iff_getElem.1 hx
  exact ⟨j, hj, by rw [get_arr, List.getD_eq_getElem?_getD, List.getElem?_eq_getElem hj]; rfl⟩
def hasAt (ms : List MarkD) (v : Int) (i : Nat) : Bool := decide ((ms.getD i default).value = v) && !(ms.getD i default).gone
def hasV (ms : List MarkD) (v : Int) : Bool := anyN ms.length (hasAt ms v)
def valsUp (ms : List MarkD) : Nat → List Int
 | 0 => []
 | v + 1 => bif hasV ms ((v : Nat) : Int) then valsUp ms v ++ [((v : Nat) : Int)] else valsUp ms v
def listUp (ms : List MarkD) : Nat → List Int
 | 0 => []
 | i + 1 => bif (ms.getD i default).gone then listUp ms i else listUp ms i ++ [(ms.getD i default).value]
def valuesC (c : CopyD) : List Int := bif validCopy c then valsUp c.marks 4 else []
theorem listUp_len (ms : List MarkD) : ∀ n, (listUp ms n).length ≤ n
 | 0 => by simp [listUp]
 | n + 1 => by
  have := listUp_len ms n
  unfold listUp
  cases (ms.getD n default).gone with
  | true => simp only [cond_true]; omega
  | false => simp only [cond_false, List.length_append, List.length_singleton]; omega
theorem valsUp_mem (ms : List MarkD) (x : Int) : ∀ n, x ∈ valsUp ms n ↔ (0 ≤ x ∧ x < ((n : Nat) : Int) ∧ hasV ms x = true)
 | 0 => by
  simp only [valsUp]
  constructor
  ·intro h; cases h
  ·rintro ⟨h1, h2, _⟩; omega
 | n + 1 => by
  have ih := valsUp_mem ms x n
  unfold valsUp
  cases hv : hasV ms ((n : Nat) : Int) with
  | true =>
   rw [cond_true, List.mem_append, ih, List.mem_singleton]
   constructor
   ·rintro (⟨h1, h2, h3⟩ | e)
    ·exact ⟨h1, by omega, h3⟩
    ·subst e; exact ⟨by omega, by omega, hv⟩
   ·rintro ⟨h1, h2, h3⟩
    by_cases e : x = ((n : Nat) : Int)
    ·exact .inr e
    ·exact .inl ⟨h1, by omega, h3⟩
  | false =>
   rw [cond_false, ih]
   constructor
   ·rintro ⟨h1, h2, h3⟩; exact ⟨h1, by omega, h3⟩
   ·rintro ⟨h1, h2, h3⟩
    refine ⟨h1, ?_, h3⟩
    by_cases e : x = ((n : Nat) : Int)
    ·subst e; rw [hv] at h3; cases h3
    ·omega
theorem valsUp_asc (ms : List MarkD) : ∀ n, (valsUp ms n).Pairwise (· < ·)
 | 0 => by simp [valsUp]
 | n + 1 => by
  have ih := valsUp_asc ms n
  unfold valsUp
  cases hv : hasV ms ((n : Nat) : Int) with
  | true =>
   rw [cond_true, List.pairwise_append]
   refine ⟨ih, by simp, fun a ha b hb => ?_⟩
   simp only [List.mem_singleton] at hb
   subst hb
   have := (valsUp_mem ms a n).1 ha
   omega
  | false => exact ih
theorem listUp_mem (ms : List MarkD) (x : Int) : ∀ n, x ∈ listUp ms n ↔ ∃ i, i < n ∧ hasAt ms x i = true
 | 0 => by
  simp only [listUp]
  constructor
  ·intro h; cases h
  ·rintro ⟨i, hi, _⟩; omega
 | n + 1 => by
  have ih := listUp_mem ms x n
  unfold listUp
  cases hg : (ms.getD n default).gone with
  | true =>
   rw [cond_true, ih]
   constructor
   ·rintro ⟨i, hi, h⟩; exact ⟨i, by omega, h⟩
   ·rintro ⟨i, hi, h⟩
    by_cases e : i = n
    ·subst e; unfold hasAt at h; rw [hg, Bool.not_true, Bool.and_false] at h; cases h
    ·exact ⟨i, by omega, h⟩
  | false =>
   rw [cond_false, List.mem_append, ih, List.mem_singleton]
   constructor
   ·rintro (⟨i, hi, h⟩ | e)
    ·exact ⟨i, by omega, h⟩
    ·exact ⟨n, by omega, by unfold hasAt; rw [hg, decide_eq_true e.symm]; rfl⟩
   ·rintro ⟨i, hi, h⟩
    by_cases e : i = n
    ·subst e; unfold hasAt at h; simp only [Bool.and_eq_true, decide_eq_true_eq] at h; exact .inr h.1.symm
    ·exact .inl ⟨i, by omega, h⟩
theorem hasV_iff {ms : List MarkD} {x : Int} : hasV ms x = true ↔ ∃ i, i < ms.length ∧ hasAt ms x i = true := by
 unfold hasV
 constructor
 ·intro h
  cases hc : anyN ms.length (hasAt ms x) with
  | false => rw [hc] at h; cases h
  | true =>
   apply Classical.byContradiction
   intro hn
   have : anyN ms.length (hasAt ms x) = false := anyN_false fun j hj => by
    cases hb : hasAt ms x j with
    | false => rfl
    | true => exact absurd ⟨j, hj, hb⟩ hn
   rw [this] at hc; cases hc
 ·rintro ⟨i, hi, h⟩; exact anyN_true hi h
theorem values_eq {ms : List MarkD} (hm : ∀ i, i < ms.length → 0 ≤ (ms.getD i default).value ∧ (ms.getD i default).value ≤ 3) : compact (sortZ (listUp ms ms.length)) = valsUp ms 4 := by
 have h := compact_sort (listUp ms ms.length)
 refine asc_ext h.1 (valsUp_asc ms 4) fun x => ?_
 rw [h.2, listUp_mem, valsUp_mem, hasV_iff]
 constructor
 ·rintro ⟨i, hi, hx⟩
  have hb := hm i hi
  have he : (ms.getD i default).value = x := by unfold hasAt at hx; simp only [Bool.and_eq_true, decide_eq_true_eq] at hx; exact hx.1
  exact ⟨by omega, by omega, i, hi, hx⟩
 ·rintro ⟨_, _, h⟩; exact h
theorem list_yes {ms : List MarkD} {lo : List Int} {i : Nat} (hl : lo = listUp ms i) (h : (ms.getD i default).gone = false) : lo ++ [(ms.getD i default).value] = listUp ms (i + 1) := by
 subst hl
 show _ = bif (ms.getD i default).gone then _ else _
 rw [h]; rfl
theorem list_no {ms : List MarkD} {lo : List Int} {i : Nat} (hl : lo = listUp ms i) (h : (ms.getD i default).gone = true) : lo = listUp ms (i + 1) := by
 subst hl
 show _ = bif (ms.getD i default).gone then _ else _
 rw [h]; rfl
theorem values_bad {c : CopyD} (h : validCopy c = false) : [] = valuesC c := by unfold valuesC; rw [h]; rfl
theorem values_ok2 {c : CopyD} (h : validCopy c = true) : valsUp c.marks 4 = valuesC c := by unfold valuesC; rw [h]; rfl
theorem valid_vals {c : CopyD} (h : validCopy c = true) : ∀ i, i < c.marks.length → 0 ≤ (c.marks.getD i default).value ∧ (c.marks.getD i default).value ≤ 3 := by
 intro i hi
 have hm := (copy_iff.1 h).2.2.2.1
 have := isMark_iff.1 (mark_at hm hi).1
 omega
theorem values_ok {c : CopyD} {lo : List Int} {i : Nat} (h : validCopy c = true) (hl : lo = listUp c.marks i) (hi : i = c.marks.length) : compact (sortZ lo) = valuesC c := by
 subst hl hi
 rw [values_eq (valid_vals h)]; exact values_ok2 h
end Go.Ab

set_option linter.unusedSimpArgs false
set_option linter.unusedVariables false
namespace Go.Ab
theorem orC_valid {r : CopyD × Bool} {c : CopyD} (hc : validCopy c = true) (h : r.2 = true → validCopy r.1 = true) : validCopy (orC r c) = true := by
 cases hr : r.2 with
 | true => rw [orC_yes hr]; exact h hr
 | false => rw [orC_no hr]; exact hc
theorem change_valid {l : List UInt8} {p pp : Int} {c : CopyD} (hc : validCopy c = true) : validCopy (changeV l p c pp).1 = true := by
 by_cases h0 : pickV l p 5 = 0
 ·rw [ch_put (.inl h0)]; exact orC_valid hc putIn_valid
 by_cases h1 : pickV l p 5 = 1
 ·rw [ch_put (.inr h1)]; exact orC_valid hc putIn_valid
 by_cases h2 : pickV l p 5 = 2
 ·rw [ch_add h2]; exact orC_valid hc addTo_valid
 by_cases h3 : pickV l p 5 = 3
 ·rw [ch_write h3]; exact orC_valid hc writeTo_valid
 ·rw [ch_take h0 h1 h2 h3]; exact takeOut_valid hc
theorem change_pos (l : List UInt8) (p pp : Int) (c : CopyD) : p ≤ (changeV l p c pp).2 ∧ (changeV l p c pp).2 ≤ p + 3 := by
 by_cases h0 : pickV l p 5 = 0
 ·rw [ch_put (.inl h0)]; show p ≤ p + 1 + 1 ∧ p + 1 + 1 ≤ p + 3; omega
 by_cases h1 : pickV l p 5 = 1
 ·rw [ch_put (.inr h1)]; show p ≤ p + 1 + 1 ∧ p + 1 + 1 ≤ p + 3; omega
 by_cases h2 : pickV l p 5 = 2
 ·rw [ch_add h2]; show p ≤ p + 1 + 1 ∧ p + 1 + 1 ≤ p + 3; omega
 by_cases h3 : pickV l p 5 = 3
 ·rw [ch_write h3]; show p ≤ p + 1 + 1 + 1 ∧ p + 1 + 1 + 1 ≤ p + 3; omega
 ·rw [ch_take h0 h1 h2 h3]; show p ≤ p + 1 + 1 ∧ p + 1 + 1 ≤ p + 3; omega
theorem bent_pos (l : List UInt8) (p : Int) (c : CopyD) : p ≤ (bentV l p c).2 ∧ (bentV l p c).2 ≤ p + 4 := by
 by_cases h : 0 < pickV l p 12
 ·rw [be_0 h]; show p ≤ p + 1 ∧ p + 1 ≤ p + 4; omega
 by_cases h1 : pickV l (p + 1) 5 = 0
 ·rw [be_1 h h1]; show p ≤ p + 1 + 1 + 1 + 1 ∧ p + 1 + 1 + 1 + 1 ≤ p + 4; omega
 by_cases h2 : pickV l (p + 1) 5 = 1
 ·rw [be_2 h h2]; show p ≤ p + 1 + 1 ∧ p + 1 + 1 ≤ p + 4; omega
 by_cases h3 : pickV l (p + 1) 5 = 2
 ·rw [be_3 h h3]; show p ≤ p + 1 + 1 ∧ p + 1 + 1 ≤ p + 4; omega
 by_cases h4 : pickV l (p + 1) 5 = 3
 ·rw [be_4 h h4]; show p ≤ p + 1 + 1 + 1 ∧ p + 1 + 1 + 1 ≤ p + 4; omega
 ·rw [be_5 h h1 h2 h3 h4]; show p ≤ p + 1 + 1 ∧ p + 1 + 1 ≤ p + 4; omega
theorem round_a {l : List UInt8} {q : Int} {a b : CopyD} (h : (decide (pickV l q 5 = 0) || decide (pickV l q 5 = 1)) = true) : roundV l q a b = ((changeV l (q + 1) a 0).1, b, (changeV l (q + 1) a 0).2) := by
 unfold roundV; simp only [h, cond_true]
theorem round_b {l : List UInt8} {q : Int} {a b : CopyD} (h : (decide (pickV l q 5 = 0) || decide (pickV l q 5 = 1)) = false) (h2 : (decide (pickV l q 5 = 2) || decide (pickV l q 5 = 3)) = true) : roundV l q a b = (a, (changeV l (q + 1) b 1).1, (changeV l (q + 1) b 1).2) := by
 unfold roundV; simp only [h, h2, cond_true, cond_false]
theorem round_c {l : List UInt8} {q : Int} {a b : CopyD} (h : (decide (pickV l q 5 = 0) || decide (pickV l q 5 = 1)) = false) (h2 : (decide (pickV l q 5 = 2) || decide (pickV l q 5 = 3)) = false) : roundV l q a b = (orC (mergeC a b) a, b, q + 1) := by
 unfold roundV; simp only [h, h2, cond_false]
theorem two_next {l : List UInt8} {n p1 : Int} {x y : CopyD} {V : CopyD × CopyD × Int} (hT : twoLoop l n.toNat p1 x y = V) (hn : 0 < n) : twoLoop l (n - 1).toNat (roundV l p1 x y).2.2 (roundV l p1 x y).1 (roundV l p1 x y).2.1 = V := by
 have e : n.toNat = (n - 1).toNat + 1 := by omega
 rw [e] at hT
 exact hT
theorem two_end {l : List UInt8} {n p1 p : Int} {x y : CopyD} (hT : twoLoop l n.toNat p1 x y = twoV l p) (hn : n ≤ 0) : twoV l p = (x, y, p1) := by
 have e : n.toNat = 0 := by omega
 rw [e] at hT
 exact hT.symm
theorem round_keeps {l : List UInt8} {q : Int} {a b : CopyD} (ha : validCopy a = true) (hb : validCopy b = true) : validCopy (roundV l q a b).1 = true ∧ validCopy (roundV l q a b).2.1 = true ∧ q ≤ (roundV l q a b).2.2 ∧ (roundV l q a b).2.2 ≤ q + 4 := by
 cases h : (decide (pickV l q 5 = 0) || decide (pickV l q 5 = 1)) with
 | true => rw [round_a h]; have := change_pos l (q + 1) 0 a; exact ⟨change_valid ha, hb, by simp only; omega, by simp only; omega⟩
 | false =>
  cases h2 : (decide (pickV l q 5 = 2) || decide (pickV l q 5 = 3)) with
  | true => rw [round_b h h2]; have := change_pos l (q + 1) 1 b; exact ⟨ha, change_valid hb, by simp only; omega, by simp only; omega⟩
  | false => rw [round_c h h2]; exact ⟨orC_valid ha merge_valid, hb, by simp only; omega, by simp only; omega⟩
theorem twoLoop_keeps (l : List UInt8) : ∀ (n : Nat) (q : Int) (a b : CopyD), validCopy a = true → validCopy b = true →
  validCopy (twoLoop l n q a b).1 = true ∧ validCopy (twoLoop l n q a b).2.1 = true ∧ q ≤ (twoLoop l n q a b).2.2 ∧ (twoLoop l n q a b).2.2 ≤ q + 4 * ((n : Nat) : Int)
 | 0, q, a, b, ha, hb => ⟨ha, hb, Int.le_refl _, by show q ≤ q + 4 * ((0 : Nat) : Int); omega⟩
 | n + 1, q, a, b, ha, hb => by
  obtain ⟨h1, h2, h3, h4⟩ := round_keeps (l := l) (q := q) ha hb
  obtain ⟨g1, g2, g3, g4⟩ := twoLoop_keeps l n (roundV l q a b).2.2 _ _ h1 h2
  refine ⟨g1, g2, ?_, ?_⟩
  ·show q ≤ (twoLoop l n _ _ _).2.2; omega
  ·show (twoLoop l n _ _ _).2.2 ≤ _; omega
theorem oneV_in {l : List UInt8} {p : Int} {xs : List Int} (hp : 0 ≤ p ∧ p ≤ 1000000) (hx : 0 < xs.length) (hx2 : xs.length ≤ 1000) : oneV l p xs ∈ xs := by
 unfold oneV
 have h9 := pickV_bnd (l := l) (n := ((xs.length : Nat) : Int)) (p := p) (by omega)
 rw [List.getD_eq_getElem?_getD, List.getElem?_eq_getElem (show (pickV l p ((xs.length : Nat) : Int)).toNat < xs.length by omega)]
 exact List.getElem_mem _
theorem two_n {l : List UInt8} {p : Int} (hp : 0 ≤ p ∧ p ≤ 1000000) : 0 ≤ oneV l p [6, 8, 4, 10, 2, 0] ∧ oneV l p [6, 8, 4, 10, 2, 0] ≤ 10 := by
 have h := oneV_in (l := l) (p := p) (xs := [6, 8, 4, 10, 2, 0]) hp (by simp) (by simp)
 simp only [List.mem_cons, List.not_mem_nil, or_false] at h
 omega
theorem two_facts {l : List UInt8} {p : Int} (hp : 0 ≤ p ∧ p ≤ 1000000) : validCopy (twoV l p).1 = true ∧ validCopy (twoV l p).2.1 = true ∧ p ≤ (twoV l p).2.2 ∧ (twoV l p).2.2 ≤ p + 50 := by
 have hn := two_n (l := l) hp
 obtain ⟨h1, h2, h3, h4⟩ := twoLoop_keeps l (oneV l p [6, 8, 4, 10, 2, 0]).toNat (p + 1) newC newC newC_valid newC_valid
 exact ⟨h1, h2, by show p ≤ (twoLoop _ _ _ _ _).2.2; omega, by show (twoLoop _ _ _ _ _).2.2 ≤ _; omega⟩
theorem a_yes {l : List UInt8} {p : Int} (h : pickV l (twoV l p).2.2 2 = 0) : aV l p = bentV l ((twoV l p).2.2 + 1) (twoV l p).2.1 := by
 unfold aV; simp only [decide_eq_true h, cond_true]
theorem a_no {l : List UInt8} {p : Int} (h : ¬ pickV l (twoV l p).2.2 2 = 0) : aV l p = bentV l ((twoV l p).2.2 + 1) (twoV l p).1 := by
 unfold aV; simp only [decide_eq_false h, cond_false]
end Go.Ab

set_option linter.unusedSimpArgs false
set_option linter.unusedVariables false
namespace Go.Ab
theorem hasInt_iff {l : List Int} {n : Int} : hasInt l n = true ↔ n ∈ l := by
 unfold hasInt
 constructor
 ·intro h
  apply Classical.byContradiction
  intro hn
  have : anyN l.length (fun i => decide (l.getD i 0 = n)) = false := anyN_false fun j hj => decide_eq_false fun e => hn (by
   rw [← e, List.getD_eq_getElem?_getD, List.getElem?_eq_getElem hj]; exact List.getElem_mem _)
  rw [this] at h; cases h
 ·intro h
  obtain ⟨i, hi, e⟩ := List.mem_iff_getElem.1 h
  exact anyN_true hi (decide_eq_true (by rw [List.getD_eq_getElem?_getD, List.getElem?_eq_getElem hi]; exact e))
theorem values_mem {c : CopyD} {i : Nat} (h : validCopy c = true) (hi : i < c.marks.length) (hg : (c.marks.getD i default).gone = false) : hasInt (valuesC c) (c.marks.getD i default).value = true := by
 rw [hasInt_iff, ← values_ok2 h, valsUp_mem]
 have hb := valid_vals h i hi
 refine ⟨hb.1, by omega, hasV_iff.2 ⟨i, hi, ?_⟩⟩
 unfold hasAt
 rw [decide_eq_true rfl, hg]; rfl
theorem merge_bad {a b : CopyD} {i : Nat} (hv : (mergeC a b).2 = true) (hi : i < (mergeC a b).1.marks.length) (h : (!((mergeC a b).1.marks.getD i default).gone && !hasInt (valuesC (mergeC a b).1) ((mergeC a b).1.marks.getD i default).value) = true) : False := by
 simp only [Bool.and_eq_true] at h
 rw [values_mem (merge_valid hv) hi (not_f h.1)] at h
 exact absurd h.2 (by simp)
theorem merge_law {a b : CopyD} (hv : (mergeC a b).2 = true) : (((((((mergeC b a).2 && sameC (mergeC b a).1 (mergeC a b).1) && (mergeC (mergeC a b).1 b).2) && sameC (mergeC (mergeC a b).1 b).1 (mergeC a b).1) && withinC a (mergeC a b).1) && withinC b (mergeC a b).1) && validCopy (mergeC a b).1) = true := by
 have he : mergeC a b = ((mergeC a b).1, true) := Prod.ext rfl hv
 obtain ⟨h1, h2⟩ := merge_up he
 have h3 : mergeC (mergeC a b).1 b = ((mergeC a b).1, true) := by rw [merge_comm]; exact h2
 rw [h3, merge_comm b a, hv, same_refl, within_merge.2 h1, within_merge.2 h2, merge_valid hv]; rfl
end Go.Ab

set_option linter.unusedSimpArgs false
set_option linter.unusedVariables false
namespace Go.Proofs.Try
open Go.Ab Go.RowKit
def fs40 : FnS := fnS [.o,.o,.o] [.int,.int,.int] (fun _ (n,low,high,_) => (.b (within n low high),[],True))
abbrev T40 : Tab := lk []
theorem tab40 : TabOK prog T40 := TabOK.nil
set_option maxRecDepth 100000 in
set_option maxHeartbeats 1000000 in
theorem ok40 : FnOK prog 40 fs40 := by
 refine FnOK.mk cok func40 rfl rfl rfl ?_
 rintro fl ⟨(n : Int),(low : Int),(high : Int),_⟩ hpre F hnt0 _
 have hnt : F.nt = 15 := hnt0.trans ntmps40
 clear hpre
 refine W.to (⟨[(0,.i n),(1,.i low),(2,.i high)],[],[999]⟩) rfl ?_
 refine Kk cok tab40 hnt [] [0,1,2] (⟨[(0,.i n),(1,.i low),(2,.i high)],[],[999]⟩)
  (True ∧ True)
  ⟨tt,tt⟩ ?_
 refine Kk cok tab40 hnt [] [6] (⟨[(6,.b ((decide (low ≤ n)) && (decide (n ≤ high))))],[],[999]⟩)
  ((fun (Z1:Bool)=>(True ∧ (True ∧ ((True ∧ (True ∧ True)) ∧ (True ∧ ((Z1 = true → True) ∧ ((Z1 = true → True) ∧ ((Z1 = true → (((Z1 = true) ∧ True) ∧ (((Z1 = true) ∧ True) ∧ True))) ∧ ((True ∧ ((Z1 = true → (Z1 = true) ∧ True) ∧ (Z1 = false → True))) ∧ (True ∧ True)))))))))) (decide (low ≤ n)))
  ⟨tt,tt,⟨tt,tt,tt⟩,tt,(fun _ => trivial),(fun _ => trivial),(fun hG => ⟨⟨hG,tt⟩,⟨hG,tt⟩,tt⟩),⟨tt,(fun hp => ⟨hp,tt⟩),(fun _ => trivial)⟩,tt,tt⟩ ?_
 refine W.ret ?_
 exact endQ_ret (.b ((decide (low ≤ n)) && (decide (n ≤ high)))) (by kernel_rfl) (@cast ((.bool ((decide (low ≤ n)) && (decide (n ≤ high))) : Value) = .bool (within n low high)) _ (by kernel_rfl) (congrArg Value.bool (by first | rfl | simp_all)))
theorem ent40 : Entr prog 40 := ⟨_,func40,rfl,by decide⟩
end Go.Proofs.Try

set_option linter.unusedSimpArgs false
set_option linter.unusedVariables false
namespace Go.Proofs.Try
open Go.Ab Go.RowKit
def fs39 : FnS := fnS [.o] [.mark] (fun _ (mm,_) => (.b (isMark mm),[],True))
abbrev T39 : Tab := lk [(40,fs40)]
theorem tab39 : TabOK prog T39 := (TabOK.cons ok40 ent40 TabOK.nil)
set_option maxRecDepth 100000 in
set_option maxHeartbeats 1000000 in
theorem ok39 : FnOK prog 39 fs39 := by
 refine FnOK.mk cok func39 rfl rfl rfl ?_
 rintro fl ⟨(mm : MarkD),_⟩ hpre F hnt0 _
 have hnt : F.nt = 16 := hnt0.trans ntmps39
 clear hpre
 refine W.to (⟨[(0,.agg [.i mm.value,.i mm.proc,.i mm.number,.b mm.gone])],[],[999]⟩) rfl ?_
 refine Kk cok tab39 hnt [] [1] (⟨[(1,.ptr 1 0)],[(1,⟨33,.fix [.i mm.value,.i mm.proc,.i mm.number,.b mm.gone]⟩)],[1,999]⟩)
  (True ∧ True ∧ True)
  ⟨tt,tt,tt⟩ ?_
 refine Kk cok tab39 hnt [] [2] (⟨[(2,.b (((within mm.value (0 : Int) (3 : Int)) && (within mm.proc (0 : Int) (2 : Int))) && (within mm.number (1 : Int) (20 : Int))))],[(1,⟨33,.fix [.i mm.value,.i mm.proc,.i mm.number,.b mm.gone]⟩)],[1,999]⟩)
  ((fun (Z1:Bool)=>((fun (Z2:Bool)=>(True ∧ (True ∧ ((True ∧ ((True ∧ (True ∧ (True ∧ True))) ∧ True)) ∧ (True ∧ ((Z1 = true → True) ∧ ((Z1 = true → ((Z1 = true) ∧ True)) ∧ ((Z1 = true → (True ∧ ((((Z1 = true) ∧ True) ∧ (True ∧ (True ∧ True))) ∧ True))) ∧ ((True ∧ ((Z1 = true → (Z1 = true) ∧ True) ∧ (Z1 = false → True))) ∧ (True ∧ ((Z2 = true → True) ∧ ((Z2 = true → ((Z2 = true) ∧ True)) ∧ ((Z2 = true → (True ∧ ((((Z2 = true) ∧ True) ∧ (True ∧ (True ∧ True))) ∧ True))) ∧ ((True ∧ ((Z2 = true → (Z2 = true) ∧ True) ∧ (Z2 = false → True))) ∧ (True ∧ True))))))))))))))) (Z1 && (within mm.proc (0 : Int) (2 : Int))))) (within mm.value (0 : Int) (3 : Int)))
  ⟨tt,tt,⟨tt,⟨tt,tt,tt,tt⟩,tt⟩,tt,(fun _ => trivial),(fun hG => ⟨hG,tt⟩),(fun hG => ⟨tt,⟨⟨hG,tt⟩,tt,tt,tt⟩,tt⟩),⟨tt,(fun hp => ⟨hp,tt⟩),(fun _ => trivial)⟩,tt,(fun _ => trivial),(fun hG => ⟨hG,tt⟩),(fun hG => ⟨tt,⟨⟨hG,tt⟩,tt,tt,tt⟩,tt⟩),⟨tt,(fun hp => ⟨hp,tt⟩),(fun _ => trivial)⟩,tt,tt⟩ ?_
 refine W.ret ?_
 exact endQ_ret (.b (((within mm.value (0 : Int) (3 : Int)) && (within mm.proc (0 : Int) (2 : Int))) && (within mm.number (1 : Int) (20 : Int)))) (by kernel_rfl) (@cast ((.bool (((within mm.value (0 : Int) (3 : Int)) && (within mm.proc (0 : Int) (2 : Int))) && (within mm.number (1 : Int) (20 : Int))) : Value) = .bool (isMark mm)) _ (by kernel_rfl) (congrArg Value.bool (by first | rfl | simp_all)))
theorem ent39 : Entr prog 39 := ⟨_,func39,rfl,by decide⟩
end Go.Proofs.Try

set_option linter.unusedSimpArgs false
set_option linter.unusedVariables false
namespace Go.Proofs.Try
open Go.Ab Go.RowKit
def fs62 : FnS := fnS [.o] [.int] (fun _ (x,_) => (.b false,[],True))
abbrev T62 : Tab := lk []
theorem tab62 : TabOK prog T62 := TabOK.nil
set_option maxRecDepth 100000 in
set_option maxHeartbeats 1000000 in
theorem ok62 : FnOK prog 62 fs62 := by
 refine FnOK.mk cok func62 rfl rfl rfl ?_
 rintro fl ⟨(x : Int),_⟩ hpre F hnt0 _
 have hnt : F.nt = 6 := hnt0.trans ntmps62
 clear hpre
 refine W.to (⟨[(0,.i x)],[],[999]⟩) rfl ?_
 refine Kk cok tab62 hnt [] [0] (⟨[(0,.i x)],[],[999]⟩)
  (True ∧ True)
  ⟨tt,tt⟩ ?_
 refine Kk cok tab62 hnt [] [2] (⟨[(2,.b (decide (x ≠ x)))],[],[999]⟩)
  (True ∧ True ∧ (True ∧ True ∧ True) ∧ True ∧ True)
  ⟨tt,tt,⟨tt,tt,tt⟩,tt,tt⟩ ?_
 refine W.ret ?_
 exact endQ_ret (.b (decide (x ≠ x))) (by kernel_rfl) (@cast ((.bool (decide (x ≠ x)) : Value) = .bool false) _ (by kernel_rfl) (congrArg Value.bool (by simp)))
theorem ent62 : Entr prog 62 := ⟨_,func62,rfl,by decide⟩
end Go.Proofs.Try

set_option linter.unusedSimpArgs false
set_option linter.unusedVariables false
namespace Go.Proofs.Try
open Go.Ab Go.RowKit
def fs51 : FnS := fnS [.o,.o] [.int,.int] (fun _ (a,b,_) => (.i (cmpI a b),[],True))
abbrev T51 : Tab := lk [(62,fs62)]
theorem tab51 : TabOK prog T51 := (TabOK.cons ok62 ent62 TabOK.nil)
set_option maxRecDepth 100000 in
set_option maxHeartbeats 1000000 in
theorem ok51 : FnOK prog 51 fs51 := by
 refine FnOK.mk cok func51 rfl rfl rfl ?_
 rintro fl ⟨(a : Int),(b : Int),_⟩ hpre F hnt0 _
 have hnt : F.nt = 20 := hnt0.trans ntmps51
 clear hpre
 refine W.to (⟨[(0,.i a),(1,.i b)],[],[999]⟩) rfl ?_
 refine Kk cok tab51 hnt [] [0,1] (⟨[(0,.i a),(1,.i b)],[],[999]⟩)
  (True ∧ True)
  ⟨tt,tt⟩ ?_
 refine Kk cok tab51 hnt [] [0,1,5] (⟨[(0,.i a),(1,.i b),(5,.b false)],[],[999]⟩)
  (True ∧ (True ∧ (True ∧ True) ∧ True) ∧ True ∧ True)
  ⟨tt,⟨tt,⟨tt,tt⟩,tt⟩,tt,tt⟩ ?_
 refine Kk cok tab51 hnt [] [0,1,5,6] (⟨[(0,.i a),(1,.i b),(5,.b false),(6,.b false)],[],[999]⟩)
  (True ∧ (True ∧ (True ∧ True) ∧ True) ∧ True ∧ True)
  ⟨tt,⟨tt,⟨tt,tt⟩,tt⟩,tt,tt⟩ ?_
 refine W.seq ?_
 refine Kk cok tab51 hnt [] [0,1,6,11] (⟨[(0,.i a),(1,.i b),(6,.b false),(11,.b false)],[],[999]⟩)
  (True ∧ True)
  ⟨tt,tt⟩ ?_
 refine W.if' false (.b false) (by kernel_rfl) rfl trivial ?_ ?_
 ·intro h11
  refine W.seq ?_
  refine Kk cok tab51 hnt [] [12] (⟨[(12,.b false)],[],[999]⟩)
   (True ∧ True)
   ⟨tt,tt⟩ ?_
  refine W.if' false (.b false) (by kernel_rfl) rfl trivial ?_ ?_
  ·intro h12
   refine Kk cok tab51 hnt [] [4] (⟨[(4,.i (0 : Int))],[],[999]⟩)
    (True ∧ True)
    ⟨tt,tt⟩ ?_
   refine W.ret (thenQ_ret (thenQ_ret ?_))
   exact endQ_ret (.i (0 : Int)) (by kernel_rfl) (@cast ((.int .i64 (0 : Int) : Value) = .int .i64 (cmpI a b)) _ (by kernel_rfl) (congrArg (Value.int .i64) (by cases h11)))
  ·intro n12
   refine W.skip (thenQ_normal ?_)
   refine Kk cok tab51 hnt [] [4] (⟨[(4,.i (-1 : Int))],[],[999]⟩)
    (True ∧ True)
    ⟨tt,tt⟩ ?_
   refine W.ret (thenQ_ret ?_)
   exact endQ_ret (.i (-1 : Int)) (by kernel_rfl) (@cast ((.int .i64 (-1 : Int) : Value) = .int .i64 (cmpI a b)) _ (by kernel_rfl) (congrArg (Value.int .i64) (by cases h11)))
 ·intro n11
  refine W.skip (thenQ_normal ?_)
  refine W.seq ?_
  refine Kk cok tab51 hnt [] [0,1,13] (⟨[(0,.i a),(1,.i b),(13,.b false)],[],[999]⟩)
   (True ∧ True)
   ⟨tt,tt⟩ ?_
  refine W.if' false (.b false) (by kernel_rfl) rfl trivial ?_ ?_
  ·intro h13
   refine Kk cok tab51 hnt [] [4] (⟨[(4,.i (1 : Int))],[],[999]⟩)
    (True ∧ True)
    ⟨tt,tt⟩ ?_
   refine W.ret (thenQ_ret ?_)
   exact endQ_ret (.i (1 : Int)) (by kernel_rfl) (@cast ((.int .i64 (1 : Int) : Value) = .int .i64 (cmpI a b)) _ (by kernel_rfl) (congrArg (Value.int .i64) (by cases h13)))
  ·intro n13
   refine W.skip (thenQ_normal ?_)
   refine W.seq ?_
   refine Kk cok tab51 hnt [] [0,1,16] (⟨[(0,.i a),(1,.i b),(16,.b (decide (a < b)))],[],[999]⟩)
    (True ∧ True ∧ (True ∧ True ∧ True) ∧ True)
    ⟨tt,tt,⟨tt,tt,tt⟩,tt⟩ ?_
   refine W.ifP (a < b) (.b (decide (a < b))) (by kernel_rfl) rfl trivial ?_ ?_
   ·intro h16
    refine Kk cok tab51 hnt [] [4] (⟨[(4,.i (-1 : Int))],[],[999]⟩)
     (True ∧ True)
     ⟨tt,tt⟩ ?_
    refine W.ret (thenQ_ret ?_)
    exact endQ_ret (.i (-1 : Int)) (by kernel_rfl) (@cast ((.int .i64 (-1 : Int) : Value) = .int .i64 (cmpI a b)) _ (by kernel_rfl) (congrArg (Value.int .i64) (by unfold cmpI; rw [decide_eq_true h16]; rfl)))
   ·intro n16
    refine W.skip (thenQ_normal ?_)
    refine W.seq ?_
    refine Kk cok tab51 hnt [] [19] (⟨[(19,.b (decide (b < a)))],[],[999]⟩)
     (True ∧ True ∧ (True ∧ True ∧ True) ∧ True)
     ⟨tt,tt,⟨tt,tt,tt⟩,tt⟩ ?_
    refine W.ifP (b < a) (.b (decide (b < a))) (by kernel_rfl) rfl trivial ?_ ?_
    ·intro h19
     refine Kk cok tab51 hnt [] [4] (⟨[(4,.i (1 : Int))],[],[999]⟩)
      (True ∧ True)
      ⟨tt,tt⟩ ?_
     refine W.ret (thenQ_ret ?_)
     exact endQ_ret (.i (1 : Int)) (by kernel_rfl) (@cast ((.int .i64 (1 : Int) : Value) = .int .i64 (cmpI a b)) _ (by kernel_rfl) (congrArg (Value.int .i64) (by unfold cmpI; rw [decide_eq_false n16,decide_eq_true h19]; rfl)))
    ·intro n19
     refine W.skip (thenQ_normal ?_)
     refine Kk cok tab51 hnt [] [4] (⟨[(4,.i (0 : Int))],[],[999]⟩)
      (True ∧ True)
      ⟨tt,tt⟩ ?_
     refine W.ret ?_
     exact endQ_ret (.i (0 : Int)) (by kernel_rfl) (@cast ((.int .i64 (0 : Int) : Value) = .int .i64 (cmpI a b)) _ (by kernel_rfl) (congrArg (Value.int .i64) (by unfold cmpI; rw [decide_eq_false n16,decide_eq_false n19]; rfl)))
theorem ent51 : Entr prog 51 := ⟨_,func51,rfl,by decide⟩
end Go.Proofs.Try

set_option linter.unusedSimpArgs false
set_option linter.unusedVariables false
namespace Go.Proofs.Try
open Go.Ab Go.RowKit
def fs50 : FnS := fnS [.s .ints] [.ints] (fun _ (l,_) => (.i (orI l),[],True))
abbrev T50 : Tab := lk []
theorem tab50 : TabOK prog T50 := TabOK.nil
set_option maxRecDepth 100000 in
set_option maxHeartbeats 1000000 in
theorem ok50 : FnOK prog 50 fs50 := by
 refine FnOK.mk cok func50 rfl rfl rfl ?_
 rintro fl ⟨(l : List Int),_⟩ hpre F hnt0 _
 have hnt : F.nt = 18 := hnt0.trans ntmps50
 clear hpre
 refine W.to (⟨[(0,.sl (.ints l))],[],[999]⟩) rfl ?_
 refine W.lenOf 0 (.ints l) (by kernel_rfl) ?_
 intro hl_l; replace hl_l : List.length l ≤ 9223372036854775807 := hl_l
 refine Kk cok tab50 hnt [] [0] (⟨[(0,.sl (.ints l))],[],[999]⟩)
  (True ∧ True)
  ⟨tt,tt⟩ ?_
 refine Kk cok tab50 hnt [] [0,3] (⟨[(0,.sl (.ints l)),(3,.i (0 : Int))],[],[999]⟩)
  (True ∧ True)
  ⟨tt,tt⟩ ?_
 refine W.seq ?_
 refine Kk cok tab50 hnt [] [3,6,7,8] (⟨[(3,.i (0 : Int)),(6,.sl (.ints l)),(7,.i (l.length : Int)),(8,.i (0 : Int))],[],[999]⟩)
  (True ∧ True ∧ True ∧ True)
  ⟨tt,tt,tt,tt⟩ ?_
 refine W.block ?_
 refine W.loop (ι := Nat) (fun (i : Nat) => (⟨[(3,.i (0 : Int)),(6,.sl (.ints l)),(7,.i (l.length : Int)),(8,.i ((i : Nat) : Int))],[],[999]⟩ : St))
  (fun (i : Nat) => (i ≤ l.length) ∧ (orI l = orFrom l i))
  (fun (i : Nat) => (l.length - i : Nat)) (0) ?_ ?_ ?_
 ·exact (show (0 ≤ l.length) ∧ (orI l = orFrom l 0) from ⟨(by first | assumption | omega | rfl | (intro _ hjj; omega) | (simp; done) | (simp; omega)),(by rfl)⟩)
 ·exact Sub.of [] (@cast (((Si (0 : Int)) ∧ (Sd (.ints l)) ∧ (Si (l.length : Int)) ∧ ((.int .i64 (0 : Int) : Value) = .int .i64 ((0 : Nat) : Int)) ∧ True) ∧ True ∧ (true = true) ∧ (true = true)) _ (by kernel_rfl) ⟨⟨rfl,rfl,rfl,(congrArg (Value.int .i64) (by first | rfl | omega | assumption | simp | simp_all)),tt⟩,tt,rfl,rfl⟩)
 ·rintro i hC0
  have hC : (i ≤ l.length) ∧ (orI l = orFrom l i) := hC0
  clear hC0
  obtain ⟨hi,hA⟩ := hC
  refine W.to (⟨[(3,.i (0 : Int)),(6,.sl (.ints l)),(7,.i (l.length : Int)),(8,.i ((i : Nat) : Int))],[],[999]⟩) rfl ?_
  refine Kk cok tab50 hnt [] [3,6,7,8,9] (⟨[(3,.i (0 : Int)),(6,.sl (.ints l)),(7,.i (l.length : Int)),(8,.i ((i : Nat) : Int)),(9,.b (decide (((i : Nat) : Int) < (l.length : Int))))],[],[999]⟩)
   ((True ∧ True ∧ True) ∧ True)
   ⟨⟨tt,tt,tt⟩,tt⟩ ?_
  refine W.seq ?_
  refine W.ifP (((i : Nat) : Int) < (l.length : Int)) (.b (decide (((i : Nat) : Int) < (l.length : Int)))) (by kernel_rfl) rfl trivial ?_ ?_
  ·intro h9
   refine W.skip (thenQ_normal ?_)
   refine W.seq ?_
   refine W.block ?_
   refine Kk cok tab50 hnt [] [3,5,6,7,8] (⟨[(3,.i (0 : Int)),(5,.i (l.getD i 0)),(6,.sl (.ints l)),(7,.i (l.length : Int)),(8,.i ((i : Nat) : Int))],[],[999]⟩)
    ((True ∧ True ∧ (0 ≤ ((i : Nat) : Int)) ∧ (((i : Nat) : Int) < (l.length : Int))) ∧ True ∧ True ∧ True)
    ⟨⟨tt,tt,(by omega),(by omega)⟩,tt,tt,tt⟩ ?_
   refine Kk cok tab50 hnt [] [3,5,6,7,8,14] (⟨[(3,.i (0 : Int)),(5,.i (l.getD i 0)),(6,.sl (.ints l)),(7,.i (l.length : Int)),(8,.i ((i : Nat) : Int)),(14,.b (decide ((l.getD i 0) ≠ (0 : Int))))],[],[999]⟩)
    (True ∧ True ∧ (True ∧ True ∧ True) ∧ True)
    ⟨tt,tt,⟨tt,tt,tt⟩,tt⟩ ?_
   refine W.ifP ((l.getD i 0) ≠ (0 : Int)) (.b (decide ((l.getD i 0) ≠ (0 : Int)))) (by kernel_rfl) rfl trivial ?_ ?_
   ·intro h14
    refine Kk cok tab50 hnt [] [2] (⟨[(2,.i (l.getD i 0))],[],[999]⟩)
     (True ∧ True ∧ True)
     ⟨tt,tt,tt⟩ ?_
    refine W.ret (blockQ_ret (thenQ_ret (thenQ_ret (blockQ_ret (thenQ_ret ?_)))))
    exact endQ_ret (.i (l.getD i 0)) (by kernel_rfl) (@cast ((.int .i64 (l.getD i 0) : Value) = .int .i64 (orI l)) _ (by kernel_rfl) (congrArg (Value.int .i64) (by rw [hA,orFrom_yes (by omega) h14])))
   ·intro n14
    refine W.skip (blockQ_normal (thenQ_normal ?_))
    refine Lk cok tab50 hnt [] (⟨[(3,.i (0 : Int)),(5,.i (l.getD i 0)),(6,.sl (.ints l)),(7,.i (l.length : Int)),(8,.i (((i + 1) : Nat) : Int)),(14,.b (decide ((l.getD i 0) ≠ (0 : Int)))),(16,.i (((i + 1) : Nat) : Int))],[],[999]⟩)
     ((True ∧ True ∧ (Fits .i64 (((i + 1) : Nat) : Int))) ∧ True ∧ True)
     ⟨⟨tt,tt,(by exact fits_i64 (by omega) (by omega))⟩,tt,tt⟩ ?_
    refine thenQ_normal ?_
    refine ⟨((i + 1)),(show ((i + 1) ≤ l.length) ∧ (orI l = orFrom l (i + 1)) from ⟨(by first | assumption | omega | rfl | (intro _ hjj; omega) | (simp; done) | (simp; omega)),(by rw [hA]; exact orFrom_no (by omega) n14)⟩),(show l.length - (i + 1) < l.length - i from (by first | omega | (simp_all; omega))),?_⟩
    exact Sub.of [] (@cast (((Si (0 : Int)) ∧ (Sd (.ints l)) ∧ (Si (l.length : Int)) ∧ (Si (((i + 1) : Nat) : Int)) ∧ True) ∧ True ∧ (true = true) ∧ (true = true)) _ (by kernel_rfl) ⟨⟨rfl,rfl,rfl,rfl,tt⟩,tt,rfl,rfl⟩)
  ·intro n9
   refine W.exit (thenQ_exit (thenQ_exit (blockQ_hit ?_)))
   refine thenQ_normal ?_
   refine Kk cok tab50 hnt [] [2] (⟨[(2,.i (0 : Int))],[],[999]⟩)
    (True ∧ True ∧ True)
    ⟨tt,tt,tt⟩ ?_
   refine W.ret ?_
   exact endQ_ret (.i (0 : Int)) (by kernel_rfl) (@cast ((.int .i64 (0 : Int) : Value) = .int .i64 (orI l)) _ (by kernel_rfl) (congrArg (Value.int .i64) (by rw [hA,orFrom_end (by omega)])))
theorem ent50 : Entr prog 50 := ⟨_,func50,rfl,by decide⟩
end Go.Proofs.Try

set_option linter.unusedSimpArgs false
set_option linter.unusedVariables false
namespace Go.Proofs.Try
open Go.Ab Go.RowKit
def fs29 : FnS := fnS [.o,.o] [.mark,.mark] (fun _ (a,b,_) => (.i (cmpM a b),[],True))
abbrev T29 : Tab := lk [(50,fs50),(51,fs51)]
theorem tab29 : TabOK prog T29 := (TabOK.cons ok50 ent50 (TabOK.cons ok51 ent51 TabOK.nil))
set_option maxRecDepth 100000 in
set_option maxHeartbeats 1000000 in
theorem ok29 : FnOK prog 29 fs29 := by
 refine FnOK.mk cok func29 rfl rfl rfl ?_
 rintro fl ⟨(a : MarkD),(b : MarkD),_⟩ hpre F hnt0 _
 have hnt : F.nt = 17 := hnt0.trans ntmps29
 clear hpre
 refine W.to (⟨[(0,.agg [.i a.value,.i a.proc,.i a.number,.b a.gone]),(1,.agg [.i b.value,.i b.proc,.i b.number,.b b.gone])],[],[999]⟩) rfl ?_
 refine Kk cok tab29 hnt [] [2,3] (⟨[(2,.ptr 2 0),(3,.ptr 3 0)],[(2,⟨33,.fix [.i a.value,.i a.proc,.i a.number,.b a.gone]⟩),(3,⟨33,.fix [.i b.value,.i b.proc,.i b.number,.b b.gone]⟩)],[3,2,999]⟩)
  (True ∧ True ∧ True ∧ True)
  ⟨tt,tt,tt,tt⟩ ?_
 refine W.KA cok tab29 hnt [] [4] (⟨[(4,.i (orI ([(cmpI a.proc b.proc),(cmpI a.number b.number)])))],[(2,⟨33,.fix [.i a.value,.i a.proc,.i a.number,.b a.gone]⟩),(3,⟨33,.fix [.i b.value,.i b.proc,.i b.number,.b b.gone]⟩)],[15,3,2,999]⟩)
  (True ∧ True ∧ True ∧ True ∧ (True ∧ (True ∧ True ∧ True) ∧ True) ∧ True ∧ True ∧ True ∧ True ∧ (True ∧ (True ∧ True ∧ True) ∧ True) ∧ (True ∧ True ∧ True) ∧ (True ∧ (True ∧ True) ∧ True) ∧ True ∧ True) (by kernel_rfl) (by kernel_rfl)
  ⟨tt,tt,tt,tt,⟨tt,⟨tt,tt,tt⟩,tt⟩,tt,tt,tt,tt,⟨tt,⟨tt,tt,tt⟩,tt⟩,⟨tt,tt,tt⟩,⟨tt,⟨tt,tt⟩,tt⟩,tt,tt⟩ ?_
 refine W.ret ?_
 exact endQ_ret (.i (orI ([(cmpI a.proc b.proc),(cmpI a.number b.number)]))) (by kernel_rfl) (@cast ((.int .i64 (orI ([(cmpI a.proc b.proc),(cmpI a.number b.number)])) : Value) = .int .i64 (cmpM a b)) _ (by kernel_rfl) (congrArg (Value.int .i64) (by first | rfl | simp_all)))
theorem ent29 : Entr prog 29 := ⟨_,func29,rfl,by decide⟩
end Go.Proofs.Try

set_option linter.unusedSimpArgs false
set_option linter.unusedVariables false
namespace Go.Proofs.Try
open Go.Ab Go.RowKit
def fs59 : FnS := fnS [.o] [.int] (fun _ (n,_) => (.b (!within n 0 20),[],True))
abbrev T59 : Tab := lk [(40,fs40)]
theorem tab59 : TabOK prog T59 := (TabOK.cons ok40 ent40 TabOK.nil)
set_option maxRecDepth 100000 in
set_option maxHeartbeats 1000000 in
theorem ok59 : FnOK prog 59 fs59 := by
 refine FnOK.mk cok func59 rfl rfl rfl ?_
 rintro fl ⟨(n : Int),_⟩ hpre F hnt0 _
 have hnt : F.nt = 6 := hnt0.trans ntmps59
 clear hpre
 refine W.to (⟨[(0,.i n)],[],[999]⟩) rfl ?_
 refine Kk cok tab59 hnt [] [0] (⟨[(0,.i n)],[],[999]⟩)
  (True ∧ True)
  ⟨tt,tt⟩ ?_
 refine Kk cok tab59 hnt [] [2] (⟨[(2,.b (!(within n (0 : Int) (20 : Int))))],[],[999]⟩)
  (True ∧ (True ∧ (True ∧ True ∧ True ∧ True) ∧ True) ∧ True ∧ True ∧ True)
  ⟨tt,⟨tt,⟨tt,tt,tt,tt⟩,tt⟩,tt,tt,tt⟩ ?_
 refine W.ret ?_
 exact endQ_ret (.b (!(within n (0 : Int) (20 : Int)))) (by kernel_rfl) (@cast ((.bool (!(within n (0 : Int) (20 : Int))) : Value) = .bool (!within n 0 20)) _ (by kernel_rfl) (congrArg Value.bool (by first | rfl | simp_all)))
theorem ent59 : Entr prog 59 := ⟨_,func59,rfl,by decide⟩
end Go.Proofs.Try

set_option linter.unusedSimpArgs false
set_option linter.unusedVariables false
namespace Go.Proofs.Try
open Go.Ab Go.RowKit
def fs75counts : FnS := fnS [.s .ints,.o] [.ints,(.fn0 59)] (fun _ (l,(),_) => (.i (firstI l.length (fun jj => !within (l.getD jj 0) 0 20)),[],True))
abbrev T75counts : Tab := lk [(59,fs59)]
theorem tab75counts : TabOK prog T75counts := (TabOK.cons ok59 ent59 TabOK.nil)
set_option maxRecDepth 100000 in
set_option maxHeartbeats 1000000 in
theorem ok75counts : FnOK prog 75 fs75counts := by
 refine FnOK.mk cok func75 rfl rfl rfl ?_
 rintro fl ⟨(l : List Int),⟨⟩,_⟩ hpre F hnt0 _
 have hnt : F.nt = 19 := hnt0.trans ntmps75
 clear hpre
 refine W.to (⟨[(0,.sl (.ints l)),(1,.fn 59 [])],[],[999]⟩) rfl ?_
 refine W.lenOf 0 (.ints l) (by kernel_rfl) ?_
 intro hl_l; replace hl_l : List.length l ≤ 9223372036854775807 := hl_l
 refine Kk cok tab75counts hnt [] [0,1] (⟨[(0,.sl (.ints l)),(1,.fn 59 [])],[],[999]⟩)
  (True ∧ True)
  ⟨tt,tt⟩ ?_
 refine W.seq ?_
 refine Kk cok tab75counts hnt [] [0,1,7,8] (⟨[(0,.sl (.ints l)),(1,.fn 59 []),(7,.i (l.length : Int)),(8,.i (0 : Int))],[],[999]⟩)
  (True ∧ True ∧ True ∧ True)
  ⟨tt,tt,tt,tt⟩ ?_
 refine W.block ?_
 refine W.loop (ι := Nat) (fun (i : Nat) => (⟨[(0,.sl (.ints l)),(1,.fn 59 []),(7,.i (l.length : Int)),(8,.i ((i : Nat) : Int))],[],[999]⟩ : St))
  (fun (i : Nat) => (i ≤ l.length) ∧ (∀ jj,jj < i → (!within (l.getD jj 0) 0 20) = false))
  (fun (i : Nat) => (l.length - i : Nat)) (0) ?_ ?_ ?_
 ·exact (show (0 ≤ l.length) ∧ (∀ jj,jj < 0 → (!within (l.getD jj 0) 0 20) = false) from ⟨(by first | assumption | omega | rfl | (intro _ hjj; omega) | (simp; done) | (simp; omega)),(by exact upto_zero)⟩)
 ·exact Sub.of [] (@cast (((Sd (.ints l)) ∧ (((59 : Nat) = 59) ∧ True) ∧ (Si (l.length : Int)) ∧ ((.int .i64 (0 : Int) : Value) = .int .i64 ((0 : Nat) : Int)) ∧ True) ∧ True ∧ (true = true) ∧ (true = true)) _ (by kernel_rfl) ⟨⟨rfl,⟨rfl,tt⟩,rfl,(congrArg (Value.int .i64) (by first | rfl | omega | assumption | simp | simp_all)),tt⟩,tt,rfl,rfl⟩)
 ·rintro i hC0
  have hC : (i ≤ l.length) ∧ (∀ jj,jj < i → (!within (l.getD jj 0) 0 20) = false) := hC0
  clear hC0
  obtain ⟨hi,hA⟩ := hC
  refine W.to (⟨[(0,.sl (.ints l)),(1,.fn 59 []),(7,.i (l.length : Int)),(8,.i ((i : Nat) : Int))],[],[999]⟩) rfl ?_
  refine Kk cok tab75counts hnt [] [0,1,7,8,9] (⟨[(0,.sl (.ints l)),(1,.fn 59 []),(7,.i (l.length : Int)),(8,.i ((i : Nat) : Int)),(9,.b (decide (((i : Nat) : Int) < (l.length : Int))))],[],[999]⟩)
   ((True ∧ True ∧ True) ∧ True)
   ⟨⟨tt,tt,tt⟩,tt⟩ ?_
  refine W.seq ?_
  refine W.ifP (((i : Nat) : Int) < (l.length : Int)) (.b (decide (((i : Nat) : Int) < (l.length : Int)))) (by kernel_rfl) rfl trivial ?_ ?_
  ·intro h9
   refine W.skip (thenQ_normal ?_)
   refine W.seq ?_
   refine W.block ?_
   refine Kk cok tab75counts hnt [] [0,1,5,7,8] (⟨[(0,.sl (.ints l)),(1,.fn 59 []),(5,.i ((i : Nat) : Int)),(7,.i (l.length : Int)),(8,.i ((i : Nat) : Int))],[],[999]⟩)
    (True ∧ True ∧ True)
    ⟨tt,tt,tt⟩ ?_
   refine Kk cok tab75counts hnt [] [0,1,5,7,8,16] (⟨[(0,.sl (.ints l)),(1,.fn 59 []),(5,.i ((i : Nat) : Int)),(7,.i (l.length : Int)),(8,.i ((i : Nat) : Int)),(16,.b (!within (l.getD i 0) 0 20))],[],[999]⟩)
    (True ∧ True ∧ True ∧ (True ∧ True ∧ (0 ≤ ((i : Nat) : Int)) ∧ (((i : Nat) : Int) < (l.length : Int))) ∧ True ∧ (True ∧ (True ∧ True) ∧ True) ∧ True)
    ⟨tt,tt,tt,⟨tt,tt,(by omega),(by omega)⟩,tt,⟨tt,⟨tt,tt⟩,tt⟩,tt⟩ ?_
   refine W.if' (!within (l.getD i 0) 0 20) (.b (!within (l.getD i 0) 0 20)) (by kernel_rfl) rfl trivial ?_ ?_
   ·intro h16
    refine Kk cok tab75counts hnt [] [4] (⟨[(4,.i ((i : Nat) : Int))],[],[999]⟩)
     (True ∧ True ∧ True)
     ⟨tt,tt,tt⟩ ?_
    refine W.ret (blockQ_ret (thenQ_ret (thenQ_ret (blockQ_ret (thenQ_ret ?_)))))
    exact endQ_ret (.i ((i : Nat) : Int)) (by kernel_rfl) (@cast ((.int .i64 ((i : Nat) : Int) : Value) = .int .i64 (firstI l.length (fun jj => !within (l.getD jj 0) 0 20))) _ (by kernel_rfl) (congrArg (Value.int .i64) (by exact (firstI_yes (by omega) h16 hA).symm)))
   ·intro n16
    refine W.skip (blockQ_normal (thenQ_normal ?_))
    refine Lk cok tab75counts hnt [] (⟨[(0,.sl (.ints l)),(1,.fn 59 []),(5,.i ((i : Nat) : Int)),(7,.i (l.length : Int)),(8,.i (((i + 1) : Nat) : Int)),(16,.b (!within (l.getD i 0) 0 20)),(18,.i (((i + 1) : Nat) : Int))],[],[999]⟩)
     ((True ∧ True ∧ (Fits .i64 (((i + 1) : Nat) : Int))) ∧ True ∧ True)
     ⟨⟨tt,tt,(by exact fits_i64 (by omega) (by omega))⟩,tt,tt⟩ ?_
    refine thenQ_normal ?_
    refine ⟨((i + 1)),(show ((i + 1) ≤ l.length) ∧ (∀ jj,jj < (i + 1) → (!within (l.getD jj 0) 0 20) = false) from ⟨(by first | assumption | omega | rfl | (intro _ hjj; omega) | (simp; done) | (simp; omega)),(by exact upto_succ hA n16)⟩),(show l.length - (i + 1) < l.length - i from (by first | omega | (simp_all; omega))),?_⟩
    exact Sub.of [] (@cast (((Sd (.ints l)) ∧ (((59 : Nat) = 59) ∧ True) ∧ (Si (l.length : Int)) ∧ (Si (((i + 1) : Nat) : Int)) ∧ True) ∧ True ∧ (true = true) ∧ (true = true)) _ (by kernel_rfl) ⟨⟨rfl,⟨rfl,tt⟩,rfl,rfl,tt⟩,tt,rfl,rfl⟩)
  ·intro n9
   refine W.exit (thenQ_exit (thenQ_exit (blockQ_hit ?_)))
   refine thenQ_normal ?_
   refine Kk cok tab75counts hnt [] [4] (⟨[(4,.i (-1 : Int))],[],[999]⟩)
    (True ∧ True)
    ⟨tt,tt⟩ ?_
   refine W.ret ?_
   exact endQ_ret (.i (-1 : Int)) (by kernel_rfl) (@cast ((.int .i64 (-1 : Int) : Value) = .int .i64 (firstI l.length (fun jj => !within (l.getD jj 0) 0 20))) _ (by kernel_rfl) (congrArg (Value.int .i64) (by exact (firstI_no (fun j hj => hA j (by omega))).symm)))
theorem ent75counts : Entr prog 75 := ⟨_,func75,rfl,by decide⟩
end Go.Proofs.Try

set_option linter.unusedSimpArgs false
set_option linter.unusedVariables false
namespace Go.Proofs.Try
open Go.Ab Go.RowKit
def fs58counts : FnS := fnS [.s .ints,.o] [.ints,(.fn0 59)] (fun _ (l,(),_) => (.b (anyN l.length (fun jj => !within (l.getD jj 0) 0 20)),[],True))
abbrev T58counts : Tab := lk [(75,fs75counts)]
theorem tab58counts : TabOK prog T58counts := (TabOK.cons ok75counts ent75counts TabOK.nil)
set_option maxRecDepth 100000 in
set_option maxHeartbeats 1000000 in
theorem ok58counts : FnOK prog 58 fs58counts := by
 refine FnOK.mk cok func58 rfl rfl rfl ?_
 rintro fl ⟨(l : List Int),⟨⟩,_⟩ hpre F hnt0 _
 have hnt : F.nt = 9 := hnt0.trans ntmps58
 clear hpre
 refine W.to (⟨[(0,.sl (.ints l)),(1,.fn 59 [])],[],[999]⟩) rfl ?_
 refine W.lenOf 0 (.ints l) (by kernel_rfl) ?_
 intro hl_l; replace hl_l : List.length l ≤ 9223372036854775807 := hl_l
 refine Kk cok tab58counts hnt [] [0,1] (⟨[(0,.sl (.ints l)),(1,.fn 59 [])],[],[999]⟩)
  (True ∧ True)
  ⟨tt,tt⟩ ?_
 refine Kk cok tab58counts hnt [] [4] (⟨[(4,.b (decide ((0 : Int) ≤ (firstI l.length (fun jj => !within (l.getD jj 0) 0 20)))))],[],[999]⟩)
  (True ∧ True ∧ (True ∧ (True ∧ True ∧ True) ∧ True) ∧ (True ∧ True ∧ True) ∧ True ∧ True)
  ⟨tt,tt,⟨tt,⟨tt,tt,tt⟩,tt⟩,⟨tt,tt,tt⟩,tt,tt⟩ ?_
 refine W.ret ?_
 exact endQ_ret (.b (decide ((0 : Int) ≤ (firstI l.length (fun jj => !within (l.getD jj 0) 0 20))))) (by kernel_rfl) (@cast ((.bool (decide ((0 : Int) ≤ (firstI l.length (fun jj => !within (l.getD jj 0) 0 20)))) : Value) = .bool (anyN l.length (fun jj => !within (l.getD jj 0) 0 20))) _ (by kernel_rfl) (congrArg Value.bool (by exact firstI_has _ _)))
theorem ent58counts : Entr prog 58 := ⟨_,func58,rfl,by decide⟩
end Go.Proofs.Try

set_option linter.unusedSimpArgs false
set_option linter.unusedVariables false
namespace Go.Proofs.Try
open Go.Ab Go.RowKit
def fs41 : FnS := fnS [.s .ints] [.ints] (fun _ (l,_) => (.b (countsOK l),[],True))
abbrev T41 : Tab := lk [(58,fs58counts)]
theorem tab41 : TabOK prog T41 := (TabOK.cons ok58counts ent58counts TabOK.nil)
set_option maxRecDepth 100000 in
set_option maxHeartbeats 1000000 in
theorem ok41 : FnOK prog 41 fs41 := by
 refine FnOK.mk cok func41 rfl rfl rfl ?_
 rintro fl ⟨(l : List Int),_⟩ hpre F hnt0 _
 have hnt : F.nt = 11 := hnt0.trans ntmps41
 clear hpre
 refine W.to (⟨[(0,.sl (.ints l))],[],[999]⟩) rfl ?_
 refine W.lenOf 0 (.ints l) (by kernel_rfl) ?_
 intro hl_l; replace hl_l : List.length l ≤ 9223372036854775807 := hl_l
 refine Kk cok tab41 hnt [] [0] (⟨[(0,.sl (.ints l))],[],[999]⟩)
  (True ∧ True)
  ⟨tt,tt⟩ ?_
 refine Kk cok tab41 hnt [] [2] (⟨[(2,.b ((decide ((l.length : Int) = (3 : Int))) && (!(anyN l.length (fun jj => !within (l.getD jj 0) 0 20)))))],[],[999]⟩)
  ((fun (Z1:Bool)=>(True ∧ (True ∧ ((True ∧ (True ∧ True)) ∧ (True ∧ ((Z1 = true → True) ∧ ((Z1 = true → (True ∧ ((((Z1 = true) ∧ True) ∧ (True ∧ True)) ∧ True))) ∧ ((Z1 = true → ((Z1 = true) ∧ True)) ∧ ((True ∧ ((Z1 = true → (Z1 = true) ∧ True) ∧ (Z1 = false → True))) ∧ (True ∧ True)))))))))) (decide ((l.length : Int) = (3 : Int))))
  ⟨tt,tt,⟨tt,tt,tt⟩,tt,(fun _ => trivial),(fun hG => ⟨tt,⟨⟨hG,tt⟩,tt,tt⟩,tt⟩),(fun hG => ⟨hG,tt⟩),⟨tt,(fun hp => ⟨hp,tt⟩),(fun _ => trivial)⟩,tt,tt⟩ ?_
 refine W.ret ?_
 exact endQ_ret (.b ((decide ((l.length : Int) = (3 : Int))) && (!(anyN l.length (fun jj => !within (l.getD jj 0) 0 20))))) (by kernel_rfl) (@cast ((.bool ((decide ((l.length : Int) = (3 : Int))) && (!(anyN l.length (fun jj => !within (l.getD jj 0) 0 20)))) : Value) = .bool (countsOK l)) _ (by kernel_rfl) (congrArg Value.bool (by exact counts_impl l)))
theorem ent41 : Entr prog 41 := ⟨_,func41,rfl,by decide⟩
end Go.Proofs.Try
