import Derived.Test.YtfoifegcfbglpaaQF5S0
import Derived.Lib.SlicesCompact
import Derived.Test.YtfoifegcfbglpaaFrameB
import Derived.Shelf.Slices.Delete
import Derived.Shelf.Slices.Clone
set_option linter.unusedSimpArgs false
set_option linter.unusedVariables false
namespace Go.Ab
theorem shr_half {x : Int} (h0 : 0 ≤ x) (h1 : x < 4611686018427387904) : shrI .u64 x 1 = x / 2 := by
 unfold shrI
 rw [show (min (Int.toNat 1) IntKind.u64.bits) = 1 by decide]
 rw [Int.fdiv_eq_ediv_of_nonneg _ (by decide)]; rfl
theorem bs_stepA {l : List MarkD} {m : MarkD} {x : Int} (hs : sortedM l) (h0 : 0 ≤ x) (hx : x < ((l.length : Nat) : Int)) (h : cmpM (l.getD x.toNat default) m < 0) : ∀ q : Nat,((q : Nat) : Int) < x + 1 → lessM (l.getD q default) m = true := by
 intro q hq
 have h2 : lessM (l.getD x.toNat default) m = true := by rw [← cmpM_lt]; exact decide_eq_true h
 exact bs_lt hs (by omega) h2 q (by omega)
theorem bs_stepB {l : List MarkD} {m : MarkD} {x : Int} (hs : sortedM l) (h0 : 0 ≤ x) (h : ¬ cmpM (l.getD x.toNat default) m < 0) : ∀ q : Nat,x ≤ ((q : Nat) : Int) → q < l.length → lessM (l.getD q default) m = false := by
 intro q hq hl
 have h2 : lessM (l.getD x.toNat default) m = false := by rw [← cmpM_lt]; exact decide_eq_false h
 exact bs_ge hs h2 q (by omega) hl
theorem bs_end {l : List MarkD} {m : MarkD} {i j : Int} (h0 : 0 ≤ i) (hij : i = j) (hj : j ≤ ((l.length : Nat) : Int)) (hA : ∀ q : Nat,((q : Nat) : Int) < i → lessM (l.getD q default) m = true) (hB : ∀ q : Nat,j ≤ ((q : Nat) : Int) → q < l.length → lessM (l.getD q default) m = false) :
  i = ((bsPos l m : Nat) : Int) ∧ (decide (i < ((l.length : Nat) : Int)) && decide (cmpM (l.getD i.toNat default) m = 0)) = bsFound l m := by
 have e : bsPos l m = i.toNat := bs_at (by omega) (fun q hq => hA q (by omega)) (fun q hq hl => hB q (by omega) hl)
 refine ⟨by omega,?_⟩
 unfold bsFound
 rw [e,show decide (i < ((l.length : Nat) : Int)) = decide (i.toNat < l.length) from bool_ext (by simp only [decide_eq_true_eq]; omega)]
theorem marks_ext {a b : List MarkD} (hl : a.length = b.length) (h : ∀ j,j < a.length → a.getD j default = b.getD j default) : a = b := by
 apply List.ext_getElem hl
 intro j h1 h2
 have := h j h1
 rwa [List.getD_eq_getElem?_getD,List.getElem?_eq_getElem h1,List.getD_eq_getElem?_getD,List.getElem?_eq_getElem h2] at this
theorem mark_same {x y : MarkD} (h : (!(decide (x.value = y.value) && (decide (x.proc = y.proc) && (decide (x.number = y.number) && ((x.gone == y.gone) && true))))) = false) : x = y := by
 simp only [Bool.not_eq_false',Bool.and_eq_true,decide_eq_true_eq,beq_iff_eq,and_true] at h
 cases x; cases y; simp at h ⊢; exact h
theorem mark_self {x : MarkD} (h : (!(decide (x.value = x.value) && (decide (x.proc = x.proc) && (decide (x.number = x.number) && ((x.gone == x.gone) && true))))) = true) : False := by
 simp at h
def sameC (a b : CopyD) : Bool := ((((decide (a.up = b.up) && decide (a.down = b.down)) && decide (a.value = b.value)) && decide (a.time = b.time)) && decide (a.proc = b.proc)) && decide (a.marks = b.marks)
theorem same_iff {a b : CopyD} : sameC a b = true ↔ a = b := by
 unfold sameC
 simp only [Bool.and_eq_true,decide_eq_true_eq]
 constructor
 ·rintro ⟨⟨⟨⟨⟨h1,h2⟩,h3⟩,h4⟩,h5⟩,h6⟩
  cases a; cases b; simp at *; exact ⟨h1,h2,h3,h4,h5,h6⟩
 ·rintro rfl; exact ⟨⟨⟨⟨⟨rfl,rfl⟩,rfl⟩,rfl⟩,rfl⟩,rfl⟩
theorem same_no {a b : CopyD} (h : a.marks ≠ b.marks) : sameC a b = false := by unfold sameC; rw [decide_eq_false h,Bool.and_false]
theorem same_yes {a b : CopyD} (h : a.marks = b.marks) : ((((decide (a.up = b.up) && decide (a.down = b.down)) && decide (a.value = b.value)) && decide (a.time = b.time)) && decide (a.proc = b.proc)) = sameC a b := by unfold sameC; rw [decide_eq_true h,Bool.and_true]
def withinC (a b : CopyD) : Bool := (mergeC a b).2 && sameC (mergeC a b).1 b
theorem at_yes {l : List MarkD} {p x : Int} {k : Nat} (hx : x = atN l p k) (h : (l.getD k default).proc ≤ p) : ((k : Nat) : Int) + 1 = atN l p (k + 1) := by simp only [atN]; rw [decide_eq_true h]; rfl
theorem at_no {l : List MarkD} {p x : Int} {k : Nat} (hx : x = atN l p k) (h : ¬ (l.getD k default).proc ≤ p) : x = atN l p (k + 1) := by simp only [atN]; rw [decide_eq_false h]; exact hx
theorem num_yes {l : List MarkD} {p : Int} {k : Nat} (h : (l.getD k default).proc = p) : (l.getD k default).number + 1 = numN l p (k + 1) := by simp only [numN]; rw [decide_eq_true h]; rfl
theorem num_no {l : List MarkD} {p x : Int} {k : Nat} (hx : x = numN l p k) (h : ¬ (l.getD k default).proc = p) : x = numN l p (k + 1) := by simp only [numN]; rw [decide_eq_false h]; exact hx
theorem pi_good {c : CopyD} {v p : Int} (h : ((validCopy c && within v 0 3) && within p 0 2) = true) : putGood c p = true := by
 unfold putGood
 simp only [Bool.and_eq_true] at *
 exact ⟨h.1.1,h.2⟩
theorem putM_bad {m : MarkD} (hm : isMark m = false) : ∀ l : List MarkD,marksOK (putM m l) = false := by
 have : ∀ l : List MarkD,m ∈ putM m l := by
  intro l
  induction l with
  | nil => simp [putM]
  | cons x l ih => simp only [putM]; cases lessM m x <;> simp [ih]
 intro l
 obtain ⟨i,hi,e⟩ := List.mem_iff_getElem.1 (this l)
 refine mark_bad hi ?_
 unfold markOK markAt
 rw [List.getD_eq_getElem?_getD,List.getElem?_eq_getElem hi,Option.getD_some,e,hm]; rfl
theorem pi_no {c : CopyD} {v p : Int} (h : ((validCopy c && within v 0 3) && within p 0 2) = false) : putIn c v p = (zeroC,false) := by
 cases hg : putGood c p with
 | false => exact putIn_no hg
 | true =>
  unfold putGood at hg
  simp only [Bool.and_eq_true] at hg
  rw [hg.1,hg.2] at h
  have hv : within v 0 3 = false := by simpa using h
  refine putIn_bad (by unfold putGood; rw [hg.1,hg.2]; rfl) (valid_marks (putM_bad ?_ _))
  unfold isMark
  show ((within v 0 3 && _) && _) = false
  rw [hv]; rfl
theorem put_fin {c : CopyD} {v p at' num : Int} {k : Nat} (hm : marksOK c.marks = true) (h1 : at' = atN c.marks p k) (h2 : num = numN c.marks p k) (hk : k = c.marks.length) : putC c v p = ⟨c.up,c.down,c.value,c.time,c.proc,insM c.marks at'.toNat ⟨v,p,num,false⟩⟩ := by
 subst hk
 rw [put_impl hm,h1,h2]
theorem found_lt {l : List MarkD} {m : MarkD} (h : bsFound l m = true) : bsPos l m < l.length := by
 unfold bsFound at h
 simp only [Bool.and_eq_true,decide_eq_true_eq] at h
 exact h.1
theorem one_ins {l : List MarkD} {m : MarkD} (hs : sortedM l) (h : (!bsFound l m) = true) : uniteL l [m] = some (insM l (Int.toNat ((bsPos l m : Nat) : Int)) m) := by
 rw [unite_one hs,h]; rfl
theorem one_set {l : List MarkD} {m : MarkD} (hs : sortedM l) (h : (!bsFound l m) = false) (hv : ¬ (l.getD (bsPos l m) default).value ≠ m.value) : uniteL l [m] = some (l.set (bsPos l m) { l.getD (bsPos l m) default with gone := (l.getD (bsPos l m) default).gone || m.gone }) := by
 rw [unite_one hs,h,decide_eq_false hv]; rfl
theorem one_none {a b ms : List MarkD} {q : Nat} (hx : uniteL a (b.take (q + 1)) = uniteL ms [b.getD q default]) (hb : sortedM b) (ha : sortedM a) (hq : q < b.length) (hs : sortedM ms) (h : (!bsFound ms (b.getD q default)) = false) (hv : (ms.getD (bsPos ms (b.getD q default)) default).value ≠ (b.getD q default).value) : (uniteP a b).2 = false := by
 rw [unite_one hs,h,decide_eq_true hv] at hx
 simp only [cond_false,cond_true] at hx
 have h2 := unite_app (b.take (q + 1)) a (b.drop (q + 1)) ha (by rw [List.take_append_drop]; exact hb)
 rw [List.take_append_drop,hx] at h2
 unfold uniteP
 rw [h2]; rfl
end Go.Ab
namespace Go.Ab
theorem merge_fin {a b : CopyD} {us ds : List Int} {ms : List MarkD} {k q : Nat} (hg : (validCopy a && validCopy b) = true) (hu : uniteL a.marks (b.marks.take q) = some ms) (hq : b.marks.length ≤ q) (hus : us = maxUp a.up b.up k) (hds : ds = maxUp a.down b.down k) (hk : k = 3) (h1 : a.up.length = 3) (h2 : a.down.length = 3) (v : Bool)
  (hv : validCopy ⟨us,ds,bif newerC b a then b.value else a.value,bif newerC b a then b.time else a.time,bif newerC b a then b.proc else a.proc,ms⟩ = v) :
  mergeC a b = bif v then (⟨us,ds,bif newerC b a then b.value else a.value,bif newerC b a then b.time else a.time,bif newerC b a then b.proc else a.proc,ms⟩,true) else (zeroC,false) := by
 subst hk
 rw [List.take_of_length_le hq] at hu
 have e : (⟨us,ds,bif newerC b a then b.value else a.value,bif newerC b a then b.time else a.time,bif newerC b a then b.proc else a.proc,ms⟩ : CopyD) = joinC a b ms := by
  unfold joinC; rw [maxUp_all hus h1,maxUp_all hds h2]
 rw [e] at hv ⊢
 unfold mergeC orZero
 rw [hg,hu]
 simp only [cond_true]
 rw [hv]
end Go.Ab

set_option linter.unusedSimpArgs false
set_option linter.unusedVariables false
namespace Go.Ab
theorem unite_self : ∀ a : List MarkD,uniteL a a = some a
 | [] => by simp [uniteL]
 | x :: a => by
  rw [uniteL,less_irr,decide_eq_false (show ¬ x.value ≠ x.value from fun h => h rfl),unite_self a]
  simp
theorem less_asymm {a b : MarkD} (h : lessM a b = true) : lessM b a = false := by rw [less_no]; rw [less_iff] at h; omega
theorem unite_put (m : MarkD) : ∀ l : List MarkD,uniteL l (putM m l) = some (putM m l)
 | [] => by simp [uniteL,putM]
 | x :: l => by
  simp only [putM]
  cases h : lessM m x with
  | true =>
   simp only [cond_true]
   rw [uniteL,less_asymm h,h,unite_self]; rfl
  | false =>
   simp only [cond_false]
   rw [uniteL,less_irr,decide_eq_false (show ¬ x.value ≠ x.value from fun h => h rfl),unite_put m l]
   simp
theorem maxL_get {a b : List Int} {k : Nat} (hk : k < 3) : (maxL a b 3).getD k 0 = max (a.getD k 0) (b.getD k 0) := by
 unfold maxL
 rw [List.getD_eq_getElem?_getD,List.getElem?_map,List.getElem?_range hk]; rfl
theorem maxL_len (a b : List Int) : (maxL a b 3).length = 3 := by simp [maxL]
theorem maxL_is {a b c : List Int} (hc : c.length = 3) (h : ∀ k,k < 3 → max (a.getD k 0) (b.getD k 0) = c.getD k 0) : maxL a b 3 = c := by
 apply ints_ext (by rw [maxL_len,hc])
 intro j hj
 rw [maxL_len] at hj
 rw [maxL_get hj,h j hj]
theorem copy_ext {a b : CopyD} (h1 : a.up = b.up) (h2 : a.down = b.down) (h3 : a.value = b.value) (h4 : a.time = b.time) (h5 : a.proc = b.proc) (h6 : a.marks = b.marks) : a = b := by
 cases a; cases b; simp at *; exact ⟨h1,h2,h3,h4,h5,h6⟩
theorem within_merge {a b : CopyD} : withinC a b = true ↔ mergeC a b = (b,true) := by
 unfold withinC
 rw [Bool.and_eq_true,same_iff]
 constructor
 ·rintro ⟨h1,h2⟩; exact Prod.ext h2 h1
 ·intro h; rw [h]; exact ⟨rfl,rfl⟩
theorem merge_is {a b c : CopyD} (ha : validCopy a = true) (hb : validCopy b = true) (hc : validCopy c = true) (hu : uniteL a.marks b.marks = some c.marks) (h1 : ∀ k,k < 3 → max (a.up.getD k 0) (b.up.getD k 0) = c.up.getD k 0) (h2 : ∀ k,k < 3 → max (a.down.getD k 0) (b.down.getD k 0) = c.down.getD k 0)
  (h3 : (bif newerC b a then b.value else a.value) = c.value) (h4 : (bif newerC b a then b.time else a.time) = c.time) (h5 : (bif newerC b a then b.proc else a.proc) = c.proc) : mergeC a b = (c,true) := by
 have hl := up_len hc
 have e : joinC a b c.marks = c := copy_ext (maxL_is hl.1 h1) (maxL_is hl.2.1 h2) h3 h4 h5 rfl
 unfold mergeC
 rw [ha,hb,hu]
 simp only [Bool.and_self,cond_true]
 rw [e]
 exact orZ_ok hc
theorem within_of {a b : CopyD} (ha : validCopy a = true) (hb : validCopy b = true) (hu : uniteL a.marks b.marks = some b.marks) (h1 : ∀ k,k < 3 → a.up.getD k 0 ≤ b.up.getD k 0) (h2 : ∀ k,k < 3 → a.down.getD k 0 ≤ b.down.getD k 0) (h3 : newerC b a = true ∨ (a.value = b.value ∧ a.time = b.time ∧ a.proc = b.proc)) : mergeC a b = (b,true) := by
 refine merge_is ha hb hb hu (fun k hk => by have := h1 k hk; omega) (fun k hk => by have := h2 k hk; omega) ?_ ?_ ?_
 all_goals
  rcases h3 with e | ⟨e1,e2,e3⟩
  ·rw [e]; rfl
  ·cases newerC b a
   ·simp only [cond_false]; first | exact e1 | exact e2 | exact e3
   ·rfl
theorem put_within {c : CopyD} {v p : Int} (h : (putIn c v p).2 = true) : mergeC c (putIn c v p).1 = ((putIn c v p).1,true) ∧ (putIn c v p).1 = putC c v p := by
 have hv := putIn_valid h
 cases hg : putGood c p with
 | false => rw [putIn_no hg] at h; cases h
 | true =>
  cases hx : validCopy (putC c v p) with
  | false => rw [putIn_bad hg hx] at h; cases h
  | true =>
   rw [putIn_ok hg hx]
   exact ⟨within_of (put_facts hg).1 hx (unite_put _ _) (fun k _ => Int.le_refl _) (fun k _ => Int.le_refl _) (.inr ⟨rfl,rfl,rfl⟩),rfl⟩
end Go.Ab
namespace Go.Ab
theorem same_refl (a : CopyD) : sameC a a = true := same_iff.2 rfl
end Go.Ab

set_option linter.unusedSimpArgs false
set_option linter.unusedVariables false
namespace Go.Ab
end Go.Ab

set_option linter.unusedSimpArgs false
set_option linter.unusedVariables false
namespace Go.Ab
end Go.Ab

set_option linter.unusedSimpArgs false
set_option linter.unusedVariables false
namespace Go.Ab
end Go.Ab
namespace Go.Ab
end Go.Ab

set_option linter.unusedSimpArgs false
set_option linter.unusedVariables false
namespace Go.Ab
open Go.Lib
abbrev sortZ (l : List Int) : List Int := l.mergeSort fun x y => decide (x ≤ y)
theorem asc_ext : ∀ {a b : List Int},a.Pairwise (· < ·) → b.Pairwise (· < ·) → (∀ x,x ∈ a ↔ x ∈ b) → a = b
 | [],[],_,_,_ => rfl
 | [],y :: b,_,_,h => absurd ((h y).2 (by simp)) (by simp)
 | x :: a,[],_,_,h => absurd ((h x).1 (by simp)) (by simp)
 | x :: a,y :: b,ha,hb,h => by
  rw [List.pairwise_cons] at ha hb
  have e : x = y := by
   have h1 := (h x).1 (by simp)
   have h2 := (h y).2 (by simp)
   rw [List.mem_cons] at h1 h2
   rcases h1 with h1 | h1
   ·exact h1
   ·rcases h2 with h2 | h2
    ·exact h2.symm
    ·have := ha.1 y h2; have := hb.1 x h1; omega
  subst e
  rw [asc_ext ha.2 hb.2]
  intro z
  have hz := h z
  rw [List.mem_cons,List.mem_cons] at hz
  constructor
  ·intro hm
   rcases hz.1 (.inr hm) with e | e
   ·subst e; have := ha.1 z hm; omega
   ·exact e
  ·intro hm
   rcases hz.2 (.inr hm) with e | e
   ·subst e; have := hb.1 z hm; omega
   ·exact e
theorem compact_asc (d : Array Int) (hs : ∀ i j,i < j → j < d.size → d[i]! ≤ d[j]!) : ∀ m,m ≤ d.size →
  (compactUpTo d m).Pairwise (· < ·) ∧ (∀ x,x ∈ compactUpTo d m ↔ ∃ j,j < m ∧ d[j]! = x)
 | 0,_ => by
  refine ⟨by simp [compactUpTo],fun x => ⟨fun h => by simp [compactUpTo] at h,fun ⟨j,hj,_⟩ => by omega⟩⟩
 | m + 1,hm => by
  obtain ⟨h1,h2⟩ := compact_asc d hs m (by omega)
  rw [compactUpTo_succ]
  by_cases hk : keeps d m = true
  ·rw [if_pos hk]
   constructor
   ·rw [List.pairwise_append]
    refine ⟨h1,by simp,fun a ha b hb => ?_⟩
    simp only [List.mem_singleton] at hb
    subst hb
    obtain ⟨j,hj,rfl⟩ := (h2 a).1 ha
    unfold keeps at hk
    rcases of_decide_eq_true hk with h0 | h0
    ·omega
    ·have e1 := hs (m - 1) m (by omega) (by omega)
     by_cases hjm : j = m - 1
     ·subst hjm; omega
     ·have e2 := hs j (m - 1) (by omega) (by omega); omega
   ·intro x
    rw [List.mem_append,h2,List.mem_singleton]
    constructor
    ·rintro (⟨j,hj,e⟩ | e)
     ·exact ⟨j,by omega,e⟩
     ·exact ⟨m,by omega,e.symm⟩
    ·rintro ⟨j,hj,e⟩
     by_cases hjm : j = m
     ·subst hjm; exact .inr e.symm
     ·exact .inl ⟨j,by omega,e⟩
  ·rw [if_neg hk,List.append_nil]
   refine ⟨h1,fun x => ?_⟩
   rw [h2]
   constructor
   ·rintro ⟨j,hj,e⟩; exact ⟨j,by omega,e⟩
   ·rintro ⟨j,hj,e⟩
    by_cases hjm : j = m
    ·subst hjm
     have : ¬ (j = 0 ∨ d[j]! ≠ d[j - 1]!) := fun h => hk (by unfold keeps; exact decide_eq_true h)
     have h0 : j ≠ 0 := fun h => this (.inl h)
     have h1 : d[j]! = d[j - 1]! := Decidable.not_not.1 fun h => this (.inr h)
     exact ⟨j - 1,by omega,by rw [← h1]; exact e⟩
    ·exact ⟨j,by omega,e⟩
theorem get_arr (l : List Int) (j : Nat) : l.toArray[j]! = l.getD j 0 := by
 rw [List.getD_eq_getElem?_getD]
 simp [getElem!_def]
 try (cases l[j]? <;> rfl)
theorem compact_sort (l : List Int) : (compact (sortZ l)).Pairwise (· < ·) ∧ ∀ x,x ∈ compact (sortZ l) ↔ x ∈ l := by
 have hp : (sortZ l).Pairwise (fun a b => decide (a ≤ b) = true) := List.pairwise_mergeSort (by intro a b c h1 h2; have := of_decide_eq_true h1; have := of_decide_eq_true h2; exact decide_eq_true (by omega)) (by intro a b; simp; omega) l
 have hs : ∀ i j,i < j → j < (sortZ l).toArray.size → (sortZ l).toArray[i]! ≤ (sortZ l).toArray[j]! := by
  intro i j hij hj
  have hj' : j < (sortZ l).length := by simpa using hj
  rw [get_arr,get_arr,List.getD_eq_getElem?_getD,List.getD_eq_getElem?_getD,List.getElem?_eq_getElem hj',List.getElem?_eq_getElem (by omega)]
  exact of_decide_eq_true (List.pairwise_iff_getElem.1 hp i j (by omega) hj' hij)
 have h := compact_asc (sortZ l).toArray hs (sortZ l).length (by simp)
 refine ⟨h.1,fun x => ?_⟩
 show x ∈ compactUpTo _ _ ↔ _
 rw [h.2,← List.mem_mergeSort (le := fun x y => decide (x ≤ y))]
 constructor
 ·rintro ⟨j,hj,rfl⟩
  rw [get_arr,List.getD_eq_getElem?_getD,List.getElem?_eq_getElem hj]
  exact List.getElem_mem _
 ·intro hx
  obtain ⟨j,hj,rfl⟩ := List.mem_iff_getElem.1 hx
  exact ⟨j,hj,by rw [get_arr,List.getD_eq_getElem?_getD,List.getElem?_eq_getElem hj]; rfl⟩
def hasAt (ms : List MarkD) (v : Int) (i : Nat) : Bool := decide ((ms.getD i default).value = v) && !(ms.getD i default).gone
def hasV (ms : List MarkD) (v : Int) : Bool := anyN ms.length (hasAt ms v)
def valsUp (ms : List MarkD) : Nat → List Int
 | 0 => []
 | v + 1 => bif hasV ms ((v : Nat) : Int) then valsUp ms v ++ [((v : Nat) : Int)] else valsUp ms v
def listUp (ms : List MarkD) : Nat → List Int
 | 0 => []
 | i + 1 => bif (ms.getD i default).gone then listUp ms i else listUp ms i ++ [(ms.getD i default).value]
def valuesC (c : CopyD) : List Int := bif validCopy c then valsUp c.marks 4 else []
theorem listUp_len (ms : List MarkD) : ∀ n,(listUp ms n).length ≤ n
 | 0 => by simp [listUp]
 | n + 1 => by
  have := listUp_len ms n
  unfold listUp
  cases (ms.getD n default).gone with
  | true => simp only [cond_true]; omega
  | false => simp only [cond_false,List.length_append,List.length_singleton]; omega
theorem valsUp_mem (ms : List MarkD) (x : Int) : ∀ n,x ∈ valsUp ms n ↔ (0 ≤ x ∧ x < ((n : Nat) : Int) ∧ hasV ms x = true)
 | 0 => by
  simp only [valsUp]
  constructor
  ·intro h; cases h
  ·rintro ⟨h1,h2,_⟩; omega
 | n + 1 => by
  have ih := valsUp_mem ms x n
  unfold valsUp
  cases hv : hasV ms ((n : Nat) : Int) with
  | true =>
   rw [cond_true,List.mem_append,ih,List.mem_singleton]
   constructor
   ·rintro (⟨h1,h2,h3⟩ | e)
    ·exact ⟨h1,by omega,h3⟩
    ·subst e; exact ⟨by omega,by omega,hv⟩
   ·rintro ⟨h1,h2,h3⟩
    by_cases e : x = ((n : Nat) : Int)
    ·exact .inr e
    ·exact .inl ⟨h1,by omega,h3⟩
  | false =>
   rw [cond_false,ih]
   constructor
   ·rintro ⟨h1,h2,h3⟩; exact ⟨h1,by omega,h3⟩
   ·rintro ⟨h1,h2,h3⟩
    refine ⟨h1,?_,h3⟩
    by_cases e : x = ((n : Nat) : Int)
    ·subst e; rw [hv] at h3; cases h3
    ·omega
theorem valsUp_asc (ms : List MarkD) : ∀ n,(valsUp ms n).Pairwise (· < ·)
 | 0 => by simp [valsUp]
 | n + 1 => by
  have ih := valsUp_asc ms n
  unfold valsUp
  cases hv : hasV ms ((n : Nat) : Int) with
  | true =>
   rw [cond_true,List.pairwise_append]
   refine ⟨ih,by simp,fun a ha b hb => ?_⟩
   simp only [List.mem_singleton] at hb
   subst hb
   have := (valsUp_mem ms a n).1 ha
   omega
  | false => exact ih
theorem listUp_mem (ms : List MarkD) (x : Int) : ∀ n,x ∈ listUp ms n ↔ ∃ i,i < n ∧ hasAt ms x i = true
 | 0 => by
  simp only [listUp]
  constructor
  ·intro h; cases h
  ·rintro ⟨i,hi,_⟩; omega
 | n + 1 => by
  have ih := listUp_mem ms x n
  unfold listUp
  cases hg : (ms.getD n default).gone with
  | true =>
   rw [cond_true,ih]
   constructor
   ·rintro ⟨i,hi,h⟩; exact ⟨i,by omega,h⟩
   ·rintro ⟨i,hi,h⟩
    by_cases e : i = n
    ·subst e; unfold hasAt at h; rw [hg,Bool.not_true,Bool.and_false] at h; cases h
    ·exact ⟨i,by omega,h⟩
  | false =>
   rw [cond_false,List.mem_append,ih,List.mem_singleton]
   constructor
   ·rintro (⟨i,hi,h⟩ | e)
    ·exact ⟨i,by omega,h⟩
    ·exact ⟨n,by omega,by unfold hasAt; rw [hg,decide_eq_true e.symm]; rfl⟩
   ·rintro ⟨i,hi,h⟩
    by_cases e : i = n
    ·subst e; unfold hasAt at h; simp only [Bool.and_eq_true,decide_eq_true_eq] at h; exact .inr h.1.symm
    ·exact .inl ⟨i,by omega,h⟩
theorem hasV_iff {ms : List MarkD} {x : Int} : hasV ms x = true ↔ ∃ i,i < ms.length ∧ hasAt ms x i = true := by
 unfold hasV
 constructor
 ·intro h
  cases hc : anyN ms.length (hasAt ms x) with
  | false => rw [hc] at h; cases h
  | true =>
   apply Classical.byContradiction
   intro hn
   have : anyN ms.length (hasAt ms x) = false := anyN_false fun j hj => by
    cases hb : hasAt ms x j with
    | false => rfl
    | true => exact absurd ⟨j,hj,hb⟩ hn
   rw [this] at hc; cases hc
 ·rintro ⟨i,hi,h⟩; exact anyN_true hi h
theorem values_eq {ms : List MarkD} (hm : ∀ i,i < ms.length → 0 ≤ (ms.getD i default).value ∧ (ms.getD i default).value ≤ 3) : compact (sortZ (listUp ms ms.length)) = valsUp ms 4 := by
 have h := compact_sort (listUp ms ms.length)
 refine asc_ext h.1 (valsUp_asc ms 4) fun x => ?_
 rw [h.2,listUp_mem,valsUp_mem,hasV_iff]
 constructor
 ·rintro ⟨i,hi,hx⟩
  have hb := hm i hi
  have he : (ms.getD i default).value = x := by unfold hasAt at hx; simp only [Bool.and_eq_true,decide_eq_true_eq] at hx; exact hx.1
  exact ⟨by omega,by omega,i,hi,hx⟩
 ·rintro ⟨_,_,h⟩; exact h
theorem list_yes {ms : List MarkD} {lo : List Int} {i : Nat} (hl : lo = listUp ms i) (h : (ms.getD i default).gone = false) : lo ++ [(ms.getD i default).value] = listUp ms (i + 1) := by
 subst hl
 show _ = bif (ms.getD i default).gone then _ else _
 rw [h]; rfl
theorem list_no {ms : List MarkD} {lo : List Int} {i : Nat} (hl : lo = listUp ms i) (h : (ms.getD i default).gone = true) : lo = listUp ms (i + 1) := by
 subst hl
 show _ = bif (ms.getD i default).gone then _ else _
 rw [h]; rfl
theorem values_bad {c : CopyD} (h : validCopy c = false) : [] = valuesC c := by unfold valuesC; rw [h]; rfl
theorem values_ok2 {c : CopyD} (h : validCopy c = true) : valsUp c.marks 4 = valuesC c := by unfold valuesC; rw [h]; rfl
theorem valid_vals {c : CopyD} (h : validCopy c = true) : ∀ i,i < c.marks.length → 0 ≤ (c.marks.getD i default).value ∧ (c.marks.getD i default).value ≤ 3 := by
 intro i hi
 have hm := (copy_iff.1 h).2.2.2.1
 have := isMark_iff.1 (mark_at hm hi).1
 omega
theorem values_ok {c : CopyD} {lo : List Int} {i : Nat} (h : validCopy c = true) (hl : lo = listUp c.marks i) (hi : i = c.marks.length) : compact (sortZ lo) = valuesC c := by
 subst hl hi
 rw [values_eq (valid_vals h)]; exact values_ok2 h
end Go.Ab

set_option linter.unusedSimpArgs false
set_option linter.unusedVariables false
namespace Go.Ab
end Go.Ab

set_option linter.unusedSimpArgs false
set_option linter.unusedVariables false
namespace Go.Ab
theorem hasInt_iff {l : List Int} {n : Int} : hasInt l n = true ↔ n ∈ l := by
 unfold hasInt
 constructor
 ·intro h
  apply Classical.byContradiction
  intro hn
  have : anyN l.length (fun i => decide (l.getD i 0 = n)) = false := anyN_false fun j hj => decide_eq_false fun e => hn (by
   rw [← e,List.getD_eq_getElem?_getD,List.getElem?_eq_getElem hj]; exact List.getElem_mem _)
  rw [this] at h; cases h
 ·intro h
  obtain ⟨i,hi,e⟩ := List.mem_iff_getElem.1 h
  exact anyN_true hi (decide_eq_true (by rw [List.getD_eq_getElem?_getD,List.getElem?_eq_getElem hi]; exact e))
theorem values_mem {c : CopyD} {i : Nat} (h : validCopy c = true) (hi : i < c.marks.length) (hg : (c.marks.getD i default).gone = false) : hasInt (valuesC c) (c.marks.getD i default).value = true := by
 rw [hasInt_iff,← values_ok2 h,valsUp_mem]
 have hb := valid_vals h i hi
 refine ⟨hb.1,by omega,hasV_iff.2 ⟨i,hi,?_⟩⟩
 unfold hasAt
 rw [decide_eq_true rfl,hg]; rfl
theorem putM_len (m : MarkD) (l : List MarkD) : (putM m l).length = l.length + 1 := by
 induction l with
 | nil => rfl
 | cons x r ih => unfold putM; cases lessM m x <;> simp [ih]
theorem putM_mem (m : MarkD) (l : List MarkD) : m ∈ putM m l := by
 induction l with
 | nil => simp [putM]
 | cons x r ih => unfold putM; cases lessM m x <;> simp [ih]
theorem put_law {c : CopyD} {v p : Int} (h : (putIn c v p).2 = true) : ((hasInt (valuesC (putIn c v p).1) v && decide ((((putIn c v p).1.marks.length : Nat) : Int) = ((c.marks.length : Nat) : Int) + 1)) && withinC c (putIn c v p).1) = true := by
 obtain ⟨h1,h2⟩ := put_within h
 have hv := putIn_valid h
 rw [within_merge.2 h1,Bool.and_true]
 rw [h2] at hv ⊢
 have hl : (putC c v p).marks.length = c.marks.length + 1 := putM_len _ _
 rw [decide_eq_true (by rw [hl]; omega),Bool.and_true]
 obtain ⟨i,hi,e⟩ := List.mem_iff_getElem.1 (putM_mem (⟨v,p,countC c p + 1,false⟩ : MarkD) c.marks)
 have hi' : i < (putC c v p).marks.length := hi
 have eg : (putC c v p).marks.getD i default = ⟨v,p,countC c p + 1,false⟩ := by
  rw [List.getD_eq_getElem?_getD,List.getElem?_eq_getElem hi']; exact e
 have hz := values_mem hv hi' (by rw [eg])
 rw [eg] at hz; exact hz
end Go.Ab

set_option linter.unusedSimpArgs false
set_option linter.unusedVariables false
namespace Go.Proofs.Try
open Go.Ab Go.RowKit
def fs40 : FnS := fnS [.o,.o,.o] [.int,.int,.int] (fun _ (n,low,high,_) => (.b (within n low high),[],True))
abbrev T40 : Tab := lk []
theorem tab40 : TabOK prog T40 := TabOK.nil
set_option maxRecDepth 100000 in
set_option maxHeartbeats 1000000 in
theorem ok40 : FnOK prog 40 fs40 := by
 refine FnOK.mk cok func40 rfl rfl rfl ?_
 rintro fl ⟨(n : Int),(low : Int),(high : Int),_⟩ hpre F hnt0 _
 have hnt : F.nt = 15 := hnt0.trans ntmps40
 clear hpre
 refine W.to (⟨[(0,.i n),(1,.i low),(2,.i high)],[],[999]⟩) rfl ?_
 refine Kk cok tab40 hnt [] [0,1,2] (⟨[(0,.i n),(1,.i low),(2,.i high)],[],[999]⟩)
  (True ∧ True)
  ⟨tt,tt⟩ ?_
 refine Kk cok tab40 hnt [] [6] (⟨[(6,.b ((decide (low ≤ n)) && (decide (n ≤ high))))],[],[999]⟩)
  ((fun (Z1:Bool)=>(True ∧ (True ∧ ((True ∧ (True ∧ True)) ∧ (True ∧ ((Z1 = true → True) ∧ ((Z1 = true → True) ∧ ((Z1 = true → (((Z1 = true) ∧ True) ∧ (((Z1 = true) ∧ True) ∧ True))) ∧ ((True ∧ ((Z1 = true → (Z1 = true) ∧ True) ∧ (Z1 = false → True))) ∧ (True ∧ True)))))))))) (decide (low ≤ n)))
  ⟨tt,tt,⟨tt,tt,tt⟩,tt,(fun _ => trivial),(fun _ => trivial),(fun hG => ⟨⟨hG,tt⟩,⟨hG,tt⟩,tt⟩),⟨tt,(fun hp => ⟨hp,tt⟩),(fun _ => trivial)⟩,tt,tt⟩ ?_
 refine W.ret ?_
 exact endQ_ret (.b ((decide (low ≤ n)) && (decide (n ≤ high)))) (by kernel_rfl) (@cast ((.bool ((decide (low ≤ n)) && (decide (n ≤ high))) : Value) = .bool (within n low high)) _ (by kernel_rfl) (congrArg Value.bool (by first | rfl | simp_all)))
theorem ent40 : Entr prog 40 := ⟨_,func40,rfl,by decide⟩
end Go.Proofs.Try

set_option linter.unusedSimpArgs false
set_option linter.unusedVariables false
namespace Go.Proofs.Try
open Go.Ab Go.RowKit
def fs39 : FnS := fnS [.o] [.mark] (fun _ (mm,_) => (.b (isMark mm),[],True))
abbrev T39 : Tab := lk [(40,fs40)]
theorem tab39 : TabOK prog T39 := (TabOK.cons ok40 ent40 TabOK.nil)
set_option maxRecDepth 100000 in
set_option maxHeartbeats 1000000 in
theorem ok39 : FnOK prog 39 fs39 := by
 refine FnOK.mk cok func39 rfl rfl rfl ?_
 rintro fl ⟨(mm : MarkD),_⟩ hpre F hnt0 _
 have hnt : F.nt = 16 := hnt0.trans ntmps39
 clear hpre
 refine W.to (⟨[(0,.agg [.i mm.value,.i mm.proc,.i mm.number,.b mm.gone])],[],[999]⟩) rfl ?_
 refine Kk cok tab39 hnt [] [1] (⟨[(1,.ptr 1 0)],[(1,⟨33,.fix [.i mm.value,.i mm.proc,.i mm.number,.b mm.gone]⟩)],[1,999]⟩)
  (True ∧ True ∧ True)
  ⟨tt,tt,tt⟩ ?_
 refine Kk cok tab39 hnt [] [2] (⟨[(2,.b (((within mm.value (0 : Int) (3 : Int)) && (within mm.proc (0 : Int) (2 : Int))) && (within mm.number (1 : Int) (20 : Int))))],[(1,⟨33,.fix [.i mm.value,.i mm.proc,.i mm.number,.b mm.gone]⟩)],[1,999]⟩)
  ((fun (Z1:Bool)=>((fun (Z2:Bool)=>(True ∧ (True ∧ ((True ∧ ((True ∧ (True ∧ (True ∧ True))) ∧ True)) ∧ (True ∧ ((Z1 = true → True) ∧ ((Z1 = true → ((Z1 = true) ∧ True)) ∧ ((Z1 = true → (True ∧ ((((Z1 = true) ∧ True) ∧ (True ∧ (True ∧ True))) ∧ True))) ∧ ((True ∧ ((Z1 = true → (Z1 = true) ∧ True) ∧ (Z1 = false → True))) ∧ (True ∧ ((Z2 = true → True) ∧ ((Z2 = true → ((Z2 = true) ∧ True)) ∧ ((Z2 = true → (True ∧ ((((Z2 = true) ∧ True) ∧ (True ∧ (True ∧ True))) ∧ True))) ∧ ((True ∧ ((Z2 = true → (Z2 = true) ∧ True) ∧ (Z2 = false → True))) ∧ (True ∧ True))))))))))))))) (Z1 && (within mm.proc (0 : Int) (2 : Int))))) (within mm.value (0 : Int) (3 : Int)))
  ⟨tt,tt,⟨tt,⟨tt,tt,tt,tt⟩,tt⟩,tt,(fun _ => trivial),(fun hG => ⟨hG,tt⟩),(fun hG => ⟨tt,⟨⟨hG,tt⟩,tt,tt,tt⟩,tt⟩),⟨tt,(fun hp => ⟨hp,tt⟩),(fun _ => trivial)⟩,tt,(fun _ => trivial),(fun hG => ⟨hG,tt⟩),(fun hG => ⟨tt,⟨⟨hG,tt⟩,tt,tt,tt⟩,tt⟩),⟨tt,(fun hp => ⟨hp,tt⟩),(fun _ => trivial)⟩,tt,tt⟩ ?_
 refine W.ret ?_
 exact endQ_ret (.b (((within mm.value (0 : Int) (3 : Int)) && (within mm.proc (0 : Int) (2 : Int))) && (within mm.number (1 : Int) (20 : Int)))) (by kernel_rfl) (@cast ((.bool (((within mm.value (0 : Int) (3 : Int)) && (within mm.proc (0 : Int) (2 : Int))) && (within mm.number (1 : Int) (20 : Int))) : Value) = .bool (isMark mm)) _ (by kernel_rfl) (congrArg Value.bool (by first | rfl | simp_all)))
theorem ent39 : Entr prog 39 := ⟨_,func39,rfl,by decide⟩
end Go.Proofs.Try

set_option linter.unusedSimpArgs false
set_option linter.unusedVariables false
namespace Go.Proofs.Try
open Go.Ab Go.RowKit
def fs62 : FnS := fnS [.o] [.int] (fun _ (x,_) => (.b false,[],True))
abbrev T62 : Tab := lk []
theorem tab62 : TabOK prog T62 := TabOK.nil
set_option maxRecDepth 100000 in
set_option maxHeartbeats 1000000 in
theorem ok62 : FnOK prog 62 fs62 := by
 refine FnOK.mk cok func62 rfl rfl rfl ?_
 rintro fl ⟨(x : Int),_⟩ hpre F hnt0 _
 have hnt : F.nt = 6 := hnt0.trans ntmps62
 clear hpre
 refine W.to (⟨[(0,.i x)],[],[999]⟩) rfl ?_
 refine Kk cok tab62 hnt [] [0] (⟨[(0,.i x)],[],[999]⟩)
  (True ∧ True)
  ⟨tt,tt⟩ ?_
 refine Kk cok tab62 hnt [] [2] (⟨[(2,.b (decide (x ≠ x)))],[],[999]⟩)
  (True ∧ True ∧ (True ∧ True ∧ True) ∧ True ∧ True)
  ⟨tt,tt,⟨tt,tt,tt⟩,tt,tt⟩ ?_
 refine W.ret ?_
 exact endQ_ret (.b (decide (x ≠ x))) (by kernel_rfl) (@cast ((.bool (decide (x ≠ x)) : Value) = .bool false) _ (by kernel_rfl) (congrArg Value.bool (by simp)))
theorem ent62 : Entr prog 62 := ⟨_,func62,rfl,by decide⟩
end Go.Proofs.Try

set_option linter.unusedSimpArgs false
set_option linter.unusedVariables false
namespace Go.Proofs.Try
open Go.Ab Go.RowKit
def fs51 : FnS := fnS [.o,.o] [.int,.int] (fun _ (a,b,_) => (.i (cmpI a b),[],True))
abbrev T51 : Tab := lk [(62,fs62)]
theorem tab51 : TabOK prog T51 := (TabOK.cons ok62 ent62 TabOK.nil)
set_option maxRecDepth 100000 in
set_option maxHeartbeats 1000000 in
theorem ok51 : FnOK prog 51 fs51 := by
 refine FnOK.mk cok func51 rfl rfl rfl ?_
 rintro fl ⟨(a : Int),(b : Int),_⟩ hpre F hnt0 _
 have hnt : F.nt = 20 := hnt0.trans ntmps51
 clear hpre
 refine W.to (⟨[(0,.i a),(1,.i b)],[],[999]⟩) rfl ?_
 refine Kk cok tab51 hnt [] [0,1] (⟨[(0,.i a),(1,.i b)],[],[999]⟩)
  (True ∧ True)
  ⟨tt,tt⟩ ?_
 refine Kk cok tab51 hnt [] [0,1,5] (⟨[(0,.i a),(1,.i b),(5,.b false)],[],[999]⟩)
  (True ∧ (True ∧ (True ∧ True) ∧ True) ∧ True ∧ True)
  ⟨tt,⟨tt,⟨tt,tt⟩,tt⟩,tt,tt⟩ ?_
 refine Kk cok tab51 hnt [] [0,1,5,6] (⟨[(0,.i a),(1,.i b),(5,.b false),(6,.b false)],[],[999]⟩)
  (True ∧ (True ∧ (True ∧ True) ∧ True) ∧ True ∧ True)
  ⟨tt,⟨tt,⟨tt,tt⟩,tt⟩,tt,tt⟩ ?_
 refine W.seq ?_
 refine Kk cok tab51 hnt [] [0,1,6,11] (⟨[(0,.i a),(1,.i b),(6,.b false),(11,.b false)],[],[999]⟩)
  (True ∧ True)
  ⟨tt,tt⟩ ?_
 refine W.if' false (.b false) (by kernel_rfl) rfl trivial ?_ ?_
 ·intro h11
  refine W.seq ?_
  refine Kk cok tab51 hnt [] [12] (⟨[(12,.b false)],[],[999]⟩)
   (True ∧ True)
   ⟨tt,tt⟩ ?_
  refine W.if' false (.b false) (by kernel_rfl) rfl trivial ?_ ?_
  ·intro h12
   refine Kk cok tab51 hnt [] [4] (⟨[(4,.i (0 : Int))],[],[999]⟩)
    (True ∧ True)
    ⟨tt,tt⟩ ?_
   refine W.ret (thenQ_ret (thenQ_ret ?_))
   exact endQ_ret (.i (0 : Int)) (by kernel_rfl) (@cast ((.int .i64 (0 : Int) : Value) = .int .i64 (cmpI a b)) _ (by kernel_rfl) (congrArg (Value.int .i64) (by cases h11)))
  ·intro n12
   refine W.skip (thenQ_normal ?_)
   refine Kk cok tab51 hnt [] [4] (⟨[(4,.i (-1 : Int))],[],[999]⟩)
    (True ∧ True)
    ⟨tt,tt⟩ ?_
   refine W.ret (thenQ_ret ?_)
   exact endQ_ret (.i (-1 : Int)) (by kernel_rfl) (@cast ((.int .i64 (-1 : Int) : Value) = .int .i64 (cmpI a b)) _ (by kernel_rfl) (congrArg (Value.int .i64) (by cases h11)))
 ·intro n11
  refine W.skip (thenQ_normal ?_)
  refine W.seq ?_
  refine Kk cok tab51 hnt [] [0,1,13] (⟨[(0,.i a),(1,.i b),(13,.b false)],[],[999]⟩)
   (True ∧ True)
   ⟨tt,tt⟩ ?_
  refine W.if' false (.b false) (by kernel_rfl) rfl trivial ?_ ?_
  ·intro h13
   refine Kk cok tab51 hnt [] [4] (⟨[(4,.i (1 : Int))],[],[999]⟩)
    (True ∧ True)
    ⟨tt,tt⟩ ?_
   refine W.ret (thenQ_ret ?_)
   exact endQ_ret (.i (1 : Int)) (by kernel_rfl) (@cast ((.int .i64 (1 : Int) : Value) = .int .i64 (cmpI a b)) _ (by kernel_rfl) (congrArg (Value.int .i64) (by cases h13)))
  ·intro n13
   refine W.skip (thenQ_normal ?_)
   refine W.seq ?_
   refine Kk cok tab51 hnt [] [0,1,16] (⟨[(0,.i a),(1,.i b),(16,.b (decide (a < b)))],[],[999]⟩)
    (True ∧ True ∧ (True ∧ True ∧ True) ∧ True)
    ⟨tt,tt,⟨tt,tt,tt⟩,tt⟩ ?_
   refine W.ifP (a < b) (.b (decide (a < b))) (by kernel_rfl) rfl trivial ?_ ?_
   ·intro h16
    refine Kk cok tab51 hnt [] [4] (⟨[(4,.i (-1 : Int))],[],[999]⟩)
     (True ∧ True)
     ⟨tt,tt⟩ ?_
    refine W.ret (thenQ_ret ?_)
    exact endQ_ret (.i (-1 : Int)) (by kernel_rfl) (@cast ((.int .i64 (-1 : Int) : Value) = .int .i64 (cmpI a b)) _ (by kernel_rfl) (congrArg (Value.int .i64) (by unfold cmpI; rw [decide_eq_true h16]; rfl)))
   ·intro n16
    refine W.skip (thenQ_normal ?_)
    refine W.seq ?_
    refine Kk cok tab51 hnt [] [19] (⟨[(19,.b (decide (b < a)))],[],[999]⟩)
     (True ∧ True ∧ (True ∧ True ∧ True) ∧ True)
     ⟨tt,tt,⟨tt,tt,tt⟩,tt⟩ ?_
    refine W.ifP (b < a) (.b (decide (b < a))) (by kernel_rfl) rfl trivial ?_ ?_
    ·intro h19
     refine Kk cok tab51 hnt [] [4] (⟨[(4,.i (1 : Int))],[],[999]⟩)
      (True ∧ True)
      ⟨tt,tt⟩ ?_
     refine W.ret (thenQ_ret ?_)
     exact endQ_ret (.i (1 : Int)) (by kernel_rfl) (@cast ((.int .i64 (1 : Int) : Value) = .int .i64 (cmpI a b)) _ (by kernel_rfl) (congrArg (Value.int .i64) (by unfold cmpI; rw [decide_eq_false n16,decide_eq_true h19]; rfl)))
    ·intro n19
     refine W.skip (thenQ_normal ?_)
     refine Kk cok tab51 hnt [] [4] (⟨[(4,.i (0 : Int))],[],[999]⟩)
      (True ∧ True)
      ⟨tt,tt⟩ ?_
     refine W.ret ?_
     exact endQ_ret (.i (0 : Int)) (by kernel_rfl) (@cast ((.int .i64 (0 : Int) : Value) = .int .i64 (cmpI a b)) _ (by kernel_rfl) (congrArg (Value.int .i64) (by unfold cmpI; rw [decide_eq_false n16,decide_eq_false n19]; rfl)))
theorem ent51 : Entr prog 51 := ⟨_,func51,rfl,by decide⟩
end Go.Proofs.Try

set_option linter.unusedSimpArgs false
set_option linter.unusedVariables false
namespace Go.Proofs.Try
open Go.Ab Go.RowKit
def fs50 : FnS := fnS [.s .ints] [.ints] (fun _ (l,_) => (.i (orI l),[],True))
abbrev T50 : Tab := lk []
theorem tab50 : TabOK prog T50 := TabOK.nil
set_option maxRecDepth 100000 in
set_option maxHeartbeats 1000000 in
theorem ok50 : FnOK prog 50 fs50 := by
 refine FnOK.mk cok func50 rfl rfl rfl ?_
 rintro fl ⟨(l : List Int),_⟩ hpre F hnt0 _
 have hnt : F.nt = 18 := hnt0.trans ntmps50
 clear hpre
 refine W.to (⟨[(0,.sl (.ints l))],[],[999]⟩) rfl ?_
 refine W.lenOf 0 (.ints l) (by kernel_rfl) ?_
 intro hl_l; replace hl_l : List.length l ≤ 9223372036854775807 := hl_l
 refine Kk cok tab50 hnt [] [0] (⟨[(0,.sl (.ints l))],[],[999]⟩)
  (True ∧ True)
  ⟨tt,tt⟩ ?_
 refine Kk cok tab50 hnt [] [0,3] (⟨[(0,.sl (.ints l)),(3,.i (0 : Int))],[],[999]⟩)
  (True ∧ True)
  ⟨tt,tt⟩ ?_
 refine W.seq ?_
 refine Kk cok tab50 hnt [] [3,6,7,8] (⟨[(3,.i (0 : Int)),(6,.sl (.ints l)),(7,.i (l.length : Int)),(8,.i (0 : Int))],[],[999]⟩)
  (True ∧ True ∧ True ∧ True)
  ⟨tt,tt,tt,tt⟩ ?_
 refine W.block ?_
 refine W.loop (ι := Nat) (fun (i : Nat) => (⟨[(3,.i (0 : Int)),(6,.sl (.ints l)),(7,.i (l.length : Int)),(8,.i ((i : Nat) : Int))],[],[999]⟩ : St))
  (fun (i : Nat) => (i ≤ l.length) ∧ (orI l = orFrom l i))
  (fun (i : Nat) => (l.length - i : Nat)) (0) ?_ ?_ ?_
 ·exact (show (0 ≤ l.length) ∧ (orI l = orFrom l 0) from ⟨(by first | assumption | omega | rfl | (intro _ hjj; omega) | (simp; done) | (simp; omega)),(by rfl)⟩)
 ·exact Sub.of [] (@cast (((Si (0 : Int)) ∧ (Sd (.ints l)) ∧ (Si (l.length : Int)) ∧ ((.int .i64 (0 : Int) : Value) = .int .i64 ((0 : Nat) : Int)) ∧ True) ∧ True ∧ (true = true) ∧ (true = true)) _ (by kernel_rfl) ⟨⟨rfl,rfl,rfl,(congrArg (Value.int .i64) (by first | rfl | omega | assumption | simp | simp_all)),tt⟩,tt,rfl,rfl⟩)
 ·rintro i hC0
  have hC : (i ≤ l.length) ∧ (orI l = orFrom l i) := hC0
  clear hC0
  obtain ⟨hi,hA⟩ := hC
  refine W.to (⟨[(3,.i (0 : Int)),(6,.sl (.ints l)),(7,.i (l.length : Int)),(8,.i ((i : Nat) : Int))],[],[999]⟩) rfl ?_
  refine Kk cok tab50 hnt [] [3,6,7,8,9] (⟨[(3,.i (0 : Int)),(6,.sl (.ints l)),(7,.i (l.length : Int)),(8,.i ((i : Nat) : Int)),(9,.b (decide (((i : Nat) : Int) < (l.length : Int))))],[],[999]⟩)
   ((True ∧ True ∧ True) ∧ True)
   ⟨⟨tt,tt,tt⟩,tt⟩ ?_
  refine W.seq ?_
  refine W.ifP (((i : Nat) : Int) < (l.length : Int)) (.b (decide (((i : Nat) : Int) < (l.length : Int)))) (by kernel_rfl) rfl trivial ?_ ?_
  ·intro h9
   refine W.skip (thenQ_normal ?_)
   refine W.seq ?_
   refine W.block ?_
   refine Kk cok tab50 hnt [] [3,5,6,7,8] (⟨[(3,.i (0 : Int)),(5,.i (l.getD i 0)),(6,.sl (.ints l)),(7,.i (l.length : Int)),(8,.i ((i : Nat) : Int))],[],[999]⟩)
    ((True ∧ True ∧ (0 ≤ ((i : Nat) : Int)) ∧ (((i : Nat) : Int) < (l.length : Int))) ∧ True ∧ True ∧ True)
    ⟨⟨tt,tt,(by omega),(by omega)⟩,tt,tt,tt⟩ ?_
   refine Kk cok tab50 hnt [] [3,5,6,7,8,14] (⟨[(3,.i (0 : Int)),(5,.i (l.getD i 0)),(6,.sl (.ints l)),(7,.i (l.length : Int)),(8,.i ((i : Nat) : Int)),(14,.b (decide ((l.getD i 0) ≠ (0 : Int))))],[],[999]⟩)
    (True ∧ True ∧ (True ∧ True ∧ True) ∧ True)
    ⟨tt,tt,⟨tt,tt,tt⟩,tt⟩ ?_
   refine W.ifP ((l.getD i 0) ≠ (0 : Int)) (.b (decide ((l.getD i 0) ≠ (0 : Int)))) (by kernel_rfl) rfl trivial ?_ ?_
   ·intro h14
    refine Kk cok tab50 hnt [] [2] (⟨[(2,.i (l.getD i 0))],[],[999]⟩)
     (True ∧ True ∧ True)
     ⟨tt,tt,tt⟩ ?_
    refine W.ret (blockQ_ret (thenQ_ret (thenQ_ret (blockQ_ret (thenQ_ret ?_)))))
    exact endQ_ret (.i (l.getD i 0)) (by kernel_rfl) (@cast ((.int .i64 (l.getD i 0) : Value) = .int .i64 (orI l)) _ (by kernel_rfl) (congrArg (Value.int .i64) (by rw [hA,orFrom_yes (by omega) h14])))
   ·intro n14
    refine W.skip (blockQ_normal (thenQ_normal ?_))
    refine Lk cok tab50 hnt [] (⟨[(3,.i (0 : Int)),(5,.i (l.getD i 0)),(6,.sl (.ints l)),(7,.i (l.length : Int)),(8,.i (((i + 1) : Nat) : Int)),(14,.b (decide ((l.getD i 0) ≠ (0 : Int)))),(16,.i (((i + 1) : Nat) : Int))],[],[999]⟩)
     ((True ∧ True ∧ (Fits .i64 (((i + 1) : Nat) : Int))) ∧ True ∧ True)
     ⟨⟨tt,tt,(by exact fits_i64 (by omega) (by omega))⟩,tt,tt⟩ ?_
    refine thenQ_normal ?_
    refine ⟨((i + 1)),(show ((i + 1) ≤ l.length) ∧ (orI l = orFrom l (i + 1)) from ⟨(by first | assumption | omega | rfl | (intro _ hjj; omega) | (simp; done) | (simp; omega)),(by rw [hA]; exact orFrom_no (by omega) n14)⟩),(show l.length - (i + 1) < l.length - i from (by first | omega | (simp_all; omega))),?_⟩
    exact Sub.of [] (@cast (((Si (0 : Int)) ∧ (Sd (.ints l)) ∧ (Si (l.length : Int)) ∧ (Si (((i + 1) : Nat) : Int)) ∧ True) ∧ True ∧ (true = true) ∧ (true = true)) _ (by kernel_rfl) ⟨⟨rfl,rfl,rfl,rfl,tt⟩,tt,rfl,rfl⟩)
  ·intro n9
   refine W.exit (thenQ_exit (thenQ_exit (blockQ_hit ?_)))
   refine thenQ_normal ?_
   refine Kk cok tab50 hnt [] [2] (⟨[(2,.i (0 : Int))],[],[999]⟩)
    (True ∧ True ∧ True)
    ⟨tt,tt,tt⟩ ?_
   refine W.ret ?_
   exact endQ_ret (.i (0 : Int)) (by kernel_rfl) (@cast ((.int .i64 (0 : Int) : Value) = .int .i64 (orI l)) _ (by kernel_rfl) (congrArg (Value.int .i64) (by rw [hA,orFrom_end (by omega)])))
theorem ent50 : Entr prog 50 := ⟨_,func50,rfl,by decide⟩
end Go.Proofs.Try

set_option linter.unusedSimpArgs false
set_option linter.unusedVariables false
namespace Go.Proofs.Try
open Go.Ab Go.RowKit
def fs29 : FnS := fnS [.o,.o] [.mark,.mark] (fun _ (a,b,_) => (.i (cmpM a b),[],True))
abbrev T29 : Tab := lk [(50,fs50),(51,fs51)]
theorem tab29 : TabOK prog T29 := (TabOK.cons ok50 ent50 (TabOK.cons ok51 ent51 TabOK.nil))
set_option maxRecDepth 100000 in
set_option maxHeartbeats 1000000 in
theorem ok29 : FnOK prog 29 fs29 := by
 refine FnOK.mk cok func29 rfl rfl rfl ?_
 rintro fl ⟨(a : MarkD),(b : MarkD),_⟩ hpre F hnt0 _
 have hnt : F.nt = 17 := hnt0.trans ntmps29
 clear hpre
 refine W.to (⟨[(0,.agg [.i a.value,.i a.proc,.i a.number,.b a.gone]),(1,.agg [.i b.value,.i b.proc,.i b.number,.b b.gone])],[],[999]⟩) rfl ?_
 refine Kk cok tab29 hnt [] [2,3] (⟨[(2,.ptr 2 0),(3,.ptr 3 0)],[(2,⟨33,.fix [.i a.value,.i a.proc,.i a.number,.b a.gone]⟩),(3,⟨33,.fix [.i b.value,.i b.proc,.i b.number,.b b.gone]⟩)],[3,2,999]⟩)
  (True ∧ True ∧ True ∧ True)
  ⟨tt,tt,tt,tt⟩ ?_
 refine W.KA cok tab29 hnt [] [4] (⟨[(4,.i (orI ([(cmpI a.proc b.proc),(cmpI a.number b.number)])))],[(2,⟨33,.fix [.i a.value,.i a.proc,.i a.number,.b a.gone]⟩),(3,⟨33,.fix [.i b.value,.i b.proc,.i b.number,.b b.gone]⟩)],[15,3,2,999]⟩)
  (True ∧ True ∧ True ∧ True ∧ (True ∧ (True ∧ True ∧ True) ∧ True) ∧ True ∧ True ∧ True ∧ True ∧ (True ∧ (True ∧ True ∧ True) ∧ True) ∧ (True ∧ True ∧ True) ∧ (True ∧ (True ∧ True) ∧ True) ∧ True ∧ True) (by kernel_rfl) (by kernel_rfl)
  ⟨tt,tt,tt,tt,⟨tt,⟨tt,tt,tt⟩,tt⟩,tt,tt,tt,tt,⟨tt,⟨tt,tt,tt⟩,tt⟩,⟨tt,tt,tt⟩,⟨tt,⟨tt,tt⟩,tt⟩,tt,tt⟩ ?_
 refine W.ret ?_
 exact endQ_ret (.i (orI ([(cmpI a.proc b.proc),(cmpI a.number b.number)]))) (by kernel_rfl) (@cast ((.int .i64 (orI ([(cmpI a.proc b.proc),(cmpI a.number b.number)])) : Value) = .int .i64 (cmpM a b)) _ (by kernel_rfl) (congrArg (Value.int .i64) (by first | rfl | simp_all)))
theorem ent29 : Entr prog 29 := ⟨_,func29,rfl,by decide⟩
end Go.Proofs.Try

set_option linter.unusedSimpArgs false
set_option linter.unusedVariables false
namespace Go.Proofs.Try
open Go.Ab Go.RowKit
def fs59 : FnS := fnS [.o] [.int] (fun _ (n,_) => (.b (!within n 0 20),[],True))
abbrev T59 : Tab := lk [(40,fs40)]
theorem tab59 : TabOK prog T59 := (TabOK.cons ok40 ent40 TabOK.nil)
set_option maxRecDepth 100000 in
set_option maxHeartbeats 1000000 in
theorem ok59 : FnOK prog 59 fs59 := by
 refine FnOK.mk cok func59 rfl rfl rfl ?_
 rintro fl ⟨(n : Int),_⟩ hpre F hnt0 _
 have hnt : F.nt = 6 := hnt0.trans ntmps59
 clear hpre
 refine W.to (⟨[(0,.i n)],[],[999]⟩) rfl ?_
 refine Kk cok tab59 hnt [] [0] (⟨[(0,.i n)],[],[999]⟩)
  (True ∧ True)
  ⟨tt,tt⟩ ?_
 refine Kk cok tab59 hnt [] [2] (⟨[(2,.b (!(within n (0 : Int) (20 : Int))))],[],[999]⟩)
  (True ∧ (True ∧ (True ∧ True ∧ True ∧ True) ∧ True) ∧ True ∧ True ∧ True)
  ⟨tt,⟨tt,⟨tt,tt,tt,tt⟩,tt⟩,tt,tt,tt⟩ ?_
 refine W.ret ?_
 exact endQ_ret (.b (!(within n (0 : Int) (20 : Int)))) (by kernel_rfl) (@cast ((.bool (!(within n (0 : Int) (20 : Int))) : Value) = .bool (!within n 0 20)) _ (by kernel_rfl) (congrArg Value.bool (by first | rfl | simp_all)))
theorem ent59 : Entr prog 59 := ⟨_,func59,rfl,by decide⟩
end Go.Proofs.Try

set_option linter.unusedSimpArgs false
set_option linter.unusedVariables false
namespace Go.Proofs.Try
open Go.Ab Go.RowKit
def fs75counts : FnS := fnS [.s .ints,.o] [.ints,(.fn0 59)] (fun _ (l,(),_) => (.i (firstI l.length (fun jj => !within (l.getD jj 0) 0 20)),[],True))
abbrev T75counts : Tab := lk [(59,fs59)]
theorem tab75counts : TabOK prog T75counts := (TabOK.cons ok59 ent59 TabOK.nil)
set_option maxRecDepth 100000 in
set_option maxHeartbeats 1000000 in
theorem ok75counts : FnOK prog 75 fs75counts := by
 refine FnOK.mk cok func75 rfl rfl rfl ?_
 rintro fl ⟨(l : List Int),⟨⟩,_⟩ hpre F hnt0 _
 have hnt : F.nt = 19 := hnt0.trans ntmps75
 clear hpre
 refine W.to (⟨[(0,.sl (.ints l)),(1,.fn 59 [])],[],[999]⟩) rfl ?_
 refine W.lenOf 0 (.ints l) (by kernel_rfl) ?_
 intro hl_l; replace hl_l : List.length l ≤ 9223372036854775807 := hl_l
 refine Kk cok tab75counts hnt [] [0,1] (⟨[(0,.sl (.ints l)),(1,.fn 59 [])],[],[999]⟩)
  (True ∧ True)
  ⟨tt,tt⟩ ?_
 refine W.seq ?_
 refine Kk cok tab75counts hnt [] [0,1,7,8] (⟨[(0,.sl (.ints l)),(1,.fn 59 []),(7,.i (l.length : Int)),(8,.i (0 : Int))],[],[999]⟩)
  (True ∧ True ∧ True ∧ True)
  ⟨tt,tt,tt,tt⟩ ?_
 refine W.block ?_
 refine W.loop (ι := Nat) (fun (i : Nat) => (⟨[(0,.sl (.ints l)),(1,.fn 59 []),(7,.i (l.length : Int)),(8,.i ((i : Nat) : Int))],[],[999]⟩ : St))
  (fun (i : Nat) => (i ≤ l.length) ∧ (∀ jj,jj < i → (!within (l.getD jj 0) 0 20) = false))
  (fun (i : Nat) => (l.length - i : Nat)) (0) ?_ ?_ ?_
 ·exact (show (0 ≤ l.length) ∧ (∀ jj,jj < 0 → (!within (l.getD jj 0) 0 20) = false) from ⟨(by first | assumption | omega | rfl | (intro _ hjj; omega) | (simp; done) | (simp; omega)),(by exact upto_zero)⟩)
 ·exact Sub.of [] (@cast (((Sd (.ints l)) ∧ (((59 : Nat) = 59) ∧ True) ∧ (Si (l.length : Int)) ∧ ((.int .i64 (0 : Int) : Value) = .int .i64 ((0 : Nat) : Int)) ∧ True) ∧ True ∧ (true = true) ∧ (true = true)) _ (by kernel_rfl) ⟨⟨rfl,⟨rfl,tt⟩,rfl,(congrArg (Value.int .i64) (by first | rfl | omega | assumption | simp | simp_all)),tt⟩,tt,rfl,rfl⟩)
 ·rintro i hC0
  have hC : (i ≤ l.length) ∧ (∀ jj,jj < i → (!within (l.getD jj 0) 0 20) = false) := hC0
  clear hC0
  obtain ⟨hi,hA⟩ := hC
  refine W.to (⟨[(0,.sl (.ints l)),(1,.fn 59 []),(7,.i (l.length : Int)),(8,.i ((i : Nat) : Int))],[],[999]⟩) rfl ?_
  refine Kk cok tab75counts hnt [] [0,1,7,8,9] (⟨[(0,.sl (.ints l)),(1,.fn 59 []),(7,.i (l.length : Int)),(8,.i ((i : Nat) : Int)),(9,.b (decide (((i : Nat) : Int) < (l.length : Int))))],[],[999]⟩)
   ((True ∧ True ∧ True) ∧ True)
   ⟨⟨tt,tt,tt⟩,tt⟩ ?_
  refine W.seq ?_
  refine W.ifP (((i : Nat) : Int) < (l.length : Int)) (.b (decide (((i : Nat) : Int) < (l.length : Int)))) (by kernel_rfl) rfl trivial ?_ ?_
  ·intro h9
   refine W.skip (thenQ_normal ?_)
   refine W.seq ?_
   refine W.block ?_
   refine Kk cok tab75counts hnt [] [0,1,5,7,8] (⟨[(0,.sl (.ints l)),(1,.fn 59 []),(5,.i ((i : Nat) : Int)),(7,.i (l.length : Int)),(8,.i ((i : Nat) : Int))],[],[999]⟩)
    (True ∧ True ∧ True)
    ⟨tt,tt,tt⟩ ?_
   refine Kk cok tab75counts hnt [] [0,1,5,7,8,16] (⟨[(0,.sl (.ints l)),(1,.fn 59 []),(5,.i ((i : Nat) : Int)),(7,.i (l.length : Int)),(8,.i ((i : Nat) : Int)),(16,.b (!within (l.getD i 0) 0 20))],[],[999]⟩)
    (True ∧ True ∧ True ∧ (True ∧ True ∧ (0 ≤ ((i : Nat) : Int)) ∧ (((i : Nat) : Int) < (l.length : Int))) ∧ True ∧ (True ∧ (True ∧ True) ∧ True) ∧ True)
    ⟨tt,tt,tt,⟨tt,tt,(by omega),(by omega)⟩,tt,⟨tt,⟨tt,tt⟩,tt⟩,tt⟩ ?_
   refine W.if' (!within (l.getD i 0) 0 20) (.b (!within (l.getD i 0) 0 20)) (by kernel_rfl) rfl trivial ?_ ?_
   ·intro h16
    refine Kk cok tab75counts hnt [] [4] (⟨[(4,.i ((i : Nat) : Int))],[],[999]⟩)
     (True ∧ True ∧ True)
     ⟨tt,tt,tt⟩ ?_
    refine W.ret (blockQ_ret (thenQ_ret (thenQ_ret (blockQ_ret (thenQ_ret ?_)))))
    exact endQ_ret (.i ((i : Nat) : Int)) (by kernel_rfl) (@cast ((.int .i64 ((i : Nat) : Int) : Value) = .int .i64 (firstI l.length (fun jj => !within (l.getD jj 0) 0 20))) _ (by kernel_rfl) (congrArg (Value.int .i64) (by exact (firstI_yes (by omega) h16 hA).symm)))
   ·intro n16
    refine W.skip (blockQ_normal (thenQ_normal ?_))
    refine Lk cok tab75counts hnt [] (⟨[(0,.sl (.ints l)),(1,.fn 59 []),(5,.i ((i : Nat) : Int)),(7,.i (l.length : Int)),(8,.i (((i + 1) : Nat) : Int)),(16,.b (!within (l.getD i 0) 0 20)),(18,.i (((i + 1) : Nat) : Int))],[],[999]⟩)
     ((True ∧ True ∧ (Fits .i64 (((i + 1) : Nat) : Int))) ∧ True ∧ True)
     ⟨⟨tt,tt,(by exact fits_i64 (by omega) (by omega))⟩,tt,tt⟩ ?_
    refine thenQ_normal ?_
    refine ⟨((i + 1)),(show ((i + 1) ≤ l.length) ∧ (∀ jj,jj < (i + 1) → (!within (l.getD jj 0) 0 20) = false) from ⟨(by first | assumption | omega | rfl | (intro _ hjj; omega) | (simp; done) | (simp; omega)),(by exact upto_succ hA n16)⟩),(show l.length - (i + 1) < l.length - i from (by first | omega | (simp_all; omega))),?_⟩
    exact Sub.of [] (@cast (((Sd (.ints l)) ∧ (((59 : Nat) = 59) ∧ True) ∧ (Si (l.length : Int)) ∧ (Si (((i + 1) : Nat) : Int)) ∧ True) ∧ True ∧ (true = true) ∧ (true = true)) _ (by kernel_rfl) ⟨⟨rfl,⟨rfl,tt⟩,rfl,rfl,tt⟩,tt,rfl,rfl⟩)
  ·intro n9
   refine W.exit (thenQ_exit (thenQ_exit (blockQ_hit ?_)))
   refine thenQ_normal ?_
   refine Kk cok tab75counts hnt [] [4] (⟨[(4,.i (-1 : Int))],[],[999]⟩)
    (True ∧ True)
    ⟨tt,tt⟩ ?_
   refine W.ret ?_
   exact endQ_ret (.i (-1 : Int)) (by kernel_rfl) (@cast ((.int .i64 (-1 : Int) : Value) = .int .i64 (firstI l.length (fun jj => !within (l.getD jj 0) 0 20))) _ (by kernel_rfl) (congrArg (Value.int .i64) (by exact (firstI_no (fun j hj => hA j (by omega))).symm)))
theorem ent75counts : Entr prog 75 := ⟨_,func75,rfl,by decide⟩
end Go.Proofs.Try

set_option linter.unusedSimpArgs false
set_option linter.unusedVariables false
namespace Go.Proofs.Try
open Go.Ab Go.RowKit
def fs58counts : FnS := fnS [.s .ints,.o] [.ints,(.fn0 59)] (fun _ (l,(),_) => (.b (anyN l.length (fun jj => !within (l.getD jj 0) 0 20)),[],True))
abbrev T58counts : Tab := lk [(75,fs75counts)]
theorem tab58counts : TabOK prog T58counts := (TabOK.cons ok75counts ent75counts TabOK.nil)
set_option maxRecDepth 100000 in
set_option maxHeartbeats 1000000 in
theorem ok58counts : FnOK prog 58 fs58counts := by
 refine FnOK.mk cok func58 rfl rfl rfl ?_
 rintro fl ⟨(l : List Int),⟨⟩,_⟩ hpre F hnt0 _
 have hnt : F.nt = 9 := hnt0.trans ntmps58
 clear hpre
 refine W.to (⟨[(0,.sl (.ints l)),(1,.fn 59 [])],[],[999]⟩) rfl ?_
 refine W.lenOf 0 (.ints l) (by kernel_rfl) ?_
 intro hl_l; replace hl_l : List.length l ≤ 9223372036854775807 := hl_l
 refine Kk cok tab58counts hnt [] [0,1] (⟨[(0,.sl (.ints l)),(1,.fn 59 [])],[],[999]⟩)
  (True ∧ True)
  ⟨tt,tt⟩ ?_
 refine Kk cok tab58counts hnt [] [4] (⟨[(4,.b (decide ((0 : Int) ≤ (firstI l.length (fun jj => !within (l.getD jj 0) 0 20)))))],[],[999]⟩)
  (True ∧ True ∧ (True ∧ (True ∧ True ∧ True) ∧ True) ∧ (True ∧ True ∧ True) ∧ True ∧ True)
  ⟨tt,tt,⟨tt,⟨tt,tt,tt⟩,tt⟩,⟨tt,tt,tt⟩,tt,tt⟩ ?_
 refine W.ret ?_
 exact endQ_ret (.b (decide ((0 : Int) ≤ (firstI l.length (fun jj => !within (l.getD jj 0) 0 20))))) (by kernel_rfl) (@cast ((.bool (decide ((0 : Int) ≤ (firstI l.length (fun jj => !within (l.getD jj 0) 0 20)))) : Value) = .bool (anyN l.length (fun jj => !within (l.getD jj 0) 0 20))) _ (by kernel_rfl) (congrArg Value.bool (by exact firstI_has _ _)))
theorem ent58counts : Entr prog 58 := ⟨_,func58,rfl,by decide⟩
end Go.Proofs.Try

set_option linter.unusedSimpArgs false
set_option linter.unusedVariables false
namespace Go.Proofs.Try
open Go.Ab Go.RowKit
def fs41 : FnS := fnS [.s .ints] [.ints] (fun _ (l,_) => (.b (countsOK l),[],True))
abbrev T41 : Tab := lk [(58,fs58counts)]
theorem tab41 : TabOK prog T41 := (TabOK.cons ok58counts ent58counts TabOK.nil)
set_option maxRecDepth 100000 in
set_option maxHeartbeats 1000000 in
theorem ok41 : FnOK prog 41 fs41 := by
 refine FnOK.mk cok func41 rfl rfl rfl ?_
 rintro fl ⟨(l : List Int),_⟩ hpre F hnt0 _
 have hnt : F.nt = 11 := hnt0.trans ntmps41
 clear hpre
 refine W.to (⟨[(0,.sl (.ints l))],[],[999]⟩) rfl ?_
 refine W.lenOf 0 (.ints l) (by kernel_rfl) ?_
 intro hl_l; replace hl_l : List.length l ≤ 9223372036854775807 := hl_l
 refine Kk cok tab41 hnt [] [0] (⟨[(0,.sl (.ints l))],[],[999]⟩)
  (True ∧ True)
  ⟨tt,tt⟩ ?_
 refine Kk cok tab41 hnt [] [2] (⟨[(2,.b ((decide ((l.length : Int) = (3 : Int))) && (!(anyN l.length (fun jj => !within (l.getD jj 0) 0 20)))))],[],[999]⟩)
  ((fun (Z1:Bool)=>(True ∧ (True ∧ ((True ∧ (True ∧ True)) ∧ (True ∧ ((Z1 = true → True) ∧ ((Z1 = true → (True ∧ ((((Z1 = true) ∧ True) ∧ (True ∧ True)) ∧ True))) ∧ ((Z1 = true → ((Z1 = true) ∧ True)) ∧ ((True ∧ ((Z1 = true → (Z1 = true) ∧ True) ∧ (Z1 = false → True))) ∧ (True ∧ True)))))))))) (decide ((l.length : Int) = (3 : Int))))
  ⟨tt,tt,⟨tt,tt,tt⟩,tt,(fun _ => trivial),(fun hG => ⟨tt,⟨⟨hG,tt⟩,tt,tt⟩,tt⟩),(fun hG => ⟨hG,tt⟩),⟨tt,(fun hp => ⟨hp,tt⟩),(fun _ => trivial)⟩,tt,tt⟩ ?_
 refine W.ret ?_
 exact endQ_ret (.b ((decide ((l.length : Int) = (3 : Int))) && (!(anyN l.length (fun jj => !within (l.getD jj 0) 0 20))))) (by kernel_rfl) (@cast ((.bool ((decide ((l.length : Int) = (3 : Int))) && (!(anyN l.length (fun jj => !within (l.getD jj 0) 0 20)))) : Value) = .bool (countsOK l)) _ (by kernel_rfl) (congrArg Value.bool (by exact counts_impl l)))
theorem ent41 : Entr prog 41 := ⟨_,func41,rfl,by decide⟩
end Go.Proofs.Try

set_option linter.unusedSimpArgs false
set_option linter.unusedVariables false
namespace Go.Proofs.Try
open Go.Ab Go.RowKit
def fs13 : FnS := fnS [.a [some .ints,some .ints,none,none,none,some .marks]] [.copy] (fun _ (c,_) => (.b (validCopy c),[],True))
abbrev T13 : Tab := lk [(29,fs29),(39,fs39),(40,fs40),(41,fs41)]
theorem tab13 : TabOK prog T13 := (TabOK.cons ok29 ent29 (TabOK.cons ok39 ent39 (TabOK.cons ok40 ent40 (TabOK.cons ok41 ent41 TabOK.nil))))
set_option maxRecDepth 100000 in
set_option maxHeartbeats 1000000 in
theorem ok13 : FnOK prog 13 fs13 := by
 refine FnOK.mk cok func13 rfl rfl rfl ?_
 rintro fl ⟨(c : CopyD),_⟩ hpre F hnt0 _
 have hnt : F.nt = 78 := hnt0.trans ntmps13
 clear hpre
 refine W.to (⟨[(0,.agg (cC c))],[],[999]⟩) rfl ?_
 refine W.lenA 0 0 (cC c) (.ints c.up) (by kernel_rfl) (by kernel_rfl) ?_
 intro hl_c_up; replace hl_c_up : List.length c.up ≤ 9223372036854775807 := hl_c_up
 refine W.lenA 0 1 (cC c) (.ints c.down) (by kernel_rfl) (by kernel_rfl) ?_
 intro hl_c_down; replace hl_c_down : List.length c.down ≤ 9223372036854775807 := hl_c_down
 refine W.lenA 0 5 (cC c) (.marks c.marks) (by kernel_rfl) (by kernel_rfl) ?_
 intro hl_c_marks; replace hl_c_marks : List.length c.marks ≤ 9223372036854775807 := hl_c_marks
 refine Kk cok tab13 hnt [] [1] (⟨[(1,.ptr 1 0)],[(1,⟨26,.fix (cC c)⟩)],[1,999]⟩)
  (True ∧ True ∧ True)
  ⟨tt,tt,tt⟩ ?_
 refine W.seq ?_
 refine Kk cok tab13 hnt [] [1,7,8,9] (⟨[(1,.ptr 1 0),(7,.sl (.marks c.marks)),(8,.i (((List.length c.marks) : Nat) : Int)),(9,.i (0 : Int))],[(1,⟨26,.fix (cC c)⟩)],[1,999]⟩)
  (True ∧ True ∧ True ∧ True ∧ True)
  ⟨tt,tt,tt,tt,tt⟩ ?_
 refine W.block ?_
 refine W.loop (ι := Nat) (fun (i : Nat) => (⟨[(1,.ptr 1 0),(7,.sl (.marks c.marks)),(8,.i (((List.length c.marks) : Nat) : Int)),(9,.i ((i : Nat) : Int))],[(1,⟨26,.fix (cC c)⟩)],[1,999]⟩ : St))
  (fun (i : Nat) => (i ≤ c.marks.length) ∧ (∀ j,j < i → markOK c.marks j = true))
  (fun (i : Nat) => (c.marks.length - i : Nat)) (0) ?_ ?_ ?_
 ·exact (show (0 ≤ c.marks.length) ∧ (∀ j,j < 0 → markOK c.marks j = true) from ⟨(by first | assumption | omega | rfl | (intro _ hjj; omega) | (simp; done) | (simp; omega)),(by exact upto_zero)⟩)
 ·exact Sub.of [] (@cast (((((1 : Nat) = 1) ∧ ((0 : Nat) = 0) ∧ ((1 : Nat) ∈ ([1,999] : List Nat))) ∧ (Sd (.marks c.marks)) ∧ (Si (((List.length c.marks) : Nat) : Int)) ∧ ((.int .i64 (0 : Int) : Value) = .int .i64 ((0 : Nat) : Int)) ∧ True) ∧ ((((26 : Nat) = 26) ∧ (Sc c) ∧ ((1 : Nat) ∈ ([1,999] : List Nat))) ∧ True) ∧ (true = true) ∧ (true = true)) _ (by kernel_rfl) ⟨⟨⟨rfl,rfl,(by decide)⟩,rfl,rfl,(congrArg (Value.int .i64) (by first | rfl | omega | assumption | simp | simp_all)),tt⟩,⟨⟨rfl,⟨rfl,rfl,rfl,rfl,rfl,rfl,tt⟩,(by decide)⟩,tt⟩,rfl,rfl⟩)
 ·rintro i hC0
  have hC : (i ≤ c.marks.length) ∧ (∀ j,j < i → markOK c.marks j = true) := hC0
  clear hC0
  obtain ⟨hi,hA⟩ := hC
  refine W.to (⟨[(1,.ptr 1 0),(7,.sl (.marks c.marks)),(8,.i (((List.length c.marks) : Nat) : Int)),(9,.i ((i : Nat) : Int))],[(1,⟨26,.fix (cC c)⟩)],[1,999]⟩) rfl ?_
  refine Kk cok tab13 hnt [] [1,7,8,9,10] (⟨[(1,.ptr 1 0),(7,.sl (.marks c.marks)),(8,.i (((List.length c.marks) : Nat) : Int)),(9,.i ((i : Nat) : Int)),(10,.b (decide (((i : Nat) : Int) < (((List.length c.marks) : Nat) : Int))))],[(1,⟨26,.fix (cC c)⟩)],[1,999]⟩)
   ((True ∧ True ∧ True) ∧ True)
   ⟨⟨tt,tt,tt⟩,tt⟩ ?_
  refine W.seq ?_
  refine W.ifP (((i : Nat) : Int) < (((List.length c.marks) : Nat) : Int)) (.b (decide (((i : Nat) : Int) < (((List.length c.marks) : Nat) : Int)))) (by kernel_rfl) rfl trivial ?_ ?_
  ·intro h10
   refine W.skip (thenQ_normal ?_)
   refine W.seq ?_
   refine W.block ?_
   refine Kk cok tab13 hnt [] [1,3,4,7,8,9] (⟨[(1,.ptr 1 0),(3,.i ((i : Nat) : Int)),(4,.ptr 4 0),(7,.sl (.marks c.marks)),(8,.i (((List.length c.marks) : Nat) : Int)),(9,.i ((i : Nat) : Int))],[(1,⟨26,.fix (cC c)⟩),(4,⟨33,.fix [.i ((List.getD c.marks i default).value),.i ((List.getD c.marks i default).proc),.i ((List.getD c.marks i default).number),.b ((List.getD c.marks i default).gone)]⟩)],[4,1,999]⟩)
    (True ∧ (True ∧ True ∧ (0 ≤ ((i : Nat) : Int)) ∧ (((i : Nat) : Int) < (((List.length c.marks) : Nat) : Int))) ∧ True ∧ True ∧ True ∧ (True ∧ True) ∧ True)
    ⟨tt,⟨tt,tt,(by omega),(by omega)⟩,tt,tt,tt,⟨tt,tt⟩,tt⟩ ?_
   refine W.KA cok tab13 hnt [] [1,7,8,9,31] (⟨[(1,.ptr 1 0),(7,.sl (.marks c.marks)),(8,.i (((List.length c.marks) : Nat) : Int)),(9,.i ((i : Nat) : Int)),(31,.b ((!(isMark (List.getD c.marks i default))) || ((decide ((0 : Int) < ((i : Nat) : Int))) && (decide ((0 : Int) ≤ (cmpM (List.getD c.marks (Int.toNat (((i : Nat) : Int) - (1 : Int))) default) (List.getD c.marks i default)))))))],[(1,⟨26,.fix (cC c)⟩),(4,⟨33,.fix [.i ((List.getD c.marks i default).value),.i ((List.getD c.marks i default).proc),.i ((List.getD c.marks i default).number),.b ((List.getD c.marks i default).gone)]⟩)],[4,1,999]⟩)
    ((fun (Z1:Bool)=>((fun (Z2:Bool)=>((fun (Z3:Bool)=>((fun (Z4:Bool)=>(True ∧ ((True ∧ ((True ∧ True) ∧ True)) ∧ (True ∧ (True ∧ ((Z3 = true → True) ∧ ((Z3 = true → (((Z3 = true) ∧ True) ∧ (True ∧ True))) ∧ ((Z3 = true → True) ∧ ((Z4 = true → True) ∧ ((Z4 = true → ((Z4 = true) ∧ True)) ∧ ((Z4 = true → True) ∧ ((Z4 = true → (((Z4 = true) ∧ True) ∧ (True ∧ (Fits .i64 (((i : Nat) : Int) - (1 : Int)))))) ∧ ((Z4 = true → (((Z4 = true) ∧ True) ∧ (((Z4 = true) ∧ True) ∧ ((0 ≤ (((i : Nat) : Int) - (1 : Int))) ∧ ((((i : Nat) : Int) - (1 : Int)) < (((List.length c.marks) : Nat) : Int)))))) ∧ ((Z4 = true → ((Z4 = true) ∧ True)) ∧ ((Z4 = true → True) ∧ ((Z4 = true → (True ∧ ((((Z4 = true) ∧ True) ∧ (((Z4 = true) ∧ True) ∧ True)) ∧ True))) ∧ ((Z4 = true → (((Z4 = true) ∧ True) ∧ (True ∧ True))) ∧ ((Z3 = true → (((Z3 = true) ∧ ((Z3 = true) ∧ True)) ∧ ((Z1 = true → (Z4 = true) ∧ True) ∧ (Z1 = false → True)))) ∧ ((True ∧ ((Z2 = true → True) ∧ (Z2 = false → (Z3 = true) ∧ True))) ∧ True))))))))))))))))))) (Z3 && (Z3 && Z1)))) (!Z2))) (!(isMark (List.getD c.marks i default))))) (decide ((0 : Int) < ((i : Nat) : Int)))) (by kernel_rfl) (by kernel_rfl)
    ⟨tt,⟨tt,⟨tt,tt⟩,tt⟩,tt,tt,(fun _ => trivial),(fun hG => ⟨⟨hG,tt⟩,tt,tt⟩),(fun _ => trivial),(fun _ => trivial),(fun hG => ⟨hG,tt⟩),(fun _ => trivial),(fun hG => ⟨⟨hG,tt⟩,tt,(by have hg0 : (0 : Int) < ((i : Nat) : Int) := of_decide_eq_true (and_r (and_r hG)); exact fits_i64 (by omega) (by omega))⟩),(fun hG => ⟨⟨hG,tt⟩,⟨hG,tt⟩,(by have hg0 : (0 : Int) < ((i : Nat) : Int) := of_decide_eq_true (and_r (and_r hG)); omega),(by have hg0 : (0 : Int) < ((i : Nat) : Int) := of_decide_eq_true (and_r (and_r hG)); omega)⟩),(fun hG => ⟨hG,tt⟩),(fun _ => trivial),(fun hG => ⟨tt,⟨⟨hG,tt⟩,⟨hG,tt⟩,tt⟩,tt⟩),(fun hG => ⟨⟨hG,tt⟩,tt,tt⟩),(fun hG => ⟨⟨hG,hG,tt⟩,(fun hp => ⟨(and_t hG (and_t hG hp)),tt⟩),(fun _ => trivial)⟩),⟨tt,(fun _ => trivial),(fun hp => ⟨(not_t hp),tt⟩)⟩,tt⟩ ?_
   refine W.if' ((!(isMark (List.getD c.marks i default))) || ((decide ((0 : Int) < ((i : Nat) : Int))) && (decide ((0 : Int) ≤ (cmpM (List.getD c.marks (Int.toNat (((i : Nat) : Int) - (1 : Int))) default) (List.getD c.marks i default)))))) (.b ((!(isMark (List.getD c.marks i default))) || ((decide ((0 : Int) < ((i : Nat) : Int))) && (decide ((0 : Int) ≤ (cmpM (List.getD c.marks (Int.toNat (((i : Nat) : Int) - (1 : Int))) default) (List.getD c.marks i default))))))) (by kernel_rfl) rfl trivial ?_ ?_
   ·intro h31
    refine Kk cok tab13 hnt [] [2] (⟨[(2,.b false)],[(1,⟨26,.fix (cC c)⟩),(4,⟨33,.fix [.i ((List.getD c.marks i default).value),.i ((List.getD c.marks i default).proc),.i ((List.getD c.marks i default).number),.b ((List.getD c.marks i default).gone)]⟩)],[4,1,999]⟩)
     (True ∧ True)
     ⟨tt,tt⟩ ?_
    refine W.ret (blockQ_ret (thenQ_ret (thenQ_ret (blockQ_ret (thenQ_ret ?_)))))
    exact endQ_ret (.b false) (by kernel_rfl) (@cast ((.bool false : Value) = .bool (validCopy c)) _ (by kernel_rfl) (congrArg Value.bool (by rw [show ((i : Int) - 1).toNat = i - 1 by omega,cmpM_less] at h31; exact (valid_marks (mark_bad (i := i) (by omega) (markI_no h31))).symm)))
   ·intro n31
    refine W.skip (blockQ_normal (thenQ_normal ?_))
    refine Lk cok tab13 hnt [] (⟨[(1,.ptr 1 0),(7,.sl (.marks c.marks)),(8,.i (((List.length c.marks) : Nat) : Int)),(9,.i (((i + 1) : Nat) : Int)),(31,.b ((!(isMark (List.getD c.marks i default))) || ((decide ((0 : Int) < ((i : Nat) : Int))) && (decide ((0 : Int) ≤ (cmpM (List.getD c.marks (Int.toNat (((i : Nat) : Int) - (1 : Int))) default) (List.getD c.marks i default))))))),(32,.i (((i + 1) : Nat) : Int))],[(1,⟨26,.fix (cC c)⟩),(4,⟨33,.fix [.i ((List.getD c.marks i default).value),.i ((List.getD c.marks i default).proc),.i ((List.getD c.marks i default).number),.b ((List.getD c.marks i default).gone)]⟩)],[4,1,999]⟩)
     ((True ∧ True ∧ (Fits .i64 (((i + 1) : Nat) : Int))) ∧ True ∧ True)
     ⟨⟨tt,tt,(by exact fits_i64 (by omega) (by omega))⟩,tt,tt⟩ ?_
    refine thenQ_normal ?_
    refine ⟨((i + 1)),(show ((i + 1) ≤ c.marks.length) ∧ (∀ j,j < (i + 1) → markOK c.marks j = true) from ⟨(by first | assumption | omega | rfl | (intro _ hjj; omega) | (simp; done) | (simp; omega)),(by rw [show ((i : Int) - 1).toNat = i - 1 by omega,cmpM_less] at n31; exact upto_succ hA (markI_ok n31))⟩),(show c.marks.length - (i + 1) < c.marks.length - i from (by first | omega | (simp_all; omega))),?_⟩
    exact Sub.of [] (@cast (((((1 : Nat) = 1) ∧ ((0 : Nat) = 0) ∧ ((1 : Nat) ∈ ([1,999] : List Nat))) ∧ (Sd (.marks c.marks)) ∧ (Si (((List.length c.marks) : Nat) : Int)) ∧ (Si (((i + 1) : Nat) : Int)) ∧ True) ∧ ((((26 : Nat) = 26) ∧ (Sc c) ∧ ((1 : Nat) ∈ ([1,999] : List Nat))) ∧ True) ∧ (true = true) ∧ (true = true)) _ (by kernel_rfl) ⟨⟨⟨rfl,rfl,(by decide)⟩,rfl,rfl,rfl,tt⟩,⟨⟨rfl,⟨rfl,rfl,rfl,rfl,rfl,rfl,tt⟩,(by decide)⟩,tt⟩,rfl,rfl⟩)
  ·intro n10
   refine W.exit (thenQ_exit (thenQ_exit (blockQ_hit ?_)))
   refine thenQ_normal ?_
   refine Kk cok tab13 hnt [] [1,5] (⟨[(1,.ptr 1 0),(5,.b ((((within c.value (0 : Int) (3 : Int)) && (within c.time (0 : Int) (30 : Int))) && (within c.proc (0 : Int) (2 : Int))) && ((decide ((0 : Int) < c.time)) || ((decide (c.value = (0 : Int))) && (decide (c.proc = (0 : Int)))))))],[(1,⟨26,.fix (cC c)⟩)],[1,999]⟩)
    ((fun (Z1:Bool)=>((fun (Z2:Bool)=>((fun (Z3:Bool)=>((fun (Z4:Bool)=>((fun (Z5:Bool)=>((fun (Z6:Bool)=>((fun (Z7:Bool)=>(True ∧ (True ∧ ((True ∧ ((True ∧ (True ∧ (True ∧ True))) ∧ True)) ∧ (True ∧ ((Z3 = true → True) ∧ ((Z3 = true → ((Z3 = true) ∧ True)) ∧ ((Z3 = true → (True ∧ ((((Z3 = true) ∧ True) ∧ (True ∧ (True ∧ True))) ∧ True))) ∧ ((True ∧ ((Z3 = true → (Z3 = true) ∧ True) ∧ (Z3 = false → True))) ∧ (True ∧ ((Z4 = true → True) ∧ ((Z4 = true → ((Z4 = true) ∧ True)) ∧ ((Z4 = true → (True ∧ ((((Z4 = true) ∧ True) ∧ (True ∧ (True ∧ True))) ∧ True))) ∧ ((True ∧ ((Z4 = true → (Z4 = true) ∧ True) ∧ (Z4 = false → True))) ∧ (True ∧ ((Z5 = true → True) ∧ ((Z5 = true → ((Z5 = true) ∧ True)) ∧ ((Z5 = true → (((Z5 = true) ∧ True) ∧ (True ∧ True))) ∧ ((Z5 = true → True) ∧ ((Z6 = true → True) ∧ ((Z6 = true → ((Z6 = true) ∧ True)) ∧ ((Z6 = true → (((Z6 = true) ∧ True) ∧ (True ∧ True))) ∧ ((Z6 = true → True) ∧ ((Z7 = true → True) ∧ ((Z7 = true → ((Z7 = true) ∧ True)) ∧ ((Z7 = true → (((Z7 = true) ∧ True) ∧ (True ∧ True))) ∧ ((Z6 = true → (((Z6 = true) ∧ ((Z6 = true) ∧ True)) ∧ ((Z2 = true → (Z7 = true) ∧ True) ∧ (Z2 = false → True)))) ∧ ((Z5 = true → (((Z5 = true) ∧ ((Z5 = true) ∧ True)) ∧ ((Z1 = true → True) ∧ (Z1 = false → (Z6 = true) ∧ True)))) ∧ ((True ∧ ((Z5 = true → (Z5 = true) ∧ True) ∧ (Z5 = false → True))) ∧ (True ∧ True)))))))))))))))))))))))))))))) (Z6 && (Z6 && Z2)))) (Z5 && (Z5 && (!Z1))))) (Z4 && (within c.proc (0 : Int) (2 : Int))))) (Z3 && (within c.time (0 : Int) (30 : Int))))) (within c.value (0 : Int) (3 : Int)))) (decide (c.value = (0 : Int))))) (decide ((0 : Int) < c.time)))
    ⟨tt,tt,⟨tt,⟨tt,tt,tt,tt⟩,tt⟩,tt,(fun _ => trivial),(fun hG => ⟨hG,tt⟩),(fun hG => ⟨tt,⟨⟨hG,tt⟩,tt,tt,tt⟩,tt⟩),⟨tt,(fun hp => ⟨hp,tt⟩),(fun _ => trivial)⟩,tt,(fun _ => trivial),(fun hG => ⟨hG,tt⟩),(fun hG => ⟨tt,⟨⟨hG,tt⟩,tt,tt,tt⟩,tt⟩),⟨tt,(fun hp => ⟨hp,tt⟩),(fun _ => trivial)⟩,tt,(fun _ => trivial),(fun hG => ⟨hG,tt⟩),(fun hG => ⟨⟨hG,tt⟩,tt,tt⟩),(fun _ => trivial),(fun _ => trivial),(fun hG => ⟨hG,tt⟩),(fun hG => ⟨⟨hG,tt⟩,tt,tt⟩),(fun _ => trivial),(fun _ => trivial),(fun hG => ⟨hG,tt⟩),(fun hG => ⟨⟨hG,tt⟩,tt,tt⟩),(fun hG => ⟨⟨hG,hG,tt⟩,(fun hp => ⟨(and_t hG (and_t hG hp)),tt⟩),(fun _ => trivial)⟩),(fun hG => ⟨⟨hG,hG,tt⟩,(fun _ => trivial),(fun hp => ⟨(and_t hG (and_t hG (not_t hp))),tt⟩)⟩),⟨tt,(fun hp => ⟨hp,tt⟩),(fun _ => trivial)⟩,tt,tt⟩ ?_
   refine Kk cok tab13 hnt [] [2] (⟨[(2,.b ((((countsOK c.up) && (countsOK c.down)) && ((((within c.value (0 : Int) (3 : Int)) && (within c.time (0 : Int) (30 : Int))) && (within c.proc (0 : Int) (2 : Int))) && ((decide ((0 : Int) < c.time)) || ((decide (c.value = (0 : Int))) && (decide (c.proc = (0 : Int))))))) && (decide ((((List.length c.marks) : Nat) : Int) ≤ (20 : Int)))))],[(1,⟨26,.fix (cC c)⟩)],[1,999]⟩)
    ((fun (Z1:Bool)=>((fun (Z2:Bool)=>((fun (Z3:Bool)=>(True ∧ (True ∧ ((True ∧ ((True ∧ True) ∧ True)) ∧ (True ∧ ((Z1 = true → True) ∧ ((Z1 = true → ((Z1 = true) ∧ True)) ∧ ((Z1 = true → (True ∧ ((((Z1 = true) ∧ True) ∧ True) ∧ True))) ∧ ((True ∧ ((Z1 = true → (Z1 = true) ∧ True) ∧ (Z1 = false → True))) ∧ (True ∧ ((Z2 = true → True) ∧ ((True ∧ ((Z2 = true → (Z2 = true) ∧ True) ∧ (Z2 = false → True))) ∧ (True ∧ ((Z3 = true → True) ∧ ((Z3 = true → ((Z3 = true) ∧ True)) ∧ ((Z3 = true → ((Z3 = true) ∧ True)) ∧ ((Z3 = true → (((Z3 = true) ∧ True) ∧ (True ∧ True))) ∧ ((True ∧ ((Z3 = true → (Z3 = true) ∧ True) ∧ (Z3 = false → True))) ∧ (True ∧ True))))))))))))))))))) (Z2 && ((((within c.value (0 : Int) (3 : Int)) && (within c.time (0 : Int) (30 : Int))) && (within c.proc (0 : Int) (2 : Int))) && ((decide ((0 : Int) < c.time)) || ((decide (c.value = (0 : Int))) && (decide (c.proc = (0 : Int))))))))) (Z1 && (countsOK c.down)))) (countsOK c.up))
    ⟨tt,tt,⟨tt,⟨tt,tt⟩,tt⟩,tt,(fun _ => trivial),(fun hG => ⟨hG,tt⟩),(fun hG => ⟨tt,⟨⟨hG,tt⟩,tt⟩,tt⟩),⟨tt,(fun hp => ⟨hp,tt⟩),(fun _ => trivial)⟩,tt,(fun _ => trivial),⟨tt,(fun hp => ⟨hp,tt⟩),(fun _ => trivial)⟩,tt,(fun _ => trivial),(fun hG => ⟨hG,tt⟩),(fun hG => ⟨hG,tt⟩),(fun hG => ⟨⟨hG,tt⟩,tt,tt⟩),⟨tt,(fun hp => ⟨hp,tt⟩),(fun _ => trivial)⟩,tt,tt⟩ ?_
   refine W.ret ?_
   exact endQ_ret (.b ((((countsOK c.up) && (countsOK c.down)) && ((((within c.value (0 : Int) (3 : Int)) && (within c.time (0 : Int) (30 : Int))) && (within c.proc (0 : Int) (2 : Int))) && ((decide ((0 : Int) < c.time)) || ((decide (c.value = (0 : Int))) && (decide (c.proc = (0 : Int))))))) && (decide ((((List.length c.marks) : Nat) : Int) ≤ (20 : Int))))) (by kernel_rfl) (@cast ((.bool ((((countsOK c.up) && (countsOK c.down)) && ((((within c.value (0 : Int) (3 : Int)) && (within c.time (0 : Int) (30 : Int))) && (within c.proc (0 : Int) (2 : Int))) && ((decide ((0 : Int) < c.time)) || ((decide (c.value = (0 : Int))) && (decide (c.proc = (0 : Int))))))) && (decide ((((List.length c.marks) : Nat) : Int) ≤ (20 : Int)))) : Value) = .bool (validCopy c)) _ (by kernel_rfl) (congrArg Value.bool (by exact valid_impl (allN_true (fun j hj => hA j (by omega))))))
theorem ent13 : Entr prog 13 := ⟨_,func13,rfl,by decide⟩
end Go.Proofs.Try

namespace Go.Ab
open Go.RowKit Go.Shelf Go.Proofs
theorem elem_ints (l : List Int) (k : Nat) : (Dat.ints l).elem k = [.v (.int .i64 (l.getD k 0))] := rfl
end Go.Ab

namespace Go.Ab
open Go.RowKit Go.Shelf Go.Proofs
theorem clone_post {w w' : World} {T : Nat → Prop} {t : TypeId} {l : List Int} {v' : Value} (hown : w'.ownsRow w.heap.size t 1 v' l.length (l.map (Value.int .i64))) (hb : Below w.heap.size w w') :
  ∃ β',PostF w T none w' β' (.own 0 l.length) [(t,.ints l)] v' := by
 obtain ⟨_,h⟩ := hown
 rcases h with ⟨rfl,hn⟩ | ⟨g,cap,cur,rfl,hg,hcell,hlen,hcap,hsz,htake⟩
 ·refine ⟨fun k => if k = 0 then some .nil else none,hb.os,hb.tape,hb.output,hb.size,fun b hb' _ => hb.block b hb',?_,?_,?_,?_,?_⟩
  ·simp only [Rep]; exact Or.inl ⟨rfl,hn,rfl⟩
  ·intro k c hk
   cases k with
   | succ k => simp [rowsHeap] at hk
   | zero =>
    simp only [rowsHeap,List.getElem?_cons_zero,Option.map_some,Option.some.injEq] at hk
    subst hk
    simp only [LocOK,CellsOK]
    exact .inl ⟨rfl,hn⟩
  ·intro k k' c c' g1 cap1 cap2 e1 e2 hb1 _
   by_cases hk : k = 0
   ·rw [hk] at hb1; simp at hb1
   ·rw [if_neg hk] at hb1; cases hb1
  ·intro k c g1 cap1 _ hb1
   by_cases hk : k = 0
   ·rw [hk] at hb1; simp at hb1
   ·rw [if_neg hk] at hb1; cases hb1
  ·intro k p hp
   by_cases hk : k = 0
   ·subst hk; simp
   ·rw [if_neg hk] at hp; cases hp
 ·refine ⟨fun k => if k = 0 then some (.blk g cap) else none,hb.os,hb.tape,hb.output,hb.size,fun b hb' _ => hb.block b hb',?_,?_,?_,?_,?_⟩
  ·simp only [Rep,OwnRep]; exact .inr ⟨g,cap,rfl,hlen,rfl⟩
  ·intro k c hk
   cases k with
   | succ k => simp [rowsHeap] at hk
   | zero =>
    simp only [rowsHeap,List.getElem?_cons_zero,Option.map_some,Option.some.injEq] at hk
    subst hk
    simp only [LocOK,CellsOK]
    refine .inr ⟨g,cap,cur,rfl,hcell,hlen,hcap,hsz,?_⟩
    intro k jj x hk hx
    have hk' : k < l.length := hk
    rw [elem_ints] at hx
    cases jj with
    | succ jj => simp at hx
    | zero =>
     simp only [List.getElem?_cons_zero,Option.some.injEq] at hx
     subst hx
     refine ⟨.int .i64 (l.getD k 0),?_,by simp only [Rep]⟩
     have e1 : (cur.toList.take (l.length * 1))[k]? = some (.int .i64 (l.getD k 0)) := by
      rw [htake,List.getElem?_map,List.getElem?_eq_getElem hk']
      simp [List.getD_eq_getElem?_getD,hk']
     rw [List.getElem?_take,if_pos (by omega)] at e1
     simpa [Dat.esz] using e1
  ·intro k k' c c' g1 cap1 cap2 e1 e2 _ _
   cases k with
   | succ k => simp [rowsHeap] at e1
   | zero =>
    cases k' with
    | succ k' => simp [rowsHeap] at e2
    | zero => rfl
  ·intro k c g1 cap1 _ hb1
   by_cases hk : k = 0
   ·subst hk
    simp only [if_true,Option.some.injEq,Bl.blk.injEq] at hb1
    right; omega
   ·rw [if_neg hk] at hb1; cases hb1
  ·intro k p hp
   by_cases hk : k = 0
   ·subst hk; simp
   ·rw [if_neg hk] at hp; cases hp
theorem clone_core {P : Program} {ρ : Ren} (L : Lays2.n15 P ρ) (l : List Int) (hbig : l.length * 8 ≤ 140737488355328) (w : World) (T : Nat → Prop) (vals : List Value) (bC : Option Nat)
  (hargs : ArgsRep w T [.s .ints] [.sl (.ints l)] vals bC) :
  Calls P (ρ.f 15) vals.toArray w fun en w' => ∃ y β',en = .returned y ∧ PostF w T bC w' β' (.own 0 (List.length l)) [(ρ.t 3,.ints l)] y := by
 match vals,hargs with
 | [y0],h =>
  simp only [ArgsRep] at h
  obtain ⟨h1,rfl⟩ := h
  simp only [Rep,SlRep,FlatRep] at h1
  obtain ⟨a,c,rfl,hlc,hcm,hd⟩ := h1
  cases l with
  | nil =>
   cases a with
   | none =>
    refine (Any.slices_Clone_int_nil L 0 c w).mono ?_
    rintro e w' ⟨rfl,rfl⟩
    obtain ⟨β',h⟩ := clone_post (T := T) (t := ρ.t 3) (l := []) (World.ownsRow_nil w' w'.heap.size (ρ.t 3) 1) (Below.refl w'.heap.size w')
    exact ⟨_,β',rfl,h⟩
   | some ad =>
    refine (Any.slices_Clone_int_zero L ad c w).mono ?_
    rintro e w' ⟨v',rfl,hown,_,hb⟩
    obtain ⟨β',h⟩ := clone_post (T := T) (t := ρ.t 3) (l := []) hown hb
    exact ⟨_,β',rfl,h⟩
  | cons x0 l0 =>
   rcases hd with hd | ⟨ad,rfl,hT,hc⟩
   ·simp at hd
   ·have hcc : ∀ k,k < (x0 :: l0).length → w.cell? (ad.add k) = some (.int .i64 ((x0 :: l0).getD k 0)) := fun k hk => by
     have := hc k 0 _ hk (show ((Dat.ints (x0 :: l0)).flat k)[0]? = some (.int .i64 ((x0 :: l0).getD k 0)) from rfl)
     simpa using this
    obtain ⟨b,off,sp⟩ := ad
    cases sp with
    | some s0 =>
     have := hcc 0 (by simp)
     rw [Addr.add_zero'] at this
     unfold World.cell? at this
     simp at this
     split at this <;> cases this
    | none =>
     refine (Any.slices_Clone_int L b off (x0 :: l0).length c (x0 :: l0) w (Nat.le_refl _) hbig (fun j hj => by
      have := hcc j hj
      rwa [Addr.add_lit] at this)).mono ?_
     rintro e w' ⟨v',rfl,hown,_,hb⟩
     rw [List.take_length] at hown
     obtain ⟨β',h⟩ := clone_post (T := T) (t := ρ.t 3) (l := x0 :: l0) hown hb
     exact ⟨_,β',rfl,h⟩
theorem clone_ok {P : Program} {ρ : Ren} (L : Lays2.n15 P ρ) :
  FnOK P (ρ.f 15) (fnS [.s .ints] [.ints] (fun _ (l,_) => (.own 0 (List.length l),[(ρ.t 3,.ints l)],List.length l * 8 ≤ 140737488355328))) := by
 intro fl args r rows φ hg hφ w T vals bC hT hargs
 simp only [fnS] at hg
 split at hg
 ·rename_i a ha
  simp only [Option.some.injEq] at hg
  have hx := decL_encL ha
  subst hx
  obtain ⟨l,u⟩ := a
  simp only [Prod.mk.injEq] at hg
  obtain ⟨rfl,rfl,rfl⟩ := hg
  exact clone_core L l hφ w T vals bC hargs
 ·cases hg
end Go.Ab

set_option linter.unusedSimpArgs false
set_option linter.unusedVariables false
namespace Go.Proofs.Try
open Go.Ab Go.RowKit Go.Shelf Go.Proofs
def fs48 : FnS := fnS [.s .ints] [.ints] (fun _ (l,_) => (.own 0 l.length,[(3,.ints l)],(l.length * 8 ≤ 140737488355328)))
def ren15 : Go.Shelf.Ren := ⟨fun _ => 48,fun k => bif Nat.beq k 22 then 23 else bif Nat.beq k 3 then 3 else bif Nat.beq k 4 then 4 else k,fun k => k⟩
set_option maxRecDepth 100000 in
theorem lays15 : Lays2.n15 prog ren15 where
 mixed := by kernel_rfl
 f15 := by kernel_rfl
 t3 := underlying3
 a3 := isAgg3
 z3 := sizeOf3
 v3 := zeroValue3
 t4 := underlying4
 a4 := isAgg4
 z4 := sizeOf4
 v4 := zeroValue4
 t22 := underlying23
 a22 := isAgg23
 z22 := sizeOf23
 v22 := zeroValue23
 i3 := by kernel_rfl
theorem ok48 : FnOK prog 48 fs48 := clone_ok lays15
theorem ent48 : Entr prog 48 := ⟨_,func48,rfl,by decide⟩
end Go.Proofs.Try

set_option linter.unusedSimpArgs false
set_option linter.unusedVariables false
namespace Go.Proofs.Try
open Go.Ab Go.RowKit
def fs49 : FnS := fnS [.s .marks] [.marks] (fun _ (l,_) => (.own 0 l.length,[(33,.marks l)],(l.length ≤ 1000)))
abbrev T49 : Tab := lk []
theorem tab49 : TabOK prog T49 := TabOK.nil
set_option maxRecDepth 100000 in
set_option maxHeartbeats 1000000 in
theorem ok49 : FnOK prog 49 fs49 := by
 refine FnOK.mk cok func49 rfl rfl rfl ?_
 rintro fl ⟨(l : List MarkD),_⟩ hpre F hnt0 _
 have hnt : F.nt = 8 := hnt0.trans ntmps49
 replace hpre : (l.length ≤ 1000) := hpre
 have hl := hpre
 refine W.to (⟨[(0,.sl (.marks l))],[],[999]⟩) rfl ?_
 refine W.lenOf 0 (.marks l) (by kernel_rfl) ?_
 intro hl_l; replace hl_l : List.length l ≤ 9223372036854775807 := hl_l
 refine Kk cok tab49 hnt [] [0] (⟨[(0,.sl (.marks l))],[],[999]⟩)
  (True ∧ True)
  ⟨tt,tt⟩ ?_
 refine W.seq ?_
 refine W.seq (W.wi ?_)
 refine WI.runT cok tab49 hnt [] 1 1 (⟨[(0,.sl (.marks l)),(3,.sl (.marks l))],[],[999]⟩)
  (True ∧ True) (by kernel_rfl) rfl
  ⟨tt,tt⟩ ?_
 refine WI.nilEq 24 24 (.marks l) cok rfl hnt (wanted_none rfl) rfl (by kernel_rfl) (.inr (.inl rfl)) rfl rfl ?_
 intro b4 hb4
 replace hb4 : b4 = true → List.length l = 0 := hb4
 refine WI.to (⟨[(0,.sl (.marks l)),(3,.sl (.marks l)),(4,.b b4)],[],[999]⟩) 2 (by kernel_rfl) rfl ?_
 refine WI.nil rfl (thenQ_normal ?_)
 refine W.keepE [0,4] [(0,.sl (.marks l)),(4,.b b4)] (by kernel_rfl) ?_
 refine W.to (⟨[(0,.sl (.marks l)),(4,.b b4)],[],[999]⟩) rfl ?_
 refine W.if' b4 (.b b4) (by kernel_rfl) rfl trivial ?_ ?_
 ·intro h4
  refine Kk cok tab49 hnt [] [2] (⟨[(2,.v (.slice none 0 0))],[],[999]⟩)
   (True ∧ True)
   ⟨tt,tt⟩ ?_
  refine W.nilOwn 2 815 none 33 (.marks ([] : List MarkD)) (.v (.slice none 0 0)) (.own 815 0) (⟨[(2,.own 815 0)],[(815,⟨33,.row (.marks ([] : List MarkD))⟩)],[815,999]⟩) (by kernel_rfl) (by kernel_rfl) (by kernel_rfl) (by kernel_rfl) (by kernel_rfl) ?_
  refine W.ret (thenQ_ret ?_)
  exact endQ_rows [(0,815)] (.own 815 0) (by kernel_rfl) (@cast (((815 : Nat) = 815) ∧ (0 = l.length) ∧ ((0 : Nat) ∈ ([0] : List Nat))) _ (by kernel_rfl) ⟨rfl,(by first | rfl | omega | assumption | (symm; assumption) | (exact congrArg List.length (by exact (List.length_eq_zero_iff.1 (hb4 h4)).symm)) | (exact (List.length_eq_zero_iff.1 (hb4 h4)).symm; done) | simp | simp_all),(by decide)⟩) (@cast ((((33 : Nat) = 33) ∧ ((.marks ([] : List MarkD) : Dat) = .marks l) ∧ ((0 : Nat) ∈ ([0] : List Nat))) ∧ True) _ (by kernel_rfl) ⟨⟨rfl,(congrArg Dat.marks (by exact (List.length_eq_zero_iff.1 (hb4 h4)).symm)),(by decide)⟩,tt⟩) (by kernel_rfl)
 ·intro n4
  refine W.skip (thenQ_normal ?_)
  refine Kk cok tab49 hnt [5,7] [2] (⟨[(2,.own 7 l.length)],[(7,⟨33,.row (.marks l)⟩)],[7,5,999]⟩)
   (True ∧ True ∧ ((True ∧ ((List.length ([] : List MarkD)) = (List.length ([] : List MarkD)))) ∧ True ∧ (((List.length ([] : List MarkD)) + l.length) * 32 ≤ 140737488355328)) ∧ True ∧ True)
   ⟨tt,tt,⟨⟨tt,rfl⟩,tt,(by (try simp only [List.length_append,List.length_cons,List.length_nil,List.length_set]); omega)⟩,tt,tt⟩ ?_
  refine W.ret ?_
  exact endQ_rows [(0,7)] (.own 7 l.length) (by kernel_rfl) (@cast (((7 : Nat) = 7) ∧ (l.length = l.length) ∧ ((0 : Nat) ∈ ([0] : List Nat))) _ (by kernel_rfl) ⟨rfl,rfl,(by decide)⟩) (@cast ((((33 : Nat) = 33) ∧ (Sd (.marks l)) ∧ ((0 : Nat) ∈ ([0] : List Nat))) ∧ True) _ (by kernel_rfl) ⟨⟨rfl,rfl,(by decide)⟩,tt⟩) (by kernel_rfl)
theorem ent49 : Entr prog 49 := ⟨_,func49,rfl,by decide⟩
end Go.Proofs.Try

set_option linter.unusedSimpArgs false
set_option linter.unusedVariables false
namespace Go.Proofs.Try
open Go.Ab Go.RowKit
def fs26 : FnS := fnS [.a [some .ints,some .ints,none,none,none,some .marks]] [.copy] (fun _ (c,_) => (.agg [.own 0 (List.length c.up),.own 1 (List.length c.down),.i c.value,.i c.time,.i c.proc,.own 2 (List.length c.marks)],[(3,.ints c.up),(3,.ints c.down),(33,.marks c.marks)],(c.up.length ≤ 1000 ∧ c.down.length ≤ 1000 ∧ c.marks.length ≤ 1000)))
abbrev T26 : Tab := lk [(48,fs48),(49,fs49)]
theorem tab26 : TabOK prog T26 := (TabOK.cons ok48 ent48 (TabOK.cons ok49 ent49 TabOK.nil))
set_option maxRecDepth 100000 in
set_option maxHeartbeats 1000000 in
theorem ok26 : FnOK prog 26 fs26 := by
 refine FnOK.mk cok func26 rfl rfl rfl ?_
 rintro fl ⟨(c : CopyD),_⟩ hpre F hnt0 _
 have hnt : F.nt = 16 := hnt0.trans ntmps26
 replace hpre : (c.up.length ≤ 1000 ∧ c.down.length ≤ 1000 ∧ c.marks.length ≤ 1000) := hpre
 have hs := hpre
 refine W.to (⟨[(0,.agg (cC c))],[],[999]⟩) rfl ?_
 refine W.lenA 0 0 (cC c) (.ints c.up) (by kernel_rfl) (by kernel_rfl) ?_
 intro hl_c_up; replace hl_c_up : List.length c.up ≤ 9223372036854775807 := hl_c_up
 refine W.lenA 0 1 (cC c) (.ints c.down) (by kernel_rfl) (by kernel_rfl) ?_
 intro hl_c_down; replace hl_c_down : List.length c.down ≤ 9223372036854775807 := hl_c_down
 refine W.lenA 0 5 (cC c) (.marks c.marks) (by kernel_rfl) (by kernel_rfl) ?_
 intro hl_c_marks; replace hl_c_marks : List.length c.marks ≤ 9223372036854775807 := hl_c_marks
 refine Kk cok tab26 hnt [] [1,2] (⟨[(1,.ptr 1 0),(2,.ptr 2 0)],[(1,⟨26,.fix (cC c)⟩),(2,⟨26,.fix [.v (.slice none 0 0),.v (.slice none 0 0),.i (0 : Int),.i (0 : Int),.i (0 : Int),.v (.slice none 0 0)]⟩)],[2,1,999]⟩)
  (True ∧ True ∧ True)
  ⟨tt,tt,tt⟩ ?_
 refine W.KA cok tab26 hnt [5,8,11] [1,2] (⟨[(1,.ptr 1 0),(2,.ptr 2 0)],[(1,⟨26,.fix [.own 5 (List.length c.up),.own 8 (List.length c.down),.i c.value,.i c.time,.i c.proc,.own 11 (List.length c.marks)]⟩),(2,⟨26,.fix [.v (.slice none 0 0),.v (.slice none 0 0),.i (0 : Int),.i (0 : Int),.i (0 : Int),.v (.slice none 0 0)]⟩),(5,⟨3,.row (.ints c.up)⟩),(8,⟨3,.row (.ints c.down)⟩),(11,⟨33,.row (.marks c.marks)⟩)],[11,8,5,2,1,999]⟩)
  (True ∧ True ∧ (True ∧ (True ∧ True) ∧ (c.up.length * 8 ≤ 140737488355328)) ∧ True ∧ True ∧ (True ∧ (True ∧ True) ∧ (c.down.length * 8 ≤ 140737488355328)) ∧ True ∧ True ∧ (True ∧ (True ∧ True) ∧ (c.marks.length ≤ 1000)) ∧ True ∧ (True ∧ True) ∧ True ∧ (True ∧ True) ∧ True ∧ (True ∧ True) ∧ True) (by kernel_rfl) (by kernel_rfl)
  ⟨tt,tt,⟨tt,⟨tt,tt⟩,(by omega)⟩,tt,tt,⟨tt,⟨tt,tt⟩,(by omega)⟩,tt,tt,⟨tt,⟨tt,tt⟩,(by omega)⟩,tt,⟨tt,tt⟩,tt,⟨tt,tt⟩,tt,⟨tt,tt⟩,tt⟩ ?_
 refine Kk cok tab26 hnt [] [2] (⟨[(2,.ptr 2 0)],[(1,⟨26,.fix [.own 5 (List.length c.up),.own 8 (List.length c.down),.i c.value,.i c.time,.i c.proc,.own 11 (List.length c.marks)]⟩),(2,⟨26,.fix [.own 5 (List.length c.up),.own 8 (List.length c.down),.i c.value,.i c.time,.i c.proc,.own 11 (List.length c.marks)]⟩),(5,⟨3,.row (.ints c.up)⟩),(8,⟨3,.row (.ints c.down)⟩),(11,⟨33,.row (.marks c.marks)⟩)],[11,8,5,2,1,999]⟩)
  (True ∧ (True ∧ True) ∧ True)
  ⟨tt,⟨tt,tt⟩,tt⟩ ?_
 refine W.ret ?_
 exact endQ_rows [(0,5),(1,8),(2,11)] (.agg [.own 5 (List.length c.up),.own 8 (List.length c.down),.i c.value,.i c.time,.i c.proc,.own 11 (List.length c.marks)]) (by kernel_rfl) (@cast ((((5 : Nat) = 5) ∧ ((List.length c.up) = (List.length c.up)) ∧ ((0 : Nat) ∈ ([0,1,2] : List Nat))) ∧ (((8 : Nat) = 8) ∧ ((List.length c.down) = (List.length c.down)) ∧ ((1 : Nat) ∈ ([0,1,2] : List Nat))) ∧ (Si c.value) ∧ (Si c.time) ∧ (Si c.proc) ∧ (((11 : Nat) = 11) ∧ ((List.length c.marks) = (List.length c.marks)) ∧ ((2 : Nat) ∈ ([0,1,2] : List Nat))) ∧ True) _ (by kernel_rfl) ⟨⟨rfl,rfl,(by decide)⟩,⟨rfl,rfl,(by decide)⟩,rfl,rfl,rfl,⟨rfl,rfl,(by decide)⟩,tt⟩) (@cast ((((3 : Nat) = 3) ∧ (Sd (.ints c.up)) ∧ ((0 : Nat) ∈ ([0,1,2] : List Nat))) ∧ (((3 : Nat) = 3) ∧ (Sd (.ints c.down)) ∧ ((1 : Nat) ∈ ([0,1,2] : List Nat))) ∧ (((33 : Nat) = 33) ∧ (Sd (.marks c.marks)) ∧ ((2 : Nat) ∈ ([0,1,2] : List Nat))) ∧ True) _ (by kernel_rfl) ⟨⟨rfl,rfl,(by decide)⟩,⟨rfl,rfl,(by decide)⟩,⟨rfl,rfl,(by decide)⟩,tt⟩) (by kernel_rfl)
theorem ent26 : Entr prog 26 := ⟨_,func26,rfl,by decide⟩
end Go.Proofs.Try
