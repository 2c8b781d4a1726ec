import Derived.Test.YtggcajkjoaichaaIF7S0
set_option linter.unusedSimpArgs false
set_option linter.unusedVariables false
namespace Go.Ab
def ordersBy (s : ByteArray) (h : List CallD) (f : Nat → Nat → Bool) : List (List Int) := bif isObject s && validHistory h then ordersF s h f h.length [] else []
section
variable {s : ByteArray} {h : List CallD} {f g : Nat → Nat → Bool} {rows : List Int}
theorem by_val (hg : (isObject s && validHistory h) = true) (e : rows = rowsOf h.length f) : ordersF s h (bitF rows) h.length [] = ordersBy s h f := by
 unfold ordersBy; rw [hg, e, orders_rows]; rfl
theorem by_no (hg : (isObject s && validHistory h) = false) : ordersBy s h f = [] := by unfold ordersBy; rw [hg]; rfl
theorem by_no' (hg : (!isObject s || !validHistory h) = true) : ordersBy s h f = [] := by_no (by cases h1 : isObject s <;> cases h2 : validHistory h <;> simp_all)
theorem by_yes' (hg : (!isObject s || !validHistory h) = false) : (isObject s && validHistory h) = true := by cases h1 : isObject s <;> cases h2 : validHistory h <;> simp_all
theorem own_rows (hv : validHistory h = true) : ownAhead h = rowsOf h.length (bitF (ownAhead h)) := by rw [own_eq hv]; exact rows_self
theorem by_count : (ordersBy s h f).length ≤ 46656 := by
 cases hg : (isObject s && validHistory h) with
 | false => rw [by_no hg]; simp
 | true =>
  have h2 : validHistory h = true := by simp only [Bool.and_eq_true] at hg; exact hg.2
  have h1 := orders_count (s := s) (f := f) (valid_iff.1 h2).1
  unfold ordersBy; rw [hg]; exact h1
end
end Go.Ab
namespace Go.Ab
end Go.Ab
namespace Go.Ab
end Go.Ab

set_option linter.unusedSimpArgs false
set_option linter.unusedVariables false
namespace Go.Ab
theorem lists_ext {a b : List (List Int)} (hl : a.length = b.length) (h : ∀ j, j < a.length → a.getD j [] = b.getD j []) : a = b := by
 apply List.ext_getElem hl
 intro i h1 h2
 have := h i h1
 simpa [List.getD_eq_getElem?_getD, h1, h2] using this
section
variable {s : ByteArray} {h : List CallD} {f g : Nat → Nat → Bool} {rows : List Int}
def respF (f : Nat → Nat → Bool) (n : Nat) (o : List Int) : Prop := ∀ k, k < o.length → freeB f n (o.take k) (o.getD k 0).toNat = true
theorem resp_snoc {n k : Nat} {o : List Int} (hr : respF f n o) (hf : freeB f n o k = true) : respF f n (o ++ [((k : Nat) : Int)]) := by
 intro j hj
 simp only [List.getD_eq_getElem?_getD]
 by_cases h1 : j < o.length
 ·rw [List.take_append_of_le_length (by omega), List.getElem?_append_left h1, ← List.getD_eq_getElem?_getD]; exact hr j h1
 ·have : j = o.length := by simp at hj; omega
  subst this
  rw [List.take_append_of_le_length (Nat.le_refl _), List.take_length, List.getElem?_append_right (Nat.le_refl _)]
  simpa using hf
theorem orders_mem {x : List Int} : ∀ (m : Nat) (o : List Int), headO h o → respF f h.length o → o.length + m = h.length → x ∈ ordersF s h f m o →
  headO h x ∧ x.length = h.length ∧ runsB s h x = true ∧ respF f h.length x ∧ ∃ t, x = o ++ t
 | 0, o, ho, hr, hm, hx => by
  simp only [ordersF] at hx
  cases h1 : runsB s h o with
  | false => rw [h1] at hx; simp at hx
  | true => rw [h1] at hx; simp at hx; subst hx; exact ⟨ho, by omega, h1, hr, [], by simp⟩
 | m + 1, o, ho, hr, hm, hx => by
  simp only [ordersF, List.mem_flatMap, List.mem_range] at hx
  obtain ⟨i, hi, h1⟩ := hx
  cases h2 : freeB f h.length o i with
  | false => rw [h2] at h1; simp at h1
  | true =>
   rw [h2] at h1
   obtain ⟨a, b, c, d, t, e⟩ := orders_mem m (o ++ [((i : Nat) : Int)]) (headO_snoc ho hi (free_has h2) (by omega)) (resp_snoc hr h2) (by simp; omega) h1
   exact ⟨a, b, c, d, ((i : Nat) : Int) :: t, by rw [e]; simp⟩
theorem orders_pre {x : List Int} : ∀ (m : Nat) (o : List Int), x ∈ ordersF s h f m o → ∃ t, x = o ++ t
 | 0, o, hx => by
  simp only [ordersF] at hx
  cases h1 : runsB s h o with
  | false => rw [h1] at hx; simp at hx
  | true => rw [h1] at hx; simp at hx; exact ⟨[], by simp [hx]⟩
 | m + 1, o, hx => by
  simp only [ordersF, List.mem_flatMap, List.mem_range] at hx
  obtain ⟨i, hi, h1⟩ := hx
  cases h2 : freeB f h.length o i with
  | false => rw [h2] at h1; simp at h1
  | true =>
   rw [h2] at h1
   obtain ⟨t, e⟩ := orders_pre m _ h1
   exact ⟨((i : Nat) : Int) :: t, by rw [e]; simp⟩
theorem orders_nodup : ∀ (m : Nat) (o : List Int), (ordersF s h f m o).Nodup
 | 0, o => by simp only [ordersF]; cases runsB s h o <;> simp
 | m + 1, o => by
  simp only [ordersF]
  unfold List.Nodup
  rw [List.pairwise_flatMap]
  refine ⟨fun i _ => ?_, ?_⟩
  ·cases freeB f h.length o i with
   | false => exact List.Pairwise.nil
   | true => exact orders_nodup m _
  ·refine List.Pairwise.imp ?_ (List.nodup_range (n := h.length))
   intro a b hab x hx y hy hxy
   subst hxy
   cases h2 : freeB f h.length o a with
   | false => rw [h2] at hx; simp at hx
   | true =>
    cases h3 : freeB f h.length o b with
    | false => rw [h3] at hy; simp at hy
    | true =>
     rw [h2] at hx; rw [h3] at hy
     obtain ⟨t, e⟩ := orders_pre m _ hx
     obtain ⟨u, e'⟩ := orders_pre m _ hy
     rw [e] at e'
     simp at e'
     omega
theorem by_guard {x : List Int} (hx : x ∈ ordersBy s h f) : (isObject s && validHistory h) = true := by
 cases hg : (isObject s && validHistory h) with
 | true => rfl
 | false => rw [by_no hg] at hx; simp at hx
theorem by_mem {x : List Int} (hx : x ∈ ordersBy s h f) : headO h x ∧ x.length = h.length ∧ runsB s h x = true ∧ respF f h.length x := by
 have hg := by_guard hx
 unfold ordersBy at hx
 rw [hg] at hx
 obtain ⟨a, b, c, d, _⟩ := orders_mem h.length [] (headO_nil h) (fun k hk => by simp at hk) (by simp) hx
 exact ⟨a, b, c, d⟩
theorem by_right {x : List Int} (hx : x ∈ ordersBy s h f) : rightB s h x = true := by
 obtain ⟨a, b, c, d⟩ := by_mem hx
 unfold rightB
 rw [by_guard hx, headO_ord a b, c]; rfl
theorem by_nodup : (ordersBy s h f).Nodup := by
 unfold ordersBy
 cases (isObject s && validHistory h) with
 | false => exact List.nodup_nil
 | true => exact orders_nodup _ _
theorem by_next {i : Nat} (hi : i < (ordersBy s h f).length) (h0 : 0 < i) : (ordersBy s h f).getD (((i : Nat) : Int) - 1).toNat [] ≠ (ordersBy s h f).getD i [] := by
 intro e
 rw [show ((((i : Nat) : Int) - 1).toNat) = i - 1 by omega, List.getD_eq_getElem?_getD, List.getD_eq_getElem?_getD, List.getElem?_eq_getElem hi, List.getElem?_eq_getElem (show i - 1 < _ by omega)] at e
 have := (List.pairwise_iff_getElem.1 (by_nodup (s := s) (h := h) (f := f))) (i - 1) i (by omega) hi (by omega)
 exact this e
theorem bits_mk {n : Nat} {p q : Nat → Bool} (hn : n ≤ 60) : bitsI .and .i64 (mask n p) (mask n q) = ((maskN n p &&& maskN n q : Nat) : Int) := by
 have h1 := maskN_62 hn p
 have h2 := maskN_62 hn q
 unfold mask
 exact bits_and (by omega) (by omega)
theorem resp_mask {x : List Int} {k : Nat} (hn : h.length ≤ 60) (hx : headO h x ∧ x.length = h.length ∧ runsB s h x = true ∧ respF f h.length x) (hk : k < x.length) :
  bitsI .and .i64 ((rowsOf h.length f).getD (x.getD k 0).toNat 0) (mask h.length (doneF x k)) = (rowsOf h.length f).getD (x.getD k 0).toNat 0 := by
 have hi := hx.1.1 k hk
 rw [rowsOf_get f (show (x.getD k 0).toNat < h.length by omega), bits_mk hn]
 have h1 := hx.2.2.2 k hk
 unfold freeB at h1
 have h2 := free_sub.2 (and_r h1)
 have h3 : mask h.length (f (x.getD k 0).toNat) = ((maskN h.length (f (x.getD k 0).toNat) : Nat) : Int) := rfl
 rw [h3]
 exact congrArg _ h2
end
theorem own_orders_next {s : ByteArray} {h : List CallD} {f : Nat → Nat → Bool} {i : Nat} (hi : i < (ordersBy s h f).length) {b : Bool}
  (hb : ((!rightB s h ((ordersBy s h f).getD i [])) || (decide (0 < ((i : Nat) : Int)) && decide ((ordersBy s h f).getD (((i : Nat) : Int) - 1).toNat [] = (ordersBy s h f).getD i []))) = b) : b = false := by
 rw [← hb, by_right (getD_mem _ [] hi)]
 by_cases h0 : 0 < i
 ·rw [decide_eq_false (by_next hi h0)]; simp
 ·rw [decide_eq_false (show ¬ 0 < ((i : Nat) : Int) by omega)]; rfl
end Go.Ab

set_option linter.unusedSimpArgs false
set_option linter.unusedVariables false
namespace Go.Proofs.Try
open Go.Ab Go.RowKit
def fs69 : FnS := fnS [.o] [.str] (fun _ (s,_) => (.b (isSingle s),[],True))
abbrev T69 : Tab := lk []
theorem tab69 : TabOK prog T69 := TabOK.nil
set_option maxRecDepth 100000 in
set_option maxHeartbeats 1000000 in
theorem ok69 : FnOK prog 69 fs69 := by
 refine FnOK.mk cok func69 rfl rfl rfl ?_
 rintro fl ⟨(s : ByteArray),_⟩ hpre F hnt0 _
 have hnt : F.nt = 13 := hnt0.trans ntmps69
 clear hpre
 refine W.to (⟨[(0,.v (.string s))],[],[999]⟩) rfl ?_
 refine W.K cok tab69 hnt [] [0] (⟨[(0,.v (.string s))],[],[999]⟩)
  (True ∧ True) (by kernel_rfl)
  ⟨tt,tt⟩ ?_
 refine W.K cok tab69 hnt [] [2] (⟨[(2,.b (((eqS s nRegister) || (eqS s nCounter)) || (eqS s nMost)))],[],[999]⟩)
  (True ∧ (True ∧ True ∧ True) ∧ True ∧ ((!(eqS s nRegister)) = true → True) ∧ ((!(eqS s nRegister)) = true → ((((!(eqS s nRegister)) = true) ∧ True) ∧ True ∧ True)) ∧ (True ∧ ((eqS s nRegister) = true → True) ∧ ((eqS s nRegister) = false → ((!(eqS s nRegister)) = true) ∧ True)) ∧ True ∧ ((!((eqS s nRegister) || (eqS s nCounter))) = true → True) ∧ ((!((eqS s nRegister) || (eqS s nCounter))) = true → ((((!((eqS s nRegister) || (eqS s nCounter))) = true) ∧ True) ∧ True ∧ True)) ∧ (True ∧ (((eqS s nRegister) || (eqS s nCounter)) = true → True) ∧ (((eqS s nRegister) || (eqS s nCounter)) = false → ((!((eqS s nRegister) || (eqS s nCounter))) = true) ∧ True)) ∧ True ∧ True) (by kernel_rfl)
  ⟨tt,⟨tt,tt,tt⟩,tt,(fun _ => trivial),(fun hG => ⟨⟨hG,tt⟩,tt,tt⟩),⟨tt,(fun _ => trivial),(fun hp => ⟨(not_t hp),tt⟩)⟩,tt,(fun _ => trivial),(fun hG => ⟨⟨hG,tt⟩,tt,tt⟩),⟨tt,(fun _ => trivial),(fun hp => ⟨(not_t hp),tt⟩)⟩,tt,tt⟩ ?_
 refine W.ret ?_
 exact endQ_ret (.b (((eqS s nRegister) || (eqS s nCounter)) || (eqS s nMost))) (by kernel_rfl) (@cast ((.bool (((eqS s nRegister) || (eqS s nCounter)) || (eqS s nMost)) : Value) = .bool (isSingle s)) _ (by kernel_rfl) (congrArg Value.bool (by first | rfl | simp_all)))
theorem ent69 : Entr prog 69 := ⟨_,func69,rfl,by decide⟩
end Go.Proofs.Try

set_option linter.unusedSimpArgs false
set_option linter.unusedVariables false
namespace Go.Proofs.Try
open Go.Ab Go.RowKit
def fs39 : FnS := fnS [.o] [.str] (fun _ (s,_) => (.b (isObject s),[],True))
abbrev T39 : Tab := lk [(69,fs69)]
theorem tab39 : TabOK prog T39 := (TabOK.cons ok69 ent69 TabOK.nil)
set_option maxRecDepth 100000 in
set_option maxHeartbeats 1000000 in
theorem ok39 : FnOK prog 39 fs39 := by
 refine FnOK.mk cok func39 rfl rfl rfl ?_
 rintro fl ⟨(s : ByteArray),_⟩ hpre F hnt0 _
 have hnt : F.nt = 17 := hnt0.trans ntmps39
 clear hpre
 refine W.to (⟨[(0,.v (.string s))],[],[999]⟩) rfl ?_
 refine W.K cok tab39 hnt [] [0] (⟨[(0,.v (.string s))],[],[999]⟩)
  (True ∧ True) (by kernel_rfl)
  ⟨tt,tt⟩ ?_
 refine W.K cok tab39 hnt [] [2] (⟨[(2,.b ((((isSingle s) || (eqS s nQueue)) || (eqS s nStack)) || (eqS s nSet)))],[],[999]⟩)
  (True ∧ (True ∧ (True ∧ True) ∧ True) ∧ True ∧ ((!(isSingle s)) = true → True) ∧ ((!(isSingle s)) = true → ((((!(isSingle s)) = true) ∧ True) ∧ True ∧ True)) ∧ (True ∧ ((isSingle s) = true → True) ∧ ((isSingle s) = false → ((!(isSingle s)) = true) ∧ True)) ∧ True ∧ ((!((isSingle s) || (eqS s nQueue))) = true → True) ∧ ((!((isSingle s) || (eqS s nQueue))) = true → ((((!((isSingle s) || (eqS s nQueue))) = true) ∧ True) ∧ True ∧ True)) ∧ (True ∧ (((isSingle s) || (eqS s nQueue)) = true → True) ∧ (((isSingle s) || (eqS s nQueue)) = false → ((!((isSingle s) || (eqS s nQueue))) = true) ∧ True)) ∧ True ∧ ((!(((isSingle s) || (eqS s nQueue)) || (eqS s nStack))) = true → True) ∧ ((!(((isSingle s) || (eqS s nQueue)) || (eqS s nStack))) = true → ((((!(((isSingle s) || (eqS s nQueue)) || (eqS s nStack))) = true) ∧ True) ∧ True ∧ True)) ∧ (True ∧ ((((isSingle s) || (eqS s nQueue)) || (eqS s nStack)) = true → True) ∧ ((((isSingle s) || (eqS s nQueue)) || (eqS s nStack)) = false → ((!(((isSingle s) || (eqS s nQueue)) || (eqS s nStack))) = true) ∧ True)) ∧ True ∧ True) (by kernel_rfl)
  ⟨tt,⟨tt,⟨tt,tt⟩,tt⟩,tt,(fun _ => trivial),(fun hG => ⟨⟨hG,tt⟩,tt,tt⟩),⟨tt,(fun _ => trivial),(fun hp => ⟨(not_t hp),tt⟩)⟩,tt,(fun _ => trivial),(fun hG => ⟨⟨hG,tt⟩,tt,tt⟩),⟨tt,(fun _ => trivial),(fun hp => ⟨(not_t hp),tt⟩)⟩,tt,(fun _ => trivial),(fun hG => ⟨⟨hG,tt⟩,tt,tt⟩),⟨tt,(fun _ => trivial),(fun hp => ⟨(not_t hp),tt⟩)⟩,tt,tt⟩ ?_
 refine W.ret ?_
 exact endQ_ret (.b ((((isSingle s) || (eqS s nQueue)) || (eqS s nStack)) || (eqS s nSet))) (by kernel_rfl) (@cast ((.bool ((((isSingle s) || (eqS s nQueue)) || (eqS s nStack)) || (eqS s nSet)) : Value) = .bool (isObject s)) _ (by kernel_rfl) (congrArg Value.bool (by exact single_obj s)))
theorem ent39 : Entr prog 39 := ⟨_,func39,rfl,by decide⟩
end Go.Proofs.Try

set_option linter.unusedSimpArgs false
set_option linter.unusedVariables false
namespace Go.Proofs.Try
open Go.Ab Go.RowKit
def fs48 : FnS := fnS [.o,.o,.o] [.int,.int,.int] (fun _ (n,low,high,_) => (.b (within n low high),[],True))
abbrev T48 : Tab := lk []
theorem tab48 : TabOK prog T48 := TabOK.nil
set_option maxRecDepth 100000 in
set_option maxHeartbeats 1000000 in
theorem ok48 : FnOK prog 48 fs48 := by
 refine FnOK.mk cok func48 rfl rfl rfl ?_
 rintro fl ⟨(n : Int),(low : Int),(high : Int),_⟩ hpre F hnt0 _
 have hnt : F.nt = 15 := hnt0.trans ntmps48
 clear hpre
 refine W.to (⟨[(0,.i n),(1,.i low),(2,.i high)],[],[999]⟩) rfl ?_
 refine W.K cok tab48 hnt [] [0,1,2] (⟨[(0,.i n),(1,.i low),(2,.i high)],[],[999]⟩)
  (True ∧ True) (by kernel_rfl)
  ⟨tt,tt⟩ ?_
 refine W.K cok tab48 hnt [] [6] (⟨[(6,.b ((decide (low ≤ n)) && (decide (n ≤ high))))],[],[999]⟩)
  (True ∧ True ∧ (True ∧ True ∧ True) ∧ True ∧ ((decide (low ≤ n)) = true → True) ∧ ((decide (low ≤ n)) = true → True) ∧ ((decide (low ≤ n)) = true → ((((decide (low ≤ n)) = true) ∧ True) ∧ (((decide (low ≤ n)) = true) ∧ True) ∧ True)) ∧ (True ∧ ((decide (low ≤ n)) = true → ((decide (low ≤ n)) = true) ∧ True) ∧ ((decide (low ≤ n)) = false → True)) ∧ True ∧ True) (by kernel_rfl)
  ⟨tt,tt,⟨tt,tt,tt⟩,tt,(fun _ => trivial),(fun _ => trivial),(fun hG => ⟨⟨hG,tt⟩,⟨hG,tt⟩,tt⟩),⟨tt,(fun hp => ⟨hp,tt⟩),(fun _ => trivial)⟩,tt,tt⟩ ?_
 refine W.ret ?_
 exact endQ_ret (.b ((decide (low ≤ n)) && (decide (n ≤ high)))) (by kernel_rfl) (@cast ((.bool ((decide (low ≤ n)) && (decide (n ≤ high))) : Value) = .bool (within n low high)) _ (by kernel_rfl) (congrArg Value.bool (by first | rfl | simp_all)))
theorem ent48 : Entr prog 48 := ⟨_,func48,rfl,by decide⟩
end Go.Proofs.Try

set_option linter.unusedSimpArgs false
set_option linter.unusedVariables false
namespace Go.Proofs.Try
open Go.Ab Go.RowKit
def fs46 : FnS := fnS [.o] [.call] (fun _ (c,_) => (.b (isCall c),[],True))
abbrev T46 : Tab := lk [(48,fs48)]
theorem tab46 : TabOK prog T46 := (TabOK.cons ok48 ent48 TabOK.nil)
set_option maxRecDepth 100000 in
set_option maxHeartbeats 1000000 in
theorem ok46 : FnOK prog 46 fs46 := by
 refine FnOK.mk cok func46 rfl rfl rfl ?_
 rintro fl ⟨(c : CallD),_⟩ hpre F hnt0 _
 have hnt : F.nt = 43 := hnt0.trans ntmps46
 clear hpre
 refine W.to (⟨[(0,.agg [.i c.proc,.i c.obj,.i c.kind,.i c.arg,.i c.ret,.i c.frm,.i c.to])],[],[999]⟩) rfl ?_
 refine W.K cok tab46 hnt [] [1] (⟨[(1,.ptr 1 0)],[(1,⟨36,.fix [.i c.proc,.i c.obj,.i c.kind,.i c.arg,.i c.ret,.i c.frm,.i c.to]⟩)],[1,999]⟩)
  (True ∧ True ∧ True) (by kernel_rfl)
  ⟨tt,tt,tt⟩ ?_
 refine W.K cok tab46 hnt [] [2] (⟨[(2,.b ((((((((within c.proc (0 : Int) (2 : Int)) && (within c.obj (0 : Int) (1 : Int))) && (within c.kind (0 : Int) (2 : Int))) && (within c.arg (0 : Int) (3 : Int))) && (within c.ret (-1 : Int) (20 : Int))) && (within c.frm (0 : Int) (30 : Int))) && (within c.to (0 : Int) (30 : Int))) && (decide (c.frm < c.to))))],[(1,⟨36,.fix [.i c.proc,.i c.obj,.i c.kind,.i c.arg,.i c.ret,.i c.frm,.i c.to]⟩)],[1,999]⟩)
  (True ∧ True ∧ (True ∧ (True ∧ True ∧ True ∧ True) ∧ True) ∧ True ∧ ((within c.proc (0 : Int) (2 : Int)) = true → True) ∧ ((within c.proc (0 : Int) (2 : Int)) = true → (((within c.proc (0 : Int) (2 : Int)) = true) ∧ True)) ∧ ((within c.proc (0 : Int) (2 : Int)) = true → (True ∧ ((((within c.proc (0 : Int) (2 : Int)) = true) ∧ True) ∧ True ∧ True ∧ True) ∧ True)) ∧ (True ∧ ((within c.proc (0 : Int) (2 : Int)) = true → ((within c.proc (0 : Int) (2 : Int)) = true) ∧ True) ∧ ((within c.proc (0 : Int) (2 : Int)) = false → True)) ∧ True ∧ (((within c.proc (0 : Int) (2 : Int)) && (within c.obj (0 : Int) (1 : Int))) = true → True) ∧ (((within c.proc (0 : Int) (2 : Int)) && (within c.obj (0 : Int) (1 : Int))) = true → ((((within c.proc (0 : Int) (2 : Int)) && (within c.obj (0 : Int) (1 : Int))) = true) ∧ True)) ∧ (((within c.proc (0 : Int) (2 : Int)) && (within c.obj (0 : Int) (1 : Int))) = true → (True ∧ (((((within c.proc (0 : Int) (2 : Int)) && (within c.obj (0 : Int) (1 : Int))) = true) ∧ True) ∧ True ∧ True ∧ True) ∧ True)) ∧ (True ∧ (((within c.proc (0 : Int) (2 : Int)) && (within c.obj (0 : Int) (1 : Int))) = true → (((within c.proc (0 : Int) (2 : Int)) && (within c.obj (0 : Int) (1 : Int))) = true) ∧ True) ∧ (((within c.proc (0 : Int) (2 : Int)) && (within c.obj (0 : Int) (1 : Int))) = false → True)) ∧ True ∧ ((((within c.proc (0 : Int) (2 : Int)) && (within c.obj (0 : Int) (1 : Int))) && (within c.kind (0 : Int) (2 : Int))) = true → True) ∧ ((((within c.proc (0 : Int) (2 : Int)) && (within c.obj (0 : Int) (1 : Int))) && (within c.kind (0 : Int) (2 : Int))) = true → (((((within c.proc (0 : Int) (2 : Int)) && (within c.obj (0 : Int) (1 : Int))) && (within c.kind (0 : Int) (2 : Int))) = true) ∧ True)) ∧ ((((within c.proc (0 : Int) (2 : Int)) && (within c.obj (0 : Int) (1 : Int))) && (within c.kind (0 : Int) (2 : Int))) = true → (True ∧ ((((((within c.proc (0 : Int) (2 : Int)) && (within c.obj (0 : Int) (1 : Int))) && (within c.kind (0 : Int) (2 : Int))) = true) ∧ True) ∧ True ∧ True ∧ True) ∧ True)) ∧ (True ∧ ((((within c.proc (0 : Int) (2 : Int)) && (within c.obj (0 : Int) (1 : Int))) && (within c.kind (0 : Int) (2 : Int))) = true → ((((within c.proc (0 : Int) (2 : Int)) && (within c.obj (0 : Int) (1 : Int))) && (within c.kind (0 : Int) (2 : Int))) = true) ∧ True) ∧ ((((within c.proc (0 : Int) (2 : Int)) && (within c.obj (0 : Int) (1 : Int))) && (within c.kind (0 : Int) (2 : Int))) = false → True)) ∧ True ∧ (((((within c.proc (0 : Int) (2 : Int)) && (within c.obj (0 : Int) (1 : Int))) && (within c.kind (0 : Int) (2 : Int))) && (within c.arg (0 : Int) (3 : Int))) = true → True) ∧ (((((within c.proc (0 : Int) (2 : Int)) && (within c.obj (0 : Int) (1 : Int))) && (within c.kind (0 : Int) (2 : Int))) && (within c.arg (0 : Int) (3 : Int))) = true → ((((((within c.proc (0 : Int) (2 : Int)) && (within c.obj (0 : Int) (1 : Int))) && (within c.kind (0 : Int) (2 : Int))) && (within c.arg (0 : Int) (3 : Int))) = true) ∧ True)) ∧ (((((within c.proc (0 : Int) (2 : Int)) && (within c.obj (0 : Int) (1 : Int))) && (within c.kind (0 : Int) (2 : Int))) && (within c.arg (0 : Int) (3 : Int))) = true → (True ∧ (((((((within c.proc (0 : Int) (2 : Int)) && (within c.obj (0 : Int) (1 : Int))) && (within c.kind (0 : Int) (2 : Int))) && (within c.arg (0 : Int) (3 : Int))) = true) ∧ True) ∧ True ∧ True ∧ True) ∧ True)) ∧ (True ∧ (((((within c.proc (0 : Int) (2 : Int)) && (within c.obj (0 : Int) (1 : Int))) && (within c.kind (0 : Int) (2 : Int))) && (within c.arg (0 : Int) (3 : Int))) = true → (((((within c.proc (0 : Int) (2 : Int)) && (within c.obj (0 : Int) (1 : Int))) && (within c.kind (0 : Int) (2 : Int))) && (within c.arg (0 : Int) (3 : Int))) = true) ∧ True) ∧ (((((within c.proc (0 : Int) (2 : Int)) && (within c.obj (0 : Int) (1 : Int))) && (within c.kind (0 : Int) (2 : Int))) && (within c.arg (0 : Int) (3 : Int))) = false → True)) ∧ True ∧ ((((((within c.proc (0 : Int) (2 : Int)) && (within c.obj (0 : Int) (1 : Int))) && (within c.kind (0 : Int) (2 : Int))) && (within c.arg (0 : Int) (3 : Int))) && (within c.ret (-1 : Int) (20 : Int))) = true → True) ∧ ((((((within c.proc (0 : Int) (2 : Int)) && (within c.obj (0 : Int) (1 : Int))) && (within c.kind (0 : Int) (2 : Int))) && (within c.arg (0 : Int) (3 : Int))) && (within c.ret (-1 : Int) (20 : Int))) = true → (((((((within c.proc (0 : Int) (2 : Int)) && (within c.obj (0 : Int) (1 : Int))) && (within c.kind (0 : Int) (2 : Int))) && (within c.arg (0 : Int) (3 : Int))) && (within c.ret (-1 : Int) (20 : Int))) = true) ∧ True)) ∧ ((((((within c.proc (0 : Int) (2 : Int)) && (within c.obj (0 : Int) (1 : Int))) && (within c.kind (0 : Int) (2 : Int))) && (within c.arg (0 : Int) (3 : Int))) && (within c.ret (-1 : Int) (20 : Int))) = true → (True ∧ ((((((((within c.proc (0 : Int) (2 : Int)) && (within c.obj (0 : Int) (1 : Int))) && (within c.kind (0 : Int) (2 : Int))) && (within c.arg (0 : Int) (3 : Int))) && (within c.ret (-1 : Int) (20 : Int))) = true) ∧ True) ∧ True ∧ True ∧ True) ∧ True)) ∧ (True ∧ ((((((within c.proc (0 : Int) (2 : Int)) && (within c.obj (0 : Int) (1 : Int))) && (within c.kind (0 : Int) (2 : Int))) && (within c.arg (0 : Int) (3 : Int))) && (within c.ret (-1 : Int) (20 : Int))) = true → ((((((within c.proc (0 : Int) (2 : Int)) && (within c.obj (0 : Int) (1 : Int))) && (within c.kind (0 : Int) (2 : Int))) && (within c.arg (0 : Int) (3 : Int))) && (within c.ret (-1 : Int) (20 : Int))) = true) ∧ True) ∧ ((((((within c.proc (0 : Int) (2 : Int)) && (within c.obj (0 : Int) (1 : Int))) && (within c.kind (0 : Int) (2 : Int))) && (within c.arg (0 : Int) (3 : Int))) && (within c.ret (-1 : Int) (20 : Int))) = false → True)) ∧ True ∧ (((((((within c.proc (0 : Int) (2 : Int)) && (within c.obj (0 : Int) (1 : Int))) && (within c.kind (0 : Int) (2 : Int))) && (within c.arg (0 : Int) (3 : Int))) && (within c.ret (-1 : Int) (20 : Int))) && (within c.frm (0 : Int) (30 : Int))) = true → True) ∧ (((((((within c.proc (0 : Int) (2 : Int)) && (within c.obj (0 : Int) (1 : Int))) && (within c.kind (0 : Int) (2 : Int))) && (within c.arg (0 : Int) (3 : Int))) && (within c.ret (-1 : Int) (20 : Int))) && (within c.frm (0 : Int) (30 : Int))) = true → ((((((((within c.proc (0 : Int) (2 : Int)) && (within c.obj (0 : Int) (1 : Int))) && (within c.kind (0 : Int) (2 : Int))) && (within c.arg (0 : Int) (3 : Int))) && (within c.ret (-1 : Int) (20 : Int))) && (within c.frm (0 : Int) (30 : Int))) = true) ∧ True)) ∧ (((((((within c.proc (0 : Int) (2 : Int)) && (within c.obj (0 : Int) (1 : Int))) && (within c.kind (0 : Int) (2 : Int))) && (within c.arg (0 : Int) (3 : Int))) && (within c.ret (-1 : Int) (20 : Int))) && (within c.frm (0 : Int) (30 : Int))) = true → (True ∧ (((((((((within c.proc (0 : Int) (2 : Int)) && (within c.obj (0 : Int) (1 : Int))) && (within c.kind (0 : Int) (2 : Int))) && (within c.arg (0 : Int) (3 : Int))) && (within c.ret (-1 : Int) (20 : Int))) && (within c.frm (0 : Int) (30 : Int))) = true) ∧ True) ∧ True ∧ True ∧ True) ∧ True)) ∧ (True ∧ (((((((within c.proc (0 : Int) (2 : Int)) && (within c.obj (0 : Int) (1 : Int))) && (within c.kind (0 : Int) (2 : Int))) && (within c.arg (0 : Int) (3 : Int))) && (within c.ret (-1 : Int) (20 : Int))) && (within c.frm (0 : Int) (30 : Int))) = true → (((((((within c.proc (0 : Int) (2 : Int)) && (within c.obj (0 : Int) (1 : Int))) && (within c.kind (0 : Int) (2 : Int))) && (within c.arg (0 : Int) (3 : Int))) && (within c.ret (-1 : Int) (20 : Int))) && (within c.frm (0 : Int) (30 : Int))) = true) ∧ True) ∧ (((((((within c.proc (0 : Int) (2 : Int)) && (within c.obj (0 : Int) (1 : Int))) && (within c.kind (0 : Int) (2 : Int))) && (within c.arg (0 : Int) (3 : Int))) && (within c.ret (-1 : Int) (20 : Int))) && (within c.frm (0 : Int) (30 : Int))) = false → True)) ∧ True ∧ ((((((((within c.proc (0 : Int) (2 : Int)) && (within c.obj (0 : Int) (1 : Int))) && (within c.kind (0 : Int) (2 : Int))) && (within c.arg (0 : Int) (3 : Int))) && (within c.ret (-1 : Int) (20 : Int))) && (within c.frm (0 : Int) (30 : Int))) && (within c.to (0 : Int) (30 : Int))) = true → True) ∧ ((((((((within c.proc (0 : Int) (2 : Int)) && (within c.obj (0 : Int) (1 : Int))) && (within c.kind (0 : Int) (2 : Int))) && (within c.arg (0 : Int) (3 : Int))) && (within c.ret (-1 : Int) (20 : Int))) && (within c.frm (0 : Int) (30 : Int))) && (within c.to (0 : Int) (30 : Int))) = true → (((((((((within c.proc (0 : Int) (2 : Int)) && (within c.obj (0 : Int) (1 : Int))) && (within c.kind (0 : Int) (2 : Int))) && (within c.arg (0 : Int) (3 : Int))) && (within c.ret (-1 : Int) (20 : Int))) && (within c.frm (0 : Int) (30 : Int))) && (within c.to (0 : Int) (30 : Int))) = true) ∧ True)) ∧ ((((((((within c.proc (0 : Int) (2 : Int)) && (within c.obj (0 : Int) (1 : Int))) && (within c.kind (0 : Int) (2 : Int))) && (within c.arg (0 : Int) (3 : Int))) && (within c.ret (-1 : Int) (20 : Int))) && (within c.frm (0 : Int) (30 : Int))) && (within c.to (0 : Int) (30 : Int))) = true → True) ∧ ((((((((within c.proc (0 : Int) (2 : Int)) && (within c.obj (0 : Int) (1 : Int))) && (within c.kind (0 : Int) (2 : Int))) && (within c.arg (0 : Int) (3 : Int))) && (within c.ret (-1 : Int) (20 : Int))) && (within c.frm (0 : Int) (30 : Int))) && (within c.to (0 : Int) (30 : Int))) = true → (((((((((within c.proc (0 : Int) (2 : Int)) && (within c.obj (0 : Int) (1 : Int))) && (within c.kind (0 : Int) (2 : Int))) && (within c.arg (0 : Int) (3 : Int))) && (within c.ret (-1 : Int) (20 : Int))) && (within c.frm (0 : Int) (30 : Int))) && (within c.to (0 : Int) (30 : Int))) = true) ∧ True)) ∧ ((((((((within c.proc (0 : Int) (2 : Int)) && (within c.obj (0 : Int) (1 : Int))) && (within c.kind (0 : Int) (2 : Int))) && (within c.arg (0 : Int) (3 : Int))) && (within c.ret (-1 : Int) (20 : Int))) && (within c.frm (0 : Int) (30 : Int))) && (within c.to (0 : Int) (30 : Int))) = true → ((((((((((within c.proc (0 : Int) (2 : Int)) && (within c.obj (0 : Int) (1 : Int))) && (within c.kind (0 : Int) (2 : Int))) && (within c.arg (0 : Int) (3 : Int))) && (within c.ret (-1 : Int) (20 : Int))) && (within c.frm (0 : Int) (30 : Int))) && (within c.to (0 : Int) (30 : Int))) = true) ∧ True) ∧ (((((((((within c.proc (0 : Int) (2 : Int)) && (within c.obj (0 : Int) (1 : Int))) && (within c.kind (0 : Int) (2 : Int))) && (within c.arg (0 : Int) (3 : Int))) && (within c.ret (-1 : Int) (20 : Int))) && (within c.frm (0 : Int) (30 : Int))) && (within c.to (0 : Int) (30 : Int))) = true) ∧ True) ∧ True)) ∧ (True ∧ ((((((((within c.proc (0 : Int) (2 : Int)) && (within c.obj (0 : Int) (1 : Int))) && (within c.kind (0 : Int) (2 : Int))) && (within c.arg (0 : Int) (3 : Int))) && (within c.ret (-1 : Int) (20 : Int))) && (within c.frm (0 : Int) (30 : Int))) && (within c.to (0 : Int) (30 : Int))) = true → ((((((((within c.proc (0 : Int) (2 : Int)) && (within c.obj (0 : Int) (1 : Int))) && (within c.kind (0 : Int) (2 : Int))) && (within c.arg (0 : Int) (3 : Int))) && (within c.ret (-1 : Int) (20 : Int))) && (within c.frm (0 : Int) (30 : Int))) && (within c.to (0 : Int) (30 : Int))) = true) ∧ True) ∧ ((((((((within c.proc (0 : Int) (2 : Int)) && (within c.obj (0 : Int) (1 : Int))) && (within c.kind (0 : Int) (2 : Int))) && (within c.arg (0 : Int) (3 : Int))) && (within c.ret (-1 : Int) (20 : Int))) && (within c.frm (0 : Int) (30 : Int))) && (within c.to (0 : Int) (30 : Int))) = false → True)) ∧ True ∧ True) (by kernel_rfl)
  ⟨tt,tt,⟨tt,⟨tt,tt,tt,tt⟩,tt⟩,tt,(fun _ => trivial),(fun hG => ⟨hG,tt⟩),(fun hG => ⟨tt,⟨⟨hG,tt⟩,tt,tt,tt⟩,tt⟩),⟨tt,(fun hp => ⟨hp,tt⟩),(fun _ => trivial)⟩,tt,(fun _ => trivial),(fun hG => ⟨hG,tt⟩),(fun hG => ⟨tt,⟨⟨hG,tt⟩,tt,tt,tt⟩,tt⟩),⟨tt,(fun hp => ⟨hp,tt⟩),(fun _ => trivial)⟩,tt,(fun _ => trivial),(fun hG => ⟨hG,tt⟩),(fun hG => ⟨tt,⟨⟨hG,tt⟩,tt,tt,tt⟩,tt⟩),⟨tt,(fun hp => ⟨hp,tt⟩),(fun _ => trivial)⟩,tt,(fun _ => trivial),(fun hG => ⟨hG,tt⟩),(fun hG => ⟨tt,⟨⟨hG,tt⟩,tt,tt,tt⟩,tt⟩),⟨tt,(fun hp => ⟨hp,tt⟩),(fun _ => trivial)⟩,tt,(fun _ => trivial),(fun hG => ⟨hG,tt⟩),(fun hG => ⟨tt,⟨⟨hG,tt⟩,tt,tt,tt⟩,tt⟩),⟨tt,(fun hp => ⟨hp,tt⟩),(fun _ => trivial)⟩,tt,(fun _ => trivial),(fun hG => ⟨hG,tt⟩),(fun hG => ⟨tt,⟨⟨hG,tt⟩,tt,tt,tt⟩,tt⟩),⟨tt,(fun hp => ⟨hp,tt⟩),(fun _ => trivial)⟩,tt,(fun _ => trivial),(fun hG => ⟨hG,tt⟩),(fun _ => trivial),(fun hG => ⟨hG,tt⟩),(fun hG => ⟨⟨hG,tt⟩,⟨hG,tt⟩,tt⟩),⟨tt,(fun hp => ⟨hp,tt⟩),(fun _ => trivial)⟩,tt,tt⟩ ?_
 refine W.ret ?_
 exact endQ_ret (.b ((((((((within c.proc (0 : Int) (2 : Int)) && (within c.obj (0 : Int) (1 : Int))) && (within c.kind (0 : Int) (2 : Int))) && (within c.arg (0 : Int) (3 : Int))) && (within c.ret (-1 : Int) (20 : Int))) && (within c.frm (0 : Int) (30 : Int))) && (within c.to (0 : Int) (30 : Int))) && (decide (c.frm < c.to)))) (by kernel_rfl) (@cast ((.bool ((((((((within c.proc (0 : Int) (2 : Int)) && (within c.obj (0 : Int) (1 : Int))) && (within c.kind (0 : Int) (2 : Int))) && (within c.arg (0 : Int) (3 : Int))) && (within c.ret (-1 : Int) (20 : Int))) && (within c.frm (0 : Int) (30 : Int))) && (within c.to (0 : Int) (30 : Int))) && (decide (c.frm < c.to))) : Value) = .bool (isCall c)) _ (by kernel_rfl) (congrArg Value.bool (by first | rfl | simp_all)))
theorem ent46 : Entr prog 46 := ⟨_,func46,rfl,by decide⟩
end Go.Proofs.Try

set_option linter.unusedSimpArgs false
set_option linter.unusedVariables false
namespace Go.Proofs.Try
open Go.Ab Go.RowKit
def fs62 : FnS := fnS [.o,.o] [.call,.call] (fun _ (a,b,_) => (.b (isBefore a b),[],True))
abbrev T62 : Tab := lk []
theorem tab62 : TabOK prog T62 := TabOK.nil
set_option maxRecDepth 100000 in
set_option maxHeartbeats 1000000 in
theorem ok62 : FnOK prog 62 fs62 := by
 refine FnOK.mk cok func62 rfl rfl rfl ?_
 rintro fl ⟨(a : CallD),(b : CallD),_⟩ hpre F hnt0 _
 have hnt : F.nt = 10 := hnt0.trans ntmps62
 clear hpre
 refine W.to (⟨[(0,.agg [.i a.proc,.i a.obj,.i a.kind,.i a.arg,.i a.ret,.i a.frm,.i a.to]),(1,.agg [.i b.proc,.i b.obj,.i b.kind,.i b.arg,.i b.ret,.i b.frm,.i b.to])],[],[999]⟩) rfl ?_
 refine W.K cok tab62 hnt [] [2,3] (⟨[(2,.ptr 2 0),(3,.ptr 3 0)],[(2,⟨36,.fix [.i a.proc,.i a.obj,.i a.kind,.i a.arg,.i a.ret,.i a.frm,.i a.to]⟩),(3,⟨36,.fix [.i b.proc,.i b.obj,.i b.kind,.i b.arg,.i b.ret,.i b.frm,.i b.to]⟩)],[3,2,999]⟩)
  (True ∧ True ∧ True ∧ True) (by kernel_rfl)
  ⟨tt,tt,tt,tt⟩ ?_
 refine W.K cok tab62 hnt [] [4] (⟨[(4,.b (decide (a.to < b.frm)))],[(2,⟨36,.fix [.i a.proc,.i a.obj,.i a.kind,.i a.arg,.i a.ret,.i a.frm,.i a.to]⟩),(3,⟨36,.fix [.i b.proc,.i b.obj,.i b.kind,.i b.arg,.i b.ret,.i b.frm,.i b.to]⟩)],[3,2,999]⟩)
  (True ∧ True ∧ True ∧ True ∧ (True ∧ True ∧ True) ∧ True ∧ True) (by kernel_rfl)
  ⟨tt,tt,tt,tt,⟨tt,tt,tt⟩,tt,tt⟩ ?_
 refine W.ret ?_
 exact endQ_ret (.b (decide (a.to < b.frm))) (by kernel_rfl) (@cast ((.bool (decide (a.to < b.frm)) : Value) = .bool (isBefore a b)) _ (by kernel_rfl) (congrArg Value.bool (by first | rfl | simp_all)))
theorem ent62 : Entr prog 62 := ⟨_,func62,rfl,by decide⟩
end Go.Proofs.Try

set_option linter.unusedSimpArgs false
set_option linter.unusedVariables false
namespace Go.Proofs.Try
open Go.Ab Go.RowKit
def fs47 : FnS := fnS [.o,.o] [.call,.call] (fun _ (a,b,_) => (.b (doOverlap a b),[],True))
abbrev T47 : Tab := lk [(62,fs62)]
theorem tab47 : TabOK prog T47 := (TabOK.cons ok62 ent62 TabOK.nil)
set_option maxRecDepth 100000 in
set_option maxHeartbeats 1000000 in
theorem ok47 : FnOK prog 47 fs47 := by
 refine FnOK.mk cok func47 rfl rfl rfl ?_
 rintro fl ⟨(a : CallD),(b : CallD),_⟩ hpre F hnt0 _
 have hnt : F.nt = 15 := hnt0.trans ntmps47
 clear hpre
 refine W.to (⟨[(0,.agg [.i a.proc,.i a.obj,.i a.kind,.i a.arg,.i a.ret,.i a.frm,.i a.to]),(1,.agg [.i b.proc,.i b.obj,.i b.kind,.i b.arg,.i b.ret,.i b.frm,.i b.to])],[],[999]⟩) rfl ?_
 refine W.K cok tab47 hnt [] [2,3] (⟨[(2,.ptr 2 0),(3,.ptr 3 0)],[(2,⟨36,.fix [.i a.proc,.i a.obj,.i a.kind,.i a.arg,.i a.ret,.i a.frm,.i a.to]⟩),(3,⟨36,.fix [.i b.proc,.i b.obj,.i b.kind,.i b.arg,.i b.ret,.i b.frm,.i b.to]⟩)],[3,2,999]⟩)
  (True ∧ True ∧ True ∧ True) (by kernel_rfl)
  ⟨tt,tt,tt,tt⟩ ?_
 refine W.K cok tab47 hnt [] [4] (⟨[(4,.b ((!(isBefore a b)) && (!(isBefore b a))))],[(2,⟨36,.fix [.i a.proc,.i a.obj,.i a.kind,.i a.arg,.i a.ret,.i a.frm,.i a.to]⟩),(3,⟨36,.fix [.i b.proc,.i b.obj,.i b.kind,.i b.arg,.i b.ret,.i b.frm,.i b.to]⟩)],[3,2,999]⟩)
  (True ∧ True ∧ (True ∧ (True ∧ True ∧ True) ∧ True) ∧ True ∧ True ∧ ((!(isBefore a b)) = true → True) ∧ ((!(isBefore a b)) = true → True) ∧ ((!(isBefore a b)) = true → (True ∧ ((((!(isBefore a b)) = true) ∧ True) ∧ (((!(isBefore a b)) = true) ∧ True) ∧ True) ∧ True)) ∧ ((!(isBefore a b)) = true → (((!(isBefore a b)) = true) ∧ True)) ∧ (True ∧ ((!(isBefore a b)) = true → ((!(isBefore a b)) = true) ∧ True) ∧ ((!(isBefore a b)) = false → True)) ∧ True ∧ True) (by kernel_rfl)
  ⟨tt,tt,⟨tt,⟨tt,tt,tt⟩,tt⟩,tt,tt,(fun _ => trivial),(fun _ => trivial),(fun hG => ⟨tt,⟨⟨hG,tt⟩,⟨hG,tt⟩,tt⟩,tt⟩),(fun hG => ⟨hG,tt⟩),⟨tt,(fun hp => ⟨hp,tt⟩),(fun _ => trivial)⟩,tt,tt⟩ ?_
 refine W.ret ?_
 exact endQ_ret (.b ((!(isBefore a b)) && (!(isBefore b a)))) (by kernel_rfl) (@cast ((.bool ((!(isBefore a b)) && (!(isBefore b a))) : Value) = .bool (doOverlap a b)) _ (by kernel_rfl) (congrArg Value.bool (by first | rfl | simp_all)))
theorem ent47 : Entr prog 47 := ⟨_,func47,rfl,by decide⟩
end Go.Proofs.Try

set_option linter.unusedSimpArgs false
set_option linter.unusedVariables false
namespace Go.Proofs.Try
open Go.Ab Go.RowKit
def fs12 : FnS := fnS [.s .calls] [.calls] (fun _ (h,_) => (.b (validHistory h),[],True))
abbrev T12 : Tab := lk [(46,fs46),(47,fs47)]
theorem tab12 : TabOK prog T12 := (TabOK.cons ok46 ent46 (TabOK.cons ok47 ent47 TabOK.nil))
set_option maxRecDepth 100000 in
set_option maxHeartbeats 1000000 in
theorem ok12 : FnOK prog 12 fs12 := by
 refine FnOK.mk cok func12 rfl rfl rfl ?_
 rintro fl ⟨(h : List CallD),_⟩ hpre F hnt0 _
 have hnt : F.nt = 68 := hnt0.trans ntmps12
 clear hpre
 refine W.to (⟨[(0,.sl (.calls h))],[],[999]⟩) rfl ?_
 refine W.lenOf 0 (.calls h) (by kernel_rfl) ?_
 intro hl_h; replace hl_h : List.length h ≤ 9223372036854775807 := hl_h
 refine W.K cok tab12 hnt [] [0] (⟨[(0,.sl (.calls h))],[],[999]⟩)
  (True ∧ True) (by kernel_rfl)
  ⟨tt,tt⟩ ?_
 refine W.seq ?_
 refine W.K cok tab12 hnt [] [0,9] (⟨[(0,.sl (.calls h)),(9,.b (decide ((6 : Int) < (h.length : Int))))],[],[999]⟩)
  (True ∧ True ∧ (True ∧ True ∧ True) ∧ True) (by kernel_rfl)
  ⟨tt,tt,⟨tt,tt,tt⟩,tt⟩ ?_
 refine W.ifP ((6 : Int) < (h.length : Int)) (.b (decide ((6 : Int) < (h.length : Int)))) (by kernel_rfl) rfl trivial ?_ ?_
 ·intro h9
  refine W.K cok tab12 hnt [] [2] (⟨[(2,.b false)],[],[999]⟩)
   (True ∧ True) (by kernel_rfl)
   ⟨tt,tt⟩ ?_
  refine W.ret (thenQ_ret ?_)
  exact endQ_ret (.b false) (by kernel_rfl) (@cast ((.bool false : Value) = .bool (validHistory h)) _ (by kernel_rfl) (congrArg Value.bool (by unfold validHistory; symm; exact and_fl (decide_eq_false (by omega)))))
 ·intro n9
  refine W.skip (thenQ_normal ?_)
  refine W.seq ?_
  refine W.K cok tab12 hnt [] [0,10,11,12] (⟨[(0,.sl (.calls h)),(10,.sl (.calls h)),(11,.i (h.length : Int)),(12,.i (0 : Int))],[],[999]⟩)
   (True ∧ True ∧ True ∧ True) (by kernel_rfl)
   ⟨tt,tt,tt,tt⟩ ?_
  refine W.block ?_
  refine W.loop (ι := Nat) (fun (i : Nat) => (⟨[(0,.sl (.calls h)),(10,.sl (.calls h)),(11,.i (h.length : Int)),(12,.i ((i : Nat) : Int))],[],[999]⟩ : St))
   (fun (i : Nat) => (i ≤ h.length) ∧ (∀ j,j < i → (isCall (callAt h j) && allN j (fun k => !clash (callAt h j) (callAt h k))) = true))
   (fun (i : Nat) => (h.length - i : Nat)) (0) ?_ ?_ ?_
  ·exact (show (0 ≤ h.length) ∧ (∀ j,j < 0 → (isCall (callAt h j) && allN j (fun k => !clash (callAt h j) (callAt h k))) = true) from ⟨(by first | assumption | omega | rfl | (intro _ hjj; omega) | (simp; done) | (simp; omega)),(by exact upto_zero)⟩)
  ·exact Sub.of [] (@cast ((((.calls h : Dat) = .calls h) ∧ (((.calls h : Dat) = .calls h) ∧ (((.int .i64 (h.length : Int) : Value) = .int .i64 (h.length : Int)) ∧ (((.int .i64 (0 : Int) : Value) = .int .i64 ((0 : Nat) : Int)) ∧ True)))) ∧ (True ∧ ((true = true) ∧ (true = true)))) _ (by kernel_rfl) ⟨⟨rfl,rfl,rfl,(congrArg (Value.int .i64) (by first | rfl | omega | assumption | simp | simp_all)),tt⟩,tt,rfl,rfl⟩)
  ·rintro i hC0
   have hC : (i ≤ h.length) ∧ (∀ j,j < i → (isCall (callAt h j) && allN j (fun k => !clash (callAt h j) (callAt h k))) = true) := hC0
   clear hC0
   obtain ⟨hi,hA⟩ := hC
   refine W.to (⟨[(0,.sl (.calls h)),(10,.sl (.calls h)),(11,.i (h.length : Int)),(12,.i ((i : Nat) : Int))],[],[999]⟩) rfl ?_
   refine W.K cok tab12 hnt [] [0,10,11,12,13] (⟨[(0,.sl (.calls h)),(10,.sl (.calls h)),(11,.i (h.length : Int)),(12,.i ((i : Nat) : Int)),(13,.b (decide (((i : Nat) : Int) < (h.length : Int))))],[],[999]⟩)
    ((True ∧ True ∧ True) ∧ True) (by kernel_rfl)
    ⟨⟨tt,tt,tt⟩,tt⟩ ?_
   refine W.seq ?_
   refine W.ifP (((i : Nat) : Int) < (h.length : Int)) (.b (decide (((i : Nat) : Int) < (h.length : Int)))) (by kernel_rfl) rfl trivial ?_ ?_
   ·intro h13
    refine W.skip (thenQ_normal ?_)
    refine W.seq ?_
    refine W.block ?_
    refine W.K cok tab12 hnt [] [0,3,4,10,11,12] (⟨[(0,.sl (.calls h)),(3,.i ((i : Nat) : Int)),(4,.ptr 4 0),(10,.sl (.calls h)),(11,.i (h.length : Int)),(12,.i ((i : Nat) : Int))],[(4,⟨36,.fix [.i ((h.getD i default).proc),.i ((h.getD i default).obj),.i ((h.getD i default).kind),.i ((h.getD i default).arg),.i ((h.getD i default).ret),.i ((h.getD i default).frm),.i ((h.getD i default).to)]⟩)],[4,999]⟩)
     (True ∧ (True ∧ True ∧ (0 ≤ ((i : Nat) : Int)) ∧ (((i : Nat) : Int) < (h.length : Int))) ∧ True ∧ True ∧ True ∧ (True ∧ True) ∧ True) (by kernel_rfl)
     ⟨tt,⟨tt,tt,(by omega),(by omega)⟩,tt,tt,tt,⟨tt,tt⟩,tt⟩ ?_
    refine W.seq ?_
    refine W.K cok tab12 hnt [] [0,3,4,10,11,12,19] (⟨[(0,.sl (.calls h)),(3,.i ((i : Nat) : Int)),(4,.ptr 4 0),(10,.sl (.calls h)),(11,.i (h.length : Int)),(12,.i ((i : Nat) : Int)),(19,.b (!(isCall (h.getD i default))))],[(4,⟨36,.fix [.i ((h.getD i default).proc),.i ((h.getD i default).obj),.i ((h.getD i default).kind),.i ((h.getD i default).arg),.i ((h.getD i default).ret),.i ((h.getD i default).frm),.i ((h.getD i default).to)]⟩)],[4,999]⟩)
     (True ∧ (True ∧ (True ∧ True) ∧ True) ∧ True ∧ True) (by kernel_rfl)
     ⟨tt,⟨tt,⟨tt,tt⟩,tt⟩,tt,tt⟩ ?_
    refine W.if' (!(isCall (h.getD i default))) (.b (!(isCall (h.getD i default)))) (by kernel_rfl) rfl trivial ?_ ?_
    ·intro h19
     refine W.K cok tab12 hnt [] [2] (⟨[(2,.b false)],[(4,⟨36,.fix [.i ((h.getD i default).proc),.i ((h.getD i default).obj),.i ((h.getD i default).kind),.i ((h.getD i default).arg),.i ((h.getD i default).ret),.i ((h.getD i default).frm),.i ((h.getD i default).to)]⟩)],[4,999]⟩)
      (True ∧ True) (by kernel_rfl)
      ⟨tt,tt⟩ ?_
     refine W.ret (thenQ_ret (blockQ_ret (thenQ_ret (thenQ_ret (blockQ_ret (thenQ_ret ?_))))))
     exact endQ_ret (.b false) (by kernel_rfl) (@cast ((.bool false : Value) = .bool (validHistory h)) _ (by kernel_rfl) (congrArg Value.bool (by unfold validHistory; symm; exact and_fr (allN_false (i := i) (by omega) (and_fl (not_f h19))))))
    ·intro n19
     refine W.skip (thenQ_normal ?_)
     refine W.K cok tab12 hnt [] [0,4,10,11,12,22,23,24] (⟨[(0,.sl (.calls h)),(4,.ptr 4 0),(10,.sl (.calls h)),(11,.i (h.length : Int)),(12,.i ((i : Nat) : Int)),(22,.sl (.calls (List.take i h))),(23,.i (((List.length (List.take i h)) : Nat) : Int)),(24,.i (0 : Int))],[(4,⟨36,.fix [.i ((h.getD i default).proc),.i ((h.getD i default).obj),.i ((h.getD i default).kind),.i ((h.getD i default).arg),.i ((h.getD i default).ret),.i ((h.getD i default).frm),.i ((h.getD i default).to)]⟩)],[4,999]⟩)
      (True ∧ True ∧ (True ∧ True ∧ True ∧ (0 ≤ (0 : Int)) ∧ ((0 : Int) ≤ ((i : Nat) : Int)) ∧ (((i : Nat) : Int) ≤ (h.length : Int))) ∧ True ∧ True ∧ True) (by kernel_rfl)
      ⟨tt,tt,⟨tt,tt,tt,(by omega),(by omega),(by omega)⟩,tt,tt,tt⟩ ?_
     refine W.block ?_
     refine W.loop (ι := Nat) (fun (k : Nat) => (⟨[(0,.sl (.calls h)),(4,.ptr 4 0),(10,.sl (.calls h)),(11,.i (h.length : Int)),(12,.i ((i : Nat) : Int)),(22,.sl (.calls (List.take i h))),(23,.i (((List.length (List.take i h)) : Nat) : Int)),(24,.i ((k : Nat) : Int))],[(4,⟨36,.fix [.i ((h.getD i default).proc),.i ((h.getD i default).obj),.i ((h.getD i default).kind),.i ((h.getD i default).arg),.i ((h.getD i default).ret),.i ((h.getD i default).frm),.i ((h.getD i default).to)]⟩)],[4,999]⟩ : St))
      (fun (k : Nat) => (k ≤ i) ∧ (∀ j,j < k → (!clash (callAt h i) (callAt h j)) = true))
      (fun (k : Nat) => (i - k : Nat)) (0) ?_ ?_ ?_
     ·exact (show (0 ≤ i) ∧ (∀ j,j < 0 → (!clash (callAt h i) (callAt h j)) = true) from ⟨(by first | assumption | omega | rfl | (intro _ hjj; omega) | (simp; done) | (simp; omega)),(by exact upto_zero)⟩)
     ·exact Sub.of [] (@cast ((((.calls h : Dat) = .calls h) ∧ ((((4 : Nat) = 4) ∧ (((0 : Nat) = 0) ∧ ((4 : Nat) ∈ ([4,999] : List Nat)))) ∧ (((.calls h : Dat) = .calls h) ∧ (((.int .i64 (h.length : Int) : Value) = .int .i64 (h.length : Int)) ∧ (((.int .i64 ((i : Nat) : Int) : Value) = .int .i64 ((i : Nat) : Int)) ∧ (((.calls (List.take i h) : Dat) = .calls (List.take i h)) ∧ (((.int .i64 (((List.length (List.take i h)) : Nat) : Int) : Value) = .int .i64 (((List.length (List.take i h)) : Nat) : Int)) ∧ (((.int .i64 (0 : Int) : Value) = .int .i64 ((0 : Nat) : Int)) ∧ True)))))))) ∧ (((((36 : Nat) = 36) ∧ ((((.int .i64 ((h.getD i default).proc) : Value) = .int .i64 ((h.getD i default).proc)) ∧ (((.int .i64 ((h.getD i default).obj) : Value) = .int .i64 ((h.getD i default).obj)) ∧ (((.int .i64 ((h.getD i default).kind) : Value) = .int .i64 ((h.getD i default).kind)) ∧ (((.int .i64 ((h.getD i default).arg) : Value) = .int .i64 ((h.getD i default).arg)) ∧ (((.int .i64 ((h.getD i default).ret) : Value) = .int .i64 ((h.getD i default).ret)) ∧ (((.int .i64 ((h.getD i default).frm) : Value) = .int .i64 ((h.getD i default).frm)) ∧ (((.int .i64 ((h.getD i default).to) : Value) = .int .i64 ((h.getD i default).to)) ∧ True))))))) ∧ ((4 : Nat) ∈ ([4,999] : List Nat)))) ∧ True) ∧ ((true = true) ∧ (true = true)))) _ (by kernel_rfl) ⟨⟨rfl,⟨rfl,rfl,(by decide)⟩,rfl,rfl,rfl,rfl,rfl,(congrArg (Value.int .i64) (by first | rfl | omega | assumption | simp | simp_all)),tt⟩,⟨⟨rfl,⟨rfl,rfl,rfl,rfl,rfl,rfl,rfl,tt⟩,(by decide)⟩,tt⟩,rfl,rfl⟩)
     ·rintro k hC0
      have hC : (k ≤ i) ∧ (∀ j,j < k → (!clash (callAt h i) (callAt h j)) = true) := hC0
      clear hC0
      obtain ⟨hk,hB⟩ := hC
      refine W.to (⟨[(0,.sl (.calls h)),(4,.ptr 4 0),(10,.sl (.calls h)),(11,.i (h.length : Int)),(12,.i ((i : Nat) : Int)),(22,.sl (.calls (List.take i h))),(23,.i (((List.length (List.take i h)) : Nat) : Int)),(24,.i ((k : Nat) : Int))],[(4,⟨36,.fix [.i ((h.getD i default).proc),.i ((h.getD i default).obj),.i ((h.getD i default).kind),.i ((h.getD i default).arg),.i ((h.getD i default).ret),.i ((h.getD i default).frm),.i ((h.getD i default).to)]⟩)],[4,999]⟩) rfl ?_
      refine W.K cok tab12 hnt [] [0,4,10,11,12,22,23,24,25] (⟨[(0,.sl (.calls h)),(4,.ptr 4 0),(10,.sl (.calls h)),(11,.i (h.length : Int)),(12,.i ((i : Nat) : Int)),(22,.sl (.calls (List.take i h))),(23,.i (((List.length (List.take i h)) : Nat) : Int)),(24,.i ((k : Nat) : Int)),(25,.b (decide (((k : Nat) : Int) < (((List.length (List.take i h)) : Nat) : Int))))],[(4,⟨36,.fix [.i ((h.getD i default).proc),.i ((h.getD i default).obj),.i ((h.getD i default).kind),.i ((h.getD i default).arg),.i ((h.getD i default).ret),.i ((h.getD i default).frm),.i ((h.getD i default).to)]⟩)],[4,999]⟩)
       ((True ∧ True ∧ True) ∧ True) (by kernel_rfl)
       ⟨⟨tt,tt,tt⟩,tt⟩ ?_
      refine W.seq ?_
      refine W.ifP (((k : Nat) : Int) < (((List.length (List.take i h)) : Nat) : Int)) (.b (decide (((k : Nat) : Int) < (((List.length (List.take i h)) : Nat) : Int)))) (by kernel_rfl) rfl trivial ?_ ?_
      ·intro h25
       have h25' := h25
       simp only [List.length_append,List.length_cons,List.length_nil,List.length_take,List.length_drop,List.length_set,List.length_replicate,List.length_map] at h25'
       refine W.skip (thenQ_normal ?_)
       refine W.seq ?_
       refine W.block ?_
       refine W.K cok tab12 hnt [] [0,4,6,10,11,12,22,23,24] (⟨[(0,.sl (.calls h)),(4,.ptr 4 0),(6,.ptr 6 0),(10,.sl (.calls h)),(11,.i (h.length : Int)),(12,.i ((i : Nat) : Int)),(22,.sl (.calls (List.take i h))),(23,.i (((List.length (List.take i h)) : Nat) : Int)),(24,.i ((k : Nat) : Int))],[(4,⟨36,.fix [.i ((h.getD i default).proc),.i ((h.getD i default).obj),.i ((h.getD i default).kind),.i ((h.getD i default).arg),.i ((h.getD i default).ret),.i ((h.getD i default).frm),.i ((h.getD i default).to)]⟩),(6,⟨36,.fix [.i ((List.getD (List.take i h) k default).proc),.i ((List.getD (List.take i h) k default).obj),.i ((List.getD (List.take i h) k default).kind),.i ((List.getD (List.take i h) k default).arg),.i ((List.getD (List.take i h) k default).ret),.i ((List.getD (List.take i h) k default).frm),.i ((List.getD (List.take i h) k default).to)]⟩)],[6,4,999]⟩)
        ((True ∧ True ∧ (0 ≤ ((k : Nat) : Int)) ∧ (((k : Nat) : Int) < (((List.length (List.take i h)) : Nat) : Int))) ∧ True ∧ True ∧ (True ∧ True) ∧ True) (by kernel_rfl)
        ⟨⟨tt,tt,(by omega),(by (first | omega | (simp only [List.length_append,List.length_cons,List.length_nil,List.length_take,List.length_drop,List.length_set,List.length_replicate,List.length_map] at *; omega) | assumption))⟩,tt,tt,⟨tt,tt⟩,tt⟩ ?_
       refine W.K cok tab12 hnt [] [0,4,10,11,12,22,23,24,65] (⟨[(0,.sl (.calls h)),(4,.ptr 4 0),(10,.sl (.calls h)),(11,.i (h.length : Int)),(12,.i ((i : Nat) : Int)),(22,.sl (.calls (List.take i h))),(23,.i (((List.length (List.take i h)) : Nat) : Int)),(24,.i ((k : Nat) : Int)),(65,.b (((((decide (((h.getD i default).frm) = ((List.getD (List.take i h) k default).frm))) || (decide (((h.getD i default).frm) = ((List.getD (List.take i h) k default).to)))) || (decide (((h.getD i default).to) = ((List.getD (List.take i h) k default).frm)))) || (decide (((h.getD i default).to) = ((List.getD (List.take i h) k default).to)))) || ((decide (((h.getD i default).proc) = ((List.getD (List.take i h) k default).proc))) && (doOverlap (h.getD i default) (List.getD (List.take i h) k default)))))],[(4,⟨36,.fix [.i ((h.getD i default).proc),.i ((h.getD i default).obj),.i ((h.getD i default).kind),.i ((h.getD i default).arg),.i ((h.getD i default).ret),.i ((h.getD i default).frm),.i ((h.getD i default).to)]⟩),(6,⟨36,.fix [.i ((List.getD (List.take i h) k default).proc),.i ((List.getD (List.take i h) k default).obj),.i ((List.getD (List.take i h) k default).kind),.i ((List.getD (List.take i h) k default).arg),.i ((List.getD (List.take i h) k default).ret),.i ((List.getD (List.take i h) k default).frm),.i ((List.getD (List.take i h) k default).to)]⟩)],[6,4,999]⟩)
        (True ∧ True ∧ True ∧ True ∧ (True ∧ True ∧ True) ∧ True ∧ ((!(decide (((h.getD i default).frm) = ((List.getD (List.take i h) k default).frm)))) = true → True) ∧ ((!(decide (((h.getD i default).frm) = ((List.getD (List.take i h) k default).frm)))) = true → (((!(decide (((h.getD i default).frm) = ((List.getD (List.take i h) k default).frm)))) = true) ∧ True)) ∧ ((!(decide (((h.getD i default).frm) = ((List.getD (List.take i h) k default).frm)))) = true → True) ∧ ((!(decide (((h.getD i default).frm) = ((List.getD (List.take i h) k default).frm)))) = true → (((!(decide (((h.getD i default).frm) = ((List.getD (List.take i h) k default).frm)))) = true) ∧ True)) ∧ ((!(decide (((h.getD i default).frm) = ((List.getD (List.take i h) k default).frm)))) = true → ((((!(decide (((h.getD i default).frm) = ((List.getD (List.take i h) k default).frm)))) = true) ∧ True) ∧ (((!(decide (((h.getD i default).frm) = ((List.getD (List.take i h) k default).frm)))) = true) ∧ True) ∧ True)) ∧ (True ∧ ((decide (((h.getD i default).frm) = ((List.getD (List.take i h) k default).frm))) = true → True) ∧ ((decide (((h.getD i default).frm) = ((List.getD (List.take i h) k default).frm))) = false → ((!(decide (((h.getD i default).frm) = ((List.getD (List.take i h) k default).frm)))) = true) ∧ True)) ∧ True ∧ ((!((decide (((h.getD i default).frm) = ((List.getD (List.take i h) k default).frm))) || (decide (((h.getD i default).frm) = ((List.getD (List.take i h) k default).to))))) = true → True) ∧ ((!((decide (((h.getD i default).frm) = ((List.getD (List.take i h) k default).frm))) || (decide (((h.getD i default).frm) = ((List.getD (List.take i h) k default).to))))) = true → (((!((decide (((h.getD i default).frm) = ((List.getD (List.take i h) k default).frm))) || (decide (((h.getD i default).frm) = ((List.getD (List.take i h) k default).to))))) = true) ∧ True)) ∧ ((!((decide (((h.getD i default).frm) = ((List.getD (List.take i h) k default).frm))) || (decide (((h.getD i default).frm) = ((List.getD (List.take i h) k default).to))))) = true → True) ∧ ((!((decide (((h.getD i default).frm) = ((List.getD (List.take i h) k default).frm))) || (decide (((h.getD i default).frm) = ((List.getD (List.take i h) k default).to))))) = true → (((!((decide (((h.getD i default).frm) = ((List.getD (List.take i h) k default).frm))) || (decide (((h.getD i default).frm) = ((List.getD (List.take i h) k default).to))))) = true) ∧ True)) ∧ ((!((decide (((h.getD i default).frm) = ((List.getD (List.take i h) k default).frm))) || (decide (((h.getD i default).frm) = ((List.getD (List.take i h) k default).to))))) = true → ((((!((decide (((h.getD i default).frm) = ((List.getD (List.take i h) k default).frm))) || (decide (((h.getD i default).frm) = ((List.getD (List.take i h) k default).to))))) = true) ∧ True) ∧ (((!((decide (((h.getD i default).frm) = ((List.getD (List.take i h) k default).frm))) || (decide (((h.getD i default).frm) = ((List.getD (List.take i h) k default).to))))) = true) ∧ True) ∧ True)) ∧ (True ∧ (((decide (((h.getD i default).frm) = ((List.getD (List.take i h) k default).frm))) || (decide (((h.getD i default).frm) = ((List.getD (List.take i h) k default).to)))) = true → True) ∧ (((decide (((h.getD i default).frm) = ((List.getD (List.take i h) k default).frm))) || (decide (((h.getD i default).frm) = ((List.getD (List.take i h) k default).to)))) = false → ((!((decide (((h.getD i default).frm) = ((List.getD (List.take i h) k default).frm))) || (decide (((h.getD i default).frm) = ((List.getD (List.take i h) k default).to))))) = true) ∧ True)) ∧ True ∧ ((!(((decide (((h.getD i default).frm) = ((List.getD (List.take i h) k default).frm))) || (decide (((h.getD i default).frm) = ((List.getD (List.take i h) k default).to)))) || (decide (((h.getD i default).to) = ((List.getD (List.take i h) k default).frm))))) = true → True) ∧ ((!(((decide (((h.getD i default).frm) = ((List.getD (List.take i h) k default).frm))) || (decide (((h.getD i default).frm) = ((List.getD (List.take i h) k default).to)))) || (decide (((h.getD i default).to) = ((List.getD (List.take i h) k default).frm))))) = true → (((!(((decide (((h.getD i default).frm) = ((List.getD (List.take i h) k default).frm))) || (decide (((h.getD i default).frm) = ((List.getD (List.take i h) k default).to)))) || (decide (((h.getD i default).to) = ((List.getD (List.take i h) k default).frm))))) = true) ∧ True)) ∧ ((!(((decide (((h.getD i default).frm) = ((List.getD (List.take i h) k default).frm))) || (decide (((h.getD i default).frm) = ((List.getD (List.take i h) k default).to)))) || (decide (((h.getD i default).to) = ((List.getD (List.take i h) k default).frm))))) = true → True) ∧ ((!(((decide (((h.getD i default).frm) = ((List.getD (List.take i h) k default).frm))) || (decide (((h.getD i default).frm) = ((List.getD (List.take i h) k default).to)))) || (decide (((h.getD i default).to) = ((List.getD (List.take i h) k default).frm))))) = true → (((!(((decide (((h.getD i default).frm) = ((List.getD (List.take i h) k default).frm))) || (decide (((h.getD i default).frm) = ((List.getD (List.take i h) k default).to)))) || (decide (((h.getD i default).to) = ((List.getD (List.take i h) k default).frm))))) = true) ∧ True)) ∧ ((!(((decide (((h.getD i default).frm) = ((List.getD (List.take i h) k default).frm))) || (decide (((h.getD i default).frm) = ((List.getD (List.take i h) k default).to)))) || (decide (((h.getD i default).to) = ((List.getD (List.take i h) k default).frm))))) = true → ((((!(((decide (((h.getD i default).frm) = ((List.getD (List.take i h) k default).frm))) || (decide (((h.getD i default).frm) = ((List.getD (List.take i h) k default).to)))) || (decide (((h.getD i default).to) = ((List.getD (List.take i h) k default).frm))))) = true) ∧ True) ∧ (((!(((decide (((h.getD i default).frm) = ((List.getD (List.take i h) k default).frm))) || (decide (((h.getD i default).frm) = ((List.getD (List.take i h) k default).to)))) || (decide (((h.getD i default).to) = ((List.getD (List.take i h) k default).frm))))) = true) ∧ True) ∧ True)) ∧ (True ∧ ((((decide (((h.getD i default).frm) = ((List.getD (List.take i h) k default).frm))) || (decide (((h.getD i default).frm) = ((List.getD (List.take i h) k default).to)))) || (decide (((h.getD i default).to) = ((List.getD (List.take i h) k default).frm)))) = true → True) ∧ ((((decide (((h.getD i default).frm) = ((List.getD (List.take i h) k default).frm))) || (decide (((h.getD i default).frm) = ((List.getD (List.take i h) k default).to)))) || (decide (((h.getD i default).to) = ((List.getD (List.take i h) k default).frm)))) = false → ((!(((decide (((h.getD i default).frm) = ((List.getD (List.take i h) k default).frm))) || (decide (((h.getD i default).frm) = ((List.getD (List.take i h) k default).to)))) || (decide (((h.getD i default).to) = ((List.getD (List.take i h) k default).frm))))) = true) ∧ True)) ∧ True ∧ ((!((((decide (((h.getD i default).frm) = ((List.getD (List.take i h) k default).frm))) || (decide (((h.getD i default).frm) = ((List.getD (List.take i h) k default).to)))) || (decide (((h.getD i default).to) = ((List.getD (List.take i h) k default).frm)))) || (decide (((h.getD i default).to) = ((List.getD (List.take i h) k default).to))))) = true → True) ∧ ((!((((decide (((h.getD i default).frm) = ((List.getD (List.take i h) k default).frm))) || (decide (((h.getD i default).frm) = ((List.getD (List.take i h) k default).to)))) || (decide (((h.getD i default).to) = ((List.getD (List.take i h) k default).frm)))) || (decide (((h.getD i default).to) = ((List.getD (List.take i h) k default).to))))) = true → (((!((((decide (((h.getD i default).frm) = ((List.getD (List.take i h) k default).frm))) || (decide (((h.getD i default).frm) = ((List.getD (List.take i h) k default).to)))) || (decide (((h.getD i default).to) = ((List.getD (List.take i h) k default).frm)))) || (decide (((h.getD i default).to) = ((List.getD (List.take i h) k default).to))))) = true) ∧ True)) ∧ ((!((((decide (((h.getD i default).frm) = ((List.getD (List.take i h) k default).frm))) || (decide (((h.getD i default).frm) = ((List.getD (List.take i h) k default).to)))) || (decide (((h.getD i default).to) = ((List.getD (List.take i h) k default).frm)))) || (decide (((h.getD i default).to) = ((List.getD (List.take i h) k default).to))))) = true → True) ∧ ((!((((decide (((h.getD i default).frm) = ((List.getD (List.take i h) k default).frm))) || (decide (((h.getD i default).frm) = ((List.getD (List.take i h) k default).to)))) || (decide (((h.getD i default).to) = ((List.getD (List.take i h) k default).frm)))) || (decide (((h.getD i default).to) = ((List.getD (List.take i h) k default).to))))) = true → (((!((((decide (((h.getD i default).frm) = ((List.getD (List.take i h) k default).frm))) || (decide (((h.getD i default).frm) = ((List.getD (List.take i h) k default).to)))) || (decide (((h.getD i default).to) = ((List.getD (List.take i h) k default).frm)))) || (decide (((h.getD i default).to) = ((List.getD (List.take i h) k default).to))))) = true) ∧ True)) ∧ ((!((((decide (((h.getD i default).frm) = ((List.getD (List.take i h) k default).frm))) || (decide (((h.getD i default).frm) = ((List.getD (List.take i h) k default).to)))) || (decide (((h.getD i default).to) = ((List.getD (List.take i h) k default).frm)))) || (decide (((h.getD i default).to) = ((List.getD (List.take i h) k default).to))))) = true → ((((!((((decide (((h.getD i default).frm) = ((List.getD (List.take i h) k default).frm))) || (decide (((h.getD i default).frm) = ((List.getD (List.take i h) k default).to)))) || (decide (((h.getD i default).to) = ((List.getD (List.take i h) k default).frm)))) || (decide (((h.getD i default).to) = ((List.getD (List.take i h) k default).to))))) = true) ∧ True) ∧ (((!((((decide (((h.getD i default).frm) = ((List.getD (List.take i h) k default).frm))) || (decide (((h.getD i default).frm) = ((List.getD (List.take i h) k default).to)))) || (decide (((h.getD i default).to) = ((List.getD (List.take i h) k default).frm)))) || (decide (((h.getD i default).to) = ((List.getD (List.take i h) k default).to))))) = true) ∧ True) ∧ True)) ∧ ((!((((decide (((h.getD i default).frm) = ((List.getD (List.take i h) k default).frm))) || (decide (((h.getD i default).frm) = ((List.getD (List.take i h) k default).to)))) || (decide (((h.getD i default).to) = ((List.getD (List.take i h) k default).frm)))) || (decide (((h.getD i default).to) = ((List.getD (List.take i h) k default).to))))) = true → True) ∧ (((!((((decide (((h.getD i default).frm) = ((List.getD (List.take i h) k default).frm))) || (decide (((h.getD i default).frm) = ((List.getD (List.take i h) k default).to)))) || (decide (((h.getD i default).to) = ((List.getD (List.take i h) k default).frm)))) || (decide (((h.getD i default).to) = ((List.getD (List.take i h) k default).to))))) && ((!((((decide (((h.getD i default).frm) = ((List.getD (List.take i h) k default).frm))) || (decide (((h.getD i default).frm) = ((List.getD (List.take i h) k default).to)))) || (decide (((h.getD i default).to) = ((List.getD (List.take i h) k default).frm)))) || (decide (((h.getD i default).to) = ((List.getD (List.take i h) k default).to))))) && (decide (((h.getD i default).proc) = ((List.getD (List.take i h) k default).proc))))) = true → True) ∧ (((!((((decide (((h.getD i default).frm) = ((List.getD (List.take i h) k default).frm))) || (decide (((h.getD i default).frm) = ((List.getD (List.take i h) k default).to)))) || (decide (((h.getD i default).to) = ((List.getD (List.take i h) k default).frm)))) || (decide (((h.getD i default).to) = ((List.getD (List.take i h) k default).to))))) && ((!((((decide (((h.getD i default).frm) = ((List.getD (List.take i h) k default).frm))) || (decide (((h.getD i default).frm) = ((List.getD (List.take i h) k default).to)))) || (decide (((h.getD i default).to) = ((List.getD (List.take i h) k default).frm)))) || (decide (((h.getD i default).to) = ((List.getD (List.take i h) k default).to))))) && (decide (((h.getD i default).proc) = ((List.getD (List.take i h) k default).proc))))) = true → True) ∧ (((!((((decide (((h.getD i default).frm) = ((List.getD (List.take i h) k default).frm))) || (decide (((h.getD i default).frm) = ((List.getD (List.take i h) k default).to)))) || (decide (((h.getD i default).to) = ((List.getD (List.take i h) k default).frm)))) || (decide (((h.getD i default).to) = ((List.getD (List.take i h) k default).to))))) && ((!((((decide (((h.getD i default).frm) = ((List.getD (List.take i h) k default).frm))) || (decide (((h.getD i default).frm) = ((List.getD (List.take i h) k default).to)))) || (decide (((h.getD i default).to) = ((List.getD (List.take i h) k default).frm)))) || (decide (((h.getD i default).to) = ((List.getD (List.take i h) k default).to))))) && (decide (((h.getD i default).proc) = ((List.getD (List.take i h) k default).proc))))) = true → (True ∧ (((((!((((decide (((h.getD i default).frm) = ((List.getD (List.take i h) k default).frm))) || (decide (((h.getD i default).frm) = ((List.getD (List.take i h) k default).to)))) || (decide (((h.getD i default).to) = ((List.getD (List.take i h) k default).frm)))) || (decide (((h.getD i default).to) = ((List.getD (List.take i h) k default).to))))) && ((!((((decide (((h.getD i default).frm) = ((List.getD (List.take i h) k default).frm))) || (decide (((h.getD i default).frm) = ((List.getD (List.take i h) k default).to)))) || (decide (((h.getD i default).to) = ((List.getD (List.take i h) k default).frm)))) || (decide (((h.getD i default).to) = ((List.getD (List.take i h) k default).to))))) && (decide (((h.getD i default).proc) = ((List.getD (List.take i h) k default).proc))))) = true) ∧ True) ∧ ((((!((((decide (((h.getD i default).frm) = ((List.getD (List.take i h) k default).frm))) || (decide (((h.getD i default).frm) = ((List.getD (List.take i h) k default).to)))) || (decide (((h.getD i default).to) = ((List.getD (List.take i h) k default).frm)))) || (decide (((h.getD i default).to) = ((List.getD (List.take i h) k default).to))))) && ((!((((decide (((h.getD i default).frm) = ((List.getD (List.take i h) k default).frm))) || (decide (((h.getD i default).frm) = ((List.getD (List.take i h) k default).to)))) || (decide (((h.getD i default).to) = ((List.getD (List.take i h) k default).frm)))) || (decide (((h.getD i default).to) = ((List.getD (List.take i h) k default).to))))) && (decide (((h.getD i default).proc) = ((List.getD (List.take i h) k default).proc))))) = true) ∧ True) ∧ True) ∧ True)) ∧ ((!((((decide (((h.getD i default).frm) = ((List.getD (List.take i h) k default).frm))) || (decide (((h.getD i default).frm) = ((List.getD (List.take i h) k default).to)))) || (decide (((h.getD i default).to) = ((List.getD (List.take i h) k default).frm)))) || (decide (((h.getD i default).to) = ((List.getD (List.take i h) k default).to))))) = true → ((((!((((decide (((h.getD i default).frm) = ((List.getD (List.take i h) k default).frm))) || (decide (((h.getD i default).frm) = ((List.getD (List.take i h) k default).to)))) || (decide (((h.getD i default).to) = ((List.getD (List.take i h) k default).frm)))) || (decide (((h.getD i default).to) = ((List.getD (List.take i h) k default).to))))) = true) ∧ ((!((((decide (((h.getD i default).frm) = ((List.getD (List.take i h) k default).frm))) || (decide (((h.getD i default).frm) = ((List.getD (List.take i h) k default).to)))) || (decide (((h.getD i default).to) = ((List.getD (List.take i h) k default).frm)))) || (decide (((h.getD i default).to) = ((List.getD (List.take i h) k default).to))))) = true) ∧ True) ∧ ((decide (((h.getD i default).proc) = ((List.getD (List.take i h) k default).proc))) = true → (((!((((decide (((h.getD i default).frm) = ((List.getD (List.take i h) k default).frm))) || (decide (((h.getD i default).frm) = ((List.getD (List.take i h) k default).to)))) || (decide (((h.getD i default).to) = ((List.getD (List.take i h) k default).frm)))) || (decide (((h.getD i default).to) = ((List.getD (List.take i h) k default).to))))) && ((!((((decide (((h.getD i default).frm) = ((List.getD (List.take i h) k default).frm))) || (decide (((h.getD i default).frm) = ((List.getD (List.take i h) k default).to)))) || (decide (((h.getD i default).to) = ((List.getD (List.take i h) k default).frm)))) || (decide (((h.getD i default).to) = ((List.getD (List.take i h) k default).to))))) && (decide (((h.getD i default).proc) = ((List.getD (List.take i h) k default).proc))))) = true) ∧ True) ∧ ((decide (((h.getD i default).proc) = ((List.getD (List.take i h) k default).proc))) = false → True))) ∧ (True ∧ (((((decide (((h.getD i default).frm) = ((List.getD (List.take i h) k default).frm))) || (decide (((h.getD i default).frm) = ((List.getD (List.take i h) k default).to)))) || (decide (((h.getD i default).to) = ((List.getD (List.take i h) k default).frm)))) || (decide (((h.getD i default).to) = ((List.getD (List.take i h) k default).to)))) = true → True) ∧ (((((decide (((h.getD i default).frm) = ((List.getD (List.take i h) k default).frm))) || (decide (((h.getD i default).frm) = ((List.getD (List.take i h) k default).to)))) || (decide (((h.getD i default).to) = ((List.getD (List.take i h) k default).frm)))) || (decide (((h.getD i default).to) = ((List.getD (List.take i h) k default).to)))) = false → ((!((((decide (((h.getD i default).frm) = ((List.getD (List.take i h) k default).frm))) || (decide (((h.getD i default).frm) = ((List.getD (List.take i h) k default).to)))) || (decide (((h.getD i default).to) = ((List.getD (List.take i h) k default).frm)))) || (decide (((h.getD i default).to) = ((List.getD (List.take i h) k default).to))))) = true) ∧ True)) ∧ True) (by kernel_rfl)
        ⟨tt,tt,tt,tt,⟨tt,tt,tt⟩,tt,(fun _ => trivial),(fun hG => ⟨hG,tt⟩),(fun _ => trivial),(fun hG => ⟨hG,tt⟩),(fun hG => ⟨⟨hG,tt⟩,⟨hG,tt⟩,tt⟩),⟨tt,(fun _ => trivial),(fun hp => ⟨(not_t hp),tt⟩)⟩,tt,(fun _ => trivial),(fun hG => ⟨hG,tt⟩),(fun _ => trivial),(fun hG => ⟨hG,tt⟩),(fun hG => ⟨⟨hG,tt⟩,⟨hG,tt⟩,tt⟩),⟨tt,(fun _ => trivial),(fun hp => ⟨(not_t hp),tt⟩)⟩,tt,(fun _ => trivial),(fun hG => ⟨hG,tt⟩),(fun _ => trivial),(fun hG => ⟨hG,tt⟩),(fun hG => ⟨⟨hG,tt⟩,⟨hG,tt⟩,tt⟩),⟨tt,(fun _ => trivial),(fun hp => ⟨(not_t hp),tt⟩)⟩,tt,(fun _ => trivial),(fun hG => ⟨hG,tt⟩),(fun _ => trivial),(fun hG => ⟨hG,tt⟩),(fun hG => ⟨⟨hG,tt⟩,⟨hG,tt⟩,tt⟩),(fun _ => trivial),(fun _ => trivial),(fun _ => trivial),(fun hG => ⟨tt,⟨⟨hG,tt⟩,⟨hG,tt⟩,tt⟩,tt⟩),(fun hG => ⟨⟨hG,hG,tt⟩,(fun hp => ⟨(and_t hG (and_t hG hp)),tt⟩),(fun _ => trivial)⟩),⟨tt,(fun _ => trivial),(fun hp => ⟨(not_t hp),tt⟩)⟩,tt⟩ ?_
       refine W.if' (((((decide (((h.getD i default).frm) = ((List.getD (List.take i h) k default).frm))) || (decide (((h.getD i default).frm) = ((List.getD (List.take i h) k default).to)))) || (decide (((h.getD i default).to) = ((List.getD (List.take i h) k default).frm)))) || (decide (((h.getD i default).to) = ((List.getD (List.take i h) k default).to)))) || ((decide (((h.getD i default).proc) = ((List.getD (List.take i h) k default).proc))) && (doOverlap (h.getD i default) (List.getD (List.take i h) k default)))) (.b (((((decide (((h.getD i default).frm) = ((List.getD (List.take i h) k default).frm))) || (decide (((h.getD i default).frm) = ((List.getD (List.take i h) k default).to)))) || (decide (((h.getD i default).to) = ((List.getD (List.take i h) k default).frm)))) || (decide (((h.getD i default).to) = ((List.getD (List.take i h) k default).to)))) || ((decide (((h.getD i default).proc) = ((List.getD (List.take i h) k default).proc))) && (doOverlap (h.getD i default) (List.getD (List.take i h) k default))))) (by kernel_rfl) rfl trivial ?_ ?_
       ·intro h65
        refine W.K cok tab12 hnt [] [2] (⟨[(2,.b false)],[(4,⟨36,.fix [.i ((h.getD i default).proc),.i ((h.getD i default).obj),.i ((h.getD i default).kind),.i ((h.getD i default).arg),.i ((h.getD i default).ret),.i ((h.getD i default).frm),.i ((h.getD i default).to)]⟩),(6,⟨36,.fix [.i ((List.getD (List.take i h) k default).proc),.i ((List.getD (List.take i h) k default).obj),.i ((List.getD (List.take i h) k default).kind),.i ((List.getD (List.take i h) k default).arg),.i ((List.getD (List.take i h) k default).ret),.i ((List.getD (List.take i h) k default).frm),.i ((List.getD (List.take i h) k default).to)]⟩)],[6,4,999]⟩)
         (True ∧ True) (by kernel_rfl)
         ⟨tt,tt⟩ ?_
        refine W.ret (blockQ_ret (thenQ_ret (thenQ_ret (blockQ_ret (blockQ_ret (thenQ_ret (thenQ_ret (blockQ_ret (thenQ_ret ?_)))))))))
        exact endQ_ret (.b false) (by kernel_rfl) (@cast ((.bool false : Value) = .bool (validHistory h)) _ (by kernel_rfl) (congrArg Value.bool (by unfold validHistory; symm; exact and_fr (allN_false (i := i) (by omega) (and_fr (allN_false (i := k) (by omega) (not_h (by rw [← h65,getD_take h (default : CallD) (show k < i by omega)]; rfl))))))))
       ·intro n65
        have n65_0 : ¬ (((h.getD i default).frm) = ((List.getD (List.take i h) k default).frm)) := of_decide_eq_false (or_l (or_l (or_l (or_l n65))))
        have n65_1 : ¬ (((h.getD i default).frm) = ((List.getD (List.take i h) k default).to)) := of_decide_eq_false (or_r (or_l (or_l (or_l n65))))
        have n65_2 : ¬ (((h.getD i default).to) = ((List.getD (List.take i h) k default).frm)) := of_decide_eq_false (or_r (or_l (or_l n65)))
        have n65_3 : ¬ (((h.getD i default).to) = ((List.getD (List.take i h) k default).to)) := of_decide_eq_false (or_r (or_l n65))
        refine W.skip (blockQ_normal (thenQ_normal ?_))
        refine W.L cok tab12 hnt [] (⟨[(0,.sl (.calls h)),(4,.ptr 4 0),(10,.sl (.calls h)),(11,.i (h.length : Int)),(12,.i ((i : Nat) : Int)),(22,.sl (.calls (List.take i h))),(23,.i (((List.length (List.take i h)) : Nat) : Int)),(24,.i (((k + 1) : Nat) : Int)),(65,.b (((((decide (((h.getD i default).frm) = ((List.getD (List.take i h) k default).frm))) || (decide (((h.getD i default).frm) = ((List.getD (List.take i h) k default).to)))) || (decide (((h.getD i default).to) = ((List.getD (List.take i h) k default).frm)))) || (decide (((h.getD i default).to) = ((List.getD (List.take i h) k default).to)))) || ((decide (((h.getD i default).proc) = ((List.getD (List.take i h) k default).proc))) && (doOverlap (h.getD i default) (List.getD (List.take i h) k default))))),(66,.i (((k + 1) : Nat) : Int))],[(4,⟨36,.fix [.i ((h.getD i default).proc),.i ((h.getD i default).obj),.i ((h.getD i default).kind),.i ((h.getD i default).arg),.i ((h.getD i default).ret),.i ((h.getD i default).frm),.i ((h.getD i default).to)]⟩),(6,⟨36,.fix [.i ((List.getD (List.take i h) k default).proc),.i ((List.getD (List.take i h) k default).obj),.i ((List.getD (List.take i h) k default).kind),.i ((List.getD (List.take i h) k default).arg),.i ((List.getD (List.take i h) k default).ret),.i ((List.getD (List.take i h) k default).frm),.i ((List.getD (List.take i h) k default).to)]⟩)],[6,4,999]⟩)
         ((True ∧ True ∧ (Fits .i64 (((k + 1) : Nat) : Int))) ∧ True ∧ True) (by kernel_rfl)
         ⟨⟨tt,tt,(by exact fits_i64 (by omega) (by omega))⟩,tt,tt⟩ ?_
        refine thenQ_normal ?_
        refine ⟨((k + 1)),(show ((k + 1) ≤ i) ∧ (∀ j,j < (k + 1) → (!clash (callAt h i) (callAt h j)) = true) from ⟨(by first | assumption | omega | rfl | (intro _ hjj; omega) | (simp; done) | (simp; omega)),(by exact upto_succ hB (not_t (by rw [← n65,getD_take h (default : CallD) (show k < i by omega)]; rfl)))⟩),(show i - (k + 1) < i - k from (by first | omega | (simp_all; omega))),?_⟩
        exact Sub.of [] (@cast ((((.calls h : Dat) = .calls h) ∧ ((((4 : Nat) = 4) ∧ (((0 : Nat) = 0) ∧ ((4 : Nat) ∈ ([4,999] : List Nat)))) ∧ (((.calls h : Dat) = .calls h) ∧ (((.int .i64 (h.length : Int) : Value) = .int .i64 (h.length : Int)) ∧ (((.int .i64 ((i : Nat) : Int) : Value) = .int .i64 ((i : Nat) : Int)) ∧ (((.calls (List.take i h) : Dat) = .calls (List.take i h)) ∧ (((.int .i64 (((List.length (List.take i h)) : Nat) : Int) : Value) = .int .i64 (((List.length (List.take i h)) : Nat) : Int)) ∧ (((.int .i64 (((k + 1) : Nat) : Int) : Value) = .int .i64 (((k + 1) : Nat) : Int)) ∧ True)))))))) ∧ (((((36 : Nat) = 36) ∧ ((((.int .i64 ((h.getD i default).proc) : Value) = .int .i64 ((h.getD i default).proc)) ∧ (((.int .i64 ((h.getD i default).obj) : Value) = .int .i64 ((h.getD i default).obj)) ∧ (((.int .i64 ((h.getD i default).kind) : Value) = .int .i64 ((h.getD i default).kind)) ∧ (((.int .i64 ((h.getD i default).arg) : Value) = .int .i64 ((h.getD i default).arg)) ∧ (((.int .i64 ((h.getD i default).ret) : Value) = .int .i64 ((h.getD i default).ret)) ∧ (((.int .i64 ((h.getD i default).frm) : Value) = .int .i64 ((h.getD i default).frm)) ∧ (((.int .i64 ((h.getD i default).to) : Value) = .int .i64 ((h.getD i default).to)) ∧ True))))))) ∧ ((4 : Nat) ∈ ([4,999] : List Nat)))) ∧ True) ∧ ((true = true) ∧ (true = true)))) _ (by kernel_rfl) ⟨⟨rfl,⟨rfl,rfl,(by decide)⟩,rfl,rfl,rfl,rfl,rfl,rfl,tt⟩,⟨⟨rfl,⟨rfl,rfl,rfl,rfl,rfl,rfl,rfl,tt⟩,(by decide)⟩,tt⟩,rfl,rfl⟩)
      ·intro n25
       have n25' := n25
       simp only [List.length_append,List.length_cons,List.length_nil,List.length_take,List.length_drop,List.length_set,List.length_replicate,List.length_map] at n25'
       refine W.exit (thenQ_exit (thenQ_exit (blockQ_hit ?_)))
       refine blockQ_normal (thenQ_normal ?_)
       refine W.L cok tab12 hnt [] (⟨[(0,.sl (.calls h)),(4,.ptr 4 0),(10,.sl (.calls h)),(11,.i (h.length : Int)),(12,.i (((i + 1) : Nat) : Int)),(22,.sl (.calls (List.take i h))),(23,.i (((List.length (List.take i h)) : Nat) : Int)),(24,.i ((k : Nat) : Int)),(25,.b (decide (((k : Nat) : Int) < (((List.length (List.take i h)) : Nat) : Int)))),(67,.i (((i + 1) : Nat) : Int))],[(4,⟨36,.fix [.i ((h.getD i default).proc),.i ((h.getD i default).obj),.i ((h.getD i default).kind),.i ((h.getD i default).arg),.i ((h.getD i default).ret),.i ((h.getD i default).frm),.i ((h.getD i default).to)]⟩)],[4,999]⟩)
        ((True ∧ True ∧ (Fits .i64 (((i + 1) : Nat) : Int))) ∧ True ∧ True) (by kernel_rfl)
        ⟨⟨tt,tt,(by exact fits_i64 (by omega) (by omega))⟩,tt,tt⟩ ?_
       refine thenQ_normal ?_
       refine ⟨((i + 1)),(show ((i + 1) ≤ h.length) ∧ (∀ j,j < (i + 1) → (isCall (callAt h j) && allN j (fun k => !clash (callAt h j) (callAt h k))) = true) from ⟨(by first | assumption | omega | rfl | (intro _ hjj; omega) | (simp; done) | (simp; omega)),(by exact upto_succ hA (and_t (not_g n19) (allN_true (fun j hj => hB j (by omega)))))⟩),(show h.length - (i + 1) < h.length - i from (by first | omega | (simp_all; omega))),?_⟩
       exact Sub.of [] (@cast ((((.calls h : Dat) = .calls h) ∧ (((.calls h : Dat) = .calls h) ∧ (((.int .i64 (h.length : Int) : Value) = .int .i64 (h.length : Int)) ∧ (((.int .i64 (((i + 1) : Nat) : Int) : Value) = .int .i64 (((i + 1) : Nat) : Int)) ∧ True)))) ∧ (True ∧ ((true = true) ∧ (true = true)))) _ (by kernel_rfl) ⟨⟨rfl,rfl,rfl,rfl,tt⟩,tt,rfl,rfl⟩)
   ·intro n13
    refine W.exit (thenQ_exit (thenQ_exit (blockQ_hit ?_)))
    refine thenQ_normal ?_
    refine W.K cok tab12 hnt [] [2] (⟨[(2,.b true)],[],[999]⟩)
     (True ∧ True) (by kernel_rfl)
     ⟨tt,tt⟩ ?_
    refine W.ret ?_
    exact endQ_ret (.b true) (by kernel_rfl) (@cast ((.bool true : Value) = .bool (validHistory h)) _ (by kernel_rfl) (congrArg Value.bool (by unfold validHistory; symm; exact and_t (decide_eq_true (by omega)) (allN_true (fun j hj => hA j (by omega))))))
theorem ent12 : Entr prog 12 := ⟨_,func12,rfl,by decide⟩
end Go.Proofs.Try

set_option linter.unusedSimpArgs false
set_option linter.unusedVariables false
namespace Go.Proofs.Try
open Go.Ab Go.RowKit
def fs61 : FnS := fnS [.o,.o,.o] [.int,.int,(.ep .calls)] (fun _ (i,k,h,_) => (.b (ownF h i.toNat k.toNat),[],(0 ≤ i ∧ i < h.length) ∧ (0 ≤ k ∧ k < h.length)))
abbrev T61 : Tab := lk [(62,fs62)]
theorem tab61 : TabOK prog T61 := (TabOK.cons ok62 ent62 TabOK.nil)
set_option maxRecDepth 100000 in
set_option maxHeartbeats 1000000 in
theorem ok61 : FnOK prog 61 fs61 := by
 refine FnOK.mk cok func61 rfl rfl rfl ?_
 rintro fl ⟨(i : Int),(k : Int),(h : List CallD),_⟩ hpre F hnt0 _
 have hnt : F.nt = 28 := hnt0.trans ntmps61
 replace hpre : (0 ≤ i ∧ i < h.length) ∧ (0 ≤ k ∧ k < h.length) := hpre
 obtain ⟨hi,hk⟩ := hpre
 refine W.to (⟨[(0,.i i),(1,.i k),(2,.ep [.sl (.calls h)])],[],[999]⟩) rfl ?_
 refine W.K cok tab61 hnt [] [0,1,2] (⟨[(0,.i i),(1,.i k),(2,.ep [.sl (.calls h)])],[],[999]⟩)
  (True ∧ True) (by kernel_rfl)
  ⟨tt,tt⟩ ?_
 refine W.KA cok tab61 hnt [] [5] (⟨[(5,.b ((decide (((h.getD (Int.toNat i) default).proc) = ((h.getD (Int.toNat k) default).proc))) && (isBefore (h.getD (Int.toNat k) default) (h.getD (Int.toNat i) default))))],[],[999]⟩)
  (True ∧ True ∧ (True ∧ True ∧ (0 ≤ i) ∧ (i < (h.length : Int))) ∧ True ∧ True ∧ True ∧ True ∧ (True ∧ True ∧ (0 ≤ k) ∧ (k < (h.length : Int))) ∧ True ∧ True ∧ (True ∧ True ∧ True) ∧ True ∧ ((decide (((h.getD (Int.toNat i) default).proc) = ((h.getD (Int.toNat k) default).proc))) = true → True) ∧ ((decide (((h.getD (Int.toNat i) default).proc) = ((h.getD (Int.toNat k) default).proc))) = true → True) ∧ ((decide (((h.getD (Int.toNat i) default).proc) = ((h.getD (Int.toNat k) default).proc))) = true → ((((decide (((h.getD (Int.toNat i) default).proc) = ((h.getD (Int.toNat k) default).proc))) = true) ∧ True) ∧ (((decide (((h.getD (Int.toNat i) default).proc) = ((h.getD (Int.toNat k) default).proc))) = true) ∧ True) ∧ (0 ≤ k) ∧ (k < (h.length : Int)))) ∧ ((decide (((h.getD (Int.toNat i) default).proc) = ((h.getD (Int.toNat k) default).proc))) = true → (((decide (((h.getD (Int.toNat i) default).proc) = ((h.getD (Int.toNat k) default).proc))) = true) ∧ True)) ∧ ((decide (((h.getD (Int.toNat i) default).proc) = ((h.getD (Int.toNat k) default).proc))) = true → True) ∧ ((decide (((h.getD (Int.toNat i) default).proc) = ((h.getD (Int.toNat k) default).proc))) = true → True) ∧ ((decide (((h.getD (Int.toNat i) default).proc) = ((h.getD (Int.toNat k) default).proc))) = true → ((((decide (((h.getD (Int.toNat i) default).proc) = ((h.getD (Int.toNat k) default).proc))) = true) ∧ True) ∧ (((decide (((h.getD (Int.toNat i) default).proc) = ((h.getD (Int.toNat k) default).proc))) = true) ∧ True) ∧ (0 ≤ i) ∧ (i < (h.length : Int)))) ∧ ((decide (((h.getD (Int.toNat i) default).proc) = ((h.getD (Int.toNat k) default).proc))) = true → (((decide (((h.getD (Int.toNat i) default).proc) = ((h.getD (Int.toNat k) default).proc))) = true) ∧ True)) ∧ ((decide (((h.getD (Int.toNat i) default).proc) = ((h.getD (Int.toNat k) default).proc))) = true → (True ∧ ((((decide (((h.getD (Int.toNat i) default).proc) = ((h.getD (Int.toNat k) default).proc))) = true) ∧ True) ∧ (((decide (((h.getD (Int.toNat i) default).proc) = ((h.getD (Int.toNat k) default).proc))) = true) ∧ True) ∧ True) ∧ True)) ∧ (True ∧ ((decide (((h.getD (Int.toNat i) default).proc) = ((h.getD (Int.toNat k) default).proc))) = true → ((decide (((h.getD (Int.toNat i) default).proc) = ((h.getD (Int.toNat k) default).proc))) = true) ∧ True) ∧ ((decide (((h.getD (Int.toNat i) default).proc) = ((h.getD (Int.toNat k) default).proc))) = false → True)) ∧ True ∧ True) (by kernel_rfl) (by kernel_rfl)
  ⟨tt,tt,⟨tt,tt,(by omega),(by omega)⟩,tt,tt,tt,tt,⟨tt,tt,(by omega),(by omega)⟩,tt,tt,⟨tt,tt,tt⟩,tt,(fun _ => trivial),(fun _ => trivial),(fun hG => ⟨⟨hG,tt⟩,⟨hG,tt⟩,(by have hg0 : ((h.getD (Int.toNat i) default).proc) = ((h.getD (Int.toNat k) default).proc) := of_decide_eq_true hG; omega),(by have hg0 : ((h.getD (Int.toNat i) default).proc) = ((h.getD (Int.toNat k) default).proc) := of_decide_eq_true hG; omega)⟩),(fun hG => ⟨hG,tt⟩),(fun _ => trivial),(fun _ => trivial),(fun hG => ⟨⟨hG,tt⟩,⟨hG,tt⟩,(by have hg0 : ((h.getD (Int.toNat i) default).proc) = ((h.getD (Int.toNat k) default).proc) := of_decide_eq_true hG; omega),(by have hg0 : ((h.getD (Int.toNat i) default).proc) = ((h.getD (Int.toNat k) default).proc) := of_decide_eq_true hG; omega)⟩),(fun hG => ⟨hG,tt⟩),(fun hG => ⟨tt,⟨⟨hG,tt⟩,⟨hG,tt⟩,tt⟩,tt⟩),⟨tt,(fun hp => ⟨hp,tt⟩),(fun _ => trivial)⟩,tt,tt⟩ ?_
 refine W.ret ?_
 exact endQ_ret (.b ((decide (((h.getD (Int.toNat i) default).proc) = ((h.getD (Int.toNat k) default).proc))) && (isBefore (h.getD (Int.toNat k) default) (h.getD (Int.toNat i) default)))) (by kernel_rfl) (@cast ((.bool ((decide (((h.getD (Int.toNat i) default).proc) = ((h.getD (Int.toNat k) default).proc))) && (isBefore (h.getD (Int.toNat k) default) (h.getD (Int.toNat i) default))) : Value) = .bool (ownF h i.toNat k.toNat)) _ (by kernel_rfl) (congrArg Value.bool (by first | rfl | simp_all)))
theorem ent61 : Entr prog 61 := ⟨_,func61,rfl,by decide⟩
end Go.Proofs.Try
