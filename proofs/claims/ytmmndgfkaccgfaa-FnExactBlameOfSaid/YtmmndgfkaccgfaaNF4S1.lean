import Derived.Test.YtmmndgfkaccgfaaNF4S0
set_option linter.unusedSimpArgs false
set_option linter.unusedVariables false
namespace Go.Ab
def toUp {α : Type} (d : α) (h : List α) (i : Nat) : List α := h.take i ++ List.replicate (h.length - i) d
theorem toUp_len {α : Type} (d : α) (h : List α) {i : Nat} (hi : i ≤ h.length) : (toUp d h i).length = h.length := by
 unfold toUp; simp; omega
theorem toUp_zero {α : Type} (d : α) (h : List α) : List.replicate h.length d = toUp d h 0 := by unfold toUp; simp
theorem toUp_step {α : Type} {d : α} {h o : List α} {i : Nat} (ho : o = toUp d h i) (hi : i < h.length) : o.set i (h.getD i d) = toUp d h (i + 1) := by
 rw [ho]
 apply List.ext_getElem
 ·rw [List.length_set, toUp_len d h (by omega), toUp_len d h (by omega)]
 intro j h1 h2
 have hl : (h.take i).length = i := by rw [List.length_take]; omega
 rw [List.getElem_set]
 by_cases hj : i = j
 ·subst hj
  rw [if_pos rfl, List.getD_eq_getElem?_getD, List.getElem?_eq_getElem hi]
  have : (toUp d h (i + 1))[i] = (h.take (i + 1))[i]'(by rw [List.length_take]; omega) := List.getElem_append_left _
  rw [this, List.getElem_take]; rfl
 ·rw [if_neg hj]
  rw [List.length_set, toUp_len d h (by omega)] at h1
  by_cases hlt : j < i
  ·have e1 : (toUp d h i)[j]'(by rw [toUp_len d h (by omega)]; omega) = (h.take i)[j]'(by rw [List.length_take]; omega) := List.getElem_append_left _
   have e2 : (toUp d h (i + 1))[j] = (h.take (i + 1))[j]'(by rw [List.length_take]; omega) := List.getElem_append_left _
   rw [e1, e2, List.getElem_take, List.getElem_take]
  ·have e1 : (toUp d h i)[j]'(by rw [toUp_len d h (by omega)]; omega) = d := by
    have h3 : (h.take i).length ≤ j := by omega
    have h4 : j < (h.take i ++ List.replicate (h.length - i) d).length := by simp; omega
    have h5 : (h.take i ++ List.replicate (h.length - i) d)[j]'h4 = d := by rw [List.getElem_append_right h3, List.getElem_replicate]
    exact h5
   have e2 : (toUp d h (i + 1))[j] = d := by
    have h3 : (h.take (i + 1)).length ≤ j := by rw [List.length_take]; omega
    have h4 : j < (h.take (i + 1) ++ List.replicate (h.length - (i + 1)) d).length := h2
    have h5 : (h.take (i + 1) ++ List.replicate (h.length - (i + 1)) d)[j]'h4 = d := by rw [List.getElem_append_right h3, List.getElem_replicate]
    exact h5
   rw [e1, e2]
theorem toUp_all {α : Type} {d : α} {h o : List α} {i : Nat} (ho : o = toUp d h i) (hi : h.length ≤ i) : o = h := by
 rw [ho]; unfold toUp; rw [List.take_of_length_le hi, show h.length - i = 0 by omega]; simp
def szC (h : List CallD) (left : Int) : Int := bif decide (left - ((h.length : Nat) : Int) < 0) then -1 else left - ((h.length : Nat) : Int)
theorem sz_ok {h : List CallD} (hn : ¬ szC h 1048576 < 0) : h.length ≤ 1048576 := by
 unfold szC at hn
 cases hd : decide ((1048576 : Int) - ((h.length : Nat) : Int) < 0) with
 | true => rw [hd] at hn; simp at hn
 | false => have := of_decide_eq_false hd; omega
theorem calls_ext {a b : List CallD} (hl : a.length = b.length) (h : ∀ j, j < a.length → a.getD j default = b.getD j default) : a = b := by
 apply List.ext_getElem hl
 intro i h1 h2
 have := h i h1
 rw [List.getD_eq_getElem?_getD, List.getElem?_eq_getElem h1, List.getD_eq_getElem?_getD, List.getElem?_eq_getElem h2] at this
 exact this
theorem call_ext {a b : CallD} (h1 : a.proc = b.proc) (h2 : a.obj = b.obj) (h3 : a.kind = b.kind) (h4 : a.arg = b.arg) (h5 : a.ret = b.ret) (h6 : a.frm = b.frm) (h7 : a.to = b.to) : a = b := by
 cases a; cases b; simp_all
end Go.Ab

set_option linter.unusedSimpArgs false
set_option linter.unusedVariables false
namespace Go.Ab
section
variable {s : ByteArray} {h : List CallD} {f g : Nat → Nat → Bool} {rows : List Int}
end
end Go.Ab

set_option linter.unusedSimpArgs false
set_option linter.unusedVariables false
namespace Go.Ab
end Go.Ab
namespace Go.Ab
end Go.Ab

set_option linter.unusedSimpArgs false
set_option linter.unusedVariables false
namespace Go.Ab
end Go.Ab
namespace Go.Ab
end Go.Ab

set_option linter.unusedSimpArgs false
set_option linter.unusedVariables false
namespace Go.Ab
section
variable {s : ByteArray} {h : List CallD}
end
end Go.Ab
namespace Go.Ab
def pickC (h : List CallD) (l : List Int) : List CallD := l.map fun x => callAt h x.toNat
def without (l : List Int) (i : Int) : List Int := l.filter fun x => decide (x ≠ i)
def blameR (s : ByteArray) (h : List CallD) : Nat → List Int
 | 0 => idx h.length
 | k + 1 => bif !explains s (pickC h (without (blameR s h k) (((h.length : Nat) : Int) - 1 - ((k : Nat) : Int)))) (aheadF (pickC h (without (blameR s h k) (((h.length : Nat) : Int) - 1 - ((k : Nat) : Int)))))
   then without (blameR s h k) (((h.length : Nat) : Int) - 1 - ((k : Nat) : Int)) else blameR s h k
def linB (s : ByteArray) (h : List CallD) : Bool := explains s h (aheadF h)
def blameG (s : ByteArray) (h : List CallD) : Bool := (isObject s && validHistory h) && !linB s h
def blame1 (s : ByteArray) (h : List CallD) : List Int := bif blameG s h then blameR s h h.length else []
section
variable {s : ByteArray} {h : List CallD}
theorem idx_mem {n : Nat} {x : Int} (hx : x ∈ idx n) : 0 ≤ x ∧ x < ((n : Nat) : Int) := by
 obtain ⟨i, hi, rfl⟩ := List.mem_iff_getElem.1 hx
 rw [idx_len] at hi
 have := idx_get hi
 rw [List.getD_eq_getElem?_getD, List.getElem?_eq_getElem (by rw [idx_len]; exact hi), Option.getD_some] at this
 rw [this]; omega
theorem blame_sub : ∀ k, (blameR s h k).Sublist (idx h.length)
 | 0 => List.Sublist.refl _
 | k + 1 => by
  simp only [blameR]
  cases !explains s (pickC h (without (blameR s h k) (((h.length : Nat) : Int) - 1 - ((k : Nat) : Int)))) (aheadF (pickC h (without (blameR s h k) (((h.length : Nat) : Int) - 1 - ((k : Nat) : Int))))) with
  | false => exact blame_sub k
  | true => exact List.filter_sublist.trans (blame_sub k)
theorem blame_in (k : Nat) : ∀ x ∈ blameR s h k, 0 ≤ x ∧ x < ((h.length : Nat) : Int) := fun x hx => idx_mem ((blame_sub k).subset hx)
theorem blame_len (k : Nat) : (blameR s h k).length ≤ h.length := by have := (blame_sub (s := s) (h := h) k).length_le; rwa [idx_len] at this
end
end Go.Ab
namespace Go.Ab
def blameP (s : ByteArray) (h : List CallD) : List Int × Bool := (blame1 s h, blameG s h)
def wUp (l : List Int) (i : Int) (j : Nat) : List Int := without (l.take j) i
section
variable {s : ByteArray} {h : List CallD}
theorem blameP_no (hb : ((!isObject s || !validHistory h) || explains s h (aheadF h)) = true) : blameP s h = ([], false) := by
 have hg : blameG s h = false := by
  unfold blameG linB
  cases h1 : isObject s <;> cases h2 : validHistory h <;> cases h3 : explains s h (aheadF h) <;> simp_all
 unfold blameP blame1; rw [hg]; rfl
theorem blameP_no' (hb : ((!(isObject s && validHistory h)) || explains s h (aheadF h)) = true) : blameP s h = ([], false) := blameP_no (by rw [← Bool.not_and]; exact hb)
theorem blameP_yes (hb : ((!isObject s || !validHistory h) || explains s h (aheadF h)) = false) : blameP s h = (blameR s h h.length, true) := by
 have hg : blameG s h = true := by
  unfold blameG linB
  cases h1 : isObject s <;> cases h2 : validHistory h <;> cases h3 : explains s h (aheadF h) <;> simp_all
 unfold blameP blame1; rw [hg]; rfl
theorem blameP_yes' (hb : ((!(isObject s && validHistory h)) || explains s h (aheadF h)) = false) : blameP s h = (blameR s h h.length, true) := blameP_yes (by rw [← Bool.not_and]; exact hb)
theorem blame_start {l : List Int} {k : Nat} (hl : l = idx k) (hk : k = h.length) : l = blameR s h (((h.length : Nat) : Int) - 1 - (((h.length : Nat) : Int) - 1)).toNat := by
 rw [hl, hk, show (((h.length : Nat) : Int) - 1 - (((h.length : Nat) : Int) - 1)).toNat = 0 by omega]; rfl
theorem blame_step_eq {l : List Int} {i : Int} (hl : l = blameR s h (((h.length : Nat) : Int) - 1 - i).toNat) (h0 : 0 ≤ i) (hn : i < ((h.length : Nat) : Int)) :
  blameR s h (((h.length : Nat) : Int) - 1 - (i - 1)).toNat = bif !explains s (pickC h (without l i)) (aheadF (pickC h (without l i))) then without l i else l := by
 rw [show (((h.length : Nat) : Int) - 1 - (i - 1)).toNat = (((h.length : Nat) : Int) - 1 - i).toNat + 1 by omega]
 simp only [blameR]
 rw [show ((h.length : Nat) : Int) - 1 - (((((h.length : Nat) : Int) - 1 - i).toNat : Nat) : Int) = i by omega, ← hl]
theorem blame_yes {l ot : List Int} {pt : List CallD} {i : Int} {j : Nat} (hl : l = blameR s h (((h.length : Nat) : Int) - 1 - i).toNat) (h0 : 0 ≤ i) (hn : i < ((h.length : Nat) : Int)) (hj : l.length ≤ j)
  (hot : ot = wUp l i j) (hpt : pt = pickC h (wUp l i j)) (hb : (!explains s pt (aheadF pt)) = true) : ot = blameR s h (((h.length : Nat) : Int) - 1 - (i - 1)).toNat := by
 rw [blame_step_eq hl h0 hn]
 unfold wUp at hot hpt
 rw [List.take_of_length_le hj] at hot hpt
 rw [hpt] at hb
 rw [hb, hot]; rfl
theorem blame_no {l : List Int} {pt : List CallD} {i : Int} {j : Nat} (hl : l = blameR s h (((h.length : Nat) : Int) - 1 - i).toNat) (h0 : 0 ≤ i) (hn : i < ((h.length : Nat) : Int)) (hj : l.length ≤ j)
  (hpt : pt = pickC h (wUp l i j)) (hb : (!explains s pt (aheadF pt)) = false) : l = blameR s h (((h.length : Nat) : Int) - 1 - (i - 1)).toNat := by
 rw [blame_step_eq hl h0 hn]
 unfold wUp at hpt
 rw [List.take_of_length_le hj] at hpt
 rw [hpt] at hb
 rw [hb]; rfl
theorem blame_done {l : List Int} {i : Int} (hl : l = blameR s h (((h.length : Nat) : Int) - 1 - i).toNat) (hi : i = -1) : l = blameR s h h.length := by
 rw [hl, hi, show (((h.length : Nat) : Int) - 1 - (-1 : Int)).toNat = h.length by omega]
theorem wUp_len (l : List Int) (i : Int) (j : Nat) : (wUp l i j).length ≤ j := by
 unfold wUp without
 refine Nat.le_trans (List.length_filter_le _ _) ?_
 rw [List.length_take]; omega
theorem wUp_succ {l : List Int} {i : Int} {j : Nat} (hj : j < l.length) : wUp l i (j + 1) = wUp l i j ++ (if l.getD j 0 ≠ i then [l.getD j 0] else []) := by
 unfold wUp without
 rw [List.take_succ_eq_append_getElem hj, List.filter_append, List.getD_eq_getElem?_getD, List.getElem?_eq_getElem hj, Option.getD_some, List.filter_cons, List.filter_nil]
 simp
theorem wUp_yes {l ot : List Int} {i : Int} {j : Nat} (hot : ot = wUp l i j) (hj : j < l.length) (e : l.getD j 0 ≠ i) : ot ++ [l.getD j 0] = wUp l i (j + 1) := by rw [wUp_succ hj, if_pos e, hot]
theorem wUp_no {l ot : List Int} {i : Int} {j : Nat} (hot : ot = wUp l i j) (hj : j < l.length) (e : ¬ l.getD j 0 ≠ i) : ot = wUp l i (j + 1) := by rw [wUp_succ hj, if_neg e, List.append_nil, hot]
theorem pickC_len (h : List CallD) (l : List Int) : (pickC h l).length = l.length := List.length_map _
theorem pUp_yes {l : List Int} {pt : List CallD} {i : Int} {j : Nat} (hpt : pt = pickC h (wUp l i j)) (hj : j < l.length) (e : l.getD j 0 ≠ i) : pt ++ [h.getD (l.getD j 0).toNat default] = pickC h (wUp l i (j + 1)) := by
 rw [wUp_succ hj, if_pos e, hpt]; unfold pickC; rw [List.map_append]; rfl
theorem pUp_no {l : List Int} {pt : List CallD} {i : Int} {j : Nat} (hpt : pt = pickC h (wUp l i j)) (hj : j < l.length) (e : ¬ l.getD j 0 ≠ i) : pt = pickC h (wUp l i (j + 1)) := by rw [wUp_succ hj, if_neg e, List.append_nil, hpt]
theorem pick_succ {l : List Int} {pt : List CallD} {j : Nat} (hpt : pt = pickC h (l.take j)) (hj : j < l.length) : pt ++ [h.getD (l.getD j 0).toNat default] = pickC h (l.take (j + 1)) := by
 rw [hpt, List.take_succ_eq_append_getElem hj]; unfold pickC; rw [List.map_append, List.getD_eq_getElem?_getD (l := l), List.getElem?_eq_getElem hj]; rfl
theorem pick_all {l : List Int} {pt : List CallD} {j : Nat} (hpt : pt = pickC h (l.take j)) (hj : l.length ≤ j) : pt = pickC h l := by rw [hpt, List.take_of_length_le hj]
theorem blame1_len : (blame1 s h).length ≤ h.length := by
 unfold blame1
 cases blameG s h with
 | false => simp
 | true => exact blame_len _
theorem wUp_mem {l : List Int} {i : Int} {j : Nat} : ∀ x ∈ wUp l i j, x ∈ l := by
 unfold wUp without
 intro x hx
 exact List.mem_of_mem_take (List.mem_filter.1 hx).1
end
end Go.Ab

set_option linter.unusedSimpArgs false
set_option linter.unusedVariables false
namespace Go.Ab
def markI (n : Nat) (k : Int) : List Int := (List.range n).map fun j => k + ((j : Nat) : Int)
theorem markI_len (n : Nat) (k : Int) : (markI n k).length = n := by simp [markI]
def markIUp (l : List Int) (k : Int) (i : Nat) : List Int := markI i k ++ l.drop i
theorem markIUp_zero (l : List Int) (k : Int) : l = markIUp l k 0 := by simp [markIUp, markI]
theorem markIUp_len (l : List Int) (k : Int) {i : Nat} (hi : i ≤ l.length) : (markIUp l k i).length = l.length := by
 unfold markIUp; rw [List.length_append, markI_len, List.length_drop]; omega
theorem markIUp_step {l xs : List Int} {k x : Int} {i : Nat} (hx : xs = markIUp l k i) (hi : i < l.length) (hk : x = k + ((i : Nat) : Int)) : xs.set i x = markIUp l k (i + 1) := by
 subst hx hk
 unfold markIUp
 rw [List.drop_eq_getElem_cons hi, List.set_append_right _ _ (by rw [markI_len]; exact Nat.le_refl _), markI_len, Nat.sub_self, List.set_cons_zero]
 unfold markI
 rw [List.range_succ, List.map_append, List.append_assoc]
 rfl
theorem markIUp_all {l xs : List Int} {k : Int} {i : Nat} (hx : xs = markIUp l k i) (hi : i ≤ l.length) (hn : ¬ ((i : Nat) : Int) < ((l.length : Nat) : Int)) : xs = markI l.length k := by
 subst hx
 have : i = l.length := by omega
 subst this
 unfold markIUp
 rw [List.drop_eq_nil_of_le (Nat.le_refl _), List.append_nil]
def heldAt (l : List Int) (k : Int) (j : Nat) : Bool := decide (l.getD j 0 = k + ((j : Nat) : Int))
def heldI (l : List Int) (k : Int) : Int := bif allN l.length (heldAt l k) then k + ((l.length : Nat) : Int) else -1
theorem heldI_mark (n : Nat) (k : Int) : heldI (markI n k) k = k + ((n : Nat) : Int) := by
 unfold heldI
 rw [allN_true, markI_len]
 ·rfl
 ·intro j hj
  rw [markI_len] at hj
  apply decide_eq_true
  unfold markI
  rw [List.getD_eq_getElem?_getD, List.getElem?_map, List.getElem?_range hj]
  rfl
theorem heldI_no {l : List Int} {k x : Int} {i : Nat} (hi : i < l.length) (hx : x = k + ((i : Nat) : Int)) (h : l.getD i 0 ≠ x) : heldI l k = -1 := by
 unfold heldI
 rw [allN_false hi (decide_eq_false (by rw [← hx]; exact h))]; rfl
theorem heldI_yes {l : List Int} {k x : Int} {i : Nat} (hA : ∀ j, j < i → heldAt l k j = true) (hi : i ≤ l.length) (hx : x = k + ((i : Nat) : Int)) (hn : ¬ ((i : Nat) : Int) < ((l.length : Nat) : Int)) : heldI l k = x := by
 unfold heldI
 have : i = l.length := by omega
 subst this
 rw [allN_true hA, hx]; rfl
end Go.Ab

set_option linter.unusedSimpArgs false
set_option linter.unusedVariables false
namespace Go.Proofs.Try
open Go.Ab Go.RowKit
def fs7 : FnS := fnS [.s .calls,.o] [.calls,.int] (fun _ (h,left,_) => (.i (szC h left),[],(left = 1048576)))
abbrev T7 : Tab := lk []
theorem tab7 : TabOK prog T7 := TabOK.nil
set_option maxRecDepth 100000 in
set_option maxHeartbeats 1000000 in
theorem ok7 : FnOK prog 7 fs7 := by
 refine FnOK.mk cok func7 rfl rfl rfl ?_
 rintro fl ⟨(h : List CallD),(left : Int),_⟩ hpre F hnt0 _
 have hnt : F.nt = 12 := hnt0.trans ntmps7
 replace hpre : (left = 1048576) := hpre
 have hl := hpre
 refine W.to (⟨[(0,.sl (.calls h)),(1,.i left)],[],[999]⟩) rfl ?_
 refine W.lenOf 0 (.calls h) (by kernel_rfl) ?_
 intro hl_h; replace hl_h : List.length h ≤ 9223372036854775807 := hl_h
 refine W.K cok tab7 hnt [] [0,1] (⟨[(0,.sl (.calls h)),(1,.i left)],[],[999]⟩)
  (True ∧ True) (by kernel_rfl)
  ⟨tt,tt⟩ ?_
 refine W.K cok tab7 hnt [] [1] (⟨[(1,.i (left - (h.length : Int)))],[],[999]⟩)
  (True ∧ True ∧ True ∧ (True ∧ True ∧ (Fits .i64 (left - (h.length : Int)))) ∧ True ∧ True) (by kernel_rfl)
  ⟨tt,tt,tt,⟨tt,tt,(by exact fits_i64 (by omega) (by omega))⟩,tt,tt⟩ ?_
 refine W.seq ?_
 refine W.K cok tab7 hnt [] [1,10] (⟨[(1,.i (left - (h.length : Int))),(10,.b (decide ((left - (h.length : Int)) < (0 : Int))))],[],[999]⟩)
  (True ∧ (True ∧ True ∧ True) ∧ True) (by kernel_rfl)
  ⟨tt,⟨tt,tt,tt⟩,tt⟩ ?_
 refine W.ifP ((left - (h.length : Int)) < (0 : Int)) (.b (decide ((left - (h.length : Int)) < (0 : Int)))) (by kernel_rfl) rfl trivial ?_ ?_
 ·intro h10
  refine W.K cok tab7 hnt [] [4] (⟨[(4,.i (-1 : Int))],[],[999]⟩)
   (True ∧ True) (by kernel_rfl)
   ⟨tt,tt⟩ ?_
  refine W.ret (thenQ_ret ?_)
  exact endQ_ret (.i (-1 : Int)) (by kernel_rfl) (@cast ((.int .i64 (-1 : Int) : Value) = .int .i64 (szC h left)) _ (by kernel_rfl) (congrArg (Value.int .i64) (by unfold szC; rw [decide_eq_true h10]; rfl)))
 ·intro n10
  refine W.skip (thenQ_normal ?_)
  refine W.K cok tab7 hnt [] [4] (⟨[(4,.i (left - (h.length : Int)))],[],[999]⟩)
   (True ∧ True ∧ True) (by kernel_rfl)
   ⟨tt,tt,tt⟩ ?_
  refine W.ret ?_
  exact endQ_ret (.i (left - (h.length : Int))) (by kernel_rfl) (@cast ((.int .i64 (left - (h.length : Int)) : Value) = .int .i64 (szC h left)) _ (by kernel_rfl) (congrArg (Value.int .i64) (by unfold szC; rw [decide_eq_false n10]; rfl)))
theorem ent7 : Entr prog 7 := ⟨_,func7,rfl,by decide⟩
end Go.Proofs.Try

set_option linter.unusedSimpArgs false
set_option linter.unusedVariables false
namespace Go.Proofs.Try
open Go.Ab Go.RowKit
def fs32 : FnS := fnS [.o] [.call] (fun _ (a,_) => (.agg [.i a.proc,.i a.obj,.i a.kind,.i a.arg,.i a.ret,.i a.frm,.i a.to],[],True))
abbrev T32 : Tab := lk []
theorem tab32 : TabOK prog T32 := TabOK.nil
set_option maxRecDepth 100000 in
set_option maxHeartbeats 1000000 in
theorem ok32 : FnOK prog 32 fs32 := by
 refine FnOK.mk cok func32 rfl rfl rfl ?_
 rintro fl ⟨(a : CallD),_⟩ hpre F hnt0 _
 have hnt : F.nt = 26 := hnt0.trans ntmps32
 clear hpre
 refine W.to (⟨[(0,.agg [.i a.proc,.i a.obj,.i a.kind,.i a.arg,.i a.ret,.i a.frm,.i a.to])],[],[999]⟩) rfl ?_
 refine W.K cok tab32 hnt [] [1,2] (⟨[(1,.ptr 1 0),(2,.ptr 2 0)],[(1,⟨50,.fix [.i a.proc,.i a.obj,.i a.kind,.i a.arg,.i a.ret,.i a.frm,.i a.to]⟩),(2,⟨47,.fix [.i (0 : Int),.i (0 : Int),.i (0 : Int),.i (0 : Int),.i (0 : Int),.i (0 : Int),.i (0 : Int)]⟩)],[2,1,999]⟩)
  (True ∧ True ∧ True) (by kernel_rfl)
  ⟨tt,tt,tt⟩ ?_
 refine W.K cok tab32 hnt [] [1,2,3] (⟨[(1,.ptr 1 0),(2,.ptr 2 0),(3,.ptr 3 0)],[(1,⟨50,.fix [.i a.proc,.i a.obj,.i a.kind,.i a.arg,.i a.ret,.i a.frm,.i a.to]⟩),(2,⟨47,.fix [.i (0 : Int),.i (0 : Int),.i (0 : Int),.i (0 : Int),.i (0 : Int),.i (0 : Int),.i (0 : Int)]⟩),(3,⟨47,.fix [.i (0 : Int),.i (0 : Int),.i (0 : Int),.i (0 : Int),.i (0 : Int),.i (0 : Int),.i (0 : Int)]⟩)],[3,2,1,999]⟩)
  (True ∧ True) (by kernel_rfl)
  ⟨tt,tt⟩ ?_
 refine W.K cok tab32 hnt [] [1,2,3] (⟨[(1,.ptr 1 0),(2,.ptr 2 0),(3,.ptr 3 0)],[(1,⟨50,.fix [.i a.proc,.i a.obj,.i a.kind,.i a.arg,.i a.ret,.i a.frm,.i a.to]⟩),(2,⟨47,.fix [.i (0 : Int),.i (0 : Int),.i (0 : Int),.i (0 : Int),.i (0 : Int),.i (0 : Int),.i (0 : Int)]⟩),(3,⟨47,.fix [.i a.proc,.i (0 : Int),.i (0 : Int),.i (0 : Int),.i (0 : Int),.i (0 : Int),.i (0 : Int)]⟩)],[3,2,1,999]⟩)
  (True ∧ True ∧ True ∧ (True ∧ True) ∧ True) (by kernel_rfl)
  ⟨tt,tt,tt,⟨tt,tt⟩,tt⟩ ?_
 refine W.K cok tab32 hnt [] [1,2,3] (⟨[(1,.ptr 1 0),(2,.ptr 2 0),(3,.ptr 3 0)],[(1,⟨50,.fix [.i a.proc,.i a.obj,.i a.kind,.i a.arg,.i a.ret,.i a.frm,.i a.to]⟩),(2,⟨47,.fix [.i (0 : Int),.i (0 : Int),.i (0 : Int),.i (0 : Int),.i (0 : Int),.i (0 : Int),.i (0 : Int)]⟩),(3,⟨47,.fix [.i a.proc,.i a.obj,.i (0 : Int),.i (0 : Int),.i (0 : Int),.i (0 : Int),.i (0 : Int)]⟩)],[3,2,1,999]⟩)
  (True ∧ True ∧ True ∧ (True ∧ True) ∧ True) (by kernel_rfl)
  ⟨tt,tt,tt,⟨tt,tt⟩,tt⟩ ?_
 refine W.K cok tab32 hnt [] [1,2,3] (⟨[(1,.ptr 1 0),(2,.ptr 2 0),(3,.ptr 3 0)],[(1,⟨50,.fix [.i a.proc,.i a.obj,.i a.kind,.i a.arg,.i a.ret,.i a.frm,.i a.to]⟩),(2,⟨47,.fix [.i (0 : Int),.i (0 : Int),.i (0 : Int),.i (0 : Int),.i (0 : Int),.i (0 : Int),.i (0 : Int)]⟩),(3,⟨47,.fix [.i a.proc,.i a.obj,.i a.kind,.i (0 : Int),.i (0 : Int),.i (0 : Int),.i (0 : Int)]⟩)],[3,2,1,999]⟩)
  (True ∧ True ∧ True ∧ (True ∧ True) ∧ True) (by kernel_rfl)
  ⟨tt,tt,tt,⟨tt,tt⟩,tt⟩ ?_
 refine W.K cok tab32 hnt [] [1,2,3] (⟨[(1,.ptr 1 0),(2,.ptr 2 0),(3,.ptr 3 0)],[(1,⟨50,.fix [.i a.proc,.i a.obj,.i a.kind,.i a.arg,.i a.ret,.i a.frm,.i a.to]⟩),(2,⟨47,.fix [.i (0 : Int),.i (0 : Int),.i (0 : Int),.i (0 : Int),.i (0 : Int),.i (0 : Int),.i (0 : Int)]⟩),(3,⟨47,.fix [.i a.proc,.i a.obj,.i a.kind,.i a.arg,.i (0 : Int),.i (0 : Int),.i (0 : Int)]⟩)],[3,2,1,999]⟩)
  (True ∧ True ∧ True ∧ (True ∧ True) ∧ True) (by kernel_rfl)
  ⟨tt,tt,tt,⟨tt,tt⟩,tt⟩ ?_
 refine W.K cok tab32 hnt [] [1,2,3] (⟨[(1,.ptr 1 0),(2,.ptr 2 0),(3,.ptr 3 0)],[(1,⟨50,.fix [.i a.proc,.i a.obj,.i a.kind,.i a.arg,.i a.ret,.i a.frm,.i a.to]⟩),(2,⟨47,.fix [.i (0 : Int),.i (0 : Int),.i (0 : Int),.i (0 : Int),.i (0 : Int),.i (0 : Int),.i (0 : Int)]⟩),(3,⟨47,.fix [.i a.proc,.i a.obj,.i a.kind,.i a.arg,.i a.ret,.i (0 : Int),.i (0 : Int)]⟩)],[3,2,1,999]⟩)
  (True ∧ True ∧ True ∧ (True ∧ True) ∧ True) (by kernel_rfl)
  ⟨tt,tt,tt,⟨tt,tt⟩,tt⟩ ?_
 refine W.K cok tab32 hnt [] [1,2,3] (⟨[(1,.ptr 1 0),(2,.ptr 2 0),(3,.ptr 3 0)],[(1,⟨50,.fix [.i a.proc,.i a.obj,.i a.kind,.i a.arg,.i a.ret,.i a.frm,.i a.to]⟩),(2,⟨47,.fix [.i (0 : Int),.i (0 : Int),.i (0 : Int),.i (0 : Int),.i (0 : Int),.i (0 : Int),.i (0 : Int)]⟩),(3,⟨47,.fix [.i a.proc,.i a.obj,.i a.kind,.i a.arg,.i a.ret,.i a.frm,.i (0 : Int)]⟩)],[3,2,1,999]⟩)
  (True ∧ True ∧ True ∧ (True ∧ True) ∧ True) (by kernel_rfl)
  ⟨tt,tt,tt,⟨tt,tt⟩,tt⟩ ?_
 refine W.K cok tab32 hnt [] [2,3] (⟨[(2,.ptr 2 0),(3,.ptr 3 0)],[(1,⟨50,.fix [.i a.proc,.i a.obj,.i a.kind,.i a.arg,.i a.ret,.i a.frm,.i a.to]⟩),(2,⟨47,.fix [.i (0 : Int),.i (0 : Int),.i (0 : Int),.i (0 : Int),.i (0 : Int),.i (0 : Int),.i (0 : Int)]⟩),(3,⟨47,.fix [.i a.proc,.i a.obj,.i a.kind,.i a.arg,.i a.ret,.i a.frm,.i a.to]⟩)],[3,2,1,999]⟩)
  (True ∧ True ∧ True ∧ (True ∧ True) ∧ True) (by kernel_rfl)
  ⟨tt,tt,tt,⟨tt,tt⟩,tt⟩ ?_
 refine W.K cok tab32 hnt [] [2] (⟨[(2,.ptr 2 0)],[(1,⟨50,.fix [.i a.proc,.i a.obj,.i a.kind,.i a.arg,.i a.ret,.i a.frm,.i a.to]⟩),(2,⟨47,.fix [.i a.proc,.i a.obj,.i a.kind,.i a.arg,.i a.ret,.i a.frm,.i a.to]⟩),(3,⟨47,.fix [.i a.proc,.i a.obj,.i a.kind,.i a.arg,.i a.ret,.i a.frm,.i a.to]⟩)],[3,2,1,999]⟩)
  (True ∧ (True ∧ True) ∧ True) (by kernel_rfl)
  ⟨tt,⟨tt,tt⟩,tt⟩ ?_
 refine W.ret ?_
 exact endQ_ret (.agg [.i a.proc,.i a.obj,.i a.kind,.i a.arg,.i a.ret,.i a.frm,.i a.to]) (by kernel_rfl) (@cast (((.int .i64 a.proc : Value) = .int .i64 a.proc) ∧ (((.int .i64 a.obj : Value) = .int .i64 a.obj) ∧ (((.int .i64 a.kind : Value) = .int .i64 a.kind) ∧ (((.int .i64 a.arg : Value) = .int .i64 a.arg) ∧ (((.int .i64 a.ret : Value) = .int .i64 a.ret) ∧ (((.int .i64 a.frm : Value) = .int .i64 a.frm) ∧ (((.int .i64 a.to : Value) = .int .i64 a.to) ∧ True))))))) _ (by kernel_rfl) ⟨rfl,rfl,rfl,rfl,rfl,rfl,rfl,tt⟩)
theorem ent32 : Entr prog 32 := ⟨_,func32,rfl,by decide⟩
end Go.Proofs.Try

set_option linter.unusedSimpArgs false
set_option linter.unusedVariables false
namespace Go.Proofs.Try
open Go.Ab Go.RowKit
def fs9 : FnS := fnS [.s .calls] [.calls] (fun _ (h,_) => (.own 0 h.length,[(47,.calls h)],(h.length ≤ 1048576)))
abbrev T9 : Tab := lk [(32,fs32)]
theorem tab9 : TabOK prog T9 := (TabOK.cons ok32 ent32 TabOK.nil)
set_option maxRecDepth 100000 in
set_option maxHeartbeats 1000000 in
theorem ok9 : FnOK prog 9 fs9 := by
 refine FnOK.mk cok func9 rfl rfl rfl ?_
 rintro fl ⟨(h : List CallD),_⟩ hpre F hnt0 _
 have hnt : F.nt = 23 := hnt0.trans ntmps9
 replace hpre : (h.length ≤ 1048576) := hpre
 have hn := hpre
 refine W.to (⟨[(0,.sl (.calls h))],[],[999]⟩) rfl ?_
 refine W.lenOf 0 (.calls h) (by kernel_rfl) ?_
 intro hl_h; replace hl_h : List.length h ≤ 9223372036854775807 := hl_h
 refine W.K cok tab9 hnt [] [0] (⟨[(0,.sl (.calls h))],[],[999]⟩)
  (True ∧ True) (by kernel_rfl)
  ⟨tt,tt⟩ ?_
 refine W.K cok tab9 hnt [7] [0,3] (⟨[(0,.sl (.calls h)),(3,.own 7 (List.length (List.replicate h.length (⟨0,0,0,0,0,0,0⟩ : CallD))))],[(7,⟨47,.row (.calls (List.replicate h.length (⟨0,0,0,0,0,0,0⟩ : CallD)))⟩)],[7,999]⟩)
  (True ∧ True ∧ (True ∧ True ∧ ((h.length : Int) = (h.length : Int)) ∧ (0 ≤ (h.length : Int)) ∧ ((h.length : Int) * 56 ≤ 281474976710656)) ∧ True ∧ True) (by kernel_rfl)
  ⟨tt,tt,⟨tt,tt,rfl,(by omega),(by omega)⟩,tt,tt⟩ ?_
 refine W.seq ?_
 refine W.K cok tab9 hnt [] [0,3,4] (⟨[(0,.sl (.calls h)),(3,.own 7 (List.length (List.replicate h.length (⟨0,0,0,0,0,0,0⟩ : CallD)))),(4,.i (0 : Int))],[(7,⟨47,.row (.calls (List.replicate h.length (⟨0,0,0,0,0,0,0⟩ : CallD)))⟩)],[7,999]⟩)
  (True ∧ True) (by kernel_rfl)
  ⟨tt,tt⟩ ?_
 refine W.block ?_
 refine W.loop (ι := Nat × (List CallD)) (fun (x : Nat × (List CallD)) => match x with | (i,o) => (⟨[(0,.sl (.calls h)),(3,.own 7 o.length),(4,.i ((i : Nat) : Int))],[(7,⟨47,.row (.calls o)⟩)],[7,999]⟩ : St))
  (fun (x : Nat × (List CallD)) => match x with | (i,o) => (i ≤ h.length) ∧ (o = toUp default h i))
  (fun (x : Nat × (List CallD)) => match x with | (i,o) => (h.length - i : Nat)) (0,(List.replicate h.length (⟨0,0,0,0,0,0,0⟩ : CallD))) ?_ ?_ ?_
 ·exact (show (0 ≤ h.length) ∧ ((List.replicate h.length (⟨0,0,0,0,0,0,0⟩ : CallD)) = toUp default h 0) from ⟨(by first | assumption | omega | rfl | (intro _ hjj; omega) | (simp; done) | (simp; omega)),(by exact toUp_zero _ _)⟩)
 ·exact Sub.of [] (@cast ((((.calls h : Dat) = .calls h) ∧ ((((7 : Nat) = 7) ∧ (((List.length (List.replicate h.length (⟨0,0,0,0,0,0,0⟩ : CallD))) = (List.length (List.replicate h.length (⟨0,0,0,0,0,0,0⟩ : CallD)))) ∧ ((7 : Nat) ∈ ([7,999] : List Nat)))) ∧ (((.int .i64 (0 : Int) : Value) = .int .i64 ((0 : Nat) : Int)) ∧ True))) ∧ (((((47 : Nat) = 47) ∧ (((.calls (List.replicate h.length (⟨0,0,0,0,0,0,0⟩ : CallD)) : Dat) = .calls (List.replicate h.length (⟨0,0,0,0,0,0,0⟩ : CallD))) ∧ ((7 : Nat) ∈ ([7,999] : List Nat)))) ∧ True) ∧ ((true = true) ∧ (true = true)))) _ (by kernel_rfl) ⟨⟨rfl,⟨rfl,rfl,(by decide)⟩,(congrArg (Value.int .i64) (by first | rfl | omega | assumption | simp | simp_all)),tt⟩,⟨⟨rfl,rfl,(by decide)⟩,tt⟩,rfl,rfl⟩)
 ·rintro ⟨i,o⟩ hC0
  have hC : (i ≤ h.length) ∧ (o = toUp default h i) := hC0
  clear hC0
  obtain ⟨hi,ho⟩ := hC
  refine W.to (⟨[(0,.sl (.calls h)),(3,.own 7 o.length),(4,.i ((i : Nat) : Int))],[(7,⟨47,.row (.calls o)⟩)],[7,999]⟩) rfl ?_
  have hol : o.length = h.length := by rw [ho]; exact toUp_len _ _ hi
  refine W.seq ?_
  refine W.K cok tab9 hnt [] [0,3,4,11] (⟨[(0,.sl (.calls h)),(3,.own 7 o.length),(4,.i ((i : Nat) : Int)),(11,.b (decide (((i : Nat) : Int) < (h.length : Int))))],[(7,⟨47,.row (.calls o)⟩)],[7,999]⟩)
   (True ∧ True ∧ True ∧ (True ∧ True ∧ True) ∧ True) (by kernel_rfl)
   ⟨tt,tt,tt,⟨tt,tt,tt⟩,tt⟩ ?_
  refine W.ifP (((i : Nat) : Int) < (h.length : Int)) (.b (decide (((i : Nat) : Int) < (h.length : Int)))) (by kernel_rfl) rfl trivial ?_ ?_
  ·intro h11
   refine W.skip (thenQ_normal ?_)
   refine W.seq ?_
   refine W.block ?_
   refine W.L cok tab9 hnt [] (⟨[(0,.sl (.calls h)),(3,.own 7 o.length),(4,.i ((i : Nat) : Int)),(11,.b (decide (((i : Nat) : Int) < (h.length : Int)))),(14,.own 7 o.length),(15,.i ((i : Nat) : Int)),(16,.sl (.calls h)),(17,.i ((i : Nat) : Int)),(18,.ep [.i ((h.getD i default).proc),.i ((h.getD i default).obj),.i ((h.getD i default).kind),.i ((h.getD i default).arg),.i ((h.getD i default).ret),.i ((h.getD i default).frm),.i ((h.getD i default).to)]),(19,.agg [.i ((h.getD i default).proc),.i ((h.getD i default).obj),.i ((h.getD i default).kind),.i ((h.getD i default).arg),.i ((h.getD i default).ret),.i ((h.getD i default).frm),.i ((h.getD i default).to)]),(20,.agg [.i ((h.getD i default).proc),.i ((h.getD i default).obj),.i ((h.getD i default).kind),.i ((h.getD i default).arg),.i ((h.getD i default).ret),.i ((h.getD i default).frm),.i ((h.getD i default).to)]),(21,.pel 7 7 i 0)],[(7,⟨47,.row (.calls (List.set o i (h.getD i default)))⟩)],[7,999]⟩)
    (True ∧ True ∧ True ∧ True ∧ (True ∧ True ∧ (0 ≤ ((i : Nat) : Int)) ∧ (((i : Nat) : Int) < (h.length : Int))) ∧ True ∧ (True ∧ (True ∧ True) ∧ True) ∧ (True ∧ True ∧ (0 ≤ ((i : Nat) : Int)) ∧ (((i : Nat) : Int) < (o.length : Int))) ∧ (True ∧ True ∧ (i < o.length)) ∧ True) (by kernel_rfl)
    ⟨tt,tt,tt,tt,⟨tt,tt,(by omega),(by omega)⟩,tt,⟨tt,⟨tt,tt⟩,tt⟩,⟨tt,tt,(by omega),(by omega)⟩,⟨tt,tt,(by omega)⟩,tt⟩ ?_
   refine blockQ_normal (thenQ_normal ?_)
   refine W.L cok tab9 hnt [] (⟨[(0,.sl (.calls h)),(3,.own 7 o.length),(4,.i (((i + 1) : Nat) : Int)),(11,.b (decide (((i : Nat) : Int) < (h.length : Int)))),(12,.i ((i : Nat) : Int)),(13,.i (((i + 1) : Nat) : Int)),(14,.own 7 o.length),(15,.i ((i : Nat) : Int)),(16,.sl (.calls h)),(17,.i ((i : Nat) : Int)),(18,.ep [.i ((h.getD i default).proc),.i ((h.getD i default).obj),.i ((h.getD i default).kind),.i ((h.getD i default).arg),.i ((h.getD i default).ret),.i ((h.getD i default).frm),.i ((h.getD i default).to)]),(19,.agg [.i ((h.getD i default).proc),.i ((h.getD i default).obj),.i ((h.getD i default).kind),.i ((h.getD i default).arg),.i ((h.getD i default).ret),.i ((h.getD i default).frm),.i ((h.getD i default).to)]),(20,.agg [.i ((h.getD i default).proc),.i ((h.getD i default).obj),.i ((h.getD i default).kind),.i ((h.getD i default).arg),.i ((h.getD i default).ret),.i ((h.getD i default).frm),.i ((h.getD i default).to)]),(21,.pel 7 7 i 0)],[(7,⟨47,.row (.calls (List.set o i (h.getD i default)))⟩)],[7,999]⟩)
    (True ∧ (True ∧ True ∧ (Fits .i64 (((i + 1) : Nat) : Int))) ∧ True ∧ True) (by kernel_rfl)
    ⟨tt,⟨tt,tt,(by exact fits_i64 (by omega) (by omega))⟩,tt,tt⟩ ?_
   refine thenQ_normal ?_
   refine ⟨((i + 1),(List.set o i (h.getD i default))),(show ((i + 1) ≤ h.length) ∧ ((List.set o i (h.getD i default)) = toUp default h (i + 1)) from ⟨(by first | assumption | omega | rfl | (intro _ hjj; omega) | (simp; done) | (simp; omega)),(by exact toUp_step ho (by omega))⟩),(show h.length - (i + 1) < h.length - i from (by first | omega | (simp_all; omega))),?_⟩
   exact Sub.of [] (@cast ((((.calls h : Dat) = .calls h) ∧ ((((7 : Nat) = 7) ∧ ((o.length = (List.length (List.set o i (h.getD i default)))) ∧ ((7 : Nat) ∈ ([7,999] : List Nat)))) ∧ (((.int .i64 (((i + 1) : Nat) : Int) : Value) = .int .i64 (((i + 1) : Nat) : Int)) ∧ True))) ∧ (((((47 : Nat) = 47) ∧ (((.calls (List.set o i (h.getD i default)) : Dat) = .calls (List.set o i (h.getD i default))) ∧ ((7 : Nat) ∈ ([7,999] : List Nat)))) ∧ True) ∧ ((true = true) ∧ (true = true)))) _ (by kernel_rfl) ⟨⟨rfl,⟨rfl,(by first | rfl | omega | assumption | (symm; assumption) | simp | simp_all),(by decide)⟩,rfl,tt⟩,⟨⟨rfl,rfl,(by decide)⟩,tt⟩,rfl,rfl⟩)
  ·intro n11
   refine W.exit (thenQ_exit (thenQ_exit (blockQ_hit ?_)))
   refine thenQ_normal ?_
   refine W.K cok tab9 hnt [] [2] (⟨[(2,.own 7 o.length)],[(7,⟨47,.row (.calls o)⟩)],[7,999]⟩)
    (True ∧ True ∧ True) (by kernel_rfl)
    ⟨tt,tt,tt⟩ ?_
   refine W.ret ?_
   exact endQ_rows [(0,7)] (.own 7 o.length) (by kernel_rfl) (@cast (((7 : Nat) = 7) ∧ ((o.length = h.length) ∧ ((0 : Nat) ∈ ([0] : List Nat)))) _ (by kernel_rfl) ⟨rfl,(by first | rfl | omega | assumption | (symm; assumption) | (exact congrArg List.length (by exact toUp_all ho (by omega))) | (exact toUp_all ho (by omega); done) | simp | simp_all),(by decide)⟩) (@cast ((((47 : Nat) = 47) ∧ (((.calls o : Dat) = .calls h) ∧ ((0 : Nat) ∈ ([0] : List Nat)))) ∧ True) _ (by kernel_rfl) ⟨⟨rfl,(congrArg Dat.calls (by exact toUp_all ho (by omega))),(by decide)⟩,tt⟩) (by kernel_rfl)
theorem ent9 : Entr prog 9 := ⟨_,func9,rfl,by decide⟩
end Go.Proofs.Try

set_option linter.unusedSimpArgs false
set_option linter.unusedVariables false
namespace Go.Proofs.Try
open Go.Ab Go.RowKit
def fs26 : FnS := fnS [.o] [.str] (fun _ (s,_) => (.b (isObject s),[],True))
abbrev T26 : Tab := lk []
theorem tab26 : TabOK prog T26 := TabOK.nil
set_option maxRecDepth 100000 in
set_option maxHeartbeats 1000000 in
theorem ok26 : FnOK prog 26 fs26 := by
 refine FnOK.mk cok func26 rfl rfl rfl ?_
 rintro fl ⟨(s : ByteArray),_⟩ hpre F hnt0 _
 have hnt : F.nt = 25 := hnt0.trans ntmps26
 clear hpre
 refine W.to (⟨[(0,.v (.string s))],[],[999]⟩) rfl ?_
 refine W.K cok tab26 hnt [] [0] (⟨[(0,.v (.string s))],[],[999]⟩)
  (True ∧ True) (by kernel_rfl)
  ⟨tt,tt⟩ ?_
 refine W.K cok tab26 hnt [] [2] (⟨[(2,.b ((((((eqS s nRegister) || (eqS s nQueue)) || (eqS s nStack)) || (eqS s nCounter)) || (eqS s nSet)) || (eqS s nMost)))],[],[999]⟩)
  (True ∧ (True ∧ True ∧ True) ∧ True ∧ ((!(eqS s nRegister)) = true → True) ∧ ((!(eqS s nRegister)) = true → ((((!(eqS s nRegister)) = true) ∧ True) ∧ True ∧ True)) ∧ (True ∧ ((eqS s nRegister) = true → True) ∧ ((eqS s nRegister) = false → ((!(eqS s nRegister)) = true) ∧ True)) ∧ True ∧ ((!((eqS s nRegister) || (eqS s nQueue))) = true → True) ∧ ((!((eqS s nRegister) || (eqS s nQueue))) = true → ((((!((eqS s nRegister) || (eqS s nQueue))) = true) ∧ True) ∧ True ∧ True)) ∧ (True ∧ (((eqS s nRegister) || (eqS s nQueue)) = true → True) ∧ (((eqS s nRegister) || (eqS s nQueue)) = false → ((!((eqS s nRegister) || (eqS s nQueue))) = true) ∧ True)) ∧ True ∧ ((!(((eqS s nRegister) || (eqS s nQueue)) || (eqS s nStack))) = true → True) ∧ ((!(((eqS s nRegister) || (eqS s nQueue)) || (eqS s nStack))) = true → ((((!(((eqS s nRegister) || (eqS s nQueue)) || (eqS s nStack))) = true) ∧ True) ∧ True ∧ True)) ∧ (True ∧ ((((eqS s nRegister) || (eqS s nQueue)) || (eqS s nStack)) = true → True) ∧ ((((eqS s nRegister) || (eqS s nQueue)) || (eqS s nStack)) = false → ((!(((eqS s nRegister) || (eqS s nQueue)) || (eqS s nStack))) = true) ∧ True)) ∧ True ∧ ((!((((eqS s nRegister) || (eqS s nQueue)) || (eqS s nStack)) || (eqS s nCounter))) = true → True) ∧ ((!((((eqS s nRegister) || (eqS s nQueue)) || (eqS s nStack)) || (eqS s nCounter))) = true → ((((!((((eqS s nRegister) || (eqS s nQueue)) || (eqS s nStack)) || (eqS s nCounter))) = true) ∧ True) ∧ True ∧ True)) ∧ (True ∧ (((((eqS s nRegister) || (eqS s nQueue)) || (eqS s nStack)) || (eqS s nCounter)) = true → True) ∧ (((((eqS s nRegister) || (eqS s nQueue)) || (eqS s nStack)) || (eqS s nCounter)) = false → ((!((((eqS s nRegister) || (eqS s nQueue)) || (eqS s nStack)) || (eqS s nCounter))) = true) ∧ True)) ∧ True ∧ ((!(((((eqS s nRegister) || (eqS s nQueue)) || (eqS s nStack)) || (eqS s nCounter)) || (eqS s nSet))) = true → True) ∧ ((!(((((eqS s nRegister) || (eqS s nQueue)) || (eqS s nStack)) || (eqS s nCounter)) || (eqS s nSet))) = true → ((((!(((((eqS s nRegister) || (eqS s nQueue)) || (eqS s nStack)) || (eqS s nCounter)) || (eqS s nSet))) = true) ∧ True) ∧ True ∧ True)) ∧ (True ∧ ((((((eqS s nRegister) || (eqS s nQueue)) || (eqS s nStack)) || (eqS s nCounter)) || (eqS s nSet)) = true → True) ∧ ((((((eqS s nRegister) || (eqS s nQueue)) || (eqS s nStack)) || (eqS s nCounter)) || (eqS s nSet)) = false → ((!(((((eqS s nRegister) || (eqS s nQueue)) || (eqS s nStack)) || (eqS s nCounter)) || (eqS s nSet))) = true) ∧ True)) ∧ True ∧ True) (by kernel_rfl)
  ⟨tt,⟨tt,tt,tt⟩,tt,(fun _ => trivial),(fun hG => ⟨⟨hG,tt⟩,tt,tt⟩),⟨tt,(fun _ => trivial),(fun hp => ⟨(not_t hp),tt⟩)⟩,tt,(fun _ => trivial),(fun hG => ⟨⟨hG,tt⟩,tt,tt⟩),⟨tt,(fun _ => trivial),(fun hp => ⟨(not_t hp),tt⟩)⟩,tt,(fun _ => trivial),(fun hG => ⟨⟨hG,tt⟩,tt,tt⟩),⟨tt,(fun _ => trivial),(fun hp => ⟨(not_t hp),tt⟩)⟩,tt,(fun _ => trivial),(fun hG => ⟨⟨hG,tt⟩,tt,tt⟩),⟨tt,(fun _ => trivial),(fun hp => ⟨(not_t hp),tt⟩)⟩,tt,(fun _ => trivial),(fun hG => ⟨⟨hG,tt⟩,tt,tt⟩),⟨tt,(fun _ => trivial),(fun hp => ⟨(not_t hp),tt⟩)⟩,tt,tt⟩ ?_
 refine W.ret ?_
 exact endQ_ret (.b ((((((eqS s nRegister) || (eqS s nQueue)) || (eqS s nStack)) || (eqS s nCounter)) || (eqS s nSet)) || (eqS s nMost))) (by kernel_rfl) (@cast ((.bool ((((((eqS s nRegister) || (eqS s nQueue)) || (eqS s nStack)) || (eqS s nCounter)) || (eqS s nSet)) || (eqS s nMost)) : Value) = .bool (isObject s)) _ (by kernel_rfl) (congrArg Value.bool (by first | rfl | simp_all)))
theorem ent26 : Entr prog 26 := ⟨_,func26,rfl,by decide⟩
end Go.Proofs.Try

set_option linter.unusedSimpArgs false
set_option linter.unusedVariables false
namespace Go.Proofs.Try
open Go.Ab Go.RowKit
def fs30 : FnS := fnS [.o,.o,.o] [.int,.int,.int] (fun _ (n,low,high,_) => (.b (within n low high),[],True))
abbrev T30 : Tab := lk []
theorem tab30 : TabOK prog T30 := TabOK.nil
set_option maxRecDepth 100000 in
set_option maxHeartbeats 1000000 in
theorem ok30 : FnOK prog 30 fs30 := by
 refine FnOK.mk cok func30 rfl rfl rfl ?_
 rintro fl ⟨(n : Int),(low : Int),(high : Int),_⟩ hpre F hnt0 _
 have hnt : F.nt = 15 := hnt0.trans ntmps30
 clear hpre
 refine W.to (⟨[(0,.i n),(1,.i low),(2,.i high)],[],[999]⟩) rfl ?_
 refine W.K cok tab30 hnt [] [0,1,2] (⟨[(0,.i n),(1,.i low),(2,.i high)],[],[999]⟩)
  (True ∧ True) (by kernel_rfl)
  ⟨tt,tt⟩ ?_
 refine W.K cok tab30 hnt [] [6] (⟨[(6,.b ((decide (low ≤ n)) && (decide (n ≤ high))))],[],[999]⟩)
  (True ∧ True ∧ (True ∧ True ∧ True) ∧ True ∧ ((decide (low ≤ n)) = true → True) ∧ ((decide (low ≤ n)) = true → True) ∧ ((decide (low ≤ n)) = true → ((((decide (low ≤ n)) = true) ∧ True) ∧ (((decide (low ≤ n)) = true) ∧ True) ∧ True)) ∧ (True ∧ ((decide (low ≤ n)) = true → ((decide (low ≤ n)) = true) ∧ True) ∧ ((decide (low ≤ n)) = false → True)) ∧ True ∧ True) (by kernel_rfl)
  ⟨tt,tt,⟨tt,tt,tt⟩,tt,(fun _ => trivial),(fun _ => trivial),(fun hG => ⟨⟨hG,tt⟩,⟨hG,tt⟩,tt⟩),⟨tt,(fun hp => ⟨hp,tt⟩),(fun _ => trivial)⟩,tt,tt⟩ ?_
 refine W.ret ?_
 exact endQ_ret (.b ((decide (low ≤ n)) && (decide (n ≤ high)))) (by kernel_rfl) (@cast ((.bool ((decide (low ≤ n)) && (decide (n ≤ high))) : Value) = .bool (within n low high)) _ (by kernel_rfl) (congrArg Value.bool (by first | rfl | simp_all)))
theorem ent30 : Entr prog 30 := ⟨_,func30,rfl,by decide⟩
end Go.Proofs.Try

set_option linter.unusedSimpArgs false
set_option linter.unusedVariables false
namespace Go.Proofs.Try
open Go.Ab Go.RowKit
def fs49 : FnS := fnS [.o] [.call] (fun _ (c,_) => (.b (isCall c),[],True))
abbrev T49 : Tab := lk [(30,fs30)]
theorem tab49 : TabOK prog T49 := (TabOK.cons ok30 ent30 TabOK.nil)
set_option maxRecDepth 100000 in
set_option maxHeartbeats 1000000 in
theorem ok49 : FnOK prog 49 fs49 := by
 refine FnOK.mk cok func49 rfl rfl rfl ?_
 rintro fl ⟨(c : CallD),_⟩ hpre F hnt0 _
 have hnt : F.nt = 39 := hnt0.trans ntmps49
 clear hpre
 refine W.to (⟨[(0,.agg [.i c.proc,.i c.obj,.i c.kind,.i c.arg,.i c.ret,.i c.frm,.i c.to])],[],[999]⟩) rfl ?_
 refine W.K cok tab49 hnt [] [1] (⟨[(1,.ptr 1 0)],[(1,⟨47,.fix [.i c.proc,.i c.obj,.i c.kind,.i c.arg,.i c.ret,.i c.frm,.i c.to]⟩)],[1,999]⟩)
  (True ∧ True ∧ True) (by kernel_rfl)
  ⟨tt,tt,tt⟩ ?_
 refine W.K cok tab49 hnt [] [2] (⟨[(2,.b (((((((within c.proc (0 : Int) (2 : Int)) && (within c.obj (0 : Int) (1 : Int))) && (within c.kind (0 : Int) (2 : Int))) && (within c.arg (0 : Int) (3 : Int))) && (within c.ret (-1 : Int) (20 : Int))) && (within c.frm (0 : Int) (30 : Int))) && (within c.to (c.frm + (1 : Int)) (30 : Int))))],[(1,⟨47,.fix [.i c.proc,.i c.obj,.i c.kind,.i c.arg,.i c.ret,.i c.frm,.i c.to]⟩)],[1,999]⟩)
  (True ∧ True ∧ (True ∧ (True ∧ True ∧ True ∧ True) ∧ True) ∧ True ∧ ((within c.proc (0 : Int) (2 : Int)) = true → True) ∧ ((within c.proc (0 : Int) (2 : Int)) = true → (((within c.proc (0 : Int) (2 : Int)) = true) ∧ True)) ∧ ((within c.proc (0 : Int) (2 : Int)) = true → (True ∧ ((((within c.proc (0 : Int) (2 : Int)) = true) ∧ True) ∧ True ∧ True ∧ True) ∧ True)) ∧ (True ∧ ((within c.proc (0 : Int) (2 : Int)) = true → ((within c.proc (0 : Int) (2 : Int)) = true) ∧ True) ∧ ((within c.proc (0 : Int) (2 : Int)) = false → True)) ∧ True ∧ (((within c.proc (0 : Int) (2 : Int)) && (within c.obj (0 : Int) (1 : Int))) = true → True) ∧ (((within c.proc (0 : Int) (2 : Int)) && (within c.obj (0 : Int) (1 : Int))) = true → ((((within c.proc (0 : Int) (2 : Int)) && (within c.obj (0 : Int) (1 : Int))) = true) ∧ True)) ∧ (((within c.proc (0 : Int) (2 : Int)) && (within c.obj (0 : Int) (1 : Int))) = true → (True ∧ (((((within c.proc (0 : Int) (2 : Int)) && (within c.obj (0 : Int) (1 : Int))) = true) ∧ True) ∧ True ∧ True ∧ True) ∧ True)) ∧ (True ∧ (((within c.proc (0 : Int) (2 : Int)) && (within c.obj (0 : Int) (1 : Int))) = true → (((within c.proc (0 : Int) (2 : Int)) && (within c.obj (0 : Int) (1 : Int))) = true) ∧ True) ∧ (((within c.proc (0 : Int) (2 : Int)) && (within c.obj (0 : Int) (1 : Int))) = false → True)) ∧ True ∧ ((((within c.proc (0 : Int) (2 : Int)) && (within c.obj (0 : Int) (1 : Int))) && (within c.kind (0 : Int) (2 : Int))) = true → True) ∧ ((((within c.proc (0 : Int) (2 : Int)) && (within c.obj (0 : Int) (1 : Int))) && (within c.kind (0 : Int) (2 : Int))) = true → (((((within c.proc (0 : Int) (2 : Int)) && (within c.obj (0 : Int) (1 : Int))) && (within c.kind (0 : Int) (2 : Int))) = true) ∧ True)) ∧ ((((within c.proc (0 : Int) (2 : Int)) && (within c.obj (0 : Int) (1 : Int))) && (within c.kind (0 : Int) (2 : Int))) = true → (True ∧ ((((((within c.proc (0 : Int) (2 : Int)) && (within c.obj (0 : Int) (1 : Int))) && (within c.kind (0 : Int) (2 : Int))) = true) ∧ True) ∧ True ∧ True ∧ True) ∧ True)) ∧ (True ∧ ((((within c.proc (0 : Int) (2 : Int)) && (within c.obj (0 : Int) (1 : Int))) && (within c.kind (0 : Int) (2 : Int))) = true → ((((within c.proc (0 : Int) (2 : Int)) && (within c.obj (0 : Int) (1 : Int))) && (within c.kind (0 : Int) (2 : Int))) = true) ∧ True) ∧ ((((within c.proc (0 : Int) (2 : Int)) && (within c.obj (0 : Int) (1 : Int))) && (within c.kind (0 : Int) (2 : Int))) = false → True)) ∧ True ∧ (((((within c.proc (0 : Int) (2 : Int)) && (within c.obj (0 : Int) (1 : Int))) && (within c.kind (0 : Int) (2 : Int))) && (within c.arg (0 : Int) (3 : Int))) = true → True) ∧ (((((within c.proc (0 : Int) (2 : Int)) && (within c.obj (0 : Int) (1 : Int))) && (within c.kind (0 : Int) (2 : Int))) && (within c.arg (0 : Int) (3 : Int))) = true → ((((((within c.proc (0 : Int) (2 : Int)) && (within c.obj (0 : Int) (1 : Int))) && (within c.kind (0 : Int) (2 : Int))) && (within c.arg (0 : Int) (3 : Int))) = true) ∧ True)) ∧ (((((within c.proc (0 : Int) (2 : Int)) && (within c.obj (0 : Int) (1 : Int))) && (within c.kind (0 : Int) (2 : Int))) && (within c.arg (0 : Int) (3 : Int))) = true → (True ∧ (((((((within c.proc (0 : Int) (2 : Int)) && (within c.obj (0 : Int) (1 : Int))) && (within c.kind (0 : Int) (2 : Int))) && (within c.arg (0 : Int) (3 : Int))) = true) ∧ True) ∧ True ∧ True ∧ True) ∧ True)) ∧ (True ∧ (((((within c.proc (0 : Int) (2 : Int)) && (within c.obj (0 : Int) (1 : Int))) && (within c.kind (0 : Int) (2 : Int))) && (within c.arg (0 : Int) (3 : Int))) = true → (((((within c.proc (0 : Int) (2 : Int)) && (within c.obj (0 : Int) (1 : Int))) && (within c.kind (0 : Int) (2 : Int))) && (within c.arg (0 : Int) (3 : Int))) = true) ∧ True) ∧ (((((within c.proc (0 : Int) (2 : Int)) && (within c.obj (0 : Int) (1 : Int))) && (within c.kind (0 : Int) (2 : Int))) && (within c.arg (0 : Int) (3 : Int))) = false → True)) ∧ True ∧ ((((((within c.proc (0 : Int) (2 : Int)) && (within c.obj (0 : Int) (1 : Int))) && (within c.kind (0 : Int) (2 : Int))) && (within c.arg (0 : Int) (3 : Int))) && (within c.ret (-1 : Int) (20 : Int))) = true → True) ∧ ((((((within c.proc (0 : Int) (2 : Int)) && (within c.obj (0 : Int) (1 : Int))) && (within c.kind (0 : Int) (2 : Int))) && (within c.arg (0 : Int) (3 : Int))) && (within c.ret (-1 : Int) (20 : Int))) = true → (((((((within c.proc (0 : Int) (2 : Int)) && (within c.obj (0 : Int) (1 : Int))) && (within c.kind (0 : Int) (2 : Int))) && (within c.arg (0 : Int) (3 : Int))) && (within c.ret (-1 : Int) (20 : Int))) = true) ∧ True)) ∧ ((((((within c.proc (0 : Int) (2 : Int)) && (within c.obj (0 : Int) (1 : Int))) && (within c.kind (0 : Int) (2 : Int))) && (within c.arg (0 : Int) (3 : Int))) && (within c.ret (-1 : Int) (20 : Int))) = true → (True ∧ ((((((((within c.proc (0 : Int) (2 : Int)) && (within c.obj (0 : Int) (1 : Int))) && (within c.kind (0 : Int) (2 : Int))) && (within c.arg (0 : Int) (3 : Int))) && (within c.ret (-1 : Int) (20 : Int))) = true) ∧ True) ∧ True ∧ True ∧ True) ∧ True)) ∧ (True ∧ ((((((within c.proc (0 : Int) (2 : Int)) && (within c.obj (0 : Int) (1 : Int))) && (within c.kind (0 : Int) (2 : Int))) && (within c.arg (0 : Int) (3 : Int))) && (within c.ret (-1 : Int) (20 : Int))) = true → ((((((within c.proc (0 : Int) (2 : Int)) && (within c.obj (0 : Int) (1 : Int))) && (within c.kind (0 : Int) (2 : Int))) && (within c.arg (0 : Int) (3 : Int))) && (within c.ret (-1 : Int) (20 : Int))) = true) ∧ True) ∧ ((((((within c.proc (0 : Int) (2 : Int)) && (within c.obj (0 : Int) (1 : Int))) && (within c.kind (0 : Int) (2 : Int))) && (within c.arg (0 : Int) (3 : Int))) && (within c.ret (-1 : Int) (20 : Int))) = false → True)) ∧ True ∧ (((((((within c.proc (0 : Int) (2 : Int)) && (within c.obj (0 : Int) (1 : Int))) && (within c.kind (0 : Int) (2 : Int))) && (within c.arg (0 : Int) (3 : Int))) && (within c.ret (-1 : Int) (20 : Int))) && (within c.frm (0 : Int) (30 : Int))) = true → True) ∧ (((((((within c.proc (0 : Int) (2 : Int)) && (within c.obj (0 : Int) (1 : Int))) && (within c.kind (0 : Int) (2 : Int))) && (within c.arg (0 : Int) (3 : Int))) && (within c.ret (-1 : Int) (20 : Int))) && (within c.frm (0 : Int) (30 : Int))) = true → ((((((((within c.proc (0 : Int) (2 : Int)) && (within c.obj (0 : Int) (1 : Int))) && (within c.kind (0 : Int) (2 : Int))) && (within c.arg (0 : Int) (3 : Int))) && (within c.ret (-1 : Int) (20 : Int))) && (within c.frm (0 : Int) (30 : Int))) = true) ∧ True)) ∧ (((((((within c.proc (0 : Int) (2 : Int)) && (within c.obj (0 : Int) (1 : Int))) && (within c.kind (0 : Int) (2 : Int))) && (within c.arg (0 : Int) (3 : Int))) && (within c.ret (-1 : Int) (20 : Int))) && (within c.frm (0 : Int) (30 : Int))) = true → True) ∧ (((((((within c.proc (0 : Int) (2 : Int)) && (within c.obj (0 : Int) (1 : Int))) && (within c.kind (0 : Int) (2 : Int))) && (within c.arg (0 : Int) (3 : Int))) && (within c.ret (-1 : Int) (20 : Int))) && (within c.frm (0 : Int) (30 : Int))) = true → ((((((((within c.proc (0 : Int) (2 : Int)) && (within c.obj (0 : Int) (1 : Int))) && (within c.kind (0 : Int) (2 : Int))) && (within c.arg (0 : Int) (3 : Int))) && (within c.ret (-1 : Int) (20 : Int))) && (within c.frm (0 : Int) (30 : Int))) = true) ∧ True)) ∧ (((((((within c.proc (0 : Int) (2 : Int)) && (within c.obj (0 : Int) (1 : Int))) && (within c.kind (0 : Int) (2 : Int))) && (within c.arg (0 : Int) (3 : Int))) && (within c.ret (-1 : Int) (20 : Int))) && (within c.frm (0 : Int) (30 : Int))) = true → (((((((((within c.proc (0 : Int) (2 : Int)) && (within c.obj (0 : Int) (1 : Int))) && (within c.kind (0 : Int) (2 : Int))) && (within c.arg (0 : Int) (3 : Int))) && (within c.ret (-1 : Int) (20 : Int))) && (within c.frm (0 : Int) (30 : Int))) = true) ∧ True) ∧ True ∧ (Fits .i64 (c.frm + (1 : Int))))) ∧ (((((((within c.proc (0 : Int) (2 : Int)) && (within c.obj (0 : Int) (1 : Int))) && (within c.kind (0 : Int) (2 : Int))) && (within c.arg (0 : Int) (3 : Int))) && (within c.ret (-1 : Int) (20 : Int))) && (within c.frm (0 : Int) (30 : Int))) = true → (True ∧ (((((((((within c.proc (0 : Int) (2 : Int)) && (within c.obj (0 : Int) (1 : Int))) && (within c.kind (0 : Int) (2 : Int))) && (within c.arg (0 : Int) (3 : Int))) && (within c.ret (-1 : Int) (20 : Int))) && (within c.frm (0 : Int) (30 : Int))) = true) ∧ True) ∧ ((((((((within c.proc (0 : Int) (2 : Int)) && (within c.obj (0 : Int) (1 : Int))) && (within c.kind (0 : Int) (2 : Int))) && (within c.arg (0 : Int) (3 : Int))) && (within c.ret (-1 : Int) (20 : Int))) && (within c.frm (0 : Int) (30 : Int))) = true) ∧ True) ∧ True ∧ True) ∧ True)) ∧ (True ∧ (((((((within c.proc (0 : Int) (2 : Int)) && (within c.obj (0 : Int) (1 : Int))) && (within c.kind (0 : Int) (2 : Int))) && (within c.arg (0 : Int) (3 : Int))) && (within c.ret (-1 : Int) (20 : Int))) && (within c.frm (0 : Int) (30 : Int))) = true → (((((((within c.proc (0 : Int) (2 : Int)) && (within c.obj (0 : Int) (1 : Int))) && (within c.kind (0 : Int) (2 : Int))) && (within c.arg (0 : Int) (3 : Int))) && (within c.ret (-1 : Int) (20 : Int))) && (within c.frm (0 : Int) (30 : Int))) = true) ∧ True) ∧ (((((((within c.proc (0 : Int) (2 : Int)) && (within c.obj (0 : Int) (1 : Int))) && (within c.kind (0 : Int) (2 : Int))) && (within c.arg (0 : Int) (3 : Int))) && (within c.ret (-1 : Int) (20 : Int))) && (within c.frm (0 : Int) (30 : Int))) = false → True)) ∧ True ∧ True) (by kernel_rfl)
  ⟨tt,tt,⟨tt,⟨tt,tt,tt,tt⟩,tt⟩,tt,(fun _ => trivial),(fun hG => ⟨hG,tt⟩),(fun hG => ⟨tt,⟨⟨hG,tt⟩,tt,tt,tt⟩,tt⟩),⟨tt,(fun hp => ⟨hp,tt⟩),(fun _ => trivial)⟩,tt,(fun _ => trivial),(fun hG => ⟨hG,tt⟩),(fun hG => ⟨tt,⟨⟨hG,tt⟩,tt,tt,tt⟩,tt⟩),⟨tt,(fun hp => ⟨hp,tt⟩),(fun _ => trivial)⟩,tt,(fun _ => trivial),(fun hG => ⟨hG,tt⟩),(fun hG => ⟨tt,⟨⟨hG,tt⟩,tt,tt,tt⟩,tt⟩),⟨tt,(fun hp => ⟨hp,tt⟩),(fun _ => trivial)⟩,tt,(fun _ => trivial),(fun hG => ⟨hG,tt⟩),(fun hG => ⟨tt,⟨⟨hG,tt⟩,tt,tt,tt⟩,tt⟩),⟨tt,(fun hp => ⟨hp,tt⟩),(fun _ => trivial)⟩,tt,(fun _ => trivial),(fun hG => ⟨hG,tt⟩),(fun hG => ⟨tt,⟨⟨hG,tt⟩,tt,tt,tt⟩,tt⟩),⟨tt,(fun hp => ⟨hp,tt⟩),(fun _ => trivial)⟩,tt,(fun _ => trivial),(fun hG => ⟨hG,tt⟩),(fun _ => trivial),(fun hG => ⟨hG,tt⟩),(fun hG => ⟨⟨hG,tt⟩,tt,(by have hh := hG; simp only [Bool.and_eq_true,inRange_iff] at hh; exact fits_i64 (by omega) (by omega))⟩),(fun hG => ⟨tt,⟨⟨hG,tt⟩,⟨hG,tt⟩,tt,tt⟩,tt⟩),⟨tt,(fun hp => ⟨hp,tt⟩),(fun _ => trivial)⟩,tt,tt⟩ ?_
 refine W.ret ?_
 exact endQ_ret (.b (((((((within c.proc (0 : Int) (2 : Int)) && (within c.obj (0 : Int) (1 : Int))) && (within c.kind (0 : Int) (2 : Int))) && (within c.arg (0 : Int) (3 : Int))) && (within c.ret (-1 : Int) (20 : Int))) && (within c.frm (0 : Int) (30 : Int))) && (within c.to (c.frm + (1 : Int)) (30 : Int)))) (by kernel_rfl) (@cast ((.bool (((((((within c.proc (0 : Int) (2 : Int)) && (within c.obj (0 : Int) (1 : Int))) && (within c.kind (0 : Int) (2 : Int))) && (within c.arg (0 : Int) (3 : Int))) && (within c.ret (-1 : Int) (20 : Int))) && (within c.frm (0 : Int) (30 : Int))) && (within c.to (c.frm + (1 : Int)) (30 : Int))) : Value) = .bool (isCall c)) _ (by kernel_rfl) (congrArg Value.bool (by rw [validCall_eq])))
theorem ent49 : Entr prog 49 := ⟨_,func49,rfl,by decide⟩
end Go.Proofs.Try

set_option linter.unusedSimpArgs false
set_option linter.unusedVariables false
namespace Go.Proofs.Try
open Go.Ab Go.RowKit
def fs27 : FnS := fnS [.s .calls] [.calls] (fun _ (h,_) => (.b (validHistory h),[],True))
abbrev T27 : Tab := lk [(49,fs49)]
theorem tab27 : TabOK prog T27 := (TabOK.cons ok49 ent49 TabOK.nil)
set_option maxRecDepth 100000 in
set_option maxHeartbeats 1000000 in
theorem ok27 : FnOK prog 27 fs27 := by
 refine FnOK.mk cok func27 rfl rfl rfl ?_
 rintro fl ⟨(h : List CallD),_⟩ hpre F hnt0 _
 have hnt : F.nt = 112 := hnt0.trans ntmps27
 clear hpre
 refine W.to (⟨[(0,.sl (.calls h))],[],[999]⟩) rfl ?_
 refine W.lenOf 0 (.calls h) (by kernel_rfl) ?_
 intro hl_h; replace hl_h : List.length h ≤ 9223372036854775807 := hl_h
 refine W.K cok tab27 hnt [] [0] (⟨[(0,.sl (.calls h))],[],[999]⟩)
  (True ∧ True) (by kernel_rfl)
  ⟨tt,tt⟩ ?_
 refine W.seq ?_
 refine W.K cok tab27 hnt [] [0,3] (⟨[(0,.sl (.calls h)),(3,.i (0 : Int))],[],[999]⟩)
  (True ∧ True) (by kernel_rfl)
  ⟨tt,tt⟩ ?_
 refine W.block ?_
 refine W.loop (ι := Nat) (fun (i : Nat) => (⟨[(0,.sl (.calls h)),(3,.i ((i : Nat) : Int))],[],[999]⟩ : St))
  (fun (i : Nat) => (i ≤ h.length) ∧ (∀ j,j < i → (isCall (callAt h j) && allN j (fun k => !clash (callAt h j) (callAt h k))) = true))
  (fun (i : Nat) => (h.length - i : Nat)) (0) ?_ ?_ ?_
 ·exact (show (0 ≤ h.length) ∧ (∀ j,j < 0 → (isCall (callAt h j) && allN j (fun k => !clash (callAt h j) (callAt h k))) = true) from ⟨(by first | assumption | omega | rfl | (intro _ hjj; omega) | (simp; done) | (simp; omega)),(by exact upto_zero)⟩)
 ·exact Sub.of [] (@cast ((((.calls h : Dat) = .calls h) ∧ (((.int .i64 (0 : Int) : Value) = .int .i64 ((0 : Nat) : Int)) ∧ True)) ∧ (True ∧ ((true = true) ∧ (true = true)))) _ (by kernel_rfl) ⟨⟨rfl,(congrArg (Value.int .i64) (by first | rfl | omega | assumption | simp | simp_all)),tt⟩,tt,rfl,rfl⟩)
 ·rintro i hC0
  have hC : (i ≤ h.length) ∧ (∀ j,j < i → (isCall (callAt h j) && allN j (fun k => !clash (callAt h j) (callAt h k))) = true) := hC0
  clear hC0
  obtain ⟨hi,hA⟩ := hC
  refine W.to (⟨[(0,.sl (.calls h)),(3,.i ((i : Nat) : Int))],[],[999]⟩) rfl ?_
  refine W.seq ?_
  refine W.K cok tab27 hnt [] [0,3,8] (⟨[(0,.sl (.calls h)),(3,.i ((i : Nat) : Int)),(8,.b (decide (((i : Nat) : Int) < (h.length : Int))))],[],[999]⟩)
   (True ∧ True ∧ True ∧ (True ∧ True ∧ True) ∧ True) (by kernel_rfl)
   ⟨tt,tt,tt,⟨tt,tt,tt⟩,tt⟩ ?_
  refine W.ifP (((i : Nat) : Int) < (h.length : Int)) (.b (decide (((i : Nat) : Int) < (h.length : Int)))) (by kernel_rfl) rfl trivial ?_ ?_
  ·intro h8
   refine W.skip (thenQ_normal ?_)
   refine W.seq ?_
   refine W.block ?_
   refine W.seq ?_
   refine W.K cok tab27 hnt [] [0,3,16] (⟨[(0,.sl (.calls h)),(3,.i ((i : Nat) : Int)),(16,.b (!(isCall (h.getD i default))))],[],[999]⟩)
    (True ∧ True ∧ (True ∧ True ∧ (0 ≤ ((i : Nat) : Int)) ∧ (((i : Nat) : Int) < (h.length : Int))) ∧ True ∧ (True ∧ (True ∧ True) ∧ True) ∧ True ∧ True) (by kernel_rfl)
    ⟨tt,tt,⟨tt,tt,(by omega),(by omega)⟩,tt,⟨tt,⟨tt,tt⟩,tt⟩,tt,tt⟩ ?_
   refine W.if' (!(isCall (h.getD i default))) (.b (!(isCall (h.getD i default)))) (by kernel_rfl) rfl trivial ?_ ?_
   ·intro h16
    refine W.K cok tab27 hnt [] [2] (⟨[(2,.b false)],[],[999]⟩)
     (True ∧ True) (by kernel_rfl)
     ⟨tt,tt⟩ ?_
    refine W.ret (thenQ_ret (blockQ_ret (thenQ_ret (thenQ_ret (blockQ_ret (thenQ_ret ?_))))))
    exact endQ_ret (.b false) (by kernel_rfl) (@cast ((.bool false : Value) = .bool (validHistory h)) _ (by kernel_rfl) (congrArg Value.bool (by unfold validHistory; symm; exact and_fr (allN_false (i := i) (by omega) (and_fl (not_f h16))))))
   ·intro n16
    refine W.skip (thenQ_normal ?_)
    refine W.K cok tab27 hnt [] [0,3,4] (⟨[(0,.sl (.calls h)),(3,.i ((i : Nat) : Int)),(4,.i (0 : Int))],[],[999]⟩)
     (True ∧ True) (by kernel_rfl)
     ⟨tt,tt⟩ ?_
    refine W.block ?_
    refine W.loop (ι := Nat) (fun (k : Nat) => (⟨[(0,.sl (.calls h)),(3,.i ((i : Nat) : Int)),(4,.i ((k : Nat) : Int))],[],[999]⟩ : St))
     (fun (k : Nat) => (k ≤ i) ∧ (∀ j,j < k → (!clash (callAt h i) (callAt h j)) = true))
     (fun (k : Nat) => (i - k : Nat)) (0) ?_ ?_ ?_
    ·exact (show (0 ≤ i) ∧ (∀ j,j < 0 → (!clash (callAt h i) (callAt h j)) = true) from ⟨(by first | assumption | omega | rfl | (intro _ hjj; omega) | (simp; done) | (simp; omega)),(by exact upto_zero)⟩)
    ·exact Sub.of [] (@cast ((((.calls h : Dat) = .calls h) ∧ (((.int .i64 ((i : Nat) : Int) : Value) = .int .i64 ((i : Nat) : Int)) ∧ (((.int .i64 (0 : Int) : Value) = .int .i64 ((0 : Nat) : Int)) ∧ True))) ∧ (True ∧ ((true = true) ∧ (true = true)))) _ (by kernel_rfl) ⟨⟨rfl,rfl,(congrArg (Value.int .i64) (by first | rfl | omega | assumption | simp | simp_all)),tt⟩,tt,rfl,rfl⟩)
    ·rintro k hC0
     have hC : (k ≤ i) ∧ (∀ j,j < k → (!clash (callAt h i) (callAt h j)) = true) := hC0
     clear hC0
     obtain ⟨hk,hB⟩ := hC
     refine W.to (⟨[(0,.sl (.calls h)),(3,.i ((i : Nat) : Int)),(4,.i ((k : Nat) : Int))],[],[999]⟩) rfl ?_
     refine W.seq ?_
     refine W.K cok tab27 hnt [] [0,3,4,19] (⟨[(0,.sl (.calls h)),(3,.i ((i : Nat) : Int)),(4,.i ((k : Nat) : Int)),(19,.b (decide (((k : Nat) : Int) < ((i : Nat) : Int))))],[],[999]⟩)
      (True ∧ True ∧ (True ∧ True ∧ True) ∧ True) (by kernel_rfl)
      ⟨tt,tt,⟨tt,tt,tt⟩,tt⟩ ?_
     refine W.ifP (((k : Nat) : Int) < ((i : Nat) : Int)) (.b (decide (((k : Nat) : Int) < ((i : Nat) : Int)))) (by kernel_rfl) rfl trivial ?_ ?_
     ·intro h19
      refine W.skip (thenQ_normal ?_)
      refine W.seq ?_
      refine W.block ?_
      refine W.seq ?_
      refine W.KA cok tab27 hnt [] [0,3,4,71] (⟨[(0,.sl (.calls h)),(3,.i ((i : Nat) : Int)),(4,.i ((k : Nat) : Int)),(71,.b ((((decide (((h.getD k default).frm) = ((h.getD i default).frm))) || (decide (((h.getD k default).frm) = ((h.getD i default).to)))) || (decide (((h.getD k default).to) = ((h.getD i default).frm)))) || (decide (((h.getD k default).to) = ((h.getD i default).to)))))],[],[999]⟩)
       (True ∧ True ∧ (True ∧ True ∧ (0 ≤ ((k : Nat) : Int)) ∧ (((k : Nat) : Int) < (h.length : Int))) ∧ True ∧ True ∧ True ∧ True ∧ (True ∧ True ∧ (0 ≤ ((i : Nat) : Int)) ∧ (((i : Nat) : Int) < (h.length : Int))) ∧ True ∧ True ∧ (True ∧ True ∧ True) ∧ True ∧ ((!(decide (((h.getD k default).frm) = ((h.getD i default).frm)))) = true → True) ∧ ((!(decide (((h.getD k default).frm) = ((h.getD i default).frm)))) = true → True) ∧ ((!(decide (((h.getD k default).frm) = ((h.getD i default).frm)))) = true → ((((!(decide (((h.getD k default).frm) = ((h.getD i default).frm)))) = true) ∧ True) ∧ (((!(decide (((h.getD k default).frm) = ((h.getD i default).frm)))) = true) ∧ True) ∧ (0 ≤ ((k : Nat) : Int)) ∧ (((k : Nat) : Int) < (h.length : Int)))) ∧ ((!(decide (((h.getD k default).frm) = ((h.getD i default).frm)))) = true → (((!(decide (((h.getD k default).frm) = ((h.getD i default).frm)))) = true) ∧ True)) ∧ ((!(decide (((h.getD k default).frm) = ((h.getD i default).frm)))) = true → (((!(decide (((h.getD k default).frm) = ((h.getD i default).frm)))) = true) ∧ True)) ∧ ((!(decide (((h.getD k default).frm) = ((h.getD i default).frm)))) = true → True) ∧ ((!(decide (((h.getD k default).frm) = ((h.getD i default).frm)))) = true → True) ∧ ((!(decide (((h.getD k default).frm) = ((h.getD i default).frm)))) = true → ((((!(decide (((h.getD k default).frm) = ((h.getD i default).frm)))) = true) ∧ True) ∧ (((!(decide (((h.getD k default).frm) = ((h.getD i default).frm)))) = true) ∧ True) ∧ (0 ≤ ((i : Nat) : Int)) ∧ (((i : Nat) : Int) < (h.length : Int)))) ∧ ((!(decide (((h.getD k default).frm) = ((h.getD i default).frm)))) = true → (((!(decide (((h.getD k default).frm) = ((h.getD i default).frm)))) = true) ∧ True)) ∧ ((!(decide (((h.getD k default).frm) = ((h.getD i default).frm)))) = true → (((!(decide (((h.getD k default).frm) = ((h.getD i default).frm)))) = true) ∧ True)) ∧ ((!(decide (((h.getD k default).frm) = ((h.getD i default).frm)))) = true → ((((!(decide (((h.getD k default).frm) = ((h.getD i default).frm)))) = true) ∧ True) ∧ (((!(decide (((h.getD k default).frm) = ((h.getD i default).frm)))) = true) ∧ True) ∧ True)) ∧ (True ∧ ((decide (((h.getD k default).frm) = ((h.getD i default).frm))) = true → True) ∧ ((decide (((h.getD k default).frm) = ((h.getD i default).frm))) = false → ((!(decide (((h.getD k default).frm) = ((h.getD i default).frm)))) = true) ∧ True)) ∧ True ∧ ((!((decide (((h.getD k default).frm) = ((h.getD i default).frm))) || (decide (((h.getD k default).frm) = ((h.getD i default).to))))) = true → True) ∧ ((!((decide (((h.getD k default).frm) = ((h.getD i default).frm))) || (decide (((h.getD k default).frm) = ((h.getD i default).to))))) = true → True) ∧ ((!((decide (((h.getD k default).frm) = ((h.getD i default).frm))) || (decide (((h.getD k default).frm) = ((h.getD i default).to))))) = true → ((((!((decide (((h.getD k default).frm) = ((h.getD i default).frm))) || (decide (((h.getD k default).frm) = ((h.getD i default).to))))) = true) ∧ True) ∧ (((!((decide (((h.getD k default).frm) = ((h.getD i default).frm))) || (decide (((h.getD k default).frm) = ((h.getD i default).to))))) = true) ∧ True) ∧ (0 ≤ ((k : Nat) : Int)) ∧ (((k : Nat) : Int) < (h.length : Int)))) ∧ ((!((decide (((h.getD k default).frm) = ((h.getD i default).frm))) || (decide (((h.getD k default).frm) = ((h.getD i default).to))))) = true → (((!((decide (((h.getD k default).frm) = ((h.getD i default).frm))) || (decide (((h.getD k default).frm) = ((h.getD i default).to))))) = true) ∧ True)) ∧ ((!((decide (((h.getD k default).frm) = ((h.getD i default).frm))) || (decide (((h.getD k default).frm) = ((h.getD i default).to))))) = true → (((!((decide (((h.getD k default).frm) = ((h.getD i default).frm))) || (decide (((h.getD k default).frm) = ((h.getD i default).to))))) = true) ∧ True)) ∧ ((!((decide (((h.getD k default).frm) = ((h.getD i default).frm))) || (decide (((h.getD k default).frm) = ((h.getD i default).to))))) = true → True) ∧ ((!((decide (((h.getD k default).frm) = ((h.getD i default).frm))) || (decide (((h.getD k default).frm) = ((h.getD i default).to))))) = true → True) ∧ ((!((decide (((h.getD k default).frm) = ((h.getD i default).frm))) || (decide (((h.getD k default).frm) = ((h.getD i default).to))))) = true → ((((!((decide (((h.getD k default).frm) = ((h.getD i default).frm))) || (decide (((h.getD k default).frm) = ((h.getD i default).to))))) = true) ∧ True) ∧ (((!((decide (((h.getD k default).frm) = ((h.getD i default).frm))) || (decide (((h.getD k default).frm) = ((h.getD i default).to))))) = true) ∧ True) ∧ (0 ≤ ((i : Nat) : Int)) ∧ (((i : Nat) : Int) < (h.length : Int)))) ∧ ((!((decide (((h.getD k default).frm) = ((h.getD i default).frm))) || (decide (((h.getD k default).frm) = ((h.getD i default).to))))) = true → (((!((decide (((h.getD k default).frm) = ((h.getD i default).frm))) || (decide (((h.getD k default).frm) = ((h.getD i default).to))))) = true) ∧ True)) ∧ ((!((decide (((h.getD k default).frm) = ((h.getD i default).frm))) || (decide (((h.getD k default).frm) = ((h.getD i default).to))))) = true → (((!((decide (((h.getD k default).frm) = ((h.getD i default).frm))) || (decide (((h.getD k default).frm) = ((h.getD i default).to))))) = true) ∧ True)) ∧ ((!((decide (((h.getD k default).frm) = ((h.getD i default).frm))) || (decide (((h.getD k default).frm) = ((h.getD i default).to))))) = true → ((((!((decide (((h.getD k default).frm) = ((h.getD i default).frm))) || (decide (((h.getD k default).frm) = ((h.getD i default).to))))) = true) ∧ True) ∧ (((!((decide (((h.getD k default).frm) = ((h.getD i default).frm))) || (decide (((h.getD k default).frm) = ((h.getD i default).to))))) = true) ∧ True) ∧ True)) ∧ (True ∧ (((decide (((h.getD k default).frm) = ((h.getD i default).frm))) || (decide (((h.getD k default).frm) = ((h.getD i default).to)))) = true → True) ∧ (((decide (((h.getD k default).frm) = ((h.getD i default).frm))) || (decide (((h.getD k default).frm) = ((h.getD i default).to)))) = false → ((!((decide (((h.getD k default).frm) = ((h.getD i default).frm))) || (decide (((h.getD k default).frm) = ((h.getD i default).to))))) = true) ∧ True)) ∧ True ∧ ((!(((decide (((h.getD k default).frm) = ((h.getD i default).frm))) || (decide (((h.getD k default).frm) = ((h.getD i default).to)))) || (decide (((h.getD k default).to) = ((h.getD i default).frm))))) = true → True) ∧ ((!(((decide (((h.getD k default).frm) = ((h.getD i default).frm))) || (decide (((h.getD k default).frm) = ((h.getD i default).to)))) || (decide (((h.getD k default).to) = ((h.getD i default).frm))))) = true → True) ∧ ((!(((decide (((h.getD k default).frm) = ((h.getD i default).frm))) || (decide (((h.getD k default).frm) = ((h.getD i default).to)))) || (decide (((h.getD k default).to) = ((h.getD i default).frm))))) = true → ((((!(((decide (((h.getD k default).frm) = ((h.getD i default).frm))) || (decide (((h.getD k default).frm) = ((h.getD i default).to)))) || (decide (((h.getD k default).to) = ((h.getD i default).frm))))) = true) ∧ True) ∧ (((!(((decide (((h.getD k default).frm) = ((h.getD i default).frm))) || (decide (((h.getD k default).frm) = ((h.getD i default).to)))) || (decide (((h.getD k default).to) = ((h.getD i default).frm))))) = true) ∧ True) ∧ (0 ≤ ((k : Nat) : Int)) ∧ (((k : Nat) : Int) < (h.length : Int)))) ∧ ((!(((decide (((h.getD k default).frm) = ((h.getD i default).frm))) || (decide (((h.getD k default).frm) = ((h.getD i default).to)))) || (decide (((h.getD k default).to) = ((h.getD i default).frm))))) = true → (((!(((decide (((h.getD k default).frm) = ((h.getD i default).frm))) || (decide (((h.getD k default).frm) = ((h.getD i default).to)))) || (decide (((h.getD k default).to) = ((h.getD i default).frm))))) = true) ∧ True)) ∧ ((!(((decide (((h.getD k default).frm) = ((h.getD i default).frm))) || (decide (((h.getD k default).frm) = ((h.getD i default).to)))) || (decide (((h.getD k default).to) = ((h.getD i default).frm))))) = true → (((!(((decide (((h.getD k default).frm) = ((h.getD i default).frm))) || (decide (((h.getD k default).frm) = ((h.getD i default).to)))) || (decide (((h.getD k default).to) = ((h.getD i default).frm))))) = true) ∧ True)) ∧ ((!(((decide (((h.getD k default).frm) = ((h.getD i default).frm))) || (decide (((h.getD k default).frm) = ((h.getD i default).to)))) || (decide (((h.getD k default).to) = ((h.getD i default).frm))))) = true → True) ∧ ((!(((decide (((h.getD k default).frm) = ((h.getD i default).frm))) || (decide (((h.getD k default).frm) = ((h.getD i default).to)))) || (decide (((h.getD k default).to) = ((h.getD i default).frm))))) = true → True) ∧ ((!(((decide (((h.getD k default).frm) = ((h.getD i default).frm))) || (decide (((h.getD k default).frm) = ((h.getD i default).to)))) || (decide (((h.getD k default).to) = ((h.getD i default).frm))))) = true → ((((!(((decide (((h.getD k default).frm) = ((h.getD i default).frm))) || (decide (((h.getD k default).frm) = ((h.getD i default).to)))) || (decide (((h.getD k default).to) = ((h.getD i default).frm))))) = true) ∧ True) ∧ (((!(((decide (((h.getD k default).frm) = ((h.getD i default).frm))) || (decide (((h.getD k default).frm) = ((h.getD i default).to)))) || (decide (((h.getD k default).to) = ((h.getD i default).frm))))) = true) ∧ True) ∧ (0 ≤ ((i : Nat) : Int)) ∧ (((i : Nat) : Int) < (h.length : Int)))) ∧ ((!(((decide (((h.getD k default).frm) = ((h.getD i default).frm))) || (decide (((h.getD k default).frm) = ((h.getD i default).to)))) || (decide (((h.getD k default).to) = ((h.getD i default).frm))))) = true → (((!(((decide (((h.getD k default).frm) = ((h.getD i default).frm))) || (decide (((h.getD k default).frm) = ((h.getD i default).to)))) || (decide (((h.getD k default).to) = ((h.getD i default).frm))))) = true) ∧ True)) ∧ ((!(((decide (((h.getD k default).frm) = ((h.getD i default).frm))) || (decide (((h.getD k default).frm) = ((h.getD i default).to)))) || (decide (((h.getD k default).to) = ((h.getD i default).frm))))) = true → (((!(((decide (((h.getD k default).frm) = ((h.getD i default).frm))) || (decide (((h.getD k default).frm) = ((h.getD i default).to)))) || (decide (((h.getD k default).to) = ((h.getD i default).frm))))) = true) ∧ True)) ∧ ((!(((decide (((h.getD k default).frm) = ((h.getD i default).frm))) || (decide (((h.getD k default).frm) = ((h.getD i default).to)))) || (decide (((h.getD k default).to) = ((h.getD i default).frm))))) = true → ((((!(((decide (((h.getD k default).frm) = ((h.getD i default).frm))) || (decide (((h.getD k default).frm) = ((h.getD i default).to)))) || (decide (((h.getD k default).to) = ((h.getD i default).frm))))) = true) ∧ True) ∧ (((!(((decide (((h.getD k default).frm) = ((h.getD i default).frm))) || (decide (((h.getD k default).frm) = ((h.getD i default).to)))) || (decide (((h.getD k default).to) = ((h.getD i default).frm))))) = true) ∧ True) ∧ True)) ∧ (True ∧ ((((decide (((h.getD k default).frm) = ((h.getD i default).frm))) || (decide (((h.getD k default).frm) = ((h.getD i default).to)))) || (decide (((h.getD k default).to) = ((h.getD i default).frm)))) = true → True) ∧ ((((decide (((h.getD k default).frm) = ((h.getD i default).frm))) || (decide (((h.getD k default).frm) = ((h.getD i default).to)))) || (decide (((h.getD k default).to) = ((h.getD i default).frm)))) = false → ((!(((decide (((h.getD k default).frm) = ((h.getD i default).frm))) || (decide (((h.getD k default).frm) = ((h.getD i default).to)))) || (decide (((h.getD k default).to) = ((h.getD i default).frm))))) = true) ∧ True)) ∧ True) (by kernel_rfl) (by kernel_rfl)
       ⟨tt,tt,⟨tt,tt,(by omega),(by omega)⟩,tt,tt,tt,tt,⟨tt,tt,(by omega),(by omega)⟩,tt,tt,⟨tt,tt,tt⟩,tt,(fun _ => trivial),(fun _ => trivial),(fun hG => ⟨⟨hG,tt⟩,⟨hG,tt⟩,(by have hg0 : ¬ (((h.getD k default).frm) = ((h.getD i default).frm)) := of_decide_eq_false (not_f hG); omega),(by have hg0 : ¬ (((h.getD k default).frm) = ((h.getD i default).frm)) := of_decide_eq_false (not_f hG); omega)⟩),(fun hG => ⟨hG,tt⟩),(fun hG => ⟨hG,tt⟩),(fun _ => trivial),(fun _ => trivial),(fun hG => ⟨⟨hG,tt⟩,⟨hG,tt⟩,(by have hg0 : ¬ (((h.getD k default).frm) = ((h.getD i default).frm)) := of_decide_eq_false (not_f hG); omega),(by have hg0 : ¬ (((h.getD k default).frm) = ((h.getD i default).frm)) := of_decide_eq_false (not_f hG); omega)⟩),(fun hG => ⟨hG,tt⟩),(fun hG => ⟨hG,tt⟩),(fun hG => ⟨⟨hG,tt⟩,⟨hG,tt⟩,tt⟩),⟨tt,(fun _ => trivial),(fun hp => ⟨(not_t hp),tt⟩)⟩,tt,(fun _ => trivial),(fun _ => trivial),(fun hG => ⟨⟨hG,tt⟩,⟨hG,tt⟩,(by have hg0 : ¬ (((h.getD k default).frm) = ((h.getD i default).frm)) := of_decide_eq_false (or_l (not_f hG)); have hg1 : ¬ (((h.getD k default).frm) = ((h.getD i default).to)) := of_decide_eq_false (or_r (not_f hG)); omega),(by have hg0 : ¬ (((h.getD k default).frm) = ((h.getD i default).frm)) := of_decide_eq_false (or_l (not_f hG)); have hg1 : ¬ (((h.getD k default).frm) = ((h.getD i default).to)) := of_decide_eq_false (or_r (not_f hG)); omega)⟩),(fun hG => ⟨hG,tt⟩),(fun hG => ⟨hG,tt⟩),(fun _ => trivial),(fun _ => trivial),(fun hG => ⟨⟨hG,tt⟩,⟨hG,tt⟩,(by have hg0 : ¬ (((h.getD k default).frm) = ((h.getD i default).frm)) := of_decide_eq_false (or_l (not_f hG)); have hg1 : ¬ (((h.getD k default).frm) = ((h.getD i default).to)) := of_decide_eq_false (or_r (not_f hG)); omega),(by have hg0 : ¬ (((h.getD k default).frm) = ((h.getD i default).frm)) := of_decide_eq_false (or_l (not_f hG)); have hg1 : ¬ (((h.getD k default).frm) = ((h.getD i default).to)) := of_decide_eq_false (or_r (not_f hG)); omega)⟩),(fun hG => ⟨hG,tt⟩),(fun hG => ⟨hG,tt⟩),(fun hG => ⟨⟨hG,tt⟩,⟨hG,tt⟩,tt⟩),⟨tt,(fun _ => trivial),(fun hp => ⟨(not_t hp),tt⟩)⟩,tt,(fun _ => trivial),(fun _ => trivial),(fun hG => ⟨⟨hG,tt⟩,⟨hG,tt⟩,(by have hg0 : ¬ (((h.getD k default).frm) = ((h.getD i default).frm)) := of_decide_eq_false (or_l (or_l (not_f hG))); have hg1 : ¬ (((h.getD k default).frm) = ((h.getD i default).to)) := of_decide_eq_false (or_r (or_l (not_f hG))); have hg2 : ¬ (((h.getD k default).to) = ((h.getD i default).frm)) := of_decide_eq_false (or_r (not_f hG)); omega),(by have hg0 : ¬ (((h.getD k default).frm) = ((h.getD i default).frm)) := of_decide_eq_false (or_l (or_l (not_f hG))); have hg1 : ¬ (((h.getD k default).frm) = ((h.getD i default).to)) := of_decide_eq_false (or_r (or_l (not_f hG))); have hg2 : ¬ (((h.getD k default).to) = ((h.getD i default).frm)) := of_decide_eq_false (or_r (not_f hG)); omega)⟩),(fun hG => ⟨hG,tt⟩),(fun hG => ⟨hG,tt⟩),(fun _ => trivial),(fun _ => trivial),(fun hG => ⟨⟨hG,tt⟩,⟨hG,tt⟩,(by have hg0 : ¬ (((h.getD k default).frm) = ((h.getD i default).frm)) := of_decide_eq_false (or_l (or_l (not_f hG))); have hg1 : ¬ (((h.getD k default).frm) = ((h.getD i default).to)) := of_decide_eq_false (or_r (or_l (not_f hG))); have hg2 : ¬ (((h.getD k default).to) = ((h.getD i default).frm)) := of_decide_eq_false (or_r (not_f hG)); omega),(by have hg0 : ¬ (((h.getD k default).frm) = ((h.getD i default).frm)) := of_decide_eq_false (or_l (or_l (not_f hG))); have hg1 : ¬ (((h.getD k default).frm) = ((h.getD i default).to)) := of_decide_eq_false (or_r (or_l (not_f hG))); have hg2 : ¬ (((h.getD k default).to) = ((h.getD i default).frm)) := of_decide_eq_false (or_r (not_f hG)); omega)⟩),(fun hG => ⟨hG,tt⟩),(fun hG => ⟨hG,tt⟩),(fun hG => ⟨⟨hG,tt⟩,⟨hG,tt⟩,tt⟩),⟨tt,(fun _ => trivial),(fun hp => ⟨(not_t hp),tt⟩)⟩,tt⟩ ?_
      refine W.if' ((((decide (((h.getD k default).frm) = ((h.getD i default).frm))) || (decide (((h.getD k default).frm) = ((h.getD i default).to)))) || (decide (((h.getD k default).to) = ((h.getD i default).frm)))) || (decide (((h.getD k default).to) = ((h.getD i default).to)))) (.b ((((decide (((h.getD k default).frm) = ((h.getD i default).frm))) || (decide (((h.getD k default).frm) = ((h.getD i default).to)))) || (decide (((h.getD k default).to) = ((h.getD i default).frm)))) || (decide (((h.getD k default).to) = ((h.getD i default).to))))) (by kernel_rfl) rfl trivial ?_ ?_
      ·intro h71
       refine W.K cok tab27 hnt [] [2] (⟨[(2,.b false)],[],[999]⟩)
        (True ∧ True) (by kernel_rfl)
        ⟨tt,tt⟩ ?_
       refine W.ret (thenQ_ret (blockQ_ret (thenQ_ret (thenQ_ret (blockQ_ret (blockQ_ret (thenQ_ret (thenQ_ret (blockQ_ret (thenQ_ret ?_))))))))))
       exact endQ_ret (.b false) (by kernel_rfl) (@cast ((.bool false : Value) = .bool (validHistory h)) _ (by kernel_rfl) (congrArg Value.bool (by unfold validHistory; symm; exact and_fr (allN_false (i := i) (by omega) (and_fr (allN_false (i := k) (by omega) (clash_true1 h71)))))))
      ·intro n71
       have n71_0 : ¬ (((h.getD k default).frm) = ((h.getD i default).frm)) := of_decide_eq_false (or_l (or_l (or_l n71)))
       have n71_1 : ¬ (((h.getD k default).frm) = ((h.getD i default).to)) := of_decide_eq_false (or_r (or_l (or_l n71)))
       have n71_2 : ¬ (((h.getD k default).to) = ((h.getD i default).frm)) := of_decide_eq_false (or_r (or_l n71))
       have n71_3 : ¬ (((h.getD k default).to) = ((h.getD i default).to)) := of_decide_eq_false (or_r n71)
       refine W.skip (thenQ_normal ?_)
       refine W.KA cok tab27 hnt [] [0,3,4,108] (⟨[(0,.sl (.calls h)),(3,.i ((i : Nat) : Int)),(4,.i ((k : Nat) : Int)),(108,.b (((decide (((h.getD k default).proc) = ((h.getD i default).proc))) && (decide (((h.getD i default).frm) < ((h.getD k default).to)))) && (decide (((h.getD k default).frm) < ((h.getD i default).to)))))],[],[999]⟩)
        (True ∧ True ∧ (True ∧ True ∧ (0 ≤ ((k : Nat) : Int)) ∧ (((k : Nat) : Int) < (h.length : Int))) ∧ True ∧ True ∧ True ∧ True ∧ (True ∧ True ∧ (0 ≤ ((i : Nat) : Int)) ∧ (((i : Nat) : Int) < (h.length : Int))) ∧ True ∧ True ∧ (True ∧ True ∧ True) ∧ True ∧ ((decide (((h.getD k default).proc) = ((h.getD i default).proc))) = true → True) ∧ ((decide (((h.getD k default).proc) = ((h.getD i default).proc))) = true → True) ∧ ((decide (((h.getD k default).proc) = ((h.getD i default).proc))) = true → ((((decide (((h.getD k default).proc) = ((h.getD i default).proc))) = true) ∧ True) ∧ (((decide (((h.getD k default).proc) = ((h.getD i default).proc))) = true) ∧ True) ∧ (0 ≤ ((k : Nat) : Int)) ∧ (((k : Nat) : Int) < (h.length : Int)))) ∧ ((decide (((h.getD k default).proc) = ((h.getD i default).proc))) = true → (((decide (((h.getD k default).proc) = ((h.getD i default).proc))) = true) ∧ True)) ∧ ((decide (((h.getD k default).proc) = ((h.getD i default).proc))) = true → (((decide (((h.getD k default).proc) = ((h.getD i default).proc))) = true) ∧ True)) ∧ ((decide (((h.getD k default).proc) = ((h.getD i default).proc))) = true → True) ∧ ((decide (((h.getD k default).proc) = ((h.getD i default).proc))) = true → True) ∧ ((decide (((h.getD k default).proc) = ((h.getD i default).proc))) = true → ((((decide (((h.getD k default).proc) = ((h.getD i default).proc))) = true) ∧ True) ∧ (((decide (((h.getD k default).proc) = ((h.getD i default).proc))) = true) ∧ True) ∧ (0 ≤ ((i : Nat) : Int)) ∧ (((i : Nat) : Int) < (h.length : Int)))) ∧ ((decide (((h.getD k default).proc) = ((h.getD i default).proc))) = true → (((decide (((h.getD k default).proc) = ((h.getD i default).proc))) = true) ∧ True)) ∧ ((decide (((h.getD k default).proc) = ((h.getD i default).proc))) = true → (((decide (((h.getD k default).proc) = ((h.getD i default).proc))) = true) ∧ True)) ∧ ((decide (((h.getD k default).proc) = ((h.getD i default).proc))) = true → ((((decide (((h.getD k default).proc) = ((h.getD i default).proc))) = true) ∧ True) ∧ (((decide (((h.getD k default).proc) = ((h.getD i default).proc))) = true) ∧ True) ∧ True)) ∧ (True ∧ ((decide (((h.getD k default).proc) = ((h.getD i default).proc))) = true → ((decide (((h.getD k default).proc) = ((h.getD i default).proc))) = true) ∧ True) ∧ ((decide (((h.getD k default).proc) = ((h.getD i default).proc))) = false → True)) ∧ True ∧ (((decide (((h.getD k default).proc) = ((h.getD i default).proc))) && (decide (((h.getD i default).frm) < ((h.getD k default).to)))) = true → True) ∧ (((decide (((h.getD k default).proc) = ((h.getD i default).proc))) && (decide (((h.getD i default).frm) < ((h.getD k default).to)))) = true → True) ∧ (((decide (((h.getD k default).proc) = ((h.getD i default).proc))) && (decide (((h.getD i default).frm) < ((h.getD k default).to)))) = true → (((((decide (((h.getD k default).proc) = ((h.getD i default).proc))) && (decide (((h.getD i default).frm) < ((h.getD k default).to)))) = true) ∧ True) ∧ ((((decide (((h.getD k default).proc) = ((h.getD i default).proc))) && (decide (((h.getD i default).frm) < ((h.getD k default).to)))) = true) ∧ True) ∧ (0 ≤ ((i : Nat) : Int)) ∧ (((i : Nat) : Int) < (h.length : Int)))) ∧ (((decide (((h.getD k default).proc) = ((h.getD i default).proc))) && (decide (((h.getD i default).frm) < ((h.getD k default).to)))) = true → ((((decide (((h.getD k default).proc) = ((h.getD i default).proc))) && (decide (((h.getD i default).frm) < ((h.getD k default).to)))) = true) ∧ True)) ∧ (((decide (((h.getD k default).proc) = ((h.getD i default).proc))) && (decide (((h.getD i default).frm) < ((h.getD k default).to)))) = true → ((((decide (((h.getD k default).proc) = ((h.getD i default).proc))) && (decide (((h.getD i default).frm) < ((h.getD k default).to)))) = true) ∧ True)) ∧ (((decide (((h.getD k default).proc) = ((h.getD i default).proc))) && (decide (((h.getD i default).frm) < ((h.getD k default).to)))) = true → True) ∧ (((decide (((h.getD k default).proc) = ((h.getD i default).proc))) && (decide (((h.getD i default).frm) < ((h.getD k default).to)))) = true → True) ∧ (((decide (((h.getD k default).proc) = ((h.getD i default).proc))) && (decide (((h.getD i default).frm) < ((h.getD k default).to)))) = true → (((((decide (((h.getD k default).proc) = ((h.getD i default).proc))) && (decide (((h.getD i default).frm) < ((h.getD k default).to)))) = true) ∧ True) ∧ ((((decide (((h.getD k default).proc) = ((h.getD i default).proc))) && (decide (((h.getD i default).frm) < ((h.getD k default).to)))) = true) ∧ True) ∧ (0 ≤ ((k : Nat) : Int)) ∧ (((k : Nat) : Int) < (h.length : Int)))) ∧ (((decide (((h.getD k default).proc) = ((h.getD i default).proc))) && (decide (((h.getD i default).frm) < ((h.getD k default).to)))) = true → ((((decide (((h.getD k default).proc) = ((h.getD i default).proc))) && (decide (((h.getD i default).frm) < ((h.getD k default).to)))) = true) ∧ True)) ∧ (((decide (((h.getD k default).proc) = ((h.getD i default).proc))) && (decide (((h.getD i default).frm) < ((h.getD k default).to)))) = true → ((((decide (((h.getD k default).proc) = ((h.getD i default).proc))) && (decide (((h.getD i default).frm) < ((h.getD k default).to)))) = true) ∧ True)) ∧ (((decide (((h.getD k default).proc) = ((h.getD i default).proc))) && (decide (((h.getD i default).frm) < ((h.getD k default).to)))) = true → (((((decide (((h.getD k default).proc) = ((h.getD i default).proc))) && (decide (((h.getD i default).frm) < ((h.getD k default).to)))) = true) ∧ True) ∧ ((((decide (((h.getD k default).proc) = ((h.getD i default).proc))) && (decide (((h.getD i default).frm) < ((h.getD k default).to)))) = true) ∧ True) ∧ True)) ∧ (True ∧ (((decide (((h.getD k default).proc) = ((h.getD i default).proc))) && (decide (((h.getD i default).frm) < ((h.getD k default).to)))) = true → (((decide (((h.getD k default).proc) = ((h.getD i default).proc))) && (decide (((h.getD i default).frm) < ((h.getD k default).to)))) = true) ∧ True) ∧ (((decide (((h.getD k default).proc) = ((h.getD i default).proc))) && (decide (((h.getD i default).frm) < ((h.getD k default).to)))) = false → True)) ∧ True) (by kernel_rfl) (by kernel_rfl)
        ⟨tt,tt,⟨tt,tt,(by omega),(by omega)⟩,tt,tt,tt,tt,⟨tt,tt,(by omega),(by omega)⟩,tt,tt,⟨tt,tt,tt⟩,tt,(fun _ => trivial),(fun _ => trivial),(fun hG => ⟨⟨hG,tt⟩,⟨hG,tt⟩,(by have hg0 : ((h.getD k default).proc) = ((h.getD i default).proc) := of_decide_eq_true hG; omega),(by have hg0 : ((h.getD k default).proc) = ((h.getD i default).proc) := of_decide_eq_true hG; omega)⟩),(fun hG => ⟨hG,tt⟩),(fun hG => ⟨hG,tt⟩),(fun _ => trivial),(fun _ => trivial),(fun hG => ⟨⟨hG,tt⟩,⟨hG,tt⟩,(by have hg0 : ((h.getD k default).proc) = ((h.getD i default).proc) := of_decide_eq_true hG; omega),(by have hg0 : ((h.getD k default).proc) = ((h.getD i default).proc) := of_decide_eq_true hG; omega)⟩),(fun hG => ⟨hG,tt⟩),(fun hG => ⟨hG,tt⟩),(fun hG => ⟨⟨hG,tt⟩,⟨hG,tt⟩,tt⟩),⟨tt,(fun hp => ⟨hp,tt⟩),(fun _ => trivial)⟩,tt,(fun _ => trivial),(fun _ => trivial),(fun hG => ⟨⟨hG,tt⟩,⟨hG,tt⟩,(by have hg0 : ((h.getD k default).proc) = ((h.getD i default).proc) := of_decide_eq_true (and_l hG); have hg1 : ((h.getD i default).frm) < ((h.getD k default).to) := of_decide_eq_true (and_r hG); omega),(by have hg0 : ((h.getD k default).proc) = ((h.getD i default).proc) := of_decide_eq_true (and_l hG); have hg1 : ((h.getD i default).frm) < ((h.getD k default).to) := of_decide_eq_true (and_r hG); omega)⟩),(fun hG => ⟨hG,tt⟩),(fun hG => ⟨hG,tt⟩),(fun _ => trivial),(fun _ => trivial),(fun hG => ⟨⟨hG,tt⟩,⟨hG,tt⟩,(by have hg0 : ((h.getD k default).proc) = ((h.getD i default).proc) := of_decide_eq_true (and_l hG); have hg1 : ((h.getD i default).frm) < ((h.getD k default).to) := of_decide_eq_true (and_r hG); omega),(by have hg0 : ((h.getD k default).proc) = ((h.getD i default).proc) := of_decide_eq_true (and_l hG); have hg1 : ((h.getD i default).frm) < ((h.getD k default).to) := of_decide_eq_true (and_r hG); omega)⟩),(fun hG => ⟨hG,tt⟩),(fun hG => ⟨hG,tt⟩),(fun hG => ⟨⟨hG,tt⟩,⟨hG,tt⟩,tt⟩),⟨tt,(fun hp => ⟨hp,tt⟩),(fun _ => trivial)⟩,tt⟩ ?_
       refine W.if' (((decide (((h.getD k default).proc) = ((h.getD i default).proc))) && (decide (((h.getD i default).frm) < ((h.getD k default).to)))) && (decide (((h.getD k default).frm) < ((h.getD i default).to)))) (.b (((decide (((h.getD k default).proc) = ((h.getD i default).proc))) && (decide (((h.getD i default).frm) < ((h.getD k default).to)))) && (decide (((h.getD k default).frm) < ((h.getD i default).to))))) (by kernel_rfl) rfl trivial ?_ ?_
       ·intro h108
        have h108_0 : ((h.getD k default).proc) = ((h.getD i default).proc) := of_decide_eq_true (and_l (and_l h108))
        have h108_1 : ((h.getD i default).frm) < ((h.getD k default).to) := of_decide_eq_true (and_r (and_l h108))
        have h108_2 : ((h.getD k default).frm) < ((h.getD i default).to) := of_decide_eq_true (and_r h108)
        refine W.K cok tab27 hnt [] [2] (⟨[(2,.b false)],[],[999]⟩)
         (True ∧ True) (by kernel_rfl)
         ⟨tt,tt⟩ ?_
        refine W.ret (blockQ_ret (thenQ_ret (thenQ_ret (blockQ_ret (blockQ_ret (thenQ_ret (thenQ_ret (blockQ_ret (thenQ_ret ?_)))))))))
        exact endQ_ret (.b false) (by kernel_rfl) (@cast ((.bool false : Value) = .bool (validHistory h)) _ (by kernel_rfl) (congrArg Value.bool (by unfold validHistory; symm; exact and_fr (allN_false (i := i) (by omega) (and_fr (allN_false (i := k) (by omega) (clash_true2 h108)))))))
       ·intro n108
        refine W.skip (blockQ_normal (thenQ_normal ?_))
        refine W.L cok tab27 hnt [] (⟨[(0,.sl (.calls h)),(3,.i ((i : Nat) : Int)),(4,.i (((k + 1) : Nat) : Int)),(20,.i ((k : Nat) : Int)),(21,.i (((k + 1) : Nat) : Int)),(108,.b (((decide (((h.getD k default).proc) = ((h.getD i default).proc))) && (decide (((h.getD i default).frm) < ((h.getD k default).to)))) && (decide (((h.getD k default).frm) < ((h.getD i default).to)))))],[],[999]⟩)
         (True ∧ (True ∧ True ∧ (Fits .i64 (((k + 1) : Nat) : Int))) ∧ True ∧ True) (by kernel_rfl)
         ⟨tt,⟨tt,tt,(by exact fits_i64 (by omega) (by omega))⟩,tt,tt⟩ ?_
        refine thenQ_normal ?_
        refine ⟨((k + 1)),(show ((k + 1) ≤ i) ∧ (∀ j,j < (k + 1) → (!clash (callAt h i) (callAt h j)) = true) from ⟨(by first | assumption | omega | rfl | (intro _ hjj; omega) | (simp; done) | (simp; omega)),(by exact upto_succ hB (clash_false n71 n108))⟩),(show i - (k + 1) < i - k from (by first | omega | (simp_all; omega))),?_⟩
        exact Sub.of [] (@cast ((((.calls h : Dat) = .calls h) ∧ (((.int .i64 ((i : Nat) : Int) : Value) = .int .i64 ((i : Nat) : Int)) ∧ (((.int .i64 (((k + 1) : Nat) : Int) : Value) = .int .i64 (((k + 1) : Nat) : Int)) ∧ True))) ∧ (True ∧ ((true = true) ∧ (true = true)))) _ (by kernel_rfl) ⟨⟨rfl,rfl,rfl,tt⟩,tt,rfl,rfl⟩)
     ·intro n19
      refine W.exit (thenQ_exit (thenQ_exit (blockQ_hit ?_)))
      refine blockQ_normal (thenQ_normal ?_)
      refine W.L cok tab27 hnt [] (⟨[(0,.sl (.calls h)),(3,.i (((i + 1) : Nat) : Int)),(4,.i ((k : Nat) : Int)),(9,.i ((i : Nat) : Int)),(10,.i (((i + 1) : Nat) : Int)),(19,.b (decide (((k : Nat) : Int) < ((i : Nat) : Int))))],[],[999]⟩)
       (True ∧ (True ∧ True ∧ (Fits .i64 (((i + 1) : Nat) : Int))) ∧ True ∧ True) (by kernel_rfl)
       ⟨tt,⟨tt,tt,(by exact fits_i64 (by omega) (by omega))⟩,tt,tt⟩ ?_
      refine thenQ_normal ?_
      refine ⟨((i + 1)),(show ((i + 1) ≤ h.length) ∧ (∀ j,j < (i + 1) → (isCall (callAt h j) && allN j (fun k => !clash (callAt h j) (callAt h k))) = true) from ⟨(by first | assumption | omega | rfl | (intro _ hjj; omega) | (simp; done) | (simp; omega)),(by exact upto_succ hA (and_t (not_g n16) (allN_true (fun j hj => hB j (by omega)))))⟩),(show h.length - (i + 1) < h.length - i from (by first | omega | (simp_all; omega))),?_⟩
      exact Sub.of [] (@cast ((((.calls h : Dat) = .calls h) ∧ (((.int .i64 (((i + 1) : Nat) : Int) : Value) = .int .i64 (((i + 1) : Nat) : Int)) ∧ True)) ∧ (True ∧ ((true = true) ∧ (true = true)))) _ (by kernel_rfl) ⟨⟨rfl,rfl,tt⟩,tt,rfl,rfl⟩)
  ·intro n8
   refine W.exit (thenQ_exit (thenQ_exit (blockQ_hit ?_)))
   refine thenQ_normal ?_
   refine W.K cok tab27 hnt [] [2] (⟨[(2,.b (decide ((h.length : Int) ≤ (6 : Int))))],[],[999]⟩)
    (True ∧ True ∧ (True ∧ True ∧ True) ∧ True ∧ True) (by kernel_rfl)
    ⟨tt,tt,⟨tt,tt,tt⟩,tt,tt⟩ ?_
   refine W.ret ?_
   exact endQ_ret (.b (decide ((h.length : Int) ≤ (6 : Int)))) (by kernel_rfl) (@cast ((.bool (decide ((h.length : Int) ≤ (6 : Int))) : Value) = .bool (validHistory h)) _ (by kernel_rfl) (congrArg Value.bool (by unfold validHistory; symm; rw [allN_true (fun j hj => hA j (by omega)),Bool.and_true]; exact bool_ext (by simp only [decide_eq_true_eq]; omega))))
theorem ent27 : Entr prog 27 := ⟨_,func27,rfl,by decide⟩
end Go.Proofs.Try
