import Derived.Test.YtilnnaoaefphcaaRF8S0
set_option linter.unusedSimpArgs false
set_option linter.unusedVariables false
namespace Go.Ab
def szN (n : Nat) (left : Int) : Int := bif decide (left - ((n : Nat) : Int) < 0) then -1 else left - ((n : Nat) : Int)
def szCp (c : CopyD) (left : Int) : Int :=
 bif decide (szN c.up.length left < 0) then -1 else
 bif decide (szN c.down.length (szN c.up.length left) < 0) then -1 else
 bif decide (szN c.marks.length (szN c.down.length (szN c.up.length left)) < 0) then -1 else szN c.marks.length (szN c.down.length (szN c.up.length left))
theorem szN_ok {n : Nat} {left : Int} (h : ¬ szN n left < 0) : szN n left = left - ((n : Nat) : Int) ∧ 0 ≤ left - ((n : Nat) : Int) := by
 unfold szN at h ⊢
 cases hd : decide (left - ((n : Nat) : Int) < 0) with
 | true => rw [hd] at h; simp at h
 | false => have := of_decide_eq_false hd; exact ⟨rfl, by omega⟩
theorem szN_bnd {n : Nat} {left : Int} : szN n left ≤ max left (-1) ∧ -1 ≤ szN n left := by
 unfold szN
 cases hd : decide (left - ((n : Nat) : Int) < 0) with
 | true => simp only [cond_true]; omega
 | false => have := of_decide_eq_false hd; simp only [cond_false]; omega
theorem szCp_ok {c : CopyD} {left : Int} (h : ¬ szCp c left < 0) : (c.up.length : Int) + (c.down.length : Int) + (c.marks.length : Int) ≤ left ∧ szCp c left = left - (c.up.length : Int) - (c.down.length : Int) - (c.marks.length : Int) := by
 unfold szCp at h ⊢
 cases h1 : decide (szN c.up.length left < 0) with
 | true => rw [h1] at h; simp at h
 | false =>
  have h1' := szN_ok (of_decide_eq_false h1)
  rw [h1] at h
  cases h2 : decide (szN c.down.length (szN c.up.length left) < 0) with
  | true => rw [h2] at h; simp at h
  | false =>
   have h2' := szN_ok (of_decide_eq_false h2)
   rw [h2] at h
   cases h3 : decide (szN c.marks.length (szN c.down.length (szN c.up.length left)) < 0) with
   | true => rw [h3] at h; simp at h
   | false =>
    have h3' := szN_ok (of_decide_eq_false h3)
    simp only [cond_false]
    omega
theorem szC_h1 {c : CopyD} {left : Int} (h1 : szN c.up.length left < 0) : -1 = szCp c left := by
 unfold szCp; rw [decide_eq_true h1]; rfl
theorem szC_h2 {c : CopyD} {left : Int} (h1 : ¬ szN c.up.length left < 0) (h2 : szN c.down.length (szN c.up.length left) < 0) : -1 = szCp c left := by
 unfold szCp; rw [decide_eq_false h1, decide_eq_true h2]; rfl
theorem szC_h3 {c : CopyD} {left : Int} (h1 : ¬ szN c.up.length left < 0) (h2 : ¬ szN c.down.length (szN c.up.length left) < 0) (h3 : szN c.marks.length (szN c.down.length (szN c.up.length left)) < 0) : -1 = szCp c left := by
 unfold szCp; rw [decide_eq_false h1, decide_eq_false h2, decide_eq_true h3]; rfl
theorem szC_n3 {c : CopyD} {left : Int} (h1 : ¬ szN c.up.length left < 0) (h2 : ¬ szN c.down.length (szN c.up.length left) < 0) (h3 : ¬ szN c.marks.length (szN c.down.length (szN c.up.length left)) < 0) : szN c.marks.length (szN c.down.length (szN c.up.length left)) = szCp c left := by
 unfold szCp; rw [decide_eq_false h1, decide_eq_false h2, decide_eq_false h3]; rfl
theorem mark_ext {a b : MarkD} (h1 : a.value = b.value) (h2 : a.proc = b.proc) (h3 : a.number = b.number) (h4 : a.gone = b.gone) : a = b := by
 cases a; cases b; simp_all
theorem set_upd {xs S : List MarkD} {i : Nat} (hi : i < xs.length) (y : MarkD) (F : MarkD → MarkD) (hS : S = xs.set i y) : S.set i (F (S.getD i default)) = xs.set i (F y) := by
 subst hS; rw [getD_set_self hi, List.set_set]
theorem set4 {xs : List MarkD} {i : Nat} (hi : i < xs.length) (a b c : Int) (d : Bool) :
  (((xs.set i { xs.getD i default with value := a }).set i { (xs.set i { xs.getD i default with value := a }).getD i default with proc := b }).set i
   { ((xs.set i { xs.getD i default with value := a }).set i { (xs.set i { xs.getD i default with value := a }).getD i default with proc := b }).getD i default with number := c }).set i
   { (((xs.set i { xs.getD i default with value := a }).set i { (xs.set i { xs.getD i default with value := a }).getD i default with proc := b }).set i
    { ((xs.set i { xs.getD i default with value := a }).set i { (xs.set i { xs.getD i default with value := a }).getD i default with proc := b }).getD i default with number := c }).getD i default with gone := d }
   = xs.set i ⟨a, b, c, d⟩ :=
 set_upd hi _ (fun m => { m with gone := d }) (set_upd hi _ (fun m => { m with number := c }) (set_upd hi _ (fun m => { m with proc := b }) rfl))
def markM (l : List MarkD) (k : Int) : List MarkD := markMUp l k l.length
theorem markM_len (l : List MarkD) (k : Int) : (markM l k).length = l.length := markMUp_len l k l.length
theorem markMUp_get (l : List MarkD) (k : Int) : ∀ (i : Nat), i ≤ l.length → ∀ j, j < i → (markMUp l k i).getD j default = ⟨k + 4 * ((j : Nat) : Int), k + 4 * ((j : Nat) : Int) + 1, k + 4 * ((j : Nat) : Int) + 2, decide (Int.tmod (k + 4 * ((j : Nat) : Int) + 3) 3 = 0)⟩
 | 0, _, j, hj => by omega
 | i + 1, hi, j, hj => by
  unfold markMUp
  by_cases e : j = i
  ·subst e
   rw [getD_set_self (by rw [markMUp_len]; omega)]
  ·rw [List.getD_eq_getElem?_getD, List.getElem?_set_ne (by omega), ← List.getD_eq_getElem?_getD]
   exact markMUp_get l k i (by omega) j (by omega)
def heldMAt (l : List MarkD) (k : Int) (j : Nat) : Bool :=
 ((decide ((l.getD j default).value = k + 4 * ((j : Nat) : Int)) && decide ((l.getD j default).proc = k + 4 * ((j : Nat) : Int) + 1)) && decide ((l.getD j default).number = k + 4 * ((j : Nat) : Int) + 2)) && ((l.getD j default).gone == decide (Int.tmod (k + 4 * ((j : Nat) : Int) + 3) 3 = 0))
def heldM (l : List MarkD) (k : Int) : Int := bif allN l.length (heldMAt l k) then k + 4 * ((l.length : Nat) : Int) else -1
theorem heldM_mark (l : List MarkD) (k : Int) : heldM (markM l k) k = k + 4 * ((l.length : Nat) : Int) := by
 unfold heldM
 rw [allN_true, markM_len]
 ·rfl
 ·intro j hj
  rw [markM_len] at hj
  unfold heldMAt markM
  rw [markMUp_get l k _ (Nat.le_refl _) j hj]
  simp
theorem heldM_no {l : List MarkD} {k : Int} {i : Nat} (hi : i < l.length) (h : heldMAt l k i = false) : -1 = heldM l k := by
 unfold heldM
 rw [allN_false hi h]; rfl
theorem heldM_yes {l : List MarkD} {k x : Int} {i : Nat} (hA : ∀ j, j < i → heldMAt l k j = true) (hi : i ≤ l.length) (hx : x = k + 4 * ((i : Nat) : Int)) (hn : ¬ ((i : Nat) : Int) < ((l.length : Nat) : Int)) : x = heldM l k := by
 unfold heldM
 have : i = l.length := by omega
 subst this
 rw [allN_true hA, hx]; rfl
theorem held_1 {l : List MarkD} {k x : Int} {i : Nat} (hx : x = k + 4 * ((i : Nat) : Int)) (h : (l.getD i default).value ≠ x) : heldMAt l k i = false := by
 unfold heldMAt; rw [decide_eq_false (by rw [← hx]; exact h)]; rfl
theorem held_2 {l : List MarkD} {k x : Int} {i : Nat} (hx : x = k + 4 * ((i : Nat) : Int)) (h : (l.getD i default).proc ≠ x + 1) : heldMAt l k i = false := by
 unfold heldMAt; rw [decide_eq_false (p := (l.getD i default).proc = _) (by rw [← hx]; exact h), Bool.and_false]; rfl
theorem held_3 {l : List MarkD} {k x : Int} {i : Nat} (hx : x = k + 4 * ((i : Nat) : Int)) (h : (l.getD i default).number ≠ x + 1 + 1) : heldMAt l k i = false := by
 unfold heldMAt; rw [decide_eq_false (p := (l.getD i default).number = _) (by rw [← hx]; intro e; exact h (by omega)), Bool.and_false]; rfl
theorem held_4 {l : List MarkD} {k x : Int} {i : Nat} (hx : x = k + 4 * ((i : Nat) : Int)) (h : ((l.getD i default).gone != decide (Int.tmod (x + 1 + 1 + 1) 3 = 0)) = true) : heldMAt l k i = false := by
 unfold heldMAt
 have e : x + 1 + 1 + 1 = k + 4 * ((i : Nat) : Int) + 3 := by omega
 rw [e] at h
 have : ((l.getD i default).gone == decide (Int.tmod (k + 4 * ((i : Nat) : Int) + 3) 3 = 0)) = false := by
  cases hb : ((l.getD i default).gone == decide (Int.tmod (k + 4 * ((i : Nat) : Int) + 3) 3 = 0)) with
  | false => rfl
  | true => rw [bne, hb] at h; cases h
 rw [this, Bool.and_false]
theorem held_5 {l : List MarkD} {k x : Int} {i : Nat} (hx : x = k + 4 * ((i : Nat) : Int)) (h1 : ¬ (l.getD i default).value ≠ x) (h2 : ¬ (l.getD i default).proc ≠ x + 1) (h3 : ¬ (l.getD i default).number ≠ x + 1 + 1)
  (h4 : ((l.getD i default).gone != decide (Int.tmod (x + 1 + 1 + 1) 3 = 0)) = false) : heldMAt l k i = true := by
 unfold heldMAt
 have e : x + 1 + 1 + 1 = k + 4 * ((i : Nat) : Int) + 3 := by omega
 rw [e] at h4
 have h4' : ((l.getD i default).gone == decide (Int.tmod (k + 4 * ((i : Nat) : Int) + 3) 3 = 0)) = true := by
  cases hb : ((l.getD i default).gone == decide (Int.tmod (k + 4 * ((i : Nat) : Int) + 3) 3 = 0)) with
  | true => rfl
  | false => rw [bne, hb] at h4; cases h4
 have h1' := Decidable.not_not.1 h1
 have h2' := Decidable.not_not.1 h2
 have h3' := Decidable.not_not.1 h3
 rw [decide_eq_true (by omega), decide_eq_true (by omega), decide_eq_true (by omega), h4']; rfl
theorem markM_step {l xs : List MarkD} {k x : Int} {i : Nat} (hx : xs = markMUp l k i) (hi : i < l.length) (hk : x = k + 4 * ((i : Nat) : Int)) :
  xs.set i ⟨x, x + 1, x + 1 + 1, decide (Int.tmod (x + 1 + 1 + 1) 3 = 0)⟩ = markMUp l k (i + 1) := by
 subst hx hk
 show _ = (markMUp l k i).set i _
 have e : k + 4 * ((i : Nat) : Int) + 1 + 1 + 1 = k + 4 * ((i : Nat) : Int) + 3 := by omega
 have e2 : k + 4 * ((i : Nat) : Int) + 1 + 1 = k + 4 * ((i : Nat) : Int) + 2 := by omega
 rw [e, e2]
theorem markM_all {l xs : List MarkD} {k : Int} {i : Nat} (hx : xs = markMUp l k i) (hi : i ≤ l.length) (hn : ¬ ((i : Nat) : Int) < ((l.length : Nat) : Int)) : xs = markM l k := by
 have : i = l.length := by omega
 subst this; exact hx
def cpLen (c : CopyD) : Int := (c.up.length : Int) + (c.down.length : Int) + 4 * (c.marks.length : Int)
def heldCp (c : CopyD) (k : Int) : Int :=
 bif decide (heldI c.up k < 0) then -1 else
 bif decide (heldI c.down (heldI c.up k) < 0) then -1 else
 bif decide (heldM c.marks (heldI c.down (heldI c.up k)) < 0) then -1 else heldM c.marks (heldI c.down (heldI c.up k))
theorem heldCp_mark {c : CopyD} {u d : List Int} {ms : List MarkD} {v t p k : Int} (hk : 0 ≤ k) (hu : u = markI c.up.length k) (hd : d = markI c.down.length (k + (c.up.length : Int))) (hm : ms = markM c.marks (k + (c.up.length : Int) + (c.down.length : Int))) :
  heldCp ⟨u, d, v, t, p, ms⟩ k = k + cpLen c := by
 subst hu hd hm
 unfold heldCp cpLen
 simp only [heldI_mark, heldM_mark]
 rw [decide_eq_false (by omega), decide_eq_false (by omega), decide_eq_false (by omega)]
 simp only [cond_false]; omega
theorem hdC_h1 {c : CopyD} {k : Int} (h1 : heldI c.up k < 0) : -1 = heldCp c k := by
 unfold heldCp; rw [decide_eq_true h1]; rfl
theorem hdC_h2 {c : CopyD} {k : Int} (h1 : ¬ heldI c.up k < 0) (h2 : heldI c.down (heldI c.up k) < 0) : -1 = heldCp c k := by
 unfold heldCp; rw [decide_eq_false h1, decide_eq_true h2]; rfl
theorem hdC_h3 {c : CopyD} {k : Int} (h1 : ¬ heldI c.up k < 0) (h2 : ¬ heldI c.down (heldI c.up k) < 0) (h3 : heldM c.marks (heldI c.down (heldI c.up k)) < 0) : -1 = heldCp c k := by
 unfold heldCp; rw [decide_eq_false h1, decide_eq_false h2, decide_eq_true h3]; rfl
theorem hdC_n3 {c : CopyD} {k : Int} (h1 : ¬ heldI c.up k < 0) (h2 : ¬ heldI c.down (heldI c.up k) < 0) (h3 : ¬ heldM c.marks (heldI c.down (heldI c.up k)) < 0) : heldM c.marks (heldI c.down (heldI c.up k)) = heldCp c k := by
 unfold heldCp; rw [decide_eq_false h1, decide_eq_false h2, decide_eq_false h3]; rfl
theorem heldI_bnd (l : List Int) {k : Int} (hk : 0 ≤ k) : -1 ≤ heldI l k ∧ heldI l k ≤ k + (l.length : Int) := by
 unfold heldI
 cases allN l.length (heldAt l k) with
 | true => simp only [cond_true]; omega
 | false => simp only [cond_false]; omega
abbrev Sm (c : CopyD) : Prop := c.up.length ≤ 1048576 ∧ c.down.length ≤ 1048576 ∧ c.marks.length ≤ 1048576
theorem valid_sm {c : CopyD} (h : validCopy c = true) : Sm c := by have := up_len h; exact ⟨by omega, by omega, by omega⟩
theorem zero_sm : Sm zeroC := ⟨by decide, by decide, by decide⟩
theorem orZero_sm (c : CopyD) : Sm (orZero c).1 := by
 unfold orZero
 cases h : validCopy c with
 | true => exact valid_sm h
 | false => exact zero_sm
theorem mergeC_sm (a b : CopyD) : Sm (mergeC a b).1 := by
 cases hg : (validCopy a && validCopy b) with
 | false => rw [merge_no hg]; exact zero_sm
 | true =>
  cases hu : (uniteP a.marks b.marks).2 with
  | false => rw [merge_none hg hu]; exact zero_sm
  | true => rw [merge_some hg hu]; exact orZero_sm _
end Go.Ab

set_option linter.unusedSimpArgs false
set_option linter.unusedVariables false
namespace Go.Proofs.Try
open Go.Ab Go.RowKit
def fs32 : FnS := fnS [.s .ints,.o] [.ints,.int] (fun _ (h,left,_) => (.i (szN h.length left),[],(0 ≤ left ∧ left ≤ 1048576)))
abbrev T32 : Tab := lk []
theorem tab32 : TabOK prog T32 := TabOK.nil
set_option maxRecDepth 100000 in
set_option maxHeartbeats 1000000 in
theorem ok32 : FnOK prog 32 fs32 := by
 refine FnOK.mk cok func32 rfl rfl rfl ?_
 rintro fl ⟨(h : List Int),(left : Int),_⟩ hpre F hnt0 _
 have hnt : F.nt = 12 := hnt0.trans ntmps32
 replace hpre : (0 ≤ left ∧ left ≤ 1048576) := hpre
 have hl := hpre
 refine W.to (⟨[(0,.sl (.ints h)),(1,.i left)],[],[999]⟩) rfl ?_
 refine W.lenOf 0 (.ints h) (by kernel_rfl) ?_
 intro hl_h; replace hl_h : List.length h ≤ 9223372036854775807 := hl_h
 refine Kk cok tab32 hnt [] [0,1] (⟨[(0,.sl (.ints h)),(1,.i left)],[],[999]⟩)
  (True ∧ True)
  ⟨tt,tt⟩ ?_
 refine Kk cok tab32 hnt [] [1] (⟨[(1,.i (left - (h.length : Int)))],[],[999]⟩)
  (True ∧ True ∧ True ∧ (True ∧ True ∧ (Fits .i64 (left - (h.length : Int)))) ∧ True ∧ True)
  ⟨tt,tt,tt,⟨tt,tt,(by exact fits_i64 (by omega) (by omega))⟩,tt,tt⟩ ?_
 refine W.seq ?_
 refine Kk cok tab32 hnt [] [1,10] (⟨[(1,.i (left - (h.length : Int))),(10,.b (decide ((left - (h.length : Int)) < (0 : Int))))],[],[999]⟩)
  (True ∧ (True ∧ True ∧ True) ∧ True)
  ⟨tt,⟨tt,tt,tt⟩,tt⟩ ?_
 refine W.ifP ((left - (h.length : Int)) < (0 : Int)) (.b (decide ((left - (h.length : Int)) < (0 : Int)))) (by kernel_rfl) rfl trivial ?_ ?_
 ·intro h10
  refine Kk cok tab32 hnt [] [4] (⟨[(4,.i (-1 : Int))],[],[999]⟩)
   (True ∧ True)
   ⟨tt,tt⟩ ?_
  refine W.ret (thenQ_ret ?_)
  exact endQ_ret (.i (-1 : Int)) (by kernel_rfl) (@cast ((.int .i64 (-1 : Int) : Value) = .int .i64 (szN h.length left)) _ (by kernel_rfl) (congrArg (Value.int .i64) (by unfold szN; rw [decide_eq_true h10]; rfl)))
 ·intro n10
  refine W.skip (thenQ_normal ?_)
  refine Kk cok tab32 hnt [] [4] (⟨[(4,.i (left - (h.length : Int)))],[],[999]⟩)
   (True ∧ True ∧ True)
   ⟨tt,tt,tt⟩ ?_
  refine W.ret ?_
  exact endQ_ret (.i (left - (h.length : Int))) (by kernel_rfl) (@cast ((.int .i64 (left - (h.length : Int)) : Value) = .int .i64 (szN h.length left)) _ (by kernel_rfl) (congrArg (Value.int .i64) (by unfold szN; rw [decide_eq_false n10]; rfl)))
theorem ent32 : Entr prog 32 := ⟨_,func32,rfl,by decide⟩
end Go.Proofs.Try

set_option linter.unusedSimpArgs false
set_option linter.unusedVariables false
namespace Go.Proofs.Try
open Go.Ab Go.RowKit
def fs33 : FnS := fnS [.s .marks,.o] [.marks,.int] (fun _ (h,left,_) => (.i (szN h.length left),[],(0 ≤ left ∧ left ≤ 1048576)))
abbrev T33 : Tab := lk []
theorem tab33 : TabOK prog T33 := TabOK.nil
set_option maxRecDepth 100000 in
set_option maxHeartbeats 1000000 in
theorem ok33 : FnOK prog 33 fs33 := by
 refine FnOK.mk cok func33 rfl rfl rfl ?_
 rintro fl ⟨(h : List MarkD),(left : Int),_⟩ hpre F hnt0 _
 have hnt : F.nt = 12 := hnt0.trans ntmps33
 replace hpre : (0 ≤ left ∧ left ≤ 1048576) := hpre
 have hl := hpre
 refine W.to (⟨[(0,.sl (.marks h)),(1,.i left)],[],[999]⟩) rfl ?_
 refine W.lenOf 0 (.marks h) (by kernel_rfl) ?_
 intro hl_h; replace hl_h : List.length h ≤ 9223372036854775807 := hl_h
 refine Kk cok tab33 hnt [] [0,1] (⟨[(0,.sl (.marks h)),(1,.i left)],[],[999]⟩)
  (True ∧ True)
  ⟨tt,tt⟩ ?_
 refine Kk cok tab33 hnt [] [1] (⟨[(1,.i (left - (h.length : Int)))],[],[999]⟩)
  (True ∧ True ∧ True ∧ (True ∧ True ∧ (Fits .i64 (left - (h.length : Int)))) ∧ True ∧ True)
  ⟨tt,tt,tt,⟨tt,tt,(by exact fits_i64 (by omega) (by omega))⟩,tt,tt⟩ ?_
 refine W.seq ?_
 refine Kk cok tab33 hnt [] [1,10] (⟨[(1,.i (left - (h.length : Int))),(10,.b (decide ((left - (h.length : Int)) < (0 : Int))))],[],[999]⟩)
  (True ∧ (True ∧ True ∧ True) ∧ True)
  ⟨tt,⟨tt,tt,tt⟩,tt⟩ ?_
 refine W.ifP ((left - (h.length : Int)) < (0 : Int)) (.b (decide ((left - (h.length : Int)) < (0 : Int)))) (by kernel_rfl) rfl trivial ?_ ?_
 ·intro h10
  refine Kk cok tab33 hnt [] [4] (⟨[(4,.i (-1 : Int))],[],[999]⟩)
   (True ∧ True)
   ⟨tt,tt⟩ ?_
  refine W.ret (thenQ_ret ?_)
  exact endQ_ret (.i (-1 : Int)) (by kernel_rfl) (@cast ((.int .i64 (-1 : Int) : Value) = .int .i64 (szN h.length left)) _ (by kernel_rfl) (congrArg (Value.int .i64) (by unfold szN; rw [decide_eq_true h10]; rfl)))
 ·intro n10
  refine W.skip (thenQ_normal ?_)
  refine Kk cok tab33 hnt [] [4] (⟨[(4,.i (left - (h.length : Int)))],[],[999]⟩)
   (True ∧ True ∧ True)
   ⟨tt,tt,tt⟩ ?_
  refine W.ret ?_
  exact endQ_ret (.i (left - (h.length : Int))) (by kernel_rfl) (@cast ((.int .i64 (left - (h.length : Int)) : Value) = .int .i64 (szN h.length left)) _ (by kernel_rfl) (congrArg (Value.int .i64) (by unfold szN; rw [decide_eq_false n10]; rfl)))
theorem ent33 : Entr prog 33 := ⟨_,func33,rfl,by decide⟩
end Go.Proofs.Try

set_option linter.unusedSimpArgs false
set_option linter.unusedVariables false
namespace Go.Proofs.Try
open Go.Ab Go.RowKit
def fs10 : FnS := fnS [.a [some .ints,some .ints,none,none,none,some .marks],.o] [.copy,.int] (fun _ (c,left,_) => (.i (szCp c left),[],(0 ≤ left ∧ left ≤ 1048576)))
abbrev T10 : Tab := lk [(32,fs32),(33,fs33)]
theorem tab10 : TabOK prog T10 := (TabOK.cons ok32 ent32 (TabOK.cons ok33 ent33 TabOK.nil))
set_option maxRecDepth 100000 in
set_option maxHeartbeats 1000000 in
theorem ok10 : FnOK prog 10 fs10 := by
 refine FnOK.mk cok func10 rfl rfl rfl ?_
 rintro fl ⟨(c : CopyD),(left : Int),_⟩ hpre F hnt0 _
 have hnt : F.nt = 24 := hnt0.trans ntmps10
 replace hpre : (0 ≤ left ∧ left ≤ 1048576) := hpre
 have hl := hpre
 refine W.to (⟨[(0,.agg (cC c)),(1,.i left)],[],[999]⟩) rfl ?_
 refine W.lenA 0 0 (cC c) (.ints c.up) (by kernel_rfl) (by kernel_rfl) ?_
 intro hl_c_up; replace hl_c_up : List.length c.up ≤ 9223372036854775807 := hl_c_up
 refine W.lenA 0 1 (cC c) (.ints c.down) (by kernel_rfl) (by kernel_rfl) ?_
 intro hl_c_down; replace hl_c_down : List.length c.down ≤ 9223372036854775807 := hl_c_down
 refine W.lenA 0 5 (cC c) (.marks c.marks) (by kernel_rfl) (by kernel_rfl) ?_
 intro hl_c_marks; replace hl_c_marks : List.length c.marks ≤ 9223372036854775807 := hl_c_marks
 refine Kk cok tab10 hnt [] [1,2] (⟨[(1,.i left),(2,.ptr 2 0)],[(2,⟨25,.fix (cC c)⟩)],[2,999]⟩)
  (True ∧ True ∧ True)
  ⟨tt,tt,tt⟩ ?_
 refine Kk cok tab10 hnt [] [1,2] (⟨[(1,.i (szN c.up.length left)),(2,.ptr 2 0)],[(2,⟨25,.fix (cC c)⟩)],[2,999]⟩)
  (True ∧ True ∧ True ∧ (True ∧ (True ∧ True ∧ True) ∧ 0 ≤ left ∧ left ≤ 1048576) ∧ True ∧ True)
  ⟨tt,tt,tt,⟨tt,⟨tt,tt,tt⟩,(by omega)⟩,tt,tt⟩ ?_
 refine W.seq ?_
 refine Kk cok tab10 hnt [] [1,2,10] (⟨[(1,.i (szN c.up.length left)),(2,.ptr 2 0),(10,.b (decide ((szN c.up.length left) < (0 : Int))))],[(2,⟨25,.fix (cC c)⟩)],[2,999]⟩)
  (True ∧ (True ∧ True ∧ True) ∧ True)
  ⟨tt,⟨tt,tt,tt⟩,tt⟩ ?_
 refine W.ifP ((szN c.up.length left) < (0 : Int)) (.b (decide ((szN c.up.length left) < (0 : Int)))) (by kernel_rfl) rfl trivial ?_ ?_
 ·intro h10
  refine Kk cok tab10 hnt [] [4] (⟨[(4,.i (-1 : Int))],[(2,⟨25,.fix (cC c)⟩)],[2,999]⟩)
   (True ∧ True)
   ⟨tt,tt⟩ ?_
  refine W.ret (thenQ_ret ?_)
  exact endQ_ret (.i (-1 : Int)) (by kernel_rfl) (@cast ((.int .i64 (-1 : Int) : Value) = .int .i64 (szCp c left)) _ (by kernel_rfl) (congrArg (Value.int .i64) (by exact szC_h1 h10)))
 ·intro n10
  have hz1 := szN_bnd (n := c.up.length) (left := left)
  refine W.skip (thenQ_normal ?_)
  refine Kk cok tab10 hnt [] [1,2] (⟨[(1,.i (szN c.down.length (szN c.up.length left))),(2,.ptr 2 0)],[(2,⟨25,.fix (cC c)⟩)],[2,999]⟩)
   (True ∧ True ∧ True ∧ (True ∧ (True ∧ True ∧ True) ∧ 0 ≤ (szN c.up.length left) ∧ (szN c.up.length left) ≤ 1048576) ∧ True ∧ True)
   ⟨tt,tt,tt,⟨tt,⟨tt,tt,tt⟩,(by omega)⟩,tt,tt⟩ ?_
  refine W.seq ?_
  refine Kk cok tab10 hnt [] [1,2,16] (⟨[(1,.i (szN c.down.length (szN c.up.length left))),(2,.ptr 2 0),(16,.b (decide ((szN c.down.length (szN c.up.length left)) < (0 : Int))))],[(2,⟨25,.fix (cC c)⟩)],[2,999]⟩)
   (True ∧ (True ∧ True ∧ True) ∧ True)
   ⟨tt,⟨tt,tt,tt⟩,tt⟩ ?_
  refine W.ifP ((szN c.down.length (szN c.up.length left)) < (0 : Int)) (.b (decide ((szN c.down.length (szN c.up.length left)) < (0 : Int)))) (by kernel_rfl) rfl trivial ?_ ?_
  ·intro h16
   refine Kk cok tab10 hnt [] [4] (⟨[(4,.i (-1 : Int))],[(2,⟨25,.fix (cC c)⟩)],[2,999]⟩)
    (True ∧ True)
    ⟨tt,tt⟩ ?_
   refine W.ret (thenQ_ret ?_)
   exact endQ_ret (.i (-1 : Int)) (by kernel_rfl) (@cast ((.int .i64 (-1 : Int) : Value) = .int .i64 (szCp c left)) _ (by kernel_rfl) (congrArg (Value.int .i64) (by exact szC_h2 n10 h16)))
  ·intro n16
   have hz2 := szN_bnd (n := c.down.length) (left := szN c.up.length left)
   refine W.skip (thenQ_normal ?_)
   refine Kk cok tab10 hnt [] [1] (⟨[(1,.i (szN c.marks.length (szN c.down.length (szN c.up.length left))))],[(2,⟨25,.fix (cC c)⟩)],[2,999]⟩)
    (True ∧ True ∧ True ∧ (True ∧ (True ∧ True ∧ True) ∧ 0 ≤ (szN c.down.length (szN c.up.length left)) ∧ (szN c.down.length (szN c.up.length left)) ≤ 1048576) ∧ True ∧ True)
    ⟨tt,tt,tt,⟨tt,⟨tt,tt,tt⟩,(by omega)⟩,tt,tt⟩ ?_
   refine W.seq ?_
   refine Kk cok tab10 hnt [] [1,22] (⟨[(1,.i (szN c.marks.length (szN c.down.length (szN c.up.length left)))),(22,.b (decide ((szN c.marks.length (szN c.down.length (szN c.up.length left))) < (0 : Int))))],[(2,⟨25,.fix (cC c)⟩)],[2,999]⟩)
    (True ∧ (True ∧ True ∧ True) ∧ True)
    ⟨tt,⟨tt,tt,tt⟩,tt⟩ ?_
   refine W.ifP ((szN c.marks.length (szN c.down.length (szN c.up.length left))) < (0 : Int)) (.b (decide ((szN c.marks.length (szN c.down.length (szN c.up.length left))) < (0 : Int)))) (by kernel_rfl) rfl trivial ?_ ?_
   ·intro h22
    refine Kk cok tab10 hnt [] [4] (⟨[(4,.i (-1 : Int))],[(2,⟨25,.fix (cC c)⟩)],[2,999]⟩)
     (True ∧ True)
     ⟨tt,tt⟩ ?_
    refine W.ret (thenQ_ret ?_)
    exact endQ_ret (.i (-1 : Int)) (by kernel_rfl) (@cast ((.int .i64 (-1 : Int) : Value) = .int .i64 (szCp c left)) _ (by kernel_rfl) (congrArg (Value.int .i64) (by exact szC_h3 n10 n16 h22)))
   ·intro n22
    refine W.skip (thenQ_normal ?_)
    refine Kk cok tab10 hnt [] [4] (⟨[(4,.i (szN c.marks.length (szN c.down.length (szN c.up.length left))))],[(2,⟨25,.fix (cC c)⟩)],[2,999]⟩)
     (True ∧ True ∧ True)
     ⟨tt,tt,tt⟩ ?_
    refine W.ret ?_
    exact endQ_ret (.i (szN c.marks.length (szN c.down.length (szN c.up.length left)))) (by kernel_rfl) (@cast ((.int .i64 (szN c.marks.length (szN c.down.length (szN c.up.length left))) : Value) = .int .i64 (szCp c left)) _ (by kernel_rfl) (congrArg (Value.int .i64) (by exact szC_n3 n10 n16 n22)))
theorem ent10 : Entr prog 10 := ⟨_,func10,rfl,by decide⟩
end Go.Proofs.Try

set_option linter.unusedSimpArgs false
set_option linter.unusedVariables false
namespace Go.Proofs.Try
open Go.Ab Go.RowKit
def fs36 : FnS := fnS [.s .ints] [.ints] (fun _ (h,_) => (.own 0 h.length,[(3,.ints h)],(h.length ≤ 1048576)))
abbrev T36 : Tab := lk []
theorem tab36 : TabOK prog T36 := TabOK.nil
set_option maxRecDepth 100000 in
set_option maxHeartbeats 1000000 in
theorem ok36 : FnOK prog 36 fs36 := by
 refine FnOK.mk cok func36 rfl rfl rfl ?_
 rintro fl ⟨(h : List Int),_⟩ hpre F hnt0 _
 have hnt : F.nt = 22 := hnt0.trans ntmps36
 replace hpre : (h.length ≤ 1048576) := hpre
 have hn := hpre
 refine W.to (⟨[(0,.sl (.ints h))],[],[999]⟩) rfl ?_
 refine W.lenOf 0 (.ints h) (by kernel_rfl) ?_
 intro hl_h; replace hl_h : List.length h ≤ 9223372036854775807 := hl_h
 refine Kk cok tab36 hnt [] [0] (⟨[(0,.sl (.ints h))],[],[999]⟩)
  (True ∧ True)
  ⟨tt,tt⟩ ?_
 refine Kk cok tab36 hnt [7] [0,3] (⟨[(0,.sl (.ints h)),(3,.own 7 (List.length (List.replicate h.length (0 : Int))))],[(7,⟨3,.row (.ints (List.replicate h.length (0 : Int)))⟩)],[7,999]⟩)
  (True ∧ True ∧ (True ∧ True ∧ ((h.length : Int) = (h.length : Int)) ∧ (0 ≤ (h.length : Int)) ∧ ((h.length : Int) * 8 ≤ 281474976710656)) ∧ True ∧ True)
  ⟨tt,tt,⟨tt,tt,rfl,(by omega),(by omega)⟩,tt,tt⟩ ?_
 refine W.seq ?_
 refine Kk cok tab36 hnt [] [0,3,4] (⟨[(0,.sl (.ints h)),(3,.own 7 (List.length (List.replicate h.length (0 : Int)))),(4,.i (0 : Int))],[(7,⟨3,.row (.ints (List.replicate h.length (0 : Int)))⟩)],[7,999]⟩)
  (True ∧ True)
  ⟨tt,tt⟩ ?_
 refine W.block ?_
 refine W.loop (ι := Nat × (List Int)) (fun (x : Nat × (List Int)) => match x with | (i,o) => (⟨[(0,.sl (.ints h)),(3,.own 7 o.length),(4,.i ((i : Nat) : Int))],[(7,⟨3,.row (.ints o)⟩)],[7,999]⟩ : St))
  (fun (x : Nat × (List Int)) => match x with | (i,o) => (i ≤ h.length) ∧ (o = toUp 0 h i))
  (fun (x : Nat × (List Int)) => match x with | (i,o) => (h.length - i : Nat)) (0,(List.replicate h.length (0 : Int))) ?_ ?_ ?_
 ·exact (show (0 ≤ h.length) ∧ ((List.replicate h.length (0 : Int)) = toUp 0 h 0) from ⟨(by first | assumption | omega | rfl | (intro _ hjj; omega) | (simp; done) | (simp; omega)),(by exact toUp_zero _ _)⟩)
 ·exact Sub.of [] (@cast (((Sd (.ints h)) ∧ (((7 : Nat) = 7) ∧ ((List.length (List.replicate h.length (0 : Int))) = (List.length (List.replicate h.length (0 : Int)))) ∧ ((7 : Nat) ∈ ([7,999] : List Nat))) ∧ ((.int .i64 (0 : Int) : Value) = .int .i64 ((0 : Nat) : Int)) ∧ True) ∧ ((((3 : Nat) = 3) ∧ (Sd (.ints (List.replicate h.length (0 : Int)))) ∧ ((7 : Nat) ∈ ([7,999] : List Nat))) ∧ True) ∧ (true = true) ∧ (true = true)) _ (by kernel_rfl) ⟨⟨rfl,⟨rfl,rfl,(by decide)⟩,(congrArg (Value.int .i64) (by first | rfl | omega | assumption | simp | simp_all)),tt⟩,⟨⟨rfl,rfl,(by decide)⟩,tt⟩,rfl,rfl⟩)
 ·rintro ⟨i,o⟩ hC0
  have hC : (i ≤ h.length) ∧ (o = toUp 0 h i) := hC0
  clear hC0
  obtain ⟨hi,ho⟩ := hC
  refine W.to (⟨[(0,.sl (.ints h)),(3,.own 7 o.length),(4,.i ((i : Nat) : Int))],[(7,⟨3,.row (.ints o)⟩)],[7,999]⟩) rfl ?_
  have hol : o.length = h.length := by rw [ho]; exact toUp_len _ _ hi
  refine W.seq ?_
  refine Kk cok tab36 hnt [] [0,3,4,11] (⟨[(0,.sl (.ints h)),(3,.own 7 o.length),(4,.i ((i : Nat) : Int)),(11,.b (decide (((i : Nat) : Int) < (h.length : Int))))],[(7,⟨3,.row (.ints o)⟩)],[7,999]⟩)
   (True ∧ True ∧ True ∧ (True ∧ True ∧ True) ∧ True)
   ⟨tt,tt,tt,⟨tt,tt,tt⟩,tt⟩ ?_
  refine W.ifP (((i : Nat) : Int) < (h.length : Int)) (.b (decide (((i : Nat) : Int) < (h.length : Int)))) (by kernel_rfl) rfl trivial ?_ ?_
  ·intro h11
   refine W.skip (thenQ_normal ?_)
   refine W.seq ?_
   refine W.block ?_
   refine Lk cok tab36 hnt [] (⟨[(0,.sl (.ints h)),(3,.own 7 o.length),(4,.i ((i : Nat) : Int)),(11,.b (decide (((i : Nat) : Int) < (h.length : Int)))),(14,.own 7 o.length),(15,.i ((i : Nat) : Int)),(16,.sl (.ints h)),(17,.i ((i : Nat) : Int)),(18,.ep [.i (h.getD i 0)]),(19,.i (h.getD i 0)),(20,.pel 7 1 i 0)],[(7,⟨3,.row (.ints (List.set o i (h.getD i 0)))⟩)],[7,999]⟩)
    (True ∧ True ∧ True ∧ True ∧ (True ∧ True ∧ (0 ≤ ((i : Nat) : Int)) ∧ (((i : Nat) : Int) < (h.length : Int))) ∧ True ∧ (True ∧ True ∧ (0 ≤ ((i : Nat) : Int)) ∧ (((i : Nat) : Int) < (o.length : Int))) ∧ (True ∧ True ∧ (i < o.length)) ∧ True)
    ⟨tt,tt,tt,tt,⟨tt,tt,(by omega),(by omega)⟩,tt,⟨tt,tt,(by omega),(by omega)⟩,⟨tt,tt,(by omega)⟩,tt⟩ ?_
   refine blockQ_normal (thenQ_normal ?_)
   refine Lk cok tab36 hnt [] (⟨[(0,.sl (.ints h)),(3,.own 7 o.length),(4,.i (((i + 1) : Nat) : Int)),(11,.b (decide (((i : Nat) : Int) < (h.length : Int)))),(12,.i ((i : Nat) : Int)),(13,.i (((i + 1) : Nat) : Int)),(14,.own 7 o.length),(15,.i ((i : Nat) : Int)),(16,.sl (.ints h)),(17,.i ((i : Nat) : Int)),(18,.ep [.i (h.getD i 0)]),(19,.i (h.getD i 0)),(20,.pel 7 1 i 0)],[(7,⟨3,.row (.ints (List.set o i (h.getD i 0)))⟩)],[7,999]⟩)
    (True ∧ (True ∧ True ∧ (Fits .i64 (((i + 1) : Nat) : Int))) ∧ True ∧ True)
    ⟨tt,⟨tt,tt,(by exact fits_i64 (by omega) (by omega))⟩,tt,tt⟩ ?_
   refine thenQ_normal ?_
   refine ⟨((i + 1),(List.set o i (h.getD i 0))),(show ((i + 1) ≤ h.length) ∧ ((List.set o i (h.getD i 0)) = toUp 0 h (i + 1)) from ⟨(by first | assumption | omega | rfl | (intro _ hjj; omega) | (simp; done) | (simp; omega)),(by exact toUp_step ho (by omega))⟩),(show h.length - (i + 1) < h.length - i from (by first | omega | (simp_all; omega))),?_⟩
   exact Sub.of [] (@cast (((Sd (.ints h)) ∧ (((7 : Nat) = 7) ∧ (o.length = (List.length (List.set o i (h.getD i 0)))) ∧ ((7 : Nat) ∈ ([7,999] : List Nat))) ∧ (Si (((i + 1) : Nat) : Int)) ∧ True) ∧ ((((3 : Nat) = 3) ∧ (Sd (.ints (List.set o i (h.getD i 0)))) ∧ ((7 : Nat) ∈ ([7,999] : List Nat))) ∧ True) ∧ (true = true) ∧ (true = true)) _ (by kernel_rfl) ⟨⟨rfl,⟨rfl,(by first | rfl | omega | assumption | (symm; assumption) | simp | simp_all),(by decide)⟩,rfl,tt⟩,⟨⟨rfl,rfl,(by decide)⟩,tt⟩,rfl,rfl⟩)
  ·intro n11
   refine W.exit (thenQ_exit (thenQ_exit (blockQ_hit ?_)))
   refine thenQ_normal ?_
   refine Kk cok tab36 hnt [] [2] (⟨[(2,.own 7 o.length)],[(7,⟨3,.row (.ints o)⟩)],[7,999]⟩)
    (True ∧ True ∧ True)
    ⟨tt,tt,tt⟩ ?_
   refine W.ret ?_
   exact endQ_rows [(0,7)] (.own 7 o.length) (by kernel_rfl) (@cast (((7 : Nat) = 7) ∧ (o.length = h.length) ∧ ((0 : Nat) ∈ ([0] : List Nat))) _ (by kernel_rfl) ⟨rfl,(by first | rfl | omega | assumption | (symm; assumption) | (exact congrArg List.length (by exact toUp_all ho (by omega))) | (exact toUp_all ho (by omega); done) | simp | simp_all),(by decide)⟩) (@cast ((((3 : Nat) = 3) ∧ ((.ints o : Dat) = .ints h) ∧ ((0 : Nat) ∈ ([0] : List Nat))) ∧ True) _ (by kernel_rfl) ⟨⟨rfl,(congrArg Dat.ints (by exact toUp_all ho (by omega))),(by decide)⟩,tt⟩) (by kernel_rfl)
theorem ent36 : Entr prog 36 := ⟨_,func36,rfl,by decide⟩
end Go.Proofs.Try

set_option linter.unusedSimpArgs false
set_option linter.unusedVariables false
namespace Go.Proofs.Try
open Go.Ab Go.RowKit
def fs60 : FnS := fnS [.o] [.mark] (fun _ (a,_) => (.agg [.i a.value,.i a.proc,.i a.number,.b a.gone],[],True))
abbrev T60 : Tab := lk []
theorem tab60 : TabOK prog T60 := TabOK.nil
set_option maxRecDepth 100000 in
set_option maxHeartbeats 1000000 in
theorem ok60 : FnOK prog 60 fs60 := by
 refine FnOK.mk cok func60 rfl rfl rfl ?_
 rintro fl ⟨(a : MarkD),_⟩ hpre F hnt0 _
 have hnt : F.nt = 17 := hnt0.trans ntmps60
 clear hpre
 refine W.to (⟨[(0,.agg [.i a.value,.i a.proc,.i a.number,.b a.gone])],[],[999]⟩) rfl ?_
 refine Kk cok tab60 hnt [] [1,2] (⟨[(1,.ptr 1 0),(2,.ptr 2 0)],[(1,⟨68,.fix [.i a.value,.i a.proc,.i a.number,.b a.gone]⟩),(2,⟨50,.fix [.i (0 : Int),.i (0 : Int),.i (0 : Int),.b false]⟩)],[2,1,999]⟩)
  (True ∧ True ∧ True)
  ⟨tt,tt,tt⟩ ?_
 refine Kk cok tab60 hnt [] [1,2,3] (⟨[(1,.ptr 1 0),(2,.ptr 2 0),(3,.ptr 3 0)],[(1,⟨68,.fix [.i a.value,.i a.proc,.i a.number,.b a.gone]⟩),(2,⟨50,.fix [.i (0 : Int),.i (0 : Int),.i (0 : Int),.b false]⟩),(3,⟨50,.fix [.i (0 : Int),.i (0 : Int),.i (0 : Int),.b false]⟩)],[3,2,1,999]⟩)
  (True ∧ True)
  ⟨tt,tt⟩ ?_
 refine Kk cok tab60 hnt [] [1,2,3] (⟨[(1,.ptr 1 0),(2,.ptr 2 0),(3,.ptr 3 0)],[(1,⟨68,.fix [.i a.value,.i a.proc,.i a.number,.b a.gone]⟩),(2,⟨50,.fix [.i (0 : Int),.i (0 : Int),.i (0 : Int),.b false]⟩),(3,⟨50,.fix [.i a.value,.i (0 : Int),.i (0 : Int),.b false]⟩)],[3,2,1,999]⟩)
  (True ∧ True ∧ True ∧ (True ∧ True) ∧ True)
  ⟨tt,tt,tt,⟨tt,tt⟩,tt⟩ ?_
 refine Kk cok tab60 hnt [] [1,2,3] (⟨[(1,.ptr 1 0),(2,.ptr 2 0),(3,.ptr 3 0)],[(1,⟨68,.fix [.i a.value,.i a.proc,.i a.number,.b a.gone]⟩),(2,⟨50,.fix [.i (0 : Int),.i (0 : Int),.i (0 : Int),.b false]⟩),(3,⟨50,.fix [.i a.value,.i a.proc,.i (0 : Int),.b false]⟩)],[3,2,1,999]⟩)
  (True ∧ True ∧ True ∧ (True ∧ True) ∧ True)
  ⟨tt,tt,tt,⟨tt,tt⟩,tt⟩ ?_
 refine Kk cok tab60 hnt [] [1,2,3] (⟨[(1,.ptr 1 0),(2,.ptr 2 0),(3,.ptr 3 0)],[(1,⟨68,.fix [.i a.value,.i a.proc,.i a.number,.b a.gone]⟩),(2,⟨50,.fix [.i (0 : Int),.i (0 : Int),.i (0 : Int),.b false]⟩),(3,⟨50,.fix [.i a.value,.i a.proc,.i a.number,.b false]⟩)],[3,2,1,999]⟩)
  (True ∧ True ∧ True ∧ (True ∧ True) ∧ True)
  ⟨tt,tt,tt,⟨tt,tt⟩,tt⟩ ?_
 refine Kk cok tab60 hnt [] [2,3] (⟨[(2,.ptr 2 0),(3,.ptr 3 0)],[(1,⟨68,.fix [.i a.value,.i a.proc,.i a.number,.b a.gone]⟩),(2,⟨50,.fix [.i (0 : Int),.i (0 : Int),.i (0 : Int),.b false]⟩),(3,⟨50,.fix [.i a.value,.i a.proc,.i a.number,.b a.gone]⟩)],[3,2,1,999]⟩)
  (True ∧ True ∧ True ∧ (True ∧ True) ∧ True)
  ⟨tt,tt,tt,⟨tt,tt⟩,tt⟩ ?_
 refine Kk cok tab60 hnt [] [2] (⟨[(2,.ptr 2 0)],[(1,⟨68,.fix [.i a.value,.i a.proc,.i a.number,.b a.gone]⟩),(2,⟨50,.fix [.i a.value,.i a.proc,.i a.number,.b a.gone]⟩),(3,⟨50,.fix [.i a.value,.i a.proc,.i a.number,.b a.gone]⟩)],[3,2,1,999]⟩)
  (True ∧ (True ∧ True) ∧ True)
  ⟨tt,⟨tt,tt⟩,tt⟩ ?_
 refine W.ret ?_
 exact endQ_ret (.agg [.i a.value,.i a.proc,.i a.number,.b a.gone]) (by kernel_rfl) (@cast ((Si a.value) ∧ (Si a.proc) ∧ (Si a.number) ∧ (Sv (.bool a.gone)) ∧ True) _ (by kernel_rfl) ⟨rfl,rfl,rfl,rfl,tt⟩)
theorem ent60 : Entr prog 60 := ⟨_,func60,rfl,by decide⟩
end Go.Proofs.Try

set_option linter.unusedSimpArgs false
set_option linter.unusedVariables false
namespace Go.Proofs.Try
open Go.Ab Go.RowKit
def fs37 : FnS := fnS [.s .marks] [.marks] (fun _ (h,_) => (.own 0 h.length,[(50,.marks h)],(h.length ≤ 1048576)))
abbrev T37 : Tab := lk [(60,fs60)]
theorem tab37 : TabOK prog T37 := (TabOK.cons ok60 ent60 TabOK.nil)
set_option maxRecDepth 100000 in
set_option maxHeartbeats 1000000 in
theorem ok37 : FnOK prog 37 fs37 := by
 refine FnOK.mk cok func37 rfl rfl rfl ?_
 rintro fl ⟨(h : List MarkD),_⟩ hpre F hnt0 _
 have hnt : F.nt = 23 := hnt0.trans ntmps37
 replace hpre : (h.length ≤ 1048576) := hpre
 have hn := hpre
 refine W.to (⟨[(0,.sl (.marks h))],[],[999]⟩) rfl ?_
 refine W.lenOf 0 (.marks h) (by kernel_rfl) ?_
 intro hl_h; replace hl_h : List.length h ≤ 9223372036854775807 := hl_h
 refine Kk cok tab37 hnt [] [0] (⟨[(0,.sl (.marks h))],[],[999]⟩)
  (True ∧ True)
  ⟨tt,tt⟩ ?_
 refine Kk cok tab37 hnt [7] [0,3] (⟨[(0,.sl (.marks h)),(3,.own 7 (List.length (List.replicate h.length (⟨0,0,0,false⟩ : MarkD))))],[(7,⟨50,.row (.marks (List.replicate h.length (⟨0,0,0,false⟩ : MarkD)))⟩)],[7,999]⟩)
  (True ∧ True ∧ (True ∧ True ∧ ((h.length : Int) = (h.length : Int)) ∧ (0 ≤ (h.length : Int)) ∧ ((h.length : Int) * 32 ≤ 281474976710656)) ∧ True ∧ True)
  ⟨tt,tt,⟨tt,tt,rfl,(by omega),(by omega)⟩,tt,tt⟩ ?_
 refine W.seq ?_
 refine Kk cok tab37 hnt [] [0,3,4] (⟨[(0,.sl (.marks h)),(3,.own 7 (List.length (List.replicate h.length (⟨0,0,0,false⟩ : MarkD)))),(4,.i (0 : Int))],[(7,⟨50,.row (.marks (List.replicate h.length (⟨0,0,0,false⟩ : MarkD)))⟩)],[7,999]⟩)
  (True ∧ True)
  ⟨tt,tt⟩ ?_
 refine W.block ?_
 refine W.loop (ι := Nat × (List MarkD)) (fun (x : Nat × (List MarkD)) => match x with | (i,o) => (⟨[(0,.sl (.marks h)),(3,.own 7 o.length),(4,.i ((i : Nat) : Int))],[(7,⟨50,.row (.marks o)⟩)],[7,999]⟩ : St))
  (fun (x : Nat × (List MarkD)) => match x with | (i,o) => (i ≤ h.length) ∧ (o = toUp default h i))
  (fun (x : Nat × (List MarkD)) => match x with | (i,o) => (h.length - i : Nat)) (0,(List.replicate h.length (⟨0,0,0,false⟩ : MarkD))) ?_ ?_ ?_
 ·exact (show (0 ≤ h.length) ∧ ((List.replicate h.length (⟨0,0,0,false⟩ : MarkD)) = toUp default h 0) from ⟨(by first | assumption | omega | rfl | (intro _ hjj; omega) | (simp; done) | (simp; omega)),(by exact toUp_zero _ _)⟩)
 ·exact Sub.of [] (@cast (((Sd (.marks h)) ∧ (((7 : Nat) = 7) ∧ ((List.length (List.replicate h.length (⟨0,0,0,false⟩ : MarkD))) = (List.length (List.replicate h.length (⟨0,0,0,false⟩ : MarkD)))) ∧ ((7 : Nat) ∈ ([7,999] : List Nat))) ∧ ((.int .i64 (0 : Int) : Value) = .int .i64 ((0 : Nat) : Int)) ∧ True) ∧ ((((50 : Nat) = 50) ∧ (Sd (.marks (List.replicate h.length (⟨0,0,0,false⟩ : MarkD)))) ∧ ((7 : Nat) ∈ ([7,999] : List Nat))) ∧ True) ∧ (true = true) ∧ (true = true)) _ (by kernel_rfl) ⟨⟨rfl,⟨rfl,rfl,(by decide)⟩,(congrArg (Value.int .i64) (by first | rfl | omega | assumption | simp | simp_all)),tt⟩,⟨⟨rfl,rfl,(by decide)⟩,tt⟩,rfl,rfl⟩)
 ·rintro ⟨i,o⟩ hC0
  have hC : (i ≤ h.length) ∧ (o = toUp default h i) := hC0
  clear hC0
  obtain ⟨hi,ho⟩ := hC
  refine W.to (⟨[(0,.sl (.marks h)),(3,.own 7 o.length),(4,.i ((i : Nat) : Int))],[(7,⟨50,.row (.marks o)⟩)],[7,999]⟩) rfl ?_
  have hol : o.length = h.length := by rw [ho]; exact toUp_len _ _ hi
  refine W.seq ?_
  refine Kk cok tab37 hnt [] [0,3,4,11] (⟨[(0,.sl (.marks h)),(3,.own 7 o.length),(4,.i ((i : Nat) : Int)),(11,.b (decide (((i : Nat) : Int) < (h.length : Int))))],[(7,⟨50,.row (.marks o)⟩)],[7,999]⟩)
   (True ∧ True ∧ True ∧ (True ∧ True ∧ True) ∧ True)
   ⟨tt,tt,tt,⟨tt,tt,tt⟩,tt⟩ ?_
  refine W.ifP (((i : Nat) : Int) < (h.length : Int)) (.b (decide (((i : Nat) : Int) < (h.length : Int)))) (by kernel_rfl) rfl trivial ?_ ?_
  ·intro h11
   refine W.skip (thenQ_normal ?_)
   refine W.seq ?_
   refine W.block ?_
   refine Lk cok tab37 hnt [] ((fun (Z1:Bool)=>(⟨[(0,.sl (.marks h)),(3,.own 7 o.length),(4,.i ((i : Nat) : Int)),(11,.b (decide (((i : Nat) : Int) < (h.length : Int)))),(14,.own 7 o.length),(15,.i ((i : Nat) : Int)),(16,.sl (.marks h)),(17,.i ((i : Nat) : Int)),(18,.ep [.i ((h.getD i default).value),.i ((h.getD i default).proc),.i ((h.getD i default).number),.b Z1]),(19,.agg [.i ((h.getD i default).value),.i ((h.getD i default).proc),.i ((h.getD i default).number),.b Z1]),(20,.agg [.i ((h.getD i default).value),.i ((h.getD i default).proc),.i ((h.getD i default).number),.b Z1]),(21,.pel 7 4 i 0)],[(7,⟨50,.row (.marks (List.set o i (h.getD i default)))⟩)],[7,999]⟩:St)) ((h.getD i default).gone))
    (True ∧ True ∧ True ∧ True ∧ (True ∧ True ∧ (0 ≤ ((i : Nat) : Int)) ∧ (((i : Nat) : Int) < (h.length : Int))) ∧ True ∧ (True ∧ (True ∧ True) ∧ True) ∧ (True ∧ True ∧ (0 ≤ ((i : Nat) : Int)) ∧ (((i : Nat) : Int) < (o.length : Int))) ∧ (True ∧ True ∧ (i < o.length)) ∧ True)
    ⟨tt,tt,tt,tt,⟨tt,tt,(by omega),(by omega)⟩,tt,⟨tt,⟨tt,tt⟩,tt⟩,⟨tt,tt,(by omega),(by omega)⟩,⟨tt,tt,(by omega)⟩,tt⟩ ?_
   refine blockQ_normal (thenQ_normal ?_)
   refine Lk cok tab37 hnt [] ((fun (Z1:Bool)=>(⟨[(0,.sl (.marks h)),(3,.own 7 o.length),(4,.i (((i + 1) : Nat) : Int)),(11,.b (decide (((i : Nat) : Int) < (h.length : Int)))),(12,.i ((i : Nat) : Int)),(13,.i (((i + 1) : Nat) : Int)),(14,.own 7 o.length),(15,.i ((i : Nat) : Int)),(16,.sl (.marks h)),(17,.i ((i : Nat) : Int)),(18,.ep [.i ((h.getD i default).value),.i ((h.getD i default).proc),.i ((h.getD i default).number),.b Z1]),(19,.agg [.i ((h.getD i default).value),.i ((h.getD i default).proc),.i ((h.getD i default).number),.b Z1]),(20,.agg [.i ((h.getD i default).value),.i ((h.getD i default).proc),.i ((h.getD i default).number),.b Z1]),(21,.pel 7 4 i 0)],[(7,⟨50,.row (.marks (List.set o i (h.getD i default)))⟩)],[7,999]⟩:St)) ((h.getD i default).gone))
    (True ∧ (True ∧ True ∧ (Fits .i64 (((i + 1) : Nat) : Int))) ∧ True ∧ True)
    ⟨tt,⟨tt,tt,(by exact fits_i64 (by omega) (by omega))⟩,tt,tt⟩ ?_
   refine thenQ_normal ?_
   refine ⟨((i + 1),(List.set o i (h.getD i default))),(show ((i + 1) ≤ h.length) ∧ ((List.set o i (h.getD i default)) = toUp default h (i + 1)) from ⟨(by first | assumption | omega | rfl | (intro _ hjj; omega) | (simp; done) | (simp; omega)),(by exact toUp_step ho (by omega))⟩),(show h.length - (i + 1) < h.length - i from (by first | omega | (simp_all; omega))),?_⟩
   exact Sub.of [] (@cast (((Sd (.marks h)) ∧ (((7 : Nat) = 7) ∧ (o.length = (List.length (List.set o i (h.getD i default)))) ∧ ((7 : Nat) ∈ ([7,999] : List Nat))) ∧ (Si (((i + 1) : Nat) : Int)) ∧ True) ∧ ((((50 : Nat) = 50) ∧ (Sd (.marks (List.set o i (h.getD i default)))) ∧ ((7 : Nat) ∈ ([7,999] : List Nat))) ∧ True) ∧ (true = true) ∧ (true = true)) _ (by kernel_rfl) ⟨⟨rfl,⟨rfl,(by first | rfl | omega | assumption | (symm; assumption) | simp | simp_all),(by decide)⟩,rfl,tt⟩,⟨⟨rfl,rfl,(by decide)⟩,tt⟩,rfl,rfl⟩)
  ·intro n11
   refine W.exit (thenQ_exit (thenQ_exit (blockQ_hit ?_)))
   refine thenQ_normal ?_
   refine Kk cok tab37 hnt [] [2] (⟨[(2,.own 7 o.length)],[(7,⟨50,.row (.marks o)⟩)],[7,999]⟩)
    (True ∧ True ∧ True)
    ⟨tt,tt,tt⟩ ?_
   refine W.ret ?_
   exact endQ_rows [(0,7)] (.own 7 o.length) (by kernel_rfl) (@cast (((7 : Nat) = 7) ∧ (o.length = h.length) ∧ ((0 : Nat) ∈ ([0] : List Nat))) _ (by kernel_rfl) ⟨rfl,(by first | rfl | omega | assumption | (symm; assumption) | (exact congrArg List.length (by exact toUp_all ho (by omega))) | (exact toUp_all ho (by omega); done) | simp | simp_all),(by decide)⟩) (@cast ((((50 : Nat) = 50) ∧ ((.marks o : Dat) = .marks h) ∧ ((0 : Nat) ∈ ([0] : List Nat))) ∧ True) _ (by kernel_rfl) ⟨⟨rfl,(congrArg Dat.marks (by exact toUp_all ho (by omega))),(by decide)⟩,tt⟩) (by kernel_rfl)
theorem ent37 : Entr prog 37 := ⟨_,func37,rfl,by decide⟩
end Go.Proofs.Try

set_option linter.unusedSimpArgs false
set_option linter.unusedVariables false
namespace Go.Proofs.Try
open Go.Ab Go.RowKit
def fs12 : FnS := fnS [.a [some .ints,some .ints,none,none,none,some .marks]] [.copy] (fun fl (c,_) => bif fl then (.agg [.own 0 (List.length c.up),.own 1 (List.length c.down),.i c.value,.i c.time,.i c.proc,.own 2 (List.length c.marks)],[(3,.ints c.up),(3,.ints c.down),(50,.marks c.marks)],(c.up.length ≤ 1048576 ∧ c.down.length ≤ 1048576 ∧ c.marks.length ≤ 1048576)) else (.agg (cC c),[],(c.up.length ≤ 1048576 ∧ c.down.length ≤ 1048576 ∧ c.marks.length ≤ 1048576)))
abbrev T12 : Tab := lk [(36,fs36),(37,fs37)]
theorem tab12 : TabOK prog T12 := (TabOK.cons ok36 ent36 (TabOK.cons ok37 ent37 TabOK.nil))
set_option maxRecDepth 100000 in
set_option maxHeartbeats 1000000 in
theorem ok12 : FnOK prog 12 fs12 := by
 refine FnOK.mk cok func12 rfl rfl rfl ?_
 rintro fl ⟨(c : CopyD),_⟩ hpre F hnt0 _
 have hnt : F.nt = 26 := hnt0.trans ntmps12
 replace hpre : (c.up.length ≤ 1048576 ∧ c.down.length ≤ 1048576 ∧ c.marks.length ≤ 1048576) := by cases fl <;> exact hpre
 have hs := hpre
 refine W.to (⟨[(0,.agg (cC c))],[],[999]⟩) rfl ?_
 refine W.lenA 0 0 (cC c) (.ints c.up) (by kernel_rfl) (by kernel_rfl) ?_
 intro hl_c_up; replace hl_c_up : List.length c.up ≤ 9223372036854775807 := hl_c_up
 refine W.lenA 0 1 (cC c) (.ints c.down) (by kernel_rfl) (by kernel_rfl) ?_
 intro hl_c_down; replace hl_c_down : List.length c.down ≤ 9223372036854775807 := hl_c_down
 refine W.lenA 0 5 (cC c) (.marks c.marks) (by kernel_rfl) (by kernel_rfl) ?_
 intro hl_c_marks; replace hl_c_marks : List.length c.marks ≤ 9223372036854775807 := hl_c_marks
 refine Kk cok tab12 hnt [] [1,2] (⟨[(1,.ptr 1 0),(2,.ptr 2 0)],[(1,⟨25,.fix (cC c)⟩),(2,⟨29,.fix [.v (.slice none 0 0),.v (.slice none 0 0),.i (0 : Int),.i (0 : Int),.i (0 : Int),.v (.slice none 0 0)]⟩)],[2,1,999]⟩)
  (True ∧ True ∧ True)
  ⟨tt,tt,tt⟩ ?_
 refine Kk cok tab12 hnt [] [1,2,3] (⟨[(1,.ptr 1 0),(2,.ptr 2 0),(3,.ptr 3 0)],[(1,⟨25,.fix (cC c)⟩),(2,⟨29,.fix [.v (.slice none 0 0),.v (.slice none 0 0),.i (0 : Int),.i (0 : Int),.i (0 : Int),.v (.slice none 0 0)]⟩),(3,⟨29,.fix [.v (.slice none 0 0),.v (.slice none 0 0),.i (0 : Int),.i (0 : Int),.i (0 : Int),.v (.slice none 0 0)]⟩)],[3,2,1,999]⟩)
  (True ∧ True)
  ⟨tt,tt⟩ ?_
 refine Kk cok tab12 hnt [6] [1,2,3] (⟨[(1,.ptr 1 0),(2,.ptr 2 0),(3,.ptr 3 0)],[(1,⟨25,.fix (cC c)⟩),(2,⟨29,.fix [.v (.slice none 0 0),.v (.slice none 0 0),.i (0 : Int),.i (0 : Int),.i (0 : Int),.v (.slice none 0 0)]⟩),(3,⟨29,.fix [.own 6 (List.length c.up),.v (.slice none 0 0),.i (0 : Int),.i (0 : Int),.i (0 : Int),.v (.slice none 0 0)]⟩),(6,⟨3,.row (.ints c.up)⟩)],[6,3,2,1,999]⟩)
  (True ∧ True ∧ (True ∧ (True ∧ True) ∧ (c.up.length ≤ 1048576)) ∧ True ∧ (True ∧ True) ∧ True)
  ⟨tt,tt,⟨tt,⟨tt,tt⟩,(by omega)⟩,tt,⟨tt,tt⟩,tt⟩ ?_
 refine Kk cok tab12 hnt [10] [1,2,3] (⟨[(1,.ptr 1 0),(2,.ptr 2 0),(3,.ptr 3 0)],[(1,⟨25,.fix (cC c)⟩),(2,⟨29,.fix [.v (.slice none 0 0),.v (.slice none 0 0),.i (0 : Int),.i (0 : Int),.i (0 : Int),.v (.slice none 0 0)]⟩),(3,⟨29,.fix [.own 6 (List.length c.up),.own 10 (List.length c.down),.i (0 : Int),.i (0 : Int),.i (0 : Int),.v (.slice none 0 0)]⟩),(6,⟨3,.row (.ints c.up)⟩),(10,⟨3,.row (.ints c.down)⟩)],[10,6,3,2,1,999]⟩)
  (True ∧ True ∧ (True ∧ (True ∧ True) ∧ (c.down.length ≤ 1048576)) ∧ True ∧ (True ∧ True) ∧ True)
  ⟨tt,tt,⟨tt,⟨tt,tt⟩,(by omega)⟩,tt,⟨tt,tt⟩,tt⟩ ?_
 refine Kk cok tab12 hnt [] [1,2,3] (⟨[(1,.ptr 1 0),(2,.ptr 2 0),(3,.ptr 3 0)],[(1,⟨25,.fix (cC c)⟩),(2,⟨29,.fix [.v (.slice none 0 0),.v (.slice none 0 0),.i (0 : Int),.i (0 : Int),.i (0 : Int),.v (.slice none 0 0)]⟩),(3,⟨29,.fix [.own 6 (List.length c.up),.own 10 (List.length c.down),.i c.value,.i (0 : Int),.i (0 : Int),.v (.slice none 0 0)]⟩),(6,⟨3,.row (.ints c.up)⟩),(10,⟨3,.row (.ints c.down)⟩)],[10,6,3,2,1,999]⟩)
  (True ∧ True ∧ True ∧ (True ∧ True) ∧ True)
  ⟨tt,tt,tt,⟨tt,tt⟩,tt⟩ ?_
 refine Kk cok tab12 hnt [] [1,2,3] (⟨[(1,.ptr 1 0),(2,.ptr 2 0),(3,.ptr 3 0)],[(1,⟨25,.fix (cC c)⟩),(2,⟨29,.fix [.v (.slice none 0 0),.v (.slice none 0 0),.i (0 : Int),.i (0 : Int),.i (0 : Int),.v (.slice none 0 0)]⟩),(3,⟨29,.fix [.own 6 (List.length c.up),.own 10 (List.length c.down),.i c.value,.i c.time,.i (0 : Int),.v (.slice none 0 0)]⟩),(6,⟨3,.row (.ints c.up)⟩),(10,⟨3,.row (.ints c.down)⟩)],[10,6,3,2,1,999]⟩)
  (True ∧ True ∧ True ∧ (True ∧ True) ∧ True)
  ⟨tt,tt,tt,⟨tt,tt⟩,tt⟩ ?_
 refine Kk cok tab12 hnt [] [1,2,3] (⟨[(1,.ptr 1 0),(2,.ptr 2 0),(3,.ptr 3 0)],[(1,⟨25,.fix (cC c)⟩),(2,⟨29,.fix [.v (.slice none 0 0),.v (.slice none 0 0),.i (0 : Int),.i (0 : Int),.i (0 : Int),.v (.slice none 0 0)]⟩),(3,⟨29,.fix [.own 6 (List.length c.up),.own 10 (List.length c.down),.i c.value,.i c.time,.i c.proc,.v (.slice none 0 0)]⟩),(6,⟨3,.row (.ints c.up)⟩),(10,⟨3,.row (.ints c.down)⟩)],[10,6,3,2,1,999]⟩)
  (True ∧ True ∧ True ∧ (True ∧ True) ∧ True)
  ⟨tt,tt,tt,⟨tt,tt⟩,tt⟩ ?_
 refine Kk cok tab12 hnt [23] [2,3] (⟨[(2,.ptr 2 0),(3,.ptr 3 0)],[(1,⟨25,.fix (cC c)⟩),(2,⟨29,.fix [.v (.slice none 0 0),.v (.slice none 0 0),.i (0 : Int),.i (0 : Int),.i (0 : Int),.v (.slice none 0 0)]⟩),(3,⟨29,.fix [.own 6 (List.length c.up),.own 10 (List.length c.down),.i c.value,.i c.time,.i c.proc,.own 23 (List.length c.marks)]⟩),(6,⟨3,.row (.ints c.up)⟩),(10,⟨3,.row (.ints c.down)⟩),(23,⟨50,.row (.marks c.marks)⟩)],[23,10,6,3,2,1,999]⟩)
  (True ∧ True ∧ (True ∧ (True ∧ True) ∧ (c.marks.length ≤ 1048576)) ∧ True ∧ (True ∧ True) ∧ True)
  ⟨tt,tt,⟨tt,⟨tt,tt⟩,(by omega)⟩,tt,⟨tt,tt⟩,tt⟩ ?_
 refine Kk cok tab12 hnt [] [2] (⟨[(2,.ptr 2 0)],[(1,⟨25,.fix (cC c)⟩),(2,⟨29,.fix [.own 6 (List.length c.up),.own 10 (List.length c.down),.i c.value,.i c.time,.i c.proc,.own 23 (List.length c.marks)]⟩),(3,⟨29,.fix [.own 6 (List.length c.up),.own 10 (List.length c.down),.i c.value,.i c.time,.i c.proc,.own 23 (List.length c.marks)]⟩),(6,⟨3,.row (.ints c.up)⟩),(10,⟨3,.row (.ints c.down)⟩),(23,⟨50,.row (.marks c.marks)⟩)],[23,10,6,3,2,1,999]⟩)
  (True ∧ (True ∧ True) ∧ True)
  ⟨tt,⟨tt,tt⟩,tt⟩ ?_
 refine W.ret ?_
 cases fl
 case false =>
  exact endQ_ret (.agg [.own 6 (List.length c.up),.own 10 (List.length c.down),.i c.value,.i c.time,.i c.proc,.own 23 (List.length c.marks)]) (by kernel_rfl) (@cast ((((List.length c.up) = (List.length c.up)) ∧ (Sd (.ints c.up)) ∧ ((6 : Nat) ∉ ([] : List Nat))) ∧ (((List.length c.down) = (List.length c.down)) ∧ (Sd (.ints c.down)) ∧ ((10 : Nat) ∉ ([] : List Nat))) ∧ (Si c.value) ∧ (Si c.time) ∧ (Si c.proc) ∧ (((List.length c.marks) = (List.length c.marks)) ∧ (Sd (.marks c.marks)) ∧ ((23 : Nat) ∉ ([] : List Nat))) ∧ True) _ (by kernel_rfl) ⟨⟨rfl,rfl,(by decide)⟩,⟨rfl,rfl,(by decide)⟩,rfl,rfl,rfl,⟨rfl,rfl,(by decide)⟩,tt⟩)
 case true =>
  exact endQ_rows [(0,6),(1,10),(2,23)] (.agg [.own 6 (List.length c.up),.own 10 (List.length c.down),.i c.value,.i c.time,.i c.proc,.own 23 (List.length c.marks)]) (by kernel_rfl) (@cast ((((6 : Nat) = 6) ∧ ((List.length c.up) = (List.length c.up)) ∧ ((0 : Nat) ∈ ([0,1,2] : List Nat))) ∧ (((10 : Nat) = 10) ∧ ((List.length c.down) = (List.length c.down)) ∧ ((1 : Nat) ∈ ([0,1,2] : List Nat))) ∧ (Si c.value) ∧ (Si c.time) ∧ (Si c.proc) ∧ (((23 : Nat) = 23) ∧ ((List.length c.marks) = (List.length c.marks)) ∧ ((2 : Nat) ∈ ([0,1,2] : List Nat))) ∧ True) _ (by kernel_rfl) ⟨⟨rfl,rfl,(by decide)⟩,⟨rfl,rfl,(by decide)⟩,rfl,rfl,rfl,⟨rfl,rfl,(by decide)⟩,tt⟩) (@cast ((((3 : Nat) = 3) ∧ (Sd (.ints c.up)) ∧ ((0 : Nat) ∈ ([0,1,2] : List Nat))) ∧ (((3 : Nat) = 3) ∧ (Sd (.ints c.down)) ∧ ((1 : Nat) ∈ ([0,1,2] : List Nat))) ∧ (((50 : Nat) = 50) ∧ (Sd (.marks c.marks)) ∧ ((2 : Nat) ∈ ([0,1,2] : List Nat))) ∧ True) _ (by kernel_rfl) ⟨⟨rfl,rfl,(by decide)⟩,⟨rfl,rfl,(by decide)⟩,⟨rfl,rfl,(by decide)⟩,tt⟩) (by kernel_rfl)
theorem ent12 : Entr prog 12 := ⟨_,func12,rfl,by decide⟩
end Go.Proofs.Try

set_option linter.unusedSimpArgs false
set_option linter.unusedVariables false
namespace Go.Proofs.Try
open Go.Ab Go.RowKit
def fs43 : FnS := fnS [.o,.o,.o] [.int,.int,.int] (fun _ (n,low,high,_) => (.b (within n low high),[],True))
abbrev T43 : Tab := lk []
theorem tab43 : TabOK prog T43 := TabOK.nil
set_option maxRecDepth 100000 in
set_option maxHeartbeats 1000000 in
theorem ok43 : FnOK prog 43 fs43 := by
 refine FnOK.mk cok func43 rfl rfl rfl ?_
 rintro fl ⟨(n : Int),(low : Int),(high : Int),_⟩ hpre F hnt0 _
 have hnt : F.nt = 15 := hnt0.trans ntmps43
 clear hpre
 refine W.to (⟨[(0,.i n),(1,.i low),(2,.i high)],[],[999]⟩) rfl ?_
 refine Kk cok tab43 hnt [] [0,1,2] (⟨[(0,.i n),(1,.i low),(2,.i high)],[],[999]⟩)
  (True ∧ True)
  ⟨tt,tt⟩ ?_
 refine Kk cok tab43 hnt [] [6] (⟨[(6,.b ((decide (low ≤ n)) && (decide (n ≤ high))))],[],[999]⟩)
  ((fun (Z1:Bool)=>(True ∧ (True ∧ ((True ∧ (True ∧ True)) ∧ (True ∧ ((Z1 = true → True) ∧ ((Z1 = true → True) ∧ ((Z1 = true → (((Z1 = true) ∧ True) ∧ (((Z1 = true) ∧ True) ∧ True))) ∧ ((True ∧ ((Z1 = true → (Z1 = true) ∧ True) ∧ (Z1 = false → True))) ∧ (True ∧ True)))))))))) (decide (low ≤ n)))
  ⟨tt,tt,⟨tt,tt,tt⟩,tt,(fun _ => trivial),(fun _ => trivial),(fun hG => ⟨⟨hG,tt⟩,⟨hG,tt⟩,tt⟩),⟨tt,(fun hp => ⟨hp,tt⟩),(fun _ => trivial)⟩,tt,tt⟩ ?_
 refine W.ret ?_
 exact endQ_ret (.b ((decide (low ≤ n)) && (decide (n ≤ high)))) (by kernel_rfl) (@cast ((.bool ((decide (low ≤ n)) && (decide (n ≤ high))) : Value) = .bool (within n low high)) _ (by kernel_rfl) (congrArg Value.bool (by first | rfl | simp_all)))
theorem ent43 : Entr prog 43 := ⟨_,func43,rfl,by decide⟩
end Go.Proofs.Try

set_option linter.unusedSimpArgs false
set_option linter.unusedVariables false
namespace Go.Proofs.Try
open Go.Ab Go.RowKit
def fs50 : FnS := fnS [.o,.o] [.mark,.mark] (fun _ (a,b,_) => (.b (lessM a b),[],True))
abbrev T50 : Tab := lk []
theorem tab50 : TabOK prog T50 := TabOK.nil
set_option maxRecDepth 100000 in
set_option maxHeartbeats 1000000 in
theorem ok50 : FnOK prog 50 fs50 := by
 refine FnOK.mk cok func50 rfl rfl rfl ?_
 rintro fl ⟨(a : MarkD),(b : MarkD),_⟩ hpre F hnt0 _
 have hnt : F.nt = 20 := hnt0.trans ntmps50
 clear hpre
 refine W.to (⟨[(0,.agg [.i a.value,.i a.proc,.i a.number,.b a.gone]),(1,.agg [.i b.value,.i b.proc,.i b.number,.b b.gone])],[],[999]⟩) rfl ?_
 refine Kk cok tab50 hnt [] [2,3] (⟨[(2,.ptr 2 0),(3,.ptr 3 0)],[(2,⟨50,.fix [.i a.value,.i a.proc,.i a.number,.b a.gone]⟩),(3,⟨50,.fix [.i b.value,.i b.proc,.i b.number,.b b.gone]⟩)],[3,2,999]⟩)
  (True ∧ True ∧ True ∧ True)
  ⟨tt,tt,tt,tt⟩ ?_
 refine W.seq ?_
 refine Kk cok tab50 hnt [] [2,3,9] (⟨[(2,.ptr 2 0),(3,.ptr 3 0),(9,.b (decide (a.proc ≠ b.proc)))],[(2,⟨50,.fix [.i a.value,.i a.proc,.i a.number,.b a.gone]⟩),(3,⟨50,.fix [.i b.value,.i b.proc,.i b.number,.b b.gone]⟩)],[3,2,999]⟩)
  (True ∧ True ∧ True ∧ True ∧ (True ∧ True ∧ True) ∧ True)
  ⟨tt,tt,tt,tt,⟨tt,tt,tt⟩,tt⟩ ?_
 refine W.ifP (a.proc ≠ b.proc) (.b (decide (a.proc ≠ b.proc))) (by kernel_rfl) rfl trivial ?_ ?_
 ·intro h9
  refine Kk cok tab50 hnt [] [4] (⟨[(4,.b (decide (a.proc < b.proc)))],[(2,⟨50,.fix [.i a.value,.i a.proc,.i a.number,.b a.gone]⟩),(3,⟨50,.fix [.i b.value,.i b.proc,.i b.number,.b b.gone]⟩)],[3,2,999]⟩)
   (True ∧ True ∧ True ∧ True ∧ (True ∧ True ∧ True) ∧ True ∧ True)
   ⟨tt,tt,tt,tt,⟨tt,tt,tt⟩,tt,tt⟩ ?_
  refine W.ret (thenQ_ret ?_)
  exact endQ_ret (.b (decide (a.proc < b.proc))) (by kernel_rfl) (@cast ((.bool (decide (a.proc < b.proc)) : Value) = .bool (lessM a b)) _ (by kernel_rfl) (congrArg Value.bool (by unfold lessM; rw [decide_eq_true h9]; rfl)))
 ·intro n9
  refine W.skip (thenQ_normal ?_)
  refine Kk cok tab50 hnt [] [4] (⟨[(4,.b (decide (a.number < b.number)))],[(2,⟨50,.fix [.i a.value,.i a.proc,.i a.number,.b a.gone]⟩),(3,⟨50,.fix [.i b.value,.i b.proc,.i b.number,.b b.gone]⟩)],[3,2,999]⟩)
   (True ∧ True ∧ True ∧ True ∧ (True ∧ True ∧ True) ∧ True ∧ True)
   ⟨tt,tt,tt,tt,⟨tt,tt,tt⟩,tt,tt⟩ ?_
  refine W.ret ?_
  exact endQ_ret (.b (decide (a.number < b.number))) (by kernel_rfl) (@cast ((.bool (decide (a.number < b.number)) : Value) = .bool (lessM a b)) _ (by kernel_rfl) (congrArg Value.bool (by unfold lessM; rw [decide_eq_false n9]; rfl)))
theorem ent50 : Entr prog 50 := ⟨_,func50,rfl,by decide⟩
end Go.Proofs.Try

set_option linter.unusedSimpArgs false
set_option linter.unusedVariables false
namespace Go.Proofs.Try
open Go.Ab Go.RowKit
def fs34 : FnS := fnS [.a [some .ints,some .ints,none,none,none,some .marks]] [.copy] (fun _ (c,_) => (.b (validCopy c),[],True))
abbrev T34 : Tab := lk [(43,fs43),(50,fs50)]
theorem tab34 : TabOK prog T34 := (TabOK.cons ok43 ent43 (TabOK.cons ok50 ent50 TabOK.nil))
set_option maxRecDepth 100000 in
set_option maxHeartbeats 1000000 in
theorem ok34 : FnOK prog 34 fs34 := by
 refine FnOK.mk cok func34 rfl rfl rfl ?_
 rintro fl ⟨(c : CopyD),_⟩ hpre F hnt0 _
 have hnt : F.nt = 116 := hnt0.trans ntmps34
 clear hpre
 refine W.to (⟨[(0,.agg (cC c))],[],[999]⟩) rfl ?_
 refine W.lenA 0 0 (cC c) (.ints c.up) (by kernel_rfl) (by kernel_rfl) ?_
 intro hl_c_up; replace hl_c_up : List.length c.up ≤ 9223372036854775807 := hl_c_up
 refine W.lenA 0 1 (cC c) (.ints c.down) (by kernel_rfl) (by kernel_rfl) ?_
 intro hl_c_down; replace hl_c_down : List.length c.down ≤ 9223372036854775807 := hl_c_down
 refine W.lenA 0 5 (cC c) (.marks c.marks) (by kernel_rfl) (by kernel_rfl) ?_
 intro hl_c_marks; replace hl_c_marks : List.length c.marks ≤ 9223372036854775807 := hl_c_marks
 refine Kk cok tab34 hnt [] [1] (⟨[(1,.ptr 1 0)],[(1,⟨29,.fix (cC c)⟩)],[1,999]⟩)
  (True ∧ True ∧ True)
  ⟨tt,tt,tt⟩ ?_
 refine W.seq ?_
 refine Kk cok tab34 hnt [] [1,48] (⟨[(1,.ptr 1 0),(48,.b ((((((decide ((((List.length c.up) : Nat) : Int) ≠ (3 : Int))) || (decide ((((List.length c.down) : Nat) : Int) ≠ (3 : Int)))) || (!(within c.value (0 : Int) (3 : Int)))) || (!(within c.time (0 : Int) (30 : Int)))) || (!(within c.proc (0 : Int) (2 : Int)))) || ((decide (c.time = (0 : Int))) && ((decide (c.value ≠ (0 : Int))) || (decide (c.proc ≠ (0 : Int)))))))],[(1,⟨29,.fix (cC c)⟩)],[1,999]⟩)
  ((fun (Z1:Bool)=>((fun (Z2:Bool)=>((fun (Z3:Bool)=>((fun (Z4:Bool)=>((fun (Z5:Bool)=>((fun (Z6:Bool)=>((fun (Z7:Bool)=>((fun (Z8:Bool)=>((fun (Z9:Bool)=>((fun (Z10:Bool)=>(True ∧ (True ∧ (True ∧ ((True ∧ (True ∧ True)) ∧ (True ∧ (((!Z3) = true → True) ∧ (((!Z3) = true → (((!Z3) = true) ∧ True)) ∧ (((!Z3) = true → (((!Z3) = true) ∧ True)) ∧ (((!Z3) = true → ((((!Z3) = true) ∧ True) ∧ (True ∧ True))) ∧ ((True ∧ ((Z3 = true → True) ∧ (Z3 = false → ((!Z3) = true) ∧ True))) ∧ (True ∧ (((!Z4) = true → True) ∧ (((!Z4) = true → (((!Z4) = true) ∧ True)) ∧ (((!Z4) = true → (True ∧ (((((!Z4) = true) ∧ True) ∧ (True ∧ (True ∧ True))) ∧ True))) ∧ (((!Z4) = true → (((!Z4) = true) ∧ True)) ∧ ((True ∧ ((Z4 = true → True) ∧ (Z4 = false → ((!Z4) = true) ∧ True))) ∧ (True ∧ (((!Z5) = true → True) ∧ (((!Z5) = true → (((!Z5) = true) ∧ True)) ∧ (((!Z5) = true → (True ∧ (((((!Z5) = true) ∧ True) ∧ (True ∧ (True ∧ True))) ∧ True))) ∧ (((!Z5) = true → (((!Z5) = true) ∧ True)) ∧ ((True ∧ ((Z5 = true → True) ∧ (Z5 = false → ((!Z5) = true) ∧ True))) ∧ (True ∧ (((!Z6) = true → True) ∧ (((!Z6) = true → (((!Z6) = true) ∧ True)) ∧ (((!Z6) = true → (True ∧ (((((!Z6) = true) ∧ True) ∧ (True ∧ (True ∧ True))) ∧ True))) ∧ (((!Z6) = true → (((!Z6) = true) ∧ True)) ∧ ((True ∧ ((Z6 = true → True) ∧ (Z6 = false → ((!Z6) = true) ∧ True))) ∧ (True ∧ ((Z8 = true → True) ∧ ((Z8 = true → ((Z8 = true) ∧ True)) ∧ ((Z8 = true → (((Z8 = true) ∧ True) ∧ (True ∧ True))) ∧ ((Z8 = true → True) ∧ ((Z9 = true → True) ∧ ((Z9 = true → ((Z9 = true) ∧ True)) ∧ ((Z9 = true → (((Z9 = true) ∧ True) ∧ (True ∧ True))) ∧ ((Z9 = true → True) ∧ ((Z10 = true → True) ∧ ((Z10 = true → ((Z10 = true) ∧ True)) ∧ ((Z10 = true → (((Z10 = true) ∧ True) ∧ (True ∧ True))) ∧ ((Z9 = true → (((Z9 = true) ∧ ((Z9 = true) ∧ True)) ∧ ((Z2 = true → True) ∧ (Z2 = false → (Z10 = true) ∧ True)))) ∧ ((Z8 = true → (((Z8 = true) ∧ ((Z8 = true) ∧ True)) ∧ ((Z1 = true → (Z9 = true) ∧ True) ∧ (Z1 = false → True)))) ∧ ((True ∧ ((Z7 = true → True) ∧ (Z7 = false → (Z8 = true) ∧ True))) ∧ True)))))))))))))))))))))))))))))))))))))))))))) (Z9 && (Z9 && (!Z2))))) (Z8 && (Z8 && Z1)))) (!Z7))) (Z6 || (!(within c.proc (0 : Int) (2 : Int)))))) (Z5 || (!(within c.time (0 : Int) (30 : Int)))))) (Z4 || (!(within c.value (0 : Int) (3 : Int)))))) (Z3 || (decide ((((List.length c.down) : Nat) : Int) ≠ (3 : Int)))))) (decide ((((List.length c.up) : Nat) : Int) ≠ (3 : Int))))) (decide (c.value ≠ (0 : Int))))) (decide (c.time = (0 : Int))))
  ⟨tt,tt,tt,⟨tt,tt,tt⟩,tt,(fun _ => trivial),(fun hG => ⟨hG,tt⟩),(fun hG => ⟨hG,tt⟩),(fun hG => ⟨⟨hG,tt⟩,tt,tt⟩),⟨tt,(fun _ => trivial),(fun hp => ⟨(not_t hp),tt⟩)⟩,tt,(fun _ => trivial),(fun hG => ⟨hG,tt⟩),(fun hG => ⟨tt,⟨⟨hG,tt⟩,tt,tt,tt⟩,tt⟩),(fun hG => ⟨hG,tt⟩),⟨tt,(fun _ => trivial),(fun hp => ⟨(not_t hp),tt⟩)⟩,tt,(fun _ => trivial),(fun hG => ⟨hG,tt⟩),(fun hG => ⟨tt,⟨⟨hG,tt⟩,tt,tt,tt⟩,tt⟩),(fun hG => ⟨hG,tt⟩),⟨tt,(fun _ => trivial),(fun hp => ⟨(not_t hp),tt⟩)⟩,tt,(fun _ => trivial),(fun hG => ⟨hG,tt⟩),(fun hG => ⟨tt,⟨⟨hG,tt⟩,tt,tt,tt⟩,tt⟩),(fun hG => ⟨hG,tt⟩),⟨tt,(fun _ => trivial),(fun hp => ⟨(not_t hp),tt⟩)⟩,tt,(fun _ => trivial),(fun hG => ⟨hG,tt⟩),(fun hG => ⟨⟨hG,tt⟩,tt,tt⟩),(fun _ => trivial),(fun _ => trivial),(fun hG => ⟨hG,tt⟩),(fun hG => ⟨⟨hG,tt⟩,tt,tt⟩),(fun _ => trivial),(fun _ => trivial),(fun hG => ⟨hG,tt⟩),(fun hG => ⟨⟨hG,tt⟩,tt,tt⟩),(fun hG => ⟨⟨hG,hG,tt⟩,(fun _ => trivial),(fun hp => ⟨(and_t hG (and_t hG (not_t hp))),tt⟩)⟩),(fun hG => ⟨⟨hG,hG,tt⟩,(fun hp => ⟨(and_t hG (and_t hG hp)),tt⟩),(fun _ => trivial)⟩),⟨tt,(fun _ => trivial),(fun hp => ⟨(not_t hp),tt⟩)⟩,tt⟩ ?_
 refine W.if' ((((((decide ((((List.length c.up) : Nat) : Int) ≠ (3 : Int))) || (decide ((((List.length c.down) : Nat) : Int) ≠ (3 : Int)))) || (!(within c.value (0 : Int) (3 : Int)))) || (!(within c.time (0 : Int) (30 : Int)))) || (!(within c.proc (0 : Int) (2 : Int)))) || ((decide (c.time = (0 : Int))) && ((decide (c.value ≠ (0 : Int))) || (decide (c.proc ≠ (0 : Int)))))) (.b ((((((decide ((((List.length c.up) : Nat) : Int) ≠ (3 : Int))) || (decide ((((List.length c.down) : Nat) : Int) ≠ (3 : Int)))) || (!(within c.value (0 : Int) (3 : Int)))) || (!(within c.time (0 : Int) (30 : Int)))) || (!(within c.proc (0 : Int) (2 : Int)))) || ((decide (c.time = (0 : Int))) && ((decide (c.value ≠ (0 : Int))) || (decide (c.proc ≠ (0 : Int))))))) (by kernel_rfl) rfl trivial ?_ ?_
 ·intro h48
  refine Kk cok tab34 hnt [] [2] (⟨[(2,.b false)],[(1,⟨29,.fix (cC c)⟩)],[1,999]⟩)
   (True ∧ True)
   ⟨tt,tt⟩ ?_
  refine W.ret (thenQ_ret ?_)
  exact endQ_ret (.b false) (by kernel_rfl) (@cast ((.bool false : Value) = .bool (validCopy c)) _ (by kernel_rfl) (congrArg Value.bool (by exact (valid_spec1 h48).symm)))
 ·intro n48
  have n48_0 : ¬ ((((List.length c.up) : Nat) : Int) ≠ (3 : Int)) := of_decide_eq_false (or_l (or_l (or_l (or_l (or_l n48)))))
  have n48_1 : ¬ ((((List.length c.down) : Nat) : Int) ≠ (3 : Int)) := of_decide_eq_false (or_r (or_l (or_l (or_l (or_l n48)))))
  refine W.skip (thenQ_normal ?_)
  refine W.seq ?_
  refine Kk cok tab34 hnt [] [1,3] (⟨[(1,.ptr 1 0),(3,.i (0 : Int))],[(1,⟨29,.fix (cC c)⟩)],[1,999]⟩)
   (True ∧ True)
   ⟨tt,tt⟩ ?_
  refine W.block ?_
  refine W.loop (ι := Nat) (fun (k : Nat) => (⟨[(1,.ptr 1 0),(3,.i ((k : Nat) : Int))],[(1,⟨29,.fix (cC c)⟩)],[1,999]⟩ : St))
   (fun (k : Nat) => (k ≤ 3) ∧ (∀ j,j < k → within (c.up.getD j 0) 0 20 = true) ∧ (∀ j,j < k → within (c.down.getD j 0) 0 20 = true))
   (fun (k : Nat) => (3 - k : Nat)) (0) ?_ ?_ ?_
  ·exact (show (0 ≤ 3) ∧ (∀ j,j < 0 → within (c.up.getD j 0) 0 20 = true) ∧ (∀ j,j < 0 → within (c.down.getD j 0) 0 20 = true) from ⟨(by first | assumption | omega | rfl | (intro _ hjj; omega) | (simp; done) | (simp; omega)),(by exact upto_zero),(by exact upto_zero)⟩)
  ·exact Sub.of [] (@cast (((((1 : Nat) = 1) ∧ ((0 : Nat) = 0) ∧ ((1 : Nat) ∈ ([1,999] : List Nat))) ∧ ((.int .i64 (0 : Int) : Value) = .int .i64 ((0 : Nat) : Int)) ∧ True) ∧ ((((29 : Nat) = 29) ∧ (Sc c) ∧ ((1 : Nat) ∈ ([1,999] : List Nat))) ∧ True) ∧ (true = true) ∧ (true = true)) _ (by kernel_rfl) ⟨⟨⟨rfl,rfl,(by decide)⟩,(congrArg (Value.int .i64) (by first | rfl | omega | assumption | simp | simp_all)),tt⟩,⟨⟨rfl,⟨rfl,rfl,rfl,rfl,rfl,rfl,tt⟩,(by decide)⟩,tt⟩,rfl,rfl⟩)
  ·rintro k hC0
   have hC : (k ≤ 3) ∧ (∀ j,j < k → within (c.up.getD j 0) 0 20 = true) ∧ (∀ j,j < k → within (c.down.getD j 0) 0 20 = true) := hC0
   clear hC0
   obtain ⟨hk,hU,hD⟩ := hC
   refine W.to (⟨[(1,.ptr 1 0),(3,.i ((k : Nat) : Int))],[(1,⟨29,.fix (cC c)⟩)],[1,999]⟩) rfl ?_
   have hs := valid_spec2 n48
   refine W.seq ?_
   refine Kk cok tab34 hnt [] [1,3,50] (⟨[(1,.ptr 1 0),(3,.i ((k : Nat) : Int)),(50,.b (decide (((k : Nat) : Int) < (3 : Int))))],[(1,⟨29,.fix (cC c)⟩)],[1,999]⟩)
    (True ∧ (True ∧ True ∧ True) ∧ True)
    ⟨tt,⟨tt,tt,tt⟩,tt⟩ ?_
   refine W.ifP (((k : Nat) : Int) < (3 : Int)) (.b (decide (((k : Nat) : Int) < (3 : Int)))) (by kernel_rfl) rfl trivial ?_ ?_
   ·intro h50
    refine W.skip (thenQ_normal ?_)
    refine W.seq ?_
    refine W.block ?_
    refine Kk cok tab34 hnt [] [1,3,68] (⟨[(1,.ptr 1 0),(3,.i ((k : Nat) : Int)),(68,.b ((!(within (List.getD c.up k 0) (0 : Int) (20 : Int))) || (!(within (List.getD c.down k 0) (0 : Int) (20 : Int)))))],[(1,⟨29,.fix (cC c)⟩)],[1,999]⟩)
     ((fun (Z1:Bool)=>(True ∧ (True ∧ (True ∧ ((True ∧ (True ∧ ((0 ≤ ((k : Nat) : Int)) ∧ (((k : Nat) : Int) < (((List.length c.up) : Nat) : Int))))) ∧ (True ∧ ((True ∧ ((True ∧ (True ∧ (True ∧ True))) ∧ True)) ∧ (True ∧ (True ∧ (((!Z1) = true → True) ∧ (((!Z1) = true → (((!Z1) = true) ∧ True)) ∧ (((!Z1) = true → True) ∧ (((!Z1) = true → ((((!Z1) = true) ∧ True) ∧ ((((!Z1) = true) ∧ True) ∧ ((0 ≤ ((k : Nat) : Int)) ∧ (((k : Nat) : Int) < (((List.length c.down) : Nat) : Int)))))) ∧ (((!Z1) = true → (((!Z1) = true) ∧ True)) ∧ (((!Z1) = true → (True ∧ (((((!Z1) = true) ∧ True) ∧ (True ∧ (True ∧ True))) ∧ True))) ∧ (((!Z1) = true → (((!Z1) = true) ∧ True)) ∧ ((True ∧ ((Z1 = true → True) ∧ (Z1 = false → ((!Z1) = true) ∧ True))) ∧ True))))))))))))))))) (!(within (List.getD c.up k 0) (0 : Int) (20 : Int))))
     ⟨tt,tt,tt,⟨tt,tt,(by omega),(by omega)⟩,tt,⟨tt,⟨tt,tt,tt,tt⟩,tt⟩,tt,tt,(fun _ => trivial),(fun hG => ⟨hG,tt⟩),(fun _ => trivial),(fun hG => ⟨⟨hG,tt⟩,⟨hG,tt⟩,(by omega),(by omega)⟩),(fun hG => ⟨hG,tt⟩),(fun hG => ⟨tt,⟨⟨hG,tt⟩,tt,tt,tt⟩,tt⟩),(fun hG => ⟨hG,tt⟩),⟨tt,(fun _ => trivial),(fun hp => ⟨(not_t hp),tt⟩)⟩,tt⟩ ?_
    refine W.if' ((!(within (List.getD c.up k 0) (0 : Int) (20 : Int))) || (!(within (List.getD c.down k 0) (0 : Int) (20 : Int)))) (.b ((!(within (List.getD c.up k 0) (0 : Int) (20 : Int))) || (!(within (List.getD c.down k 0) (0 : Int) (20 : Int))))) (by kernel_rfl) rfl trivial ?_ ?_
    ·intro h68
     refine Kk cok tab34 hnt [] [2] (⟨[(2,.b false)],[(1,⟨29,.fix (cC c)⟩)],[1,999]⟩)
      (True ∧ True)
      ⟨tt,tt⟩ ?_
     refine W.ret (blockQ_ret (thenQ_ret (thenQ_ret (blockQ_ret (thenQ_ret ?_)))))
     exact endQ_ret (.b false) (by kernel_rfl) (@cast ((.bool false : Value) = .bool (validCopy c)) _ (by kernel_rfl) (congrArg Value.bool (by exact (counts_bad hs.1 hs.2.1 (by omega) h68).symm)))
    ·intro n68
     refine W.skip (blockQ_normal (thenQ_normal ?_))
     refine Lk cok tab34 hnt [] (⟨[(1,.ptr 1 0),(3,.i (((k + 1) : Nat) : Int)),(51,.i ((k : Nat) : Int)),(52,.i (((k + 1) : Nat) : Int)),(68,.b ((!(within (List.getD c.up k 0) (0 : Int) (20 : Int))) || (!(within (List.getD c.down k 0) (0 : Int) (20 : Int)))))],[(1,⟨29,.fix (cC c)⟩)],[1,999]⟩)
      (True ∧ (True ∧ True ∧ (Fits .i64 (((k + 1) : Nat) : Int))) ∧ True ∧ True)
      ⟨tt,⟨tt,tt,(by exact fits_i64 (by omega) (by omega))⟩,tt,tt⟩ ?_
     refine thenQ_normal ?_
     refine ⟨((k + 1)),(show ((k + 1) ≤ 3) ∧ (∀ j,j < (k + 1) → within (c.up.getD j 0) 0 20 = true) ∧ (∀ j,j < (k + 1) → within (c.down.getD j 0) 0 20 = true) from ⟨(by first | assumption | omega | rfl | (intro _ hjj; omega) | (simp; done) | (simp; omega)),(by exact upto_succ hU (within_bad n68).1),(by exact upto_succ hD (within_bad n68).2)⟩),(show 3 - (k + 1) < 3 - k from (by first | omega | (simp_all; omega))),?_⟩
     exact Sub.of [] (@cast (((((1 : Nat) = 1) ∧ ((0 : Nat) = 0) ∧ ((1 : Nat) ∈ ([1,999] : List Nat))) ∧ (Si (((k + 1) : Nat) : Int)) ∧ True) ∧ ((((29 : Nat) = 29) ∧ (Sc c) ∧ ((1 : Nat) ∈ ([1,999] : List Nat))) ∧ True) ∧ (true = true) ∧ (true = true)) _ (by kernel_rfl) ⟨⟨⟨rfl,rfl,(by decide)⟩,rfl,tt⟩,⟨⟨rfl,⟨rfl,rfl,rfl,rfl,rfl,rfl,tt⟩,(by decide)⟩,tt⟩,rfl,rfl⟩)
   ·intro n50
    refine W.exit (thenQ_exit (thenQ_exit (blockQ_hit ?_)))
    refine thenQ_normal ?_
    refine W.seq ?_
    refine Kk cok tab34 hnt [] [1,4] (⟨[(1,.ptr 1 0),(4,.i (0 : Int))],[(1,⟨29,.fix (cC c)⟩)],[1,999]⟩)
     (True ∧ True)
     ⟨tt,tt⟩ ?_
    refine W.block ?_
    refine W.loop (ι := Nat) (fun (i : Nat) => (⟨[(1,.ptr 1 0),(4,.i ((i : Nat) : Int))],[(1,⟨29,.fix (cC c)⟩)],[1,999]⟩ : St))
     (fun (i : Nat) => (i ≤ c.marks.length) ∧ (∀ j,j < i → markOK c.marks j = true))
     (fun (i : Nat) => (c.marks.length - i : Nat)) (0) ?_ ?_ ?_
    ·exact (show (0 ≤ c.marks.length) ∧ (∀ j,j < 0 → markOK c.marks j = true) from ⟨(by first | assumption | omega | rfl | (intro _ hjj; omega) | (simp; done) | (simp; omega)),(by exact upto_zero)⟩)
    ·exact Sub.of [] (@cast (((((1 : Nat) = 1) ∧ ((0 : Nat) = 0) ∧ ((1 : Nat) ∈ ([1,999] : List Nat))) ∧ ((.int .i64 (0 : Int) : Value) = .int .i64 ((0 : Nat) : Int)) ∧ True) ∧ ((((29 : Nat) = 29) ∧ (Sc c) ∧ ((1 : Nat) ∈ ([1,999] : List Nat))) ∧ True) ∧ (true = true) ∧ (true = true)) _ (by kernel_rfl) ⟨⟨⟨rfl,rfl,(by decide)⟩,(congrArg (Value.int .i64) (by first | rfl | omega | assumption | simp | simp_all)),tt⟩,⟨⟨rfl,⟨rfl,rfl,rfl,rfl,rfl,rfl,tt⟩,(by decide)⟩,tt⟩,rfl,rfl⟩)
    ·rintro i hC0
     have hC : (i ≤ c.marks.length) ∧ (∀ j,j < i → markOK c.marks j = true) := hC0
     clear hC0
     obtain ⟨hi,hA⟩ := hC
     refine W.to (⟨[(1,.ptr 1 0),(4,.i ((i : Nat) : Int))],[(1,⟨29,.fix (cC c)⟩)],[1,999]⟩) rfl ?_
     refine W.seq ?_
     refine Kk cok tab34 hnt [] [1,4,73] (⟨[(1,.ptr 1 0),(4,.i ((i : Nat) : Int)),(73,.b (decide (((i : Nat) : Int) < (((List.length c.marks) : Nat) : Int))))],[(1,⟨29,.fix (cC c)⟩)],[1,999]⟩)
      (True ∧ True ∧ True ∧ True ∧ (True ∧ True ∧ True) ∧ True)
      ⟨tt,tt,tt,tt,⟨tt,tt,tt⟩,tt⟩ ?_
     refine W.ifP (((i : Nat) : Int) < (((List.length c.marks) : Nat) : Int)) (.b (decide (((i : Nat) : Int) < (((List.length c.marks) : Nat) : Int)))) (by kernel_rfl) rfl trivial ?_ ?_
     ·intro h73
      refine W.skip (thenQ_normal ?_)
      refine W.seq ?_
      refine W.block ?_
      refine Kk cok tab34 hnt [] [1,4,5] (⟨[(1,.ptr 1 0),(4,.i ((i : Nat) : Int)),(5,.ptr 5 0)],[(1,⟨29,.fix (cC c)⟩),(5,⟨50,.fix [.i ((List.getD c.marks i default).value),.i ((List.getD c.marks i default).proc),.i ((List.getD c.marks i default).number),.b ((List.getD c.marks i default).gone)]⟩)],[5,1,999]⟩)
       (True ∧ True ∧ True ∧ (True ∧ True ∧ (0 ≤ ((i : Nat) : Int)) ∧ (((i : Nat) : Int) < (((List.length c.marks) : Nat) : Int))) ∧ True ∧ True ∧ (True ∧ True) ∧ True)
       ⟨tt,tt,tt,⟨tt,tt,(by omega),(by omega)⟩,tt,tt,⟨tt,tt⟩,tt⟩ ?_
      refine W.KA cok tab34 hnt [] [1,4,111] (⟨[(1,.ptr 1 0),(4,.i ((i : Nat) : Int)),(111,.b ((((!(within ((List.getD c.marks i default).value) (0 : Int) (3 : Int))) || (!(within ((List.getD c.marks i default).proc) (0 : Int) (2 : Int)))) || (!(within ((List.getD c.marks i default).number) (1 : Int) (20 : Int)))) || ((decide ((0 : Int) < ((i : Nat) : Int))) && (!(lessM (List.getD c.marks (Int.toNat (((i : Nat) : Int) - (1 : Int))) default) (List.getD c.marks i default))))))],[(1,⟨29,.fix (cC c)⟩),(5,⟨50,.fix [.i ((List.getD c.marks i default).value),.i ((List.getD c.marks i default).proc),.i ((List.getD c.marks i default).number),.b ((List.getD c.marks i default).gone)]⟩)],[5,1,999]⟩)
       ((fun (Z1:Bool)=>((fun (Z2:Bool)=>((fun (Z3:Bool)=>((fun (Z4:Bool)=>((fun (Z5:Bool)=>((fun (Z6:Bool)=>(True ∧ (True ∧ ((True ∧ ((True ∧ (True ∧ (True ∧ True))) ∧ True)) ∧ (True ∧ (True ∧ (((!Z2) = true → True) ∧ (((!Z2) = true → (((!Z2) = true) ∧ True)) ∧ (((!Z2) = true → (True ∧ (((((!Z2) = true) ∧ True) ∧ (True ∧ (True ∧ True))) ∧ True))) ∧ (((!Z2) = true → (((!Z2) = true) ∧ True)) ∧ ((True ∧ ((Z2 = true → True) ∧ (Z2 = false → ((!Z2) = true) ∧ True))) ∧ (True ∧ (((!Z3) = true → True) ∧ (((!Z3) = true → (((!Z3) = true) ∧ True)) ∧ (((!Z3) = true → (True ∧ (((((!Z3) = true) ∧ True) ∧ (True ∧ (True ∧ True))) ∧ True))) ∧ (((!Z3) = true → (((!Z3) = true) ∧ True)) ∧ ((True ∧ ((Z3 = true → True) ∧ (Z3 = false → ((!Z3) = true) ∧ True))) ∧ (True ∧ ((Z5 = true → True) ∧ ((Z5 = true → (((Z5 = true) ∧ True) ∧ (True ∧ True))) ∧ ((Z5 = true → True) ∧ ((Z6 = true → True) ∧ ((Z6 = true → ((Z6 = true) ∧ True)) ∧ ((Z6 = true → True) ∧ ((Z6 = true → (((Z6 = true) ∧ True) ∧ (True ∧ (Fits .i64 (((i : Nat) : Int) - (1 : Int)))))) ∧ ((Z6 = true → (((Z6 = true) ∧ True) ∧ (((Z6 = true) ∧ True) ∧ ((0 ≤ (((i : Nat) : Int) - (1 : Int))) ∧ ((((i : Nat) : Int) - (1 : Int)) < (((List.length c.marks) : Nat) : Int)))))) ∧ ((Z6 = true → ((Z6 = true) ∧ True)) ∧ ((Z6 = true → True) ∧ ((Z6 = true → (True ∧ ((((Z6 = true) ∧ True) ∧ (((Z6 = true) ∧ True) ∧ True)) ∧ True))) ∧ ((Z6 = true → ((Z6 = true) ∧ True)) ∧ ((Z5 = true → (((Z5 = true) ∧ ((Z5 = true) ∧ True)) ∧ ((Z1 = true → (Z6 = true) ∧ True) ∧ (Z1 = false → True)))) ∧ ((True ∧ ((Z4 = true → True) ∧ (Z4 = false → (Z5 = true) ∧ True))) ∧ True)))))))))))))))))))))))))))))))) (Z5 && (Z5 && Z1)))) (!Z4))) (Z3 || (!(within ((List.getD c.marks i default).number) (1 : Int) (20 : Int)))))) (Z2 || (!(within ((List.getD c.marks i default).proc) (0 : Int) (2 : Int)))))) (!(within ((List.getD c.marks i default).value) (0 : Int) (3 : Int))))) (decide ((0 : Int) < ((i : Nat) : Int)))) (by kernel_rfl) (by kernel_rfl)
       ⟨tt,tt,⟨tt,⟨tt,tt,tt,tt⟩,tt⟩,tt,tt,(fun _ => trivial),(fun hG => ⟨hG,tt⟩),(fun hG => ⟨tt,⟨⟨hG,tt⟩,tt,tt,tt⟩,tt⟩),(fun hG => ⟨hG,tt⟩),⟨tt,(fun _ => trivial),(fun hp => ⟨(not_t hp),tt⟩)⟩,tt,(fun _ => trivial),(fun hG => ⟨hG,tt⟩),(fun hG => ⟨tt,⟨⟨hG,tt⟩,tt,tt,tt⟩,tt⟩),(fun hG => ⟨hG,tt⟩),⟨tt,(fun _ => trivial),(fun hp => ⟨(not_t hp),tt⟩)⟩,tt,(fun _ => trivial),(fun hG => ⟨⟨hG,tt⟩,tt,tt⟩),(fun _ => trivial),(fun _ => trivial),(fun hG => ⟨hG,tt⟩),(fun _ => trivial),(fun hG => ⟨⟨hG,tt⟩,tt,(by have hg0 : (0 : Int) < ((i : Nat) : Int) := of_decide_eq_true (and_r (and_r hG)); exact fits_i64 (by omega) (by omega))⟩),(fun hG => ⟨⟨hG,tt⟩,⟨hG,tt⟩,(by have hg0 : (0 : Int) < ((i : Nat) : Int) := of_decide_eq_true (and_r (and_r hG)); omega),(by have hg0 : (0 : Int) < ((i : Nat) : Int) := of_decide_eq_true (and_r (and_r hG)); omega)⟩),(fun hG => ⟨hG,tt⟩),(fun _ => trivial),(fun hG => ⟨tt,⟨⟨hG,tt⟩,⟨hG,tt⟩,tt⟩,tt⟩),(fun hG => ⟨hG,tt⟩),(fun hG => ⟨⟨hG,hG,tt⟩,(fun hp => ⟨(and_t hG (and_t hG hp)),tt⟩),(fun _ => trivial)⟩),⟨tt,(fun _ => trivial),(fun hp => ⟨(not_t hp),tt⟩)⟩,tt⟩ ?_
      refine W.if' ((((!(within ((List.getD c.marks i default).value) (0 : Int) (3 : Int))) || (!(within ((List.getD c.marks i default).proc) (0 : Int) (2 : Int)))) || (!(within ((List.getD c.marks i default).number) (1 : Int) (20 : Int)))) || ((decide ((0 : Int) < ((i : Nat) : Int))) && (!(lessM (List.getD c.marks (Int.toNat (((i : Nat) : Int) - (1 : Int))) default) (List.getD c.marks i default))))) (.b ((((!(within ((List.getD c.marks i default).value) (0 : Int) (3 : Int))) || (!(within ((List.getD c.marks i default).proc) (0 : Int) (2 : Int)))) || (!(within ((List.getD c.marks i default).number) (1 : Int) (20 : Int)))) || ((decide ((0 : Int) < ((i : Nat) : Int))) && (!(lessM (List.getD c.marks (Int.toNat (((i : Nat) : Int) - (1 : Int))) default) (List.getD c.marks i default)))))) (by kernel_rfl) rfl trivial ?_ ?_
      ·intro h111
       refine Kk cok tab34 hnt [] [2] (⟨[(2,.b false)],[(1,⟨29,.fix (cC c)⟩),(5,⟨50,.fix [.i ((List.getD c.marks i default).value),.i ((List.getD c.marks i default).proc),.i ((List.getD c.marks i default).number),.b ((List.getD c.marks i default).gone)]⟩)],[5,1,999]⟩)
        (True ∧ True)
        ⟨tt,tt⟩ ?_
       refine W.ret (blockQ_ret (thenQ_ret (thenQ_ret (blockQ_ret (thenQ_ret ?_)))))
       exact endQ_ret (.b false) (by kernel_rfl) (@cast ((.bool false : Value) = .bool (validCopy c)) _ (by kernel_rfl) (congrArg Value.bool (by rw [show ((i : Int) - 1).toNat = i - 1 by omega] at h111; exact (valid_marks (mark_bad (i := i) (by omega) (markS_no h111))).symm)))
      ·intro n111
       refine W.skip (blockQ_normal (thenQ_normal ?_))
       refine Lk cok tab34 hnt [] (⟨[(1,.ptr 1 0),(4,.i (((i + 1) : Nat) : Int)),(74,.i ((i : Nat) : Int)),(75,.i (((i + 1) : Nat) : Int)),(111,.b ((((!(within ((List.getD c.marks i default).value) (0 : Int) (3 : Int))) || (!(within ((List.getD c.marks i default).proc) (0 : Int) (2 : Int)))) || (!(within ((List.getD c.marks i default).number) (1 : Int) (20 : Int)))) || ((decide ((0 : Int) < ((i : Nat) : Int))) && (!(lessM (List.getD c.marks (Int.toNat (((i : Nat) : Int) - (1 : Int))) default) (List.getD c.marks i default))))))],[(1,⟨29,.fix (cC c)⟩),(5,⟨50,.fix [.i ((List.getD c.marks i default).value),.i ((List.getD c.marks i default).proc),.i ((List.getD c.marks i default).number),.b ((List.getD c.marks i default).gone)]⟩)],[5,1,999]⟩)
        (True ∧ (True ∧ True ∧ (Fits .i64 (((i + 1) : Nat) : Int))) ∧ True ∧ True)
        ⟨tt,⟨tt,tt,(by exact fits_i64 (by omega) (by omega))⟩,tt,tt⟩ ?_
       refine thenQ_normal ?_
       refine ⟨((i + 1)),(show ((i + 1) ≤ c.marks.length) ∧ (∀ j,j < (i + 1) → markOK c.marks j = true) from ⟨(by first | assumption | omega | rfl | (intro _ hjj; omega) | (simp; done) | (simp; omega)),(by rw [show ((i : Int) - 1).toNat = i - 1 by omega] at n111; exact upto_succ hA (markS_ok n111))⟩),(show c.marks.length - (i + 1) < c.marks.length - i from (by first | omega | (simp_all; omega))),?_⟩
       exact Sub.of [] (@cast (((((1 : Nat) = 1) ∧ ((0 : Nat) = 0) ∧ ((1 : Nat) ∈ ([1,999] : List Nat))) ∧ (Si (((i + 1) : Nat) : Int)) ∧ True) ∧ ((((29 : Nat) = 29) ∧ (Sc c) ∧ ((1 : Nat) ∈ ([1,999] : List Nat))) ∧ True) ∧ (true = true) ∧ (true = true)) _ (by kernel_rfl) ⟨⟨⟨rfl,rfl,(by decide)⟩,rfl,tt⟩,⟨⟨rfl,⟨rfl,rfl,rfl,rfl,rfl,rfl,tt⟩,(by decide)⟩,tt⟩,rfl,rfl⟩)
     ·intro n73
      refine W.exit (thenQ_exit (thenQ_exit (blockQ_hit ?_)))
      refine thenQ_normal ?_
      refine Kk cok tab34 hnt [] [2] (⟨[(2,.b (decide ((((List.length c.marks) : Nat) : Int) ≤ (20 : Int))))],[(1,⟨29,.fix (cC c)⟩)],[1,999]⟩)
       (True ∧ True ∧ True ∧ (True ∧ True ∧ True) ∧ True ∧ True)
       ⟨tt,tt,tt,⟨tt,tt,tt⟩,tt,tt⟩ ?_
      refine W.ret ?_
      exact endQ_ret (.b (decide ((((List.length c.marks) : Nat) : Int) ≤ (20 : Int)))) (by kernel_rfl) (@cast ((.bool (decide ((((List.length c.marks) : Nat) : Int) ≤ (20 : Int))) : Value) = .bool (validCopy c)) _ (by kernel_rfl) (congrArg Value.bool (by exact valid_spec (valid_spec2 n48).2.2 (counts_part (valid_spec2 n48).1 (fun j hj => hU j (by omega))) (counts_part (valid_spec2 n48).2.1 (fun j hj => hD j (by omega))) (allN_true (fun j hj => hA j (by omega))))))
theorem ent34 : Entr prog 34 := ⟨_,func34,rfl,by decide⟩
end Go.Proofs.Try

set_option linter.unusedSimpArgs false
set_option linter.unusedVariables false
namespace Go.Proofs.Try
open Go.Ab Go.RowKit
def fs35 : FnS := fnS [.a [some .ints,some .ints,none,none,none,some .marks]] [.copy] (fun _ (c,_) => (.agg [.own 0 (List.length c.up),.own 1 (List.length c.down),.i c.value,.i c.time,.i c.proc,.own 2 (List.length c.marks)],[(3,.ints c.up),(3,.ints c.down),(50,.marks c.marks)],(c.up.length ≤ 1000 ∧ c.down.length ≤ 1000 ∧ c.marks.length ≤ 1000)))
abbrev T35 : Tab := lk []
theorem tab35 : TabOK prog T35 := TabOK.nil
set_option maxRecDepth 100000 in
set_option maxHeartbeats 1000000 in
theorem ok35 : FnOK prog 35 fs35 := by
 refine FnOK.mk cok func35 rfl rfl rfl ?_
 rintro fl ⟨(c : CopyD),_⟩ hpre F hnt0 _
 have hnt : F.nt = 22 := hnt0.trans ntmps35
 replace hpre : (c.up.length ≤ 1000 ∧ c.down.length ≤ 1000 ∧ c.marks.length ≤ 1000) := hpre
 have hs := hpre
 refine W.to (⟨[(0,.agg (cC c))],[],[999]⟩) rfl ?_
 refine W.lenA 0 0 (cC c) (.ints c.up) (by kernel_rfl) (by kernel_rfl) ?_
 intro hl_c_up; replace hl_c_up : List.length c.up ≤ 9223372036854775807 := hl_c_up
 refine W.lenA 0 1 (cC c) (.ints c.down) (by kernel_rfl) (by kernel_rfl) ?_
 intro hl_c_down; replace hl_c_down : List.length c.down ≤ 9223372036854775807 := hl_c_down
 refine W.lenA 0 5 (cC c) (.marks c.marks) (by kernel_rfl) (by kernel_rfl) ?_
 intro hl_c_marks; replace hl_c_marks : List.length c.marks ≤ 9223372036854775807 := hl_c_marks
 refine Kk cok tab35 hnt [] [1,2] (⟨[(1,.ptr 1 0),(2,.ptr 2 0)],[(1,⟨29,.fix (cC c)⟩),(2,⟨29,.fix [.v (.slice none 0 0),.v (.slice none 0 0),.i (0 : Int),.i (0 : Int),.i (0 : Int),.v (.slice none 0 0)]⟩)],[2,1,999]⟩)
  (True ∧ True ∧ True)
  ⟨tt,tt,tt⟩ ?_
 refine W.KA cok tab35 hnt [3,6,7,10,17,20] [2] (⟨[(2,.ptr 2 0)],[(1,⟨29,.fix (cC c)⟩),(2,⟨29,.fix [.own 6 (List.length c.up),.own 10 (List.length c.down),.i c.value,.i c.time,.i c.proc,.own 20 (List.length c.marks)]⟩),(6,⟨3,.row (.ints c.up)⟩),(10,⟨3,.row (.ints c.down)⟩),(20,⟨50,.row (.marks c.marks)⟩)],[20,17,10,7,6,3,2,1,999]⟩)
  (True ∧ True ∧ True ∧ ((True ∧ ((List.length ([] : List Int)) = (List.length ([] : List Int)))) ∧ True ∧ (((List.length ([] : List Int)) + (List.length c.up)) * 8 ≤ 140737488355328)) ∧ True ∧ True ∧ True ∧ ((True ∧ ((List.length ([] : List Int)) = (List.length ([] : List Int)))) ∧ True ∧ (((List.length ([] : List Int)) + (List.length c.down)) * 8 ≤ 140737488355328)) ∧ True ∧ True ∧ True ∧ True ∧ True ∧ True ∧ True ∧ True ∧ True ∧ ((True ∧ ((List.length ([] : List MarkD)) = (List.length ([] : List MarkD)))) ∧ True ∧ (((List.length ([] : List MarkD)) + (List.length c.marks)) * 32 ≤ 140737488355328)) ∧ (True ∧ True ∧ True ∧ True ∧ True ∧ True ∧ True) ∧ (True ∧ True) ∧ True) (by kernel_rfl) (by kernel_rfl)
  ⟨tt,tt,tt,⟨⟨tt,rfl⟩,tt,(by (try simp only [List.length_append,List.length_cons,List.length_nil,List.length_set]); omega)⟩,tt,tt,tt,⟨⟨tt,rfl⟩,tt,(by (try simp only [List.length_append,List.length_cons,List.length_nil,List.length_set]); omega)⟩,tt,tt,tt,tt,tt,tt,tt,tt,tt,⟨⟨tt,rfl⟩,tt,(by (try simp only [List.length_append,List.length_cons,List.length_nil,List.length_set]); omega)⟩,⟨tt,tt,tt,tt,tt,tt,tt⟩,⟨tt,tt⟩,tt⟩ ?_
 refine W.ret ?_
 exact endQ_rows [(0,6),(1,10),(2,20)] (.agg [.own 6 (List.length c.up),.own 10 (List.length c.down),.i c.value,.i c.time,.i c.proc,.own 20 (List.length c.marks)]) (by kernel_rfl) (@cast ((((6 : Nat) = 6) ∧ ((List.length c.up) = (List.length c.up)) ∧ ((0 : Nat) ∈ ([0,1,2] : List Nat))) ∧ (((10 : Nat) = 10) ∧ ((List.length c.down) = (List.length c.down)) ∧ ((1 : Nat) ∈ ([0,1,2] : List Nat))) ∧ (Si c.value) ∧ (Si c.time) ∧ (Si c.proc) ∧ (((20 : Nat) = 20) ∧ ((List.length c.marks) = (List.length c.marks)) ∧ ((2 : Nat) ∈ ([0,1,2] : List Nat))) ∧ True) _ (by kernel_rfl) ⟨⟨rfl,rfl,(by decide)⟩,⟨rfl,rfl,(by decide)⟩,rfl,rfl,rfl,⟨rfl,rfl,(by decide)⟩,tt⟩) (@cast ((((3 : Nat) = 3) ∧ (Sd (.ints c.up)) ∧ ((0 : Nat) ∈ ([0,1,2] : List Nat))) ∧ (((3 : Nat) = 3) ∧ (Sd (.ints c.down)) ∧ ((1 : Nat) ∈ ([0,1,2] : List Nat))) ∧ (((50 : Nat) = 50) ∧ (Sd (.marks c.marks)) ∧ ((2 : Nat) ∈ ([0,1,2] : List Nat))) ∧ True) _ (by kernel_rfl) ⟨⟨rfl,rfl,(by decide)⟩,⟨rfl,rfl,(by decide)⟩,⟨rfl,rfl,(by decide)⟩,tt⟩) (by kernel_rfl)
theorem ent35 : Entr prog 35 := ⟨_,func35,rfl,by decide⟩
end Go.Proofs.Try

set_option linter.unusedSimpArgs false
set_option linter.unusedVariables false
namespace Go.Proofs.Try
open Go.Ab Go.RowKit
def fs47 : FnS := fnS [.a [some .ints,some .ints,none,none,none,some .marks],.a [some .ints,some .ints,none,none,none,some .marks]] [.copy,.copy] (fun _ (a,b,_) => (.b (newerC a b),[],True))
abbrev T47 : Tab := lk []
theorem tab47 : TabOK prog T47 := TabOK.nil
set_option maxRecDepth 100000 in
set_option maxHeartbeats 1000000 in
theorem ok47 : FnOK prog 47 fs47 := by
 refine FnOK.mk cok func47 rfl rfl rfl ?_
 rintro fl ⟨(a : CopyD),(b : CopyD),_⟩ hpre F hnt0 _
 have hnt : F.nt = 30 := hnt0.trans ntmps47
 clear hpre
 refine W.to (⟨[(0,.agg (cC a)),(1,.agg (cC b))],[],[999]⟩) rfl ?_
 refine W.lenA 0 0 (cC a) (.ints a.up) (by kernel_rfl) (by kernel_rfl) ?_
 intro hl_a_up; replace hl_a_up : List.length a.up ≤ 9223372036854775807 := hl_a_up
 refine W.lenA 0 1 (cC a) (.ints a.down) (by kernel_rfl) (by kernel_rfl) ?_
 intro hl_a_down; replace hl_a_down : List.length a.down ≤ 9223372036854775807 := hl_a_down
 refine W.lenA 0 5 (cC a) (.marks a.marks) (by kernel_rfl) (by kernel_rfl) ?_
 intro hl_a_marks; replace hl_a_marks : List.length a.marks ≤ 9223372036854775807 := hl_a_marks
 refine W.lenA 1 0 (cC b) (.ints b.up) (by kernel_rfl) (by kernel_rfl) ?_
 intro hl_b_up; replace hl_b_up : List.length b.up ≤ 9223372036854775807 := hl_b_up
 refine W.lenA 1 1 (cC b) (.ints b.down) (by kernel_rfl) (by kernel_rfl) ?_
 intro hl_b_down; replace hl_b_down : List.length b.down ≤ 9223372036854775807 := hl_b_down
 refine W.lenA 1 5 (cC b) (.marks b.marks) (by kernel_rfl) (by kernel_rfl) ?_
 intro hl_b_marks; replace hl_b_marks : List.length b.marks ≤ 9223372036854775807 := hl_b_marks
 refine Kk cok tab47 hnt [] [2,3] (⟨[(2,.ptr 2 0),(3,.ptr 3 0)],[(2,⟨29,.fix (cC a)⟩),(3,⟨29,.fix (cC b)⟩)],[3,2,999]⟩)
  (True ∧ True ∧ True ∧ True)
  ⟨tt,tt,tt,tt⟩ ?_
 refine W.seq ?_
 refine Kk cok tab47 hnt [] [2,3,9] (⟨[(2,.ptr 2 0),(3,.ptr 3 0),(9,.b (decide (a.time ≠ b.time)))],[(2,⟨29,.fix (cC a)⟩),(3,⟨29,.fix (cC b)⟩)],[3,2,999]⟩)
  (True ∧ True ∧ True ∧ True ∧ (True ∧ True ∧ True) ∧ True)
  ⟨tt,tt,tt,tt,⟨tt,tt,tt⟩,tt⟩ ?_
 refine W.ifP (a.time ≠ b.time) (.b (decide (a.time ≠ b.time))) (by kernel_rfl) rfl trivial ?_ ?_
 ·intro h9
  refine Kk cok tab47 hnt [] [4] (⟨[(4,.b (decide (b.time < a.time)))],[(2,⟨29,.fix (cC a)⟩),(3,⟨29,.fix (cC b)⟩)],[3,2,999]⟩)
   (True ∧ True ∧ True ∧ True ∧ (True ∧ True ∧ True) ∧ True ∧ True)
   ⟨tt,tt,tt,tt,⟨tt,tt,tt⟩,tt,tt⟩ ?_
  refine W.ret (thenQ_ret ?_)
  exact endQ_ret (.b (decide (b.time < a.time))) (by kernel_rfl) (@cast ((.bool (decide (b.time < a.time)) : Value) = .bool (newerC a b)) _ (by kernel_rfl) (congrArg Value.bool (by unfold newerC; rw [decide_eq_true h9]; rfl)))
 ·intro n9
  refine W.skip (thenQ_normal ?_)
  refine W.seq ?_
  refine Kk cok tab47 hnt [] [2,3,19] (⟨[(2,.ptr 2 0),(3,.ptr 3 0),(19,.b (decide (a.proc ≠ b.proc)))],[(2,⟨29,.fix (cC a)⟩),(3,⟨29,.fix (cC b)⟩)],[3,2,999]⟩)
   (True ∧ True ∧ True ∧ True ∧ (True ∧ True ∧ True) ∧ True)
   ⟨tt,tt,tt,tt,⟨tt,tt,tt⟩,tt⟩ ?_
  refine W.ifP (a.proc ≠ b.proc) (.b (decide (a.proc ≠ b.proc))) (by kernel_rfl) rfl trivial ?_ ?_
  ·intro h19
   refine Kk cok tab47 hnt [] [4] (⟨[(4,.b (decide (b.proc < a.proc)))],[(2,⟨29,.fix (cC a)⟩),(3,⟨29,.fix (cC b)⟩)],[3,2,999]⟩)
    (True ∧ True ∧ True ∧ True ∧ (True ∧ True ∧ True) ∧ True ∧ True)
    ⟨tt,tt,tt,tt,⟨tt,tt,tt⟩,tt,tt⟩ ?_
   refine W.ret (thenQ_ret ?_)
   exact endQ_ret (.b (decide (b.proc < a.proc))) (by kernel_rfl) (@cast ((.bool (decide (b.proc < a.proc)) : Value) = .bool (newerC a b)) _ (by kernel_rfl) (congrArg Value.bool (by unfold newerC; rw [decide_eq_false n9,decide_eq_true h19]; rfl)))
  ·intro n19
   refine W.skip (thenQ_normal ?_)
   refine Kk cok tab47 hnt [] [4] (⟨[(4,.b (decide (b.value < a.value)))],[(2,⟨29,.fix (cC a)⟩),(3,⟨29,.fix (cC b)⟩)],[3,2,999]⟩)
    (True ∧ True ∧ True ∧ True ∧ (True ∧ True ∧ True) ∧ True ∧ True)
    ⟨tt,tt,tt,tt,⟨tt,tt,tt⟩,tt,tt⟩ ?_
   refine W.ret ?_
   exact endQ_ret (.b (decide (b.value < a.value))) (by kernel_rfl) (@cast ((.bool (decide (b.value < a.value)) : Value) = .bool (newerC a b)) _ (by kernel_rfl) (congrArg Value.bool (by unfold newerC; rw [decide_eq_false n9,decide_eq_false n19]; rfl)))
theorem ent47 : Entr prog 47 := ⟨_,func47,rfl,by decide⟩
end Go.Proofs.Try
