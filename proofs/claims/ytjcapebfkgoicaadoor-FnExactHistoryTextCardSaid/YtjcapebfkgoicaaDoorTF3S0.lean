import Derived.Test.YtjcapebfkgoicaaDoorFrameB
import Derived.Test.YtjcapebfkgoicaaDoorProg
import Derived.Lib.Join
import Derived.Lib.ItoaNum
import Derived.Lib.AtoiAll
import Derived.Lib.Bytealg
import Derived.Shelf.Strings.OnBuilder
import Derived.Shelf.Strconv.Itoa3
import Derived.Lib.AppendIntMem
namespace Go.Proofs.Tryd
open Go.Ab Go.RowKit
abbrev i0 : Value := .int .i64 0
abbrev b0 : Value := .bool false
abbrev n0 : Value := .slice none 0 0
def tyL : List (Nat × TyK) := [(1, .sc (.nilFunc)), (3, .sc (i0)), (4, .sc (.bool false)), (5, .sc (.int .u8 0)), (9, .sc (.string ByteArray.empty)), (22, .sc (.slice none 0 0)), (25, .sc (.slice none 0 0)), (29, .sc (.slice none 0 0)), (40, .st [i0, i0, i0, i0, i0, i0, i0]), (42, .st [i0, i0, i0, i0, i0, i0, i0]), (43, .sc (.slice none 0 0)), (68, .st [n0, i0]), (79, .sc (.slice none 0 0)), (83, .sc (.slice none 0 0)), (106, .sc (.int .u64 0))]
def slL : List (Nat × (TypeId × DatK)) := [(22, (42, .calls)), (25, (40, .calls)), (29, (5, .bytes)), (43, (9, .strs)), (79, (3, .ints)), (83, (79, .intss))]
def ikL : List (Nat × IntKind) := [(3, .i64), (5, .u8), (101, .u64), (106, .u64)]
abbrev DD : CD := ⟨lk tyL, lk slL, lk ikL, fun t => Nat.beq t 9, fun t => Nat.beq t 4, fun t => Nat.beq t 40⟩
set_option maxRecDepth 100000 in
theorem cmp40 : CmpOK prog 40 [i0, i0, i0, i0, i0, i0, i0] := by
  refine ⟨by kernel_rfl, by kernel_rfl, by kernel_rfl, by kernel_rfl, ?_⟩
  intro i f z hi hz
  unfold Program.fieldsOf at hi
  rw [underlying40] at hi
  dsimp only at hi
  match i, hi, hz with
  | 0, hi, hz => cases hz; cases hi; exact ⟨by decide, rfl, _, underlying3⟩
  | 1, hi, hz => cases hz; cases hi; exact ⟨by decide, rfl, _, underlying3⟩
  | 2, hi, hz => cases hz; cases hi; exact ⟨by decide, rfl, _, underlying3⟩
  | 3, hi, hz => cases hz; cases hi; exact ⟨by decide, rfl, _, underlying3⟩
  | 4, hi, hz => cases hz; cases hi; exact ⟨by decide, rfl, _, underlying3⟩
  | 5, hi, hz => cases hz; cases hi; exact ⟨by decide, rfl, _, underlying3⟩
  | 6, hi, hz => cases hz; cases hi; exact ⟨by decide, rfl, _, underlying3⟩
  | i + 7, hi, hz => simp at hz
theorem lk_all {α : Type} {p : Nat → α → Prop} : ∀ {l : List (Nat × α)}, (∀ q ∈ l, p q.1 q.2) → ∀ t x, lk l t = some x → p t x
  | [], _, t, x, h => by cases h
  | (k, y) :: r, hp, t, x, h => by
    simp only [lk] at h
    by_cases ht : t = k
    · subst ht; simp only [if_true, Option.some.injEq] at h; subst h; exact hp (t, y) (by simp)
    · rw [if_neg ht] at h; exact lk_all (fun q hq => hp q (by simp [hq])) t x h
set_option maxRecDepth 100000 in
theorem cok : COK prog DD where
  ty := lk_all (by
    simp only [tyL, List.forall_mem_cons]
    refine ⟨?_, ?_, ?_, ?_, ?_, ?_, ?_, ?_, ?_, ?_, ?_, ?_, ?_, ?_, ?_, fun _ h => by cases h⟩
    · exact ⟨⟨_, rfl, rfl, rfl⟩, rfl, _, underlying1, trivial⟩
    · exact ⟨⟨_, rfl, rfl, rfl⟩, rfl, _, underlying3, trivial⟩
    · exact ⟨⟨_, rfl, rfl, rfl⟩, rfl, _, underlying4, trivial⟩
    · exact ⟨⟨_, rfl, rfl, rfl⟩, rfl, _, underlying5, trivial⟩
    · exact ⟨⟨_, rfl, rfl, rfl⟩, rfl, _, underlying9, trivial⟩
    · exact ⟨⟨_, rfl, rfl, rfl⟩, rfl, _, underlying22, trivial⟩
    · exact ⟨⟨_, rfl, rfl, rfl⟩, rfl, _, underlying25, trivial⟩
    · exact ⟨⟨_, rfl, rfl, rfl⟩, rfl, _, underlying29, trivial⟩
    · refine ⟨⟨_, rfl, rfl, rfl⟩, _, underlying40, rfl, ?_⟩
      intro j f hj
      match j, hj with
      | 0, hj => cases hj; exact ⟨rfl, _, rfl, rfl⟩
      | 1, hj => cases hj; exact ⟨rfl, _, rfl, rfl⟩
      | 2, hj => cases hj; exact ⟨rfl, _, rfl, rfl⟩
      | 3, hj => cases hj; exact ⟨rfl, _, rfl, rfl⟩
      | 4, hj => cases hj; exact ⟨rfl, _, rfl, rfl⟩
      | 5, hj => cases hj; exact ⟨rfl, _, rfl, rfl⟩
      | 6, hj => cases hj; exact ⟨rfl, _, rfl, rfl⟩
      | j + 7, hj => simp at hj
    · refine ⟨⟨_, rfl, rfl, rfl⟩, _, underlying42, rfl, ?_⟩
      intro j f hj
      match j, hj with
      | 0, hj => cases hj; exact ⟨rfl, _, rfl, rfl⟩
      | 1, hj => cases hj; exact ⟨rfl, _, rfl, rfl⟩
      | 2, hj => cases hj; exact ⟨rfl, _, rfl, rfl⟩
      | 3, hj => cases hj; exact ⟨rfl, _, rfl, rfl⟩
      | 4, hj => cases hj; exact ⟨rfl, _, rfl, rfl⟩
      | 5, hj => cases hj; exact ⟨rfl, _, rfl, rfl⟩
      | 6, hj => cases hj; exact ⟨rfl, _, rfl, rfl⟩
      | j + 7, hj => simp at hj
    · exact ⟨⟨_, rfl, rfl, rfl⟩, rfl, _, underlying43, trivial⟩
    · refine ⟨⟨_, rfl, rfl, rfl⟩, _, underlying68, rfl, ?_⟩
      intro j f hj
      match j, hj with
      | 0, hj => cases hj; exact ⟨rfl, _, rfl, rfl⟩
      | 1, hj => cases hj; exact ⟨rfl, _, rfl, rfl⟩
      | j + 2, hj => simp at hj
    · exact ⟨⟨_, rfl, rfl, rfl⟩, rfl, _, underlying79, trivial⟩
    · exact ⟨⟨_, rfl, rfl, rfl⟩, rfl, _, underlying83, trivial⟩
    · exact ⟨⟨_, rfl, rfl, rfl⟩, rfl, _, underlying106, trivial⟩)
  sl := by
    have h := lk_all (l := slL) (p := fun t q => SlOK prog t q.1 q.2) (by
      simp only [slL, List.forall_mem_cons]
      refine ⟨⟨underlying22, _, rfl, rfl, rfl, rfl⟩, ⟨underlying25, _, rfl, rfl, rfl, rfl⟩, ⟨underlying29, _, rfl, rfl, rfl, rfl⟩, ⟨underlying43, _, rfl, rfl, rfl, rfl⟩, ⟨underlying79, _, rfl, rfl, rfl, rfl⟩, ⟨underlying83, _, rfl, rfl, rfl, rfl⟩, fun _ h => by cases h⟩)
    exact fun t e k hk => h t (e, k) hk
  ik := lk_all (by
    simp only [ikL, List.forall_mem_cons]
    exact ⟨underlying3, underlying5, underlying101, underlying106, fun _ h => by cases h⟩)
  str := fun t h => by
    have h' : t = 9 := Nat.eq_of_beq_eq_true h
    subst h'; exact underlying9
  bo := fun t h => by
    have h' : t = 4 := Nat.eq_of_beq_eq_true h
    subst h'; exact underlying4
  wide := rfl
  cmp := fun t zs h ht => by
    have h' : t = 40 := by
      have h1 : (Nat.beq t 40) = true := h
      exact Nat.eq_of_beq_eq_true h1
    rcases h' with rfl
    · cases ht; exact cmp40
end Go.Proofs.Tryd
namespace Go.Ab
theorem tt : True := trivial
abbrev Sv (v : Value) : Prop := v = v
abbrev Sd (d : Dat) : Prop := d = d
abbrev cC (c : CopyD) : List AV := [.sl (.ints c.up), .sl (.ints c.down), .i c.value, .i c.time, .i c.proc, .sl (.marks c.marks)]
abbrev Sc (c : CopyD) : Prop := Sd (.ints c.up) ∧ Sd (.ints c.down) ∧ ((Value.int .i64 c.value : Value) = .int .i64 c.value) ∧ ((Value.int .i64 c.time : Value) = .int .i64 c.time) ∧ ((Value.int .i64 c.proc : Value) = .int .i64 c.proc) ∧ Sd (.marks c.marks) ∧ True
abbrev Si (n : Int) : Prop := (Value.int .i64 n : Value) = .int .i64 n
section
variable {P : Program} {F : Fr} {D : CD} {T : Tab} {st : St} {Q : Post} {c : Code} {nt : Nat}
theorem Kk (hD : COK P D) (hT : TabOK P T) (hn : F.nt = nt) (fls live : List Nat) (st' : St) (φ : Prop) {id : Nat} {l : List Oper} (h2 : φ) (h3 : W P F c st' Q) (h1 : runK live l.toArray D T nt fls l st = some (st', φ) := by kernel_rfl) : W P F (.seq (.region id l.toArray false) c) st Q := W.K hD hT hn fls live st' φ h1 h2 h3
theorem Lk (hD : COK P D) (hT : TabOK P T) (hn : F.nt = nt) (fls : List Nat) (st' : St) (φ : Prop) {id : Nat} {l : List Oper} (h2 : φ) (h3 : Q .normal st') (h1 : runL l.toArray D T nt fls l st = some (st', φ) := by kernel_rfl) : W P F (.region id l.toArray false) st Q := W.L hD hT hn fls st' φ h1 h2 h3
end
end Go.Ab

namespace Go.Ab
def eqS (a b : ByteArray) : Bool := a.toList == b.toList
def nRegister : ByteArray := ⟨#[114,101,103,105,115,116,101,114]⟩
def nQueue : ByteArray := ⟨#[113,117,101,117,101]⟩
def nStack : ByteArray := ⟨#[115,116,97,99,107]⟩
def nCounter : ByteArray := ⟨#[99,111,117,110,116,101,114]⟩
def nSet : ByteArray := ⟨#[115,101,116]⟩
def nMost : ByteArray := ⟨#[109,111,115,116]⟩
def nEmpty : ByteArray := ⟨#[]⟩
def isObject (s : ByteArray) : Bool := eqS s nRegister || eqS s nQueue || eqS s nStack || eqS s nCounter || eqS s nSet || eqS s nMost
def within (n low high : Int) : Bool := decide (low ≤ n) && decide (n ≤ high)
def isBefore (a b : CallD) : Bool := decide (a.to < b.frm)
def doOverlap (a b : CallD) : Bool := !isBefore a b && !isBefore b a
def isCall (c : CallD) : Bool :=
 within c.proc 0 2 && within c.obj 0 1 && within c.kind 0 2 && within c.arg 0 3 && within c.ret (-1) 20 && within c.frm 0 30 && within c.to 0 30 && decide (c.frm < c.to)
def clash (c o : CallD) : Bool :=
 decide (c.frm = o.frm) || decide (c.frm = o.to) || decide (c.to = o.frm) || decide (c.to = o.to) || (decide (c.proc = o.proc) && doOverlap c o)
def callAt (h : List CallD) (i : Nat) : CallD := h.getD i default
def validHistory (h : List CallD) : Bool :=
 decide (h.length ≤ 6) && allN h.length (fun i => isCall (callAt h i) && allN i (fun k => !clash (callAt h i) (callAt h k)))
theorem bool_ext {a b : Bool} (h : a = true ↔ b = true) : a = b := Bool.eq_iff_iff.2 h
theorem inRange_iff {n low high : Int} : within n low high = true ↔ low ≤ n ∧ n ≤ high := by simp [within]
theorem isCall_iff {c : CallD} : isCall c = true ↔ (0 ≤ c.proc ∧ c.proc ≤ 2) ∧ (0 ≤ c.obj ∧ c.obj ≤ 1) ∧ (0 ≤ c.kind ∧ c.kind ≤ 2) ∧ (0 ≤ c.arg ∧ c.arg ≤ 3) ∧ (-1 ≤ c.ret ∧ c.ret ≤ 20) ∧ (0 ≤ c.frm ∧ c.frm ≤ 30) ∧ (0 ≤ c.to ∧ c.to ≤ 30) ∧ c.frm < c.to := by
 simp [isCall,inRange_iff,and_assoc]
theorem overlap_iff {a b : CallD} : doOverlap a b = true ↔ b.frm ≤ a.to ∧ a.frm ≤ b.to := by simp [doOverlap,isBefore]
theorem clash_iff {c o : CallD} : clash c o = true ↔ c.frm = o.frm ∨ c.frm = o.to ∨ c.to = o.frm ∨ c.to = o.to ∨ (c.proc = o.proc ∧ o.frm ≤ c.to ∧ c.frm ≤ o.to) := by
 simp [clash,overlap_iff,or_assoc]
theorem validCall_eq (c : CallD) : isCall c = (within c.proc 0 2 && within c.obj 0 1 && within c.kind 0 2 && within c.arg 0 3 && within c.ret (-1) 20 && within c.frm 0 30 && within c.to (c.frm + 1) 30) := by
 apply bool_ext
 rw [isCall_iff]
 simp only [Bool.and_eq_true,inRange_iff]
 omega
theorem clash_false {c o : CallD} (h1 : (((decide (o.frm = c.frm) || decide (o.frm = c.to)) || decide (o.to = c.frm)) || decide (o.to = c.to)) = false)
  (h2 : ((decide (o.proc = c.proc) && decide (c.frm < o.to)) && decide (o.frm < c.to)) = false) : (!clash c o) = true := by
 have : ¬ clash c o = true := by
  rw [clash_iff]
  simp only [Bool.or_eq_false_iff,decide_eq_false_iff_not,Bool.and_eq_false_iff] at h1 h2
  omega
 simpa using this
theorem clash_true1 {c o : CallD} (h1 : (((decide (o.frm = c.frm) || decide (o.frm = c.to)) || decide (o.to = c.frm)) || decide (o.to = c.to)) = true) : (!clash c o) = false := by
 have : clash c o = true := by
  rw [clash_iff]
  simp only [Bool.or_eq_true,decide_eq_true_eq] at h1
  omega
 simpa using this
theorem clash_true2 {c o : CallD} (h2 : ((decide (o.proc = c.proc) && decide (c.frm < o.to)) && decide (o.frm < c.to)) = true) : (!clash c o) = false := by
 have : clash c o = true := by
  rw [clash_iff]
  simp only [Bool.and_eq_true,decide_eq_true_eq] at h2
  omega
 simpa using this
theorem valid_iff {h : List CallD} : validHistory h = true ↔ h.length ≤ 6 ∧ (∀ i,i < h.length → isCall (callAt h i) = true) ∧ ∀ i k,i < h.length → k < i → clash (callAt h i) (callAt h k) = false := by
 unfold validHistory
 simp only [Bool.and_eq_true,decide_eq_true_eq,allN_iff,Bool.not_eq_true']
 exact ⟨fun ⟨a,b⟩ => ⟨a,fun i hi => (b i hi).1,fun i k hi hk => (b i hi).2 k hk⟩,fun ⟨a,b,c⟩ => ⟨a,fun i hi => ⟨b i hi,fun k hk => c i k hi hk⟩⟩⟩
def smallC (c : CallD) : Prop := -100 ≤ c.frm ∧ c.frm ≤ 100 ∧ -100 ≤ c.to ∧ c.to ≤ 100
def GoodH (h : List CallD) : Prop := h.length ≤ 6 ∧ ∀ c ∈ h,smallC c
theorem getD_mem {α : Type} (l : List α) (d : α) {i : Nat} (h : i < l.length) : l.getD i d ∈ l := by
 rw [List.getD_eq_getElem?_getD,List.getElem?_eq_getElem h]
 exact List.getElem_mem h
theorem GoodH.at {h : List CallD} (hg : GoodH h) {i : Nat} (hi : i < h.length) : smallC (h.getD i default) := hg.2 _ (getD_mem h default hi)
theorem GoodH.nil : GoodH [] := ⟨by simp,by simp⟩
def hasInt (l : List Int) (n : Int) : Bool := anyN l.length (fun i => decide (l.getD i 0 = n))
def specStep (name : ByteArray) (state : List Int) (c : CallD) : List Int × Bool :=
 bif decide (c.kind = 0) then
  bif eqS name nRegister then ([c.arg],decide (c.ret = 0))
  else bif eqS name nCounter then
   bif decide (((state.length : Nat) : Int) = 0) then ([c.arg],decide (c.ret = 0)) else ([state.getD 0 0 + c.arg],decide (c.ret = 0))
  else bif eqS name nMost then
   bif (decide (0 < ((state.length : Nat) : Int)) && decide (c.arg < state.getD 0 0)) then (state,decide (c.ret = 0)) else ([c.arg],decide (c.ret = 0))
  else bif eqS name nSet then
   bif hasInt state c.arg then (state,decide (c.ret = 0)) else (state ++ [c.arg],decide (c.ret = 1))
  else (state ++ [c.arg],decide (c.ret = 0))
 else bif decide (c.kind = 2) then
  bif eqS name nQueue then
   bif decide (((state.length : Nat) : Int) = 0) then (state,decide (c.ret = -1)) else (state,decide (c.ret = state.getD 0 0))
  else bif eqS name nStack then
   bif decide (((state.length : Nat) : Int) = 0) then (state,decide (c.ret = -1)) else (state,decide (c.ret = state.getD (state.length - 1) 0))
  else bif eqS name nSet then
   bif hasInt state c.arg then (state,decide (c.ret = 1)) else (state,decide (c.ret = 0))
  else bif decide (((state.length : Nat) : Int) = 0) then (state,decide (c.ret = 0)) else (state,decide (c.ret = state.getD 0 0))
 else
  bif eqS name nQueue then
   bif decide (((state.length : Nat) : Int) = 0) then (state,decide (c.ret = -1)) else (state.drop 1,decide (c.ret = state.getD 0 0))
  else bif eqS name nStack then
   bif decide (((state.length : Nat) : Int) = 0) then (state,decide (c.ret = -1)) else (state.take (state.length - 1),decide (c.ret = state.getD (state.length - 1) 0))
  else bif eqS name nSet then
   bif hasInt state c.arg then (state.erase c.arg,decide (c.ret = 1)) else (state,decide (c.ret = 0))
  else bif decide (((state.length : Nat) : Int) = 0) then ([],decide (c.ret = 0)) else ([],decide (c.ret = state.getD 0 0))
def okState (n : Nat) (b : Int) (l : List Int) : Prop := l.length ≤ n ∧ ∀ x ∈ l,0 ≤ x ∧ x ≤ b
def okStates (n : Nat) (b : Int) (ss : List (List Int)) : Prop := ss.length = 2 ∧ ∀ l ∈ ss,okState n b l
theorem okStates.mono {n : Nat} {b : Int} {ss : List (List Int)} (h : okStates n b ss) : okStates (n + 1) (b + 3) ss :=
 ⟨h.1,fun l hl => ⟨by have := (h.2 l hl).1; omega,fun x hx => by have := (h.2 l hl).2 x hx; omega⟩⟩
theorem okStates.set {n : Nat} {b : Int} {ss : List (List Int)} (h : okStates n b ss) {i : Nat} {l : List Int} (hl : okState (n + 1) (b + 3) l) : okStates (n + 1) (b + 3) (ss.set i l) := by
 refine ⟨by simpa using h.1,fun x hx => ?_⟩
 rcases List.mem_or_eq_of_mem_set hx with h1 | rfl
 ·exact h.mono.2 x h1
 ·exact hl
theorem okStates.at {n : Nat} {b : Int} {ss : List (List Int)} (h : okStates n b ss) {i : Nat} (hi : i < 2) : okState n b (ss.getD i []) := h.2 _ (getD_mem ss [] (by rw [h.1]; exact hi))
theorem okStates.step {o : List CallD} {c : CallD} {ss : List (List Int)} (h : okStates o.length (3 * ((o.length : Nat) : Int)) ss) : okStates (o ++ [c]).length (3 * (((o ++ [c]).length : Nat) : Int)) ss := by
 have := h.mono
 rw [show (o ++ [c]).length = o.length + 1 by simp,show 3 * ((o.length + 1 : Nat) : Int) = 3 * ((o.length : Nat) : Int) + 3 by omega]
 exact this
end Go.Ab

set_option linter.unusedSimpArgs false
set_option linter.unusedVariables false
namespace Go.Ab
theorem ints_ext {a b : List Int} (h : a.length = b.length) (hA : ∀ j,j < a.length → a.getD j 0 = b.getD j 0) : a = b := by
 apply List.ext_getElem h
 intro i h1 h2
 have := hA i h1
 rwa [List.getD_eq_getElem?_getD,List.getD_eq_getElem?_getD,List.getElem?_eq_getElem h1,List.getElem?_eq_getElem h2] at this
end Go.Ab

set_option linter.unusedSimpArgs false
set_option linter.unusedVariables false
namespace Go.Ab
theorem call_ok {h : List CallD} (hv : validHistory h = true) {i : Nat} (hi : i < h.length) : (callAt h i).frm < (callAt h i).to ∧ 0 ≤ (callAt h i).frm ∧ (callAt h i).to ≤ 30 := by
 have := isCall_iff.1 ((valid_iff.1 hv).2.1 i hi); omega
end Go.Ab

set_option linter.unusedSimpArgs false
set_option linter.unusedVariables false
namespace Go.Ab
def maxN : Nat → (Nat → Int) → Int
 | 0,_ => 0
 | n + 1,f => max (maxN n f) (f n)
theorem le_maxN {n : Nat} {f : Nat → Int} {i : Nat} (h : i < n) : f i ≤ maxN n f := by
 induction n with
 | zero => omega
 | succ n ih =>
  simp only [maxN]
  by_cases hi : i = n
  ·subst hi; omega
  ·have := ih (by omega); omega
theorem maxN_le {n : Nat} {f : Nat → Int} {b : Int} (hb : 0 ≤ b) (h : ∀ i,i < n → f i ≤ b) : maxN n f ≤ b := by
 induction n with
 | zero => simpa [maxN] using hb
 | succ n ih => simp only [maxN]; have := h n (by omega); have := ih (fun i hi => h i (by omega)); omega
theorem maxN_get {n : Nat} {f : Nat → Int} (h : 0 < maxN n f) : ∃ i,i < n ∧ f i = maxN n f := by
 induction n with
 | zero => simp [maxN] at h
 | succ n ih =>
  simp only [maxN] at h ⊢
  by_cases hc : maxN n f ≤ f n
  ·exact ⟨n,by omega,by omega⟩
  ·obtain ⟨i,h1,h2⟩ := ih (by omega)
   exact ⟨i,by omega,by omega⟩
theorem maxN_congr {n : Nat} {f g : Nat → Int} (h : ∀ i,i < n → f i = g i) : maxN n f = maxN n g := by
 induction n with
 | zero => rfl
 | succ n ih => simp only [maxN]; rw [h n (by omega),ih (fun i hi => h i (by omega))]
theorem count_mono {l : List Nat} {p q : Nat → Bool} (h : ∀ x ∈ l,p x = true → q x = true) : l.countP p ≤ l.countP q := List.countP_mono_left h
theorem count_lt {l : List Nat} {p q : Nat → Bool} (h : ∀ x ∈ l,p x = true → q x = true) {x0 : Nat} (hx : x0 ∈ l) (h1 : q x0 = true) (h2 : p x0 = false) : l.countP p + 1 ≤ l.countP q := by
 induction l with
 | nil => simp at hx
 | cons a l ih =>
  rw [List.countP_cons,List.countP_cons]
  rcases List.mem_cons.1 hx with rfl | hx'
  ·have := count_mono (l := l) (fun x hx => h x (List.mem_cons_of_mem _ hx))
   rw [if_pos h1,if_neg (by rw [h2]; simp)]; omega
  ·have := ih (fun x hx => h x (List.mem_cons_of_mem _ hx)) hx'
   have ha := h a (List.mem_cons_self ..)
   by_cases hp : p a = true
   ·rw [if_pos hp,if_pos (ha hp)]; omega
   ·rw [if_neg hp]; split <;> omega
def mbF (h : List CallD) (l : Nat → Int) (i : Nat) : Int := maxN h.length (fun k => bif isBefore (callAt h k) (callAt h i) then l k + 1 else 0)
def levF (h : List CallD) : Nat → Nat → Int
 | 0,_ => 0
 | n + 1,i => mbF h (levF h n) i
def lev (h : List CallD) (i : Nat) : Int := levF h 31 i
def levOf (h : List CallD) : List Int := (List.range h.length).map (lev h)
theorem levOf_len (h : List CallD) : (levOf h).length = h.length := by simp [levOf]
theorem levOf_get {h : List CallD} {i : Nat} (hi : i < h.length) : (levOf h).getD i 0 = lev h i := by simp [levOf,List.getD_eq_getElem?_getD,hi]
theorem bef_iff {a b : CallD} : isBefore a b = true ↔ a.to < b.frm := by simp [isBefore]
theorem levF_stable {h : List CallD} (hv : validHistory h = true) : ∀ (n i : Nat),i < h.length → (callAt h i).frm < n → levF h (n + 1) i = levF h n i := by
 intro n
 induction n with
 | zero => intro i hi hlt; have := call_ok hv hi; omega
 | succ n ih =>
  intro i hi hlt
  show mbF h (levF h (n + 1)) i = mbF h (levF h n) i
  apply maxN_congr
  intro k hk
  cases hb : isBefore (callAt h k) (callAt h i) with
  | false => rfl
  | true =>
   have h1 := bef_iff.1 hb
   have h2 := call_ok hv hk
   simp only [cond_true]
   rw [ih k hk (by omega)]
theorem lev_fix {h : List CallD} (hv : validHistory h = true) {i : Nat} (hi : i < h.length) : lev h i = mbF h (lev h) i := by
 have := levF_stable hv 31 i hi (by have := call_ok hv hi; omega)
 exact this.symm
theorem lev_lt {h : List CallD} (hv : validHistory h = true) {i k : Nat} (hi : i < h.length) (hk : k < h.length) (hb : isBefore (callAt h k) (callAt h i) = true) : lev h k + 1 ≤ lev h i := by
 rw [lev_fix hv hi]
 have := le_maxN (n := h.length) (f := fun k => bif isBefore (callAt h k) (callAt h i) then lev h k + 1 else 0) hk
 simp only [hb,cond_true] at this
 exact this
theorem lev_pred {h : List CallD} (hv : validHistory h = true) {i : Nat} (hi : i < h.length) (h0 : 0 < lev h i) : ∃ k,k < h.length ∧ isBefore (callAt h k) (callAt h i) = true ∧ lev h k + 1 = lev h i := by
 rw [lev_fix hv hi] at h0
 obtain ⟨k,hk,he⟩ := maxN_get h0
 cases hb : isBefore (callAt h k) (callAt h i) with
 | false => simp only [hb,cond_false] at he; unfold mbF at h0; omega
 | true => simp only [hb,cond_true] at he; exact ⟨k,hk,hb,by rw [lev_fix hv hi]; exact he⟩
theorem levF_count {h : List CallD} (hv : validHistory h = true) : ∀ (n i : Nat),i < h.length → levF h n i ≤ (((List.range h.length).countP (fun j => decide ((callAt h j).frm < (callAt h i).frm)) : Nat) : Int) := by
 intro n
 induction n with
 | zero => intro i _; simp [levF]
 | succ n ih =>
  intro i hi
  refine maxN_le (by omega) (fun k hk => ?_)
  cases hb : isBefore (callAt h k) (callAt h i) with
  | false => simp only [cond_false]; omega
  | true =>
   simp only [cond_true]
   have h1 := ih k hk
   have h2 := bef_iff.1 hb
   have h3 := call_ok hv hk
   have h4 := count_lt (l := List.range h.length) (p := fun j => decide ((callAt h j).frm < (callAt h k).frm)) (q := fun j => decide ((callAt h j).frm < (callAt h i).frm))
    (fun x _ hx => by simp only [decide_eq_true_eq] at hx ⊢; omega) (List.mem_range.2 hk) (by simp only [decide_eq_true_eq]; omega) (by simp)
   omega
theorem lev_len {h : List CallD} (hv : validHistory h = true) {i : Nat} (hi : i < h.length) : lev h i ≤ ((h.length : Nat) : Int) := by
 have h1 := levF_count hv 31 i hi
 have h2 := List.countP_le_length (p := fun j => decide ((callAt h j).frm < (callAt h i).frm)) (l := List.range h.length)
 rw [List.length_range] at h2
 unfold lev; omega
def Rd (h : List CallD) (r : Nat) (i : Nat) (o : List Int) : Prop :=
 o.length = h.length ∧ ∀ j,j < h.length → 0 ≤ o.getD j 0 ∧ o.getD j 0 ≤ lev h j ∧ (lev h j ≤ r → o.getD j 0 = lev h j) ∧ (j < i → lev h j ≤ r + 1 → o.getD j 0 = lev h j)
def RdK (h : List CallD) (r : Nat) (i k : Nat) (o : List Int) : Prop :=
 Rd h r i o ∧ ∀ k',k' < k → isBefore (callAt h k') (callAt h i) = true → lev h k' ≤ r → lev h k' + 1 ≤ o.getD i 0
theorem getD_set (l : List Int) (i j : Nat) (v : Int) (hi : i < l.length) : (l.set i v).getD j 0 = if i = j then v else l.getD j 0 := by
 rw [List.getD_eq_getElem?_getD,List.getElem?_set]
 by_cases hij : i = j
 ·subst hij; simp [hi]
 ·simp [hij,List.getD_eq_getElem?_getD]
theorem Rd.next {h : List CallD} {r : Nat} {o : List Int} (hr : Rd h r h.length o) : Rd h (r + 1) 0 o :=
 ⟨hr.1,fun j hj => by have := hr.2 j hj; exact ⟨this.1,this.2.1,fun hl => this.2.2.2 hj (by omega),by omega⟩⟩
theorem RdK.skip {h : List CallD} {r i k : Nat} {o : List Int} (hr : RdK h r i k o) (hb : isBefore (callAt h k) (callAt h i) = false) : RdK h r i (k + 1) o :=
 ⟨hr.1,fun k' hk hb' hl => by
  rcases Nat.lt_succ_iff_lt_or_eq.1 hk with h1 | rfl
  ·exact hr.2 k' h1 hb' hl
  ·rw [hb] at hb'; cases hb'⟩
theorem RdK.set {h : List CallD} (hv : validHistory h = true) {r i k : Nat} {o : List Int} (hr : RdK h r i k o) (hi : i < h.length) (hk : k < h.length) (hb : isBefore (callAt h k) (callAt h i) = true) :
  RdK h r i (k + 1) (o.set i (max (o.getD i 0) (o.getD k 0 + 1))) := by
 obtain ⟨⟨hl,hr1⟩,hr2⟩ := hr
 have hlt := lev_lt hv hi hk hb
 have h1 := hr1 i hi
 have h2 := hr1 k hk
 refine ⟨⟨by simpa using hl,fun j hj => ?_⟩,fun k' hk' hb' hl' => ?_⟩
 ·rw [getD_set _ _ _ _ (by omega)]
  split
  ·rename_i he; subst he
   exact ⟨by omega,by omega,fun hle => by have := h1.2.2.1 hle; omega,fun hle => by omega⟩
  ·exact hr1 j hj
 ·rw [getD_set _ _ _ _ (by omega),if_pos rfl]
  rcases Nat.lt_succ_iff_lt_or_eq.1 hk' with h3 | rfl
  ·have := hr2 k' h3 hb' hl'; omega
  ·have := h2.2.2.1 hl'; omega
theorem RdK.done {h : List CallD} (hv : validHistory h = true) {r i : Nat} {o : List Int} (hr : RdK h r i h.length o) (hi : i < h.length) : Rd h r (i + 1) o := by
 obtain ⟨⟨hl,hr1⟩,hr2⟩ := hr
 refine ⟨hl,fun j hj => ⟨(hr1 j hj).1,(hr1 j hj).2.1,(hr1 j hj).2.2.1,fun hji hle => ?_⟩⟩
 rcases Nat.lt_succ_iff_lt_or_eq.1 hji with h1 | rfl
 ·exact (hr1 j hj).2.2.2 h1 hle
 ·have h1 := hr1 j hj
  rcases Int.lt_or_le 0 (lev h j) with h0 | h0
  ·obtain ⟨k,hk,hb,he⟩ := lev_pred hv hj h0
   have := hr2 k hk hb (by omega)
   omega
  ·omega
theorem Rd.end {h : List CallD} (hv : validHistory h = true) {r : Nat} {o : List Int} (hr : Rd h r 0 o) (hn : h.length ≤ r) : o = levOf h := by
 apply ints_ext (by rw [hr.1,levOf_len])
 intro j hj
 have hj' : j < h.length := by rw [← hr.1]; exact hj
 rw [levOf_get hj']
 exact (hr.2 j hj').2.2.1 (by have := lev_len hv hj'; omega)
end Go.Ab
namespace Go.Ab
end Go.Ab

set_option linter.unusedSimpArgs false
set_option linter.unusedVariables false
namespace Go.Ab
def fIdx (n : Nat) (p : Nat → Bool) : Option Nat := (List.range n).find? p
def putF (h : List CallD) (r : Int) (k : Nat) : Bool := decide ((callAt h k).kind = 0) && decide ((callAt h k).arg = r)
def idxV : Option Nat → Int
 | some k => ((k : Nat) : Int)
 | none => -2
def sourceR (h : List CallD) (r : Int) : Int := bif decide (r = 0) then -1 else idxV (fIdx h.length (putF h r))
def olderR (h : List CallD) (a b : Int) : Bool := bif decide (b < 0) then false else (decide (a = -1) || (decide (0 ≤ a) && isBefore (callAt h a.toNat) (callAt h b.toNat)))
def turnP (h : List CallD) (i k : Nat) : Bool :=
 ((decide ((callAt h i).kind = 2) && decide ((callAt h k).kind = 2)) && isBefore (callAt h i) (callAt h k)) && olderR h (sourceR h (callAt h k).ret) (sourceR h (callAt h i).ret)
def turn (h : List CallD) : Int × Int × Bool :=
 match fIdx h.length (fun i => anyN h.length (turnP h i)) with
 | some i => match fIdx h.length (turnP h i) with
  | some k => (((i : Nat) : Int),((k : Nat) : Int),true)
  | none => (-1,-1,false)
 | none => (-1,-1,false)
end Go.Ab

set_option linter.unusedSimpArgs false
set_option linter.unusedVariables false
namespace Go.Ab
end Go.Ab

set_option linter.unusedSimpArgs false
set_option linter.unusedVariables false
namespace Go.Ab
def ordOK (l : List Int) (n : Int) (i : Nat) : Bool := within (l.getD i 0) 0 (n - 1) && !hasInt (l.take i) (l.getD i 0)
def isOrd (l : List Int) (n : Int) : Bool := allN l.length (ordOK l n) && decide (((l.length : Nat) : Int) = n)
def GoodO (l : List Int) (n : Nat) : Prop := l.length = n ∧ (∀ x ∈ l,0 ≤ x ∧ x < ((n : Nat) : Int)) ∧ l.Nodup
theorem GoodO.nil : GoodO [] 0 := ⟨rfl,by simp,List.nodup_nil⟩
theorem GoodO.put {l : List Int} {n : Nat} (h : GoodO l n) (k : Nat) : GoodO (l.take k ++ [((n : Nat) : Int)] ++ l.drop k) (n + 1) := by
 obtain ⟨h1,h2,h3⟩ := h
 refine ⟨by simp only [List.length_append,List.length_take,List.length_drop,List.length_cons,List.length_nil]; omega,fun x hx => ?_,?_⟩
 ·simp only [List.mem_append,List.mem_cons,List.not_mem_nil,or_false] at hx
  rcases hx with (hx | hx) | hx
  ·have := h2 x (List.mem_of_mem_take hx); omega
  ·omega
  ·have := h2 x (List.mem_of_mem_drop hx); omega
 ·have hn : ((n : Nat) : Int) ∉ l := fun hm => by have := h2 _ hm; omega
  have hp : (l.take k ++ [((n : Nat) : Int)] ++ l.drop k).Perm (((n : Nat) : Int) :: l) := by
   rw [List.append_assoc,List.singleton_append]
   refine List.perm_middle.trans ?_
   rw [List.take_append_drop]
  exact hp.nodup_iff.2 (List.nodup_cons.2 ⟨hn,h3⟩)
end Go.Ab

set_option linter.unusedSimpArgs false
set_option linter.unusedVariables false
namespace Go.Ab
end Go.Ab

set_option linter.unusedSimpArgs false
set_option linter.unusedVariables false
namespace Go.Ab
end Go.Ab

set_option linter.unusedSimpArgs false
set_option linter.unusedVariables false
namespace Go.Ab
end Go.Ab
namespace Go.Ab
end Go.Ab
namespace Go.Ab
end Go.Ab

set_option linter.unusedSimpArgs false
set_option linter.unusedVariables false
namespace Go.Ab
def ordAt (h : List CallD) (o : List Int) (i : Nat) : CallD := callAt h (o.getD i 0).toNat
def sts (s : ByteArray) (h : List CallD) (o : List Int) : Nat → List (List Int)
  | 0 => [[], []]
  | i + 1 => (sts s h o i).set (ordAt h o i).obj.toNat (specStep s ((sts s h o i).getD (ordAt h o i).obj.toNat []) (ordAt h o i)).1
def okAt (s : ByteArray) (h : List CallD) (o : List Int) (i : Nat) : Bool := (specStep s ((sts s h o i).getD (ordAt h o i).obj.toNat []) (ordAt h o i)).2
def runsB (s : ByteArray) (h : List CallD) (o : List Int) : Bool := allN o.length (okAt s h o)
def rightB (s : ByteArray) (h : List CallD) (o : List Int) : Bool := ((isObject s && validHistory h) && isOrd o ((h.length : Nat) : Int)) && runsB s h o
def behind (s : ByteArray) (h : List CallD) (o : List Int) (x : Int) : List Int × Bool := bif rightB s h o && within x 0 1 then ((sts s h o o.length).getD x.toNat [], true) else ([], false)
end Go.Ab
namespace Go.Ab
end Go.Ab
namespace Go.Ab
end Go.Ab
namespace Go.Ab
end Go.Ab
namespace Go.Ab
end Go.Ab
namespace Go.Ab
end Go.Ab
namespace Go.Ab
end Go.Ab
namespace Go.Ab
end Go.Ab

set_option linter.unusedSimpArgs false
set_option linter.unusedVariables false
namespace Go.Ab
end Go.Ab
namespace Go.Ab
end Go.Ab

set_option linter.unusedSimpArgs false
set_option linter.unusedVariables false
namespace Go.Ab
end Go.Ab
namespace Go.Ab
end Go.Ab
namespace Go.Ab
end Go.Ab
namespace Go.Ab
end Go.Ab

set_option linter.unusedSimpArgs false
set_option linter.unusedVariables false
namespace Go.Ab
end Go.Ab
namespace Go.Ab
end Go.Ab
namespace Go.Ab
section
variable {s : ByteArray} {h : List CallD} {f : Nat → Nat → Bool} {o : List Int}
end
end Go.Ab
namespace Go.Ab
end Go.Ab
namespace Go.Ab
section
variable {s : ByteArray} {h : List CallD} {f : Nat → Nat → Bool} {o : List Int}
end
end Go.Ab

set_option linter.unusedSimpArgs false
set_option linter.unusedVariables false
namespace Go.Ab
section
variable {s : ByteArray} {h : List CallD} {f g : Nat → Nat → Bool} {rows : List Int}
end
end Go.Ab
namespace Go.Ab
end Go.Ab
namespace Go.Ab
end Go.Ab

set_option linter.unusedSimpArgs false
set_option linter.unusedVariables false
namespace Go.Ab
def toUp {α : Type} (d : α) (h : List α) (i : Nat) : List α := h.take i ++ List.replicate (h.length - i) d
theorem toUp_len {α : Type} (d : α) (h : List α) {i : Nat} (hi : i ≤ h.length) : (toUp d h i).length = h.length := by
 unfold toUp; simp; omega
theorem toUp_zero {α : Type} (d : α) (h : List α) : List.replicate h.length d = toUp d h 0 := by unfold toUp; simp
theorem toUp_step {α : Type} {d : α} {h o : List α} {i : Nat} (ho : o = toUp d h i) (hi : i < h.length) : o.set i (h.getD i d) = toUp d h (i + 1) := by
 rw [ho]
 apply List.ext_getElem
 ·rw [List.length_set,toUp_len d h (by omega),toUp_len d h (by omega)]
 intro j h1 h2
 have hl : (h.take i).length = i := by rw [List.length_take]; omega
 rw [List.getElem_set]
 by_cases hj : i = j
 ·subst hj
  rw [if_pos rfl,List.getD_eq_getElem?_getD,List.getElem?_eq_getElem hi]
  have : (toUp d h (i + 1))[i] = (h.take (i + 1))[i]'(by rw [List.length_take]; omega) := List.getElem_append_left _
  rw [this,List.getElem_take]; rfl
 ·rw [if_neg hj]
  rw [List.length_set,toUp_len d h (by omega)] at h1
  by_cases hlt : j < i
  ·have e1 : (toUp d h i)[j]'(by rw [toUp_len d h (by omega)]; omega) = (h.take i)[j]'(by rw [List.length_take]; omega) := List.getElem_append_left _
   have e2 : (toUp d h (i + 1))[j] = (h.take (i + 1))[j]'(by rw [List.length_take]; omega) := List.getElem_append_left _
   rw [e1,e2,List.getElem_take,List.getElem_take]
  ·have e1 : (toUp d h i)[j]'(by rw [toUp_len d h (by omega)]; omega) = d := by
    have h3 : (h.take i).length ≤ j := by omega
    have h4 : j < (h.take i ++ List.replicate (h.length - i) d).length := by simp; omega
    have h5 : (h.take i ++ List.replicate (h.length - i) d)[j]'h4 = d := by rw [List.getElem_append_right h3,List.getElem_replicate]
    exact h5
   have e2 : (toUp d h (i + 1))[j] = d := by
    have h3 : (h.take (i + 1)).length ≤ j := by rw [List.length_take]; omega
    have h4 : j < (h.take (i + 1) ++ List.replicate (h.length - (i + 1)) d).length := h2
    have h5 : (h.take (i + 1) ++ List.replicate (h.length - (i + 1)) d)[j]'h4 = d := by rw [List.getElem_append_right h3,List.getElem_replicate]
    exact h5
   rw [e1,e2]
theorem toUp_all {α : Type} {d : α} {h o : List α} {i : Nat} (ho : o = toUp d h i) (hi : h.length ≤ i) : o = h := by
 rw [ho]; unfold toUp; rw [List.take_of_length_le hi,show h.length - i = 0 by omega]; simp
def szC (h : List CallD) (left : Int) : Int := bif decide (left - ((h.length : Nat) : Int) < 0) then -1 else left - ((h.length : Nat) : Int)
theorem sz_ok {h : List CallD} (hn : ¬ szC h 1048576 < 0) : h.length ≤ 1048576 := by
 unfold szC at hn
 cases hd : decide ((1048576 : Int) - ((h.length : Nat) : Int) < 0) with
 | true => rw [hd] at hn; simp at hn
 | false => have := of_decide_eq_false hd; omega
theorem calls_ext {a b : List CallD} (hl : a.length = b.length) (h : ∀ j,j < a.length → a.getD j default = b.getD j default) : a = b := by
 apply List.ext_getElem hl
 intro i h1 h2
 have := h i h1
 rw [List.getD_eq_getElem?_getD,List.getElem?_eq_getElem h1,List.getD_eq_getElem?_getD,List.getElem?_eq_getElem h2] at this
 exact this
theorem call_ext {a b : CallD} (h1 : a.proc = b.proc) (h2 : a.obj = b.obj) (h3 : a.kind = b.kind) (h4 : a.arg = b.arg) (h5 : a.ret = b.ret) (h6 : a.frm = b.frm) (h7 : a.to = b.to) : a = b := by
 cases a; cases b; simp_all
end Go.Ab

set_option linter.unusedSimpArgs false
set_option linter.unusedVariables false
namespace Go.Ab
theorem join_tail (sep : List UInt8) (x : List UInt8) (r : List (List UInt8)) (hr : r ≠ []) : Lib.join (x :: r) sep = x ++ sep ++ Lib.join r sep := by
 obtain ⟨y,r',rfl⟩ := List.exists_cons_of_ne_nil hr
 rw [Lib.join_cons,Lib.join_cons]
 simp [Lib.joinTail]
def numL (n : Int) : List UInt8 := if n < 0 then [45,49] else if n < 10 then [UInt8.ofNat (48 + n.toNat)] else [UInt8.ofNat (48 + n.toNat / 10),UInt8.ofNat (48 + n.toNat % 10)]
theorem itoa_num {n : Int} (h1 : -1 ≤ n) (h2 : n ≤ 30) : Lib.itoa n = numL n := by
 unfold Lib.itoa numL
 by_cases h0 : n < 0
 ·have : n = -1 := by omega
  subst this
  rw [if_pos h0,if_pos h0,show (-1 : Int).natAbs = 1 from rfl,Lib.decDigits_one (by omega)]
  rfl
 ·rw [if_neg h0,if_neg h0]
  by_cases h3 : n < 10
  ·rw [if_pos h3,Lib.decDigits_one (by omega)]
  ·rw [if_neg h3,Lib.decDigits_two (by omega) (by omega)]
def kdB (k : Int) : UInt8 := if k = 0 then 112 else if k = 1 then 116 else 108
def callTextL (c : CallD) : List UInt8 := numL c.proc ++ (UInt8.ofNat (120 + c.obj.toNat) :: kdB c.kind :: (numL c.arg ++ 61 :: (numL c.ret ++ 64 :: (numL c.frm ++ 45 :: numL c.to))))
def histL (h : List CallD) : List UInt8 := Lib.join (h.map callTextL) [32]
def objV (b : UInt8) : Option Int := if b = 120 then some 0 else if b = 121 then some 1 else none
def kindV (b : UInt8) : Option Int := if b = 112 then some 0 else if b = 116 then some 1 else if b = 108 then some 2 else none
theorem call_facts {c : CallD} (hc : isCall c = true) : (0 ≤ c.proc ∧ c.proc ≤ 2) ∧ (0 ≤ c.obj ∧ c.obj ≤ 1) ∧ (0 ≤ c.kind ∧ c.kind ≤ 2) ∧ (0 ≤ c.arg ∧ c.arg ≤ 3) ∧ (-1 ≤ c.ret ∧ c.ret ≤ 20) ∧ (0 ≤ c.frm ∧ c.frm ≤ 30) ∧ 0 ≤ c.to ∧ c.to ≤ 30 := by
 have := isCall_iff.1 hc
 omega
structure TextOf (c : CallD) : Prop where
 eq : callTextL c = [UInt8.ofNat (48 + c.proc.toNat),UInt8.ofNat (120 + c.obj.toNat),kdB c.kind,UInt8.ofNat (48 + c.arg.toNat)] ++ 61 :: (numL c.ret ++ 64 :: (numL c.frm ++ 45 :: numL c.to))
 n61 : 61 ∉ [UInt8.ofNat (48 + c.proc.toNat),UInt8.ofNat (120 + c.obj.toNat),kdB c.kind,UInt8.ofNat (48 + c.arg.toNat)]
 n64 : 64 ∉ [UInt8.ofNat (48 + c.proc.toNat),UInt8.ofNat (120 + c.obj.toNat),kdB c.kind,UInt8.ofNat (48 + c.arg.toNat)]
 n32 : 32 ∉ [UInt8.ofNat (48 + c.proc.toNat),UInt8.ofNat (120 + c.obj.toNat),kdB c.kind,UInt8.ofNat (48 + c.arg.toNat)]
 p : (((UInt8.ofNat (48 + c.proc.toNat)).toNat : Nat) : Int) - 48 = c.proc
 o : (((UInt8.ofNat (120 + c.obj.toNat)).toNat : Nat) : Int) - 120 = c.obj
 k : Lib.indexByte [112,116,108] (kdB c.kind) = c.kind
 a : (((UInt8.ofNat (48 + c.arg.toNat)).toNat : Nat) : Int) - 48 = c.arg
 os : objV (UInt8.ofNat (120 + c.obj.toNat)) = some c.obj
 ks : kindV (kdB c.kind) = some c.kind
theorem valid_len {h : List CallD} (hv : validHistory h = true) : h.length ≤ 6 := (valid_iff.1 hv).1
theorem valid_call {h : List CallD} (hv : validHistory h = true) : ∀ c ∈ h,isCall c = true := by
 intro c hc
 obtain ⟨i,hi,rfl⟩ := List.mem_iff_getElem.1 hc
 unfold validHistory at hv
 have h1 := allN_get (and_r hv) i hi
 have h2 := and_l h1
 unfold callAt at h2
 rw [List.getD_eq_getElem?_getD,List.getElem?_eq_getElem hi] at h2
 exact h2
end Go.Ab

namespace Go.Ab
open Go.RowKit Go.Shelf Go.Proofs
theorem plain_post {w w' : World} {T : Nat → Prop} {r : AV} {y : Value} (hb : Below w.heap.size w w') (hr : ∀ T',Rep w' T' noNames r y) : ∃ β',PostF w T none w' β' r [] y := by
 refine ⟨noNames,hb.os,hb.tape,hb.output,hb.size,fun b hb' _ => hb.block b hb',hr _,?_,?_,?_,?_⟩
 ·intro k c hk; simp [rowsHeap] at hk
 ·intro k k' c c' g1 cap1 cap2 e1; simp [rowsHeap] at e1
 ·intro k c g1 cap1 e1; simp [rowsHeap] at e1
 ·intro k p hp; cases hp
abbrev BA (l : List UInt8) : ByteArray := ⟨l.toArray⟩
abbrev joinB (xs : List ByteArray) (sep : ByteArray) : ByteArray := BA (Lib.join (xs.map (·.data.toList)) sep.data.toList)
theorem join_core {P : Program} {ρ : Ren} (L : Lays.n156 P ρ) (X : Builder.Extra P ρ) (xs : List ByteArray) (sep : ByteArray) (h1 : xs.length ≤ 1000) (h2 : (Lib.join (xs.map (·.data.toList)) sep.data.toList).length ≤ 1000000) (w : World) (T : Nat → Prop) (hT : ∀ b,T b → b < w.heap.size) (vals : List Value) (bC : Option Nat)
  (hargs : ArgsRep w T [.s .strs,.o] [.sl (.strs xs),.v (.string sep)] vals bC) :
  Calls P (ρ.f 156) vals.toArray w fun en w' => ∃ y β',en = .returned y ∧ PostF w T bC w' β' (.v (.string (joinB xs sep))) [] y := by
 match vals,hargs with
 | [y0,y1],h =>
  simp only [ArgsRep] at h
  obtain ⟨h3,h4,rfl⟩ := h
  simp only [Rep,SlRep,FlatRep] at h3 h4
  subst h4
  obtain ⟨a,c,rfl,hlc,hcm,hd⟩ := h3
  have fin : ∀ (en : Ending) w',(en = .returned (.string (joinB xs sep)) ∧ Below w.heap.size w w') → ∃ y β',en = .returned y ∧ PostF w T none w' β' (.v (.string (joinB xs sep))) [] y := by
   rintro en w' ⟨rfl,hb⟩
   obtain ⟨β',hp⟩ := plain_post (T := T) (r := .v (.string (joinB xs sep))) (y := .string (joinB xs sep)) hb (fun T' => by simp only [Rep])
   exact ⟨_,β',rfl,hp⟩
  cases xs with
  | nil => exact (Any.strings_Join_none L X _ c sep w).mono fun e w' ⟨he,hw⟩ => fin e w' ⟨he,hw ▸ Below.refl _ _⟩
  | cons x0 l0 =>
   rcases hd with hd | ⟨ad,rfl,hTa,hc⟩
   ·simp at hd
   ·have hcc : ∀ k,k < (x0 :: l0).length → w.cell? (ad.add k) = some (.string ((x0 :: l0).getD k default)) := fun k hk => by
     have := hc k 0 _ hk (show ((Dat.strs (x0 :: l0)).flat k)[0]? = some (.string ((x0 :: l0).getD k default)) from rfl)
     simpa using this
    obtain ⟨b,off,sp⟩ := ad
    cases sp with
    | some s0 =>
     have := hcc 0 (by simp)
     rw [Addr.add_zero'] at this
     unfold World.cell? at this
     simp at this
     split at this <;> cases this
    | none =>
     refine (Any.strings_Join L X b off c (x0 :: l0) sep w (fun j x hx => ?_) (hT _ hTa) (by omega) hlc (by omega)).mono fin
     have hj := (List.getElem?_eq_some_iff.1 hx).1
     have := hcc j hj
     rw [Addr.add_lit,List.getD_eq_getElem?_getD,hx] at this
     exact this
theorem join_ok {P : Program} {ρ : Ren} (L : Lays.n156 P ρ) (X : Builder.Extra P ρ) :
  FnOK P (ρ.f 156) (fnS [.s .strs,.o] [.strs,.str] (fun _ (xs,sep,_) => (.v (.string (joinB xs sep)),[],List.length xs ≤ 1000 ∧ (joinB xs sep).size ≤ 1000000))) := by
 intro fl args r rows φ hg hφ w T vals bC hT _ hargs
 simp only [fnS] at hg
 split at hg
 ·rename_i a ha
  simp only [Option.some.injEq] at hg
  have hx := decL_encL ha
  subst hx
  obtain ⟨xs,sep,u⟩ := a
  simp only [Prod.mk.injEq] at hg
  obtain ⟨rfl,rfl,rfl⟩ := hg
  exact join_core L X xs sep hφ.1 (by have := hφ.2; simpa [ByteArray.size] using this) w T hT vals bC hargs
 ·cases hg
theorem glb_tab {P : Program} {w : World} {T : Nat → Prop} (hg : P.globalNamed "internal/strconv.uint64pow10" = some 3) (h : GLB w T) : Lib.TabIs P w "internal/strconv.uint64pow10" .u64 Lib.pow10Tab := by
 obtain ⟨_,t,fr,h2⟩ := h.pow
 unfold Lib.TabIs World.var?
 rw [hg]
 simp only [Option.bind_some,h2]
theorem itoa_ok {P : Program} {ρ : Ren} (L : LaysM.n171 P ρ) (hg : P.globalNamed "internal/strconv.uint64pow10" = some 3) :
  FnOK P (ρ.f 171) (fnS [.o] [.int] (fun _ (n,_) => (.v (.string (BA (Lib.itoa n))),[],-9223372036854775808 ≤ n ∧ n ≤ 9223372036854775807))) := by
 intro fl args r rows φ hg' hφ w T vals bC hT hgl hargs
 simp only [fnS] at hg'
 split at hg'
 ·rename_i a ha
  simp only [Option.some.injEq] at hg'
  have hx := decL_encL ha
  subst hx
  obtain ⟨n,u⟩ := a
  simp only [Prod.mk.injEq] at hg'
  obtain ⟨rfl,rfl,rfl⟩ := hg'
  match vals,hargs with
  | [y0],h =>
   have h' : ArgsRep w T [.o] [.v (.int .i64 n)] [y0] bC := h
   simp only [ArgsRep,Rep] at h'
   obtain ⟨rfl,rfl⟩ := h'
   refine (Any.strconv_Itoa L n hφ.1 hφ.2 w (glb_tab hg hgl)).mono ?_
   rintro e w' ⟨rfl,k,os,rfl⟩
   obtain ⟨β',hp⟩ := plain_post (T := T) (r := .v (.string (BA (Lib.itoa n)))) (y := .string (BA (Lib.itoa n))) (Lib.below_grow w.heap.size w (Nat.le_refl _) k os) (fun T' => by simp only [Rep])
   exact ⟨_,β',rfl,hp⟩
 ·cases hg'
end Go.Ab
namespace Go.Ab
open Go.RowKit Go.Shelf Go.Proofs
theorem glb_mk {P : Program} {W : World} (hg : P.globalNamed "internal/strconv.uint64pow10" = some 3) (h : Lib.TabIs P W "internal/strconv.uint64pow10" .u64 Lib.pow10Tab) : GLB W (fun b => b < W.heap.size) := by
 unfold Lib.TabIs World.var? at h
 rw [hg] at h
 simp only [Option.bind_some] at h
 split at h
 ·rename_i cs t fr he
  cases h
  exact ⟨⟨(Array.getElem?_eq_some_iff.1 he).1,t,fr,he⟩⟩
 ·cases h
end Go.Ab

set_option linter.unusedSimpArgs false
set_option linter.unusedVariables false
namespace Go.Ab
theorem ba_app (a b : List UInt8) : BA a ++ BA b = BA (a ++ b) := by
 apply ByteArray.ext
 simp [ByteArray.data_append]
theorem ba_size (l : List UInt8) : (BA l).size = l.length := by simp [ByteArray.size]
theorem ba_extract (l : List UInt8) (i j : Nat) : (BA l).extract i j = BA ((l.take j).drop i) := by
 apply ByteArray.ext
 rw [ByteArray.data_extract]
 apply Array.toList_inj.1
 simp [List.drop_take,Array.toList_extract,List.extract]
theorem eqB_iff {a b : ByteArray} : eqS a b = true ↔ a = b := by
 unfold eqS
 rw [← beq_toListBytes]
 show (a.data == b.data) = true ↔ _
 rw [beq_iff_eq]
 exact ⟨fun h => ByteArray.ext h,fun h => by rw [h]⟩
theorem eqB_self (a : ByteArray) : eqS a a = true := eqB_iff.2 rfl
def numB (n : Int) : ByteArray := BA (Lib.itoa n)
def callTextB (c : CallD) : ByteArray := BA (callTextL c)
def histB (h : List CallD) : ByteArray := bif validHistory h then BA (histL h) else BA []
theorem dec_len : ∀ u : Nat,(Lib.decDigits u).length ≤ u + 1 := by
 intro u
 induction u using Nat.strongRecOn with
 | _ u ih =>
  rw [Lib.decDigits]
  split
  ·simp
  ·have := ih (u / 10) (by omega)
   simp only [List.length_append,List.length_cons,List.length_nil]
   omega
theorem numB_size (n : Int) : (numB n).size ≤ n.natAbs + 2 := by
 unfold numB
 rw [ba_size]
 unfold Lib.itoa
 split
 ·have := dec_len n.natAbs; simp only [List.length_cons]; omega
 ·have := dec_len n.toNat; omega
theorem numB_neg {n : Int} (h : n < 0) : (⟨#[45]⟩ : ByteArray) ++ numB (0 - n) = numB n := by
 have e : (⟨#[45]⟩ : ByteArray) = BA [45] := rfl
 unfold numB
 rw [e,ba_app]
 congr 1
 unfold Lib.itoa
 rw [if_neg (by omega),if_pos h,show (0 - n).toNat = n.natAbs by omega]
 rfl
theorem dig_tab : ∀ k : Fin 10,(BA [48,49,50,51,52,53,54,55,56,57]).extract k.val (k.val + 1) = BA [UInt8.ofNat (48 + k.val)] := by
 intro k
 rw [ba_extract]
 congr 1
 revert k
 decide
theorem numB_one {n : Int} (h0 : ¬ n < 0) (h : n < 10) : (⟨#[48,49,50,51,52,53,54,55,56,57]⟩ : ByteArray).extract (Int.toNat n) (Int.toNat (n + 1)) = numB n := by
 have ht := dig_tab ⟨n.toNat,by omega⟩
 simp only at ht
 unfold numB Lib.itoa
 rw [if_neg h0,Lib.decDigits_one (by omega),show (n + 1).toNat = n.toNat + 1 by omega]
 exact ht
theorem numB_two {n : Int} (h0 : ¬ n < 0) (h : ¬ n < 10) : numB (Int.tdiv n 10) ++ numB (Int.tmod n 10) = numB n := by
 obtain ⟨k,rfl⟩ : ∃ k : Nat,n = ((k : Nat) : Int) := ⟨n.toNat,by omega⟩
 have e1 : Int.tdiv ((k : Nat) : Int) 10 = ((k / 10 : Nat) : Int) := rfl
 have e2 : Int.tmod ((k : Nat) : Int) 10 = ((k % 10 : Nat) : Int) := rfl
 rw [e1,e2]
 unfold numB
 rw [ba_app]
 congr 1
 unfold Lib.itoa
 rw [if_neg (by omega),if_neg (by omega),if_neg (by omega),Int.toNat_natCast,Int.toNat_natCast,Int.toNat_natCast]
 conv => rhs; rw [Lib.decDigits]
 rw [dif_neg (by omega),Lib.decDigits_one (show k % 10 < 10 by omega)]
theorem obj_tab : ∀ k : Fin 2,(BA [120,121]).extract k.val (k.val + 1) = BA [UInt8.ofNat (120 + k.val)] := by
 intro k
 rw [ba_extract]
 congr 1
 revert k
 decide
theorem kd_tab : ∀ k : Fin 3,(BA [112,116,108]).extract k.val (k.val + 1) = BA [kdB ((k.val : Nat) : Int)] := by
 intro k
 rw [ba_extract]
 congr 1
 revert k
 decide
theorem text_val {c : CallD} (hc : isCall c = true) : numB c.proc ++ (⟨#[120,121]⟩ : ByteArray).extract (Int.toNat c.obj) (Int.toNat (c.obj + 1)) ++ (⟨#[112,116,108]⟩ : ByteArray).extract (Int.toNat c.kind) (Int.toNat (c.kind + 1)) ++ numB c.arg ++ (⟨#[61]⟩ : ByteArray) ++ numB c.ret ++ (⟨#[64]⟩ : ByteArray) ++ numB c.frm ++ (⟨#[45]⟩ : ByteArray) ++ numB c.to = callTextB c := by
 obtain ⟨h1,h2,h3,h4,h5,h6,h7⟩ := call_facts hc
 have e1 := obj_tab ⟨c.obj.toNat,by omega⟩
 have e2 := kd_tab ⟨c.kind.toNat,by omega⟩
 simp only at e1 e2
 rw [show ((c.kind.toNat : Nat) : Int) = c.kind by omega] at e2
 rw [show (c.obj + 1).toNat = c.obj.toNat + 1 by omega,show (c.kind + 1).toNat = c.kind.toNat + 1 by omega]
 rw [show (⟨#[120,121]⟩ : ByteArray) = BA [120,121] from rfl,show (⟨#[112,116,108]⟩ : ByteArray) = BA [112,116,108] from rfl,e1,e2,show (⟨#[61]⟩ : ByteArray) = BA [61] from rfl,show (⟨#[64]⟩ : ByteArray) = BA [64] from rfl,show (⟨#[45]⟩ : ByteArray) = BA [45] from rfl]
 unfold numB callTextB callTextL
 rw [itoa_num (by omega) (by omega),itoa_num (by omega) (by omega),itoa_num (by omega) (by omega),itoa_num (by omega) (by omega),itoa_num (by omega) (by omega)]
 simp only [ba_app]
 congr 1
 simp
theorem sz1 (a : UInt8) : (⟨#[a]⟩ : ByteArray).size = 1 := rfl
theorem sz2 (a b : UInt8) : (⟨#[a,b]⟩ : ByteArray).size = 2 := rfl
theorem sz3 (a b c : UInt8) : (⟨#[a,b,c]⟩ : ByteArray).size = 3 := rfl
theorem sz10 (a b c d e f g h i j : UInt8) : (⟨#[a,b,c,d,e,f,g,h,i,j]⟩ : ByteArray).size = 10 := rfl
theorem numL_len (n : Int) : (numL n).length ≤ 2 := by
 unfold numL
 split
 ·simp
 ·split <;> simp
theorem text_size (c : CallD) : (callTextB c).size ≤ 15 := by
 unfold callTextB callTextL
 rw [ba_size]
 have h1 := numL_len c.proc
 have h2 := numL_len c.arg
 have h3 := numL_len c.ret
 have h4 := numL_len c.frm
 have h5 := numL_len c.to
 simp only [List.length_append,List.length_cons]
 omega
def histUp (h : List CallD) (i : Nat) : ByteArray := BA (histL (h.take i))
theorem take_snocC {h : List CallD} {i : Nat} (hi : i < h.length) : h.take (i + 1) = h.take i ++ [h.getD i default] := by
 rw [List.take_add_one,List.getD_eq_getElem?_getD,List.getElem?_eq_getElem hi]; rfl
theorem join_snoc (l : List (List UInt8)) (x sep : List UInt8) (hl : l ≠ []) : Lib.join (l ++ [x]) sep = Lib.join l sep ++ sep ++ x := by
 obtain ⟨y,r,rfl⟩ := List.exists_cons_of_ne_nil hl
 rw [List.cons_append,Lib.join_cons,Lib.join_cons]
 unfold Lib.joinTail
 simp
theorem histUp_zero (h : List CallD) : (⟨#[]⟩ : ByteArray) = histUp h 0 := by
 unfold histUp histL
 rw [List.take_zero,List.map_nil,Lib.join_nil]
theorem histUp_one {h : List CallD} {i : Nat} {o : ByteArray} (ho : o = histUp h i) (hi : i < h.length) (h0 : ¬ 0 < ((i : Nat) : Int)) : o ++ callTextB (h.getD i default) = histUp h (i + 1) := by
 have : i = 0 := by omega
 subst this
 rw [ho]
 unfold histUp histL callTextB
 rw [take_snocC hi,List.take_zero,List.nil_append,List.map_nil,Lib.join_nil,List.map_cons,List.map_nil,Lib.join_one,ba_app]
 rfl
theorem histUp_next {h : List CallD} {i : Nat} {o : ByteArray} (ho : o = histUp h i) (hi : i < h.length) (h0 : 0 < ((i : Nat) : Int)) : o ++ (⟨#[32]⟩ : ByteArray) ++ callTextB (h.getD i default) = histUp h (i + 1) := by
 rw [ho]
 unfold histUp histL callTextB
 rw [take_snocC hi,List.map_append,List.map_cons,List.map_nil,join_snoc _ _ _ (by simp; constructor <;> (intro e; first | omega | (rw [e] at hi; simp at hi)))]
 rw [show (⟨#[32]⟩ : ByteArray) = BA [32] from rfl,ba_app,ba_app]
theorem histUp_all {h : List CallD} {i : Nat} {o : ByteArray} (hv : validHistory h = true) (ho : o = histUp h i) (hi : ¬ i < h.length) : o = histB h := by
 rw [ho]
 unfold histUp histB
 rw [hv,cond_true,List.take_of_length_le (by omega)]
theorem histB_no {h : List CallD} (hv : validHistory h = false) : (⟨#[]⟩ : ByteArray) = histB h := by unfold histB; rw [hv]; rfl
def textUp (h : List CallD) (i : Nat) : List ByteArray := (h.take i).map callTextB
theorem textUp_len {h : List CallD} {i : Nat} (hi : i ≤ h.length) : (textUp h i).length = i := by unfold textUp; simp; omega
theorem textUp_next {h : List CallD} {i : Nat} {o : List ByteArray} (ho : o = textUp h i) (hi : i < h.length) : o ++ [callTextB (h.getD i default)] = textUp h (i + 1) := by
 rw [ho]
 unfold textUp
 rw [take_snocC hi,List.map_append]; rfl
theorem textUp_data (h : List CallD) (i : Nat) : (textUp h i).map (·.data.toList) = (h.take i).map callTextL := by
 unfold textUp
 rw [List.map_map]
 exact List.map_congr_left fun c _ => rfl
theorem join_all {h : List CallD} {i : Nat} {o : List ByteArray} (hv : validHistory h = true) (ho : o = textUp h i) (hi : ¬ i < h.length) : joinB o (⟨#[32]⟩ : ByteArray) = histB h := by
 unfold histB
 rw [hv,cond_true,ho]
 unfold joinB
 rw [textUp_data,List.take_of_length_le (by omega)]
 rfl
theorem hist_len : ∀ h : List CallD,(histL h).length ≤ 16 * h.length
 | [] => by unfold histL; rw [List.map_nil,Lib.join_nil]; simp
 | [c] => by
  have := text_size c
  unfold callTextB at this
  rw [ba_size] at this
  unfold histL
  rw [List.map_cons,List.map_nil,Lib.join_one]
  simp only [List.length_cons,List.length_nil]; omega
 | c :: d :: r => by
  have h1 := hist_len (d :: r)
  have := text_size c
  unfold callTextB at this
  rw [ba_size] at this
  unfold histL at h1 ⊢
  rw [List.map_cons,join_tail _ _ _ (by simp)]
  simp only [List.length_append,List.length_cons,List.length_nil] at h1 ⊢
  omega
theorem hist_size (h : List CallD) (i : Nat) : (histUp h i).size ≤ 16 * i := by
 unfold histUp
 rw [ba_size]
 have h1 := hist_len (h.take i)
 rw [List.length_take] at h1
 omega
theorem join_size {h : List CallD} {i : Nat} {o : List ByteArray} (ho : o = textUp h i) : (joinB o (⟨#[32]⟩ : ByteArray)).size ≤ 16 * i := by
 have h1 := hist_size h i
 unfold histUp histL at h1
 rw [ho]
 unfold joinB
 rw [textUp_data]
 exact h1
end Go.Ab

set_option linter.unusedSimpArgs false
set_option linter.unusedVariables false
namespace Go.Proofs.Tryd
open Go.Ab Go.RowKit
def fs7 : FnS := fnS [.s .calls,.o] [.calls,.int] (fun _ (h,left,_) => (.i (szC h left),[],(left = 1048576)))
abbrev T7 : Tab := lk []
theorem tab7 : TabOK prog T7 := TabOK.nil
set_option maxRecDepth 100000 in
set_option maxHeartbeats 1000000 in
theorem ok7 : FnOK prog 7 fs7 := by
 refine FnOK.mk cok func7 rfl rfl rfl ?_
 rintro fl ⟨(h : List CallD),(left : Int),_⟩ hpre F hnt0 _
 have hnt : F.nt = 12 := hnt0.trans ntmps7
 replace hpre : (left = 1048576) := hpre
 have hl := hpre
 refine W.to (⟨[(0,.sl (.calls h)),(1,.i left)],[],[999]⟩) rfl ?_
 refine W.lenOf 0 (.calls h) (by kernel_rfl) ?_
 intro hl_h; replace hl_h : List.length h ≤ 9223372036854775807 := hl_h
 refine Kk cok tab7 hnt [] [0,1] (⟨[(0,.sl (.calls h)),(1,.i left)],[],[999]⟩)
  (True ∧ True)
  ⟨tt,tt⟩ ?_
 refine Kk cok tab7 hnt [] [1] (⟨[(1,.i (left - (h.length : Int)))],[],[999]⟩)
  (True ∧ True ∧ True ∧ (True ∧ True ∧ (Fits .i64 (left - (h.length : Int)))) ∧ True ∧ True)
  ⟨tt,tt,tt,⟨tt,tt,(by exact fits_i64 (by omega) (by omega))⟩,tt,tt⟩ ?_
 refine W.seq ?_
 refine Kk cok tab7 hnt [] [1,10] (⟨[(1,.i (left - (h.length : Int))),(10,.b (decide ((left - (h.length : Int)) < (0 : Int))))],[],[999]⟩)
  (True ∧ (True ∧ True ∧ True) ∧ True)
  ⟨tt,⟨tt,tt,tt⟩,tt⟩ ?_
 refine W.ifP ((left - (h.length : Int)) < (0 : Int)) (.b (decide ((left - (h.length : Int)) < (0 : Int)))) (by kernel_rfl) rfl trivial ?_ ?_
 ·intro h10
  refine Kk cok tab7 hnt [] [4] (⟨[(4,.i (-1 : Int))],[],[999]⟩)
   (True ∧ True)
   ⟨tt,tt⟩ ?_
  refine W.ret (thenQ_ret ?_)
  exact endQ_ret (.i (-1 : Int)) (by kernel_rfl) (@cast ((.int .i64 (-1 : Int) : Value) = .int .i64 (szC h left)) _ (by kernel_rfl) (congrArg (Value.int .i64) (by unfold szC; rw [decide_eq_true h10]; rfl)))
 ·intro n10
  refine W.skip (thenQ_normal ?_)
  refine Kk cok tab7 hnt [] [4] (⟨[(4,.i (left - (h.length : Int)))],[],[999]⟩)
   (True ∧ True ∧ True)
   ⟨tt,tt,tt⟩ ?_
  refine W.ret ?_
  exact endQ_ret (.i (left - (h.length : Int))) (by kernel_rfl) (@cast ((.int .i64 (left - (h.length : Int)) : Value) = .int .i64 (szC h left)) _ (by kernel_rfl) (congrArg (Value.int .i64) (by unfold szC; rw [decide_eq_false n10]; rfl)))
theorem ent7 : Entr prog 7 := ⟨_,func7,rfl,by decide⟩
end Go.Proofs.Tryd

set_option linter.unusedSimpArgs false
set_option linter.unusedVariables false
namespace Go.Proofs.Tryd
open Go.Ab Go.RowKit
def fs22 : FnS := fnS [.o] [.call] (fun _ (a,_) => (.agg [.i a.proc,.i a.obj,.i a.kind,.i a.arg,.i a.ret,.i a.frm,.i a.to],[],True))
abbrev T22 : Tab := lk []
theorem tab22 : TabOK prog T22 := TabOK.nil
set_option maxRecDepth 100000 in
set_option maxHeartbeats 1000000 in
theorem ok22 : FnOK prog 22 fs22 := by
 refine FnOK.mk cok func22 rfl rfl rfl ?_
 rintro fl ⟨(a : CallD),_⟩ hpre F hnt0 _
 have hnt : F.nt = 26 := hnt0.trans ntmps22
 clear hpre
 refine W.to (⟨[(0,.agg [.i a.proc,.i a.obj,.i a.kind,.i a.arg,.i a.ret,.i a.frm,.i a.to])],[],[999]⟩) rfl ?_
 refine Kk cok tab22 hnt [] [1,2] (⟨[(1,.ptr 1 0),(2,.ptr 2 0)],[(1,⟨42,.fix [.i a.proc,.i a.obj,.i a.kind,.i a.arg,.i a.ret,.i a.frm,.i a.to]⟩),(2,⟨40,.fix [.i (0 : Int),.i (0 : Int),.i (0 : Int),.i (0 : Int),.i (0 : Int),.i (0 : Int),.i (0 : Int)]⟩)],[2,1,999]⟩)
  (True ∧ True ∧ True)
  ⟨tt,tt,tt⟩ ?_
 refine Kk cok tab22 hnt [] [1,2,3] (⟨[(1,.ptr 1 0),(2,.ptr 2 0),(3,.ptr 3 0)],[(1,⟨42,.fix [.i a.proc,.i a.obj,.i a.kind,.i a.arg,.i a.ret,.i a.frm,.i a.to]⟩),(2,⟨40,.fix [.i (0 : Int),.i (0 : Int),.i (0 : Int),.i (0 : Int),.i (0 : Int),.i (0 : Int),.i (0 : Int)]⟩),(3,⟨40,.fix [.i (0 : Int),.i (0 : Int),.i (0 : Int),.i (0 : Int),.i (0 : Int),.i (0 : Int),.i (0 : Int)]⟩)],[3,2,1,999]⟩)
  (True ∧ True)
  ⟨tt,tt⟩ ?_
 refine Kk cok tab22 hnt [] [1,2,3] (⟨[(1,.ptr 1 0),(2,.ptr 2 0),(3,.ptr 3 0)],[(1,⟨42,.fix [.i a.proc,.i a.obj,.i a.kind,.i a.arg,.i a.ret,.i a.frm,.i a.to]⟩),(2,⟨40,.fix [.i (0 : Int),.i (0 : Int),.i (0 : Int),.i (0 : Int),.i (0 : Int),.i (0 : Int),.i (0 : Int)]⟩),(3,⟨40,.fix [.i a.proc,.i (0 : Int),.i (0 : Int),.i (0 : Int),.i (0 : Int),.i (0 : Int),.i (0 : Int)]⟩)],[3,2,1,999]⟩)
  (True ∧ True ∧ True ∧ (True ∧ True) ∧ True)
  ⟨tt,tt,tt,⟨tt,tt⟩,tt⟩ ?_
 refine Kk cok tab22 hnt [] [1,2,3] (⟨[(1,.ptr 1 0),(2,.ptr 2 0),(3,.ptr 3 0)],[(1,⟨42,.fix [.i a.proc,.i a.obj,.i a.kind,.i a.arg,.i a.ret,.i a.frm,.i a.to]⟩),(2,⟨40,.fix [.i (0 : Int),.i (0 : Int),.i (0 : Int),.i (0 : Int),.i (0 : Int),.i (0 : Int),.i (0 : Int)]⟩),(3,⟨40,.fix [.i a.proc,.i a.obj,.i (0 : Int),.i (0 : Int),.i (0 : Int),.i (0 : Int),.i (0 : Int)]⟩)],[3,2,1,999]⟩)
  (True ∧ True ∧ True ∧ (True ∧ True) ∧ True)
  ⟨tt,tt,tt,⟨tt,tt⟩,tt⟩ ?_
 refine Kk cok tab22 hnt [] [1,2,3] (⟨[(1,.ptr 1 0),(2,.ptr 2 0),(3,.ptr 3 0)],[(1,⟨42,.fix [.i a.proc,.i a.obj,.i a.kind,.i a.arg,.i a.ret,.i a.frm,.i a.to]⟩),(2,⟨40,.fix [.i (0 : Int),.i (0 : Int),.i (0 : Int),.i (0 : Int),.i (0 : Int),.i (0 : Int),.i (0 : Int)]⟩),(3,⟨40,.fix [.i a.proc,.i a.obj,.i a.kind,.i (0 : Int),.i (0 : Int),.i (0 : Int),.i (0 : Int)]⟩)],[3,2,1,999]⟩)
  (True ∧ True ∧ True ∧ (True ∧ True) ∧ True)
  ⟨tt,tt,tt,⟨tt,tt⟩,tt⟩ ?_
 refine Kk cok tab22 hnt [] [1,2,3] (⟨[(1,.ptr 1 0),(2,.ptr 2 0),(3,.ptr 3 0)],[(1,⟨42,.fix [.i a.proc,.i a.obj,.i a.kind,.i a.arg,.i a.ret,.i a.frm,.i a.to]⟩),(2,⟨40,.fix [.i (0 : Int),.i (0 : Int),.i (0 : Int),.i (0 : Int),.i (0 : Int),.i (0 : Int),.i (0 : Int)]⟩),(3,⟨40,.fix [.i a.proc,.i a.obj,.i a.kind,.i a.arg,.i (0 : Int),.i (0 : Int),.i (0 : Int)]⟩)],[3,2,1,999]⟩)
  (True ∧ True ∧ True ∧ (True ∧ True) ∧ True)
  ⟨tt,tt,tt,⟨tt,tt⟩,tt⟩ ?_
 refine Kk cok tab22 hnt [] [1,2,3] (⟨[(1,.ptr 1 0),(2,.ptr 2 0),(3,.ptr 3 0)],[(1,⟨42,.fix [.i a.proc,.i a.obj,.i a.kind,.i a.arg,.i a.ret,.i a.frm,.i a.to]⟩),(2,⟨40,.fix [.i (0 : Int),.i (0 : Int),.i (0 : Int),.i (0 : Int),.i (0 : Int),.i (0 : Int),.i (0 : Int)]⟩),(3,⟨40,.fix [.i a.proc,.i a.obj,.i a.kind,.i a.arg,.i a.ret,.i (0 : Int),.i (0 : Int)]⟩)],[3,2,1,999]⟩)
  (True ∧ True ∧ True ∧ (True ∧ True) ∧ True)
  ⟨tt,tt,tt,⟨tt,tt⟩,tt⟩ ?_
 refine Kk cok tab22 hnt [] [1,2,3] (⟨[(1,.ptr 1 0),(2,.ptr 2 0),(3,.ptr 3 0)],[(1,⟨42,.fix [.i a.proc,.i a.obj,.i a.kind,.i a.arg,.i a.ret,.i a.frm,.i a.to]⟩),(2,⟨40,.fix [.i (0 : Int),.i (0 : Int),.i (0 : Int),.i (0 : Int),.i (0 : Int),.i (0 : Int),.i (0 : Int)]⟩),(3,⟨40,.fix [.i a.proc,.i a.obj,.i a.kind,.i a.arg,.i a.ret,.i a.frm,.i (0 : Int)]⟩)],[3,2,1,999]⟩)
  (True ∧ True ∧ True ∧ (True ∧ True) ∧ True)
  ⟨tt,tt,tt,⟨tt,tt⟩,tt⟩ ?_
 refine Kk cok tab22 hnt [] [2,3] (⟨[(2,.ptr 2 0),(3,.ptr 3 0)],[(1,⟨42,.fix [.i a.proc,.i a.obj,.i a.kind,.i a.arg,.i a.ret,.i a.frm,.i a.to]⟩),(2,⟨40,.fix [.i (0 : Int),.i (0 : Int),.i (0 : Int),.i (0 : Int),.i (0 : Int),.i (0 : Int),.i (0 : Int)]⟩),(3,⟨40,.fix [.i a.proc,.i a.obj,.i a.kind,.i a.arg,.i a.ret,.i a.frm,.i a.to]⟩)],[3,2,1,999]⟩)
  (True ∧ True ∧ True ∧ (True ∧ True) ∧ True)
  ⟨tt,tt,tt,⟨tt,tt⟩,tt⟩ ?_
 refine Kk cok tab22 hnt [] [2] (⟨[(2,.ptr 2 0)],[(1,⟨42,.fix [.i a.proc,.i a.obj,.i a.kind,.i a.arg,.i a.ret,.i a.frm,.i a.to]⟩),(2,⟨40,.fix [.i a.proc,.i a.obj,.i a.kind,.i a.arg,.i a.ret,.i a.frm,.i a.to]⟩),(3,⟨40,.fix [.i a.proc,.i a.obj,.i a.kind,.i a.arg,.i a.ret,.i a.frm,.i a.to]⟩)],[3,2,1,999]⟩)
  (True ∧ (True ∧ True) ∧ True)
  ⟨tt,⟨tt,tt⟩,tt⟩ ?_
 refine W.ret ?_
 exact endQ_ret (.agg [.i a.proc,.i a.obj,.i a.kind,.i a.arg,.i a.ret,.i a.frm,.i a.to]) (by kernel_rfl) (@cast ((Si a.proc) ∧ (Si a.obj) ∧ (Si a.kind) ∧ (Si a.arg) ∧ (Si a.ret) ∧ (Si a.frm) ∧ (Si a.to) ∧ True) _ (by kernel_rfl) ⟨rfl,rfl,rfl,rfl,rfl,rfl,rfl,tt⟩)
theorem ent22 : Entr prog 22 := ⟨_,func22,rfl,by decide⟩
end Go.Proofs.Tryd

set_option linter.unusedSimpArgs false
set_option linter.unusedVariables false
namespace Go.Proofs.Tryd
open Go.Ab Go.RowKit
def fs9 : FnS := fnS [.s .calls] [.calls] (fun _ (h,_) => (.own 0 h.length,[(40,.calls h)],(h.length ≤ 1048576)))
abbrev T9 : Tab := lk [(22,fs22)]
theorem tab9 : TabOK prog T9 := (TabOK.cons ok22 ent22 TabOK.nil)
set_option maxRecDepth 100000 in
set_option maxHeartbeats 1000000 in
theorem ok9 : FnOK prog 9 fs9 := by
 refine FnOK.mk cok func9 rfl rfl rfl ?_
 rintro fl ⟨(h : List CallD),_⟩ hpre F hnt0 _
 have hnt : F.nt = 23 := hnt0.trans ntmps9
 replace hpre : (h.length ≤ 1048576) := hpre
 have hn := hpre
 refine W.to (⟨[(0,.sl (.calls h))],[],[999]⟩) rfl ?_
 refine W.lenOf 0 (.calls h) (by kernel_rfl) ?_
 intro hl_h; replace hl_h : List.length h ≤ 9223372036854775807 := hl_h
 refine Kk cok tab9 hnt [] [0] (⟨[(0,.sl (.calls h))],[],[999]⟩)
  (True ∧ True)
  ⟨tt,tt⟩ ?_
 refine Kk cok tab9 hnt [7] [0,3] (⟨[(0,.sl (.calls h)),(3,.own 7 (List.length (List.replicate h.length (⟨0,0,0,0,0,0,0⟩ : CallD))))],[(7,⟨40,.row (.calls (List.replicate h.length (⟨0,0,0,0,0,0,0⟩ : CallD)))⟩)],[7,999]⟩)
  (True ∧ True ∧ (True ∧ True ∧ ((h.length : Int) = (h.length : Int)) ∧ (0 ≤ (h.length : Int)) ∧ ((h.length : Int) * 56 ≤ 281474976710656)) ∧ True ∧ True)
  ⟨tt,tt,⟨tt,tt,rfl,(by omega),(by omega)⟩,tt,tt⟩ ?_
 refine W.seq ?_
 refine Kk cok tab9 hnt [] [0,3,4] (⟨[(0,.sl (.calls h)),(3,.own 7 (List.length (List.replicate h.length (⟨0,0,0,0,0,0,0⟩ : CallD)))),(4,.i (0 : Int))],[(7,⟨40,.row (.calls (List.replicate h.length (⟨0,0,0,0,0,0,0⟩ : CallD)))⟩)],[7,999]⟩)
  (True ∧ True)
  ⟨tt,tt⟩ ?_
 refine W.block ?_
 refine W.loop (ι := Nat × (List CallD)) (fun (x : Nat × (List CallD)) => match x with | (i,o) => (⟨[(0,.sl (.calls h)),(3,.own 7 o.length),(4,.i ((i : Nat) : Int))],[(7,⟨40,.row (.calls o)⟩)],[7,999]⟩ : St))
  (fun (x : Nat × (List CallD)) => match x with | (i,o) => (i ≤ h.length) ∧ (o = toUp default h i))
  (fun (x : Nat × (List CallD)) => match x with | (i,o) => (h.length - i : Nat)) (0,(List.replicate h.length (⟨0,0,0,0,0,0,0⟩ : CallD))) ?_ ?_ ?_
 ·exact (show (0 ≤ h.length) ∧ ((List.replicate h.length (⟨0,0,0,0,0,0,0⟩ : CallD)) = toUp default h 0) from ⟨(by first | assumption | omega | rfl | (intro _ hjj; omega) | (simp; done) | (simp; omega)),(by exact toUp_zero _ _)⟩)
 ·exact Sub.of [] (@cast (((Sd (.calls h)) ∧ (((7 : Nat) = 7) ∧ ((List.length (List.replicate h.length (⟨0,0,0,0,0,0,0⟩ : CallD))) = (List.length (List.replicate h.length (⟨0,0,0,0,0,0,0⟩ : CallD)))) ∧ ((7 : Nat) ∈ ([7,999] : List Nat))) ∧ ((.int .i64 (0 : Int) : Value) = .int .i64 ((0 : Nat) : Int)) ∧ True) ∧ ((((40 : Nat) = 40) ∧ (Sd (.calls (List.replicate h.length (⟨0,0,0,0,0,0,0⟩ : CallD)))) ∧ ((7 : Nat) ∈ ([7,999] : List Nat))) ∧ True) ∧ (true = true) ∧ (true = true)) _ (by kernel_rfl) ⟨⟨rfl,⟨rfl,rfl,(by decide)⟩,(congrArg (Value.int .i64) (by first | rfl | omega | assumption | simp | simp_all)),tt⟩,⟨⟨rfl,rfl,(by decide)⟩,tt⟩,rfl,rfl⟩)
 ·rintro ⟨i,o⟩ hC0
  have hC : (i ≤ h.length) ∧ (o = toUp default h i) := hC0
  clear hC0
  obtain ⟨hi,ho⟩ := hC
  refine W.to (⟨[(0,.sl (.calls h)),(3,.own 7 o.length),(4,.i ((i : Nat) : Int))],[(7,⟨40,.row (.calls o)⟩)],[7,999]⟩) rfl ?_
  have hol : o.length = h.length := by rw [ho]; exact toUp_len _ _ hi
  refine W.seq ?_
  refine Kk cok tab9 hnt [] [0,3,4,11] (⟨[(0,.sl (.calls h)),(3,.own 7 o.length),(4,.i ((i : Nat) : Int)),(11,.b (decide (((i : Nat) : Int) < (h.length : Int))))],[(7,⟨40,.row (.calls o)⟩)],[7,999]⟩)
   (True ∧ True ∧ True ∧ (True ∧ True ∧ True) ∧ True)
   ⟨tt,tt,tt,⟨tt,tt,tt⟩,tt⟩ ?_
  refine W.ifP (((i : Nat) : Int) < (h.length : Int)) (.b (decide (((i : Nat) : Int) < (h.length : Int)))) (by kernel_rfl) rfl trivial ?_ ?_
  ·intro h11
   refine W.skip (thenQ_normal ?_)
   refine W.seq ?_
   refine W.block ?_
   refine Lk cok tab9 hnt [] (⟨[(0,.sl (.calls h)),(3,.own 7 o.length),(4,.i ((i : Nat) : Int)),(11,.b (decide (((i : Nat) : Int) < (h.length : Int)))),(14,.own 7 o.length),(15,.i ((i : Nat) : Int)),(16,.sl (.calls h)),(17,.i ((i : Nat) : Int)),(18,.ep [.i ((h.getD i default).proc),.i ((h.getD i default).obj),.i ((h.getD i default).kind),.i ((h.getD i default).arg),.i ((h.getD i default).ret),.i ((h.getD i default).frm),.i ((h.getD i default).to)]),(19,.agg [.i ((h.getD i default).proc),.i ((h.getD i default).obj),.i ((h.getD i default).kind),.i ((h.getD i default).arg),.i ((h.getD i default).ret),.i ((h.getD i default).frm),.i ((h.getD i default).to)]),(20,.agg [.i ((h.getD i default).proc),.i ((h.getD i default).obj),.i ((h.getD i default).kind),.i ((h.getD i default).arg),.i ((h.getD i default).ret),.i ((h.getD i default).frm),.i ((h.getD i default).to)]),(21,.pel 7 7 i 0)],[(7,⟨40,.row (.calls (List.set o i (h.getD i default)))⟩)],[7,999]⟩)
    (True ∧ True ∧ True ∧ True ∧ (True ∧ True ∧ (0 ≤ ((i : Nat) : Int)) ∧ (((i : Nat) : Int) < (h.length : Int))) ∧ True ∧ (True ∧ (True ∧ True) ∧ True) ∧ (True ∧ True ∧ (0 ≤ ((i : Nat) : Int)) ∧ (((i : Nat) : Int) < (o.length : Int))) ∧ (True ∧ True ∧ (i < o.length)) ∧ True)
    ⟨tt,tt,tt,tt,⟨tt,tt,(by omega),(by omega)⟩,tt,⟨tt,⟨tt,tt⟩,tt⟩,⟨tt,tt,(by omega),(by omega)⟩,⟨tt,tt,(by omega)⟩,tt⟩ ?_
   refine blockQ_normal (thenQ_normal ?_)
   refine Lk cok tab9 hnt [] (⟨[(0,.sl (.calls h)),(3,.own 7 o.length),(4,.i (((i + 1) : Nat) : Int)),(11,.b (decide (((i : Nat) : Int) < (h.length : Int)))),(12,.i ((i : Nat) : Int)),(13,.i (((i + 1) : Nat) : Int)),(14,.own 7 o.length),(15,.i ((i : Nat) : Int)),(16,.sl (.calls h)),(17,.i ((i : Nat) : Int)),(18,.ep [.i ((h.getD i default).proc),.i ((h.getD i default).obj),.i ((h.getD i default).kind),.i ((h.getD i default).arg),.i ((h.getD i default).ret),.i ((h.getD i default).frm),.i ((h.getD i default).to)]),(19,.agg [.i ((h.getD i default).proc),.i ((h.getD i default).obj),.i ((h.getD i default).kind),.i ((h.getD i default).arg),.i ((h.getD i default).ret),.i ((h.getD i default).frm),.i ((h.getD i default).to)]),(20,.agg [.i ((h.getD i default).proc),.i ((h.getD i default).obj),.i ((h.getD i default).kind),.i ((h.getD i default).arg),.i ((h.getD i default).ret),.i ((h.getD i default).frm),.i ((h.getD i default).to)]),(21,.pel 7 7 i 0)],[(7,⟨40,.row (.calls (List.set o i (h.getD i default)))⟩)],[7,999]⟩)
    (True ∧ (True ∧ True ∧ (Fits .i64 (((i + 1) : Nat) : Int))) ∧ True ∧ True)
    ⟨tt,⟨tt,tt,(by exact fits_i64 (by omega) (by omega))⟩,tt,tt⟩ ?_
   refine thenQ_normal ?_
   refine ⟨((i + 1),(List.set o i (h.getD i default))),(show ((i + 1) ≤ h.length) ∧ ((List.set o i (h.getD i default)) = toUp default h (i + 1)) from ⟨(by first | assumption | omega | rfl | (intro _ hjj; omega) | (simp; done) | (simp; omega)),(by exact toUp_step ho (by omega))⟩),(show h.length - (i + 1) < h.length - i from (by first | omega | (simp_all; omega))),?_⟩
   exact Sub.of [] (@cast (((Sd (.calls h)) ∧ (((7 : Nat) = 7) ∧ (o.length = (List.length (List.set o i (h.getD i default)))) ∧ ((7 : Nat) ∈ ([7,999] : List Nat))) ∧ (Si (((i + 1) : Nat) : Int)) ∧ True) ∧ ((((40 : Nat) = 40) ∧ (Sd (.calls (List.set o i (h.getD i default)))) ∧ ((7 : Nat) ∈ ([7,999] : List Nat))) ∧ True) ∧ (true = true) ∧ (true = true)) _ (by kernel_rfl) ⟨⟨rfl,⟨rfl,(by first | rfl | omega | assumption | (symm; assumption) | simp | simp_all),(by decide)⟩,rfl,tt⟩,⟨⟨rfl,rfl,(by decide)⟩,tt⟩,rfl,rfl⟩)
  ·intro n11
   refine W.exit (thenQ_exit (thenQ_exit (blockQ_hit ?_)))
   refine thenQ_normal ?_
   refine Kk cok tab9 hnt [] [2] (⟨[(2,.own 7 o.length)],[(7,⟨40,.row (.calls o)⟩)],[7,999]⟩)
    (True ∧ True ∧ True)
    ⟨tt,tt,tt⟩ ?_
   refine W.ret ?_
   exact endQ_rows [(0,7)] (.own 7 o.length) (by kernel_rfl) (@cast (((7 : Nat) = 7) ∧ (o.length = h.length) ∧ ((0 : Nat) ∈ ([0] : List Nat))) _ (by kernel_rfl) ⟨rfl,(by first | rfl | omega | assumption | (symm; assumption) | (exact congrArg List.length (by exact toUp_all ho (by omega))) | (exact toUp_all ho (by omega); done) | simp | simp_all),(by decide)⟩) (@cast ((((40 : Nat) = 40) ∧ ((.calls o : Dat) = .calls h) ∧ ((0 : Nat) ∈ ([0] : List Nat))) ∧ True) _ (by kernel_rfl) ⟨⟨rfl,(congrArg Dat.calls (by exact toUp_all ho (by omega))),(by decide)⟩,tt⟩) (by kernel_rfl)
theorem ent9 : Entr prog 9 := ⟨_,func9,rfl,by decide⟩
end Go.Proofs.Tryd

set_option linter.unusedSimpArgs false
set_option linter.unusedVariables false
namespace Go.Proofs.Tryd
open Go.Ab Go.RowKit
def fs55 : FnS := fnS [.o,.o,.o] [.int,.int,.int] (fun _ (n,low,high,_) => (.b (within n low high),[],True))
abbrev T55 : Tab := lk []
theorem tab55 : TabOK prog T55 := TabOK.nil
set_option maxRecDepth 100000 in
set_option maxHeartbeats 1000000 in
theorem ok55 : FnOK prog 55 fs55 := by
 refine FnOK.mk cok func55 rfl rfl rfl ?_
 rintro fl ⟨(n : Int),(low : Int),(high : Int),_⟩ hpre F hnt0 _
 have hnt : F.nt = 15 := hnt0.trans ntmps55
 clear hpre
 refine W.to (⟨[(0,.i n),(1,.i low),(2,.i high)],[],[999]⟩) rfl ?_
 refine Kk cok tab55 hnt [] [0,1,2] (⟨[(0,.i n),(1,.i low),(2,.i high)],[],[999]⟩)
  (True ∧ True)
  ⟨tt,tt⟩ ?_
 refine Kk cok tab55 hnt [] [6] (⟨[(6,.b ((decide (low ≤ n)) && (decide (n ≤ high))))],[],[999]⟩)
  ((fun (Z1:Bool)=>(True ∧ (True ∧ ((True ∧ (True ∧ True)) ∧ (True ∧ ((Z1 = true → True) ∧ ((Z1 = true → True) ∧ ((Z1 = true → (((Z1 = true) ∧ True) ∧ (((Z1 = true) ∧ True) ∧ True))) ∧ ((True ∧ ((Z1 = true → (Z1 = true) ∧ True) ∧ (Z1 = false → True))) ∧ (True ∧ True)))))))))) (decide (low ≤ n)))
  ⟨tt,tt,⟨tt,tt,tt⟩,tt,(fun _ => trivial),(fun _ => trivial),(fun hG => ⟨⟨hG,tt⟩,⟨hG,tt⟩,tt⟩),⟨tt,(fun hp => ⟨hp,tt⟩),(fun _ => trivial)⟩,tt,tt⟩ ?_
 refine W.ret ?_
 exact endQ_ret (.b ((decide (low ≤ n)) && (decide (n ≤ high)))) (by kernel_rfl) (@cast ((.bool ((decide (low ≤ n)) && (decide (n ≤ high))) : Value) = .bool (within n low high)) _ (by kernel_rfl) (congrArg Value.bool (by first | rfl | simp_all)))
theorem ent55 : Entr prog 55 := ⟨_,func55,rfl,by decide⟩
end Go.Proofs.Tryd

set_option linter.unusedSimpArgs false
set_option linter.unusedVariables false
namespace Go.Proofs.Tryd
open Go.Ab Go.RowKit
def fs37 : FnS := fnS [.o] [.call] (fun _ (c,_) => (.b (isCall c),[],True))
abbrev T37 : Tab := lk [(55,fs55)]
theorem tab37 : TabOK prog T37 := (TabOK.cons ok55 ent55 TabOK.nil)
set_option maxRecDepth 100000 in
set_option maxHeartbeats 1000000 in
theorem ok37 : FnOK prog 37 fs37 := by
 refine FnOK.mk cok func37 rfl rfl rfl ?_
 rintro fl ⟨(c : CallD),_⟩ hpre F hnt0 _
 have hnt : F.nt = 39 := hnt0.trans ntmps37
 clear hpre
 refine W.to (⟨[(0,.agg [.i c.proc,.i c.obj,.i c.kind,.i c.arg,.i c.ret,.i c.frm,.i c.to])],[],[999]⟩) rfl ?_
 refine Kk cok tab37 hnt [] [1] (⟨[(1,.ptr 1 0)],[(1,⟨40,.fix [.i c.proc,.i c.obj,.i c.kind,.i c.arg,.i c.ret,.i c.frm,.i c.to]⟩)],[1,999]⟩)
  (True ∧ True ∧ True)
  ⟨tt,tt,tt⟩ ?_
 refine Kk cok tab37 hnt [] [2] (⟨[(2,.b (((((((within c.proc (0 : Int) (2 : Int)) && (within c.obj (0 : Int) (1 : Int))) && (within c.kind (0 : Int) (2 : Int))) && (within c.arg (0 : Int) (3 : Int))) && (within c.ret (-1 : Int) (20 : Int))) && (within c.frm (0 : Int) (30 : Int))) && (within c.to (c.frm + (1 : Int)) (30 : Int))))],[(1,⟨40,.fix [.i c.proc,.i c.obj,.i c.kind,.i c.arg,.i c.ret,.i c.frm,.i c.to]⟩)],[1,999]⟩)
  ((fun (Z1:Bool)=>((fun (Z2:Bool)=>((fun (Z3:Bool)=>((fun (Z4:Bool)=>((fun (Z5:Bool)=>((fun (Z6:Bool)=>(True ∧ (True ∧ ((True ∧ ((True ∧ (True ∧ (True ∧ True))) ∧ True)) ∧ (True ∧ ((Z1 = true → True) ∧ ((Z1 = true → ((Z1 = true) ∧ True)) ∧ ((Z1 = true → (True ∧ ((((Z1 = true) ∧ True) ∧ (True ∧ (True ∧ True))) ∧ True))) ∧ ((True ∧ ((Z1 = true → (Z1 = true) ∧ True) ∧ (Z1 = false → True))) ∧ (True ∧ ((Z2 = true → True) ∧ ((Z2 = true → ((Z2 = true) ∧ True)) ∧ ((Z2 = true → (True ∧ ((((Z2 = true) ∧ True) ∧ (True ∧ (True ∧ True))) ∧ True))) ∧ ((True ∧ ((Z2 = true → (Z2 = true) ∧ True) ∧ (Z2 = false → True))) ∧ (True ∧ ((Z3 = true → True) ∧ ((Z3 = true → ((Z3 = true) ∧ True)) ∧ ((Z3 = true → (True ∧ ((((Z3 = true) ∧ True) ∧ (True ∧ (True ∧ True))) ∧ True))) ∧ ((True ∧ ((Z3 = true → (Z3 = true) ∧ True) ∧ (Z3 = false → True))) ∧ (True ∧ ((Z4 = true → True) ∧ ((Z4 = true → ((Z4 = true) ∧ True)) ∧ ((Z4 = true → (True ∧ ((((Z4 = true) ∧ True) ∧ (True ∧ (True ∧ True))) ∧ True))) ∧ ((True ∧ ((Z4 = true → (Z4 = true) ∧ True) ∧ (Z4 = false → True))) ∧ (True ∧ ((Z5 = true → True) ∧ ((Z5 = true → ((Z5 = true) ∧ True)) ∧ ((Z5 = true → (True ∧ ((((Z5 = true) ∧ True) ∧ (True ∧ (True ∧ True))) ∧ True))) ∧ ((True ∧ ((Z5 = true → (Z5 = true) ∧ True) ∧ (Z5 = false → True))) ∧ (True ∧ ((Z6 = true → True) ∧ ((Z6 = true → ((Z6 = true) ∧ True)) ∧ ((Z6 = true → True) ∧ ((Z6 = true → ((Z6 = true) ∧ True)) ∧ ((Z6 = true → (((Z6 = true) ∧ True) ∧ (True ∧ (Fits .i64 (c.frm + (1 : Int)))))) ∧ ((Z6 = true → (True ∧ ((((Z6 = true) ∧ True) ∧ (((Z6 = true) ∧ True) ∧ (True ∧ True))) ∧ True))) ∧ ((True ∧ ((Z6 = true → (Z6 = true) ∧ True) ∧ (Z6 = false → True))) ∧ (True ∧ True)))))))))))))))))))))))))))))))))))))) (Z5 && (within c.frm (0 : Int) (30 : Int))))) (Z4 && (within c.ret (-1 : Int) (20 : Int))))) (Z3 && (within c.arg (0 : Int) (3 : Int))))) (Z2 && (within c.kind (0 : Int) (2 : Int))))) (Z1 && (within c.obj (0 : Int) (1 : Int))))) (within c.proc (0 : Int) (2 : Int)))
  ⟨tt,tt,⟨tt,⟨tt,tt,tt,tt⟩,tt⟩,tt,(fun _ => trivial),(fun hG => ⟨hG,tt⟩),(fun hG => ⟨tt,⟨⟨hG,tt⟩,tt,tt,tt⟩,tt⟩),⟨tt,(fun hp => ⟨hp,tt⟩),(fun _ => trivial)⟩,tt,(fun _ => trivial),(fun hG => ⟨hG,tt⟩),(fun hG => ⟨tt,⟨⟨hG,tt⟩,tt,tt,tt⟩,tt⟩),⟨tt,(fun hp => ⟨hp,tt⟩),(fun _ => trivial)⟩,tt,(fun _ => trivial),(fun hG => ⟨hG,tt⟩),(fun hG => ⟨tt,⟨⟨hG,tt⟩,tt,tt,tt⟩,tt⟩),⟨tt,(fun hp => ⟨hp,tt⟩),(fun _ => trivial)⟩,tt,(fun _ => trivial),(fun hG => ⟨hG,tt⟩),(fun hG => ⟨tt,⟨⟨hG,tt⟩,tt,tt,tt⟩,tt⟩),⟨tt,(fun hp => ⟨hp,tt⟩),(fun _ => trivial)⟩,tt,(fun _ => trivial),(fun hG => ⟨hG,tt⟩),(fun hG => ⟨tt,⟨⟨hG,tt⟩,tt,tt,tt⟩,tt⟩),⟨tt,(fun hp => ⟨hp,tt⟩),(fun _ => trivial)⟩,tt,(fun _ => trivial),(fun hG => ⟨hG,tt⟩),(fun _ => trivial),(fun hG => ⟨hG,tt⟩),(fun hG => ⟨⟨hG,tt⟩,tt,(by have hh := hG; simp only [Bool.and_eq_true,inRange_iff] at hh; exact fits_i64 (by omega) (by omega))⟩),(fun hG => ⟨tt,⟨⟨hG,tt⟩,⟨hG,tt⟩,tt,tt⟩,tt⟩),⟨tt,(fun hp => ⟨hp,tt⟩),(fun _ => trivial)⟩,tt,tt⟩ ?_
 refine W.ret ?_
 exact endQ_ret (.b (((((((within c.proc (0 : Int) (2 : Int)) && (within c.obj (0 : Int) (1 : Int))) && (within c.kind (0 : Int) (2 : Int))) && (within c.arg (0 : Int) (3 : Int))) && (within c.ret (-1 : Int) (20 : Int))) && (within c.frm (0 : Int) (30 : Int))) && (within c.to (c.frm + (1 : Int)) (30 : Int)))) (by kernel_rfl) (@cast ((.bool (((((((within c.proc (0 : Int) (2 : Int)) && (within c.obj (0 : Int) (1 : Int))) && (within c.kind (0 : Int) (2 : Int))) && (within c.arg (0 : Int) (3 : Int))) && (within c.ret (-1 : Int) (20 : Int))) && (within c.frm (0 : Int) (30 : Int))) && (within c.to (c.frm + (1 : Int)) (30 : Int))) : Value) = .bool (isCall c)) _ (by kernel_rfl) (congrArg Value.bool (by rw [validCall_eq])))
theorem ent37 : Entr prog 37 := ⟨_,func37,rfl,by decide⟩
end Go.Proofs.Tryd
