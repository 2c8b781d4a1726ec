import Derived.Test.YthjkiipikpiepaaFrameB
namespace Go.Ab
/-! ### Words -/
def eqS (a b : ByteArray) : Bool := a.toList == b.toList
def nRegister : ByteArray := ⟨#[114, 101, 103, 105, 115, 116, 101, 114]⟩
def nQueue : ByteArray := ⟨#[113, 117, 101, 117, 101]⟩
def nStack : ByteArray := ⟨#[115, 116, 97, 99, 107]⟩
def nCounter : ByteArray := ⟨#[99, 111, 117, 110, 116, 101, 114]⟩
def nSet : ByteArray := ⟨#[115, 101, 116]⟩
def nMost : ByteArray := ⟨#[109, 111, 115, 116]⟩
def nEmpty : ByteArray := ⟨#[]⟩
def isObject (s : ByteArray) : Bool := eqS s nRegister || eqS s nQueue || eqS s nStack || eqS s nCounter || eqS s nSet || eqS s nMost
/-! ### Histories -/
def within (n low high : Int) : Bool := decide (low ≤ n) && decide (n ≤ high)
def isBefore (a b : CallD) : Bool := decide (a.to < b.frm)
def doOverlap (a b : CallD) : Bool := !isBefore a b && !isBefore b a
def isCall (c : CallD) : Bool :=
  within c.proc 0 2 && within c.obj 0 1 && within c.kind 0 2 && within c.arg 0 3 && within c.ret (-1) 20 && within c.frm 0 30 && within c.to 0 30 && decide (c.frm < c.to)
def clash (c o : CallD) : Bool :=
  decide (c.frm = o.frm) || decide (c.frm = o.to) || decide (c.to = o.frm) || decide (c.to = o.to) || (decide (c.proc = o.proc) && doOverlap c o)
def callAt (h : List CallD) (i : Nat) : CallD := h.getD i default
def validHistory (h : List CallD) : Bool :=
  decide (h.length ≤ 6) && allN h.length (fun i => isCall (callAt h i) && allN i (fun k => !clash (callAt h i) (callAt h k)))

theorem bool_ext {a b : Bool} (h : a = true ↔ b = true) : a = b := Bool.eq_iff_iff.2 h
theorem inRange_iff {n low high : Int} : within n low high = true ↔ low ≤ n ∧ n ≤ high := by simp [within]
theorem isCall_iff {c : CallD} : isCall c = true ↔ (0 ≤ c.proc ∧ c.proc ≤ 2) ∧ (0 ≤ c.obj ∧ c.obj ≤ 1) ∧ (0 ≤ c.kind ∧ c.kind ≤ 2) ∧ (0 ≤ c.arg ∧ c.arg ≤ 3) ∧ (-1 ≤ c.ret ∧ c.ret ≤ 20) ∧ (0 ≤ c.frm ∧ c.frm ≤ 30) ∧ (0 ≤ c.to ∧ c.to ≤ 30) ∧ c.frm < c.to := by
  simp [isCall, inRange_iff, and_assoc]
theorem overlap_iff {a b : CallD} : doOverlap a b = true ↔ b.frm ≤ a.to ∧ a.frm ≤ b.to := by simp [doOverlap, isBefore]
theorem clash_iff {c o : CallD} : clash c o = true ↔ c.frm = o.frm ∨ c.frm = o.to ∨ c.to = o.frm ∨ c.to = o.to ∨ (c.proc = o.proc ∧ o.frm ≤ c.to ∧ c.frm ≤ o.to) := by
  simp [clash, overlap_iff, or_assoc]
theorem validCall_eq (c : CallD) : isCall c = (within c.proc 0 2 && within c.obj 0 1 && within c.kind 0 2 && within c.arg 0 3 && within c.ret (-1) 20 && within c.frm 0 30 && within c.to (c.frm + 1) 30) := by
  apply bool_ext
  rw [isCall_iff]
  simp only [Bool.and_eq_true, inRange_iff]
  omega
theorem clash_false {c o : CallD} (h1 : (((decide (o.frm = c.frm) || decide (o.frm = c.to)) || decide (o.to = c.frm)) || decide (o.to = c.to)) = false)
    (h2 : ((decide (o.proc = c.proc) && decide (c.frm < o.to)) && decide (o.frm < c.to)) = false) : (!clash c o) = true := by
  have : ¬ clash c o = true := by
    rw [clash_iff]
    simp only [Bool.or_eq_false_iff, decide_eq_false_iff_not, Bool.and_eq_false_iff] at h1 h2
    omega
  simpa using this
theorem clash_true1 {c o : CallD} (h1 : (((decide (o.frm = c.frm) || decide (o.frm = c.to)) || decide (o.to = c.frm)) || decide (o.to = c.to)) = true) : (!clash c o) = false := by
  have : clash c o = true := by
    rw [clash_iff]
    simp only [Bool.or_eq_true, decide_eq_true_eq] at h1
    omega
  simpa using this
theorem clash_true2 {c o : CallD} (h2 : ((decide (o.proc = c.proc) && decide (c.frm < o.to)) && decide (o.frm < c.to)) = true) : (!clash c o) = false := by
  have : clash c o = true := by
    rw [clash_iff]
    simp only [Bool.and_eq_true, decide_eq_true_eq] at h2
    omega
  simpa using this
theorem valid_iff {h : List CallD} : validHistory h = true ↔ h.length ≤ 6 ∧ (∀ i, i < h.length → isCall (callAt h i) = true) ∧ ∀ i k, i < h.length → k < i → clash (callAt h i) (callAt h k) = false := by
  unfold validHistory
  simp only [Bool.and_eq_true, decide_eq_true_eq, allN_iff, Bool.not_eq_true']
  exact ⟨fun ⟨a, b⟩ => ⟨a, fun i hi => (b i hi).1, fun i k hi hk => (b i hi).2 k hk⟩, fun ⟨a, b, c⟩ => ⟨a, fun i hi => ⟨b i hi, fun k hk => c i k hi hk⟩⟩⟩

/-- The bounds that a drawn history keeps. -/
def smallC (c : CallD) : Prop := -100 ≤ c.frm ∧ c.frm ≤ 100 ∧ -100 ≤ c.to ∧ c.to ≤ 100
def GoodH (h : List CallD) : Prop := h.length ≤ 6 ∧ ∀ c ∈ h, smallC c
theorem getD_mem {α : Type} (l : List α) (d : α) {i : Nat} (h : i < l.length) : l.getD i d ∈ l := by
  rw [List.getD_eq_getElem?_getD, List.getElem?_eq_getElem h]
  exact List.getElem_mem h
theorem GoodH.at {h : List CallD} (hg : GoodH h) {i : Nat} (hi : i < h.length) : smallC (h.getD i default) := hg.2 _ (getD_mem h default hi)
theorem valid_good {h : List CallD} (hv : validHistory h = true) : GoodH h := by
  obtain ⟨h1, h2, _⟩ := valid_iff.1 hv
  refine ⟨h1, fun c hc => ?_⟩
  obtain ⟨i, hi, rfl⟩ := List.mem_iff_getElem.1 hc
  have := h2 i hi
  rw [show callAt h i = h[i] by simp [callAt, hi], isCall_iff] at this
  unfold smallC
  omega
theorem GoodH.nil : GoodH [] := ⟨by simp, by simp⟩
theorem GoodH.snoc {h : List CallD} {c : CallD} (hg : GoodH h) (hl : h.length < 6) (hc : smallC c) : GoodH (h ++ [c]) := by
  refine ⟨by simp; omega, fun x hx => ?_⟩
  rcases List.mem_append.1 hx with h1 | h1
  · exact hg.2 x h1
  · simp at h1; subst h1; exact hc
/-! ### Objects, as the reference has them -/
def hasInt (l : List Int) (n : Int) : Bool := anyN l.length (fun i => decide (l.getD i 0 = n))
def specStep (name : ByteArray) (state : List Int) (c : CallD) : List Int × Bool :=
  bif decide (c.kind = 0) then
    bif eqS name nRegister then ([c.arg], decide (c.ret = 0))
    else bif eqS name nCounter then
      bif decide (((state.length : Nat) : Int) = 0) then ([c.arg], decide (c.ret = 0)) else ([state.getD 0 0 + c.arg], decide (c.ret = 0))
    else bif eqS name nMost then
      bif (decide (0 < ((state.length : Nat) : Int)) && decide (c.arg < state.getD 0 0)) then (state, decide (c.ret = 0)) else ([c.arg], decide (c.ret = 0))
    else bif eqS name nSet then
      bif hasInt state c.arg then (state, decide (c.ret = 0)) else (state ++ [c.arg], decide (c.ret = 1))
    else (state ++ [c.arg], decide (c.ret = 0))
  else bif decide (c.kind = 2) then
    bif eqS name nQueue then
      bif decide (((state.length : Nat) : Int) = 0) then (state, decide (c.ret = -1)) else (state, decide (c.ret = state.getD 0 0))
    else bif eqS name nStack then
      bif decide (((state.length : Nat) : Int) = 0) then (state, decide (c.ret = -1)) else (state, decide (c.ret = state.getD (state.length - 1) 0))
    else bif eqS name nSet then
      bif hasInt state c.arg then (state, decide (c.ret = 1)) else (state, decide (c.ret = 0))
    else bif decide (((state.length : Nat) : Int) = 0) then (state, decide (c.ret = 0)) else (state, decide (c.ret = state.getD 0 0))
  else
    bif eqS name nQueue then
      bif decide (((state.length : Nat) : Int) = 0) then (state, decide (c.ret = -1)) else (state.drop 1, decide (c.ret = state.getD 0 0))
    else bif eqS name nStack then
      bif decide (((state.length : Nat) : Int) = 0) then (state, decide (c.ret = -1)) else (state.take (state.length - 1), decide (c.ret = state.getD (state.length - 1) 0))
    else bif eqS name nSet then
      bif hasInt state c.arg then (state.erase c.arg, decide (c.ret = 1)) else (state, decide (c.ret = 0))
    else bif decide (((state.length : Nat) : Int) = 0) then ([], decide (c.ret = 0)) else ([], decide (c.ret = state.getD 0 0))

theorem if_bif {α : Type} (b : Bool) (x y : α) : (bif b then x else y) = if b = true then x else y := by cases b <;> rfl
theorem erase_at (l : List Int) (a : Int) (i : Nat) (hi : i < l.length) (h : l.getD i 0 = a) (hn : ∀ j, j < i → ¬ l.getD j 0 = a) : l.take i ++ l.drop (i + 1) = l.erase a := by
  induction l generalizing i with
  | nil => simp at hi
  | cons x l ih =>
    cases i with
    | zero => simp at h; subst h; simp
    | succ i =>
      have h0 := hn 0 (by omega)
      simp at h0
      rw [List.erase_cons_tail (by simpa using h0)]
      simp only [List.take_succ_cons, List.drop_succ_cons, List.cons_append]
      rw [ih i (by simpa using hi) (by simpa using h) (fun j hj => by simpa using hn (j + 1) (by omega))]

def okState (n : Nat) (b : Int) (l : List Int) : Prop := l.length ≤ n ∧ ∀ x ∈ l, 0 ≤ x ∧ x ≤ b
theorem specStep_ok {name : ByteArray} {l : List Int} {c : CallD} {n : Nat} {b : Int} (h : okState n b l) (h1 : 0 ≤ c.arg) (h2 : c.arg ≤ 3) (hb : 0 ≤ b) : okState (n + 1) (b + 3) (specStep name l c).1 := by
  obtain ⟨hl, hx⟩ := h
  have hself : okState (n + 1) (b + 3) l := ⟨by omega, fun x hx' => by have := hx x hx'; omega⟩
  have hsnoc : okState (n + 1) (b + 3) (l ++ [c.arg]) := ⟨by simp; omega, fun x hx' => by
    rcases List.mem_append.1 hx' with h | h
    · have := hx x h; omega
    · simp at h; omega⟩
  have hone : okState (n + 1) (b + 3) [c.arg] := ⟨by simp, fun x hx' => by simp at hx'; omega⟩
  have hsum : ¬ ((l.length : Nat) : Int) = 0 → okState (n + 1) (b + 3) [l.getD 0 0 + c.arg] := fun hne => ⟨by simp, fun x hx' => by
    simp only [List.mem_cons, List.not_mem_nil, or_false] at hx'
    have := hx _ (getD_mem l 0 (show 0 < l.length by omega)); omega⟩
  have hdrop : okState (n + 1) (b + 3) (l.drop 1) := ⟨by simp; omega, fun x hx' => hself.2 x (List.mem_of_mem_drop hx')⟩
  have htake : okState (n + 1) (b + 3) (l.take (l.length - 1)) := ⟨by simp; omega, fun x hx' => hself.2 x (List.mem_of_mem_take hx')⟩
  have herase : okState (n + 1) (b + 3) (l.erase c.arg) := ⟨by have := List.length_erase_le (a := c.arg) (l := l); omega, fun x hx' => hself.2 x (List.mem_of_mem_erase hx')⟩
  have hnil : okState (n + 1) (b + 3) [] := ⟨by simp, by simp⟩
  unfold specStep
  simp only [if_bif, decide_eq_true_eq]
  repeat' split
  all_goals first | assumption | exact hsum (by assumption)
def okStates (n : Nat) (b : Int) (ss : List (List Int)) : Prop := ss.length = 2 ∧ ∀ l ∈ ss, okState n b l
theorem okStates.mono {n : Nat} {b : Int} {ss : List (List Int)} (h : okStates n b ss) : okStates (n + 1) (b + 3) ss :=
  ⟨h.1, fun l hl => ⟨by have := (h.2 l hl).1; omega, fun x hx => by have := (h.2 l hl).2 x hx; omega⟩⟩
theorem okStates.set {n : Nat} {b : Int} {ss : List (List Int)} (h : okStates n b ss) {i : Nat} {l : List Int} (hl : okState (n + 1) (b + 3) l) : okStates (n + 1) (b + 3) (ss.set i l) := by
  refine ⟨by simpa using h.1, fun x hx => ?_⟩
  rcases List.mem_or_eq_of_mem_set hx with h1 | rfl
  · exact h.mono.2 x h1
  · exact hl
theorem okStates.at {n : Nat} {b : Int} {ss : List (List Int)} (h : okStates n b ss) {i : Nat} (hi : i < 2) : okState n b (ss.getD i []) := h.2 _ (getD_mem ss [] (by rw [h.1]; exact hi))

theorem okStates.step {o : List CallD} {c : CallD} {ss : List (List Int)} (h : okStates o.length (3 * ((o.length : Nat) : Int)) ss) : okStates (o ++ [c]).length (3 * (((o ++ [c]).length : Nat) : Int)) ss := by
  have := h.mono
  rw [show (o ++ [c]).length = o.length + 1 by simp, show 3 * ((o.length + 1 : Nat) : Int) = 3 * ((o.length : Nat) : Int) + 3 by omega]
  exact this
theorem okStates.stepSet {o : List CallD} {c d : CallD} {ss : List (List Int)} (h : okStates o.length (3 * ((o.length : Nat) : Int)) ss) {i : Nat} {nm : ByteArray} (hi : i < 2) (h1 : 0 ≤ d.arg) (h2 : d.arg ≤ 3) :
    okStates (o ++ [c]).length (3 * (((o ++ [c]).length : Nat) : Int)) (ss.set i (specStep nm (ss.getD i []) d).1) := by
  rw [show (o ++ [c]).length = o.length + 1 by simp, show 3 * ((o.length + 1 : Nat) : Int) = 3 * ((o.length : Nat) : Int) + 3 by omega]
  exact h.set (specStep_ok (h.at hi) h1 h2 (by omega))

/-! ### One writer -/
def owOK (c : CallD) : Bool := decide (c.obj = 0) && !decide (c.kind = 1) && (decide (c.kind ≠ 0) || (decide (c.proc = 0) && decide (c.ret = 0) && decide (1 ≤ c.arg)))
def samePut (c o : CallD) : Bool := decide (c.kind = 0) && decide (o.kind = 0) && decide (c.arg = o.arg)
def oneWriter (h : List CallD) : Bool := validHistory h && allN h.length (fun i => owOK (callAt h i) && allN i (fun k => !samePut (callAt h i) (callAt h k)))

theorem owOK_iff {c : CallD} : owOK c = true ↔ c.obj = 0 ∧ c.kind ≠ 1 ∧ (c.kind ≠ 0 ∨ (c.proc = 0 ∧ c.ret = 0 ∧ 1 ≤ c.arg)) := by
  simp [owOK, and_assoc]
theorem of_not_iff {b : Bool} {p : Prop} (h : b = true ↔ p) (hn : ¬ p) : b = false := by
  cases b with
  | false => rfl
  | true => exact absurd (h.1 rfl) hn
theorem ow_1 {c : CallD} (h : (decide (c.obj ≠ 0) || decide (c.kind = 1)) = true) : owOK c = false := by
  simp only [Bool.or_eq_true, decide_eq_true_eq] at h
  exact of_not_iff owOK_iff (by omega)
theorem ow_2 {c : CallD} (h0 : ¬ c.kind ≠ 0) (h : ((decide (c.proc ≠ 0) || decide (c.ret ≠ 0)) || decide (c.arg < 1)) = true) : owOK c = false := by
  simp only [Bool.or_eq_true, decide_eq_true_eq] at h
  exact of_not_iff owOK_iff (by omega)
theorem ow_3 {c : CallD} (h : (decide (c.obj ≠ 0) || decide (c.kind = 1)) = false) (h0 : c.kind ≠ 0) : owOK c = true := by
  simp only [Bool.or_eq_false_iff, decide_eq_false_iff_not] at h
  exact owOK_iff.2 (by omega)
theorem ow_4 {c : CallD} (h1 : (decide (c.obj ≠ 0) || decide (c.kind = 1)) = false) (h : ((decide (c.proc ≠ 0) || decide (c.ret ≠ 0)) || decide (c.arg < 1)) = false) : owOK c = true := by
  simp only [Bool.or_eq_false_iff, decide_eq_false_iff_not] at h h1
  exact owOK_iff.2 (by omega)
theorem put_no {c o : CallD} (h0 : c.kind ≠ 0) : (!samePut c o) = true := by simp [samePut, h0]
theorem put_1 {c o : CallD} (h0 : ¬ c.kind ≠ 0) (h : (decide (o.kind = 0) && decide (o.arg = c.arg)) = true) : (!samePut c o) = false := by
  simp only [Bool.and_eq_true, decide_eq_true_eq] at h
  simp only [samePut, Bool.not_eq_false', Bool.and_eq_true, decide_eq_true_eq]; omega
theorem put_2 {c o : CallD} (h : (decide (o.kind = 0) && decide (o.arg = c.arg)) = false) : (!samePut c o) = true := by
  simp only [Bool.and_eq_false_iff, decide_eq_false_iff_not] at h
  simp only [samePut, Bool.not_eq_true', Bool.and_eq_false_iff, decide_eq_false_iff_not]; omega
theorem put_3 {c o : CallD} (h : ((decide (c.kind = 0) && decide (o.kind = 0)) && decide (c.arg = o.arg)) = true) : (!samePut c o) = false := by unfold samePut; rw [h]; rfl
theorem put_4 {c o : CallD} (h : ((decide (c.kind = 0) && decide (o.kind = 0)) && decide (c.arg = o.arg)) = false) : (!samePut c o) = true := by unfold samePut; rw [h]; rfl
theorem ow_5 {c : CallD} (h : ((decide (c.obj ≠ 0) || decide (c.kind = 1)) || (decide (c.kind = 0) && ((decide (c.proc ≠ 0) || decide (c.arg = 0)) || decide (c.ret ≠ 0)))) = true) : owOK c = false := by
  simp only [Bool.or_eq_true, Bool.and_eq_true, decide_eq_true_eq] at h
  exact of_not_iff owOK_iff (by omega)
theorem ow_6 {c : CallD} (hc : isCall c = true) (h : ((decide (c.obj ≠ 0) || decide (c.kind = 1)) || (decide (c.kind = 0) && ((decide (c.proc ≠ 0) || decide (c.arg = 0)) || decide (c.ret ≠ 0)))) = false) : owOK c = true := by
  simp only [Bool.or_eq_false_iff, Bool.and_eq_false_iff, decide_eq_false_iff_not] at h
  have := isCall_iff.1 hc
  exact owOK_iff.2 (by omega)
theorem oneWriter_iff {h : List CallD} : oneWriter h = true ↔ validHistory h = true ∧ (∀ i, i < h.length → owOK (callAt h i) = true) ∧ ∀ i k, i < h.length → k < i → samePut (callAt h i) (callAt h k) = false := by
  unfold oneWriter
  simp only [Bool.and_eq_true, allN_iff, Bool.not_eq_true']
  exact ⟨fun ⟨a, b⟩ => ⟨a, fun i hi => (b i hi).1, fun i k hi hk => (b i hi).2 k hk⟩, fun ⟨a, b, c⟩ => ⟨a, fun i hi => ⟨b i hi, fun k hk => c i k hi hk⟩⟩⟩
/-- One writer writes one after the other. -/
theorem ow_apart {h : List CallD} (ho : oneWriter h = true) {i k : Nat} (hi : i < h.length) (hk : k < i) (h1 : (h.getD i default).kind = 0) (h2 : (h.getD k default).kind = 0) (h3 : doOverlap (h.getD i default) (h.getD k default) = true) : False := by
  obtain ⟨hv, hw, _⟩ := oneWriter_iff.1 ho
  have a1 := owOK_iff.1 (hw i hi)
  have a2 := owOK_iff.1 (hw k (by omega))
  have a3 := (valid_iff.1 hv).2.2 i k hi hk
  have a4 : ¬ clash (callAt h i) (callAt h k) = true := by rw [a3]; simp
  rw [clash_iff] at a4
  have a5 := overlap_iff.1 h3
  unfold callAt at *
  omega

theorem xor_nonneg {a b : Int} (ha : 0 ≤ a) (hb : 0 ≤ b) (h1 : a ≤ 9223372036854775807) (h2 : b ≤ 9223372036854775807) : 0 ≤ bitsI .xor .i64 a b := by
  have e : (BitVec.ofInt 64 a ^^^ BitVec.ofInt 64 b).toNat < 2 ^ 63 := by
    rw [BitVec.toNat_xor]
    apply Nat.xor_lt_two_pow
    · rw [BitVec.toNat_ofInt]; omega
    · rw [BitVec.toNat_ofInt]; omega
  have e2 : bitsI .xor .i64 a b = IntKind.i64.wrap ((BitVec.ofInt 64 a ^^^ BitVec.ofInt 64 b).toNat : Int) := rfl
  rw [e2, IntWalk.i64_in _ (by omega)]
  omega
end Go.Ab
