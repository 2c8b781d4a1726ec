import Derived.Test.YtjcapebfkgoicaaDoorTF5S0
set_option linter.unusedSimpArgs false
set_option linter.unusedVariables false
namespace Go.Ab
def maxN : Nat → (Nat → Int) → Int
 | 0,_ => 0
 | n + 1,f => max (maxN n f) (f n)
theorem le_maxN {n : Nat} {f : Nat → Int} {i : Nat} (h : i < n) : f i ≤ maxN n f := by
 induction n with
 | zero => omega
 | succ n ih =>
  simp only [maxN]
  by_cases hi : i = n
  ·subst hi; omega
  ·have := ih (by omega); omega
theorem maxN_le {n : Nat} {f : Nat → Int} {b : Int} (hb : 0 ≤ b) (h : ∀ i,i < n → f i ≤ b) : maxN n f ≤ b := by
 induction n with
 | zero => simpa [maxN] using hb
 | succ n ih => simp only [maxN]; have := h n (by omega); have := ih (fun i hi => h i (by omega)); omega
theorem maxN_get {n : Nat} {f : Nat → Int} (h : 0 < maxN n f) : ∃ i,i < n ∧ f i = maxN n f := by
 induction n with
 | zero => simp [maxN] at h
 | succ n ih =>
  simp only [maxN] at h ⊢
  by_cases hc : maxN n f ≤ f n
  ·exact ⟨n,by omega,by omega⟩
  ·obtain ⟨i,h1,h2⟩ := ih (by omega)
   exact ⟨i,by omega,by omega⟩
theorem maxN_congr {n : Nat} {f g : Nat → Int} (h : ∀ i,i < n → f i = g i) : maxN n f = maxN n g := by
 induction n with
 | zero => rfl
 | succ n ih => simp only [maxN]; rw [h n (by omega),ih (fun i hi => h i (by omega))]
theorem count_mono {l : List Nat} {p q : Nat → Bool} (h : ∀ x ∈ l,p x = true → q x = true) : l.countP p ≤ l.countP q := List.countP_mono_left h
theorem count_lt {l : List Nat} {p q : Nat → Bool} (h : ∀ x ∈ l,p x = true → q x = true) {x0 : Nat} (hx : x0 ∈ l) (h1 : q x0 = true) (h2 : p x0 = false) : l.countP p + 1 ≤ l.countP q := by
 induction l with
 | nil => simp at hx
 | cons a l ih =>
  rw [List.countP_cons,List.countP_cons]
  rcases List.mem_cons.1 hx with rfl | hx'
  ·have := count_mono (l := l) (fun x hx => h x (List.mem_cons_of_mem _ hx))
   rw [if_pos h1,if_neg (by rw [h2]; simp)]; omega
  ·have := ih (fun x hx => h x (List.mem_cons_of_mem _ hx)) hx'
   have ha := h a (List.mem_cons_self ..)
   by_cases hp : p a = true
   ·rw [if_pos hp,if_pos (ha hp)]; omega
   ·rw [if_neg hp]; split <;> omega
def mbF (h : List CallD) (l : Nat → Int) (i : Nat) : Int := maxN h.length (fun k => bif isBefore (callAt h k) (callAt h i) then l k + 1 else 0)
def levF (h : List CallD) : Nat → Nat → Int
 | 0,_ => 0
 | n + 1,i => mbF h (levF h n) i
def lev (h : List CallD) (i : Nat) : Int := levF h 31 i
def levOf (h : List CallD) : List Int := (List.range h.length).map (lev h)
theorem levOf_len (h : List CallD) : (levOf h).length = h.length := by simp [levOf]
theorem levOf_get {h : List CallD} {i : Nat} (hi : i < h.length) : (levOf h).getD i 0 = lev h i := by simp [levOf,List.getD_eq_getElem?_getD,hi]
theorem bef_iff {a b : CallD} : isBefore a b = true ↔ a.to < b.frm := by simp [isBefore]
theorem levF_stable {h : List CallD} (hv : validHistory h = true) : ∀ (n i : Nat),i < h.length → (callAt h i).frm < n → levF h (n + 1) i = levF h n i := by
 intro n
 induction n with
 | zero => intro i hi hlt; have := call_ok hv hi; omega
 | succ n ih =>
  intro i hi hlt
  show mbF h (levF h (n + 1)) i = mbF h (levF h n) i
  apply maxN_congr
  intro k hk
  cases hb : isBefore (callAt h k) (callAt h i) with
  | false => rfl
  | true =>
   have h1 := bef_iff.1 hb
   have h2 := call_ok hv hk
   simp only [cond_true]
   rw [ih k hk (by omega)]
theorem lev_fix {h : List CallD} (hv : validHistory h = true) {i : Nat} (hi : i < h.length) : lev h i = mbF h (lev h) i := by
 have := levF_stable hv 31 i hi (by have := call_ok hv hi; omega)
 exact this.symm
theorem lev_lt {h : List CallD} (hv : validHistory h = true) {i k : Nat} (hi : i < h.length) (hk : k < h.length) (hb : isBefore (callAt h k) (callAt h i) = true) : lev h k + 1 ≤ lev h i := by
 rw [lev_fix hv hi]
 have := le_maxN (n := h.length) (f := fun k => bif isBefore (callAt h k) (callAt h i) then lev h k + 1 else 0) hk
 simp only [hb,cond_true] at this
 exact this
theorem lev_pred {h : List CallD} (hv : validHistory h = true) {i : Nat} (hi : i < h.length) (h0 : 0 < lev h i) : ∃ k,k < h.length ∧ isBefore (callAt h k) (callAt h i) = true ∧ lev h k + 1 = lev h i := by
 rw [lev_fix hv hi] at h0
 obtain ⟨k,hk,he⟩ := maxN_get h0
 cases hb : isBefore (callAt h k) (callAt h i) with
 | false => simp only [hb,cond_false] at he; unfold mbF at h0; omega
 | true => simp only [hb,cond_true] at he; exact ⟨k,hk,hb,by rw [lev_fix hv hi]; exact he⟩
theorem levF_count {h : List CallD} (hv : validHistory h = true) : ∀ (n i : Nat),i < h.length → levF h n i ≤ (((List.range h.length).countP (fun j => decide ((callAt h j).frm < (callAt h i).frm)) : Nat) : Int) := by
 intro n
 induction n with
 | zero => intro i _; simp [levF]
 | succ n ih =>
  intro i hi
  refine maxN_le (by omega) (fun k hk => ?_)
  cases hb : isBefore (callAt h k) (callAt h i) with
  | false => simp only [cond_false]; omega
  | true =>
   simp only [cond_true]
   have h1 := ih k hk
   have h2 := bef_iff.1 hb
   have h3 := call_ok hv hk
   have h4 := count_lt (l := List.range h.length) (p := fun j => decide ((callAt h j).frm < (callAt h k).frm)) (q := fun j => decide ((callAt h j).frm < (callAt h i).frm))
    (fun x _ hx => by simp only [decide_eq_true_eq] at hx ⊢; omega) (List.mem_range.2 hk) (by simp only [decide_eq_true_eq]; omega) (by simp)
   omega
theorem lev_len {h : List CallD} (hv : validHistory h = true) {i : Nat} (hi : i < h.length) : lev h i ≤ ((h.length : Nat) : Int) := by
 have h1 := levF_count hv 31 i hi
 have h2 := List.countP_le_length (p := fun j => decide ((callAt h j).frm < (callAt h i).frm)) (l := List.range h.length)
 rw [List.length_range] at h2
 unfold lev; omega
def Rd (h : List CallD) (r : Nat) (i : Nat) (o : List Int) : Prop :=
 o.length = h.length ∧ ∀ j,j < h.length → 0 ≤ o.getD j 0 ∧ o.getD j 0 ≤ lev h j ∧ (lev h j ≤ r → o.getD j 0 = lev h j) ∧ (j < i → lev h j ≤ r + 1 → o.getD j 0 = lev h j)
def RdK (h : List CallD) (r : Nat) (i k : Nat) (o : List Int) : Prop :=
 Rd h r i o ∧ ∀ k',k' < k → isBefore (callAt h k') (callAt h i) = true → lev h k' ≤ r → lev h k' + 1 ≤ o.getD i 0
theorem getD_set (l : List Int) (i j : Nat) (v : Int) (hi : i < l.length) : (l.set i v).getD j 0 = if i = j then v else l.getD j 0 := by
 rw [List.getD_eq_getElem?_getD,List.getElem?_set]
 by_cases hij : i = j
 ·subst hij; simp [hi]
 ·simp [hij,List.getD_eq_getElem?_getD]
theorem Rd.next {h : List CallD} {r : Nat} {o : List Int} (hr : Rd h r h.length o) : Rd h (r + 1) 0 o :=
 ⟨hr.1,fun j hj => by have := hr.2 j hj; exact ⟨this.1,this.2.1,fun hl => this.2.2.2 hj (by omega),by omega⟩⟩
theorem RdK.skip {h : List CallD} {r i k : Nat} {o : List Int} (hr : RdK h r i k o) (hb : isBefore (callAt h k) (callAt h i) = false) : RdK h r i (k + 1) o :=
 ⟨hr.1,fun k' hk hb' hl => by
  rcases Nat.lt_succ_iff_lt_or_eq.1 hk with h1 | rfl
  ·exact hr.2 k' h1 hb' hl
  ·rw [hb] at hb'; cases hb'⟩
theorem RdK.set {h : List CallD} (hv : validHistory h = true) {r i k : Nat} {o : List Int} (hr : RdK h r i k o) (hi : i < h.length) (hk : k < h.length) (hb : isBefore (callAt h k) (callAt h i) = true) :
  RdK h r i (k + 1) (o.set i (max (o.getD i 0) (o.getD k 0 + 1))) := by
 obtain ⟨⟨hl,hr1⟩,hr2⟩ := hr
 have hlt := lev_lt hv hi hk hb
 have h1 := hr1 i hi
 have h2 := hr1 k hk
 refine ⟨⟨by simpa using hl,fun j hj => ?_⟩,fun k' hk' hb' hl' => ?_⟩
 ·rw [getD_set _ _ _ _ (by omega)]
  split
  ·rename_i he; subst he
   exact ⟨by omega,by omega,fun hle => by have := h1.2.2.1 hle; omega,fun hle => by omega⟩
  ·exact hr1 j hj
 ·rw [getD_set _ _ _ _ (by omega),if_pos rfl]
  rcases Nat.lt_succ_iff_lt_or_eq.1 hk' with h3 | rfl
  ·have := hr2 k' h3 hb' hl'; omega
  ·have := h2.2.2.1 hl'; omega
theorem RdK.done {h : List CallD} (hv : validHistory h = true) {r i : Nat} {o : List Int} (hr : RdK h r i h.length o) (hi : i < h.length) : Rd h r (i + 1) o := by
 obtain ⟨⟨hl,hr1⟩,hr2⟩ := hr
 refine ⟨hl,fun j hj => ⟨(hr1 j hj).1,(hr1 j hj).2.1,(hr1 j hj).2.2.1,fun hji hle => ?_⟩⟩
 rcases Nat.lt_succ_iff_lt_or_eq.1 hji with h1 | rfl
 ·exact (hr1 j hj).2.2.2 h1 hle
 ·have h1 := hr1 j hj
  rcases Int.lt_or_le 0 (lev h j) with h0 | h0
  ·obtain ⟨k,hk,hb,he⟩ := lev_pred hv hj h0
   have := hr2 k hk hb (by omega)
   omega
  ·omega
theorem Rd.end {h : List CallD} (hv : validHistory h = true) {r : Nat} {o : List Int} (hr : Rd h r 0 o) (hn : h.length ≤ r) : o = levOf h := by
 apply ints_ext (by rw [hr.1,levOf_len])
 intro j hj
 have hj' : j < h.length := by rw [← hr.1]; exact hj
 rw [levOf_get hj']
 exact (hr.2 j hj').2.2.1 (by have := lev_len hv hj'; omega)
end Go.Ab
namespace Go.Ab
end Go.Ab

set_option linter.unusedSimpArgs false
set_option linter.unusedVariables false
namespace Go.Ab
def fIdx (n : Nat) (p : Nat → Bool) : Option Nat := (List.range n).find? p
def putF (h : List CallD) (r : Int) (k : Nat) : Bool := decide ((callAt h k).kind = 0) && decide ((callAt h k).arg = r)
def idxV : Option Nat → Int
 | some k => ((k : Nat) : Int)
 | none => -2
def sourceR (h : List CallD) (r : Int) : Int := bif decide (r = 0) then -1 else idxV (fIdx h.length (putF h r))
def olderR (h : List CallD) (a b : Int) : Bool := bif decide (b < 0) then false else (decide (a = -1) || (decide (0 ≤ a) && isBefore (callAt h a.toNat) (callAt h b.toNat)))
def turnP (h : List CallD) (i k : Nat) : Bool :=
 ((decide ((callAt h i).kind = 2) && decide ((callAt h k).kind = 2)) && isBefore (callAt h i) (callAt h k)) && olderR h (sourceR h (callAt h k).ret) (sourceR h (callAt h i).ret)
def turn (h : List CallD) : Int × Int × Bool :=
 match fIdx h.length (fun i => anyN h.length (turnP h i)) with
 | some i => match fIdx h.length (turnP h i) with
  | some k => (((i : Nat) : Int),((k : Nat) : Int),true)
  | none => (-1,-1,false)
 | none => (-1,-1,false)
end Go.Ab

set_option linter.unusedSimpArgs false
set_option linter.unusedVariables false
namespace Go.Ab
end Go.Ab

set_option linter.unusedSimpArgs false
set_option linter.unusedVariables false
namespace Go.Ab
def ordOK (l : List Int) (n : Int) (i : Nat) : Bool := within (l.getD i 0) 0 (n - 1) && !hasInt (l.take i) (l.getD i 0)
def isOrd (l : List Int) (n : Int) : Bool := allN l.length (ordOK l n) && decide (((l.length : Nat) : Int) = n)
def GoodO (l : List Int) (n : Nat) : Prop := l.length = n ∧ (∀ x ∈ l,0 ≤ x ∧ x < ((n : Nat) : Int)) ∧ l.Nodup
theorem GoodO.nil : GoodO [] 0 := ⟨rfl,by simp,List.nodup_nil⟩
theorem GoodO.put {l : List Int} {n : Nat} (h : GoodO l n) (k : Nat) : GoodO (l.take k ++ [((n : Nat) : Int)] ++ l.drop k) (n + 1) := by
 obtain ⟨h1,h2,h3⟩ := h
 refine ⟨by simp only [List.length_append,List.length_take,List.length_drop,List.length_cons,List.length_nil]; omega,fun x hx => ?_,?_⟩
 ·simp only [List.mem_append,List.mem_cons,List.not_mem_nil,or_false] at hx
  rcases hx with (hx | hx) | hx
  ·have := h2 x (List.mem_of_mem_take hx); omega
  ·omega
  ·have := h2 x (List.mem_of_mem_drop hx); omega
 ·have hn : ((n : Nat) : Int) ∉ l := fun hm => by have := h2 _ hm; omega
  have hp : (l.take k ++ [((n : Nat) : Int)] ++ l.drop k).Perm (((n : Nat) : Int) :: l) := by
   rw [List.append_assoc,List.singleton_append]
   refine List.perm_middle.trans ?_
   rw [List.take_append_drop]
  exact hp.nodup_iff.2 (List.nodup_cons.2 ⟨hn,h3⟩)
end Go.Ab

set_option linter.unusedSimpArgs false
set_option linter.unusedVariables false
namespace Go.Ab
end Go.Ab

set_option linter.unusedSimpArgs false
set_option linter.unusedVariables false
namespace Go.Ab
end Go.Ab

set_option linter.unusedSimpArgs false
set_option linter.unusedVariables false
namespace Go.Ab
end Go.Ab
namespace Go.Ab
end Go.Ab
namespace Go.Ab
end Go.Ab

set_option linter.unusedSimpArgs false
set_option linter.unusedVariables false
namespace Go.Ab
def ordAt (h : List CallD) (o : List Int) (i : Nat) : CallD := callAt h (o.getD i 0).toNat
def sts (s : ByteArray) (h : List CallD) (o : List Int) : Nat → List (List Int)
  | 0 => [[], []]
  | i + 1 => (sts s h o i).set (ordAt h o i).obj.toNat (specStep s ((sts s h o i).getD (ordAt h o i).obj.toNat []) (ordAt h o i)).1
def okAt (s : ByteArray) (h : List CallD) (o : List Int) (i : Nat) : Bool := (specStep s ((sts s h o i).getD (ordAt h o i).obj.toNat []) (ordAt h o i)).2
def runsB (s : ByteArray) (h : List CallD) (o : List Int) : Bool := allN o.length (okAt s h o)
def rightB (s : ByteArray) (h : List CallD) (o : List Int) : Bool := ((isObject s && validHistory h) && isOrd o ((h.length : Nat) : Int)) && runsB s h o
def behind (s : ByteArray) (h : List CallD) (o : List Int) (x : Int) : List Int × Bool := bif rightB s h o && within x 0 1 then ((sts s h o o.length).getD x.toNat [], true) else ([], false)
end Go.Ab
namespace Go.Ab
end Go.Ab
namespace Go.Ab
end Go.Ab
namespace Go.Ab
end Go.Ab
namespace Go.Ab
end Go.Ab
namespace Go.Ab
end Go.Ab
namespace Go.Ab
end Go.Ab
namespace Go.Ab
end Go.Ab

set_option linter.unusedSimpArgs false
set_option linter.unusedVariables false
namespace Go.Ab
end Go.Ab
namespace Go.Ab
end Go.Ab

set_option linter.unusedSimpArgs false
set_option linter.unusedVariables false
namespace Go.Ab
end Go.Ab
namespace Go.Ab
end Go.Ab
namespace Go.Ab
end Go.Ab
namespace Go.Ab
end Go.Ab

set_option linter.unusedSimpArgs false
set_option linter.unusedVariables false
namespace Go.Ab
end Go.Ab
namespace Go.Ab
end Go.Ab
namespace Go.Ab
section
variable {s : ByteArray} {h : List CallD} {f : Nat → Nat → Bool} {o : List Int}
end
end Go.Ab
namespace Go.Ab
end Go.Ab
namespace Go.Ab
section
variable {s : ByteArray} {h : List CallD} {f : Nat → Nat → Bool} {o : List Int}
end
end Go.Ab

set_option linter.unusedSimpArgs false
set_option linter.unusedVariables false
namespace Go.Ab
section
variable {s : ByteArray} {h : List CallD} {f g : Nat → Nat → Bool} {rows : List Int}
end
end Go.Ab
namespace Go.Ab
end Go.Ab
namespace Go.Ab
end Go.Ab

set_option linter.unusedSimpArgs false
set_option linter.unusedVariables false
namespace Go.Ab
theorem calls_ext {a b : List CallD} (hl : a.length = b.length) (h : ∀ j,j < a.length → a.getD j default = b.getD j default) : a = b := by
 apply List.ext_getElem hl
 intro i h1 h2
 have := h i h1
 rw [List.getD_eq_getElem?_getD,List.getElem?_eq_getElem h1,List.getD_eq_getElem?_getD,List.getElem?_eq_getElem h2] at this
 exact this
theorem call_ext {a b : CallD} (h1 : a.proc = b.proc) (h2 : a.obj = b.obj) (h3 : a.kind = b.kind) (h4 : a.arg = b.arg) (h5 : a.ret = b.ret) (h6 : a.frm = b.frm) (h7 : a.to = b.to) : a = b := by
 cases a; cases b; simp_all
end Go.Ab

set_option linter.unusedSimpArgs false
set_option linter.unusedVariables false
namespace Go.Ab
def byteI (l : List UInt8) (i : Int) : Int := ((UInt8.toNat (List.getD l i.toNat default) : Nat) : Int)
def mixV (l : List UInt8) (k : Int) : Int :=
 byteI l (Int.tmod k ((l.length : Nat) : Int)) * 131 + byteI l (Int.tmod (k * 7 + 3) ((l.length : Nat) : Int)) * 1117 + k * 29 + Int.tdiv k ((l.length : Nat) : Int) * 53
def pickV (l : List UInt8) (p n : Int) : Int :=
 bif decide (n < 1) || decide (((l.length : Nat) : Int) = 0) then 0
 else bif decide (p < ((l.length : Nat) : Int)) then Int.tmod (byteI l p) n
 else Int.tmod (bitsI .xor .i64 (mixV l p) (Int.tdiv (mixV l p) 64)) n
theorem byteI_bnd (l : List UInt8) (i : Int) : 0 ≤ byteI l i ∧ byteI l i ≤ 255 := by
 unfold byteI
 have := (List.getD l i.toNat default).toNat_lt
 omega
theorem mixV_bnd {l : List UInt8} {k : Int} (hk : 0 ≤ k ∧ k ≤ 1000000) : 0 ≤ mixV l k ∧ mixV l k ≤ 200000000 := by
 unfold mixV
 have h1 := byteI_bnd l (Int.tmod k ((l.length : Nat) : Int))
 have h2 := byteI_bnd l (Int.tmod (k * 7 + 3) ((l.length : Nat) : Int))
 have h3 : 0 ≤ Int.tdiv k ((l.length : Nat) : Int) := Int.tdiv_nonneg (by omega) (by omega)
 have h4 : Int.tdiv k ((l.length : Nat) : Int) ≤ k := Int.tdiv_le_self _ (by omega)
 omega
theorem pickV_bnd {l : List UInt8} {p n : Int} (hp : 0 ≤ p ∧ p ≤ 1000000) : 0 ≤ pickV l p n ∧ pickV l p n < max n 1 := by
 unfold pickV
 cases hc : decide (n < 1) || decide (((l.length : Nat) : Int) = 0) with
 | true => simp only [cond_true]; omega
 | false =>
  simp only [Bool.or_eq_false_iff,decide_eq_false_iff_not] at hc
  simp only [cond_false]
  have hb := byteI_bnd l p
  have hm := mixV_bnd (l := l) hp
  cases decide (p < ((l.length : Nat) : Int)) with
  | true =>
   simp only [cond_true]
   exact ⟨Int.tmod_nonneg _ (by omega),by have := Int.tmod_lt_of_pos (byteI l p) (show 0 < n by omega); omega⟩
  | false =>
   simp only [cond_false]
   refine ⟨Int.tmod_nonneg _ (xor_nonneg (by omega) (Int.tdiv_nonneg (by omega) (by omega)) (by omega) (Int.le_trans (Int.tdiv_le_self _ (by omega)) (by omega))),?_⟩
   have := Int.tmod_lt_of_pos (bitsI .xor .i64 (mixV l p) (Int.tdiv (mixV l p) 64)) (show 0 < n by omega)
   omega
end Go.Ab

set_option linter.unusedSimpArgs false
set_option linter.unusedVariables false
namespace Go.Ab
theorem pickV_0 {l : List UInt8} {p n : Int} (h : (decide (n < 1) || decide (((l.length : Nat) : Int) = 0)) = true) : 0 = pickV l p n := by unfold pickV; rw [h]; rfl
theorem pickV_1 {l : List UInt8} {p n : Int} (h : (decide (n < 1) || decide (((l.length : Nat) : Int) = 0)) = false) (h2 : p + 1 - 1 < ((l.length : Nat) : Int)) : Int.tmod ((UInt8.toNat (List.getD l (Int.toNat (p + 1 - 1)) default) : Nat) : Int) n = pickV l p n := by
 rw [show p + 1 - 1 = p by omega] at *
 unfold pickV byteI; rw [h,decide_eq_true h2]; rfl
theorem pickV_2 {l : List UInt8} {p n x : Int} (h : (decide (n < 1) || decide (((l.length : Nat) : Int) = 0)) = false) (h2 : ¬ p + 1 - 1 < ((l.length : Nat) : Int)) (hx : x = mixV l (p + 1 - 1)) : Int.tmod (bitsI .xor .i64 x (Int.tdiv x 64)) n = pickV l p n := by
 rw [show p + 1 - 1 = p by omega] at *
 unfold pickV; rw [h,decide_eq_false h2,hx]; rfl
end Go.Ab

set_option linter.unusedSimpArgs false
set_option linter.unusedVariables false
namespace Go.Ab
end Go.Ab

set_option linter.unusedSimpArgs false
set_option linter.unusedVariables false
namespace Go.Ab
theorem u8_back (b : UInt8) : (Int.toNat ((b.toNat : Nat) : Int)).toUInt8 = b := by simp
theorem splitN_piece {c : UInt8} : ∀ {n : Nat} {s p : List UInt8},p ∈ splitNL c n s → p.length ≤ s.length
 | 0,s,p,h => by simp [splitNL] at h
 | 1,s,p,h => by simp [splitNL] at h; simp [h]
 | n + 2,s,p,h => by
  simp only [splitNL] at h
  split at h
  ·have hl := cutL_len c s
   rcases List.mem_cons.1 h with rfl | h
   ·exact hl.1
   ·have := splitN_piece h; omega
  ·simp at h; simp [h]
theorem splitN_psz (sep s : ByteArray) (n : Int) (i : Nat) : ((splitNB sep n s).getD i default).size ≤ s.size := by
 unfold splitNB
 by_cases hi : i < (splitNL (sepc sep) n.toNat s.data.toList).length
 ·rw [List.getD_eq_getElem?_getD,List.getElem?_map,List.getElem?_eq_getElem hi]
  simp only [Option.map_some,Option.getD_some]
  rw [ba_size,sz]
  exact splitN_piece (List.getElem_mem hi)
 ·rw [List.getD_eq_getElem?_getD,List.getElem?_map,List.getElem?_eq_none (by omega)]
  exact Nat.zero_le _
theorem hist_le (h : List CallD) : (histB h).size ≤ 96 := by
 unfold histB
 cases hv : validHistory h with
 | true => rw [cond_true,ba_size]; have := hist_len h; have := valid_len hv; omega
 | false => exact (by decide : (BA []).size ≤ 96)
theorem rn_small {b c d : Prop} [Decidable b] [Decidable c] [Decidable d] (h : ((decide b || decide c) || decide d) = false) : ¬ b ∧ ¬ c ∧ ¬ d := by simpa [and_assoc] using h
abbrev rsX (w : ByteArray) : ByteArray := List.getD (splitB8 64 w) 0 default
abbrev rsT (w : ByteArray) : ByteArray := List.getD (splitB8 64 w) 1 default
abbrev rsF (w : ByteArray) : List ByteArray := splitB8 45 (rsT w)
abbrev rsV (w : ByteArray) : List ByteArray := splitB8 61 ((rsX w).extract 3 (rsX w).size)
theorem list2 {α : Type} {l : List α} (h : l.length = 2) : ∃ a b,l = [a,b] := by
 match l,h with
 | [a,b],_ => exact ⟨a,b,rfl⟩
theorem len2 (c : Int) (s : ByteArray) : (splitB8 c s).length = (splitL c.toNat.toUInt8 s.data.toList).length := by unfold splitB8; simp
theorem rs_short {w : ByteArray} (h : ¬ ((splitB8 64 w).length = 2 ∧ 3 ≤ (rsX w).size)) : readS w.data.toList = badC := by
 unfold readS
 split
 ·rename_i x y z v t he
  exfalso; apply h
  have e : splitB8 64 w = [BA (x :: y :: z :: v),BA t] := by
   unfold splitB8; rw [show (Int.toNat 64).toUInt8 = 64 from rfl,he]; rfl
  unfold rsX
  rw [e]
  refine ⟨rfl,?_⟩
  show 3 ≤ (BA (x :: y :: z :: v)).size
  rw [ba_size]; simp
 ·rfl
theorem rs_shape {w : ByteArray} (h1 : (splitB8 64 w).length = 2) (h2 : 3 ≤ (rsX w).size) : ∃ x y z v t,splitL 64 w.data.toList = [x :: y :: z :: v,t] ∧ rsX w = BA (x :: y :: z :: v) ∧ rsT w = BA t := by
 obtain ⟨a,t,he⟩ := list2 (by rw [len2] at h1; exact h1)
 have e : splitB8 64 w = [BA a,BA t] := by
  unfold splitB8; rw [he]; rfl
 have e1 : rsX w = BA a := by unfold rsX; rw [e]; rfl
 have e2 : rsT w = BA t := by unfold rsT; rw [e]; rfl
 rw [e1,ba_size] at h2
 match a,h2 with
 | x :: y :: z :: v,_ => exact ⟨x,y,z,v,t,he,e1,e2⟩
 | [],h => simp at h
 | [_],h => simp at h
 | [_,_],h => simp at h
def rsVal (w : ByteArray) : CallD :=
 match objV ((rsX w).data.toList.getD 1 0),kindV ((rsX w).data.toList.getD 2 0) with
 | some o,some k => ⟨readNum ((rsX w).extract 0 1).data.toList,o,k,readNum (List.getD (rsV w) 0 default).data.toList,
   if List.getD (rsV w) 1 default = (⟨#[45,49]⟩ : ByteArray) then -1 else readNum (List.getD (rsV w) 1 default).data.toList,readNum (List.getD (rsF w) 0 default).data.toList,readNum (List.getD (rsF w) 1 default).data.toList⟩
 | _,_ => badC
theorem rs_parts {w : ByteArray} (h1 : (splitB8 64 w).length = 2) (h2 : 3 ≤ (rsX w).size) (h : ¬ ((rsF w).length = 2 ∧ (rsV w).length = 2)) : readS w.data.toList = badC := by
 obtain ⟨x,y,z,v,t,he,e1,e2⟩ := rs_shape h1 h2
 have ef : rsF w = (splitL 45 t).map BA := by unfold rsF; rw [e2]; rfl
 have ev : rsV w = (splitL 61 v).map BA := by unfold rsV; rw [e1,ba_extract,ba_size,List.take_length]; rfl
 unfold readS
 rw [he]
 simp only
 split
 ·rename_i f g a r hf ha
  exfalso; apply h
  rw [ef,ev,hf,ha]; exact ⟨rfl,rfl⟩
 ·rfl
theorem rs_main {w : ByteArray} (h1 : (splitB8 64 w).length = 2) (h2 : 3 ≤ (rsX w).size) (h3 : (rsF w).length = 2) (h4 : (rsV w).length = 2) : readS w.data.toList = rsVal w := by
 obtain ⟨x,y,z,v,t,he,e1,e2⟩ := rs_shape h1 h2
 have ef : rsF w = (splitL 45 t).map BA := by unfold rsF; rw [e2]; rfl
 have ev : rsV w = (splitL 61 v).map BA := by unfold rsV; rw [e1,ba_extract,ba_size,List.take_length]; rfl
 obtain ⟨f,g,hf⟩ := list2 (l := splitL 45 t) (by rw [ef,List.length_map] at h3; exact h3)
 obtain ⟨a,r,ha⟩ := list2 (l := splitL 61 v) (by rw [ev,List.length_map] at h4; exact h4)
 rw [hf] at ef
 rw [ha] at ev
 have er : (List.getD (rsV w) 1 default = (⟨#[45,49]⟩ : ByteArray)) ↔ r = [45,49] := by
  rw [ev]
  show BA r = BA [45,49] ↔ _
  exact ⟨ba_inj,fun e => by rw [e]⟩
 have eo : (rsX w).data.toList.getD 1 0 = y := by rw [e1]; rfl
 have ek : (rsX w).data.toList.getD 2 0 = z := by rw [e1]; rfl
 have ex : ((rsX w).extract 0 1).data.toList = [x] := by rw [e1,ba_extract]; rfl
 unfold readS rsVal
 rw [he,eo,ek,ex]
 simp only [hf,ha]
 rw [ev,ef] at *
 simp only [er]
 rfl
theorem ov0 {b : UInt8} (h : ((b.toNat : Nat) : Int) = 120) : objV b = some 0 := by
 have : b = 120 := (byte_eq (c := 120) (by decide) (by decide)).1 h
 rw [this]; rfl
theorem ov1 {b : UInt8} (h : ((b.toNat : Nat) : Int) = 121) : objV b = some 1 := by
 have : b = 121 := (byte_eq (c := 121) (by decide) (by decide)).1 h
 rw [this]; rfl
theorem ovn {b : UInt8} (h : ¬ ((b.toNat : Nat) : Int) = 120) (h' : ¬ ((b.toNat : Nat) : Int) = 121) : objV b = none := by
 unfold objV
 rw [if_neg (fun e => h (by rw [e]; rfl)),if_neg (fun e => h' (by rw [e]; rfl))]
theorem kv0 {b : UInt8} (h : ((b.toNat : Nat) : Int) = 112) : kindV b = some 0 := by
 have : b = 112 := (byte_eq (c := 112) (by decide) (by decide)).1 h
 rw [this]; rfl
theorem kv1 {b : UInt8} (h : ((b.toNat : Nat) : Int) = 116) : kindV b = some 1 := by
 have : b = 116 := (byte_eq (c := 116) (by decide) (by decide)).1 h
 rw [this]; rfl
theorem kv2 {b : UInt8} (h : ((b.toNat : Nat) : Int) = 108) : kindV b = some 2 := by
 have : b = 108 := (byte_eq (c := 108) (by decide) (by decide)).1 h
 rw [this]; rfl
theorem kvn {b : UInt8} (h : ¬ ((b.toNat : Nat) : Int) = 112) (h' : ¬ ((b.toNat : Nat) : Int) = 116) (h2 : ¬ ((b.toNat : Nat) : Int) = 108) : kindV b = none := by
 unfold kindV
 rw [if_neg (fun e => h (by rw [e]; rfl)),if_neg (fun e => h' (by rw [e]; rfl)),if_neg (fun e => h2 (by rw [e]; rfl))]
theorem rv_obj {w : ByteArray} (h : objV ((rsX w).data.toList.getD 1 0) = none) : badC = rsVal w := by unfold rsVal; rw [h]
theorem rv_kind {w : ByteArray} (h : kindV ((rsX w).data.toList.getD 2 0) = none) : badC = rsVal w := by
 unfold rsVal; rw [h]
 cases objV ((rsX w).data.toList.getD 1 0) <;> rfl
theorem rv_neg {w : ByteArray} {o k : Int} (ho : objV ((rsX w).data.toList.getD 1 0) = some o) (hk : kindV ((rsX w).data.toList.getD 2 0) = some k) (hr : eqS (List.getD (rsV w) 1 default) (⟨#[45,49]⟩ : ByteArray) = true) :
  (⟨readNum ((rsX w).extract 0 1).data.toList,o,k,readNum (List.getD (rsV w) 0 default).data.toList,-1,readNum (List.getD (rsF w) 0 default).data.toList,readNum (List.getD (rsF w) 1 default).data.toList⟩ : CallD) = rsVal w := by
 unfold rsVal; rw [ho,hk]
 simp only
 rw [if_pos (eqB_iff.1 hr)]
theorem rv_pos {w : ByteArray} {o k : Int} (ho : objV ((rsX w).data.toList.getD 1 0) = some o) (hk : kindV ((rsX w).data.toList.getD 2 0) = some k) (hr : ¬ eqS (List.getD (rsV w) 1 default) (⟨#[45,49]⟩ : ByteArray) = true) :
  (⟨readNum ((rsX w).extract 0 1).data.toList,o,k,readNum (List.getD (rsV w) 0 default).data.toList,readNum (List.getD (rsV w) 1 default).data.toList,readNum (List.getD (rsF w) 0 default).data.toList,readNum (List.getD (rsF w) 1 default).data.toList⟩ : CallD) = rsVal w := by
 unfold rsVal; rw [ho,hk]
 simp only
 rw [if_neg (fun e => hr (eqB_iff.2 e))]
theorem cd_eta (a b c d e f g : Int) (x : CallD) (h : (⟨a,b,c,d,e,f,g⟩ : CallD) = x) : a = x.proc ∧ b = x.obj ∧ c = x.kind ∧ d = x.arg ∧ e = x.ret ∧ f = x.frm ∧ g = x.to := by subst h; exact ⟨rfl,rfl,rfl,rfl,rfl,rfl,rfl⟩
def ofV (l : List UInt8) (p : Int) (xs : List ByteArray) : ByteArray := List.getD xs (pickV l p ((xs.length : Nat) : Int)).toNat default
theorem ofV_small {l : List UInt8} {p : Int} {xs : List ByteArray} (hx : ∀ y ∈ xs,y.size ≤ 13) : (ofV l p xs).size ≤ 13 := by
 unfold ofV
 by_cases h : (pickV l p ((xs.length : Nat) : Int)).toNat < xs.length
 ·exact hx _ (getD_mem xs default h)
 ·rw [List.getD_eq_getElem?_getD,List.getElem?_eq_none (by omega)]
  exact Nat.zero_le _
theorem ob_2 {a b M : Nat} (hb : b ≤ 13) (h : a + 13 ≤ M) : a + b ≤ M := by omega
theorem ob_3 {a b c M : Nat} (hb : b ≤ 13) (h : a + 13 + c ≤ M) : a + b + c ≤ M := by omega
theorem parse_law {s : ByteArray} (h : (parseI s.data.toList).2 = true) : eqS (histB (parseI s.data.toList).1) s = true ∧ validHistory (parseI s.data.toList).1 = true := by
 have hp : parseI s.data.toList = ((parseI s.data.toList).1,true) := by rw [← h]
 obtain ⟨hv,he⟩ := parse_back hp
 refine ⟨?_,hv⟩
 rw [eqB_iff]
 unfold histB
 rw [hv,cond_true,he,ba_back]
end Go.Ab

set_option linter.unusedSimpArgs false
set_option linter.unusedVariables false
namespace Go.Proofs.Tryd
open Go.Ab Go.RowKit Go.Shelf Go.Proofs Go.Lib
def fs62 : FnS := fnS [.o,.o] [.str,.str] (fun _ (s,sep,_) => (.i (idxB s sep),[],(sep.size = 1)))
def renX : Go.Shelf.Ren := ⟨fun k => bif Nat.beq k 143 then 62 else bif Nat.beq k 217 then 64 else bif Nat.beq k 219 then 76 else bif Nat.beq k 224 then 90 else bif Nat.beq k 225 then 89 else bif Nat.beq k 266 then 77 else bif Nat.beq k 267 then 91 else bif Nat.beq k 314 then 100 else k,fun k => bif Nat.beq k 3 then 3 else bif Nat.beq k 4 then 4 else bif Nat.beq k 5 then 5 else bif Nat.beq k 9 then 9 else bif Nat.beq k 46 then 106 else bif Nat.beq k 51 then 115 else bif Nat.beq k 146 then 123 else k,fun k => bif Nat.beq k 1 then 0 else k⟩
set_option maxRecDepth 100000 in
theorem laysX : Go.Proofs.Lays.n143 prog renX where
 mixed := by kernel_rfl
 f143 := by kernel_rfl
 f217 := by kernel_rfl
 f219 := by kernel_rfl
 f224 := by kernel_rfl
 f225 := by kernel_rfl
 f266 := by kernel_rfl
 f267 := by kernel_rfl
 f314 := by kernel_rfl
 t3 := underlying3
 a3 := isAgg3
 z3 := sizeOf3
 v3 := zeroValue3
 t4 := underlying4
 a4 := isAgg4
 z4 := sizeOf4
 v4 := zeroValue4
 t5 := underlying5
 a5 := isAgg5
 z5 := sizeOf5
 v5 := zeroValue5
 t9 := underlying9
 a9 := isAgg9
 z9 := sizeOf9
 v9 := zeroValue9
 t46 := underlying106
 a46 := isAgg106
 z46 := sizeOf106
 v46 := zeroValue106
 t51 := underlying115
 a51 := isAgg115
 z51 := sizeOf115
 v51 := zeroValue115
 t146 := underlying123
 a146 := isAgg123
 z146 := sizeOf123
 v146 := zeroValue123
 g1 := by kernel_rfl
theorem ok62 : FnOK prog 62 fs62 := index_ok laysX
theorem ent62 : Entr prog 62 := ⟨_,func62,rfl,by decide⟩
end Go.Proofs.Tryd

set_option linter.unusedSimpArgs false
set_option linter.unusedVariables false
namespace Go.Proofs.Tryd
open Go.Ab Go.RowKit
def fs46 : FnS := fnS [.o,.o,.o,.o] [.str,.str,.int,.int] (fun _ (s,sep,sv,n,_) => (.own 0 (List.length (splitNB sep n s)),[(9,.strs (splitNB sep n s))],(sep.size = 1) ∧ (sv = 0) ∧ (1 ≤ n ∧ n ≤ 1000) ∧ (s.size ≤ 2000000)))
abbrev T46 : Tab := lk [(62,fs62)]
theorem tab46 : TabOK prog T46 := (TabOK.cons ok62 ent62 TabOK.nil)
set_option maxRecDepth 100000 in
set_option maxHeartbeats 1000000 in
theorem ok46 : FnOK prog 46 fs46 := by
 refine FnOK.mk cok func46 rfl rfl rfl ?_
 rintro fl ⟨(s : ByteArray),(sep : ByteArray),(sv : Int),(n : Int),_⟩ hpre F hnt0 _
 have hnt : F.nt = 66 := hnt0.trans ntmps46
 replace hpre : (sep.size = 1) ∧ (sv = 0) ∧ (1 ≤ n ∧ n ≤ 1000) ∧ (s.size ≤ 2000000) := hpre
 obtain ⟨hs,hv,hn,hz⟩ := hpre
 refine W.to (⟨[(0,.v (.string s)),(1,.v (.string sep)),(2,.i sv),(3,.i n)],[],[999]⟩) rfl ?_
 refine Kk cok tab46 hnt [] [0,1,2,3] (⟨[(0,.v (.string s)),(1,.v (.string sep)),(2,.i sv),(3,.i n)],[],[999]⟩)
  (True ∧ True)
  ⟨tt,tt⟩ ?_
 refine W.seq ?_
 refine Kk cok tab46 hnt [] [0,1,2,3,13] (⟨[(0,.v (.string s)),(1,.v (.string sep)),(2,.i sv),(3,.i n),(13,.b (decide (n = (0 : Int))))],[],[999]⟩)
  (True ∧ (True ∧ True ∧ True) ∧ True)
  ⟨tt,⟨tt,tt,tt⟩,tt⟩ ?_
 refine W.ifP (n = (0 : Int)) (.b (decide (n = (0 : Int)))) (by kernel_rfl) rfl trivial ?_ ?_
 ·intro h13
  exact (show False from (by omega)).elim
 ·intro n13
  refine W.skip (thenQ_normal ?_)
  refine W.seq ?_
  refine Kk cok tab46 hnt [] [0,1,2,3,15] (⟨[(0,.v (.string s)),(1,.v (.string sep)),(2,.i sv),(3,.i n),(15,.b (eqS sep nEmpty))],[],[999]⟩)
   (True ∧ (True ∧ True ∧ True) ∧ True)
   ⟨tt,⟨tt,tt,tt⟩,tt⟩ ?_
  refine W.if' (eqS sep nEmpty) (.b (eqS sep nEmpty)) (by kernel_rfl) rfl trivial ?_ ?_
  ·intro h15
   exact (show False from (by rw [eqB_iff] at h15; rw [h15] at hs; cases hs)).elim
  ·intro n15
   refine W.skip (thenQ_normal ?_)
   refine W.seq ?_
   refine Kk cok tab46 hnt [] [0,1,2,3,20] (⟨[(0,.v (.string s)),(1,.v (.string sep)),(2,.i sv),(3,.i n),(20,.b (decide (n < (0 : Int))))],[],[999]⟩)
    (True ∧ (True ∧ True ∧ True) ∧ True)
    ⟨tt,⟨tt,tt,tt⟩,tt⟩ ?_
   refine W.ifP (n < (0 : Int)) (.b (decide (n < (0 : Int)))) (by kernel_rfl) rfl trivial ?_ ?_
   ·intro h20
    exact (show False from (by omega)).elim
   ·intro n20
    refine W.skip (thenQ_normal ?_)
    refine Kk cok tab46 hnt [] [0,1,2,3] (⟨[(0,.v (.string s)),(1,.v (.string sep)),(2,.i sv),(3,.i (min n (((s.size + 1) : Nat) : Int)))],[],[999]⟩)
     (True ∧ True ∧ True ∧ (True ∧ True ∧ (Fits .i64 (((s.size + 1) : Nat) : Int))) ∧ (True ∧ True) ∧ True ∧ True)
     ⟨tt,tt,tt,⟨tt,tt,(by exact fits_i64 (by omega) (by omega))⟩,⟨tt,tt⟩,tt,tt⟩ ?_
    refine Kk cok tab46 hnt [31] [0,1,2,3,9] (⟨[(0,.v (.string s)),(1,.v (.string sep)),(2,.i sv),(3,.i (min n (((s.size + 1) : Nat) : Int))),(9,.own 31 (List.length (List.replicate (Int.toNat (min n (((s.size + 1) : Nat) : Int))) ByteArray.empty)))],[(31,⟨9,.row (.strs (List.replicate (Int.toNat (min n (((s.size + 1) : Nat) : Int))) ByteArray.empty))⟩)],[31,999]⟩)
     (True ∧ (True ∧ True ∧ ((min n (((s.size + 1) : Nat) : Int)) = (min n (((s.size + 1) : Nat) : Int))) ∧ (0 ≤ (min n (((s.size + 1) : Nat) : Int))) ∧ ((min n (((s.size + 1) : Nat) : Int)) * 16 ≤ 281474976710656)) ∧ True ∧ True)
     ⟨tt,⟨tt,tt,rfl,(by omega),(by (try simp only [List.length_append,List.length_cons,List.length_nil,List.length_set]); omega)⟩,tt,tt⟩ ?_
    refine Kk cok tab46 hnt [] [0,1,2,3,9] (⟨[(0,.v (.string s)),(1,.v (.string sep)),(2,.i sv),(3,.i ((min n (((s.size + 1) : Nat) : Int)) - (1 : Int))),(9,.own 31 (List.length (List.replicate (Int.toNat (min n (((s.size + 1) : Nat) : Int))) ByteArray.empty)))],[(31,⟨9,.row (.strs (List.replicate (Int.toNat (min n (((s.size + 1) : Nat) : Int))) ByteArray.empty))⟩)],[31,999]⟩)
     (True ∧ (True ∧ True ∧ (Fits .i64 ((min n (((s.size + 1) : Nat) : Int)) - (1 : Int)))) ∧ True ∧ True)
     ⟨tt,⟨tt,tt,(by exact fits_i64 (by omega) (by omega))⟩,tt,tt⟩ ?_
    refine Kk cok tab46 hnt [] [0,1,2,3,9,10] (⟨[(0,.v (.string s)),(1,.v (.string sep)),(2,.i sv),(3,.i ((min n (((s.size + 1) : Nat) : Int)) - (1 : Int))),(9,.own 31 (List.length (List.replicate (Int.toNat (min n (((s.size + 1) : Nat) : Int))) ByteArray.empty))),(10,.i (0 : Int))],[(31,⟨9,.row (.strs (List.replicate (Int.toNat (min n (((s.size + 1) : Nat) : Int))) ByteArray.empty))⟩)],[31,999]⟩)
     (True ∧ True)
     ⟨tt,tt⟩ ?_
    refine W.seq ?_
    refine W.block ?_
    refine W.loop (ι := ByteArray × Nat × (List ByteArray)) (fun (x : ByteArray × Nat × (List ByteArray)) => match x with | (r,i,a) => (⟨[(0,.v (.string r)),(1,.v (.string sep)),(2,.i sv),(3,.i ((min n (((s.size + 1) : Nat) : Int)) - (1 : Int))),(9,.own 31 (List.length (List.replicate (Int.toNat (min n (((s.size + 1) : Nat) : Int))) ByteArray.empty))),(10,.i ((i : Nat) : Int))],[(31,⟨9,.row (.strs a)⟩)],[31,999]⟩ : St))
     (fun (x : ByteArray × Nat × (List ByteArray)) => match x with | (r,i,a) => (i + 1 ≤ Int.toNat (min n (((s.size : Nat) : Int) + 1))) ∧ (r.size ≤ s.size) ∧ (a.length = Int.toNat (min n (((s.size : Nat) : Int) + 1))) ∧ (a.take i ++ (splitNL (sepc sep) (Int.toNat (min n (((s.size : Nat) : Int) + 1)) - i) r.data.toList).map BA = splitNB sep n s))
     (fun (x : ByteArray × Nat × (List ByteArray)) => match x with | (r,i,a) => (Int.toNat n - i : Nat)) (s,0,(List.replicate (Int.toNat (min n (((s.size + 1) : Nat) : Int))) ByteArray.empty)) ?_ ?_ ?_
    ·exact (show (0 + 1 ≤ Int.toNat (min n (((s.size : Nat) : Int) + 1))) ∧ (s.size ≤ s.size) ∧ ((List.replicate (Int.toNat (min n (((s.size + 1) : Nat) : Int))) ByteArray.empty).length = Int.toNat (min n (((s.size : Nat) : Int) + 1))) ∧ ((List.replicate (Int.toNat (min n (((s.size + 1) : Nat) : Int))) ByteArray.empty).take 0 ++ (splitNL (sepc sep) (Int.toNat (min n (((s.size : Nat) : Int) + 1)) - 0) s.data.toList).map BA = splitNB sep n s) from ⟨(by omega),(by exact Nat.le_refl _),(by exact List.length_replicate),(by exact gs_init hn.1)⟩)
    ·exact Sub.of [] (@cast (((((.string s) : Value) = (.string s)) ∧ (((.string sep) : Value) = (.string sep)) ∧ (Si sv) ∧ (Si ((min n (((s.size + 1) : Nat) : Int)) - (1 : Int))) ∧ (((31 : Nat) = 31) ∧ ((List.length (List.replicate (Int.toNat (min n (((s.size + 1) : Nat) : Int))) ByteArray.empty)) = (List.length (List.replicate (Int.toNat (min n (((s.size + 1) : Nat) : Int))) ByteArray.empty))) ∧ ((31 : Nat) ∈ ([31,999] : List Nat))) ∧ ((.int .i64 (0 : Int) : Value) = .int .i64 ((0 : Nat) : Int)) ∧ True) ∧ ((((9 : Nat) = 9) ∧ (Sd (.strs (List.replicate (Int.toNat (min n (((s.size + 1) : Nat) : Int))) ByteArray.empty))) ∧ ((31 : Nat) ∈ ([31,999] : List Nat))) ∧ True) ∧ (true = true) ∧ (true = true)) _ (by kernel_rfl) ⟨⟨rfl,rfl,rfl,rfl,⟨rfl,rfl,(by decide)⟩,(congrArg (Value.int .i64) (by first | rfl | omega | assumption | simp | simp_all)),tt⟩,⟨⟨rfl,rfl,(by decide)⟩,tt⟩,rfl,rfl⟩)
    ·rintro ⟨r,i,a⟩ hC0
     have hC : (i + 1 ≤ Int.toNat (min n (((s.size : Nat) : Int) + 1))) ∧ (r.size ≤ s.size) ∧ (a.length = Int.toNat (min n (((s.size : Nat) : Int) + 1))) ∧ (a.take i ++ (splitNL (sepc sep) (Int.toNat (min n (((s.size : Nat) : Int) + 1)) - i) r.data.toList).map BA = splitNB sep n s) := hC0
     clear hC0
     obtain ⟨hi,hr,ha,hp⟩ := hC
     refine W.to (⟨[(0,.v (.string r)),(1,.v (.string sep)),(2,.i sv),(3,.i ((min n (((s.size + 1) : Nat) : Int)) - (1 : Int))),(9,.own 31 (List.length (List.replicate (Int.toNat (min n (((s.size + 1) : Nat) : Int))) ByteArray.empty))),(10,.i ((i : Nat) : Int))],[(31,⟨9,.row (.strs a)⟩)],[31,999]⟩) rfl ?_
     have hb := idx_bnd r sep
     refine W.seq ?_
     refine Kk cok tab46 hnt [] [0,1,2,3,9,10,36] (⟨[(0,.v (.string r)),(1,.v (.string sep)),(2,.i sv),(3,.i ((min n (((s.size + 1) : Nat) : Int)) - (1 : Int))),(9,.own 31 (List.length (List.replicate (Int.toNat (min n (((s.size + 1) : Nat) : Int))) ByteArray.empty))),(10,.i ((i : Nat) : Int)),(36,.b (decide (((i : Nat) : Int) < ((min n (((s.size + 1) : Nat) : Int)) - (1 : Int)))))],[(31,⟨9,.row (.strs a)⟩)],[31,999]⟩)
      (True ∧ True ∧ (True ∧ True ∧ True) ∧ True)
      ⟨tt,tt,⟨tt,tt,tt⟩,tt⟩ ?_
     refine W.ifP (((i : Nat) : Int) < ((min n (((s.size + 1) : Nat) : Int)) - (1 : Int))) (.b (decide (((i : Nat) : Int) < ((min n (((s.size + 1) : Nat) : Int)) - (1 : Int))))) (by kernel_rfl) rfl trivial ?_ ?_
     ·intro h36
      refine W.skip (thenQ_normal ?_)
      refine W.block ?_
      refine Kk cok tab46 hnt [] [0,1,2,3,9,10,11] (⟨[(0,.v (.string r)),(1,.v (.string sep)),(2,.i sv),(3,.i ((min n (((s.size + 1) : Nat) : Int)) - (1 : Int))),(9,.own 31 (List.length (List.replicate (Int.toNat (min n (((s.size + 1) : Nat) : Int))) ByteArray.empty))),(10,.i ((i : Nat) : Int)),(11,.i (idxB r sep))],[(31,⟨9,.row (.strs a)⟩)],[31,999]⟩)
       (True ∧ True ∧ (True ∧ (True ∧ True ∧ True) ∧ (sep.size = 1)) ∧ True ∧ True)
       ⟨tt,tt,⟨tt,⟨tt,tt,tt⟩,(by omega)⟩,tt,tt⟩ ?_
      refine W.seq ?_
      refine Kk cok tab46 hnt [] [0,1,2,3,9,10,11,41] (⟨[(0,.v (.string r)),(1,.v (.string sep)),(2,.i sv),(3,.i ((min n (((s.size + 1) : Nat) : Int)) - (1 : Int))),(9,.own 31 (List.length (List.replicate (Int.toNat (min n (((s.size + 1) : Nat) : Int))) ByteArray.empty))),(10,.i ((i : Nat) : Int)),(11,.i (idxB r sep)),(41,.b (decide ((idxB r sep) < (0 : Int))))],[(31,⟨9,.row (.strs a)⟩)],[31,999]⟩)
       (True ∧ (True ∧ True ∧ True) ∧ True)
       ⟨tt,⟨tt,tt,tt⟩,tt⟩ ?_
      refine W.ifP ((idxB r sep) < (0 : Int)) (.b (decide ((idxB r sep) < (0 : Int)))) (by kernel_rfl) rfl trivial ?_ ?_
      ·intro h41
       refine W.exit (thenQ_exit (blockQ_miss rfl (thenQ_exit (blockQ_hit ?_))))
       refine thenQ_normal ?_
       refine Kk cok tab46 hnt [] [9,10] (⟨[(9,.own 31 (List.length (List.replicate (Int.toNat (min n (((s.size + 1) : Nat) : Int))) ByteArray.empty))),(10,.i ((i : Nat) : Int))],[(31,⟨9,.row (.strs (List.set a i r))⟩)],[31,999]⟩)
        (True ∧ True ∧ True ∧ (True ∧ True ∧ (0 ≤ ((i : Nat) : Int)) ∧ (((i : Nat) : Int) < (((List.length (List.replicate (Int.toNat (min n (((s.size + 1) : Nat) : Int))) ByteArray.empty)) : Nat) : Int))) ∧ (True ∧ True ∧ (i < a.length)) ∧ True)
        ⟨tt,tt,tt,⟨tt,tt,(by omega),(by (try simp only [List.length_replicate,List.length_set]); omega)⟩,⟨tt,tt,(by omega)⟩,tt⟩ ?_
       refine Kk cok tab46 hnt [] [8] (⟨[(8,.own 31 (i + 1))],[(31,⟨9,.row (.strs (List.set a i r))⟩)],[31,999]⟩)
        (True ∧ True ∧ (True ∧ True ∧ (Fits .i64 (((i + 1) : Nat) : Int))) ∧ (True ∧ True ∧ (0 ≤ (((i + 1) : Nat) : Int)) ∧ ((((i + 1) : Nat) : Int) ≤ (((List.length (List.replicate (Int.toNat (min n (((s.size + 1) : Nat) : Int))) ByteArray.empty)) : Nat) : Int))) ∧ True ∧ True)
        ⟨tt,tt,⟨tt,tt,(by exact fits_i64 (by omega) (by omega))⟩,⟨tt,tt,(by omega),(by (try simp only [List.length_replicate,List.length_set]); omega)⟩,tt,tt⟩ ?_
       refine W.cutRow 31 9 (.strs (List.set a i r)) (.strs (List.take (i + 1) (List.set a i r))) (i + 1) (⟨[(8,.own 31 (i + 1))],[(31,⟨9,.row (.strs (List.take (i + 1) (List.set a i r)))⟩)],[31,999]⟩) (by kernel_rfl) (by rfl) (show (i + 1) ≤ (List.length (List.set a i r)) from (by (first | omega | (simp only [List.length_set]; done) | (simp only [List.length_append,List.length_cons,List.length_nil,List.length_take,List.length_drop,List.length_set,List.length_replicate,List.length_map] at *; omega) | assumption))) (by kernel_rfl) ?_
       refine W.ret ?_
       exact endQ_rows [(0,31)] (.own 31 (i + 1)) (by kernel_rfl) (@cast (((31 : Nat) = 31) ∧ ((i + 1) = (List.length (splitNB sep n s))) ∧ ((0 : Nat) ∈ ([0] : List Nat))) _ (by kernel_rfl) ⟨rfl,(by first | rfl | omega | assumption | (symm; assumption) | (exact congrArg List.length (by first | exact gs_end hp (by omega) ha (.inl h41) | (rw [← gs_end hp (by omega) ha (.inl h41),List.length_take,List.length_set]; omega))) | (first | exact gs_end hp (by omega) ha (.inl h41) | (rw [← gs_end hp (by omega) ha (.inl h41),List.length_take,List.length_set]; omega); done) | simp | simp_all),(by decide)⟩) (@cast ((((9 : Nat) = 9) ∧ ((.strs (List.take (i + 1) (List.set a i r)) : Dat) = .strs (splitNB sep n s)) ∧ ((0 : Nat) ∈ ([0] : List Nat))) ∧ True) _ (by kernel_rfl) ⟨⟨rfl,(congrArg Dat.strs (by first | exact gs_end hp (by omega) ha (.inl h41) | (rw [← gs_end hp (by omega) ha (.inl h41),List.length_take,List.length_set]; omega))),(by decide)⟩,tt⟩) (by kernel_rfl)
      ·intro n41
       have h41n := n41
       refine W.skip (thenQ_normal ?_)
       refine Kk cok tab46 hnt [] [0,1,2,3,9,10,11] (⟨[(0,.v (.string r)),(1,.v (.string sep)),(2,.i sv),(3,.i ((min n (((s.size + 1) : Nat) : Int)) - (1 : Int))),(9,.own 31 (List.length (List.replicate (Int.toNat (min n (((s.size + 1) : Nat) : Int))) ByteArray.empty))),(10,.i ((i : Nat) : Int)),(11,.i (idxB r sep))],[(31,⟨9,.row (.strs (List.set a i (r.extract 0 (Int.toNat ((idxB r sep) + sv)))))⟩)],[31,999]⟩)
        (True ∧ True ∧ True ∧ True ∧ True ∧ (True ∧ True ∧ (Fits .i64 ((idxB r sep) + sv))) ∧ (True ∧ True ∧ True ∧ (0 ≤ (0 : Int)) ∧ ((0 : Int) ≤ ((idxB r sep) + sv)) ∧ (((idxB r sep) + sv) ≤ ((r.size : Nat) : Int))) ∧ (True ∧ True ∧ (0 ≤ ((i : Nat) : Int)) ∧ (((i : Nat) : Int) < (((List.length (List.replicate (Int.toNat (min n (((s.size + 1) : Nat) : Int))) ByteArray.empty)) : Nat) : Int))) ∧ (True ∧ True ∧ (i < a.length)) ∧ True)
        ⟨tt,tt,tt,tt,tt,⟨tt,tt,(by exact fits_i64 (by omega) (by omega))⟩,⟨tt,tt,tt,(by omega),(by omega),(by omega)⟩,⟨tt,tt,(by omega),(by (try simp only [List.length_replicate,List.length_set]); omega)⟩,⟨tt,tt,(by omega)⟩,tt⟩ ?_
       refine Kk cok tab46 hnt [] [0,1,2,3,9,10] (⟨[(0,.v (.string (r.extract (Int.toNat ((idxB r sep) + ((sep.size : Nat) : Int))) r.size))),(1,.v (.string sep)),(2,.i sv),(3,.i ((min n (((s.size + 1) : Nat) : Int)) - (1 : Int))),(9,.own 31 (List.length (List.replicate (Int.toNat (min n (((s.size + 1) : Nat) : Int))) ByteArray.empty))),(10,.i ((i : Nat) : Int))],[(31,⟨9,.row (.strs (List.set a i (r.extract 0 (Int.toNat ((idxB r sep) + sv)))))⟩)],[31,999]⟩)
        (True ∧ True ∧ True ∧ True ∧ (True ∧ True ∧ (Fits .i64 ((idxB r sep) + ((sep.size : Nat) : Int)))) ∧ (True ∧ True ∧ True ∧ (0 ≤ ((idxB r sep) + ((sep.size : Nat) : Int))) ∧ (((idxB r sep) + ((sep.size : Nat) : Int)) ≤ ((r.size : Nat) : Int)) ∧ (((r.size : Nat) : Int) ≤ ((r.size : Nat) : Int))) ∧ True ∧ True)
        ⟨tt,tt,tt,tt,⟨tt,tt,(by exact fits_i64 (by omega) (by omega))⟩,⟨tt,tt,tt,(by omega),(by omega),(by omega)⟩,tt,tt⟩ ?_
       refine Lk cok tab46 hnt [] (⟨[(0,.v (.string (r.extract (Int.toNat ((idxB r sep) + ((sep.size : Nat) : Int))) r.size))),(1,.v (.string sep)),(2,.i sv),(3,.i ((min n (((s.size + 1) : Nat) : Int)) - (1 : Int))),(9,.own 31 (List.length (List.replicate (Int.toNat (min n (((s.size + 1) : Nat) : Int))) ByteArray.empty))),(10,.i (((i + 1) : Nat) : Int)),(56,.i ((i : Nat) : Int)),(57,.i (((i + 1) : Nat) : Int))],[(31,⟨9,.row (.strs (List.set a i (r.extract 0 (Int.toNat ((idxB r sep) + sv)))))⟩)],[31,999]⟩)
        (True ∧ (True ∧ True ∧ (Fits .i64 (((i + 1) : Nat) : Int))) ∧ True ∧ True)
        ⟨tt,⟨tt,tt,(by exact fits_i64 (by omega) (by omega))⟩,tt,tt⟩ ?_
       refine blockQ_normal (thenQ_normal ?_)
       refine ⟨((r.extract (Int.toNat ((idxB r sep) + ((sep.size : Nat) : Int))) r.size),(i + 1),(List.set a i (r.extract 0 (Int.toNat ((idxB r sep) + sv))))),(show ((i + 1) + 1 ≤ Int.toNat (min n (((s.size : Nat) : Int) + 1))) ∧ ((r.extract (Int.toNat ((idxB r sep) + ((sep.size : Nat) : Int))) r.size).size ≤ s.size) ∧ ((List.set a i (r.extract 0 (Int.toNat ((idxB r sep) + sv)))).length = Int.toNat (min n (((s.size : Nat) : Int) + 1))) ∧ ((List.set a i (r.extract 0 (Int.toNat ((idxB r sep) + sv)))).take (i + 1) ++ (splitNL (sepc sep) (Int.toNat (min n (((s.size : Nat) : Int) + 1)) - (i + 1)) (r.extract (Int.toNat ((idxB r sep) + ((sep.size : Nat) : Int))) r.size).data.toList).map BA = splitNB sep n s) from ⟨(by omega),(by rw [ByteArray.size_extract]; omega),(by rw [List.length_set]; exact ha),(by exact gs_step hp (by omega) ha h41n hv hs)⟩),(show Int.toNat n - (i + 1) < Int.toNat n - i from (by first | omega | (simp_all; omega))),?_⟩
       exact Sub.of [] (@cast (((((.string (r.extract (Int.toNat ((idxB r sep) + ((sep.size : Nat) : Int))) r.size)) : Value) = (.string (r.extract (Int.toNat ((idxB r sep) + ((sep.size : Nat) : Int))) r.size))) ∧ (((.string sep) : Value) = (.string sep)) ∧ (Si sv) ∧ (Si ((min n (((s.size + 1) : Nat) : Int)) - (1 : Int))) ∧ (((31 : Nat) = 31) ∧ ((List.length (List.replicate (Int.toNat (min n (((s.size + 1) : Nat) : Int))) ByteArray.empty)) = (List.length (List.replicate (Int.toNat (min n (((s.size + 1) : Nat) : Int))) ByteArray.empty))) ∧ ((31 : Nat) ∈ ([31,999] : List Nat))) ∧ (Si (((i + 1) : Nat) : Int)) ∧ True) ∧ ((((9 : Nat) = 9) ∧ (Sd (.strs (List.set a i (r.extract 0 (Int.toNat ((idxB r sep) + sv)))))) ∧ ((31 : Nat) ∈ ([31,999] : List Nat))) ∧ True) ∧ (true = true) ∧ (true = true)) _ (by kernel_rfl) ⟨⟨rfl,rfl,rfl,rfl,⟨rfl,rfl,(by decide)⟩,rfl,tt⟩,⟨⟨rfl,rfl,(by decide)⟩,tt⟩,rfl,rfl⟩)
     ·intro n36
      refine W.exit (thenQ_exit (thenQ_exit (blockQ_hit ?_)))
      refine thenQ_normal ?_
      refine Kk cok tab46 hnt [] [9,10] (⟨[(9,.own 31 (List.length (List.replicate (Int.toNat (min n (((s.size + 1) : Nat) : Int))) ByteArray.empty))),(10,.i ((i : Nat) : Int))],[(31,⟨9,.row (.strs (List.set a i r))⟩)],[31,999]⟩)
       (True ∧ True ∧ True ∧ (True ∧ True ∧ (0 ≤ ((i : Nat) : Int)) ∧ (((i : Nat) : Int) < (((List.length (List.replicate (Int.toNat (min n (((s.size + 1) : Nat) : Int))) ByteArray.empty)) : Nat) : Int))) ∧ (True ∧ True ∧ (i < a.length)) ∧ True)
       ⟨tt,tt,tt,⟨tt,tt,(by omega),(by (try simp only [List.length_replicate,List.length_set]); omega)⟩,⟨tt,tt,(by omega)⟩,tt⟩ ?_
      refine Kk cok tab46 hnt [] [8] (⟨[(8,.own 31 (i + 1))],[(31,⟨9,.row (.strs (List.set a i r))⟩)],[31,999]⟩)
       (True ∧ True ∧ (True ∧ True ∧ (Fits .i64 (((i + 1) : Nat) : Int))) ∧ (True ∧ True ∧ (0 ≤ (((i + 1) : Nat) : Int)) ∧ ((((i + 1) : Nat) : Int) ≤ (((List.length (List.replicate (Int.toNat (min n (((s.size + 1) : Nat) : Int))) ByteArray.empty)) : Nat) : Int))) ∧ True ∧ True)
       ⟨tt,tt,⟨tt,tt,(by exact fits_i64 (by omega) (by omega))⟩,⟨tt,tt,(by omega),(by (try simp only [List.length_replicate,List.length_set]); omega)⟩,tt,tt⟩ ?_
      refine W.cutRow 31 9 (.strs (List.set a i r)) (.strs (List.take (i + 1) (List.set a i r))) (i + 1) (⟨[(8,.own 31 (i + 1))],[(31,⟨9,.row (.strs (List.take (i + 1) (List.set a i r)))⟩)],[31,999]⟩) (by kernel_rfl) (by rfl) (show (i + 1) ≤ (List.length (List.set a i r)) from (by (first | omega | (simp only [List.length_set]; done) | (simp only [List.length_append,List.length_cons,List.length_nil,List.length_take,List.length_drop,List.length_set,List.length_replicate,List.length_map] at *; omega) | assumption))) (by kernel_rfl) ?_
      refine W.ret ?_
      exact endQ_rows [(0,31)] (.own 31 (i + 1)) (by kernel_rfl) (@cast (((31 : Nat) = 31) ∧ ((i + 1) = (List.length (splitNB sep n s))) ∧ ((0 : Nat) ∈ ([0] : List Nat))) _ (by kernel_rfl) ⟨rfl,(by first | rfl | omega | assumption | (symm; assumption) | (exact congrArg List.length (by first | exact gs_end hp (by omega) ha (.inr (by omega)) | (rw [← gs_end hp (by omega) ha (.inr (by omega)),List.length_take,List.length_set]; omega))) | (first | exact gs_end hp (by omega) ha (.inr (by omega)) | (rw [← gs_end hp (by omega) ha (.inr (by omega)),List.length_take,List.length_set]; omega); done) | simp | simp_all),(by decide)⟩) (@cast ((((9 : Nat) = 9) ∧ ((.strs (List.take (i + 1) (List.set a i r)) : Dat) = .strs (splitNB sep n s)) ∧ ((0 : Nat) ∈ ([0] : List Nat))) ∧ True) _ (by kernel_rfl) ⟨⟨rfl,(congrArg Dat.strs (by first | exact gs_end hp (by omega) ha (.inr (by omega)) | (rw [← gs_end hp (by omega) ha (.inr (by omega)),List.length_take,List.length_set]; omega))),(by decide)⟩,tt⟩) (by kernel_rfl)
theorem ent46 : Entr prog 46 := ⟨_,func46,rfl,by decide⟩
end Go.Proofs.Tryd

set_option linter.unusedSimpArgs false
set_option linter.unusedVariables false
namespace Go.Proofs.Tryd
open Go.Ab Go.RowKit
def fs30 : FnS := fnS [.o,.o,.o] [.str,.str,.int] (fun _ (s,sep,n,_) => (.own 0 (List.length (splitNB sep n s)),[(9,.strs (splitNB sep n s))],(sep.size = 1) ∧ (1 ≤ n ∧ n ≤ 1000) ∧ (s.size ≤ 2000000)))
abbrev T30 : Tab := lk [(46,fs46)]
theorem tab30 : TabOK prog T30 := (TabOK.cons ok46 ent46 TabOK.nil)
set_option maxRecDepth 100000 in
set_option maxHeartbeats 1000000 in
theorem ok30 : FnOK prog 30 fs30 := by
 refine FnOK.mk cok func30 rfl rfl rfl ?_
 rintro fl ⟨(s : ByteArray),(sep : ByteArray),(n : Int),_⟩ hpre F hnt0 _
 have hnt : F.nt = 11 := hnt0.trans ntmps30
 replace hpre : (sep.size = 1) ∧ (1 ≤ n ∧ n ≤ 1000) ∧ (s.size ≤ 2000000) := hpre
 obtain ⟨hs,hn,hz⟩ := hpre
 refine W.to (⟨[(0,.v (.string s)),(1,.v (.string sep)),(2,.i n)],[],[999]⟩) rfl ?_
 refine Kk cok tab30 hnt [] [0,1,2] (⟨[(0,.v (.string s)),(1,.v (.string sep)),(2,.i n)],[],[999]⟩)
  (True ∧ True)
  ⟨tt,tt⟩ ?_
 refine Kk cok tab30 hnt [10] [6] (⟨[(6,.own 10 (List.length (splitNB sep n s)))],[(10,⟨9,.row (.strs (splitNB sep n s))⟩)],[10,999]⟩)
  (True ∧ True ∧ True ∧ (True ∧ (True ∧ True ∧ True ∧ True ∧ True) ∧ (sep.size = 1) ∧ ((0 : Int) = 0) ∧ (1 ≤ n ∧ n ≤ 1000) ∧ (s.size ≤ 2000000)) ∧ True ∧ True)
  ⟨tt,tt,tt,⟨tt,⟨tt,tt,tt,tt,tt⟩,(by omega),(by rfl),(by omega),(by omega)⟩,tt,tt⟩ ?_
 refine W.ret ?_
 exact endQ_rows [(0,10)] (.own 10 (List.length (splitNB sep n s))) (by kernel_rfl) (@cast (((10 : Nat) = 10) ∧ ((List.length (splitNB sep n s)) = (List.length (splitNB sep n s))) ∧ ((0 : Nat) ∈ ([0] : List Nat))) _ (by kernel_rfl) ⟨rfl,rfl,(by decide)⟩) (@cast ((((9 : Nat) = 9) ∧ (Sd (.strs (splitNB sep n s))) ∧ ((0 : Nat) ∈ ([0] : List Nat))) ∧ True) _ (by kernel_rfl) ⟨⟨rfl,rfl,(by decide)⟩,tt⟩) (by kernel_rfl)
theorem ent30 : Entr prog 30 := ⟨_,func30,rfl,by decide⟩
end Go.Proofs.Tryd

set_option linter.unusedSimpArgs false
set_option linter.unusedVariables false
namespace Go.Proofs.Tryd
open Go.Ab Go.RowKit Go.Shelf Go.Proofs Go.Lib
def fs76 : FnS := fnS [.o,.o] [.str,.str] (fun _ (s,sep,_) => (.i (idxB s sep),[],(sep.size = 1)))
def renL : Go.Shelf.Ren := ⟨fun k => bif Nat.beq k 217 then 64 else bif Nat.beq k 219 then 76 else bif Nat.beq k 224 then 90 else bif Nat.beq k 225 then 89 else bif Nat.beq k 266 then 77 else bif Nat.beq k 267 then 91 else bif Nat.beq k 314 then 100 else k,fun k => bif Nat.beq k 3 then 3 else bif Nat.beq k 4 then 4 else bif Nat.beq k 5 then 5 else bif Nat.beq k 9 then 9 else bif Nat.beq k 46 then 106 else bif Nat.beq k 51 then 115 else bif Nat.beq k 146 then 123 else k,fun k => bif Nat.beq k 1 then 0 else k⟩
set_option maxRecDepth 100000 in
theorem laysL : Go.Proofs.Lays.n219 prog renL where
 mixed := by kernel_rfl
 f217 := by kernel_rfl
 f219 := by kernel_rfl
 f224 := by kernel_rfl
 f225 := by kernel_rfl
 f266 := by kernel_rfl
 f267 := by kernel_rfl
 f314 := by kernel_rfl
 t3 := underlying3
 a3 := isAgg3
 z3 := sizeOf3
 v3 := zeroValue3
 t4 := underlying4
 a4 := isAgg4
 z4 := sizeOf4
 v4 := zeroValue4
 t5 := underlying5
 a5 := isAgg5
 z5 := sizeOf5
 v5 := zeroValue5
 t9 := underlying9
 a9 := isAgg9
 z9 := sizeOf9
 v9 := zeroValue9
 t46 := underlying106
 a46 := isAgg106
 z46 := sizeOf106
 v46 := zeroValue106
 t51 := underlying115
 a51 := isAgg115
 z51 := sizeOf115
 v51 := zeroValue115
 t146 := underlying123
 a146 := isAgg123
 z146 := sizeOf123
 v146 := zeroValue123
 g1 := by kernel_rfl
theorem ok76 : FnOK prog 76 fs76 := lindex_ok laysL
theorem ent76 : Entr prog 76 := ⟨_,func76,rfl,by decide⟩
end Go.Proofs.Tryd

set_option linter.unusedSimpArgs false
set_option linter.unusedVariables false
namespace Go.Proofs.Tryd
open Go.Ab Go.RowKit
def fs63 : FnS := fnS [.o,.o] [.str,.str] (fun _ (s,sep,_) => (.tup [.v (.string (cutB1 s sep)),.v (.string (cutB2 s sep)),.b (decide (0 ≤ idxB s sep))],[],(sep.size = 1) ∧ (s.size ≤ 2000000)))
abbrev T63 : Tab := lk [(76,fs76)]
theorem tab63 : TabOK prog T63 := (TabOK.cons ok76 ent76 TabOK.nil)
set_option maxRecDepth 100000 in
set_option maxHeartbeats 1000000 in
theorem ok63 : FnOK prog 63 fs63 := by
 refine FnOK.mk cok func63 rfl rfl rfl ?_
 rintro fl ⟨(s : ByteArray),(sep : ByteArray),_⟩ hpre F hnt0 _
 have hnt : F.nt = 23 := hnt0.trans ntmps63
 replace hpre : (sep.size = 1) ∧ (s.size ≤ 2000000) := hpre
 obtain ⟨hs,hz⟩ := hpre
 refine W.to (⟨[(0,.v (.string s)),(1,.v (.string sep))],[],[999]⟩) rfl ?_
 have hb := idx_bnd s sep
 refine Kk cok tab63 hnt [] [0,1] (⟨[(0,.v (.string s)),(1,.v (.string sep))],[],[999]⟩)
  (True ∧ True ∧ True ∧ True)
  ⟨tt,tt,tt,tt⟩ ?_
 refine W.seq ?_
 refine Kk cok tab63 hnt [] [0,1,7] (⟨[(0,.v (.string s)),(1,.v (.string sep)),(7,.i (idxB s sep))],[],[999]⟩)
  (True ∧ True ∧ (True ∧ (True ∧ True ∧ True) ∧ (sep.size = 1)) ∧ True ∧ True)
  ⟨tt,tt,⟨tt,⟨tt,tt,tt⟩,(by exact hs)⟩,tt,tt⟩ ?_
 refine Kk cok tab63 hnt [] [0,1,7,12] (⟨[(0,.v (.string s)),(1,.v (.string sep)),(7,.i (idxB s sep)),(12,.b (decide ((0 : Int) ≤ (idxB s sep))))],[],[999]⟩)
  (True ∧ (True ∧ True ∧ True) ∧ True)
  ⟨tt,⟨tt,tt,tt⟩,tt⟩ ?_
 refine W.ifP ((0 : Int) ≤ (idxB s sep)) (.b (decide ((0 : Int) ≤ (idxB s sep)))) (by kernel_rfl) rfl trivial ?_ ?_
 ·intro h12
  refine W.KA cok tab63 hnt [] [4,5,6] (⟨[(4,.v (.string (s.extract 0 (Int.toNat (idxB s sep))))),(5,.v (.string (s.extract (Int.toNat ((idxB s sep) + ((sep.size : Nat) : Int))) s.size))),(6,.b true)],[],[999]⟩)
   (True ∧ True ∧ (True ∧ True ∧ True ∧ (0 ≤ (0 : Int)) ∧ ((0 : Int) ≤ (idxB s sep)) ∧ ((idxB s sep) ≤ ((s.size : Nat) : Int))) ∧ True ∧ True ∧ True ∧ True ∧ (True ∧ True ∧ (Fits .i64 ((idxB s sep) + ((sep.size : Nat) : Int)))) ∧ (True ∧ True ∧ True ∧ (0 ≤ ((idxB s sep) + ((sep.size : Nat) : Int))) ∧ (((idxB s sep) + ((sep.size : Nat) : Int)) ≤ ((s.size : Nat) : Int)) ∧ (((s.size : Nat) : Int) ≤ ((s.size : Nat) : Int))) ∧ True ∧ True ∧ True ∧ True) (by kernel_rfl) (by kernel_rfl)
   ⟨tt,tt,⟨tt,tt,tt,(by omega),(by omega),(by omega)⟩,tt,tt,tt,tt,⟨tt,tt,(by exact fits_i64 (by omega) (by omega))⟩,⟨tt,tt,tt,(by omega),(by omega),(by omega)⟩,tt,tt,tt,tt⟩ ?_
  refine W.ret (thenQ_ret ?_)
  exact endQ_ret (.tup [.v (.string (s.extract 0 (Int.toNat (idxB s sep)))),.v (.string (s.extract (Int.toNat ((idxB s sep) + ((sep.size : Nat) : Int))) s.size)),.b true]) (by kernel_rfl) (@cast ((((.string (s.extract 0 (Int.toNat (idxB s sep)))) : Value) = (.string (cutB1 s sep))) ∧ (((.string (s.extract (Int.toNat ((idxB s sep) + ((sep.size : Nat) : Int))) s.size)) : Value) = (.string (cutB2 s sep))) ∧ ((.bool true : Value) = .bool (decide (0 ≤ idxB s sep))) ∧ True) _ (by kernel_rfl) ⟨(congrArg Value.string (by first | exact cut_yes1 h12 | exact cut_yes2 hs h12 | exact (decide_eq_true h12).symm)),(congrArg Value.string (by first | exact cut_yes1 h12 | exact cut_yes2 hs h12 | exact (decide_eq_true h12).symm)),(congrArg Value.bool (by first | exact cut_yes1 h12 | exact cut_yes2 hs h12 | exact (decide_eq_true h12).symm)),tt⟩)
 ·intro n12
  refine W.skip (thenQ_normal ?_)
  refine Kk cok tab63 hnt [] [4,5,6] (⟨[(4,.v (.string s)),(5,.v (.string nEmpty)),(6,.b false)],[],[999]⟩)
   (True ∧ True ∧ True ∧ True ∧ True)
   ⟨tt,tt,tt,tt,tt⟩ ?_
  refine W.ret ?_
  exact endQ_ret (.tup [.v (.string s),.v (.string nEmpty),.b false]) (by kernel_rfl) (@cast ((((.string s) : Value) = (.string (cutB1 s sep))) ∧ (((.string nEmpty) : Value) = (.string (cutB2 s sep))) ∧ ((.bool false : Value) = .bool (decide (0 ≤ idxB s sep))) ∧ True) _ (by kernel_rfl) ⟨(congrArg Value.string (by first | exact cut_no1 n12 | exact cut_no2 n12 | exact (decide_eq_false n12).symm)),(congrArg Value.string (by first | exact cut_no1 n12 | exact cut_no2 n12 | exact (decide_eq_false n12).symm)),(congrArg Value.bool (by first | exact cut_no1 n12 | exact cut_no2 n12 | exact (decide_eq_false n12).symm)),tt⟩)
theorem ent63 : Entr prog 63 := ⟨_,func63,rfl,by decide⟩
end Go.Proofs.Tryd

set_option linter.unusedSimpArgs false
set_option linter.unusedVariables false
namespace Go.Proofs.Tryd
open Go.Ab Go.RowKit
def fs47 : FnS := fnS [.o,.o] [.str,.str] (fun _ (s,sep,_) => (.tup [.v (.string (cutB1 s sep)),.v (.string (cutB2 s sep)),.b (decide (0 ≤ idxB s sep))],[],(sep.size = 1) ∧ (s.size ≤ 2000000)))
abbrev T47 : Tab := lk [(63,fs63)]
theorem tab47 : TabOK prog T47 := (TabOK.cons ok63 ent63 TabOK.nil)
set_option maxRecDepth 100000 in
set_option maxHeartbeats 1000000 in
theorem ok47 : FnOK prog 47 fs47 := by
 refine FnOK.mk cok func47 rfl rfl rfl ?_
 rintro fl ⟨(s : ByteArray),(sep : ByteArray),_⟩ hpre F hnt0 _
 have hnt : F.nt = 13 := hnt0.trans ntmps47
 replace hpre : (sep.size = 1) ∧ (s.size ≤ 2000000) := hpre
 obtain ⟨hs,hz⟩ := hpre
 refine W.to (⟨[(0,.v (.string s)),(1,.v (.string sep))],[],[999]⟩) rfl ?_
 refine Kk cok tab47 hnt [] [0,1] (⟨[(0,.v (.string s)),(1,.v (.string sep))],[],[999]⟩)
  (True ∧ True ∧ True ∧ True)
  ⟨tt,tt,tt,tt⟩ ?_
 refine Kk cok tab47 hnt [] [4,5,6] (⟨[(4,.v (.string (cutB1 s sep))),(5,.v (.string (cutB2 s sep))),(6,.b (decide (0 ≤ idxB s sep)))],[],[999]⟩)
  (True ∧ True ∧ (True ∧ (True ∧ True ∧ True) ∧ (sep.size = 1) ∧ (s.size ≤ 2000000)) ∧ True ∧ True ∧ True ∧ True ∧ True ∧ True ∧ True)
  ⟨tt,tt,⟨tt,⟨tt,tt,tt⟩,(by omega),(by omega)⟩,tt,tt,tt,tt,tt,tt,tt⟩ ?_
 refine W.ret ?_
 exact endQ_ret (.tup [.v (.string (cutB1 s sep)),.v (.string (cutB2 s sep)),.b (decide (0 ≤ idxB s sep))]) (by kernel_rfl) (@cast ((((.string (cutB1 s sep)) : Value) = (.string (cutB1 s sep))) ∧ (((.string (cutB2 s sep)) : Value) = (.string (cutB2 s sep))) ∧ (Sv (.bool (decide (0 ≤ idxB s sep)))) ∧ True) _ (by kernel_rfl) ⟨rfl,rfl,rfl,tt⟩)
theorem ent47 : Entr prog 47 := ⟨_,func47,rfl,by decide⟩
end Go.Proofs.Tryd

set_option linter.unusedSimpArgs false
set_option linter.unusedVariables false
namespace Go.Proofs.Tryd
open Go.Ab Go.RowKit Go.Shelf Go.Proofs Go.Lib
def fs48 : FnS := fnS [.o,.o] [.str,.u8] (fun _ (s,c,_) => (.i (Lib.indexByte s.data.toList (Int.toNat c).toUInt8),[],True))
def renB : Go.Shelf.Ren := ⟨fun k => bif Nat.beq k 137 then 48 else bif Nat.beq k 217 then 64 else bif Nat.beq k 266 then 77 else k,fun k => bif Nat.beq k 3 then 3 else bif Nat.beq k 5 then 5 else bif Nat.beq k 9 then 9 else k,fun k => k⟩
set_option maxRecDepth 100000 in
theorem laysB : Go.Proofs.Lays.n137 prog renB where
 mixed := by kernel_rfl
 f137 := by kernel_rfl
 f217 := by kernel_rfl
 f266 := by kernel_rfl
 t3 := underlying3
 a3 := isAgg3
 z3 := sizeOf3
 v3 := zeroValue3
 t5 := underlying5
 a5 := isAgg5
 z5 := sizeOf5
 v5 := zeroValue5
 t9 := underlying9
 a9 := isAgg9
 z9 := sizeOf9
 v9 := zeroValue9
theorem ok48 : FnOK prog 48 fs48 := indexByte_ok laysB
theorem ent48 : Entr prog 48 := ⟨_,func48,rfl,by decide⟩
end Go.Proofs.Tryd

set_option linter.unusedSimpArgs false
set_option linter.unusedVariables false
namespace Go.Proofs.Tryd
open Go.Ab Go.RowKit Go.Shelf Go.Proofs Go.Lib
def fs49 : FnS := fnS [.o] [.str] (fun _ (s,_) => (.tup [.i (atoiV s.data.toList),.any],[],(s.size ≤ 2000000)))
def renA : Go.Shelf.Ren := ⟨fun k => bif Nat.beq k 129 then 96 else bif Nat.beq k 171 then 39 else bif Nat.beq k 172 then 49 else bif Nat.beq k 205 then 94 else bif Nat.beq k 243 then 56 else bif Nat.beq k 244 then 65 else bif Nat.beq k 245 then 66 else bif Nat.beq k 246 then 70 else bif Nat.beq k 247 then 78 else bif Nat.beq k 279 then 79 else bif Nat.beq k 280 then 80 else bif Nat.beq k 281 then 81 else bif Nat.beq k 282 then 82 else bif Nat.beq k 283 then 84 else bif Nat.beq k 284 then 85 else bif Nat.beq k 285 then 86 else bif Nat.beq k 286 then 87 else bif Nat.beq k 287 then 92 else bif Nat.beq k 316 then 93 else bif Nat.beq k 317 then 95 else bif Nat.beq k 318 then 97 else bif Nat.beq k 319 then 98 else bif Nat.beq k 320 then 99 else bif Nat.beq k 321 then 101 else bif Nat.beq k 322 then 102 else bif Nat.beq k 337 then 103 else bif Nat.beq k 338 then 104 else k,fun k => bif Nat.beq k 0 then 0 else bif Nat.beq k 2 then 2 else bif Nat.beq k 3 then 3 else bif Nat.beq k 4 then 4 else bif Nat.beq k 5 then 5 else bif Nat.beq k 9 then 9 else bif Nat.beq k 20 then 20 else bif Nat.beq k 21 then 21 else bif Nat.beq k 37 then 29 else bif Nat.beq k 46 then 106 else bif Nat.beq k 51 then 115 else bif Nat.beq k 53 then 101 else bif Nat.beq k 75 then 62 else bif Nat.beq k 76 then 63 else bif Nat.beq k 80 then 65 else bif Nat.beq k 85 then 94 else bif Nat.beq k 127 then 77 else bif Nat.beq k 143 then 126 else bif Nat.beq k 145 then 128 else bif Nat.beq k 167 then 93 else bif Nat.beq k 168 then 96 else bif Nat.beq k 171 then 100 else bif Nat.beq k 173 then 104 else bif Nat.beq k 175 then 107 else bif Nat.beq k 210 then 111 else bif Nat.beq k 212 then 114 else bif Nat.beq k 213 then 116 else bif Nat.beq k 232 then 130 else bif Nat.beq k 233 then 131 else k,fun k => bif Nat.beq k 15 then 1 else bif Nat.beq k 16 then 2 else bif Nat.beq k 17 then 3 else bif Nat.beq k 18 then 6 else bif Nat.beq k 19 then 7 else k⟩
set_option maxRecDepth 100000 in
theorem laysA : Go.Proofs.LaysC.n172 prog renA where
 mixed := by kernel_rfl
 f129 := by kernel_rfl
 f171 := by kernel_rfl
 f172 := by kernel_rfl
 f205 := by kernel_rfl
 f243 := by kernel_rfl
 f244 := by kernel_rfl
 f245 := by kernel_rfl
 f246 := by kernel_rfl
 f247 := by kernel_rfl
 f279 := by kernel_rfl
 f280 := by kernel_rfl
 f281 := by kernel_rfl
 f282 := by kernel_rfl
 f283 := by kernel_rfl
 f284 := by kernel_rfl
 f285 := by kernel_rfl
 f286 := by kernel_rfl
 f287 := by kernel_rfl
 f316 := by kernel_rfl
 f317 := by kernel_rfl
 f318 := by kernel_rfl
 f319 := by kernel_rfl
 f320 := by kernel_rfl
 f321 := by kernel_rfl
 f322 := by kernel_rfl
 f337 := by kernel_rfl
 f338 := by kernel_rfl
 t0 := underlying0
 a0 := isAgg0
 z0 := sizeOf0
 v0 := zeroValue0
 t2 := underlying2
 a2 := isAgg2
 z2 := sizeOf2
 v2 := zeroValue2
 t3 := underlying3
 a3 := isAgg3
 z3 := sizeOf3
 v3 := zeroValue3
 t4 := underlying4
 a4 := isAgg4
 z4 := sizeOf4
 v4 := zeroValue4
 t5 := underlying5
 a5 := isAgg5
 z5 := sizeOf5
 v5 := zeroValue5
 t9 := underlying9
 a9 := isAgg9
 z9 := sizeOf9
 v9 := zeroValue9
 t20 := underlying20
 a20 := isAgg20
 z20 := sizeOf20
 v20 := zeroValue20
 t21 := underlying21
 a21 := isAgg21
 z21 := sizeOf21
 v21 := zeroValue21
 t37 := underlying29
 a37 := isAgg29
 z37 := sizeOf29
 v37 := zeroValue29
 t46 := underlying106
 a46 := isAgg106
 z46 := sizeOf106
 v46 := zeroValue106
 t51 := underlying115
 a51 := isAgg115
 z51 := sizeOf115
 v51 := zeroValue115
 t53 := underlying101
 a53 := isAgg101
 z53 := sizeOf101
 v53 := zeroValue101
 t75 := underlying62
 a75 := isAgg62
 z75 := sizeOf62
 v75 := zeroValue62
 t76 := underlying63
 a76 := isAgg63
 z76 := sizeOf63
 v76 := zeroValue63
 t85 := underlying94
 a85 := isAgg94
 z85 := sizeOf94
 v85 := zeroValue94
 t127 := underlying77
 a127 := isAgg77
 z127 := sizeOf77
 v127 := zeroValue77
 t143 := underlying126
 a143 := isAgg126
 z143 := sizeOf126
 v143 := zeroValue126
 t145 := underlying128
 a145 := isAgg128
 z145 := sizeOf128
 v145 := zeroValue128
 t167 := underlying93
 a167 := isAgg93
 z167 := sizeOf93
 v167 := zeroValue93
 t168 := underlying96
 a168 := isAgg96
 z168 := sizeOf96
 v168 := zeroValue96
 t171 := underlying100
 a171 := isAgg100
 z171 := sizeOf100
 v171 := zeroValue100
 t173 := underlying104
 a173 := isAgg104
 z173 := sizeOf104
 v173 := zeroValue104
 t175 := underlying107
 a175 := isAgg107
 z175 := sizeOf107
 v175 := zeroValue107
 t210 := underlying111
 a210 := isAgg111
 z210 := sizeOf111
 v210 := zeroValue111
 t212 := underlying114
 a212 := isAgg114
 z212 := sizeOf114
 v212 := zeroValue114
 t213 := underlying116
 a213 := isAgg116
 z213 := sizeOf116
 t232 := underlying130
 a232 := isAgg130
 z232 := sizeOf130
 v232 := zeroValue130
 t233 := underlying131
 a233 := isAgg131
 z233 := sizeOf131
 v233 := zeroValue131
 g15 := by kernel_rfl
 g16 := by kernel_rfl
 g17 := by kernel_rfl
 g18 := by kernel_rfl
 g19 := by kernel_rfl
 t80 := underlying65
 a80 := isAgg65
 z80 := sizeOf65
 v80 := zeroValue65
 i0 := by kernel_rfl
 i2 := by kernel_rfl
 i3 := by kernel_rfl
 i4 := by kernel_rfl
 i5 := by kernel_rfl
 i9 := by kernel_rfl
 i20 := by kernel_rfl
 i21 := by kernel_rfl
 i37 := by kernel_rfl
 i46 := by kernel_rfl
 i51 := by kernel_rfl
 i53 := by kernel_rfl
 i75 := by kernel_rfl
 i76 := by kernel_rfl
 i80 := by kernel_rfl
 i85 := by kernel_rfl
 i127 := by kernel_rfl
 i143 := by kernel_rfl
 i145 := by kernel_rfl
 i167 := by kernel_rfl
 i168 := by kernel_rfl
 i171 := by kernel_rfl
 i173 := by kernel_rfl
 i175 := by kernel_rfl
 i210 := by kernel_rfl
 i212 := by kernel_rfl
 i232 := by kernel_rfl
 i233 := by kernel_rfl
 m15 := by kernel_rfl
 m16 := by kernel_rfl
 m17 := by kernel_rfl
 m18 := by kernel_rfl
 m19 := by kernel_rfl
 c0 := by kernel_rfl
 c2 := by kernel_rfl
 c3 := by kernel_rfl
 c4 := by kernel_rfl
 c5 := by kernel_rfl
 c9 := by kernel_rfl
 c20 := by kernel_rfl
 c21 := by kernel_rfl
 c37 := by kernel_rfl
 c46 := by kernel_rfl
 c51 := by kernel_rfl
 c53 := by kernel_rfl
 c75 := by kernel_rfl
 c76 := by kernel_rfl
 c80 := by kernel_rfl
 c85 := by kernel_rfl
 c127 := by kernel_rfl
 c143 := by kernel_rfl
 c145 := by kernel_rfl
 c167 := by kernel_rfl
 c168 := by kernel_rfl
 c171 := by kernel_rfl
 c173 := by kernel_rfl
 c175 := by kernel_rfl
 c210 := by kernel_rfl
 c212 := by kernel_rfl
 c213 := by kernel_rfl
 c232 := by kernel_rfl
 c233 := by kernel_rfl
theorem ok49 : FnOK prog 49 fs49 := atoi_ok laysA (by decide) (by decide)
theorem ent49 : Entr prog 49 := ⟨_,func49,rfl,by decide⟩
end Go.Proofs.Tryd
