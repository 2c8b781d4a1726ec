import Derived.Test.YtbmbdlgifplglaaGreatDoorZF4S0
set_option maxRecDepth 100000
set_option maxHeartbeats 1000000
set_option linter.unusedSimpArgs false
set_option linter.unusedVariables false
namespace Go.Ab
def maskN : Nat→(Nat→Bool)→Nat
 | 0,_=>0
 | n+1,p=>maskN n p ||| (bif p n then 2 ^ n else 0)
def mask (n:Nat) (p : Nat→Bool) : Int := ((maskN n p:Nat):Int)
theorem maskN_bit (n:Nat) (p : Nat→Bool) (j:Nat) : (maskN n p).testBit j=(decide (j<n) && p j) := by
 induction n with
 | zero=>simp [maskN]
 | succ n ih =>
  simp only [maskN,Nat.testBit_or,ih]
  by_cases hj : j=n
  ·subst hj
   cases hp : p j <;> simp [Nat.testBit_two_pow]
  ·have e : (bif p n then 2 ^ n else 0).testBit j=false := by
    cases hp : p n <;> simp [Nat.testBit_two_pow]; omega
   rw [e,Bool.or_false]
   by_cases h1 : j<n
   ·simp [h1,show j<n+1 by omega]
   ·simp [h1,show ¬ j<n+1 by omega]
theorem maskN_lt (n:Nat) (p : Nat→Bool) : maskN n p<2 ^ n := by
 apply Nat.lt_pow_two_of_testBit
 intro i hi
 rw [maskN_bit]
 simp; omega
theorem or_pow {a k : Nat} (h : a<2 ^ k) : a ||| 2 ^ k=a+2 ^ k := by
 have := Nat.two_pow_add_eq_or_of_lt h 1
 rw [Nat.mul_one] at this
 rw [Nat.or_comm,← this,Nat.add_comm]
theorem maskN_succ (n:Nat) (p : Nat→Bool) : maskN (n+1) p=maskN n p+(bif p n then 2 ^ n else 0) := by
 simp only [maskN]
 cases hp : p n
 ·simp
 ·simp only [cond_true]; exact or_pow (maskN_lt n p)
theorem bits_or {a b : Nat} (ha : a<2 ^ 63) (hb : b<2 ^ 63) : bitsI .or .i64 (a:Int) (b:Int)=((a ||| b:Nat):Int) := by
 have e : bitsI .or .i64 (a:Int) (b:Int)=IntKind.i64.wrap (((BitVec.ofInt 64 a ||| BitVec.ofInt 64 b).toNat:Nat):Int) := rfl
 have h1 : (BitVec.ofInt 64 (a:Int)).toNat=a := by rw [BitVec.toNat_ofInt]; omega
 have h2 : (BitVec.ofInt 64 (b:Int)).toNat=b := by rw [BitVec.toNat_ofInt]; omega
 rw [e,BitVec.toNat_or,h1,h2]
 have := Nat.or_lt_two_pow ha hb
 exact IntWalk.i64_in _ (by omega)
theorem bits_and {a b : Nat} (ha : a<2 ^ 63) (hb : b<2 ^ 63) : bitsI .and .i64 (a:Int) (b:Int)=((a &&& b:Nat):Int) := by
 have e : bitsI .and .i64 (a:Int) (b:Int)=IntKind.i64.wrap (((BitVec.ofInt 64 a &&& BitVec.ofInt 64 b).toNat:Nat):Int) := rfl
 have h1 : (BitVec.ofInt 64 (a:Int)).toNat=a := by rw [BitVec.toNat_ofInt]; omega
 have h2 : (BitVec.ofInt 64 (b:Int)).toNat=b := by rw [BitVec.toNat_ofInt]; omega
 rw [e,BitVec.toNat_and,h1,h2]
 have := Nat.and_lt_two_pow a hb
 exact IntWalk.i64_in _ (by omega)
theorem shl_one {k : Nat} (h : k≤62) : shlI .i64 1 ((k:Nat):Int)=((2 ^ k:Nat):Int) := by
 unfold shlI
 have : min (Int.toNat ((k:Nat):Int)) IntKind.i64.bits=k := by
  rw [show IntKind.i64.bits=64 from rfl]; omega
 rw [this,Int.one_mul]
 simp
theorem pow_le {k : Nat} (h : k≤62) : 2 ^ k≤4611686018427387904 := by
 have := Nat.pow_le_pow_right (show 0<2 by omega) h
 simpa using this
theorem fits_shl {k : Nat} (h : k≤60) : Fits .i64 (shlI .i64 1 ((k:Nat):Int)) := by
 rw [shl_one (by omega)]
 have := pow_le (k := k) (by omega)
 generalize 2 ^ k=m at *
 exact fits_i64 (by omega) (by omega)
theorem mask_or {n : Nat} (p : Nat→Bool) (h : n≤60) (hp : p n=true) : bitsI .or .i64 (mask n p) (shlI .i64 1 ((n:Nat):Int))=mask (n+1) p := by
 have h1 := maskN_lt n p
 have h2 := pow_le (k := n) (by omega)
 rw [shl_one (by omega)]
 unfold mask
 rw [bits_or (by omega) (by omega)]
 simp only [maskN,hp,cond_true]
theorem mask_skip {n : Nat} {p : Nat→Bool} (hp : p n=false) : mask (n+1) p=mask n p := by simp [mask,maskN,hp]
theorem mask_add {n : Nat} {p : Nat→Bool} (hp : p n=true) : mask (n+1) p=mask n p+((2 ^ n:Nat):Int) := by
 unfold mask; rw [maskN_succ,hp]; simp
theorem mask_bnd (n:Nat) (p : Nat→Bool) (h : n≤61) : 0≤mask n p∧mask n p≤2305843009213693951 := by
 have h1 := maskN_lt n p
 have h2 := Nat.pow_le_pow_right (show 0<2 by omega) h
 unfold mask
 omega
def power (n:Int) : Int := ((2 ^ n.toNat:Nat):Int)
def bitOf (x j:Int) : Int := Int.tmod (Int.tdiv x (power j)) 2
theorem bitOf_mask (n:Nat) (p : Nat→Bool) (j:Nat) : bitOf (mask n p) ((j:Nat):Int)=if j<n∧p j=true then 1 else 0 := by
 unfold bitOf power mask
 rw [Int.toNat_natCast]
 have e : Int.tmod (Int.tdiv ((maskN n p:Nat):Int) ((2 ^ j:Nat):Int)) 2=((maskN n p / 2 ^ j % 2:Nat):Int) := rfl
 rw [e]
 have h := Nat.toNat_testBit (maskN n p) j
 rw [← h,maskN_bit]
 by_cases h1 : j<n <;> cases h2 : p j <;> simp [h1]
theorem bitOf_zero {n : Nat} {p : Nat→Bool} {j : Nat} : bitOf (mask n p) ((j:Nat):Int)=0↔¬ (j<n∧p j=true) := by
 rw [bitOf_mask]; split <;> simp_all
theorem mask_inj {n : Nat} {p q : Nat→Bool} : mask n p=mask n q↔∀ k,k<n→p k=q k := by
 unfold mask
 constructor
 ·intro h k hk
  have h1 : maskN n p=maskN n q := by omega
  have h2 : (maskN n p).testBit k=(maskN n q).testBit k := by rw [h1]
  simpa [maskN_bit,hk] using h2
 ·intro h
  congr 1
  apply Nat.eq_of_testBit_eq
  intro i
  rw [maskN_bit,maskN_bit]
  by_cases hi : i<n
  ·rw [h i hi]
  ·simp [hi]
theorem power_pos (n:Int) : 1≤power n := by
 unfold power; have := Nat.one_le_two_pow (n := n.toNat); omega
theorem power_le {n : Int} (h : n≤60) : power n≤1152921504606846976 := by
 unfold power
 have := Nat.pow_le_pow_right (show 0<2 by omega) (show n.toNat≤60 by omega)
 omega
theorem power_step {x k : Int} (h : 0<k) : 2 * x * power (k - 1)=x * power k := by
 unfold power
 rw [show k.toNat=(k - 1).toNat+1 by omega,Nat.pow_succ,Int.natCast_mul,Int.mul_comm 2 x,Int.mul_assoc,Int.mul_comm (((2 ^ (k - 1).toNat:Nat):Int)) _]
 rfl
theorem power_factor {x k n : Int} (h : x * power k=power n) (hx : 1≤x) : x≤power n := by
 rw [← h]
 have := Int.mul_le_mul_of_nonneg_left (power_pos k) (show 0≤x by omega)
 omega
theorem power_done {x k n : Int} (h : x * power k=power n) (hk : ¬ 0<k) : x=power n := by
 rw [← h]; unfold power; rw [show k.toNat=0 by omega]; simp
theorem ints_ext {a b : List Int} (h : a.length=b.length) (hA : ∀ j,j<a.length→a.getD j 0=b.getD j 0) : a=b := by
 apply List.ext_getElem h
 intro i h1 h2
 have := hA i h1
 rwa [List.getD_eq_getElem?_getD,List.getD_eq_getElem?_getD,List.getElem?_eq_getElem h1,List.getElem?_eq_getElem h2] at this
def rowsOf (n:Nat) (f : Nat→Nat→Bool) : List Int := (List.range n).map fun i=>mask n (f i)
def partRows (n:Nat) (f : Nat→Nat→Bool) (i k:Nat) : List Int := (List.range n).map fun j=>if j<i then mask n (f j) else if j=i then mask k (f i) else 0
theorem rowsOf_len (n:Nat) (f : Nat→Nat→Bool) : (rowsOf n f).length=n := by simp [rowsOf]
theorem partRows_len (n:Nat) (f : Nat→Nat→Bool) (i k:Nat) : (partRows n f i k).length=n := by simp [partRows]
theorem rowsOf_get {n : Nat} (f : Nat→Nat→Bool) {i : Nat} (h : i<n) : (rowsOf n f).getD i 0=mask n (f i) := by
 simp [rowsOf,List.getD_eq_getElem?_getD,h]
theorem partRows_get {n : Nat} (f : Nat→Nat→Bool) {i k : Nat} (h : i<n) : (partRows n f i k).getD i 0=mask k (f i) := by
 simp [partRows,List.getD_eq_getElem?_getD,h]
theorem partRows_zero (n:Nat) (f : Nat→Nat→Bool) : List.replicate n 0=partRows n f 0 0 := by
 apply List.ext_getElem
 ·simp [partRows]
 ·intro i h1 h2; simp [partRows]; intro h; simp [mask,maskN]
theorem partRows_set {n : Nat} {f : Nat→Nat→Bool} {i k : Nat} (_hi : i<n) {v : Int} (hv : v=mask (k+1) (f i)) : (partRows n f i k).set i v=partRows n f i (k+1) := by
 subst hv
 apply List.ext_getElem
 ·simp [partRows]
 ·intro j h1 h2
  simp only [List.getElem_set,partRows,List.getElem_map,List.getElem_range]
  by_cases hj : i=j
  ·subst hj; simp
  ·have hj' : ¬ j=i := fun h=>hj h.symm
   simp [hj,hj']
theorem partRows_skip {n : Nat} {f : Nat→Nat→Bool} {i k : Nat} (hf : f i k=false) : partRows n f i k=partRows n f i (k+1) := by
 unfold partRows; rw [mask_skip hf]
theorem partRows_next (n:Nat) (f : Nat→Nat→Bool) (i:Nat) : partRows n f i n=partRows n f (i+1) 0 := by
 unfold partRows
 apply List.map_congr_left
 intro j _
 by_cases h1 : j<i
 ·simp [h1,show j<i+1 by omega]
 ·by_cases h2 : j=i
  ·subst h2; simp
  ·simp only [h1,h2,show ¬ j<i+1 by omega,if_false]
   simp [mask,maskN]
theorem partRows_end (n:Nat) (f : Nat→Nat→Bool) : partRows n f n 0=rowsOf n f := by
 unfold partRows rowsOf
 apply List.map_congr_left
 intro j hj
 rw [if_pos (List.mem_range.1 hj)]
theorem rows_snoc (m n:Nat) (f : Nat→Nat→Bool) (x:Int) (hx : x=mask n (f m)) : ((List.range m).map fun i=>mask n (f i))++[x]=(List.range (m+1)).map fun i=>mask n (f i) := by
 rw [List.range_succ,List.map_append,hx]; rfl
def aheadF (h : List CallD) (i k:Nat) : Bool := isBefore (callAt h k) (callAt h i)
def ownF (h : List CallD) (i k:Nat) : Bool := decide ((callAt h i).proc=(callAt h k).proc) && isBefore (callAt h k) (callAt h i)
theorem own_fold {h : List CallD} {i k : Nat} {b : Bool} (hb : (decide ((h.getD k default).proc=(h.getD i default).proc) && isBefore (h.getD k default) (h.getD i default))=b) : ownF h i k=b := by
 rw [← hb]; unfold ownF callAt; congr 1; exact bool_ext (by simp only [decide_eq_true_eq]; omega)
def aheadOf (h : List CallD) : List Int := bif validHistory h then rowsOf h.length (aheadF h) else []
def ownAhead (h : List CallD) : List Int := bif validHistory h then rowsOf h.length (ownF h) else []
end Go.Ab

set_option linter.unusedSimpArgs false
set_option linter.unusedVariables false
namespace Go.Ab
theorem ahead_eq {h : List CallD} (hv : validHistory h=true) : aheadOf h=rowsOf h.length (aheadF h) := by unfold aheadOf; rw [hv]; rfl
theorem own_eq {h : List CallD} (hv : validHistory h=true) : ownAhead h=rowsOf h.length (ownF h) := by unfold ownAhead; rw [hv]; rfl
theorem call_ok {h : List CallD} (hv : validHistory h=true) {i : Nat} (hi : i<h.length) : (callAt h i).frm<(callAt h i).to∧0≤(callAt h i).frm∧(callAt h i).to≤30 := by
 have := isCall_iff.1 ((valid_iff.1 hv).2.1 i hi); omega
end Go.Ab

set_option linter.unusedSimpArgs false
set_option linter.unusedVariables false
namespace Go.Ab
def maxN : Nat→(Nat→Int)→Int
 | 0,_=>0
 | n+1,f=>max (maxN n f) (f n)
theorem maxN_nonneg (n:Nat) (f : Nat→Int) : 0≤maxN n f := by
 induction n with
 | zero=>simp [maxN]
 | succ n ih=>simp only [maxN]; omega
theorem le_maxN {n : Nat} {f : Nat→Int} {i : Nat} (h : i<n) : f i≤maxN n f := by
 induction n with
 | zero=>omega
 | succ n ih =>
  simp only [maxN]
  by_cases hi : i=n
  ·subst hi; omega
  ·have := ih (by omega); omega
theorem maxN_le {n : Nat} {f : Nat→Int} {b : Int} (hb : 0≤b) (h : ∀ i,i<n→f i≤b) : maxN n f≤b := by
 induction n with
 | zero=>simpa [maxN] using hb
 | succ n ih=>simp only [maxN]; have := h n (by omega); have := ih (fun i hi=>h i (by omega)); omega
theorem maxN_get {n : Nat} {f : Nat→Int} (h : 0<maxN n f) : ∃ i,i<n∧f i=maxN n f := by
 induction n with
 | zero=>simp [maxN] at h
 | succ n ih =>
  simp only [maxN] at h ⊢
  by_cases hc : maxN n f≤f n
  ·exact ⟨n,by omega,by omega⟩
  ·obtain ⟨i,h1,h2⟩ := ih (by omega)
   exact ⟨i,by omega,by omega⟩
theorem maxN_congr {n : Nat} {f g : Nat→Int} (h : ∀ i,i<n→f i=g i) : maxN n f=maxN n g := by
 induction n with
 | zero=>rfl
 | succ n ih=>simp only [maxN]; rw [h n (by omega),ih (fun i hi=>h i (by omega))]
def openP (t:Int) (c:CallD) : Bool := decide (c.frm≤t) && decide (t<c.to)
def openAt (h : List CallD) (t:Int) : Int := ((h.countP (openP t):Nat):Int)
theorem take_count {h : List CallD} {k : Nat} (p : CallD→Bool) (hk : k<h.length) : (((h.take (k+1)).countP p:Nat):Int)=(((h.take k).countP p:Nat):Int)+(if p (h.getD k default)=true then 1 else 0) := by
 rw [List.take_succ_eq_append_getElem hk,List.countP_append]
 simp only [List.getD_eq_getElem?_getD,List.getElem?_eq_getElem hk,Option.getD_some,List.countP_cons,List.countP_nil]
 split <;> simp
theorem take_count_le (h : List CallD) (k:Nat) (p : CallD→Bool) : (h.take k).countP p≤k := Nat.le_trans List.countP_le_length (by rw [List.length_take]; omega)
theorem list_range (h : List CallD) : h=(List.range h.length).map (callAt h) := by
 apply List.ext_getElem
 ·simp
 ·intro i h1 h2; simp [callAt,h1]
theorem count_range (h : List CallD) (p : CallD→Bool) : h.countP p=(List.range h.length).countP (fun i=>p (callAt h i)) := by
 have e : h.countP p=((List.range h.length).map (callAt h)).countP p := by rw [← list_range h]
 rw [e,List.countP_map]; rfl
theorem count_mono {l : List Nat} {p q : Nat→Bool} (h : ∀ x ∈ l,p x=true→q x=true) : l.countP p≤l.countP q := List.countP_mono_left h
theorem count_lt {l : List Nat} {p q : Nat→Bool} (h : ∀ x ∈ l,p x=true→q x=true) {x0 : Nat} (hx : x0 ∈ l) (h1 : q x0=true) (h2 : p x0=false) : l.countP p+1≤l.countP q := by
 induction l with
 | nil=>simp at hx
 | cons a l ih =>
  rw [List.countP_cons,List.countP_cons]
  rcases List.mem_cons.1 hx with rfl | hx'
  ·have := count_mono (l := l) (fun x hx=>h x (List.mem_cons_of_mem _ hx))
   rw [if_pos h1,if_neg (by rw [h2]; simp)]; omega
  ·have := ih (fun x hx=>h x (List.mem_cons_of_mem _ hx)) hx'
   have ha := h a (List.mem_cons_self ..)
   by_cases hp : p a=true
   ·rw [if_pos hp,if_pos (ha hp)]; omega
   ·rw [if_neg hp]; split <;> omega
def widthI (h : List CallD) : Int := maxN 31 (fun t=>openAt h ((t:Nat):Int))
def widthS (h : List CallD) : Int := maxN h.length (fun i=>openAt h (callAt h i).frm)
def widthOf (h : List CallD) : Int := bif validHistory h then widthI h else -1
theorem open_le (h : List CallD) (t:Int) : 0≤openAt h t∧openAt h t≤((h.length:Nat):Int) := by
 unfold openAt; have := List.countP_le_length (p := openP t) (l := h); omega
theorem max_by (n:Nat) (p : Nat→Bool) (f : Nat→Int) (h : ∃ i,i<n∧p i=true) : ∃ i,i<n∧p i=true∧∀ j,j<n→p j=true→f j≤f i := by
 induction n with
 | zero=>obtain ⟨i,hi,_⟩ := h; omega
 | succ n ih =>
  by_cases hn : ∃ i,i<n∧p i=true
  ·obtain ⟨i,h1,h2,h3⟩ := ih hn
   by_cases hpn : p n=true∧f i<f n
   ·refine ⟨n,by omega,hpn.1,fun j hj hp => ?_⟩
    by_cases hjn : j=n
    ·subst hjn; omega
    ·have := h3 j (by omega) hp; omega
   ·refine ⟨i,by omega,h2,fun j hj hp => ?_⟩
    by_cases hjn : j=n
    ·subst hjn
     by_cases hlt : f i<f j
     ·exact absurd ⟨hp,hlt⟩ hpn
     ·omega
    ·exact h3 j (by omega) hp
  ·obtain ⟨i,h1,h2⟩ := h
   have : i=n := by
    by_cases hin : i=n
    ·exact hin
    ·exact absurd ⟨i,by omega,h2⟩ hn
   subst this
   refine ⟨i,by omega,h2,fun j hj hp => ?_⟩
   by_cases hji : j=i
   ·subst hji; omega
   ·exact absurd ⟨j,by omega,hp⟩ hn
theorem width_eq {h : List CallD} (hv : validHistory h=true) : widthS h=widthI h := by
 apply Int.le_antisymm
 ·refine maxN_le (maxN_nonneg _ _) (fun i hi => ?_)
  have h1 := call_ok hv hi
  have h2 := le_maxN (n := 31) (f := fun t=>openAt h ((t:Nat):Int)) (i := (callAt h i).frm.toNat) (by omega)
  rw [show (((callAt h i).frm.toNat:Nat):Int)=(callAt h i).frm by omega] at h2
  exact h2
 ·refine maxN_le (maxN_nonneg _ _) (fun t ht => ?_)
  by_cases hex : ∃ i,i<h.length∧openP t (callAt h i)=true
  ·obtain ⟨i,h1,h2,h3⟩ := max_by h.length (fun i=>openP t (callAt h i)) (fun i=>(callAt h i).frm) hex
   refine Int.le_trans ?_ (le_maxN (n := h.length) (f := fun i=>openAt h (callAt h i).frm) h1)
   unfold openAt
   rw [count_range,count_range]
   have : (List.range h.length).countP (fun i=>openP ((t:Nat):Int) (callAt h i))≤(List.range h.length).countP (fun j=>openP (callAt h i).frm (callAt h j)) := by
    apply count_mono
    intro j hj hp
    have hj' := List.mem_range.1 hj
    have h4 := h3 j hj' hp
    simp only [openP,Bool.and_eq_true,decide_eq_true_eq] at hp h2 ⊢
    omega
   omega
  ·have : openAt h ((t:Nat):Int)=0 := by
    unfold openAt
    rw [count_range,List.countP_eq_zero.2]
    ·rfl
    ·intro j hj hp; exact hex ⟨j,List.mem_range.1 hj,hp⟩
   rw [this]; exact maxN_nonneg _ _
def mbF (h : List CallD) (l : Nat→Int) (i:Nat) : Int := maxN h.length (fun k=>bif isBefore (callAt h k) (callAt h i) then l k+1 else 0)
def levF (h : List CallD) : Nat→Nat→Int
 | 0,_=>0
 | n+1,i=>mbF h (levF h n) i
def lev (h : List CallD) (i:Nat) : Int := levF h 31 i
def levOf (h : List CallD) : List Int := (List.range h.length).map (lev h)
theorem levOf_len (h : List CallD) : (levOf h).length=h.length := by simp [levOf]
theorem levOf_get {h : List CallD} {i : Nat} (hi : i<h.length) : (levOf h).getD i 0=lev h i := by simp [levOf,List.getD_eq_getElem?_getD,hi]
theorem bef_iff {a b : CallD} : isBefore a b=true↔a.to<b.frm := by simp [isBefore]
theorem levF_stable {h : List CallD} (hv : validHistory h=true) : ∀ (n i:Nat),i<h.length→(callAt h i).frm<n→levF h (n+1) i=levF h n i := by
 intro n
 induction n with
 | zero=>intro i hi hlt; have := call_ok hv hi; omega
 | succ n ih =>
  intro i hi hlt
  show mbF h (levF h (n+1)) i=mbF h (levF h n) i
  apply maxN_congr
  intro k hk
  cases hb : isBefore (callAt h k) (callAt h i) with
  | false=>rfl
  | true =>
   have h1 := bef_iff.1 hb
   have h2 := call_ok hv hk
   simp only [cond_true]
   rw [ih k hk (by omega)]
theorem lev_fix {h : List CallD} (hv : validHistory h=true) {i : Nat} (hi : i<h.length) : lev h i=mbF h (lev h) i := by
 have := levF_stable hv 31 i hi (by have := call_ok hv hi; omega)
 exact this.symm
theorem lev_lt {h : List CallD} (hv : validHistory h=true) {i k : Nat} (hi : i<h.length) (hk : k<h.length) (hb : isBefore (callAt h k) (callAt h i)=true) : lev h k+1≤lev h i := by
 rw [lev_fix hv hi]
 have := le_maxN (n := h.length) (f := fun k=>bif isBefore (callAt h k) (callAt h i) then lev h k+1 else 0) hk
 simp only [hb,cond_true] at this
 exact this
theorem lev_pred {h : List CallD} (hv : validHistory h=true) {i : Nat} (hi : i<h.length) (h0 : 0<lev h i) : ∃ k,k<h.length∧isBefore (callAt h k) (callAt h i)=true∧lev h k+1=lev h i := by
 rw [lev_fix hv hi] at h0
 obtain ⟨k,hk,he⟩ := maxN_get h0
 cases hb : isBefore (callAt h k) (callAt h i) with
 | false=>simp only [hb,cond_false] at he; unfold mbF at h0; omega
 | true=>simp only [hb,cond_true] at he; exact ⟨k,hk,hb,by rw [lev_fix hv hi]; exact he⟩
theorem levF_count {h : List CallD} (hv : validHistory h=true) : ∀ (n i:Nat),i<h.length→levF h n i≤(((List.range h.length).countP (fun j=>decide ((callAt h j).frm<(callAt h i).frm)):Nat):Int) := by
 intro n
 induction n with
 | zero=>intro i _; simp [levF]
 | succ n ih =>
  intro i hi
  refine maxN_le (by omega) (fun k hk => ?_)
  cases hb : isBefore (callAt h k) (callAt h i) with
  | false=>simp only [cond_false]; omega
  | true =>
   simp only [cond_true]
   have h1 := ih k hk
   have h2 := bef_iff.1 hb
   have h3 := call_ok hv hk
   have h4 := count_lt (l := List.range h.length) (p := fun j=>decide ((callAt h j).frm<(callAt h k).frm)) (q := fun j=>decide ((callAt h j).frm<(callAt h i).frm))
    (fun x _ hx=>by simp only [decide_eq_true_eq] at hx ⊢; omega) (List.mem_range.2 hk) (by simp only [decide_eq_true_eq]; omega) (by simp)
   omega
theorem lev_len {h : List CallD} (hv : validHistory h=true) {i : Nat} (hi : i<h.length) : lev h i≤((h.length:Nat):Int) := by
 have h1 := levF_count hv 31 i hi
 have h2 := List.countP_le_length (p := fun j=>decide ((callAt h j).frm<(callAt h i).frm)) (l := List.range h.length)
 rw [List.length_range] at h2
 unfold lev; omega
def Rd (h : List CallD) (r:Nat) (i:Nat) (o : List Int) : Prop :=
 o.length=h.length∧∀ j,j<h.length→0≤o.getD j 0∧o.getD j 0≤lev h j∧(lev h j≤r→o.getD j 0=lev h j)∧(j<i→lev h j≤r+1→o.getD j 0=lev h j)
def RdK (h : List CallD) (r:Nat) (i k:Nat) (o : List Int) : Prop :=
 Rd h r i o∧∀ k',k' < k→isBefore (callAt h k') (callAt h i)=true→lev h k'≤r→lev h k' + 1≤o.getD i 0
theorem getD_set (l : List Int) (i j:Nat) (v:Int) (hi : i<l.length) : (l.set i v).getD j 0=if i=j then v else l.getD j 0 := by
 rw [List.getD_eq_getElem?_getD,List.getElem?_set]
 by_cases hij : i=j
 ·subst hij; simp [hi]
 ·simp [hij,List.getD_eq_getElem?_getD]
theorem Rd.next {h : List CallD} {r : Nat} {o : List Int} (hr : Rd h r h.length o) : Rd h (r+1) 0 o :=
 ⟨hr.1,fun j hj=>by have := hr.2 j hj; exact ⟨this.1,this.2.1,fun hl=>this.2.2.2 hj (by omega),by omega⟩⟩
theorem RdK.skip {h : List CallD} {r i k : Nat} {o : List Int} (hr : RdK h r i k o) (hb : isBefore (callAt h k) (callAt h i)=false) : RdK h r i (k+1) o :=
 ⟨hr.1,fun k' hk hb' hl=>by
  rcases Nat.lt_succ_iff_lt_or_eq.1 hk with h1 | rfl
  ·exact hr.2 k' h1 hb' hl
  ·rw [hb] at hb'; cases hb'⟩
theorem RdK.set {h : List CallD} (hv : validHistory h=true) {r i k : Nat} {o : List Int} (hr : RdK h r i k o) (hi : i<h.length) (hk : k<h.length) (hb : isBefore (callAt h k) (callAt h i)=true) :
  RdK h r i (k+1) (o.set i (max (o.getD i 0) (o.getD k 0+1))) := by
 obtain ⟨⟨hl,hr1⟩,hr2⟩ := hr
 have hlt := lev_lt hv hi hk hb
 have h1 := hr1 i hi
 have h2 := hr1 k hk
 refine ⟨⟨by simpa using hl,fun j hj => ?_⟩,fun k' hk' hb' hl' => ?_⟩
 ·rw [getD_set _ _ _ _ (by omega)]
  split
  ·rename_i he; subst he
   exact ⟨by omega,by omega,fun hle=>by have := h1.2.2.1 hle; omega,fun hle=>by omega⟩
  ·exact hr1 j hj
 ·rw [getD_set _ _ _ _ (by omega),if_pos rfl]
  rcases Nat.lt_succ_iff_lt_or_eq.1 hk' with h3 | rfl
  ·have := hr2 k' h3 hb' hl'; omega
  ·have := h2.2.2.1 hl'; omega
theorem RdK.done {h : List CallD} (hv : validHistory h=true) {r i : Nat} {o : List Int} (hr : RdK h r i h.length o) (hi : i<h.length) : Rd h r (i+1) o := by
 obtain ⟨⟨hl,hr1⟩,hr2⟩ := hr
 refine ⟨hl,fun j hj=>⟨(hr1 j hj).1,(hr1 j hj).2.1,(hr1 j hj).2.2.1,fun hji hle => ?_⟩⟩
 rcases Nat.lt_succ_iff_lt_or_eq.1 hji with h1 | rfl
 ·exact (hr1 j hj).2.2.2 h1 hle
 ·have h1 := hr1 j hj
  rcases Int.lt_or_le 0 (lev h j) with h0 | h0
  ·obtain ⟨k,hk,hb,he⟩ := lev_pred hv hj h0
   have := hr2 k hk hb (by omega)
   omega
  ·omega
theorem Rd.end {h : List CallD} (hv : validHistory h=true) {r : Nat} {o : List Int} (hr : Rd h r 0 o) (hn : h.length≤r) : o=levOf h := by
 apply ints_ext (by rw [hr.1,levOf_len])
 intro j hj
 have hj' : j<h.length := by rw [← hr.1]; exact hj
 rw [levOf_get hj']
 exact (hr.2 j hj').2.2.1 (by have := lev_len hv hj'; omega)
theorem width_le (h : List CallD) : 0≤widthI h∧widthI h≤((h.length:Nat):Int) := ⟨maxN_nonneg _ _,maxN_le (by omega) (fun t _=>(open_le h _).2)⟩
end Go.Ab
namespace Go.Ab
end Go.Ab

set_option linter.unusedSimpArgs false
set_option linter.unusedVariables false
namespace Go.Ab
def fIdx (n:Nat) (p : Nat→Bool) : Option Nat := (List.range n).find? p
theorem fIdx_some {n i : Nat} {p : Nat→Bool} (hi : i<n) (hp : p i=true) (hn : ∀ j,j<i→p j=false) : fIdx n p=some i := by
 unfold fIdx
 rw [List.find?_range_eq_some]
 exact ⟨hp,List.mem_range.2 hi,fun j hj=>by rw [hn j hj]; rfl⟩
theorem fIdx_none {n : Nat} {p : Nat→Bool} (hn : ∀ j,j<n→p j=false) : fIdx n p=none := by
 unfold fIdx
 rw [List.find?_eq_none]
 intro x hx; rw [hn x (List.mem_range.1 hx)]; simp
theorem fIdx_lt {n i : Nat} {p : Nat→Bool} (h : fIdx n p=some i) : i<n∧p i=true := by
 unfold fIdx at h
 exact ⟨List.mem_range.1 (List.mem_of_find?_eq_some h),List.find?_some h⟩
theorem fIdx_no {n : Nat} {p : Nat→Bool} (h : fIdx n p=none) : ∀ j,j<n→p j=false := by
 unfold fIdx at h
 rw [List.find?_eq_none] at h
 intro j hj; simpa using h j (List.mem_range.2 hj)
def putF (h : List CallD) (r:Int) (k:Nat) : Bool := decide ((callAt h k).kind=0) && decide ((callAt h k).arg=r)
def idxV : Option Nat→Int
 | some k=>((k:Nat):Int)
 | none => -2
def sourceR (h : List CallD) (r:Int) : Int := bif decide (r=0) then -1 else idxV (fIdx h.length (putF h r))
def olderR (h : List CallD) (a b:Int) : Bool := bif decide (b<0) then false else (decide (a = -1) || (decide (0≤a) && isBefore (callAt h a.toNat) (callAt h b.toNat)))
def turnP (h : List CallD) (i k:Nat) : Bool :=
 ((decide ((callAt h i).kind=2) && decide ((callAt h k).kind=2)) && isBefore (callAt h i) (callAt h k)) && olderR h (sourceR h (callAt h k).ret) (sourceR h (callAt h i).ret)
def turn (h : List CallD) : Int × Int × Bool :=
 match fIdx h.length (fun i=>anyN h.length (turnP h i)) with
 | some i=>match fIdx h.length (turnP h i) with
  | some k=>(((i:Nat):Int),((k:Nat):Int),true)
  | none=>(-1,-1,false)
 | none=>(-1,-1,false)
end Go.Ab

set_option linter.unusedSimpArgs false
set_option linter.unusedVariables false
namespace Go.Ab
def qtP (h : List CallD) (i k t:Nat) : Bool := (decide ((callAt h k).to≤((t:Nat):Int)) && decide (((t:Nat):Int)<(callAt h i).frm)) && decide (openAt h ((t:Nat):Int)=0)
def quietT (h : List CallD) (t:Nat) (i k:Nat) : Bool := anyN t (qtP h i k)
def quietF (h : List CallD) (i k:Nat) : Bool := quietT h 31 i k
def quietAhead (h : List CallD) : List Int := bif validHistory h then rowsOf h.length (quietF h) else []
theorem anyN_iff' {n : Nat} {p : Nat→Bool} : anyN n p=true↔∃ i,i<n∧p i=true := by
 constructor
 ·intro h
  refine Classical.byContradiction fun hn => ?_
  have : anyN n p=false := anyN_false (fun j hj=>by
   cases hp : p j
   ·rfl
   ·exact absurd ⟨j,hj,hp⟩ hn)
  rw [this] at h; cases h
 ·rintro ⟨i,h1,h2⟩; exact anyN_true h1 h2
theorem anyN_succ (n:Nat) (p : Nat→Bool) : anyN (n+1) p=(anyN n p || p n) := by
 apply bool_ext
 rw [Bool.or_eq_true,anyN_iff',anyN_iff']
 constructor
 ·rintro ⟨i,h1,h2⟩
  by_cases hi : i=n
  ·subst hi; exact Or.inr h2
  ·exact Or.inl ⟨i,by omega,h2⟩
 ·rintro (⟨i,h1,h2⟩ | h)
  ·exact ⟨i,by omega,h2⟩
  ·exact ⟨n,by omega,h⟩
theorem quiet_iff {h : List CallD} {i k : Nat} : quietF h i k=true↔∃ t,t<31∧(callAt h k).to≤((t:Nat):Int)∧((t:Nat):Int)<(callAt h i).frm∧openAt h ((t:Nat):Int)=0 := by
 unfold quietF quietT qtP
 rw [anyN_iff']
 simp only [Bool.and_eq_true,decide_eq_true_eq,and_assoc]
theorem quiet_yes {h : List CallD} {i k : Nat} {t : Int} (h0 : 0≤t) (h31 : t<31) (h1 : (h.getD k default).to≤t) (h2 : t<(h.getD i default).frm) (h3 : openAt h t=0) : quietF h i k=true :=
 quiet_iff.2 ⟨t.toNat,by omega,by unfold callAt; omega,by unfold callAt; omega,by rw [show ((t.toNat:Nat):Int)=t by omega]; exact h3⟩
theorem quiet_no {h : List CallD} {i k : Nat} {t : Int} (h2 : ¬ t<(h.getD i default).frm) (hA : ∀ j : Int,(h.getD k default).to≤j→j<t→¬ openAt h j=0) : quietF h i k=false := by
 cases hq : quietF h i k with
 | false=>rfl
 | true =>
  obtain ⟨t',_,h3,h4,h5⟩ := quiet_iff.1 hq
  unfold callAt at h3 h4
  exact absurd h5 (hA _ h3 (by omega))
theorem mask_set {n k : Nat} (hn : n≤60) (hk : k<n) (p : Nat→Bool) : bitsI .or .i64 (mask n p) (power ((k:Nat):Int))=mask n (fun m=>p m || decide (m=k)) := by
 have h1 := maskN_lt n p
 have h2 := pow_le (k := n) (by omega)
 have h3 := pow_le (k := k) (by omega)
 unfold mask power
 rw [Int.toNat_natCast,bits_or (by omega) (by omega)]
 congr 1
 apply Nat.eq_of_testBit_eq
 intro i
 rw [Nat.testBit_or,maskN_bit,maskN_bit,Nat.testBit_two_pow]
 by_cases hi : i=k
 ·subst hi; simp [hk]
 ·have hi' : ¬ k=i := fun e=>hi e.symm
  simp [hi,hi']
def mixF (f g : Nat→Nat→Bool) (i k:Nat) (j m:Nat) : Bool := if j<i ∨ (j=i∧m<k) then g j m else f j m
theorem rowsOf_congr {n : Nat} {f g : Nat→Nat→Bool} (h : ∀ j m,j<n→m<n→f j m=g j m) : rowsOf n f=rowsOf n g := by
 unfold rowsOf
 apply List.map_congr_left
 intro j hj
 rw [mask_inj]
 intro m hm
 exact h j m (List.mem_range.1 hj) hm
theorem mix_start {n : Nat} {f g : Nat→Nat→Bool} : rowsOf n f=rowsOf n (mixF f g 0 0) := rowsOf_congr (fun j m _ _=>by simp [mixF])
theorem mix_next {n i : Nat} {f g : Nat→Nat→Bool} : rowsOf n (mixF f g i n)=rowsOf n (mixF f g (i+1) 0) := rowsOf_congr (fun j m _ hm=>by
 unfold mixF
 by_cases h1 : j<i
 ·rw [if_pos (Or.inl h1),if_pos (Or.inl (by omega))]
 ·by_cases h2 : j=i
  ·rw [if_pos (Or.inr ⟨h2,hm⟩),if_pos (Or.inl (by omega))]
  ·rw [if_neg (by omega),if_neg (by omega)])
theorem mix_end {n i : Nat} {f g : Nat→Nat→Bool} (hi : ¬ i<n) : rowsOf n (mixF f g i 0)=rowsOf n g := rowsOf_congr (fun j m hj _=>by
 unfold mixF; rw [if_pos (Or.inl (by omega))])
theorem mix_skip {n i k : Nat} {f g : Nat→Nat→Bool} (hk : f i k=g i k) : rowsOf n (mixF f g i k)=rowsOf n (mixF f g i (k+1)) := rowsOf_congr (fun j m _ _=>by
 unfold mixF
 by_cases h1 : j=i∧m=k
 ·rw [if_neg (by omega),if_pos (by omega),h1.1,h1.2,hk]
 ·by_cases h2 : j<i ∨ (j=i∧m<k)
  ·rw [if_pos h2,if_pos (by omega)]
  ·rw [if_neg h2,if_neg (by omega)])
theorem mix_set {n i k : Nat} {f g : Nat→Nat→Bool} (hn : n≤60) (hi : i<n) (hk : k<n) (hg : g i k=true) : (rowsOf n (mixF f g i k)).set i (bitsI .or .i64 ((rowsOf n (mixF f g i k)).getD i 0) (power ((k:Nat):Int)))=rowsOf n (mixF f g i (k+1)) := by
 rw [rowsOf_get _ hi,mask_set hn hk]
 apply List.ext_getElem
 ·simp [rowsOf]
 ·intro j h1 h2
  simp only [List.getElem_set,rowsOf,List.getElem_map,List.getElem_range]
  by_cases hj : i=j
  ·subst hj
   rw [if_pos rfl,mask_inj]
   intro m hm
   unfold mixF
   by_cases hmk : m=k
   ·subst hmk; simp [hg]
   ·by_cases hlt : m<k
    ·rw [if_pos (Or.inr ⟨rfl,hlt⟩),if_pos (Or.inr ⟨rfl,by omega⟩)]; simp [hmk]
    ·rw [if_neg (by omega),if_neg (by omega)]; simp [hmk]
  ·rw [if_neg hj,mask_inj]
   intro m hm
   unfold mixF
   by_cases hlt : j<i
   ·rw [if_pos (Or.inl hlt),if_pos (Or.inl hlt)]
   ·rw [if_neg (by omega),if_neg (by omega)]
theorem rows_zero (n:Nat) (h : List CallD) : List.replicate n 0=rowsOf n (quietT h 0) := by
 apply List.ext_getElem
 ·simp [rowsOf]
 ·intro i h1 h2
  simp only [List.getElem_replicate,rowsOf,List.getElem_map,List.getElem_range]
  have : mask n (quietT h 0 i)=mask n (fun _=>false) := mask_inj.2 (fun k _=>rfl)
  rw [this]
  clear this h1 h2
  induction n with
  | zero=>rfl
  | succ n ih=>rw [mask_skip rfl]; exact ih
def openB (h : List CallD) (t:Int) (n:Nat) : Bool := anyN n (fun j=>openP t (callAt h j))
theorem openB_zero {h : List CallD} {t : Int} : openB h t h.length=true↔¬ openAt h t=0 := by
 unfold openB openAt
 rw [anyN_iff',count_range]
 constructor
 ·rintro ⟨j,hj,hp⟩ he
  have h0 := List.countP_eq_zero.1 (show (List.range h.length).countP (fun i=>openP t (callAt h i))=0 by omega) j (List.mem_range.2 hj)
  exact h0 hp
 ·intro hne
  refine Classical.byContradiction fun hn=>hne ?_
  rw [List.countP_eq_zero.2 (fun j hj hp=>hn ⟨j,List.mem_range.1 hj,hp⟩)]; rfl
theorem quietT_succ (h : List CallD) (t i k:Nat) : quietT h (t+1) i k=(quietT h t i k || qtP h i k t) := anyN_succ _ _
theorem qt_yes {h : List CallD} {t i k : Nat} (ho : openB h ((t:Nat):Int) h.length=false) (hc : (decide ((h.getD k default).to≤((t:Nat):Int)) && decide (((t:Nat):Int)<(h.getD i default).frm))=true) : quietT h (t+1) i k=true := by
 rw [quietT_succ]
 have h0 : openAt h ((t:Nat):Int)=0 := Classical.byContradiction fun hn=>by rw [openB_zero.2 hn] at ho; cases ho
 unfold qtP callAt
 rw [hc,decide_eq_true h0]; simp
theorem qt_no {h : List CallD} {t i k : Nat} (hc : (decide ((h.getD k default).to≤((t:Nat):Int)) && decide (((t:Nat):Int)<(h.getD i default).frm))=false) : quietT h t i k=quietT h (t+1) i k := by
 rw [quietT_succ]
 unfold qtP callAt
 rw [hc]; simp
theorem openB_succ {h : List CallD} {t : Int} {n : Nat} {b : Bool} (hb : (openB h t n || (decide ((h.getD n default).frm≤t) && decide (t<(h.getD n default).to)))=b) : b=openB h t (n+1) := by
 unfold openB at *
 rw [anyN_succ,← hb]; rfl
theorem quiet_fin {h : List CallD} {t : Nat} (ht : t=31) : rowsOf h.length (quietT h t)=rowsOf h.length (quietF h) := by subst ht; rfl
theorem mix_out {h : List CallD} {t i : Nat} (hx : (decide (((i:Nat):Int)<((h.length:Nat):Int)) && !openB h ((t:Nat):Int) h.length)=false) : rowsOf h.length (mixF (quietT h t) (quietT h (t+1)) i 0)=rowsOf h.length (quietT h (t+1)) := by
 cases ho : openB h ((t:Nat):Int) h.length with
 | false =>
  rw [ho] at hx
  simp only [Bool.not_false,Bool.and_true,decide_eq_false_iff_not] at hx
  exact mix_end (by omega)
 | true =>
  apply rowsOf_congr
  intro j m _ _
  unfold mixF
  rw [quietT_succ]
  have : qtP h j m t=false := by
   unfold qtP
   rw [decide_eq_false (openB_zero.1 ho),Bool.and_false]
  rw [this,Bool.or_false]; simp
theorem quiet_eq {h : List CallD} (hv : validHistory h=true) : quietAhead h=rowsOf h.length (quietF h) := by unfold quietAhead; rw [hv]; rfl
end Go.Ab

set_option linter.unusedSimpArgs false
set_option linter.unusedVariables false
namespace Go.Ab
def findI (l : List Int) (x:Int) : Int := match fIdx l.length (fun i=>decide (l.getD i 0=x)) with
 | some k=>((k:Nat):Int)
 | none => -1
theorem findI_yes {l : List Int} {x : Int} {i : Nat} (hi : i<l.length) (h : x=l.getD i 0) (hn : ∀ j,j<i→¬ l.getD j 0=x) : findI l x=((i:Nat):Int) := by
 unfold findI
 rw [fIdx_some hi (decide_eq_true h.symm) (fun j hj=>decide_eq_false (hn j hj))]
theorem findI_no {l : List Int} {x : Int} (hn : ∀ j,j<l.length→¬ l.getD j 0=x) : findI l x = -1 := by
 unfold findI
 rw [fIdx_none (fun j hj=>decide_eq_false (hn j hj))]
theorem findI_has (l : List Int) (x:Int) : decide (0≤findI l x)=hasInt l x := by
 unfold findI hasInt
 cases hf : fIdx l.length (fun i=>decide (l.getD i 0=x)) with
 | some k =>
  have := fIdx_lt hf
  rw [anyN_true this.1 this.2]
  exact decide_eq_true (show (0:Int)≤((k:Nat):Int) by omega)
 | none =>
  rw [anyN_false (fIdx_no hf)]; decide
theorem hasInt_mem {l : List Int} {x : Int} : hasInt l x=true↔x ∈ l := by
 unfold hasInt
 rw [anyN_iff',List.mem_iff_getElem]
 constructor
 ·rintro ⟨i,hi,hp⟩
  rw [decide_eq_true_eq,List.getD_eq_getElem?_getD,List.getElem?_eq_getElem hi] at hp
  exact ⟨i,hi,hp⟩
 ·rintro ⟨i,hi,hp⟩
  refine ⟨i,hi,?_⟩
  rw [decide_eq_true_eq,List.getD_eq_getElem?_getD,List.getElem?_eq_getElem hi]
  exact hp
def ordOK (l : List Int) (n:Int) (i:Nat) : Bool := within (l.getD i 0) 0 (n - 1) && !hasInt (l.take i) (l.getD i 0)
def isOrd (l : List Int) (n:Int) : Bool := allN l.length (ordOK l n) && decide (((l.length:Nat):Int)=n)
def GoodO (l : List Int) (n:Nat) : Prop := l.length=n∧(∀ x ∈ l,0≤x∧x<((n:Nat):Int))∧l.Nodup
theorem GoodO.nil : GoodO [] 0 := ⟨rfl,by simp,List.nodup_nil⟩
theorem GoodO.put {l : List Int} {n : Nat} (h : GoodO l n) (k:Nat) : GoodO (l.take k++[((n:Nat):Int)]++l.drop k) (n+1) := by
 obtain ⟨h1,h2,h3⟩ := h
 refine ⟨by simp only [List.length_append,List.length_take,List.length_drop,List.length_cons,List.length_nil]; omega,fun x hx => ?_,?_⟩
 ·simp only [List.mem_append,List.mem_cons,List.not_mem_nil,or_false] at hx
  rcases hx with (hx | hx) | hx
  ·have := h2 x (List.mem_of_mem_take hx); omega
  ·omega
  ·have := h2 x (List.mem_of_mem_drop hx); omega
 ·have hn : ((n:Nat):Int) ∉ l := fun hm=>by have := h2 _ hm; omega
  have hp : (l.take k++[((n:Nat):Int)]++l.drop k).Perm (((n:Nat):Int) :: l) := by
   rw [List.append_assoc,List.singleton_append]
   refine List.perm_middle.trans ?_
   rw [List.take_append_drop]
  exact hp.nodup_iff.2 (List.nodup_cons.2 ⟨hn,h3⟩)
theorem nodup_at {l : List Int} (hd : l.Nodup) {i j : Nat} (hi : i<l.length) (hj : j<l.length) (he : l[i]=l[j]) : i=j := by
 have hp := List.pairwise_iff_getElem.1 hd
 rcases Nat.lt_trichotomy i j with h | h | h
 ·exact absurd he (hp i j hi hj h)
 ·exact h
 ·exact absurd he.symm (hp j i hj hi h)
def doneF (l : List Int) (i:Nat) (k:Nat) : Bool := hasInt (l.take i) ((k:Nat):Int)
theorem power_nat (k:Nat) : power ((k:Nat):Int)=((2 ^ k:Nat):Int) := by unfold power; rw [Int.toNat_natCast]
theorem mask_plus {n k : Nat} (hk : k<n) {p : Nat→Bool} (hp : p k=false) : mask n p+((2 ^ k:Nat):Int)=mask n (fun m=>p m || decide (m=k)) := by
 unfold mask
 have : maskN n p+2 ^ k=maskN n (fun m=>p m || decide (m=k)) := by
  induction n with
  | zero=>omega
  | succ n ih =>
   rw [maskN_succ,maskN_succ]
   by_cases hkn : k=n
   ·subst hkn
    rw [hp]
    have : maskN k p=maskN k (fun m=>p m || decide (m=k)) := by
     apply Nat.eq_of_testBit_eq
     intro i
     rw [maskN_bit,maskN_bit]
     by_cases hi : i<k
     ·simp [hi,show ¬ i=k by omega]
     ·simp [hi]
    rw [this]; simp
   ·have h1 := ih (by omega)
    have h2 : (p n || decide (n=k))=p n := by rw [decide_eq_false (show ¬ n=k by omega),Bool.or_false]
    rw [h2,← h1]; omega
 omega
theorem getD_nodup {l : List Int} (hd : l.Nodup) {i : Nat} (hi : i<l.length) : hasInt (l.take i) (l.getD i 0)=false := by
 cases hh : hasInt (l.take i) (l.getD i 0) with
 | false=>rfl
 | true =>
  have := hasInt_mem.1 hh
  rw [List.getD_eq_getElem?_getD,List.getElem?_eq_getElem hi,Option.getD_some] at this
  obtain ⟨j,hj,he⟩ := List.mem_iff_getElem.1 this
  rw [List.length_take] at hj
  rw [List.getElem_take] at he
  have := nodup_at hd (by omega) (by omega) he
  omega
theorem mask_zero (n:Nat) {p : Nat→Bool} (h : ∀ k,k<n→p k=false) : mask n p=0 := by
 have : mask n p=mask n (fun _=>false) := mask_inj.2 h
 rw [this]
 clear this h
 induction n with
 | zero=>rfl
 | succ n ih=>rw [mask_skip rfl]; exact ih
theorem done_zero (l : List Int) (n:Nat) : mask n (doneF l 0)=0 := mask_zero n (fun _ _=>rfl)
theorem has_take {l : List Int} {i : Nat} (hi : i<l.length) (x:Int) : hasInt (l.take (i+1)) x=(hasInt (l.take i) x || decide (x=l.getD i 0)) := by
 apply bool_ext
 rw [Bool.or_eq_true,hasInt_mem,hasInt_mem,List.take_succ_eq_append_getElem hi,List.mem_append,decide_eq_true_eq,List.getD_eq_getElem?_getD,List.getElem?_eq_getElem hi]
 simp
theorem done_next {l : List Int} {n i : Nat} (hd : l.Nodup) (hi : i<l.length) (h0 : 0≤l.getD i 0) (hn : l.getD i 0<((n:Nat):Int)) : mask n (doneF l i)+power (l.getD i 0)=mask n (doneF l (i+1)) := by
 rw [show l.getD i 0=(((l.getD i 0).toNat:Nat):Int) by omega,power_nat,mask_plus (by omega) (by unfold doneF; rw [show (((l.getD i 0).toNat:Nat):Int)=l.getD i 0 by omega]; exact getD_nodup hd hi),mask_inj]
 intro k _
 unfold doneF
 rw [has_take hi]
 congr 1
 exact bool_ext (by simp only [decide_eq_true_eq]; omega)
end Go.Ab

set_option linter.unusedSimpArgs false
set_option linter.unusedVariables false
namespace Go.Ab
def firstI (n:Nat) (p : Nat→Bool) : Int := match fIdx n p with
 | some k=>((k:Nat):Int)
 | none => -1
theorem firstI_yes {n i : Nat} {p : Nat→Bool} (hi : i<n) (hp : p i=true) (hn : ∀ j,j<i→p j=false) : firstI n p=((i:Nat):Int) := by unfold firstI; rw [fIdx_some hi hp hn]
theorem firstI_no {n : Nat} {p : Nat→Bool} (hn : ∀ j,j<n→p j=false) : firstI n p = -1 := by unfold firstI; rw [fIdx_none hn]
theorem firstI_has (n:Nat) (p : Nat→Bool) : decide (0≤firstI n p)=anyN n p := by
 unfold firstI
 cases hf : fIdx n p with
 | some k =>
  have := fIdx_lt hf
  rw [anyN_true this.1 this.2]
  exact decide_eq_true (show (0:Int)≤((k:Nat):Int) by omega)
 | none=>rw [anyN_false (fIdx_no hf)]; decide
end Go.Ab

set_option linter.unusedSimpArgs false
set_option linter.unusedVariables false
namespace Go.Ab
end Go.Ab

set_option linter.unusedSimpArgs false
set_option linter.unusedVariables false
namespace Go.Ab
def isSingle (s:ByteArray) : Bool := (eqS s nRegister || eqS s nCounter) || eqS s nMost
def stAt (s:ByteArray) (l : List Int) (i:Nat) : Bool := within (l.getD i 0) 0 20 && (!eqS s nSet || !hasInt (l.take i) (l.getD i 0))
def isSt (s:ByteArray) (l : List Int) : Bool := allN l.length (stAt s l) && (bif isSingle s then decide (((l.length:Nat):Int)≤1) else decide (((l.length:Nat):Int)≤20))
def stepOK (s:ByteArray) (l : List Int) (c:CallD) : Bool := (isObject s && isSt s l) && isCall c
def oneOf (l : List Int) : Int := bif decide (((l.length:Nat):Int)=1) then l.getD 0 0 else 0
def iSingle (s:ByteArray) (l : List Int) (c:CallD) : List Int × Int :=
 bif decide (c.kind=2) then (l,oneOf l)
 else bif decide (c.kind=1) then ([],oneOf l)
 else bif eqS s nCounter then ([oneOf l+c.arg],0)
 else bif eqS s nMost then ([max (oneOf l) c.arg],0)
 else ([c.arg],0)
def iSet (l : List Int) (c:CallD) : List Int × Int :=
 bif (decide (c.kind=0) && decide (findI l c.arg<0)) then (l++[c.arg],1)
 else bif (decide (c.kind=0) || decide (findI l c.arg<0)) then (l,0)
 else bif decide (c.kind=1) then (l.take (findI l c.arg).toNat++l.drop (findI l c.arg+1).toNat,1)
 else (l,1)
def topOf (s:ByteArray) (l : List Int) : Int := bif eqS s nStack then ((l.length:Nat):Int) - 1 else 0
def iRow (s:ByteArray) (l : List Int) (c:CallD) : List Int × Int :=
 bif decide (c.kind=0) then (l++[c.arg],0)
 else bif decide (((l.length:Nat):Int)=0) then (l,-1)
 else bif decide (c.kind=2) then (l,l.getD (topOf s l).toNat 0)
 else (l.take (topOf s l).toNat++l.drop (topOf s l+1).toNat,l.getD (topOf s l).toNat 0)
def iStep (s:ByteArray) (l : List Int) (c:CallD) : List Int × Int := bif isSingle s then iSingle s l c else bif eqS s nSet then iSet l c else iRow s l c
theorem single_obj (s:ByteArray) : ((((isSingle s || eqS s nQueue) || eqS s nStack) || eqS s nSet))=isObject s := by
 unfold isSingle isObject
 cases eqS s nRegister <;> cases eqS s nQueue <;> cases eqS s nStack <;> cases eqS s nCounter <;> cases eqS s nSet <;> cases eqS s nMost <;> rfl
theorem st_iff {s : ByteArray} {l : List Int} (h : isSt s l=true) : l.length≤20∧(isSingle s=true→l.length≤1)∧(∀ i,i<l.length→0≤l.getD i 0∧l.getD i 0≤20) := by
 unfold isSt at h
 have h1 := allN_get (and_l h)
 have h2 := and_r h
 have h3 : ∀ i,i<l.length→0≤l.getD i 0∧l.getD i 0≤20 := fun i hi=>inRange_iff.1 (and_l (h1 i hi))
 cases hs : isSingle s with
 | true=>rw [hs] at h2; have := of_decide_eq_true h2; exact ⟨by omega,fun _=>by omega,h3⟩
 | false=>rw [hs] at h2; have := of_decide_eq_true h2; exact ⟨by omega,(fun hh=>by cases hh),h3⟩
theorem eqS_iff {a b : ByteArray} : eqS a b=true↔a.toList=b.toList := by unfold eqS; simp
theorem name_ne {s a b : ByteArray} (h : eqS s a=true) (hab : eqS a b=false) : eqS s b=false := by
 cases hb : eqS s b with
 | false=>rfl
 | true =>
  have e1 := eqS_iff.1 h
  have e2 := eqS_iff.1 hb
  have : eqS a b=true := eqS_iff.2 (by rw [← e1,e2])
  rw [this] at hab; cases hab
theorem one_eq {l : List Int} (h : l.length≤1) : oneOf l=bif decide (((l.length:Nat):Int)=0) then 0 else l.getD 0 0 := by
 unfold oneOf
 by_cases h1 : l.length=1
 ·rw [h1]; rfl
 ·rw [show l.length=0 by omega]; rfl
theorem find_erase {l : List Int} {a : Int} (h : 0≤findI l a) : l.take (findI l a).toNat++l.drop (findI l a+1).toNat=l.erase a := by
 unfold findI at h ⊢
 cases hf : fIdx l.length (fun i=>decide (l.getD i 0=a)) with
 | none=>rw [hf] at h; simp at h
 | some k =>
  have h1 := fIdx_lt hf
  have h2 : ∀ j,j<k→¬ l.getD j 0=a := by
   unfold fIdx at hf
   rw [List.find?_range_eq_some] at hf
   intro j hj he
   have := hf.2.2 j hj
   rw [decide_eq_true he] at this; cases this
  simp only
  rw [show (((k:Nat):Int)+1).toNat=k+1 by omega,Int.toNat_natCast]
  exact erase_at l a k h1.1 (of_decide_eq_true h1.2) h2
theorem find_lt (l : List Int) (a:Int) : findI l a<((l.length:Nat):Int)∧-1≤findI l a := by
 unfold findI
 cases hf : fIdx l.length (fun i=>decide (l.getD i 0=a)) with
 | none=>simp only; omega
 | some k=>have := (fIdx_lt hf).1; simp only; omega
theorem find_neg (l : List Int) (a:Int) : decide (findI l a<0) = !hasInt l a := by
 rw [← findI_has]
 apply bool_ext
 simp only [decide_eq_true_eq,Bool.not_eq_true',decide_eq_false_iff_not]
 omega
theorem step_eq {s : ByteArray} {l : List Int} {c : CallD} (hok : stepOK s l c=true) : (iStep s l c).1=(specStep s l c).1∧decide (c.ret=(iStep s l c).2)=(specStep s l c).2 := by
 unfold stepOK at hok
 have ho := and_l (and_l hok)
 obtain ⟨h20,h1,hb⟩ := st_iff (and_r (and_l hok))
 have hc := isCall_iff.1 (and_r hok)
 have hk : c.kind=0 ∨ c.kind=1 ∨ c.kind=2 := by omega
 have n1 : eqS nRegister nQueue=false := by decide +kernel
 have n2 : eqS nRegister nStack=false := by decide +kernel
 have n3 : eqS nRegister nCounter=false := by decide +kernel
 have n4 : eqS nRegister nSet=false := by decide +kernel
 have n5 : eqS nRegister nMost=false := by decide +kernel
 have n6 : eqS nCounter nRegister=false := by decide +kernel
 have n7 : eqS nCounter nQueue=false := by decide +kernel
 have n8 : eqS nCounter nStack=false := by decide +kernel
 have n9 : eqS nCounter nSet=false := by decide +kernel
 have n10 : eqS nCounter nMost=false := by decide +kernel
 have n11 : eqS nMost nRegister=false := by decide +kernel
 have n12 : eqS nMost nQueue=false := by decide +kernel
 have n13 : eqS nMost nStack=false := by decide +kernel
 have n14 : eqS nMost nSet=false := by decide +kernel
 have n15 : eqS nMost nCounter=false := by decide +kernel
 have n16 : eqS nSet nQueue=false := by decide +kernel
 have n17 : eqS nSet nStack=false := by decide +kernel
 have n18 : eqS nStack nQueue=false := by decide +kernel
 have n19 : eqS nSet nMost=false := by decide +kernel
 have n20 : eqS nSet nCounter=false := by decide +kernel
 have n21 : eqS nSet nRegister=false := by decide +kernel
 cases hsi : isSingle s with
 | true =>
  have hl := h1 hsi
  have hone := one_eq hl
  have hcase : l=[] ∨ ∃ x,l=[x] := by
   match l,hl with
   | [],_=>exact .inl rfl
   | [x],_=>exact .inr ⟨x,rfl⟩
  unfold isSingle at hsi
  have hset : eqS s nSet=false∧eqS s nQueue=false∧eqS s nStack=false∧((eqS s nRegister=true∧eqS s nCounter=false∧eqS s nMost=false) ∨ (eqS s nRegister=false∧eqS s nCounter=true∧eqS s nMost=false) ∨ (eqS s nRegister=false∧eqS s nCounter=false∧eqS s nMost=true)) := by
   rw [Bool.or_eq_true,Bool.or_eq_true] at hsi
   rcases hsi with (h | h) | h
   ·exact ⟨name_ne h n4,name_ne h n1,name_ne h n2,.inl ⟨h,name_ne h n3,name_ne h n5⟩⟩
   ·exact ⟨name_ne h n9,name_ne h n7,name_ne h n8,.inr (.inl ⟨name_ne h n6,h,name_ne h n10⟩)⟩
   ·exact ⟨name_ne h n14,name_ne h n12,name_ne h n13,.inr (.inr ⟨name_ne h n11,name_ne h n15,h⟩)⟩
  obtain ⟨e1,e2,e3,e4⟩ := hset
  unfold iStep
  rw [show isSingle s=true from hsi]
  simp only [cond_true]
  rcases hcase with rfl | ⟨x,rfl⟩ <;> rcases hk with hk | hk | hk <;> rcases e4 with ⟨f1,f2,f3⟩ | ⟨f1,f2,f3⟩ | ⟨f1,f2,f3⟩ <;> simp [iSingle,specStep,hk,e1,e2,e3,f1,f2,f3,oneOf]
  ·omega
  ·by_cases hx : c.arg<x
   ·rw [decide_eq_true hx,show max x c.arg=x by omega]; exact ⟨rfl,rfl⟩
   ·rw [decide_eq_false hx,show max x c.arg=c.arg by omega]; exact ⟨rfl,rfl⟩
 | false =>
  unfold isSingle at hsi
  rw [Bool.or_eq_false_iff,Bool.or_eq_false_iff] at hsi
  obtain ⟨⟨g1,g2⟩,g3⟩ := hsi
  unfold iStep
  rw [show isSingle s=false from by unfold isSingle; rw [g1,g2,g3]; rfl]
  simp only [cond_false]
  cases hset : eqS s nSet with
  | true =>
   have f1 := name_ne hset n16
   have f2 := name_ne hset n17
   simp only [cond_true]
   unfold iSet
   rw [find_neg]
   cases hh : hasInt l c.arg with
   | false=>rcases hk with hk | hk | hk <;> simp [specStep,hk,g1,g2,g3,hset,f1,f2,hh]
   | true =>
    have h0 : 0≤findI l c.arg := of_decide_eq_true (by rw [findI_has]; exact hh)
    rcases hk with hk | hk | hk <;> simp [specStep,hk,g1,g2,g3,hset,f1,f2,hh,find_erase h0]
  | false =>
   simp only [cond_false]
   unfold isObject at ho
   rw [g1,g2,g3,hset] at ho
   simp only [Bool.false_or,Bool.or_false] at ho
   cases hq : eqS s nQueue with
   | true =>
    have f1 : eqS s nStack=false := name_ne hq (by decide +kernel)
    cases l with
    | nil=>rcases hk with hk | hk | hk <;> simp [iRow,specStep,hk,g1,g2,g3,hset,hq,f1,topOf]
    | cons x l =>
     have hz : ¬ ((l.length:Nat):Int)+1=0 := by omega
     rcases hk with hk | hk | hk <;> simp [iRow,specStep,hk,g1,g2,g3,hset,hq,f1,topOf,hz]
   | false =>
    rw [hq,Bool.false_or] at ho
    cases hl : l.length with
    | zero =>
     have hl0 : l=[] := List.eq_nil_of_length_eq_zero hl
     subst hl0
     rcases hk with hk | hk | hk <;> simp [iRow,specStep,hk,g1,g2,g3,hset,hq,ho,topOf]
    | succ n =>
     have hn : ¬ (((l.length:Nat):Int)=0) := by omega
     have ht : (topOf s l).toNat=l.length - 1 := by unfold topOf; rw [ho]; simp only [cond_true]; omega
     have ht2 : (topOf s l+1).toNat=l.length := by unfold topOf; rw [ho]; simp only [cond_true]; omega
     have hn2 : ¬ (n+1:Int)=0 := by omega
     have hdrop : l.drop (n+1)=[] := List.drop_eq_nil_of_le (by omega)
     rcases hk with hk | hk | hk <;> simp [iRow,specStep,hk,g1,g2,g3,hset,hq,ho,hn,ht,ht2,hl,hn2,hdrop]
end Go.Ab
namespace Go.Ab
end Go.Ab
namespace Go.Ab
end Go.Ab

set_option linter.unusedSimpArgs false
set_option linter.unusedVariables false
namespace Go.Ab
theorem nodup_take {l : List Int} : l.Nodup ↔ ∀ i, i < l.length → hasInt (l.take i) (l.getD i 0) = false := by
  constructor
  · intro hn i hi
    cases hb : hasInt (l.take i) (l.getD i 0) with
    | false => rfl
    | true =>
      exfalso
      have hm := hasInt_mem.1 hb
      obtain ⟨j, hj, he⟩ := List.mem_iff_getElem.1 hm
      have hj' : j < i := by rw [List.length_take] at hj; omega
      have := (List.pairwise_iff_getElem.1 hn) j i (by omega) hi hj'
      apply this
      rw [List.getElem_take] at he
      rw [he, List.getD_eq_getElem?_getD, List.getElem?_eq_getElem hi]; rfl
  · intro h
    refine List.pairwise_iff_getElem.2 (fun i j hi hj hij he => ?_)
    have h1 := h j hj
    have h2 : l.getD j 0 ∈ l.take j := by
      rw [List.getD_eq_getElem?_getD, List.getElem?_eq_getElem hj]
      simp only [Option.getD_some]
      rw [← he]
      exact List.mem_iff_getElem.2 ⟨i, by rw [List.length_take]; omega, by rw [List.getElem_take]⟩
    rw [hasInt_mem.2 h2] at h1
    cases h1
theorem isSt_iff {s : ByteArray} {l : List Int} : isSt s l = true ↔ (∀ x ∈ l, 0 ≤ x ∧ x ≤ 20) ∧ (eqS s nSet = true → l.Nodup) ∧ (isSingle s = true → l.length ≤ 1) ∧ l.length ≤ 20 := by
  have hx : (∀ x ∈ l, 0 ≤ x ∧ x ≤ 20) ↔ ∀ i, i < l.length → 0 ≤ l.getD i 0 ∧ l.getD i 0 ≤ 20 := by
    constructor
    · intro h i hi; exact h _ (getD_mem l 0 hi)
    · intro h x hx
      obtain ⟨i, hi, rfl⟩ := List.mem_iff_getElem.1 hx
      have := h i hi
      rw [List.getD_eq_getElem?_getD, List.getElem?_eq_getElem hi] at this
      exact this
  rw [hx]
  constructor
  · intro h
    obtain ⟨h1, h2, h3⟩ := st_iff h
    refine ⟨h3, fun hs => nodup_take.2 (fun i hi => ?_), h2, h1⟩
    unfold isSt at h
    have := allN_get (and_l h) i hi
    unfold stAt at this
    have h4 := and_r this
    rw [hs] at h4
    simpa using h4
  · rintro ⟨h1, h2, h3, h4⟩
    unfold isSt
    refine and_t (allN_true (fun i hi => ?_)) ?_
    · unfold stAt
      refine and_t (inRange_iff.2 (h1 i hi)) ?_
      cases hs : eqS s nSet with
      | false => rfl
      | true => rw [nodup_take.1 (h2 hs) i hi]; rfl
    · cases hs : isSingle s with
      | true => exact decide_eq_true (by have := h3 hs; omega)
      | false => exact decide_eq_true (by omega)
theorem single_ne {s : ByteArray} (h : isSingle s = true) : eqS s nQueue = false ∧ eqS s nStack = false ∧ eqS s nSet = false := by
  unfold isSingle at h
  simp only [Bool.or_eq_true] at h
  rcases h with (h | h) | h
  · exact ⟨name_ne h (by decide +kernel), name_ne h (by decide +kernel), name_ne h (by decide +kernel)⟩
  · exact ⟨name_ne h (by decide +kernel), name_ne h (by decide +kernel), name_ne h (by decide +kernel)⟩
  · exact ⟨name_ne h (by decide +kernel), name_ne h (by decide +kernel), name_ne h (by decide +kernel)⟩
def stB (s : ByteArray) (k : Nat) (l : List Int) : Prop := isSt s l = true ∧ okState k (3 * ((k : Nat) : Int)) l
theorem stB_nil (s : ByteArray) : stB s 0 [] := ⟨isSt_iff.2 ⟨by simp, by simp, by simp, by simp⟩, by unfold okState; simp⟩
theorem stB_more {s : ByteArray} {k : Nat} {l : List Int} (h : stB s k l) : stB s (k + 1) l := ⟨h.1, by have h2 := h.2; unfold okState at *; exact ⟨by omega, fun x hx => by have := h2.2 x hx; omega⟩⟩
theorem stB_step {s : ByteArray} {k : Nat} {l : List Int} {c : CallD} (hs : isObject s = true) (h : stB s k l) (hk : k ≤ 5) (hc : isCall c = true) : stB s (k + 1) (specStep s l c).1 := by
  have hcc := isCall_iff.1 hc
  have hok := specStep_ok (name := s) h.2 hcc.2.2.2.1.1 hcc.2.2.2.1.2 (by omega)
  rw [show 3 * ((k : Nat) : Int) + 3 = 3 * (((k + 1 : Nat)) : Int) by omega] at hok
  refine ⟨isSt_iff.2 ⟨fun x hx => ?_, fun hset => ?_, fun hsg => ?_, ?_⟩, hok⟩
  · have := hok.2 x hx; omega
  · have hn := (isSt_iff.1 h.1).2.1 hset
    have n1 : eqS s nRegister = false := name_ne hset (by decide +kernel)
    have n2 : eqS s nCounter = false := name_ne hset (by decide +kernel)
    have n3 : eqS s nMost = false := name_ne hset (by decide +kernel)
    have n4 : eqS s nQueue = false := name_ne hset (by decide +kernel)
    have n5 : eqS s nStack = false := name_ne hset (by decide +kernel)
    unfold specStep
    simp only [n1, n2, n3, n4, n5, hset, cond_true, cond_false]
    cases decide (c.kind = 0) <;> cases decide (c.kind = 2) <;> cases hh : hasInt l c.arg <;> simp only [cond_true, cond_false]
    all_goals first
      | exact hn
      | exact hn.erase _
      | (refine List.nodup_append.2 ⟨hn, by simp, ?_⟩
         intro a ha b hb hab
         simp only [List.mem_singleton] at hb
         subst hb; subst hab
         rw [hasInt_mem.2 ha] at hh; cases hh)
  · have hl := (isSt_iff.1 h.1).2.2.1 hsg
    obtain ⟨m1, m2, m3⟩ := single_ne hsg
    unfold specStep
    simp only [m1, m2, m3, cond_false]
    cases decide (c.kind = 0) <;> cases decide (c.kind = 2) <;> simp only [cond_true, cond_false]
    · cases decide (((l.length : Nat) : Int) = 0) <;> simp
    · cases decide (((l.length : Nat) : Int) = 0) <;> simp [hl]
    all_goals
      cases hr : eqS s nRegister <;> cases hcn : eqS s nCounter <;> cases hm : eqS s nMost <;> simp only [cond_true, cond_false]
      all_goals first
        | (simp; done)
        | (split <;> simp [hl]; done)
        | (cases decide (((l.length : Nat) : Int) = 0) <;> simp; done)
        | (cases (decide (0 < ((l.length : Nat) : Int)) && decide (c.arg < l.getD 0 0)) <;> simp [hl]; done)
        | (unfold isSingle at hsg; rw [hr, hcn, hm] at hsg; cases hsg)
  · have := hok.1; omega
def ordAt (h : List CallD) (o : List Int) (i : Nat) : CallD := callAt h (o.getD i 0).toNat
def sts (s : ByteArray) (h : List CallD) (o : List Int) : Nat → List (List Int)
  | 0 => [[], []]
  | i + 1 => (sts s h o i).set (ordAt h o i).obj.toNat (specStep s ((sts s h o i).getD (ordAt h o i).obj.toNat []) (ordAt h o i)).1
def okAt (s : ByteArray) (h : List CallD) (o : List Int) (i : Nat) : Bool := (specStep s ((sts s h o i).getD (ordAt h o i).obj.toNat []) (ordAt h o i)).2
def runsB (s : ByteArray) (h : List CallD) (o : List Int) : Bool := allN o.length (okAt s h o)
theorem sts_len (s : ByteArray) (h : List CallD) (o : List Int) (i : Nat) : (sts s h o i).length = 2 := by
  induction i with
  | zero => rfl
  | succ i ih => simp only [sts, List.length_set, ih]
def inH (h : List CallD) (o : List Int) : Prop := ∀ i, i < o.length → 0 ≤ o.getD i 0 ∧ o.getD i 0 < ((h.length : Nat) : Int)
theorem ord_call {h : List CallD} {o : List Int} (hv : validHistory h = true) (ho : inH h o) {i : Nat} (hi : i < o.length) : isCall (ordAt h o i) = true := by
  have := ho i hi
  exact (valid_iff.1 hv).2.1 _ (by omega)
theorem sts_ok {s : ByteArray} {h : List CallD} {o : List Int} (hs : isObject s = true) (hv : validHistory h = true) (ho : inH h o) {i : Nat} (hi : i ≤ o.length) (h6 : i ≤ 6) : ∀ l ∈ sts s h o i, stB s i l := by
  induction i with
  | zero => intro l hl; simp [sts] at hl; subst hl; exact stB_nil s
  | succ i ih =>
    have ih' := ih (by omega) (by omega)
    intro l hl
    simp only [sts] at hl
    rcases List.mem_or_eq_of_mem_set hl with h1 | h1
    · exact stB_more (ih' l h1)
    · subst h1
      have hc := ord_call hv ho (i := i) (by omega)
      have hob := (isCall_iff.1 hc).2.1
      exact stB_step hs (ih' _ (getD_mem (sts s h o i) [] (by rw [sts_len]; omega))) (by omega) hc
theorem sts_at {s : ByteArray} {h : List CallD} {o : List Int} (hs : isObject s = true) (hv : validHistory h = true) (ho : inH h o) {i : Nat} (hi : i < o.length) (h6 : i ≤ 6) : stB s i ((sts s h o i).getD (ordAt h o i).obj.toNat []) := by
  have hc := ord_call hv ho hi
  have hob := (isCall_iff.1 hc).2.1
  exact sts_ok hs hv ho (by omega) h6 _ (getD_mem (sts s h o i) [] (by rw [sts_len]; omega))
theorem sts_step {s : ByteArray} {h : List CallD} {o : List Int} (hs : isObject s = true) (hv : validHistory h = true) (ho : inH h o) {i : Nat} (hi : i < o.length) (h6 : i ≤ 6) :
    (iStep s ((sts s h o i).getD (ordAt h o i).obj.toNat []) (ordAt h o i)).1 = (specStep s ((sts s h o i).getD (ordAt h o i).obj.toNat []) (ordAt h o i)).1 ∧
    decide ((ordAt h o i).ret = (iStep s ((sts s h o i).getD (ordAt h o i).obj.toNat []) (ordAt h o i)).2) = okAt s h o i := by
  have h1 := sts_at hs hv ho hi h6
  exact step_eq (and_t (and_t hs h1.1) (ord_call hv ho hi))
def rightB (s : ByteArray) (h : List CallD) (o : List Int) : Bool := ((isObject s && validHistory h) && isOrd o ((h.length : Nat) : Int)) && runsB s h o
def behind (s : ByteArray) (h : List CallD) (o : List Int) (x : Int) : List Int × Bool := bif rightB s h o && within x 0 1 then ((sts s h o o.length).getD x.toNat [], true) else ([], false)
end Go.Ab
namespace Go.Ab
def playedR (s : ByteArray) (h : List CallD) (o : List Int) : List (List Int) × Bool :=
  match fIdx o.length (fun i => !okAt s h o i) with
  | some k => (sts s h o k, false)
  | none => (sts s h o o.length, true)
theorem played_no {s : ByteArray} {h : List CallD} {o : List Int} {i : Nat} (hi : i < o.length) (hA : ∀ j, j < i → okAt s h o j = true) (h0 : okAt s h o i = false) : playedR s h o = (sts s h o i, false) := by
  unfold playedR
  rw [fIdx_some (i := i) hi (by rw [h0]; rfl) (fun j hj => by rw [hA j hj]; rfl)]
theorem played_yes {s : ByteArray} {h : List CallD} {o : List Int} (hA : ∀ j, j < o.length → okAt s h o j = true) : playedR s h o = (sts s h o o.length, true) := by
  unfold playedR
  rw [fIdx_none (fun j hj => by rw [hA j hj]; rfl)]
theorem played_runs (s : ByteArray) (h : List CallD) (o : List Int) : (playedR s h o).2 = runsB s h o := by
  unfold playedR runsB
  cases hf : fIdx o.length (fun i => !okAt s h o i) with
  | some k => have h1 := fIdx_lt hf; rw [allN_false h1.1 (by simpa using h1.2)]
  | none => rw [allN_true (fun j hj => by simpa using fIdx_no hf j hj)]
end Go.Ab
namespace Go.Ab
end Go.Ab
namespace Go.Ab
end Go.Ab
namespace Go.Ab
end Go.Ab
namespace Go.Ab
end Go.Ab
namespace Go.Ab
end Go.Ab
namespace Go.Ab
end Go.Ab

set_option linter.unusedSimpArgs false
set_option linter.unusedVariables false
namespace Go.Ab
end Go.Ab
namespace Go.Ab
end Go.Ab

set_option linter.unusedSimpArgs false
set_option linter.unusedVariables false
namespace Go.Ab
theorem shr_nat {s i : Nat} (hi : i≤62) : shrI .i64 ((s:Nat):Int) ((i:Nat):Int)=((s / 2 ^ i:Nat):Int) := by
 unfold shrI
 have e : min (Int.toNat ((i:Nat):Int)) IntKind.i64.bits=i := by rw [show IntKind.i64.bits=64 from rfl]; omega
 rw [e]
 have h2 : (2:Int) ^ i=((2 ^ i:Nat):Int) := by simp
 rw [h2,Int.fdiv_eq_ediv_of_nonneg _ (Int.natCast_nonneg _),Int.natCast_ediv]
theorem iBit {s i : Nat} (hs : s<2 ^ 62) (hi : i≤60) : decide (bitsI .and .i64 (shrI .i64 ((s:Nat):Int) ((i:Nat):Int)) 1=1)=s.testBit i := by
 rw [shr_nat (by omega)]
 have h1 : s / 2 ^ i<2 ^ 63 := Nat.lt_of_le_of_lt (Nat.div_le_self _ _) (by omega)
 have h2 := bits_and (a := s / 2 ^ i) (b := 1) h1 (by omega)
 rw [show ((1:Nat):Int)=1 from rfl] at h2
 rw [h2,Nat.and_one_is_mod]
 have h3 := Nat.toNat_testBit s i
 cases hb : s.testBit i with
 | true=>rw [hb] at h3; exact decide_eq_true (by simp at h3; omega)
 | false=>rw [hb] at h3; exact decide_eq_false (by simp at h3; omega)
theorem bits_andNot {a b : Nat} (ha : a<2 ^ 62) (hb : b<2 ^ 62) : (bitsI .andNot .i64 ((a:Nat):Int) ((b:Nat):Int)=0)↔a &&& b=a := by
 have e : bitsI .andNot .i64 ((a:Nat):Int) ((b:Nat):Int)=IntKind.i64.wrap (((BitVec.ofInt 64 ((a:Nat):Int) &&& ~~~ BitVec.ofInt 64 ((b:Nat):Int)).toNat:Nat):Int) := rfl
 rw [e]
 have hx : (BitVec.ofInt 64 ((a:Nat):Int))=BitVec.ofNat 64 a := by apply BitVec.eq_of_toNat_eq; rw [BitVec.toNat_ofInt,BitVec.toNat_ofNat]; omega
 have hy : (BitVec.ofInt 64 ((b:Nat):Int))=BitVec.ofNat 64 b := by apply BitVec.eq_of_toNat_eq; rw [BitVec.toNat_ofInt,BitVec.toNat_ofNat]; omega
 rw [hx,hy]
 have hle : (BitVec.ofNat 64 a &&& ~~~ BitVec.ofNat 64 b).toNat≤a := by
  rw [BitVec.toNat_and,BitVec.toNat_ofNat,Nat.mod_eq_of_lt (by omega)]
  exact Nat.and_le_left
 rw [IntWalk.i64_in _ (by omega)]
 constructor
 ·intro h0
  have h0' : (BitVec.ofNat 64 a &&& ~~~ BitVec.ofNat 64 b).toNat=0 := by omega
  apply Nat.eq_of_testBit_eq
  intro k
  rw [Nat.testBit_and]
  by_cases hk : k<64
  ·have h1 : (BitVec.ofNat 64 a &&& ~~~ BitVec.ofNat 64 b).getLsbD k=false := by
    rw [← BitVec.testBit_toNat,h0']; simp
   rw [BitVec.getLsbD_and,BitVec.getLsbD_not,BitVec.getLsbD_ofNat,BitVec.getLsbD_ofNat] at h1
   simp only [hk,decide_true,Bool.true_and] at h1
   cases ha' : a.testBit k <;> cases hb' : b.testBit k <;> rw [ha',hb'] at h1 <;> first | rfl | cases h1
  ·have : a.testBit k=false := Nat.testBit_lt_two_pow (Nat.lt_of_lt_of_le ha (Nat.pow_le_pow_right (by omega) (by omega)))
   rw [this]; rfl
 ·intro h0
  have : (BitVec.ofNat 64 a &&& ~~~ BitVec.ofNat 64 b)=0#64 := by
   apply BitVec.eq_of_getLsbD_eq
   intro k hk
   have h1 : (a &&& b).testBit k=a.testBit k := by rw [h0]
   rw [Nat.testBit_and] at h1
   rw [BitVec.getLsbD_and,BitVec.getLsbD_not,BitVec.getLsbD_ofNat,BitVec.getLsbD_ofNat]
   simp only [hk,decide_true,Bool.true_and,BitVec.getLsbD_zero]
   cases ha' : a.testBit k <;> cases hb' : b.testBit k <;> rw [ha',hb'] at h1 <;> first | rfl | cases h1
  rw [this]; rfl
end Go.Ab
namespace Go.Ab
end Go.Ab
namespace Go.Ab
end Go.Ab
namespace Go.Ab
end Go.Ab

set_option linter.unusedSimpArgs false
set_option linter.unusedVariables false
namespace Go.Ab
theorem has_snoc (o : List Int) (x y:Int) : hasInt (o++[x]) y=(hasInt o y || decide (y=x)) := by
 apply bool_ext
 rw [Bool.or_eq_true,hasInt_mem,hasInt_mem,decide_eq_true_eq]
 simp
theorem bits_andNot_val {a b : Nat} (ha : a<2 ^ 62) (hb : b<2 ^ 62) : ∃ c : Nat,bitsI .andNot .i64 ((a:Nat):Int) ((b:Nat):Int)=((c:Nat):Int)∧∀ k,c.testBit k=(a.testBit k && !b.testBit k) := by
 have e : bitsI .andNot .i64 ((a:Nat):Int) ((b:Nat):Int)=IntKind.i64.wrap (((BitVec.ofInt 64 ((a:Nat):Int) &&& ~~~ BitVec.ofInt 64 ((b:Nat):Int)).toNat:Nat):Int) := rfl
 have hx : (BitVec.ofInt 64 ((a:Nat):Int))=BitVec.ofNat 64 a := by apply BitVec.eq_of_toNat_eq; rw [BitVec.toNat_ofInt,BitVec.toNat_ofNat]; omega
 have hy : (BitVec.ofInt 64 ((b:Nat):Int))=BitVec.ofNat 64 b := by apply BitVec.eq_of_toNat_eq; rw [BitVec.toNat_ofInt,BitVec.toNat_ofNat]; omega
 rw [e,hx,hy]
 have hle : (BitVec.ofNat 64 a &&& ~~~ BitVec.ofNat 64 b).toNat≤a := by
  rw [BitVec.toNat_and,BitVec.toNat_ofNat,Nat.mod_eq_of_lt (by omega)]
  exact Nat.and_le_left
 refine ⟨_,IntWalk.i64_in _ (by omega),fun k => ?_⟩
 rw [BitVec.testBit_toNat,BitVec.getLsbD_and,BitVec.getLsbD_not,BitVec.getLsbD_ofNat,BitVec.getLsbD_ofNat]
 by_cases hk : k<64
 ·simp [hk]
 ·have h1 : a.testBit k=false := Nat.testBit_lt_two_pow (Nat.lt_of_lt_of_le ha (Nat.pow_le_pow_right (by omega) (by omega)))
  simp [hk,h1]
theorem maskN_62 {n : Nat} (h : n≤60) (p : Nat→Bool) : maskN n p<2 ^ 62 := by
 have := maskN_lt n p
 have := Nat.pow_le_pow_right (show 0<2 by omega) (show n≤62 by omega)
 omega
theorem mask_eq_of {n : Nat} {p : Nat→Bool} {c : Nat} (h : ∀ k,c.testBit k=(decide (k<n) && p k)) : ((c:Nat):Int)=mask n p := by
 unfold mask
 have : c=maskN n p := Nat.eq_of_testBit_eq (fun k=>by rw [h k,maskN_bit])
 rw [this]
theorem used_or {n k : Nat} {p : Nat→Bool} (hn : n≤60) (hk : k<n) : bitsI .or .i64 (mask n p) (shlI .i64 1 ((k:Nat):Int))=mask n (fun j=>p j || decide (j=k)) := by
 have h1 := maskN_62 hn p
 have h2 : 2 ^ k<2 ^ 62 := Nat.pow_lt_pow_right (by omega) (by omega)
 rw [shl_one (by omega),show mask n p=((maskN n p:Nat):Int) from rfl,bits_or (by omega) (by omega)]
 refine mask_eq_of (fun j => ?_)
 rw [Nat.testBit_or,maskN_bit,Nat.testBit_two_pow]
 by_cases hj : k=j
 ·subst hj; simp [hk]
 ·simp [hj,Ne.symm hj]
theorem used_not {n k : Nat} {p : Nat→Bool} (hn : n≤60) (hk : k<n) : bitsI .andNot .i64 (mask n p) (shlI .i64 1 ((k:Nat):Int))=mask n (fun j=>p j && !decide (j=k)) := by
 have h1 := maskN_62 hn p
 have h2 : 2 ^ k<2 ^ 62 := Nat.pow_lt_pow_right (by omega) (by omega)
 rw [shl_one (by omega)]
 obtain ⟨c,e,hc⟩ := bits_andNot_val (a := maskN n p) (b := 2 ^ k) h1 h2
 rw [show mask n p=((maskN n p:Nat):Int) from rfl,e]
 refine mask_eq_of (fun j => ?_)
 rw [hc,maskN_bit,Nat.testBit_two_pow]
 by_cases hj : k=j
 ·subst hj; simp
 ·simp [hj,Ne.symm hj]
def hasN (o : List Int) (k:Nat) : Bool := hasInt o ((k:Nat):Int)
theorem used_push {n k : Nat} {o : List Int} (hn : n≤60) (hk : k<n) : bitsI .or .i64 (mask n (hasN o)) (shlI .i64 1 ((k:Nat):Int))=mask n (hasN (o++[((k:Nat):Int)])) := by
 rw [used_or hn hk,mask_inj]
 intro j _
 unfold hasN
 rw [has_snoc]
 congr 1
 exact bool_ext (by simp only [decide_eq_true_eq]; omega)
theorem used_pop {n k : Nat} {o : List Int} (hn : n≤60) (hk : k<n) (hf : hasInt o ((k:Nat):Int)=false) : bitsI .andNot .i64 (mask n (hasN (o++[((k:Nat):Int)]))) (shlI .i64 1 ((k:Nat):Int))=mask n (hasN o) := by
 rw [used_not hn hk,mask_inj]
 intro j _
 unfold hasN
 rw [has_snoc]
 by_cases hj : j=k
 ·subst hj; rw [hf]; simp
 ·rw [decide_eq_false hj,decide_eq_false (show ¬ ((j:Nat):Int)=((k:Nat):Int) by omega)]; simp
def freeB (f : Nat→Nat→Bool) (n:Nat) (o : List Int) (i:Nat) : Bool := !hasInt o ((i:Nat):Int) && allN n (fun k => !f i k || hasInt o ((k:Nat):Int))
theorem free_sub {n i : Nat} {f : Nat→Nat→Bool} {o : List Int} : (maskN n (f i) &&& maskN n (hasN o)=maskN n (f i))↔allN n (fun k => !f i k || hasInt o ((k:Nat):Int))=true := by
 rw [allN_iff]
 constructor
 ·intro h k hk
  have := congrArg (fun x=>x.testBit k) h
  simp only [Nat.testBit_and,maskN_bit,hk,decide_true,Bool.true_and] at this
  unfold hasN at this
  cases h1 : f i k <;> cases h2 : hasInt o ((k:Nat):Int) <;> rw [h1,h2] at this <;> simp_all
 ·intro h
  apply Nat.eq_of_testBit_eq
  intro k
  rw [Nat.testBit_and,maskN_bit,maskN_bit]
  by_cases hk : k<n
  ·have := h k hk
   unfold hasN
   cases h1 : f i k <;> cases h2 : hasInt o ((k:Nat):Int) <;> rw [h1,h2] at this <;> simp_all
  ·simp [hk]
theorem free_impl {n i : Nat} {f : Nat→Nat→Bool} {o : List Int} (hn : n≤60) (hi : i<n) {b : Bool}
  (h : (decide (bitsI .and .i64 (shrI .i64 (mask n (hasN o)) ((i:Nat):Int)) 1=1) || decide (bitsI .andNot .i64 ((rowsOf n f).getD i 0) (mask n (hasN o))≠0))=b) : freeB f n o i = !b := by
 rw [← h,rowsOf_get f hi,show mask n (hasN o)=((maskN n (hasN o):Nat):Int) from rfl,show mask n (f i)=((maskN n (f i):Nat):Int) from rfl,
  iBit (maskN_62 hn _) (by omega),maskN_bit]
 have h2 := bits_andNot (a := maskN n (f i)) (b := maskN n (hasN o)) (maskN_62 hn _) (maskN_62 hn _)
 rw [free_sub] at h2
 unfold freeB
 rw [decide_eq_true hi,Bool.true_and]
 have h3 : decide (bitsI .andNot .i64 ((maskN n (f i):Nat):Int) ((maskN n (hasN o):Nat):Int)≠0) = !allN n (fun k => !f i k || hasInt o ((k:Nat):Int)) := bool_ext (by
  rw [decide_eq_true_eq,Bool.not_eq_true',ne_eq,h2]
  cases allN n (fun k => !f i k || hasInt o ((k:Nat):Int)) <;> simp)
 rw [h3]
 unfold hasN
 cases hasInt o ((i:Nat):Int) <;> cases allN n (fun k => !f i k || hasInt o ((k:Nat):Int)) <;> rfl
theorem free_spec {n i : Nat} {f : Nat→Nat→Bool} {o : List Int} (hn : n≤60) (hi : i<n) {b : Bool}
  (h : (decide (bitOf (mask n (hasN o)) ((i:Nat):Int)=0) && decide (bitsI .and .i64 ((rowsOf n f).getD i 0) (mask n (hasN o))=(rowsOf n f).getD i 0))=b) : freeB f n o i=b := by
 rw [← h,rowsOf_get f hi,bits_mask hn]
 unfold freeB
 have e1 : decide (bitOf (mask n (hasN o)) ((i:Nat):Int)=0) = !hasInt o ((i:Nat):Int) := by
  apply bool_ext
  rw [decide_eq_true_eq,bitOf_zero]
  unfold hasN
  cases hasInt o ((i:Nat):Int) <;> simp [hi]
 have e2 : decide (((maskN n (f i) &&& maskN n (hasN o):Nat):Int)=mask n (f i))=allN n (fun k => !f i k || hasInt o ((k:Nat):Int)) := by
  apply bool_ext
  rw [decide_eq_true_eq,← free_sub]
  unfold mask
  omega
 rw [e1,e2]
where
 bits_mask {n : Nat} {p q : Nat→Bool} (hn : n≤60) : bitsI .and .i64 (mask n p) (mask n q)=((maskN n p &&& maskN n q:Nat):Int) := by
  have h1 := maskN_62 hn p
  have h2 := maskN_62 hn q
  unfold mask
  exact bits_and (by omega) (by omega)
def ordersF (s:ByteArray) (h : List CallD) (f : Nat→Nat→Bool) : Nat→List Int→List (List Int)
 | 0,o=>bif runsB s h o then [o] else []
 | m+1,o=>(List.range h.length).flatMap fun i=>bif freeB f h.length o i then ordersF s h f m (o++[((i:Nat):Int)]) else []
def ordersUp (s:ByteArray) (h : List CallD) (f : Nat→Nat→Bool) (m:Nat) (o : List Int) (k:Nat) : List (List Int) := (List.range k).flatMap fun i=>bif freeB f h.length o i then ordersF s h f m (o++[((i:Nat):Int)]) else []
theorem up_yes {s : ByteArray} {h : List CallD} {f : Nat→Nat→Bool} {m k : Nat} {o : List Int} (hf : freeB f h.length o k=true) : ordersUp s h f m o (k+1)=ordersUp s h f m o k++ordersF s h f m (o++[((k:Nat):Int)]) := by
 unfold ordersUp
 rw [List.range_succ,List.flatMap_append]
 simp [hf]
theorem up_no {s : ByteArray} {h : List CallD} {f : Nat→Nat→Bool} {m k : Nat} {o : List Int} (hf : freeB f h.length o k=false) : ordersUp s h f m o (k+1)=ordersUp s h f m o k := by
 unfold ordersUp
 rw [List.range_succ,List.flatMap_append]
 simp [hf]
theorem sts_snoc {s : ByteArray} {h : List CallD} {o : List Int} (x:Int) {i : Nat} (hi : i≤o.length) : sts s h (o++[x]) i=sts s h o i := by
 induction i with
 | zero=>rfl
 | succ i ih =>
  have e : ordAt h (o++[x]) i=ordAt h o i := by unfold ordAt; rw [List.getD_eq_getElem?_getD,List.getElem?_append_left (by omega),← List.getD_eq_getElem?_getD]
  simp only [sts]
  rw [ih (by omega),e]
theorem okAt_snoc {s : ByteArray} {h : List CallD} {o : List Int} (x:Int) {i : Nat} (hi : i<o.length) : okAt s h (o++[x]) i=okAt s h o i := by
 have e : ordAt h (o++[x]) i=ordAt h o i := by unfold ordAt; rw [List.getD_eq_getElem?_getD,List.getElem?_append_left (by omega),← List.getD_eq_getElem?_getD]
 unfold okAt
 rw [sts_snoc x (by omega),e]
theorem runs_snoc {s : ByteArray} {h : List CallD} {o : List Int} (x:Int) (hr : runsB s h o=false) : runsB s h (o++[x])=false := by
 unfold runsB at *
 obtain ⟨i,hi,h1⟩ := allN_not hr
 exact allN_false (i := i) (by simp; omega) (by rw [okAt_snoc x hi]; exact h1)
theorem orders_none {s : ByteArray} {h : List CallD} {f : Nat→Nat→Bool} : ∀ {m : Nat} {o : List Int},runsB s h o=false→ordersF s h f m o=[]
 | 0,o,hr=>by simp [ordersF,hr]
 | m+1,o,hr=>by
  simp only [ordersF]
  rw [List.flatMap_eq_nil_iff]
  intro i _
  cases freeB f h.length o i with
  | false=>rfl
  | true=>exact orders_none (runs_snoc _ hr)
theorem orders_up {s : ByteArray} {h : List CallD} {f : Nat→Nat→Bool} (m:Nat) (o : List Int) : ordersF s h f (m+1) o=ordersUp s h f m o h.length := rfl
theorem orders_len {s : ByteArray} {h : List CallD} {f : Nat→Nat→Bool} (h6 : h.length≤6) : ∀ (m:Nat) (o : List Int),(ordersF s h f m o).length≤6 ^ m
 | 0,o=>by simp only [ordersF]; cases runsB s h o <;> simp
 | m+1,o=>by
  have key : ∀ k,k≤6→(ordersUp s h f m o k).length≤k * 6 ^ m := by
   intro k
   induction k with
   | zero=>intro _; simp [ordersUp]
   | succ k ih =>
    intro hk
    have ih' := ih (by omega)
    have h1 := orders_len h6 m (o++[((k:Nat):Int)]) (s := s) (f := f)
    cases hf : freeB f h.length o k with
    | true=>rw [up_yes hf,List.length_append,Nat.succ_mul]; omega
    | false=>rw [up_no hf,Nat.succ_mul]; omega
  rw [orders_up]
  have := key h.length h6
  have h2 : h.length * 6 ^ m≤6 * 6 ^ m := Nat.mul_le_mul_right _ h6
  rw [Nat.pow_succ,Nat.mul_comm]
  omega
theorem ordUp_len {s : ByteArray} {h : List CallD} {f : Nat→Nat→Bool} (h6 : h.length≤6) (m:Nat) (o : List Int) {k : Nat} (hk : k≤6) : (ordersUp s h f m o k).length≤k * 6 ^ m := by
 induction k with
 | zero=>simp [ordersUp]
 | succ k ih =>
  have ih' := ih (by omega)
  have h1 := orders_len (s := s) (f := f) h6 m (o++[((k:Nat):Int)])
  cases hf : freeB f h.length o k with
  | true=>rw [up_yes hf,List.length_append,Nat.succ_mul]; omega
  | false=>rw [up_no hf,Nat.succ_mul]; omega
def headO (h : List CallD) (o : List Int) : Prop := inH h o∧o.Nodup∧o.length≤h.length
theorem headO_nil (h : List CallD) : headO h [] := ⟨fun i hi=>by simp at hi,List.nodup_nil,by simp⟩
theorem headO_snoc {h : List CallD} {o : List Int} {k : Nat} (ho : headO h o) (hk : k<h.length) (hf : hasInt o ((k:Nat):Int)=false) (hl : o.length<h.length) : headO h (o++[((k:Nat):Int)]) := by
 refine ⟨fun i hi => ?_,?_,by simp; omega⟩
 ·simp only [List.getD_eq_getElem?_getD]
  by_cases h1 : i<o.length
  ·rw [List.getElem?_append_left h1,← List.getD_eq_getElem?_getD]; exact ho.1 i h1
  ·have : i=o.length := by simp at hi; omega
   subst this
   rw [List.getElem?_append_right (Nat.le_refl _)]
   simp; omega
 ·refine List.nodup_append.2 ⟨ho.2.1,by simp,?_⟩
  intro a ha b hb hab
  simp only [List.mem_singleton] at hb
  subst hb; subst hab
  rw [hasInt_mem.2 ha] at hf; cases hf
theorem free_has {f : Nat→Nat→Bool} {n i : Nat} {o : List Int} (hf : freeB f n o i=true) : hasInt o ((i:Nat):Int)=false := by
 unfold freeB at hf
 have := and_l hf
 simpa using this
end Go.Ab
namespace Go.Ab
theorem pow6_le {m : Nat} (h : m≤6) : 6 ^ m≤46656 := Nat.pow_le_pow_right (by omega) h
theorem take_pop {o : List Int} {x : Int} {n : Int} (h : n=(((o++[x]).length:Nat):Int) - 1) : List.take n.toNat (o++[x])=o := by
 have : n.toNat=o.length := by rw [h]; simp
 rw [this]; simp
end Go.Ab
namespace Go.Ab
section
variable {s : ByteArray} {h : List CallD} {f : Nat→Nat→Bool} {o : List Int}
theorem orders_yes (hl : ((o.length:Nat):Int)=((h.length:Nat):Int)) (hp : (playedR s h o).2=true) : ordersF s h f (h.length - o.length) o=[o] := by
 rw [played_runs] at hp
 rw [show h.length - o.length=0 by omega]; simp [ordersF,hp]
theorem orders_no (hl : ((o.length:Nat):Int)=((h.length:Nat):Int)) (hp : (playedR s h o).2=false) : ordersF s h f (h.length - o.length) o=[] := by
 rw [played_runs] at hp
 rw [show h.length - o.length=0 by omega]; simp [ordersF,hp]
theorem orders_end (hl : o.length<h.length) : ordersF s h f (h.length - o.length) o=ordersUp s h f (h.length - o.length - 1) o h.length := by
 rw [show h.length - o.length=(h.length - o.length - 1)+1 by omega]; rfl
theorem ord_room {out : List (List Int)} {k : Nat} (hz : out.length+6 ^ (h.length - o.length)≤100000) (h6 : h.length≤6) (hk : k<h.length) (hl : o.length<h.length) :
  (out++ordersUp s h f (h.length - o.length - 1) o k).length+6 ^ (h.length - o.length - 1)≤100000 := by
 have h1 := ordUp_len (s := s) (f := f) h6 (h.length - o.length - 1) o (k := k) (by omega)
 have h2 : 6 ^ (h.length - o.length)=6 ^ (h.length - o.length - 1) * 6 := by rw [← Nat.pow_succ]; congr 1; omega
 have h3 : (k+1) * 6 ^ (h.length - o.length - 1)≤6 * 6 ^ (h.length - o.length - 1) := Nat.mul_le_mul_right _ (by omega)
 rw [List.length_append]
 rw [Nat.succ_mul] at h3
 omega
theorem up_step {out ou oo : List (List Int)} {k : Nat} (hf : freeB f h.length o k=true) (hou : ou=out++ordersUp s h f (h.length - o.length - 1) o k) :
  ou++ordersF s h f (h.length - (o++[((k:Nat):Int)]).length) (o++[((k:Nat):Int)])=out++ordersUp s h f (h.length - o.length - 1) o (k+1) := by
 rw [hou,up_yes hf,List.append_assoc]
 congr 3
 simp; omega
theorem free_no {n i : Nat} (hn : n≤60) (hi : i<n)
  (hb : (decide (bitsI .and .i64 (shrI .i64 (mask n (hasN o)) ((i:Nat):Int)) 1=1) || decide (bitsI .andNot .i64 ((rowsOf n f).getD i 0) (mask n (hasN o))≠0))=true) : freeB f n o i=false := free_impl hn hi hb
theorem free_yes {n i : Nat} (hn : n≤60) (hi : i<n)
  (hb : (decide (bitsI .and .i64 (shrI .i64 (mask n (hasN o)) ((i:Nat):Int)) 1=1) || decide (bitsI .andNot .i64 ((rowsOf n f).getD i 0) (mask n (hasN o))≠0))=false) : freeB f n o i=true := free_impl hn hi hb
end
end Go.Ab
namespace Go.Ab
def bitF (rows : List Int) (i k:Nat) : Bool := (rows.getD i 0).toNat.testBit k
theorem ordersF_congr {s : ByteArray} {h : List CallD} {f g : Nat→Nat→Bool} (hfg : ∀ i k,i<h.length→k<h.length→f i k=g i k) : ∀ (m:Nat) (o : List Int),ordersF s h f m o=ordersF s h g m o
 | 0,o=>rfl
 | m+1,o=>by
  simp only [ordersF]
  rw [List.flatMap_def,List.flatMap_def]
  congr 1
  apply List.map_congr_left
  intro i hi
  have hi := List.mem_range.1 hi
  have e : freeB f h.length o i=freeB g h.length o i := by
   unfold freeB
   congr 1
   apply bool_ext
   rw [allN_iff,allN_iff]
   exact ⟨fun hh k hk=>by rw [← hfg i k hi hk]; exact hh k hk,fun hh k hk=>by rw [hfg i k hi hk]; exact hh k hk⟩
  rw [e,ordersF_congr hfg]
theorem bitF_rows {n i k : Nat} {f : Nat→Nat→Bool} (hi : i<n) (hk : k<n) : bitF (rowsOf n f) i k=f i k := by
 unfold bitF
 rw [rowsOf_get f hi]
 unfold mask
 rw [Int.toNat_natCast,maskN_bit,decide_eq_true hk,Bool.true_and]
theorem orders_rows {s : ByteArray} {h : List CallD} {f : Nat→Nat→Bool} {m : Nat} {o : List Int} : ordersF s h (bitF (rowsOf h.length f)) m o=ordersF s h f m o := ordersF_congr (fun _ _ hi hk=>bitF_rows hi hk) m o
theorem rows_self {n : Nat} {f : Nat→Nat→Bool} : rowsOf n f=rowsOf n (bitF (rowsOf n f)) := by
 apply rowsOf_congr
 intro i k hi hk
 exact (bitF_rows hi hk).symm
end Go.Ab
namespace Go.Ab
theorem used_nil (n:Nat) : mask n (hasN [])=0 := mask_zero n (fun _ _=>rfl)
theorem done_all {n : Nat} {o : List Int} {j : Nat} (hj : o.length≤j) : mask n (doneF o j)=mask n (hasN o) := by
 unfold doneF hasN
 rw [List.take_of_length_le hj]
section
variable {s : ByteArray} {h : List CallD} {f : Nat→Nat→Bool} {o : List Int}
theorem explain_end {ou : List (List Int)} {k : Nat} (hl : o.length<h.length) (hk : k=h.length) (hou : ou=ordersUp s h f (h.length - o.length - 1) o k) : ou=ordersF s h f (h.length - o.length) o := by
 rw [hou,hk,orders_end hl]
theorem explain_step {ou : List (List Int)} {k : Nat} (hf : freeB f h.length o k=true) (hou : ou=ordersUp s h f (h.length - o.length - 1) o k) :
  ou++ordersF s h f (h.length - (o++[((k:Nat):Int)]).length) (o++[((k:Nat):Int)])=ordersUp s h f (h.length - o.length - 1) o (k+1) := up_step (out := []) (oo := []) hf hou
theorem explain_one (hr : runsB s h o=true) (hl : ((o.length:Nat):Int)=((h.length:Nat):Int)) : [o]=ordersF s h f (h.length - o.length) o := by
 rw [show h.length - o.length=0 by omega]; simp [ordersF,hr]
theorem rest_len {m : Nat} (h6 : h.length≤6) (hm : m≤6) (o : List Int) : (ordersF s h f m o).length≤46656 := Nat.le_trans (orders_len h6 m o) (pow6_le hm)
theorem upto_len6 {m k : Nat} (h6 : h.length≤6) (hm : m≤5) (hk : k≤6) (o : List Int) : (ordersUp s h f m o k).length≤46656 := by
 have h1 := ordUp_len (s := s) (f := f) h6 m o hk
 have h2 : 6 ^ m≤6 ^ 5 := Nat.pow_le_pow_right (by omega) hm
 have h3 : k * 6 ^ m≤6 * 6 ^ m := Nat.mul_le_mul_right _ hk
 omega
end
end Go.Ab

set_option linter.unusedSimpArgs false
set_option linter.unusedVariables false
namespace Go.Ab
def ordersBy (s:ByteArray) (h : List CallD) (f : Nat→Nat→Bool) : List (List Int) := bif isObject s && validHistory h then ordersF s h f h.length [] else []
def explains (s:ByteArray) (h : List CallD) (f : Nat→Nat→Bool) : Bool := decide (0<(((ordersBy s h f).length:Nat):Int))
section
variable {s : ByteArray} {h : List CallD} {f g : Nat→Nat→Bool} {rows : List Int}
theorem by_val (hg : (isObject s && validHistory h)=true) (e : rows=rowsOf h.length f) : ordersF s h (bitF rows) h.length []=ordersBy s h f := by
 unfold ordersBy; rw [hg,e,orders_rows]; rfl
theorem by_no (hg : (isObject s && validHistory h)=false) : ordersBy s h f=[] := by unfold ordersBy; rw [hg]; rfl
theorem by_no' (hg : (!isObject s || !validHistory h)=true) : ordersBy s h f=[] := by_no (by cases h1 : isObject s <;> cases h2 : validHistory h <;> simp_all)
theorem by_yes' (hg : (!isObject s || !validHistory h)=false) : (isObject s && validHistory h)=true := by cases h1 : isObject s <;> cases h2 : validHistory h <;> simp_all
theorem by_gt (e : validHistory h=true→rows=rowsOf h.length f) : ((isObject s && validHistory h) && decide (0<(((ordersF s h (bitF rows) h.length []).length:Nat):Int)))=explains s h f := by
 cases hg : (isObject s && validHistory h) with
 | false=>unfold explains; rw [by_no hg]; rfl
 | true=>rw [by_val hg (e (by simp only [Bool.and_eq_true] at hg; exact hg.2))]; unfold explains; rfl
theorem quiet_rows (hv : validHistory h=true) : quietAhead h=rowsOf h.length (bitF (quietAhead h)) := by rw [quiet_eq hv]; exact rows_self
theorem own_rows (hv : validHistory h=true) : ownAhead h=rowsOf h.length (bitF (ownAhead h)) := by rw [own_eq hv]; exact rows_self
theorem ahead_rows (hv : validHistory h=true) : aheadOf h=rowsOf h.length (bitF (aheadOf h)) := by rw [ahead_eq hv]; exact rows_self
end
end Go.Ab
namespace Go.Ab
end Go.Ab
namespace Go.Ab
end Go.Ab

set_option linter.unusedSimpArgs false
set_option linter.unusedVariables false
namespace Go.Ab
end Go.Ab

set_option linter.unusedSimpArgs false
set_option linter.unusedVariables false
namespace Go.Ab
def byteI (l : List UInt8) (i:Int) : Int := ((UInt8.toNat (List.getD l i.toNat default):Nat):Int)
def mixV (l : List UInt8) (k:Int) : Int :=
 byteI l (Int.tmod k ((l.length:Nat):Int)) * 131+byteI l (Int.tmod (k * 7+3) ((l.length:Nat):Int)) * 1117+k * 29+Int.tdiv k ((l.length:Nat):Int) * 53
def pickV (l : List UInt8) (p n:Int) : Int :=
 bif decide (n<1) || decide (((l.length:Nat):Int)=0) then 0
 else bif decide (p<((l.length:Nat):Int)) then Int.tmod (byteI l p) n
 else Int.tmod (bitsI .xor .i64 (mixV l p) (Int.tdiv (mixV l p) 64)) n
theorem byteI_bnd (l : List UInt8) (i:Int) : 0≤byteI l i∧byteI l i≤255 := by
 unfold byteI
 have := (List.getD l i.toNat default).toNat_lt
 omega
theorem mixV_bnd {l : List UInt8} {k : Int} (hk : 0≤k∧k≤1000000) : 0≤mixV l k∧mixV l k≤200000000 := by
 unfold mixV
 have h1 := byteI_bnd l (Int.tmod k ((l.length:Nat):Int))
 have h2 := byteI_bnd l (Int.tmod (k * 7+3) ((l.length:Nat):Int))
 have h3 : 0≤Int.tdiv k ((l.length:Nat):Int) := Int.tdiv_nonneg (by omega) (by omega)
 have h4 : Int.tdiv k ((l.length:Nat):Int)≤k := Int.tdiv_le_self _ (by omega)
 omega
theorem pickV_bnd {l : List UInt8} {p n : Int} (hp : 0≤p∧p≤1000000) : 0≤pickV l p n∧pickV l p n<max n 1 := by
 unfold pickV
 cases hc : decide (n<1) || decide (((l.length:Nat):Int)=0) with
 | true=>simp only [cond_true]; omega
 | false =>
  simp only [Bool.or_eq_false_iff,decide_eq_false_iff_not] at hc
  simp only [cond_false]
  have hb := byteI_bnd l p
  have hm := mixV_bnd (l := l) hp
  cases decide (p<((l.length:Nat):Int)) with
  | true =>
   simp only [cond_true]
   exact ⟨Int.tmod_nonneg _ (by omega),by have := Int.tmod_lt_of_pos (byteI l p) (show 0<n by omega); omega⟩
  | false =>
   simp only [cond_false]
   refine ⟨Int.tmod_nonneg _ (xor_nonneg (by omega) (Int.tdiv_nonneg (by omega) (by omega)) (by omega) (Int.le_trans (Int.tdiv_le_self _ (by omega)) (by omega))),?_⟩
   have := Int.tmod_lt_of_pos (bitsI .xor .i64 (mixV l p) (Int.tdiv (mixV l p) 64)) (show 0<n by omega)
   omega
end Go.Ab

set_option linter.unusedSimpArgs false
set_option linter.unusedVariables false
namespace Go.Ab
theorem pickV_0 {l : List UInt8} {p n : Int} (h : (decide (n<1) || decide (((l.length:Nat):Int)=0))=true) : 0=pickV l p n := by unfold pickV; rw [h]; rfl
theorem pickV_1 {l : List UInt8} {p n : Int} (h : (decide (n<1) || decide (((l.length:Nat):Int)=0))=false) (h2 : p+1 - 1<((l.length:Nat):Int)) : Int.tmod ((UInt8.toNat (List.getD l (Int.toNat (p+1 - 1)) default):Nat):Int) n=pickV l p n := by
 rw [show p+1 - 1=p by omega] at *
 unfold pickV byteI; rw [h,decide_eq_true h2]; rfl
theorem pickV_2 {l : List UInt8} {p n x : Int} (h : (decide (n<1) || decide (((l.length:Nat):Int)=0))=false) (h2 : ¬ p+1 - 1<((l.length:Nat):Int)) (hx : x=mixV l (p+1 - 1)) : Int.tmod (bitsI .xor .i64 x (Int.tdiv x 64)) n=pickV l p n := by
 rw [show p+1 - 1=p by omega] at *
 unfold pickV; rw [h,decide_eq_false h2,hx]; rfl
end Go.Ab

set_option linter.unusedSimpArgs false
set_option linter.unusedVariables false
namespace Go.Ab
end Go.Ab
