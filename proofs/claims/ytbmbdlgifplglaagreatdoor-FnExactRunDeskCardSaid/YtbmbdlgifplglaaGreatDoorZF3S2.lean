import Derived.Test.YtbmbdlgifplglaaGreatDoorZF3S1
import Derived.Test.YtbmbdlgifplglaaGreatDoorZF3S0
set_option maxRecDepth 100000
set_option maxHeartbeats 1000000
set_option linter.unusedSimpArgs false
set_option linter.unusedVariables false
namespace Go.Ab
theorem orders_row {s : ByteArray} {h : List CallD} {f : Nat→Nat→Bool} {x : List Int} : ∀ (m:Nat) (o : List Int),x ∈ ordersF s h f m o→x.length=o.length+m∧∀ y ∈ x,y ∈ o ∨ (0≤y∧y<((h.length:Nat):Int))
 | 0,o,hx=>by
  unfold ordersF at hx
  cases hr : runsB s h o with
  | false=>rw [hr] at hx; simp at hx
  | true=>rw [hr] at hx; simp at hx; subst hx; exact ⟨by simp,fun y hy => .inl hy⟩
 | m+1,o,hx=>by
  unfold ordersF at hx
  rw [List.mem_flatMap] at hx
  obtain ⟨i,hi,hx⟩ := hx
  have hi' := List.mem_range.1 hi
  cases hf : freeB f h.length o i with
  | false=>rw [hf] at hx; simp at hx
  | true =>
   rw [hf,cond_true] at hx
   obtain ⟨h1,h2⟩ := orders_row m _ hx
   refine ⟨by simp at h1; omega,fun y hy => ?_⟩
   rcases h2 y hy with h3 | h3
   ·rcases List.mem_append.1 h3 with h4 | h4
    ·exact .inl h4
    ·simp at h4; subst h4; right; omega
   ·exact .inr h3
theorem by_row {s : ByteArray} {h : List CallD} {f : Nat→Nat→Bool} (hv : validHistory h=true) : ((ordersBy s h f).getD 0 []).length≤6∧∀ i,0≤((ordersBy s h f).getD 0 []).getD i 0∧((ordersBy s h f).getD 0 []).getD i 0≤6 := by
 have h6 := valid_len hv
 by_cases h0 : 0<(ordersBy s h f).length
 ·have hm := getD_mem (ordersBy s h f) [] h0
  generalize (ordersBy s h f).getD 0 []=x at hm ⊢
  unfold ordersBy at hm
  cases hg : isObject s && validHistory h with
  | false=>rw [hg] at hm; simp at hm
  | true =>
   rw [hg,cond_true] at hm
   obtain ⟨h1,h2⟩ := orders_row _ _ hm
   simp at h1
   refine ⟨by omega,fun i => ?_⟩
   by_cases hi : i<x.length
   ·rcases h2 _ (getD_mem x 0 hi) with h3 | h3
    ·simp at h3
    ·omega
   ·rw [List.getD_eq_getElem?_getD,List.getElem?_eq_none (by omega)]; simp
 ·have : ordersBy s h f=[] := List.eq_nil_of_length_eq_zero (by omega)
  rw [this]; exact ⟨by simp,fun i=>by simp⟩
abbrev tWhat : ByteArray := (⟨#[119,104,97,116]⟩:ByteArray)
abbrev tWrong : ByteArray := (⟨#[119,114,111,110,103]⟩:ByteArray)
abbrev tYes : ByteArray := (⟨#[121,101,115]⟩:ByteArray)
abbrev tNo : ByteArray := (⟨#[110,111]⟩:ByteArray)
abbrev tLin : ByteArray := (⟨#[108,105,110,101,97,114]⟩:ByteArray)
abbrev tOwn : ByteArray := (⟨#[111,119,110]⟩:ByteArray)
abbrev tQui : ByteArray := (⟨#[113,117,105,101,116]⟩:ByteArray)
abbrev tWid : ByteArray := (⟨#[119,105,100,116,104]⟩:ByteArray)
abbrev tAll : ByteArray := (⟨#[97,108,108]⟩:ByteArray)
abbrev dW (l:ByteArray) (i:Nat) : ByteArray := List.getD (splitB8 32 l) i default
abbrev dT (l:ByteArray) : ByteArray := l.extract (Int.toNat (((((dW l 0).size:Nat):Int)+(((dW l 1).size:Nat):Int))+2)) l.size
def yesNoV (b:Bool) : ByteArray := bif b then tYes else tNo
def numsUp (o : List Int) : Nat→ByteArray
 | 0=>tYes
 | i+1=>numsUp o i++((⟨#[32]⟩:ByteArray)++numB (o.getD i 0))
def kindD (w:ByteArray) : Bool := eqS w tLin || eqS w tOwn || eqS w tQui || eqS w tWid
def wrongD (w n:ByteArray) (ok:Bool) : Bool := (!ok || (eqS w tWid && !eqS n tAll)) || (!eqS w tWid && !isObject n)
def coreD (w n:ByteArray) (h : List CallD) : ByteArray :=
 bif eqS w tOwn then yesNoV (explains n h (ownF h)) else bif eqS w tQui then yesNoV (explains n h (quietF h)) else bif eqS w tWid then numB (widthS h) else
 bif decide ((ordersBy n h (aheadF h)).length=0) then tNo else numsUp ((ordersBy n h (aheadF h)).getD 0 []) ((ordersBy n h (aheadF h)).getD 0 []).length
def deskV (l:ByteArray) : ByteArray :=
 bif decide ((splitB8 32 l).length<3) || !kindD (dW l 0) then tWhat else
 bif wrongD (dW l 0) (dW l 1) (parseS (dT l).data.toList).2 then tWrong else coreD (dW l 0) (dW l 1) (parseS (dT l).data.toList).1
theorem splitN3 {c : UInt8} {s x y z : List UInt8} {r : List (List UInt8)} (h : splitL c s=x :: y :: z :: r) : splitNL c 3 s=[x,y,s.drop (x.length+y.length+2)] := by
 have hc : c ∈ s := by
  rcases Classical.em (c ∈ s) with h1 | h1
  ·exact h1
  ·rw [splitL_none h1] at h; cases h
 have h2 := split_cut hc
 rw [h] at h2
 simp only [List.cons.injEq] at h2
 obtain ⟨h3,h4⟩ := h2
 have hc2 : c ∈ (cutL c s).2 := by
  rcases Classical.em (c ∈ (cutL c s).2) with h1 | h1
  ·exact h1
  ·rw [splitL_none h1] at h4; cases h4
 have h5 := split_cut hc2
 rw [← h4] at h5
 simp only [List.cons.injEq] at h5
 obtain ⟨h6,h7⟩ := h5
 simp only [splitNL]
 rw [if_pos hc,if_pos hc2,← h3,← h6]
 have e1 := (mem_cut hc).1
 have e2 := (mem_cut hc2).1
 rw [← h3] at e1
 rw [← h6] at e2
 have e3 : s.drop (x.length+y.length+2)=(cutL c (cutL c s).2).2 := by
  conv=>lhs; rw [e1,e2]
  rw [show x++c :: (y++c :: (cutL c (cutL c s).2).2)=(x++c :: (y++[c]))++(cutL c (cutL c s).2).2 by simp]
  rw [List.drop_append_of_le_length (by simp; omega),List.drop_eq_nil_of_le (by simp; omega),List.nil_append]
 rw [e3]
theorem dk_len (l:ByteArray) : ((splitNB (⟨#[32]⟩:ByteArray) 3 l).length<3)↔((splitB8 32 l).length<3) := by
 unfold splitNB splitB8
 rw [List.length_map,List.length_map,show (3:Int).toNat=2+1 from rfl,splitN_len]
 show min 3 (splitL 32 l.data.toList).length<3↔(splitL 32 l.data.toList).length<3
 omega
theorem list3 {α : Type} {l : List α} (h : 3≤l.length) : ∃ a b c r,l=a :: b :: c :: r := by
 match l,h with
 | a :: b :: c :: r,_=>exact ⟨a,b,c,r,rfl⟩
 | [],h=>simp at h
 | [_],h=>simp at h
 | [_,_],h=>simp at h
theorem dk_words {l : ByteArray} (h : ¬ (splitB8 32 l).length<3) : splitNB (⟨#[32]⟩:ByteArray) 3 l=[dW l 0,dW l 1,dT l]∧(dW l 0).size+(dW l 1).size+2≤l.size := by
 have h' : 3≤(splitL 32 l.data.toList).length := by unfold splitB8 at h; rw [List.length_map] at h; exact Nat.le_of_not_lt h
 obtain ⟨x,y,z,r,he⟩ := list3 h'
 have e : splitB8 32 l=BA x :: BA y :: BA z :: r.map BA := by
  unfold splitB8; rw [show (Int.toNat 32).toUInt8=32 from rfl,he]; rfl
 have e0 : dW l 0=BA x := by unfold dW; rw [e]; rfl
 have e1 : dW l 1=BA y := by unfold dW; rw [e]; rfl
 have hs := splitN3 he
 have hj := join_split 32 l.data.toList
 rw [he,join_tail _ _ _ (by simp),join_tail _ _ _ (by simp)] at hj
 have hl : x.length+y.length+2≤l.data.toList.length := by rw [← hj]; simp; omega
 refine ⟨?_,by rw [e0,e1,ba_size,ba_size,sz]; exact hl⟩
 unfold splitNB dT
 rw [show sepc (⟨#[32]⟩:ByteArray)=32 from rfl,show (3:Int).toNat=3 from rfl,hs,e0,e1,ba_size,ba_size,bx,sz,List.take_length]
 rw [show (((x.length:Nat):Int)+((y.length:Nat):Int)+2).toNat=x.length+y.length+2 by omega]
 rfl
theorem dk_w0 {l : ByteArray} (h : ¬ (splitB8 32 l).length<3) : List.getD (splitNB (⟨#[32]⟩:ByteArray) 3 l) 0 default=dW l 0 := by rw [(dk_words h).1]; rfl
theorem dk_w1 {l : ByteArray} (h : ¬ (splitB8 32 l).length<3) : List.getD (splitNB (⟨#[32]⟩:ByteArray) 3 l) 1 default=dW l 1 := by rw [(dk_words h).1]; rfl
theorem dk_w2 {l : ByteArray} (h : ¬ (splitB8 32 l).length<3) : List.getD (splitNB (⟨#[32]⟩:ByteArray) 3 l) 2 default=dT l := by rw [(dk_words h).1]; rfl
theorem numB_small {n : Int} (h0 : -1≤n) (h1 : n≤30) : (numB n).size≤2 := by
 unfold numB; rw [ba_size,itoa_num h0 h1]; exact numL_len n
theorem nums_size {o : List Int} (ho : ∀ i,0≤o.getD i 0∧o.getD i 0≤6) : ∀ i,(numsUp o i).size≤3+3 * i
 | 0=>Nat.le_refl 3
 | i+1=>by
  have h1 := nums_size ho i
  have h2 := numB_small (n := o.getD i 0) (by have := ho i; omega) (by have := ho i; omega)
  simp only [numsUp,ByteArray.size_append]
  rw [sz1]; omega
theorem desk_size (l:ByteArray) : (deskV l).size≤30 := by
 have c : ∀ (b:Bool) (x y:ByteArray),x.size≤30→y.size≤30→(bif b then x else y).size≤30 := fun b x y h1 h2=>by cases b <;> assumption
 have hb : ∀ b,(yesNoV b).size≤30 := fun b=>by cases b <;> decide
 unfold deskV
 refine c _ _ _ (by decide) ?_
 cases hp : (parseS (dT l).data.toList).2 with
 | false =>
  have : wrongD (dW l 0) (dW l 1) false=true := by unfold wrongD; rfl
  rw [this,cond_true]; decide
 | true =>
  have hv : validHistory (parseS (dT l).data.toList).1=true := by
   have h1 := parse_law (s := dT l) (by rw [parse_eq]; exact hp)
   rw [← parse_eq]; exact h1.2
  refine c _ _ _ (by decide) ?_
  unfold coreD
  refine c _ _ _ (hb _) (c _ _ _ (hb _) (c _ _ _ ?_ (c _ _ _ (by decide) ?_)))
  ·have h1 := width_le (parseS (dT l).data.toList).1
   have h2 := valid_len hv
   rw [width_eq hv]
   have := numB_small (n := widthI (parseS (dT l).data.toList).1) (by omega) (by omega)
   omega
  ·have h1 := by_row (s := dW l 1) (f := aheadF (parseS (dT l).data.toList).1) hv
   have := nums_size h1.2 ((ordersBy (dW l 1) (parseS (dT l).data.toList).1 (aheadF (parseS (dT l).data.toList).1)).getD 0 []).length
   omega
def runUp (l : List ByteArray) : Nat→ByteArray
 | 0=>(⟨#[]⟩:ByteArray)
 | i+1=>runUp l i++(deskV (l.getD i default)++(⟨#[10]⟩:ByteArray))
def runV (l : List ByteArray) : ByteArray := bif decide (20<l.length) then (⟨#[]⟩:ByteArray) else runUp l l.length
theorem run_size (l : List ByteArray) : ∀ i,(runUp l i).size≤31 * i
 | 0=>Nat.le_refl 0
 | i+1=>by
  have h1 := run_size l i
  have h2 := desk_size (l.getD i default)
  simp only [runUp,ByteArray.size_append]
  rw [sz1]; omega
theorem run_all {l : List ByteArray} {i : Nat} {o : ByteArray} (h20 : ¬ (20:Int)<((l.length:Nat):Int)) (ho : o=runUp l i) (hi : i≤l.length) (hn : ¬ ((i:Nat):Int)<((l.length:Nat):Int)) : o=runV l := by
 unfold runV
 rw [decide_eq_false (by omega),ho,show i=l.length by omega]; rfl
theorem run_none {l : List ByteArray} (h20 : (20:Int)<((l.length:Nat):Int)) : (⟨#[]⟩:ByteArray)=runV l := by
 unfold runV
 rw [decide_eq_true (by omega)]; rfl
theorem eqS_ne {a b : ByteArray} (h : a.data.toList≠b.data.toList) : eqS a b=false := by
 cases e : eqS a b with
 | false=>rfl
 | true=>exact absurd (by rw [eqB_iff.1 e]) h
def hasS (l : List ByteArray) (x:ByteArray) : Bool := anyN l.length (fun i=>eqS x (l.getD i default))
theorem has_kind (w:ByteArray) : hasS [tLin,tOwn,tQui,tWid] w=kindD w := by
 unfold hasS kindD
 have : ∀ p : Nat→Bool,anyN 4 p=(((p 0 || p 1) || p 2) || p 3) := fun p=>by
  show (List.range 4).any p=_
  rw [show List.range 4=[0,1,2,3] from rfl]
  simp [Bool.or_assoc]
 exact this _
theorem core_own {w n : ByteArray} {h : List CallD} (e : eqS w tOwn=true) : coreD w n h=yesNoV (explains n h (ownF h)) := by unfold coreD; rw [e]; rfl
theorem core_qui {w n : ByteArray} {h : List CallD} (e : eqS w tQui=true) : coreD w n h=yesNoV (explains n h (quietF h)) := by
 unfold coreD; rw [show eqS w tOwn=false by rw [eqB_iff.1 e]; exact eqS_ne (by decide),e]; rfl
theorem core_wid {w n : ByteArray} {h : List CallD} (e : eqS w tWid=true) : coreD w n h=numB (widthS h) := by
 unfold coreD; rw [show eqS w tOwn=false by rw [eqB_iff.1 e]; exact eqS_ne (by decide),show eqS w tQui=false by rw [eqB_iff.1 e]; exact eqS_ne (by decide),e]; rfl
theorem core_lin {w n : ByteArray} {h : List CallD} (e1 : eqS w tOwn=false) (e2 : eqS w tQui=false) (e3 : eqS w tWid=false) : coreD w n h=bif decide ((ordersBy n h (aheadF h)).length=0) then tNo else numsUp ((ordersBy n h (aheadF h)).getD 0 []) ((ordersBy n h (aheadF h)).getD 0 []).length := by
 unfold coreD; rw [e1,e2,e3]; rfl
theorem core_lin' {w n : ByteArray} {h : List CallD} (e : eqS w tLin=true) : coreD w n h=bif decide ((ordersBy n h (aheadF h)).length=0) then tNo else numsUp ((ordersBy n h (aheadF h)).getD 0 []) ((ordersBy n h (aheadF h)).getD 0 []).length :=
 core_lin (by rw [eqB_iff.1 e]; exact eqS_ne (by decide)) (by rw [eqB_iff.1 e]; exact eqS_ne (by decide)) (by rw [eqB_iff.1 e]; exact eqS_ne (by decide))
theorem kind_qui {w : ByteArray} (hk : kindD w=true) (e1 : eqS w tWid=false) (e2 : eqS w tLin=false) (e3 : eqS w tOwn=false) : eqS w tQui=true := by
 unfold kindD at hk; rw [e1,e2,e3] at hk; simpa using hk
theorem dk_short {l : ByteArray} (h : (((splitB8 32 l).length:Nat):Int)<3) : tWhat=deskV l := by
 unfold deskV; rw [decide_eq_true (p := (splitB8 32 l).length<3) (by omega)]; rfl
theorem dk_kind {l : ByteArray} (h : kindD (dW l 0)=false) : tWhat=deskV l := by
 unfold deskV; rw [h]; simp
theorem dk_on {l : ByteArray} (h : ¬ (((splitB8 32 l).length:Nat):Int)<3) (hk : kindD (dW l 0)=true) : deskV l=bif wrongD (dW l 0) (dW l 1) (parseS (dT l).data.toList).2 then tWrong else coreD (dW l 0) (dW l 1) (parseS (dT l).data.toList).1 := by
 unfold deskV; rw [decide_eq_false (p := (splitB8 32 l).length<3) (by omega),hk,Bool.not_true,Bool.or_false,cond_false]
theorem ps_snd (s : List UInt8) : (parseS s).2=validHistory (outS s) := by unfold parseS; split <;> simp_all
theorem ps_fst {s : List UInt8} (h : validHistory (outS s)=true) : (parseS s).1=outS s := by unfold parseS; rw [if_pos h]
theorem wid_eq {h : List CallD} (hv : validHistory h=true) : widthOf h=widthS h := by unfold widthOf; rw [hv,width_eq hv]; rfl
theorem wid_bnd {h : List CallD} (hv : validHistory h=true) : 0≤widthS h∧widthS h≤6 := by
 have := width_le h; have := valid_len hv; rw [width_eq hv]; omega
theorem parse_valid {s : List UInt8} (h : (parseI s).2=true) : validHistory (parseI s).1=true := by
 have := parse_law (s := BA s) (by rw [ba_data]; exact h)
 rw [ba_data] at this; exact this.2
def szUp (l : List ByteArray) (k:Int) : Nat→Int
 | 0=>k
 | i+1=>szUp l k i - (((l.getD i default).size:Nat):Int)
end Go.Ab
namespace Go.Ab
theorem szUp_le (l : List ByteArray) (k:Int) : ∀ i,szUp l k i≤k
 | 0=>Int.le_refl _
 | i+1=>by have := szUp_le l k i; simp only [szUp]; omega
theorem szUp_down (l : List ByteArray) (k:Int) {i : Nat} : ∀ j,i≤j→szUp l k j≤szUp l k i
 | 0,h=>by rw [show i=0 by omega]; exact Int.le_refl _
 | j+1,h=>by
  by_cases e : i=j+1
  ·rw [e]; exact Int.le_refl _
  ·have := szUp_down l k (i := i) j (by omega); simp only [szUp]; omega
def szSV (l : List ByteArray) (k:Int) : Int := bif decide (k - ((l.length:Nat):Int)<0) then -1 else bif decide (szUp l (k - ((l.length:Nat):Int)) l.length<0) then -1 else szUp l (k - ((l.length:Nat):Int)) l.length
theorem szS_no {l : List ByteArray} {k : Int} (h : k - ((l.length:Nat):Int)<0) : -1=szSV l k := by unfold szSV; rw [decide_eq_true h]; rfl
theorem szS_mid {l : List ByteArray} {k x : Int} {i : Nat} (h : ¬ k - ((l.length:Nat):Int)<0) (hi : i<l.length) (hx : x=szUp l (k - ((l.length:Nat):Int)) i) (hn : x - (((l.getD i default).size:Nat):Int)<0) : -1=szSV l k := by
 unfold szSV
 have h1 : szUp l (k - ((l.length:Nat):Int)) (i+1)<0 := by simp only [szUp]; omega
 have h2 := szUp_down l (k - ((l.length:Nat):Int)) (i := i+1) l.length (by omega)
 rw [decide_eq_false h,decide_eq_true (p := szUp l _ l.length<0) (by omega)]; rfl
theorem szS_all {l : List ByteArray} {k x : Int} {i : Nat} (h : ¬ k - ((l.length:Nat):Int)<0) (h0 : 0≤x) (hi : i≤l.length) (hn : ¬ ((i:Nat):Int)<((l.length:Nat):Int)) (hx : x=szUp l (k - ((l.length:Nat):Int)) i) : x=szSV l k := by
 unfold szSV
 have e : i=l.length := by omega
 rw [e] at hx
 rw [decide_eq_false h,decide_eq_false (p := szUp l _ l.length<0) (by omega)]; exact hx
theorem szS_ok {l : List ByteArray} (h : ¬ szSV l 1048576<0) : l.length≤1048576∧∀ i,(l.getD i default).size≤1100000 := by
 unfold szSV at h
 have h1 : ¬ (1048576:Int) - ((l.length:Nat):Int)<0 := fun e=>by rw [decide_eq_true e,cond_true] at h; exact h (by decide)
 rw [decide_eq_false h1,cond_false] at h
 have h2 : ¬ szUp l (1048576 - ((l.length:Nat):Int)) l.length<0 := fun e=>by rw [decide_eq_true e,cond_true] at h; exact h (by decide)
 refine ⟨by omega,fun i => ?_⟩
 by_cases hi : i<l.length
 ·have h3 := szUp_down l (1048576 - ((l.length:Nat):Int)) (i := i+1) l.length (by omega)
  have h4 := szUp_le l (1048576 - ((l.length:Nat):Int)) i
  simp only [szUp] at h3
  omega
 ·rw [List.getD_eq_getElem?_getD,List.getElem?_eq_none (by omega)]; exact Nat.zero_le _
theorem strs_ext {a b : List ByteArray} (hl : a.length=b.length) (h : ∀ j,j<a.length→a.getD j default=b.getD j default) : a=b := by
 apply List.ext_getElem hl
 intro i h1 h2
 have := h i h1
 rwa [List.getD_eq_getElem?_getD,List.getD_eq_getElem?_getD,List.getElem?_eq_getElem h1,List.getElem?_eq_getElem h2] at this
end Go.Ab

set_option linter.unusedSimpArgs false
set_option linter.unusedVariables false
namespace Go.Ab
end Go.Ab

set_option linter.unusedSimpArgs false
set_option linter.unusedVariables false
namespace Go.Ab
end Go.Ab

set_option linter.unusedSimpArgs false
set_option linter.unusedVariables false
namespace Go.Ab
end Go.Ab
namespace Go.Ab
end Go.Ab

set_option linter.unusedSimpArgs false
set_option linter.unusedVariables false
namespace Go.Ab
end Go.Ab
namespace Go.Ab
end Go.Ab

set_option linter.unusedSimpArgs false
set_option linter.unusedVariables false
namespace Go.Ab
end Go.Ab

set_option linter.unusedSimpArgs false
set_option linter.unusedVariables false
namespace Go.Ab
end Go.Ab

set_option linter.unusedSimpArgs false
set_option linter.unusedVariables false
namespace Go.Proofs.Tryz
open Go.Ab Go.RowKit
def fs5 : FnS := fnS [.s .strs,.o] [.strs,.int] (fun _ (l,k,_)=>(.i (szSV l k),[],(0≤k∧k≤1048576)∧(∀ i,(l.getD i default).size≤9223372036854775807)))
abbrev T5 : Tab := lk []
theorem tab5 : TabOK prog T5 := TabOK.nil
theorem ok5 : FnOK prog 5 fs5 := by
 refine FnOK.mk cok func5 rfl rfl rfl ?_
 rintro fl ⟨(l : List ByteArray),(k:Int),_⟩ hpre F hnt0 _
 have hnt : F.nt=28 := hnt0.trans ntmps5
 replace hpre : (0≤k∧k≤1048576)∧(∀ i,(l.getD i default).size≤9223372036854775807) := hpre
 obtain ⟨hk,hm⟩ := hpre
 refine W.to (⟨[(0,.sl (.strs l)),(1,.i k)],[],[999]⟩) rfl ?_
 refine W.lenOf 0 (.strs l) (by kernel_rfl) ?_
 intro hl_l; replace hl_l : List.length l≤9223372036854775807 := hl_l
 refine Kk cok tab5 hnt [] [0,1] (⟨[(0,.sl (.strs l)),(1,.i k)],[],[999]⟩)
  (Y∧Y)
  ⟨tt,tt⟩ ?_
 refine Kk cok tab5 hnt [] [0,1] (⟨[(0,.sl (.strs l)),(1,.i (k - (l.length:Int)))],[],[999]⟩)
  (Y∧Y∧Y∧(Y∧Y∧(Fits .i64 (k - (l.length:Int))))∧Y∧Y)
  ⟨tt,tt,tt,⟨tt,tt,(by exact fits_i64 (by omega) (by omega))⟩,tt,tt⟩ ?_
 refine W.seq ?_
 refine Kk cok tab5 hnt [] [0,1,11] (⟨[(0,.sl (.strs l)),(1,.i (k - (l.length:Int))),(11,.b (decide ((k - (l.length:Int))<(0:Int))))],[],[999]⟩)
  (Y∧(Y∧Y∧Y)∧Y)
  ⟨tt,⟨tt,tt,tt⟩,tt⟩ ?_
 refine W.ifP ((k - (l.length:Int))<(0:Int)) (.b (decide ((k - (l.length:Int))<(0:Int)))) (by kernel_rfl) rfl trivial ?_ ?_
 ·intro h11
  refine Kk cok tab5 hnt [] [4] (⟨[(4,.i (-1:Int))],[],[999]⟩)
   (Y∧Y)
   ⟨tt,tt⟩ ?_
  refine W.ret (thenQ_ret ?_)
  exact endQ_ret (.i (-1:Int)) (by kernel_rfl) (@cast ((.int .i64 (-1:Int):Value)=.int .i64 (szSV l k)) _ (by kernel_rfl) (congrArg (Value.int .i64) (by exact szS_no h11)))
 ·intro n11
  refine W.skip (thenQ_normal ?_)
  refine W.seq ?_
  refine Kk cok tab5 hnt [] [0,1,5] (⟨[(0,.sl (.strs l)),(1,.i (k - (l.length:Int))),(5,.i (0:Int))],[],[999]⟩)
   (Y∧Y)
   ⟨tt,tt⟩ ?_
  refine W.block ?_
  refine W.loop (ι := Nat × Int) (fun (x : Nat × Int)=>match x with | (i,x)=>(⟨[(0,.sl (.strs l)),(1,.i x),(5,.i ((i:Nat):Int))],[],[999]⟩:St))
   (fun (x : Nat × Int)=>match x with | (i,x)=>(i≤l.length)∧(x=szUp l (k - (l.length:Int)) i)∧(0≤x∧x≤1048576))
   (fun (x : Nat × Int)=>match x with | (i,x)=>(l.length - i:Nat)) (0,(k - (l.length:Int))) ?_ ?_ ?_
  ·exact (show (0≤l.length)∧((k - (l.length:Int))=szUp l (k - (l.length:Int)) 0)∧(0≤(k - (l.length:Int))∧(k - (l.length:Int))≤1048576) from ⟨(by first | assumption | omega | rfl | (intro _ hjj; omega) | (simp; done) | (simp; omega)),(by rfl),(by first | assumption | omega | rfl | (intro _ hjj; omega) | (simp; done) | (simp; omega))⟩)
  ·exact Sub.of [] (@cast (((Sd (.strs l))∧(Si (k - (l.length:Int)))∧((.int .i64 (0:Int):Value)=.int .i64 ((0:Nat):Int))∧Y)∧Y∧(true=true)∧(true=true)) _ (by kernel_rfl) ⟨⟨rfl,rfl,(congrArg (Value.int .i64) (by first | rfl | omega | assumption | simp | simp_all)),tt⟩,tt,rfl,rfl⟩)
  ·rintro ⟨i,x⟩ hC0
   have hC : (i≤l.length)∧(x=szUp l (k - (l.length:Int)) i)∧(0≤x∧x≤1048576) := hC0
   clear hC0
   obtain ⟨hi,hx,hx0⟩ := hC
   refine W.to (⟨[(0,.sl (.strs l)),(1,.i x),(5,.i ((i:Nat):Int))],[],[999]⟩) rfl ?_
   have hmi := hm i
   refine W.seq ?_
   refine Kk cok tab5 hnt [] [0,1,5,15] (⟨[(0,.sl (.strs l)),(1,.i x),(5,.i ((i:Nat):Int)),(15,.b (decide (((i:Nat):Int)<(l.length:Int))))],[],[999]⟩)
    (Y∧Y∧Y∧(Y∧Y∧Y)∧Y)
    ⟨tt,tt,tt,⟨tt,tt,tt⟩,tt⟩ ?_
   refine W.ifP (((i:Nat):Int)<(l.length:Int)) (.b (decide (((i:Nat):Int)<(l.length:Int)))) (by kernel_rfl) rfl trivial ?_ ?_
   ·intro h15
    refine W.skip (thenQ_normal ?_)
    refine W.seq ?_
    refine W.block ?_
    refine Kk cok tab5 hnt [] [0,1,5] (⟨[(0,.sl (.strs l)),(1,.i (x - ((((l.getD i default).size):Nat):Int))),(5,.i ((i:Nat):Int))],[],[999]⟩)
     (Y∧Y∧Y∧(Y∧Y∧(0≤((i:Nat):Int))∧(((i:Nat):Int)<(l.length:Int)))∧Y∧Y∧(Y∧Y∧(Fits .i64 (x - ((((l.getD i default).size):Nat):Int))))∧Y∧Y)
     ⟨tt,tt,tt,⟨tt,tt,(by omega),(by omega)⟩,tt,tt,⟨tt,tt,(by exact fits_i64 (by omega) (by omega))⟩,tt,tt⟩ ?_
    refine Kk cok tab5 hnt [] [0,1,5,26] (⟨[(0,.sl (.strs l)),(1,.i (x - ((((l.getD i default).size):Nat):Int))),(5,.i ((i:Nat):Int)),(26,.b (decide ((x - ((((l.getD i default).size):Nat):Int))<(0:Int))))],[],[999]⟩)
     (Y∧(Y∧Y∧Y)∧Y)
     ⟨tt,⟨tt,tt,tt⟩,tt⟩ ?_
    refine W.ifP ((x - ((((l.getD i default).size):Nat):Int))<(0:Int)) (.b (decide ((x - ((((l.getD i default).size):Nat):Int))<(0:Int)))) (by kernel_rfl) rfl trivial ?_ ?_
    ·intro h26
     refine Kk cok tab5 hnt [] [4] (⟨[(4,.i (-1:Int))],[],[999]⟩)
      (Y∧Y)
      ⟨tt,tt⟩ ?_
     refine W.ret (blockQ_ret (thenQ_ret (thenQ_ret (blockQ_ret (thenQ_ret ?_)))))
     exact endQ_ret (.i (-1:Int)) (by kernel_rfl) (@cast ((.int .i64 (-1:Int):Value)=.int .i64 (szSV l k)) _ (by kernel_rfl) (congrArg (Value.int .i64) (by exact szS_mid n11 (by omega) hx h26)))
    ·intro n26
     refine W.skip (blockQ_normal (thenQ_normal ?_))
     refine Lk cok tab5 hnt [] (⟨[(0,.sl (.strs l)),(1,.i (x - ((((l.getD i default).size):Nat):Int))),(5,.i (((i+1):Nat):Int)),(16,.i ((i:Nat):Int)),(17,.i (((i+1):Nat):Int)),(26,.b (decide ((x - ((((l.getD i default).size):Nat):Int))<(0:Int))))],[],[999]⟩)
      (Y∧(Y∧Y∧(Fits .i64 (((i+1):Nat):Int)))∧Y∧Y)
      ⟨tt,⟨tt,tt,(by exact fits_i64 (by omega) (by omega))⟩,tt,tt⟩ ?_
     refine thenQ_normal ?_
     refine ⟨((i+1),(x - ((((l.getD i default).size):Nat):Int))),(show ((i+1)≤l.length)∧((x - ((((l.getD i default).size):Nat):Int))=szUp l (k - (l.length:Int)) (i+1))∧(0≤(x - ((((l.getD i default).size):Nat):Int))∧(x - ((((l.getD i default).size):Nat):Int))≤1048576) from ⟨(by first | assumption | omega | rfl | (intro _ hjj; omega) | (simp; done) | (simp; omega)),(by rw [hx]; rfl),(by first | assumption | omega | rfl | (intro _ hjj; omega) | (simp; done) | (simp; omega))⟩),(show l.length - (i+1)<l.length - i from (by first | omega | (simp_all; omega))),?_⟩
     exact Sub.of [] (@cast (((Sd (.strs l))∧(Si (x - ((((l.getD i default).size):Nat):Int)))∧(Si (((i+1):Nat):Int))∧Y)∧Y∧(true=true)∧(true=true)) _ (by kernel_rfl) ⟨⟨rfl,rfl,rfl,tt⟩,tt,rfl,rfl⟩)
   ·intro n15
    refine W.exit (thenQ_exit (thenQ_exit (blockQ_hit ?_)))
    refine thenQ_normal ?_
    refine Kk cok tab5 hnt [] [4] (⟨[(4,.i x)],[],[999]⟩)
     (Y∧Y∧Y)
     ⟨tt,tt,tt⟩ ?_
    refine W.ret ?_
    exact endQ_ret (.i x) (by kernel_rfl) (@cast ((.int .i64 x:Value)=.int .i64 (szSV l k)) _ (by kernel_rfl) (congrArg (Value.int .i64) (by exact szS_all n11 hx0.1 hi n15 hx)))
theorem ent5 : Entr prog 5 := ⟨_,func5,rfl,by decide⟩
end Go.Proofs.Tryz

set_option linter.unusedSimpArgs false
set_option linter.unusedVariables false
namespace Go.Proofs.Tryz
open Go.Ab Go.RowKit
def fs7 : FnS := fnS [.s .strs] [.strs] (fun _ (h,_)=>(.own 0 h.length,[(9,.strs h)],(h.length≤1048576)))
abbrev T7 : Tab := lk []
theorem tab7 : TabOK prog T7 := TabOK.nil
theorem ok7 : FnOK prog 7 fs7 := by
 refine FnOK.mk cok func7 rfl rfl rfl ?_
 rintro fl ⟨(h : List ByteArray),_⟩ hpre F hnt0 _
 have hnt : F.nt=22 := hnt0.trans ntmps7
 replace hpre : (h.length≤1048576) := hpre
 have hn := hpre
 refine W.to (⟨[(0,.sl (.strs h))],[],[999]⟩) rfl ?_
 refine W.lenOf 0 (.strs h) (by kernel_rfl) ?_
 intro hl_h; replace hl_h : List.length h≤9223372036854775807 := hl_h
 refine Kk cok tab7 hnt [] [0] (⟨[(0,.sl (.strs h))],[],[999]⟩)
  (Y∧Y)
  ⟨tt,tt⟩ ?_
 refine Kk cok tab7 hnt [7] [0,3] (⟨[(0,.sl (.strs h)),(3,.own 7 (List.length (List.replicate h.length ByteArray.empty)))],[(7,⟨9,.row (.strs (List.replicate h.length ByteArray.empty))⟩)],[7,999]⟩)
  (Y∧Y∧(Y∧Y∧((h.length:Int)=(h.length:Int))∧(0≤(h.length:Int))∧((h.length:Int) * 16≤281474976710656))∧Y∧Y)
  ⟨tt,tt,⟨tt,tt,rfl,(by omega),(by omega)⟩,tt,tt⟩ ?_
 refine W.seq ?_
 refine Kk cok tab7 hnt [] [0,3,4] (⟨[(0,.sl (.strs h)),(3,.own 7 (List.length (List.replicate h.length ByteArray.empty))),(4,.i (0:Int))],[(7,⟨9,.row (.strs (List.replicate h.length ByteArray.empty))⟩)],[7,999]⟩)
  (Y∧Y)
  ⟨tt,tt⟩ ?_
 refine W.block ?_
 refine W.loop (ι := Nat × (List ByteArray)) (fun (x : Nat × (List ByteArray))=>match x with | (i,o)=>(⟨[(0,.sl (.strs h)),(3,.own 7 o.length),(4,.i ((i:Nat):Int))],[(7,⟨9,.row (.strs o)⟩)],[7,999]⟩:St))
  (fun (x : Nat × (List ByteArray))=>match x with | (i,o)=>(i≤h.length)∧(o=toUp default h i))
  (fun (x : Nat × (List ByteArray))=>match x with | (i,o)=>(h.length - i:Nat)) (0,(List.replicate h.length ByteArray.empty)) ?_ ?_ ?_
 ·exact (show (0≤h.length)∧((List.replicate h.length ByteArray.empty)=toUp default h 0) from ⟨(by first | assumption | omega | rfl | (intro _ hjj; omega) | (simp; done) | (simp; omega)),(by exact toUp_zero _ _)⟩)
 ·exact Sub.of [] (@cast (((Sd (.strs h))∧(((7:Nat)=7)∧((List.length (List.replicate h.length ByteArray.empty))=(List.length (List.replicate h.length ByteArray.empty)))∧((7:Nat) ∈ ([7,999] : List Nat)))∧((.int .i64 (0:Int):Value)=.int .i64 ((0:Nat):Int))∧Y)∧((((9:Nat)=9)∧(Sd (.strs (List.replicate h.length ByteArray.empty)))∧((7:Nat) ∈ ([7,999] : List Nat)))∧Y)∧(true=true)∧(true=true)) _ (by kernel_rfl) ⟨⟨rfl,⟨rfl,rfl,(by decide)⟩,(congrArg (Value.int .i64) (by first | rfl | omega | assumption | simp | simp_all)),tt⟩,⟨⟨rfl,rfl,(by decide)⟩,tt⟩,rfl,rfl⟩)
 ·rintro ⟨i,o⟩ hC0
  have hC : (i≤h.length)∧(o=toUp default h i) := hC0
  clear hC0
  obtain ⟨hi,ho⟩ := hC
  refine W.to (⟨[(0,.sl (.strs h)),(3,.own 7 o.length),(4,.i ((i:Nat):Int))],[(7,⟨9,.row (.strs o)⟩)],[7,999]⟩) rfl ?_
  have hol : o.length=h.length := by rw [ho]; exact toUp_len _ _ hi
  refine W.seq ?_
  refine Kk cok tab7 hnt [] [0,3,4,11] (⟨[(0,.sl (.strs h)),(3,.own 7 o.length),(4,.i ((i:Nat):Int)),(11,.b (decide (((i:Nat):Int)<(h.length:Int))))],[(7,⟨9,.row (.strs o)⟩)],[7,999]⟩)
   (Y∧Y∧Y∧(Y∧Y∧Y)∧Y)
   ⟨tt,tt,tt,⟨tt,tt,tt⟩,tt⟩ ?_
  refine W.ifP (((i:Nat):Int)<(h.length:Int)) (.b (decide (((i:Nat):Int)<(h.length:Int)))) (by kernel_rfl) rfl trivial ?_ ?_
  ·intro h11
   refine W.skip (thenQ_normal ?_)
   refine W.seq ?_
   refine W.block ?_
   refine Lk cok tab7 hnt [] (⟨[(0,.sl (.strs h)),(3,.own 7 o.length),(4,.i ((i:Nat):Int)),(11,.b (decide (((i:Nat):Int)<(h.length:Int)))),(14,.own 7 o.length),(15,.i ((i:Nat):Int)),(16,.sl (.strs h)),(17,.i ((i:Nat):Int)),(18,.ep [.v (.string (h.getD i default))]),(19,.v (.string (h.getD i default))),(20,.pel 7 1 i 0)],[(7,⟨9,.row (.strs (List.set o i (h.getD i default)))⟩)],[7,999]⟩)
    (Y∧Y∧Y∧Y∧(Y∧Y∧(0≤((i:Nat):Int))∧(((i:Nat):Int)<(h.length:Int)))∧Y∧(Y∧Y∧(0≤((i:Nat):Int))∧(((i:Nat):Int)<(o.length:Int)))∧(Y∧Y∧(i<o.length))∧Y)
    ⟨tt,tt,tt,tt,⟨tt,tt,(by omega),(by omega)⟩,tt,⟨tt,tt,(by omega),(by omega)⟩,⟨tt,tt,(by omega)⟩,tt⟩ ?_
   refine blockQ_normal (thenQ_normal ?_)
   refine Lk cok tab7 hnt [] (⟨[(0,.sl (.strs h)),(3,.own 7 o.length),(4,.i (((i+1):Nat):Int)),(11,.b (decide (((i:Nat):Int)<(h.length:Int)))),(12,.i ((i:Nat):Int)),(13,.i (((i+1):Nat):Int)),(14,.own 7 o.length),(15,.i ((i:Nat):Int)),(16,.sl (.strs h)),(17,.i ((i:Nat):Int)),(18,.ep [.v (.string (h.getD i default))]),(19,.v (.string (h.getD i default))),(20,.pel 7 1 i 0)],[(7,⟨9,.row (.strs (List.set o i (h.getD i default)))⟩)],[7,999]⟩)
    (Y∧(Y∧Y∧(Fits .i64 (((i+1):Nat):Int)))∧Y∧Y)
    ⟨tt,⟨tt,tt,(by exact fits_i64 (by omega) (by omega))⟩,tt,tt⟩ ?_
   refine thenQ_normal ?_
   refine ⟨((i+1),(List.set o i (h.getD i default))),(show ((i+1)≤h.length)∧((List.set o i (h.getD i default))=toUp default h (i+1)) from ⟨(by first | assumption | omega | rfl | (intro _ hjj; omega) | (simp; done) | (simp; omega)),(by exact toUp_step ho (by omega))⟩),(show h.length - (i+1)<h.length - i from (by first | omega | (simp_all; omega))),?_⟩
   exact Sub.of [] (@cast (((Sd (.strs h))∧(((7:Nat)=7)∧(o.length=(List.length (List.set o i (h.getD i default))))∧((7:Nat) ∈ ([7,999] : List Nat)))∧(Si (((i+1):Nat):Int))∧Y)∧((((9:Nat)=9)∧(Sd (.strs (List.set o i (h.getD i default))))∧((7:Nat) ∈ ([7,999] : List Nat)))∧Y)∧(true=true)∧(true=true)) _ (by kernel_rfl) ⟨⟨rfl,⟨rfl,(by first | rfl | omega | assumption | (symm; assumption) | simp | simp_all),(by decide)⟩,rfl,tt⟩,⟨⟨rfl,rfl,(by decide)⟩,tt⟩,rfl,rfl⟩)
  ·intro n11
   refine W.exit (thenQ_exit (thenQ_exit (blockQ_hit ?_)))
   refine thenQ_normal ?_
   refine Kk cok tab7 hnt [] [2] (⟨[(2,.own 7 o.length)],[(7,⟨9,.row (.strs o)⟩)],[7,999]⟩)
    (Y∧Y∧Y)
    ⟨tt,tt,tt⟩ ?_
   refine W.ret ?_
   exact endQ_rows [(0,7)] (.own 7 o.length) (by kernel_rfl) (@cast (((7:Nat)=7)∧(o.length=h.length)∧((0:Nat) ∈ ([0] : List Nat))) _ (by kernel_rfl) ⟨rfl,(by first | rfl | omega | assumption | (symm; assumption) | (exact congrArg List.length (by exact toUp_all ho (by omega))) | (exact toUp_all ho (by omega); done) | simp | simp_all),(by decide)⟩) (@cast ((((9:Nat)=9)∧((.strs o:Dat)=.strs h)∧((0:Nat) ∈ ([0] : List Nat)))∧Y) _ (by kernel_rfl) ⟨⟨rfl,(congrArg Dat.strs (by exact toUp_all ho (by omega))),(by decide)⟩,tt⟩) (by kernel_rfl)
theorem ent7 : Entr prog 7 := ⟨_,func7,rfl,by decide⟩
end Go.Proofs.Tryz

set_option linter.unusedSimpArgs false
set_option linter.unusedVariables false
namespace Go.Proofs.Tryz
open Go.Ab Go.RowKit
def fs21 : FnS := fnS [.o,.o] [.str,.u8] (fun _ (s,c,_)=>(.own 0 (List.length (splitB8 c s)),[(9,.strs (splitB8 c s))],(0≤c∧c≤255)∧(s.size≤2000000)))
abbrev T21 : Tab := lk []
theorem tab21 : TabOK prog T21 := TabOK.nil
theorem ok21 : FnOK prog 21 fs21 := by
 refine FnOK.mk cok func21 rfl rfl rfl ?_
 rintro fl ⟨(s:ByteArray),(c:Int),_⟩ hpre F hnt0 _
 have hnt : F.nt=35 := hnt0.trans ntmps21
 replace hpre : (0≤c∧c≤255)∧(s.size≤2000000) := hpre
 obtain ⟨hc,hz⟩ := hpre
 refine W.to (⟨[(0,.v (.string s)),(1,.v (.int .u8 c))],[],[999]⟩) rfl ?_
 refine Kk cok tab21 hnt [] [0,1] (⟨[(0,.v (.string s)),(1,.v (.int .u8 c))],[],[999]⟩)
  (Y∧Y)
  ⟨tt,tt⟩ ?_
 refine Kk cok tab21 hnt [8] [0,1,5] (⟨[(0,.v (.string s)),(1,.v (.int .u8 c)),(5,.own 8 (List.length ([] : List ByteArray)))],[(8,⟨9,.row (.strs ([] : List ByteArray))⟩)],[8,999]⟩)
  (Y∧Y∧Y)
  ⟨tt,tt,tt⟩ ?_
 refine Kk cok tab21 hnt [] [0,1,5,6] (⟨[(0,.v (.string s)),(1,.v (.int .u8 c)),(5,.own 8 (List.length ([] : List ByteArray))),(6,.i (0:Int))],[(8,⟨9,.row (.strs ([] : List ByteArray))⟩)],[8,999]⟩)
  (Y∧Y)
  ⟨tt,tt⟩ ?_
 refine W.seq ?_
 refine Kk cok tab21 hnt [] [0,1,5,6,7] (⟨[(0,.v (.string s)),(1,.v (.int .u8 c)),(5,.own 8 (List.length ([] : List ByteArray))),(6,.i (0:Int)),(7,.i (0:Int))],[(8,⟨9,.row (.strs ([] : List ByteArray))⟩)],[8,999]⟩)
  (Y∧Y)
  ⟨tt,tt⟩ ?_
 refine W.block ?_
 refine W.loop (ι := (List ByteArray) × Nat × Nat) (fun (x : (List ByteArray) × Nat × Nat)=>match x with | (o,f,i)=>(⟨[(0,.v (.string s)),(1,.v (.int .u8 c)),(5,.own 8 o.length),(6,.i ((f:Nat):Int)),(7,.i ((i:Nat):Int))],[(8,⟨9,.row (.strs o)⟩)],[8,999]⟩:St))
  (fun (x : (List ByteArray) × Nat × Nat)=>match x with | (o,f,i)=>(i≤s.size)∧(f≤i)∧(SpI c s o f i)∧(o.length≤i))
  (fun (x : (List ByteArray) × Nat × Nat)=>match x with | (o,f,i)=>(s.size - i:Nat)) (([] : List ByteArray),0,0) ?_ ?_ ?_
 ·exact (show (0≤s.size)∧(0≤0)∧(SpI c s ([] : List ByteArray) 0 0)∧(([] : List ByteArray).length≤0) from ⟨(by first | assumption | omega | rfl | (intro _ hjj; omega) | (simp; done) | (simp; omega)),(by first | assumption | omega | rfl | (intro _ hjj; omega) | (simp; done) | (simp; omega)),(by exact spl_init _ _),(by exact Nat.zero_le _)⟩)
 ·exact Sub.of [] (@cast (((((.string s):Value)=(.string s))∧(Sv (.int .u8 c))∧(((8:Nat)=8)∧((List.length ([] : List ByteArray))=(List.length ([] : List ByteArray)))∧((8:Nat) ∈ ([8,999] : List Nat)))∧((.int .i64 (0:Int):Value)=.int .i64 ((0:Nat):Int))∧((.int .i64 (0:Int):Value)=.int .i64 ((0:Nat):Int))∧Y)∧((((9:Nat)=9)∧(Sd (.strs ([] : List ByteArray)))∧((8:Nat) ∈ ([8,999] : List Nat)))∧Y)∧(true=true)∧(true=true)) _ (by kernel_rfl) ⟨⟨rfl,rfl,⟨rfl,rfl,(by decide)⟩,(congrArg (Value.int .i64) (by first | rfl | omega | assumption | simp | simp_all)),(congrArg (Value.int .i64) (by first | rfl | omega | assumption | simp | simp_all)),tt⟩,⟨⟨rfl,rfl,(by decide)⟩,tt⟩,rfl,rfl⟩)
 ·rintro ⟨o,f,i⟩ hC0
  have hC : (i≤s.size)∧(f≤i)∧(SpI c s o f i)∧(o.length≤i) := hC0
  clear hC0
  obtain ⟨hi,hf,ho,hol⟩ := hC
  refine W.to (⟨[(0,.v (.string s)),(1,.v (.int .u8 c)),(5,.own 8 o.length),(6,.i ((f:Nat):Int)),(7,.i ((i:Nat):Int))],[(8,⟨9,.row (.strs o)⟩)],[8,999]⟩) rfl ?_
  refine W.seq ?_
  refine Kk cok tab21 hnt [] [0,1,5,6,7,12] (⟨[(0,.v (.string s)),(1,.v (.int .u8 c)),(5,.own 8 o.length),(6,.i ((f:Nat):Int)),(7,.i ((i:Nat):Int)),(12,.b (decide (((i:Nat):Int)<((s.size:Nat):Int))))],[(8,⟨9,.row (.strs o)⟩)],[8,999]⟩)
   (Y∧Y∧Y∧(Y∧Y∧Y)∧Y)
   ⟨tt,tt,tt,⟨tt,tt,tt⟩,tt⟩ ?_
  refine W.ifP (((i:Nat):Int)<((s.size:Nat):Int)) (.b (decide (((i:Nat):Int)<((s.size:Nat):Int)))) (by kernel_rfl) rfl trivial ?_ ?_
  ·intro h12
   refine W.skip (thenQ_normal ?_)
   refine W.seq ?_
   refine W.block ?_
   refine Kk cok tab21 hnt [] [0,1,5,6,7,19] (⟨[(0,.v (.string s)),(1,.v (.int .u8 c)),(5,.own 8 o.length),(6,.i ((f:Nat):Int)),(7,.i ((i:Nat):Int)),(19,.b (decide ((((UInt8.toNat (List.getD s.data.toList i 0)):Nat):Int)=c)))],[(8,⟨9,.row (.strs o)⟩)],[8,999]⟩)
    (Y∧Y∧(Y∧Y∧(0≤((i:Nat):Int))∧(((i:Nat):Int)<((s.size:Nat):Int)))∧Y∧(Y∧Y∧Y)∧Y)
    ⟨tt,tt,⟨tt,tt,(by omega),(by omega)⟩,tt,⟨tt,tt,tt⟩,tt⟩ ?_
   refine W.ifP ((((UInt8.toNat (List.getD s.data.toList i 0)):Nat):Int)=c) (.b (decide ((((UInt8.toNat (List.getD s.data.toList i 0)):Nat):Int)=c))) (by kernel_rfl) rfl trivial ?_ ?_
   ·intro h19
    refine Kk cok tab21 hnt [26] [0,1,5,7] (⟨[(0,.v (.string s)),(1,.v (.int .u8 c)),(5,.own 26 (List.length (o++([s.extract f i])))),(7,.i ((i:Nat):Int))],[(26,⟨9,.row (.strs (o++([s.extract f i])))⟩)],[26,25,8,999]⟩)
     (Y∧Y∧Y∧Y∧(Y∧Y∧Y∧(0≤((f:Nat):Int))∧(((f:Nat):Int)≤((i:Nat):Int))∧(((i:Nat):Int)≤((s.size:Nat):Int)))∧(Y∧Y)∧((Y∧(o.length=o.length))∧Y∧((o.length+(List.length ([s.extract f i]))) * 16≤140737488355328))∧Y∧Y)
     ⟨tt,tt,tt,tt,⟨tt,tt,tt,(by omega),(by omega),(by omega)⟩,⟨tt,tt⟩,⟨⟨tt,rfl⟩,tt,(by (try simp only [List.length_append,List.length_cons,List.length_nil,List.length_set]); omega)⟩,tt,tt⟩ ?_
    refine Lk cok tab21 hnt [] (⟨[(0,.v (.string s)),(1,.v (.int .u8 c)),(5,.own 26 (List.length (o++([s.extract f i])))),(6,.i (((i+1):Nat):Int)),(7,.i ((i:Nat):Int)),(27,.i ((i:Nat):Int)),(28,.i (((i+1):Nat):Int))],[(26,⟨9,.row (.strs (o++([s.extract f i])))⟩)],[26,25,8,999]⟩)
     (Y∧(Y∧Y∧(Fits .i64 (((i+1):Nat):Int)))∧Y∧Y)
     ⟨tt,⟨tt,tt,(by exact fits_i64 (by omega) (by omega))⟩,tt,tt⟩ ?_
    refine blockQ_normal (thenQ_normal ?_)
    refine Lk cok tab21 hnt [] (⟨[(0,.v (.string s)),(1,.v (.int .u8 c)),(5,.own 26 (List.length (o++([s.extract f i])))),(6,.i (((i+1):Nat):Int)),(7,.i (((i+1):Nat):Int)),(13,.i ((i:Nat):Int)),(14,.i (((i+1):Nat):Int)),(27,.i ((i:Nat):Int)),(28,.i (((i+1):Nat):Int))],[(26,⟨9,.row (.strs (o++([s.extract f i])))⟩)],[26,25,8,999]⟩)
     (Y∧(Y∧Y∧(Fits .i64 (((i+1):Nat):Int)))∧Y∧Y)
     ⟨tt,⟨tt,tt,(by exact fits_i64 (by omega) (by omega))⟩,tt,tt⟩ ?_
    refine thenQ_normal ?_
    refine ⟨((o++([s.extract f i])),(i+1),(i+1)),(show ((i+1)≤s.size)∧((i+1)≤(i+1))∧(SpI c s (o++([s.extract f i])) (i+1) (i+1))∧((o++([s.extract f i])).length≤(i+1)) from ⟨(by first | assumption | omega | rfl | (intro _ hjj; omega) | (simp; done) | (simp; omega)),(by first | assumption | omega | rfl | (intro _ hjj; omega) | (simp; done) | (simp; omega)),(by first | exact spl_yes ho hf (by omega) hc h19 | exact spl_no ho hf (by omega) hc n19),(by first | omega | (simp only [List.length_append,List.length_cons,List.length_nil]; omega))⟩),(show s.size - (i+1)<s.size - i from (by first | omega | (simp_all; omega))),?_⟩
    exact Sub.of [(8,26)] (@cast (((((.string s):Value)=(.string s))∧(Sv (.int .u8 c))∧(((26:Nat)=26)∧((List.length (o++([s.extract f i])))=(List.length (o++([s.extract f i]))))∧((8:Nat) ∈ ([8,999] : List Nat)))∧(Si (((i+1):Nat):Int))∧(Si (((i+1):Nat):Int))∧Y)∧((((9:Nat)=9)∧(Sd (.strs (o++([s.extract f i]))))∧((8:Nat) ∈ ([8,999] : List Nat)))∧Y)∧(true=true)∧(true=true)) _ (by kernel_rfl) ⟨⟨rfl,rfl,⟨rfl,rfl,(by decide)⟩,rfl,rfl,tt⟩,⟨⟨rfl,rfl,(by decide)⟩,tt⟩,rfl,rfl⟩)
   ·intro n19
    refine W.skip (blockQ_normal (thenQ_normal ?_))
    refine Lk cok tab21 hnt [] (⟨[(0,.v (.string s)),(1,.v (.int .u8 c)),(5,.own 8 o.length),(6,.i ((f:Nat):Int)),(7,.i (((i+1):Nat):Int)),(13,.i ((i:Nat):Int)),(14,.i (((i+1):Nat):Int)),(19,.b (decide ((((UInt8.toNat (List.getD s.data.toList i 0)):Nat):Int)=c)))],[(8,⟨9,.row (.strs o)⟩)],[8,999]⟩)
     (Y∧(Y∧Y∧(Fits .i64 (((i+1):Nat):Int)))∧Y∧Y)
     ⟨tt,⟨tt,tt,(by exact fits_i64 (by omega) (by omega))⟩,tt,tt⟩ ?_
    refine thenQ_normal ?_
    refine ⟨(o,f,(i+1)),(show ((i+1)≤s.size)∧(f≤(i+1))∧(SpI c s o f (i+1))∧(o.length≤(i+1)) from ⟨(by first | assumption | omega | rfl | (intro _ hjj; omega) | (simp; done) | (simp; omega)),(by first | assumption | omega | rfl | (intro _ hjj; omega) | (simp; done) | (simp; omega)),(by first | exact spl_yes ho hf (by omega) hc h19 | exact spl_no ho hf (by omega) hc n19),(by first | omega | (simp only [List.length_append,List.length_cons,List.length_nil]; omega))⟩),(show s.size - (i+1)<s.size - i from (by first | omega | (simp_all; omega))),?_⟩
    exact Sub.of [] (@cast (((((.string s):Value)=(.string s))∧(Sv (.int .u8 c))∧(((8:Nat)=8)∧(o.length=o.length)∧((8:Nat) ∈ ([8,999] : List Nat)))∧(Si ((f:Nat):Int))∧(Si (((i+1):Nat):Int))∧Y)∧((((9:Nat)=9)∧(Sd (.strs o))∧((8:Nat) ∈ ([8,999] : List Nat)))∧Y)∧(true=true)∧(true=true)) _ (by kernel_rfl) ⟨⟨rfl,rfl,⟨rfl,rfl,(by decide)⟩,rfl,rfl,tt⟩,⟨⟨rfl,rfl,(by decide)⟩,tt⟩,rfl,rfl⟩)
  ·intro n12
   refine W.exit (thenQ_exit (thenQ_exit (blockQ_hit ?_)))
   refine thenQ_normal ?_
   refine Kk cok tab21 hnt [34] [4] (⟨[(4,.own 34 (List.length (o++([s.extract f s.size]))))],[(34,⟨9,.row (.strs (o++([s.extract f s.size])))⟩)],[34,33,8,999]⟩)
    (Y∧Y∧Y∧(Y∧Y∧Y∧(0≤((f:Nat):Int))∧(((f:Nat):Int)≤((s.size:Nat):Int))∧(((s.size:Nat):Int)≤((s.size:Nat):Int)))∧(Y∧Y)∧((Y∧(o.length=o.length))∧Y∧((o.length+(List.length ([s.extract f s.size]))) * 16≤140737488355328))∧Y∧Y)
    ⟨tt,tt,tt,⟨tt,tt,tt,(by omega),(by omega),(by omega)⟩,⟨tt,tt⟩,⟨⟨tt,rfl⟩,tt,(by (try simp only [List.length_append,List.length_cons,List.length_nil,List.length_set]); omega)⟩,tt,tt⟩ ?_
   refine W.ret ?_
   exact endQ_rows [(0,34)] (.own 34 (List.length (o++([s.extract f s.size])))) (by kernel_rfl) (@cast (((34:Nat)=34)∧((List.length (o++([s.extract f s.size])))=(List.length (splitB8 c s)))∧((0:Nat) ∈ ([0] : List Nat))) _ (by kernel_rfl) ⟨rfl,(by first | rfl | omega | assumption | (symm; assumption) | (exact congrArg List.length (by exact spl_end ho (by omega))) | (exact spl_end ho (by omega); done) | simp | simp_all),(by decide)⟩) (@cast ((((9:Nat)=9)∧((.strs (o++([s.extract f s.size])):Dat)=.strs (splitB8 c s))∧((0:Nat) ∈ ([0] : List Nat)))∧Y) _ (by kernel_rfl) ⟨⟨rfl,(congrArg Dat.strs (by exact spl_end ho (by omega))),(by decide)⟩,tt⟩) (by kernel_rfl)
theorem ent21 : Entr prog 21 := ⟨_,func21,rfl,by decide⟩
end Go.Proofs.Tryz

set_option linter.unusedSimpArgs false
set_option linter.unusedVariables false
namespace Go.Proofs.Tryz
open Go.Ab Go.RowKit
def out24 : Bool→ATy [.int]→AV × List (TypeId × Dat) × Prop := fun _ (n,_)=>(.v (.string (numB n)),[],(-1000000≤n∧n≤1000000))
def mu24 : ATy [.int]→Nat := fun (n,_)=>(max (2 * n) (1 - 2 * n)).toNat
def fs24 : FnS := fnS [.o] [.int] out24
abbrev fsN24 (n:Nat) : FnS := fnS [.o] [.int] (lim out24 mu24 n)
theorem ent24 : Entr prog 24 := ⟨_,func24,rfl,by decide⟩
abbrev T24 (nn:Nat) : Tab := lk [(24,fsN24 nn)]
theorem tab24 {nn : Nat} (ih : FnOK prog 24 (fsN24 nn)) : TabOK prog (T24 nn) := (TabOK.cons ih ent24 TabOK.nil)
theorem okS24 (nn:Nat) (ih : FnOK prog 24 (fsN24 nn)) : FnOK prog 24 (fsN24 (nn+1)) := by
 refine FnOK.mk cok func24 rfl rfl rfl ?_
 rintro fl ⟨(n:Int),_⟩ hpre F hnt0 _
 have hnt : F.nt=22 := hnt0.trans ntmps24
 obtain ⟨hpre,hmu⟩ := hpre
 replace hmu : (max (2 * n) (1 - 2 * n)).toNat<nn+1 := hmu
 replace hpre : (-1000000≤n∧n≤1000000) := hpre
 have hn := hpre
 refine W.to (⟨[(0,.i n)],[],[999]⟩) rfl ?_
 have hd1 : 0≤n→Int.tdiv n 10=n / 10 := fun h=>Int.tdiv_eq_ediv_of_nonneg h
 have hd2 : 0≤n→Int.tmod n 10=n % 10 := fun h=>Int.tmod_eq_emod_of_nonneg h
 have sn := numB_size (0 - n)
 have sd := numB_size (Int.tdiv n 10)
 have sm := numB_size (Int.tmod n 10)
 refine Kk cok (tab24 ih) hnt [] [0] (⟨[(0,.i n)],[],[999]⟩)
  (Y∧Y)
  ⟨tt,tt⟩ ?_
 refine W.seq ?_
 refine Kk cok (tab24 ih) hnt [] [0,4] (⟨[(0,.i n),(4,.b (decide (n<(0:Int))))],[],[999]⟩)
  (Y∧(Y∧Y∧Y)∧Y)
  ⟨tt,⟨tt,tt,tt⟩,tt⟩ ?_
 refine W.ifP (n<(0:Int)) (.b (decide (n<(0:Int)))) (by kernel_rfl) rfl trivial ?_ ?_
 ·intro h4
  refine Kk cok (tab24 ih) hnt [] [2] (⟨[(2,.v (.string ((⟨#[45]⟩:ByteArray)++(numB (0 - n)))))],[],[999]⟩)
   (Y∧(Y∧(Fits .i64 (0 - n)))∧(Y∧(Y∧Y)∧(-1000000≤(0 - n)∧(0 - n)≤1000000)∧((max (2 * (0 - n)) (1 - 2 * (0 - n))).toNat<nn))∧(Y∧Y∧((⟨#[45]⟩:ByteArray).size+(numB (0 - n)).size≤9223372036854775807))∧Y∧Y)
   ⟨tt,⟨tt,(by exact fits_i64 (by omega) (by omega))⟩,⟨tt,⟨tt,tt⟩,(by omega),(by omega)⟩,⟨tt,tt,(by (try simp only [ByteArray.size_append,ByteArray.size_extract,sz1,sz2,sz3,sz10]); omega)⟩,tt,tt⟩ ?_
  refine W.ret (thenQ_ret ?_)
  exact endQ_ret (.v (.string ((⟨#[45]⟩:ByteArray)++(numB (0 - n))))) (by kernel_rfl) (@cast (((.string ((⟨#[45]⟩:ByteArray)++(numB (0 - n)))):Value)=(.string (numB n))) _ (by kernel_rfl) (congrArg Value.string (by exact numB_neg h4)))
 ·intro n4
  refine W.skip (thenQ_normal ?_)
  refine W.seq ?_
  refine Kk cok (tab24 ih) hnt [] [0,10] (⟨[(0,.i n),(10,.b (decide (n<(10:Int))))],[],[999]⟩)
   (Y∧(Y∧Y∧Y)∧Y)
   ⟨tt,⟨tt,tt,tt⟩,tt⟩ ?_
  refine W.ifP (n<(10:Int)) (.b (decide (n<(10:Int)))) (by kernel_rfl) rfl trivial ?_ ?_
  ·intro h10
   refine Kk cok (tab24 ih) hnt [] [2] (⟨[(2,.v (.string ((⟨#[48,49,50,51,52,53,54,55,56,57]⟩:ByteArray).extract (Int.toNat n) (Int.toNat (n+(1:Int))))))],[],[999]⟩)
    (Y∧Y∧(Y∧Y∧(Fits .i64 (n+(1:Int))))∧(Y∧Y∧Y∧(0≤n)∧(n≤(n+(1:Int)))∧((n+(1:Int))≤((((⟨#[48,49,50,51,52,53,54,55,56,57]⟩:ByteArray).size):Nat):Int)))∧Y∧Y)
    ⟨tt,tt,⟨tt,tt,(by exact fits_i64 (by omega) (by omega))⟩,⟨tt,tt,tt,(by omega),(by omega),(by (try simp only [ByteArray.size_append,ByteArray.size_extract,sz1,sz2,sz3,sz10]); omega)⟩,tt,tt⟩ ?_
   refine W.ret (thenQ_ret ?_)
   exact endQ_ret (.v (.string ((⟨#[48,49,50,51,52,53,54,55,56,57]⟩:ByteArray).extract (Int.toNat n) (Int.toNat (n+(1:Int)))))) (by kernel_rfl) (@cast (((.string ((⟨#[48,49,50,51,52,53,54,55,56,57]⟩:ByteArray).extract (Int.toNat n) (Int.toNat (n+(1:Int))))):Value)=(.string (numB n))) _ (by kernel_rfl) (congrArg Value.string (by exact numB_one n4 h10)))
  ·intro n10
   refine W.skip (thenQ_normal ?_)
   refine Kk cok (tab24 ih) hnt [] [2] (⟨[(2,.v (.string ((numB (Int.tdiv n (10:Int)))++(numB (Int.tmod n (10:Int))))))],[],[999]⟩)
    (Y∧(Y∧Y∧((10:Int)≠0)∧(Fits .i64 (Int.tdiv n (10:Int))))∧(Y∧(Y∧Y)∧(-1000000≤(Int.tdiv n (10:Int))∧(Int.tdiv n (10:Int))≤1000000)∧((max (2 * (Int.tdiv n (10:Int))) (1 - 2 * (Int.tdiv n (10:Int)))).toNat<nn))∧Y∧(Y∧Y∧((10:Int)≠0))∧(Y∧(Y∧Y)∧(-1000000≤(Int.tmod n (10:Int))∧(Int.tmod n (10:Int))≤1000000)∧((max (2 * (Int.tmod n (10:Int))) (1 - 2 * (Int.tmod n (10:Int)))).toNat<nn))∧(Y∧Y∧((numB (Int.tdiv n (10:Int))).size+(numB (Int.tmod n (10:Int))).size≤9223372036854775807))∧Y∧Y)
    ⟨tt,⟨tt,tt,(by decide),(by rw [hd1 (by omega)]; exact fits_i64 (by omega) (by omega))⟩,⟨tt,⟨tt,tt⟩,(by have h8 := hd1 (by omega); omega),(by have h8 := hd1 (by omega); omega)⟩,tt,⟨tt,tt,(by decide)⟩,⟨tt,⟨tt,tt⟩,(by have h8 := hd2 (by omega); omega),(by have h8 := hd2 (by omega); omega)⟩,⟨tt,tt,(by (try simp only [ByteArray.size_append,ByteArray.size_extract,sz1,sz2,sz3,sz10]); omega)⟩,tt,tt⟩ ?_
   refine W.ret ?_
   exact endQ_ret (.v (.string ((numB (Int.tdiv n (10:Int)))++(numB (Int.tmod n (10:Int)))))) (by kernel_rfl) (@cast (((.string ((numB (Int.tdiv n (10:Int)))++(numB (Int.tmod n (10:Int))))):Value)=(.string (numB n))) _ (by kernel_rfl) (congrArg Value.string (by exact numB_two n4 n10)))
theorem ok24 : FnOK prog 24 fs24 := FnOK.rec' okS24
end Go.Proofs.Tryz

set_option linter.unusedSimpArgs false
set_option linter.unusedVariables false
namespace Go.Proofs.Tryz
open Go.Ab Go.RowKit
def fs63 : FnS := fnS [.o] [.str] (fun _ (s,_)=>(.i (readNum s.data.toList),[],(s.size≤2000000)))
abbrev T63 : Tab := lk [(24,fs24)]
theorem tab63 : TabOK prog T63 := (TabOK.cons ok24 ent24 TabOK.nil)
theorem ok63 : FnOK prog 63 fs63 := by
 refine FnOK.mk cok func63 rfl rfl rfl ?_
 rintro fl ⟨(s:ByteArray),_⟩ hpre F hnt0 _
 have hnt : F.nt=42 := hnt0.trans ntmps63
 replace hpre : (s.size≤2000000) := hpre
 have hz := hpre
 refine W.to (⟨[(0,.v (.string s))],[],[999]⟩) rfl ?_
 have hu : ∀ i : Nat,((UInt8.toNat (List.getD s.data.toList i 0):Nat):Int)≤255 := fun i=>by have := (List.getD s.data.toList i 0).toNat_lt; omega
 refine Kk cok tab63 hnt [] [0] (⟨[(0,.v (.string s))],[],[999]⟩)
  (Y∧Y)
  ⟨tt,tt⟩ ?_
 refine Kk cok tab63 hnt [] [0,3] (⟨[(0,.v (.string s)),(3,.i (0:Int))],[],[999]⟩)
  (Y∧Y)
  ⟨tt,tt⟩ ?_
 refine W.seq ?_
 refine Kk cok tab63 hnt [] [0,3,4] (⟨[(0,.v (.string s)),(3,.i (0:Int)),(4,.i (0:Int))],[],[999]⟩)
  (Y∧Y)
  ⟨tt,tt⟩ ?_
 refine W.block ?_
 refine W.loop (ι := Nat × Int) (fun (x : Nat × Int)=>match x with | (i,n)=>(⟨[(0,.v (.string s)),(3,.i n),(4,.i ((i:Nat):Int))],[],[999]⟩:St))
  (fun (x : Nat × Int)=>match x with | (i,n)=>(i≤s.size)∧(0≤n∧n≤100000)∧(rnLoop s.data.toList 0=rnLoop (s.data.toList.drop i) n.toNat))
  (fun (x : Nat × Int)=>match x with | (i,n)=>(s.size - i:Nat)) (0,(0:Int)) ?_ ?_ ?_
 ·exact (show (0≤s.size)∧(0≤(0:Int)∧(0:Int)≤100000)∧(rnLoop s.data.toList 0=rnLoop (s.data.toList.drop 0) (0:Int).toNat) from ⟨(by first | assumption | omega | rfl | (intro _ hjj; omega) | (simp; done) | (simp; omega)),(by omega),(by rfl)⟩)
 ·exact Sub.of [] (@cast (((((.string s):Value)=(.string s))∧(Si (0:Int))∧((.int .i64 (0:Int):Value)=.int .i64 ((0:Nat):Int))∧Y)∧Y∧(true=true)∧(true=true)) _ (by kernel_rfl) ⟨⟨rfl,rfl,(congrArg (Value.int .i64) (by first | rfl | omega | assumption | simp | simp_all)),tt⟩,tt,rfl,rfl⟩)
 ·rintro ⟨i,n⟩ hC0
  have hC : (i≤s.size)∧(0≤n∧n≤100000)∧(rnLoop s.data.toList 0=rnLoop (s.data.toList.drop i) n.toNat) := hC0
  clear hC0
  obtain ⟨hi,hn,hr⟩ := hC
  refine W.to (⟨[(0,.v (.string s)),(3,.i n),(4,.i ((i:Nat):Int))],[],[999]⟩) rfl ?_
  have hu1 := hu i
  refine W.seq ?_
  refine Kk cok tab63 hnt [] [0,3,4,8] (⟨[(0,.v (.string s)),(3,.i n),(4,.i ((i:Nat):Int)),(8,.b (decide (((i:Nat):Int)<((s.size:Nat):Int))))],[],[999]⟩)
   (Y∧Y∧Y∧(Y∧Y∧Y)∧Y)
   ⟨tt,tt,tt,⟨tt,tt,tt⟩,tt⟩ ?_
  refine W.ifP (((i:Nat):Int)<((s.size:Nat):Int)) (.b (decide (((i:Nat):Int)<((s.size:Nat):Int)))) (by kernel_rfl) rfl trivial ?_ ?_
  ·intro h8
   refine W.skip (thenQ_normal ?_)
   refine W.seq ?_
   refine W.block ?_
   refine W.seq ?_
   refine Kk cok tab63 hnt [] [0,3,4,24] (⟨[(0,.v (.string s)),(3,.i n),(4,.i ((i:Nat):Int)),(24,.b (((decide ((((UInt8.toNat (List.getD s.data.toList i 0)):Nat):Int)<(48:Int))) || (decide ((57:Int)<(((UInt8.toNat (List.getD s.data.toList i 0)):Nat):Int)))) || (decide ((1000:Int)<n))))],[],[999]⟩)
    ((fun (Z1:Bool)=>((fun (Z2:Bool)=>(Y∧(Y∧((Y∧(Y∧((0≤((i:Nat):Int))∧(((i:Nat):Int)<((s.size:Nat):Int)))))∧((Y∧(Y∧Y))∧(Y∧(((!Z1)=true→Y)∧(((!Z1)=true→Y)∧(((!Z1)=true→((((!Z1)=true)∧Y)∧((((!Z1)=true)∧Y)∧((0≤((i:Nat):Int))∧(((i:Nat):Int)<((s.size:Nat):Int))))))∧(((!Z1)=true→((((!Z1)=true)∧Y)∧(Y∧Y)))∧((Y∧((Z1=true→Y)∧(Z1=false→((!Z1)=true)∧Y)))∧(Y∧(((!Z2)=true→Y)∧(((!Z2)=true→((((!Z2)=true)∧Y)∧(Y∧Y)))∧((Y∧((Z2=true→Y)∧(Z2=false→((!Z2)=true)∧Y)))∧Y))))))))))))))) (Z1 || (decide ((57:Int)<(((UInt8.toNat (List.getD s.data.toList i 0)):Nat):Int)))))) (decide ((((UInt8.toNat (List.getD s.data.toList i 0)):Nat):Int)<(48:Int))))
    ⟨tt,tt,⟨tt,tt,(by omega),(by omega)⟩,⟨tt,tt,tt⟩,tt,(fun _=>trivial),(fun _=>trivial),(fun hG=>⟨⟨hG,tt⟩,⟨hG,tt⟩,(by have hg0 : ¬ ((((UInt8.toNat (List.getD s.data.toList i 0)):Nat):Int)<(48:Int)) := of_decide_eq_false (not_f hG); omega),(by have hg0 : ¬ ((((UInt8.toNat (List.getD s.data.toList i 0)):Nat):Int)<(48:Int)) := of_decide_eq_false (not_f hG); omega)⟩),(fun hG=>⟨⟨hG,tt⟩,tt,tt⟩),⟨tt,(fun _=>trivial),(fun hp=>⟨(not_t hp),tt⟩)⟩,tt,(fun _=>trivial),(fun hG=>⟨⟨hG,tt⟩,tt,tt⟩),⟨tt,(fun _=>trivial),(fun hp=>⟨(not_t hp),tt⟩)⟩,tt⟩ ?_
   refine W.if' (((decide ((((UInt8.toNat (List.getD s.data.toList i 0)):Nat):Int)<(48:Int))) || (decide ((57:Int)<(((UInt8.toNat (List.getD s.data.toList i 0)):Nat):Int)))) || (decide ((1000:Int)<n))) (.b (((decide ((((UInt8.toNat (List.getD s.data.toList i 0)):Nat):Int)<(48:Int))) || (decide ((57:Int)<(((UInt8.toNat (List.getD s.data.toList i 0)):Nat):Int)))) || (decide ((1000:Int)<n)))) (by kernel_rfl) rfl trivial ?_ ?_
   ·intro h24
    refine Kk cok tab63 hnt [] [2] (⟨[(2,.i (-2:Int))],[],[999]⟩)
     (Y∧Y)
     ⟨tt,tt⟩ ?_
    refine W.ret (thenQ_ret (blockQ_ret (thenQ_ret (thenQ_ret (blockQ_ret (thenQ_ret ?_))))))
    exact endQ_ret (.i (-2:Int)) (by kernel_rfl) (@cast ((.int .i64 (-2:Int):Value)=.int .i64 (readNum s.data.toList)) _ (by kernel_rfl) (congrArg (Value.int .i64) (by exact rn_bad (by rw [← sz]; omega) hn.1 h24 hr)))
   ·intro n24
    have n24_0 : ¬ ((((UInt8.toNat (List.getD s.data.toList i 0)):Nat):Int)<(48:Int)) := of_decide_eq_false (or_l (or_l n24))
    have n24_1 : ¬ ((57:Int)<(((UInt8.toNat (List.getD s.data.toList i 0)):Nat):Int)) := of_decide_eq_false (or_r (or_l n24))
    have n24_2 : ¬ ((1000:Int)<n) := of_decide_eq_false (or_r n24)
    have h9 := rn_small n24
    refine W.skip (thenQ_normal ?_)
    refine Lk cok tab63 hnt [] (⟨[(0,.v (.string s)),(3,.i (((10:Int) * n)+((((UInt8.toNat (List.getD s.data.toList i 0)):Nat):Int) - (48:Int)))),(4,.i ((i:Nat):Int)),(24,.b (((decide ((((UInt8.toNat (List.getD s.data.toList i 0)):Nat):Int)<(48:Int))) || (decide ((57:Int)<(((UInt8.toNat (List.getD s.data.toList i 0)):Nat):Int)))) || (decide ((1000:Int)<n)))),(25,.i n),(26,.i ((10:Int) * n)),(27,.v (.string s)),(28,.i ((i:Nat):Int)),(29,.v (.int .u8 (((UInt8.toNat (List.getD s.data.toList i 0)):Nat):Int))),(30,.v (.int .u8 ((((UInt8.toNat (List.getD s.data.toList i 0)):Nat):Int) - (48:Int)))),(31,.i ((((UInt8.toNat (List.getD s.data.toList i 0)):Nat):Int) - (48:Int))),(32,.i (((10:Int) * n)+((((UInt8.toNat (List.getD s.data.toList i 0)):Nat):Int) - (48:Int))))],[],[999]⟩)
     (Y∧(Y∧Y∧(Fits .i64 ((10:Int) * n)))∧Y∧Y∧(Y∧Y∧(0≤((i:Nat):Int))∧(((i:Nat):Int)<((s.size:Nat):Int)))∧(Y∧Y∧(Fits .u8 ((((UInt8.toNat (List.getD s.data.toList i 0)):Nat):Int) - (48:Int))))∧(Y∧(Fits .i64 ((((UInt8.toNat (List.getD s.data.toList i 0)):Nat):Int) - (48:Int))))∧(Y∧Y∧(Fits .i64 (((10:Int) * n)+((((UInt8.toNat (List.getD s.data.toList i 0)):Nat):Int) - (48:Int)))))∧Y∧Y)
     ⟨tt,⟨tt,tt,(by exact fits_i64 (by omega) (by omega))⟩,tt,tt,⟨tt,tt,(by omega),(by omega)⟩,⟨tt,tt,(by exact fits_u8 (by omega) (by omega))⟩,⟨tt,(by exact fits_i64 (by omega) (by omega))⟩,⟨tt,tt,(by exact fits_i64 (by omega) (by omega))⟩,tt,tt⟩ ?_
    refine blockQ_normal (thenQ_normal ?_)
    refine Lk cok tab63 hnt [] (⟨[(0,.v (.string s)),(3,.i (((10:Int) * n)+((((UInt8.toNat (List.getD s.data.toList i 0)):Nat):Int) - (48:Int)))),(4,.i (((i+1):Nat):Int)),(9,.i ((i:Nat):Int)),(10,.i (((i+1):Nat):Int)),(24,.b (((decide ((((UInt8.toNat (List.getD s.data.toList i 0)):Nat):Int)<(48:Int))) || (decide ((57:Int)<(((UInt8.toNat (List.getD s.data.toList i 0)):Nat):Int)))) || (decide ((1000:Int)<n)))),(25,.i n),(26,.i ((10:Int) * n)),(27,.v (.string s)),(28,.i ((i:Nat):Int)),(29,.v (.int .u8 (((UInt8.toNat (List.getD s.data.toList i 0)):Nat):Int))),(30,.v (.int .u8 ((((UInt8.toNat (List.getD s.data.toList i 0)):Nat):Int) - (48:Int)))),(31,.i ((((UInt8.toNat (List.getD s.data.toList i 0)):Nat):Int) - (48:Int))),(32,.i (((10:Int) * n)+((((UInt8.toNat (List.getD s.data.toList i 0)):Nat):Int) - (48:Int))))],[],[999]⟩)
     (Y∧(Y∧Y∧(Fits .i64 (((i+1):Nat):Int)))∧Y∧Y)
     ⟨tt,⟨tt,tt,(by exact fits_i64 (by omega) (by omega))⟩,tt,tt⟩ ?_
    refine thenQ_normal ?_
    refine ⟨((i+1),(((10:Int) * n)+((((UInt8.toNat (List.getD s.data.toList i 0)):Nat):Int) - (48:Int)))),(show ((i+1)≤s.size)∧(0≤(((10:Int) * n)+((((UInt8.toNat (List.getD s.data.toList i 0)):Nat):Int) - (48:Int)))∧(((10:Int) * n)+((((UInt8.toNat (List.getD s.data.toList i 0)):Nat):Int) - (48:Int)))≤100000)∧(rnLoop s.data.toList 0=rnLoop (s.data.toList.drop (i+1)) (((10:Int) * n)+((((UInt8.toNat (List.getD s.data.toList i 0)):Nat):Int) - (48:Int))).toNat) from ⟨(by first | assumption | omega | rfl | (intro _ hjj; omega) | (simp; done) | (simp; omega)),(by have h9 := rn_small n24; omega),(by exact rn_step (by rw [← sz]; omega) hn.1 n24 hr)⟩),(show s.size - (i+1)<s.size - i from (by first | omega | (simp_all; omega))),?_⟩
    exact Sub.of [] (@cast (((((.string s):Value)=(.string s))∧(Si (((10:Int) * n)+((((UInt8.toNat (List.getD s.data.toList i 0)):Nat):Int) - (48:Int))))∧(Si (((i+1):Nat):Int))∧Y)∧Y∧(true=true)∧(true=true)) _ (by kernel_rfl) ⟨⟨rfl,rfl,rfl,tt⟩,tt,rfl,rfl⟩)
  ·intro n8
   refine W.exit (thenQ_exit (thenQ_exit (blockQ_hit ?_)))
   refine thenQ_normal ?_
   refine W.seq ?_
   refine Kk cok tab63 hnt [] [3,40] (⟨[(3,.i n),(40,.b ((eqS s nEmpty) || (!(eqS (numB n) s))))],[],[999]⟩)
    ((fun (Z1:Bool)=>(Y∧((Y∧(Y∧Y))∧(Y∧(((!Z1)=true→Y)∧(((!Z1)=true→(Y∧(((((!Z1)=true)∧Y)∧Y)∧(-1000000≤n∧n≤1000000))))∧(((!Z1)=true→Y)∧(((!Z1)=true→((((!Z1)=true)∧Y)∧((((!Z1)=true)∧Y)∧Y)))∧((Y∧((Z1=true→Y)∧(Z1=false→((!Z1)=true)∧Y)))∧Y))))))))) (eqS s nEmpty))
    ⟨tt,⟨tt,tt,tt⟩,tt,(fun _=>trivial),(fun hG=>⟨tt,⟨⟨hG,tt⟩,tt⟩,(by omega)⟩),(fun _=>trivial),(fun hG=>⟨⟨hG,tt⟩,⟨hG,tt⟩,tt⟩),⟨tt,(fun _=>trivial),(fun hp=>⟨(not_t hp),tt⟩)⟩,tt⟩ ?_
   refine W.if' ((eqS s nEmpty) || (!(eqS (numB n) s))) (.b ((eqS s nEmpty) || (!(eqS (numB n) s)))) (by kernel_rfl) rfl trivial ?_ ?_
   ·intro h40
    refine Kk cok tab63 hnt [] [2] (⟨[(2,.i (-2:Int))],[],[999]⟩)
     (Y∧Y)
     ⟨tt,tt⟩ ?_
    refine W.ret (thenQ_ret ?_)
    exact endQ_ret (.i (-2:Int)) (by kernel_rfl) (@cast ((.int .i64 (-2:Int):Value)=.int .i64 (readNum s.data.toList)) _ (by kernel_rfl) (congrArg (Value.int .i64) (by rw [rn_end (by omega) hn.1 hr h40]; rfl)))
   ·intro n40
    refine W.skip (thenQ_normal ?_)
    refine Kk cok tab63 hnt [] [2] (⟨[(2,.i n)],[],[999]⟩)
     (Y∧Y∧Y)
     ⟨tt,tt,tt⟩ ?_
    refine W.ret ?_
    exact endQ_ret (.i n) (by kernel_rfl) (@cast ((.int .i64 n:Value)=.int .i64 (readNum s.data.toList)) _ (by kernel_rfl) (congrArg (Value.int .i64) (by rw [rn_end (by omega) hn.1 hr n40]; rfl)))
theorem ent63 : Entr prog 63 := ⟨_,func63,rfl,by decide⟩
end Go.Proofs.Tryz
