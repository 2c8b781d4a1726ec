import Derived.Test.YtbmbdlgifplglaaGreatDoorZF4S0
import Derived.Test.YtbmbdlgifplglaaGreatDoorZF4S1
set_option maxRecDepth 100000
set_option maxHeartbeats 1000000
set_option linter.unusedSimpArgs false
set_option linter.unusedVariables false
namespace Go.Ab
theorem u8_back (b : UInt8) : (Int.toNat ((b.toNat:Nat):Int)).toUInt8=b := by simp
theorem splitN_piece {c : UInt8} : ∀ {n : Nat} {s p : List UInt8},p ∈ splitNL c n s→p.length≤s.length
 | 0,s,p,h=>by simp [splitNL] at h
 | 1,s,p,h=>by simp [splitNL] at h; simp [h]
 | n+2,s,p,h=>by
  simp only [splitNL] at h
  split at h
  ·have hl := cutL_len c s
   rcases List.mem_cons.1 h with rfl | h
   ·exact hl.1
   ·have := splitN_piece h; omega
  ·simp at h; simp [h]
theorem splitN_psz (sep s:ByteArray) (n:Int) (i:Nat) : ((splitNB sep n s).getD i default).size≤s.size := by
 unfold splitNB
 by_cases hi : i<(splitNL (sepc sep) n.toNat s.data.toList).length
 ·rw [List.getD_eq_getElem?_getD,List.getElem?_map,List.getElem?_eq_getElem hi]
  simp only [Option.map_some,Option.getD_some]
  rw [ba_size,sz]
  exact splitN_piece (List.getElem_mem hi)
 ·rw [List.getD_eq_getElem?_getD,List.getElem?_map,List.getElem?_eq_none (by omega)]
  exact Nat.zero_le _
theorem hist_le (h : List CallD) : (histB h).size≤96 := by
 unfold histB
 cases hv : validHistory h with
 | true=>rw [cond_true,ba_size]; have := hist_len h; have := valid_len hv; omega
 | false=>exact (by decide : (BA []).size≤96)
theorem rn_small {b c d : Prop} [Decidable b] [Decidable c] [Decidable d] (h : ((decide b || decide c) || decide d)=false) : ¬ b∧¬ c∧¬ d := by simpa [and_assoc] using h
abbrev rsX (w:ByteArray) : ByteArray := List.getD (splitB8 64 w) 0 default
abbrev rsT (w:ByteArray) : ByteArray := List.getD (splitB8 64 w) 1 default
abbrev rsF (w:ByteArray) : List ByteArray := splitB8 45 (rsT w)
abbrev rsV (w:ByteArray) : List ByteArray := splitB8 61 ((rsX w).extract 3 (rsX w).size)
theorem list2 {α : Type} {l : List α} (h : l.length=2) : ∃ a b,l=[a,b] := by
 match l,h with
 | [a,b],_=>exact ⟨a,b,rfl⟩
theorem len2 (c:Int) (s:ByteArray) : (splitB8 c s).length=(splitL c.toNat.toUInt8 s.data.toList).length := by unfold splitB8; simp
theorem rs_short {w : ByteArray} (h : ¬ ((splitB8 64 w).length=2∧3≤(rsX w).size)) : readS w.data.toList=badC := by
 unfold readS
 split
 ·rename_i x y z v t he
  exfalso; apply h
  have e : splitB8 64 w=[BA (x :: y :: z :: v),BA t] := by
   unfold splitB8; rw [show (Int.toNat 64).toUInt8=64 from rfl,he]; rfl
  unfold rsX
  rw [e]
  refine ⟨rfl,?_⟩
  show 3≤(BA (x :: y :: z :: v)).size
  rw [ba_size]; simp
 ·rfl
theorem rs_shape {w : ByteArray} (h1 : (splitB8 64 w).length=2) (h2 : 3≤(rsX w).size) : ∃ x y z v t,splitL 64 w.data.toList=[x :: y :: z :: v,t]∧rsX w=BA (x :: y :: z :: v)∧rsT w=BA t := by
 obtain ⟨a,t,he⟩ := list2 (by rw [len2] at h1; exact h1)
 have e : splitB8 64 w=[BA a,BA t] := by
  unfold splitB8; rw [he]; rfl
 have e1 : rsX w=BA a := by unfold rsX; rw [e]; rfl
 have e2 : rsT w=BA t := by unfold rsT; rw [e]; rfl
 rw [e1,ba_size] at h2
 match a,h2 with
 | x :: y :: z :: v,_=>exact ⟨x,y,z,v,t,he,e1,e2⟩
 | [],h=>simp at h
 | [_],h=>simp at h
 | [_,_],h=>simp at h
def rsVal (w:ByteArray) : CallD :=
 match objV ((rsX w).data.toList.getD 1 0),kindV ((rsX w).data.toList.getD 2 0) with
 | some o,some k=>⟨readNum ((rsX w).extract 0 1).data.toList,o,k,readNum (List.getD (rsV w) 0 default).data.toList,
   if List.getD (rsV w) 1 default=(⟨#[45,49]⟩:ByteArray) then -1 else readNum (List.getD (rsV w) 1 default).data.toList,readNum (List.getD (rsF w) 0 default).data.toList,readNum (List.getD (rsF w) 1 default).data.toList⟩
 | _,_=>badC
theorem rs_parts {w : ByteArray} (h1 : (splitB8 64 w).length=2) (h2 : 3≤(rsX w).size) (h : ¬ ((rsF w).length=2∧(rsV w).length=2)) : readS w.data.toList=badC := by
 obtain ⟨x,y,z,v,t,he,e1,e2⟩ := rs_shape h1 h2
 have ef : rsF w=(splitL 45 t).map BA := by unfold rsF; rw [e2]; rfl
 have ev : rsV w=(splitL 61 v).map BA := by unfold rsV; rw [e1,ba_extract,ba_size,List.take_length]; rfl
 unfold readS
 rw [he]
 simp only
 split
 ·rename_i f g a r hf ha
  exfalso; apply h
  rw [ef,ev,hf,ha]; exact ⟨rfl,rfl⟩
 ·rfl
theorem rs_main {w : ByteArray} (h1 : (splitB8 64 w).length=2) (h2 : 3≤(rsX w).size) (h3 : (rsF w).length=2) (h4 : (rsV w).length=2) : readS w.data.toList=rsVal w := by
 obtain ⟨x,y,z,v,t,he,e1,e2⟩ := rs_shape h1 h2
 have ef : rsF w=(splitL 45 t).map BA := by unfold rsF; rw [e2]; rfl
 have ev : rsV w=(splitL 61 v).map BA := by unfold rsV; rw [e1,ba_extract,ba_size,List.take_length]; rfl
 obtain ⟨f,g,hf⟩ := list2 (l := splitL 45 t) (by rw [ef,List.length_map] at h3; exact h3)
 obtain ⟨a,r,ha⟩ := list2 (l := splitL 61 v) (by rw [ev,List.length_map] at h4; exact h4)
 rw [hf] at ef
 rw [ha] at ev
 have er : (List.getD (rsV w) 1 default=(⟨#[45,49]⟩:ByteArray))↔r=[45,49] := by
  rw [ev]
  show BA r=BA [45,49]↔_
  exact ⟨ba_inj,fun e=>by rw [e]⟩
 have eo : (rsX w).data.toList.getD 1 0=y := by rw [e1]; rfl
 have ek : (rsX w).data.toList.getD 2 0=z := by rw [e1]; rfl
 have ex : ((rsX w).extract 0 1).data.toList=[x] := by rw [e1,ba_extract]; rfl
 unfold readS rsVal
 rw [he,eo,ek,ex]
 simp only [hf,ha]
 rw [ev,ef] at *
 simp only [er]
 rfl
theorem ov0 {b : UInt8} (h : ((b.toNat:Nat):Int)=120) : objV b=some 0 := by
 have : b=120 := (byte_eq (c := 120) (by decide) (by decide)).1 h
 rw [this]; rfl
theorem ov1 {b : UInt8} (h : ((b.toNat:Nat):Int)=121) : objV b=some 1 := by
 have : b=121 := (byte_eq (c := 121) (by decide) (by decide)).1 h
 rw [this]; rfl
theorem ovn {b : UInt8} (h : ¬ ((b.toNat:Nat):Int)=120) (h' : ¬ ((b.toNat:Nat):Int)=121) : objV b=none := by
 unfold objV
 rw [if_neg (fun e=>h (by rw [e]; rfl)),if_neg (fun e=>h' (by rw [e]; rfl))]
theorem kv0 {b : UInt8} (h : ((b.toNat:Nat):Int)=112) : kindV b=some 0 := by
 have : b=112 := (byte_eq (c := 112) (by decide) (by decide)).1 h
 rw [this]; rfl
theorem kv1 {b : UInt8} (h : ((b.toNat:Nat):Int)=116) : kindV b=some 1 := by
 have : b=116 := (byte_eq (c := 116) (by decide) (by decide)).1 h
 rw [this]; rfl
theorem kv2 {b : UInt8} (h : ((b.toNat:Nat):Int)=108) : kindV b=some 2 := by
 have : b=108 := (byte_eq (c := 108) (by decide) (by decide)).1 h
 rw [this]; rfl
theorem kvn {b : UInt8} (h : ¬ ((b.toNat:Nat):Int)=112) (h' : ¬ ((b.toNat:Nat):Int)=116) (h2 : ¬ ((b.toNat:Nat):Int)=108) : kindV b=none := by
 unfold kindV
 rw [if_neg (fun e=>h (by rw [e]; rfl)),if_neg (fun e=>h' (by rw [e]; rfl)),if_neg (fun e=>h2 (by rw [e]; rfl))]
theorem rv_obj {w : ByteArray} (h : objV ((rsX w).data.toList.getD 1 0)=none) : badC=rsVal w := by unfold rsVal; rw [h]
theorem rv_kind {w : ByteArray} (h : kindV ((rsX w).data.toList.getD 2 0)=none) : badC=rsVal w := by
 unfold rsVal; rw [h]
 cases objV ((rsX w).data.toList.getD 1 0) <;> rfl
theorem rv_neg {w : ByteArray} {o k : Int} (ho : objV ((rsX w).data.toList.getD 1 0)=some o) (hk : kindV ((rsX w).data.toList.getD 2 0)=some k) (hr : eqS (List.getD (rsV w) 1 default) (⟨#[45,49]⟩:ByteArray)=true) :
  (⟨readNum ((rsX w).extract 0 1).data.toList,o,k,readNum (List.getD (rsV w) 0 default).data.toList,-1,readNum (List.getD (rsF w) 0 default).data.toList,readNum (List.getD (rsF w) 1 default).data.toList⟩:CallD)=rsVal w := by
 unfold rsVal; rw [ho,hk]
 simp only
 rw [if_pos (eqB_iff.1 hr)]
theorem rv_pos {w : ByteArray} {o k : Int} (ho : objV ((rsX w).data.toList.getD 1 0)=some o) (hk : kindV ((rsX w).data.toList.getD 2 0)=some k) (hr : ¬ eqS (List.getD (rsV w) 1 default) (⟨#[45,49]⟩:ByteArray)=true) :
  (⟨readNum ((rsX w).extract 0 1).data.toList,o,k,readNum (List.getD (rsV w) 0 default).data.toList,readNum (List.getD (rsV w) 1 default).data.toList,readNum (List.getD (rsF w) 0 default).data.toList,readNum (List.getD (rsF w) 1 default).data.toList⟩:CallD)=rsVal w := by
 unfold rsVal; rw [ho,hk]
 simp only
 rw [if_neg (fun e=>hr (eqB_iff.2 e))]
theorem rv_all {w : ByteArray} {o k r : Int} (ho : objV ((rsX w).data.toList.getD 1 0)=some o) (hk : kindV ((rsX w).data.toList.getD 2 0)=some k) (hr : r=bif eqS (List.getD (rsV w) 1 default) (⟨#[45,49]⟩:ByteArray) then -1 else readNum (List.getD (rsV w) 1 default).data.toList) :
  (⟨readNum ((rsX w).extract 0 1).data.toList,o,k,readNum (List.getD (rsV w) 0 default).data.toList,r,readNum (List.getD (rsF w) 0 default).data.toList,readNum (List.getD (rsF w) 1 default).data.toList⟩:CallD)=rsVal w := by
 subst hr
 cases h : eqS (List.getD (rsV w) 1 default) (⟨#[45,49]⟩:ByteArray) with
 | true=>rw [cond_true]; exact rv_neg ho hk h
 | false=>rw [cond_false]; exact rv_pos ho hk (by rw [h]; exact Bool.false_ne_true)
theorem cd_eta (a b c d e f g:Int) (x:CallD) (h : (⟨a,b,c,d,e,f,g⟩:CallD)=x) : a=x.proc∧b=x.obj∧c=x.kind∧d=x.arg∧e=x.ret∧f=x.frm∧g=x.to := by subst h; exact ⟨rfl,rfl,rfl,rfl,rfl,rfl,rfl⟩
def ofV (l : List UInt8) (p:Int) (xs : List ByteArray) : ByteArray := List.getD xs (pickV l p ((xs.length:Nat):Int)).toNat default
theorem ofV_small {l : List UInt8} {p : Int} {xs : List ByteArray} (hx : ∀ y ∈ xs,y.size≤13) : (ofV l p xs).size≤13 := by
 unfold ofV
 by_cases h : (pickV l p ((xs.length:Nat):Int)).toNat<xs.length
 ·exact hx _ (getD_mem xs default h)
 ·rw [List.getD_eq_getElem?_getD,List.getElem?_eq_none (by omega)]
  exact Nat.zero_le _
theorem ob_2 {a b M : Nat} (hb : b≤13) (h : a+13≤M) : a+b≤M := by omega
theorem ob_3 {a b c M : Nat} (hb : b≤13) (h : a+13+c≤M) : a+b+c≤M := by omega
theorem parse_law {s : ByteArray} (h : (parseI s.data.toList).2=true) : eqS (histB (parseI s.data.toList).1) s=true∧validHistory (parseI s.data.toList).1=true := by
 have hp : parseI s.data.toList=((parseI s.data.toList).1,true) := by rw [← h]
 obtain ⟨hv,he⟩ := parse_back hp
 refine ⟨?_,hv⟩
 rw [eqB_iff]
 unfold histB
 rw [hv,cond_true,he,ba_back]
end Go.Ab

set_option linter.unusedSimpArgs false
set_option linter.unusedVariables false
namespace Go.Ab
theorem orders_row {s : ByteArray} {h : List CallD} {f : Nat→Nat→Bool} {x : List Int} : ∀ (m:Nat) (o : List Int),x ∈ ordersF s h f m o→x.length=o.length+m∧∀ y ∈ x,y ∈ o ∨ (0≤y∧y<((h.length:Nat):Int))
 | 0,o,hx=>by
  unfold ordersF at hx
  cases hr : runsB s h o with
  | false=>rw [hr] at hx; simp at hx
  | true=>rw [hr] at hx; simp at hx; subst hx; exact ⟨by simp,fun y hy => .inl hy⟩
 | m+1,o,hx=>by
  unfold ordersF at hx
  rw [List.mem_flatMap] at hx
  obtain ⟨i,hi,hx⟩ := hx
  have hi' := List.mem_range.1 hi
  cases hf : freeB f h.length o i with
  | false=>rw [hf] at hx; simp at hx
  | true =>
   rw [hf,cond_true] at hx
   obtain ⟨h1,h2⟩ := orders_row m _ hx
   refine ⟨by simp at h1; omega,fun y hy => ?_⟩
   rcases h2 y hy with h3 | h3
   ·rcases List.mem_append.1 h3 with h4 | h4
    ·exact .inl h4
    ·simp at h4; subst h4; right; omega
   ·exact .inr h3
theorem by_row {s : ByteArray} {h : List CallD} {f : Nat→Nat→Bool} (hv : validHistory h=true) : ((ordersBy s h f).getD 0 []).length≤6∧∀ i,0≤((ordersBy s h f).getD 0 []).getD i 0∧((ordersBy s h f).getD 0 []).getD i 0≤6 := by
 have h6 := valid_len hv
 by_cases h0 : 0<(ordersBy s h f).length
 ·have hm := getD_mem (ordersBy s h f) [] h0
  generalize (ordersBy s h f).getD 0 []=x at hm ⊢
  unfold ordersBy at hm
  cases hg : isObject s && validHistory h with
  | false=>rw [hg] at hm; simp at hm
  | true =>
   rw [hg,cond_true] at hm
   obtain ⟨h1,h2⟩ := orders_row _ _ hm
   simp at h1
   refine ⟨by omega,fun i => ?_⟩
   by_cases hi : i<x.length
   ·rcases h2 _ (getD_mem x 0 hi) with h3 | h3
    ·simp at h3
    ·omega
   ·rw [List.getD_eq_getElem?_getD,List.getElem?_eq_none (by omega)]; simp
 ·have : ordersBy s h f=[] := List.eq_nil_of_length_eq_zero (by omega)
  rw [this]; exact ⟨by simp,fun i=>by simp⟩
abbrev tWhat : ByteArray := (⟨#[119,104,97,116]⟩:ByteArray)
abbrev tWrong : ByteArray := (⟨#[119,114,111,110,103]⟩:ByteArray)
abbrev tYes : ByteArray := (⟨#[121,101,115]⟩:ByteArray)
abbrev tNo : ByteArray := (⟨#[110,111]⟩:ByteArray)
abbrev tLin : ByteArray := (⟨#[108,105,110,101,97,114]⟩:ByteArray)
abbrev tOwn : ByteArray := (⟨#[111,119,110]⟩:ByteArray)
abbrev tQui : ByteArray := (⟨#[113,117,105,101,116]⟩:ByteArray)
abbrev tWid : ByteArray := (⟨#[119,105,100,116,104]⟩:ByteArray)
abbrev tAll : ByteArray := (⟨#[97,108,108]⟩:ByteArray)
abbrev dW (l:ByteArray) (i:Nat) : ByteArray := List.getD (splitB8 32 l) i default
abbrev dT (l:ByteArray) : ByteArray := l.extract (Int.toNat (((((dW l 0).size:Nat):Int)+(((dW l 1).size:Nat):Int))+2)) l.size
def yesNoV (b:Bool) : ByteArray := bif b then tYes else tNo
def numsUp (o : List Int) : Nat→ByteArray
 | 0=>tYes
 | i+1=>numsUp o i++((⟨#[32]⟩:ByteArray)++numB (o.getD i 0))
def kindD (w:ByteArray) : Bool := eqS w tLin || eqS w tOwn || eqS w tQui || eqS w tWid
def wrongD (w n:ByteArray) (ok:Bool) : Bool := (!ok || (eqS w tWid && !eqS n tAll)) || (!eqS w tWid && !isObject n)
def coreD (w n:ByteArray) (h : List CallD) : ByteArray :=
 bif eqS w tOwn then yesNoV (explains n h (ownF h)) else bif eqS w tQui then yesNoV (explains n h (quietF h)) else bif eqS w tWid then numB (widthS h) else
 bif decide ((ordersBy n h (aheadF h)).length=0) then tNo else numsUp ((ordersBy n h (aheadF h)).getD 0 []) ((ordersBy n h (aheadF h)).getD 0 []).length
def deskV (l:ByteArray) : ByteArray :=
 bif decide ((splitB8 32 l).length<3) || !kindD (dW l 0) then tWhat else
 bif wrongD (dW l 0) (dW l 1) (parseS (dT l).data.toList).2 then tWrong else coreD (dW l 0) (dW l 1) (parseS (dT l).data.toList).1
theorem splitN3 {c : UInt8} {s x y z : List UInt8} {r : List (List UInt8)} (h : splitL c s=x :: y :: z :: r) : splitNL c 3 s=[x,y,s.drop (x.length+y.length+2)] := by
 have hc : c ∈ s := by
  rcases Classical.em (c ∈ s) with h1 | h1
  ·exact h1
  ·rw [splitL_none h1] at h; cases h
 have h2 := split_cut hc
 rw [h] at h2
 simp only [List.cons.injEq] at h2
 obtain ⟨h3,h4⟩ := h2
 have hc2 : c ∈ (cutL c s).2 := by
  rcases Classical.em (c ∈ (cutL c s).2) with h1 | h1
  ·exact h1
  ·rw [splitL_none h1] at h4; cases h4
 have h5 := split_cut hc2
 rw [← h4] at h5
 simp only [List.cons.injEq] at h5
 obtain ⟨h6,h7⟩ := h5
 simp only [splitNL]
 rw [if_pos hc,if_pos hc2,← h3,← h6]
 have e1 := (mem_cut hc).1
 have e2 := (mem_cut hc2).1
 rw [← h3] at e1
 rw [← h6] at e2
 have e3 : s.drop (x.length+y.length+2)=(cutL c (cutL c s).2).2 := by
  conv=>lhs; rw [e1,e2]
  rw [show x++c :: (y++c :: (cutL c (cutL c s).2).2)=(x++c :: (y++[c]))++(cutL c (cutL c s).2).2 by simp]
  rw [List.drop_append_of_le_length (by simp; omega),List.drop_eq_nil_of_le (by simp; omega),List.nil_append]
 rw [e3]
theorem dk_len (l:ByteArray) : ((splitNB (⟨#[32]⟩:ByteArray) 3 l).length<3)↔((splitB8 32 l).length<3) := by
 unfold splitNB splitB8
 rw [List.length_map,List.length_map,show (3:Int).toNat=2+1 from rfl,splitN_len]
 show min 3 (splitL 32 l.data.toList).length<3↔(splitL 32 l.data.toList).length<3
 omega
theorem list3 {α : Type} {l : List α} (h : 3≤l.length) : ∃ a b c r,l=a :: b :: c :: r := by
 match l,h with
 | a :: b :: c :: r,_=>exact ⟨a,b,c,r,rfl⟩
 | [],h=>simp at h
 | [_],h=>simp at h
 | [_,_],h=>simp at h
theorem dk_words {l : ByteArray} (h : ¬ (splitB8 32 l).length<3) : splitNB (⟨#[32]⟩:ByteArray) 3 l=[dW l 0,dW l 1,dT l]∧(dW l 0).size+(dW l 1).size+2≤l.size := by
 have h' : 3≤(splitL 32 l.data.toList).length := by unfold splitB8 at h; rw [List.length_map] at h; exact Nat.le_of_not_lt h
 obtain ⟨x,y,z,r,he⟩ := list3 h'
 have e : splitB8 32 l=BA x :: BA y :: BA z :: r.map BA := by
  unfold splitB8; rw [show (Int.toNat 32).toUInt8=32 from rfl,he]; rfl
 have e0 : dW l 0=BA x := by unfold dW; rw [e]; rfl
 have e1 : dW l 1=BA y := by unfold dW; rw [e]; rfl
 have hs := splitN3 he
 have hj := join_split 32 l.data.toList
 rw [he,join_tail _ _ _ (by simp),join_tail _ _ _ (by simp)] at hj
 have hl : x.length+y.length+2≤l.data.toList.length := by rw [← hj]; simp; omega
 refine ⟨?_,by rw [e0,e1,ba_size,ba_size,sz]; exact hl⟩
 unfold splitNB dT
 rw [show sepc (⟨#[32]⟩:ByteArray)=32 from rfl,show (3:Int).toNat=3 from rfl,hs,e0,e1,ba_size,ba_size,bx,sz,List.take_length]
 rw [show (((x.length:Nat):Int)+((y.length:Nat):Int)+2).toNat=x.length+y.length+2 by omega]
 rfl
theorem dk_w0 {l : ByteArray} (h : ¬ (splitB8 32 l).length<3) : List.getD (splitNB (⟨#[32]⟩:ByteArray) 3 l) 0 default=dW l 0 := by rw [(dk_words h).1]; rfl
theorem dk_w1 {l : ByteArray} (h : ¬ (splitB8 32 l).length<3) : List.getD (splitNB (⟨#[32]⟩:ByteArray) 3 l) 1 default=dW l 1 := by rw [(dk_words h).1]; rfl
theorem dk_w2 {l : ByteArray} (h : ¬ (splitB8 32 l).length<3) : List.getD (splitNB (⟨#[32]⟩:ByteArray) 3 l) 2 default=dT l := by rw [(dk_words h).1]; rfl
theorem numB_small {n : Int} (h0 : -1≤n) (h1 : n≤30) : (numB n).size≤2 := by
 unfold numB; rw [ba_size,itoa_num h0 h1]; exact numL_len n
theorem nums_size {o : List Int} (ho : ∀ i,0≤o.getD i 0∧o.getD i 0≤6) : ∀ i,(numsUp o i).size≤3+3 * i
 | 0=>Nat.le_refl 3
 | i+1=>by
  have h1 := nums_size ho i
  have h2 := numB_small (n := o.getD i 0) (by have := ho i; omega) (by have := ho i; omega)
  simp only [numsUp,ByteArray.size_append]
  rw [sz1]; omega
theorem desk_size (l:ByteArray) : (deskV l).size≤30 := by
 have c : ∀ (b:Bool) (x y:ByteArray),x.size≤30→y.size≤30→(bif b then x else y).size≤30 := fun b x y h1 h2=>by cases b <;> assumption
 have hb : ∀ b,(yesNoV b).size≤30 := fun b=>by cases b <;> decide
 unfold deskV
 refine c _ _ _ (by decide) ?_
 cases hp : (parseS (dT l).data.toList).2 with
 | false =>
  have : wrongD (dW l 0) (dW l 1) false=true := by unfold wrongD; rfl
  rw [this,cond_true]; decide
 | true =>
  have hv : validHistory (parseS (dT l).data.toList).1=true := by
   have h1 := parse_law (s := dT l) (by rw [parse_eq]; exact hp)
   rw [← parse_eq]; exact h1.2
  refine c _ _ _ (by decide) ?_
  unfold coreD
  refine c _ _ _ (hb _) (c _ _ _ (hb _) (c _ _ _ ?_ (c _ _ _ (by decide) ?_)))
  ·have h1 := width_le (parseS (dT l).data.toList).1
   have h2 := valid_len hv
   rw [width_eq hv]
   have := numB_small (n := widthI (parseS (dT l).data.toList).1) (by omega) (by omega)
   omega
  ·have h1 := by_row (s := dW l 1) (f := aheadF (parseS (dT l).data.toList).1) hv
   have := nums_size h1.2 ((ordersBy (dW l 1) (parseS (dT l).data.toList).1 (aheadF (parseS (dT l).data.toList).1)).getD 0 []).length
   omega
def runUp (l : List ByteArray) : Nat→ByteArray
 | 0=>(⟨#[]⟩:ByteArray)
 | i+1=>runUp l i++(deskV (l.getD i default)++(⟨#[10]⟩:ByteArray))
def runV (l : List ByteArray) : ByteArray := bif decide (20<l.length) then (⟨#[]⟩:ByteArray) else runUp l l.length
theorem run_size (l : List ByteArray) : ∀ i,(runUp l i).size≤31 * i
 | 0=>Nat.le_refl 0
 | i+1=>by
  have h1 := run_size l i
  have h2 := desk_size (l.getD i default)
  simp only [runUp,ByteArray.size_append]
  rw [sz1]; omega
theorem run_all {l : List ByteArray} {i : Nat} {o : ByteArray} (h20 : ¬ (20:Int)<((l.length:Nat):Int)) (ho : o=runUp l i) (hi : i≤l.length) (hn : ¬ ((i:Nat):Int)<((l.length:Nat):Int)) : o=runV l := by
 unfold runV
 rw [decide_eq_false (by omega),ho,show i=l.length by omega]; rfl
theorem run_none {l : List ByteArray} (h20 : (20:Int)<((l.length:Nat):Int)) : (⟨#[]⟩:ByteArray)=runV l := by
 unfold runV
 rw [decide_eq_true (by omega)]; rfl
theorem eqS_ne {a b : ByteArray} (h : a.data.toList≠b.data.toList) : eqS a b=false := by
 cases e : eqS a b with
 | false=>rfl
 | true=>exact absurd (by rw [eqB_iff.1 e]) h
def hasS (l : List ByteArray) (x:ByteArray) : Bool := anyN l.length (fun i=>eqS x (l.getD i default))
theorem has_kind (w:ByteArray) : hasS [tLin,tOwn,tQui,tWid] w=kindD w := by
 unfold hasS kindD
 have : ∀ p : Nat→Bool,anyN 4 p=(((p 0 || p 1) || p 2) || p 3) := fun p=>by
  show (List.range 4).any p=_
  rw [show List.range 4=[0,1,2,3] from rfl]
  simp [Bool.or_assoc]
 exact this _
theorem core_own {w n : ByteArray} {h : List CallD} (e : eqS w tOwn=true) : coreD w n h=yesNoV (explains n h (ownF h)) := by unfold coreD; rw [e]; rfl
theorem core_qui {w n : ByteArray} {h : List CallD} (e : eqS w tQui=true) : coreD w n h=yesNoV (explains n h (quietF h)) := by
 unfold coreD; rw [show eqS w tOwn=false by rw [eqB_iff.1 e]; exact eqS_ne (by decide),e]; rfl
theorem core_wid {w n : ByteArray} {h : List CallD} (e : eqS w tWid=true) : coreD w n h=numB (widthS h) := by
 unfold coreD; rw [show eqS w tOwn=false by rw [eqB_iff.1 e]; exact eqS_ne (by decide),show eqS w tQui=false by rw [eqB_iff.1 e]; exact eqS_ne (by decide),e]; rfl
theorem core_lin {w n : ByteArray} {h : List CallD} (e1 : eqS w tOwn=false) (e2 : eqS w tQui=false) (e3 : eqS w tWid=false) : coreD w n h=bif decide ((ordersBy n h (aheadF h)).length=0) then tNo else numsUp ((ordersBy n h (aheadF h)).getD 0 []) ((ordersBy n h (aheadF h)).getD 0 []).length := by
 unfold coreD; rw [e1,e2,e3]; rfl
theorem core_lin' {w n : ByteArray} {h : List CallD} (e : eqS w tLin=true) : coreD w n h=bif decide ((ordersBy n h (aheadF h)).length=0) then tNo else numsUp ((ordersBy n h (aheadF h)).getD 0 []) ((ordersBy n h (aheadF h)).getD 0 []).length :=
 core_lin (by rw [eqB_iff.1 e]; exact eqS_ne (by decide)) (by rw [eqB_iff.1 e]; exact eqS_ne (by decide)) (by rw [eqB_iff.1 e]; exact eqS_ne (by decide))
theorem kind_qui {w : ByteArray} (hk : kindD w=true) (e1 : eqS w tWid=false) (e2 : eqS w tLin=false) (e3 : eqS w tOwn=false) : eqS w tQui=true := by
 unfold kindD at hk; rw [e1,e2,e3] at hk; simpa using hk
theorem dk_short {l : ByteArray} (h : (((splitB8 32 l).length:Nat):Int)<3) : tWhat=deskV l := by
 unfold deskV; rw [decide_eq_true (p := (splitB8 32 l).length<3) (by omega)]; rfl
theorem dk_kind {l : ByteArray} (h : kindD (dW l 0)=false) : tWhat=deskV l := by
 unfold deskV; rw [h]; simp
theorem dk_on {l : ByteArray} (h : ¬ (((splitB8 32 l).length:Nat):Int)<3) (hk : kindD (dW l 0)=true) : deskV l=bif wrongD (dW l 0) (dW l 1) (parseS (dT l).data.toList).2 then tWrong else coreD (dW l 0) (dW l 1) (parseS (dT l).data.toList).1 := by
 unfold deskV; rw [decide_eq_false (p := (splitB8 32 l).length<3) (by omega),hk,Bool.not_true,Bool.or_false,cond_false]
theorem ps_snd (s : List UInt8) : (parseS s).2=validHistory (outS s) := by unfold parseS; split <;> simp_all
theorem ps_fst {s : List UInt8} (h : validHistory (outS s)=true) : (parseS s).1=outS s := by unfold parseS; rw [if_pos h]
theorem wid_eq {h : List CallD} (hv : validHistory h=true) : widthOf h=widthS h := by unfold widthOf; rw [hv,width_eq hv]; rfl
theorem wid_bnd {h : List CallD} (hv : validHistory h=true) : 0≤widthS h∧widthS h≤6 := by
 have := width_le h; have := valid_len hv; rw [width_eq hv]; omega
theorem parse_valid {s : List UInt8} (h : (parseI s).2=true) : validHistory (parseI s).1=true := by
 have := parse_law (s := BA s) (by rw [ba_data]; exact h)
 rw [ba_data] at this; exact this.2
end Go.Ab
namespace Go.Ab
end Go.Ab

namespace Go.Ab
def nlC (l : List UInt8) : Nat := l.countP (fun b=>b == 10)
def nlUp (s:ByteArray) (i:Nat) : Nat := nlC (s.data.toList.take i)
theorem nlC_app (a b : List UInt8) : nlC (a++b)=nlC a+nlC b := by unfold nlC; exact List.countP_append
theorem nlUp_zero (s:ByteArray) : nlUp s 0=0 := by simp [nlUp,nlC]
theorem nlUp_next {s : ByteArray} {i : Nat} (hi : i<s.size) : nlUp s (i+1)=nlUp s i+(if s.data.toList.getD i 0 == 10 then 1 else 0) := by
 have hl : i<s.data.toList.length := by rw [← sz]; exact hi
 unfold nlUp
 rw [List.take_succ_eq_append_getElem hl,nlC_app]
 have e : s.data.toList.getD i 0=s.data.toList[i] := by rw [List.getD_eq_getElem?_getD,List.getElem?_eq_getElem hl]; rfl
 rw [e]
 unfold nlC
 rw [List.countP_singleton]
theorem nlUp_yes {s : ByteArray} {i : Nat} (hi : i<s.size) (h : ((UInt8.toNat (s.data.toList.getD i 0):Nat):Int)=10) : nlUp s (i+1)=nlUp s i+1 := by
 rw [nlUp_next hi,if_pos]
 have : s.data.toList.getD i 0=10 := UInt8.toNat_inj.1 (by have e : (10 : UInt8).toNat=10 := rfl; omega)
 rw [this]; rfl
theorem nlUp_no {s : ByteArray} {i : Nat} (hi : i<s.size) (h : ¬ ((UInt8.toNat (s.data.toList.getD i 0):Nat):Int)=10) : nlUp s (i+1)=nlUp s i := by
 rw [nlUp_next hi]
 split
 ·rename_i he
  have he := eq_of_beq he
  rw [he] at h; exact absurd rfl h
 ·rfl
theorem nlUp_le (s:ByteArray) (i:Nat) : nlUp s i≤i := by
 unfold nlUp nlC
 exact Nat.le_trans List.countP_le_length (by rw [List.length_take]; omega)
theorem nlUp_all {s : ByteArray} {i : Nat} (hi : i≤s.size) (hn : ¬ ((i:Nat):Int)<((s.size:Nat):Int)) : nlUp s i=nlC s.data.toList := by
 unfold nlUp
 rw [List.take_of_length_le (by rw [← sz]; omega)]
abbrev noNL (s:ByteArray) : Prop := nlC s.data.toList=0
theorem ap_list (a b:ByteArray) : (a++b).data.toList=a.data.toList++b.data.toList := by simp
theorem noNL_app {a b : ByteArray} (ha : noNL a) (hb : noNL b) : noNL (a++b) := by
 unfold noNL at *
 rw [ap_list,nlC_app,ha,hb]
theorem num_noNL {n : Int} (h0 : -1≤n) (h1 : n≤30) : noNL (numB n) := by
 have : ∀ k : Nat,k<32→nlC (numL (((k:Nat):Int) - 1))=0 := by decide
 unfold noNL numB
 rw [itoa_num h0 h1]
 have h2 := this (n+1).toNat (by omega)
 rw [show (((n+1).toNat:Nat):Int) - 1=n by omega] at h2
 simpa [BA] using h2
theorem nums_noNL {o : List Int} (ho : ∀ i,0≤o.getD i 0∧o.getD i 0≤6) : ∀ i,noNL (numsUp o i)
 | 0=>(by decide : noNL tYes)
 | i+1=>by
  have h1 := nums_noNL ho i
  have h2 := num_noNL (n := o.getD i 0) (by have := ho i; omega) (by have := ho i; omega)
  exact noNL_app h1 (noNL_app (by decide) h2)
theorem desk_noNL (l:ByteArray) : noNL (deskV l) := by
 have c : ∀ (b:Bool) (x y:ByteArray),noNL x→noNL y→noNL (bif b then x else y) := fun b x y h1 h2=>by cases b <;> assumption
 have hb : ∀ b,noNL (yesNoV b) := fun b=>by cases b <;> decide
 unfold deskV
 refine c _ _ _ (by decide) ?_
 cases hp : (parseS (dT l).data.toList).2 with
 | false =>
  have : wrongD (dW l 0) (dW l 1) false=true := by unfold wrongD; rfl
  rw [this,cond_true]; decide
 | true =>
  have hv : validHistory (parseS (dT l).data.toList).1=true := by
   have h1 := parse_law (s := dT l) (by rw [parse_eq]; exact hp)
   rw [← parse_eq]; exact h1.2
  refine c _ _ _ (by decide) ?_
  unfold coreD
  refine c _ _ _ (hb _) (c _ _ _ (hb _) (c _ _ _ ?_ (c _ _ _ (by decide) ?_)))
  ·have h1 := width_le (parseS (dT l).data.toList).1
   have h2 := valid_len hv
   rw [width_eq hv]
   exact num_noNL (n := widthI (parseS (dT l).data.toList).1) (by omega) (by omega)
  ·have h1 := by_row (s := dW l 1) (f := aheadF (parseS (dT l).data.toList).1) hv
   exact nums_noNL h1.2 _
theorem run_nl (l : List ByteArray) : ∀ i,nlC (runUp l i).data.toList=i
 | 0=>rfl
 | i+1=>by
  simp only [runUp]
  rw [ap_list,ap_list,nlC_app,nlC_app,run_nl l i,desk_noNL]
  rfl
theorem run_take (l : List ByteArray) (k:Nat) : ∀ i,i≤k→runUp (l.take k) i=runUp l i
 | 0,_=>rfl
 | i+1,h=>by
  simp only [runUp]
  rw [run_take l k i (by omega)]
  congr 3
  simp [List.getD_eq_getElem?_getD,show i<k by omega]
theorem run_grow (l : List ByteArray) (i:Nat) : ∀ j,∃ t,runUp l (i+j)=runUp l i++t
 | 0=>⟨BA [],by
  rw [Nat.add_zero]
  apply ByteArray.ext; simp⟩
 | j+1=>by
  obtain ⟨t,ht⟩ := run_grow l i j
  refine ⟨t++(deskV (l.getD (i+j) default)++(⟨#[10]⟩:ByteArray)),?_⟩
  show runUp l (i+j)++(deskV (l.getD (i+j) default)++(⟨#[10]⟩:ByteArray))=_
  rw [ht,ByteArray.append_assoc]
theorem runV_few {l : List ByteArray} (h : l.length≤20) : runV l=runUp l l.length := by
 unfold runV; rw [decide_eq_false (by omega)]; rfl
theorem run_pre {l : List ByteArray} {k : Nat} (h : l.length≤20) (hk : k≤l.length) : (runV (l.take k)).size≤(runV l).size∧(runV l).extract 0 (runV (l.take k)).size=runV (l.take k) := by
 have e1 : runV (l.take k)=runUp l k := by
  rw [runV_few (by rw [List.length_take]; omega),List.length_take,Nat.min_eq_left hk,run_take l k k (Nat.le_refl _)]
 obtain ⟨t,ht⟩ := run_grow l k (l.length - k)
 rw [show k+(l.length - k)=l.length by omega] at ht
 rw [e1,runV_few h,ht]
 refine ⟨by rw [ByteArray.size_append]; omega,?_⟩
 rw [bx,ap_list,sz,List.take_append_of_le_length (Nat.le_refl _),List.take_length,List.drop_zero,ba_back]
theorem run_lines {l : List ByteArray} (h : l.length≤20) : nlC (runV l).data.toList=l.length := by rw [runV_few h]; exact run_nl l _
theorem snoc_small {o : List ByteArray} {x : ByteArray} {n : Nat} (h : ∀ i,(o.getD i default).size≤n) (hx : x.size≤n) : ∀ i,((o++[x]).getD i default).size≤n := by
 intro i
 rcases Nat.lt_trichotomy i o.length with h1 | h1 | h1
 ·have := h i
  simpa [List.getD_eq_getElem?_getD,List.getElem?_append_left h1] using this
 ·subst h1; simpa [List.getD_eq_getElem?_getD] using hx
 ·rw [List.getD_eq_getElem?_getD,List.getElem?_eq_none (by simp; omega)]; exact Nat.zero_le _
theorem take_small {o : List ByteArray} {n : Nat} (k:Nat) (h : ∀ i,(o.getD i default).size≤n) : ∀ i,((o.take k).getD i default).size≤n := by
 intro i
 by_cases hi : i<k
 ·have := h i; simpa [List.getD_eq_getElem?_getD,List.getElem?_take,hi] using this
 ·rw [List.getD_eq_getElem?_getD,List.getElem?_take,if_neg hi]; exact Nat.zero_le _
end Go.Ab

set_option linter.unusedSimpArgs false
set_option linter.unusedVariables false
namespace Go.Proofs.Tryz
open Go.Ab Go.RowKit Go.Shelf Go.Proofs Go.Lib
def fs70 : FnS := fnS [.o,.o] [.str,.str] (fun _ (s,sep,_)=>(.i (idxB s sep),[],(sep.size=1)))
def renX : Go.Shelf.Ren := ⟨fun k=>bif Nat.beq k 143 then 70 else bif Nat.beq k 217 then 94 else bif Nat.beq k 219 then 92 else bif Nat.beq k 224 then 109 else bif Nat.beq k 225 then 108 else bif Nat.beq k 266 then 111 else bif Nat.beq k 267 then 110 else bif Nat.beq k 314 then 127 else k,fun k=>bif Nat.beq k 3 then 3 else bif Nat.beq k 4 then 4 else bif Nat.beq k 5 then 5 else bif Nat.beq k 9 then 9 else bif Nat.beq k 46 then 89 else bif Nat.beq k 51 then 121 else bif Nat.beq k 146 then 129 else k,fun k=>bif Nat.beq k 1 then 0 else k⟩
set_option maxRecDepth 100000 in
theorem laysX : Go.Proofs.Lays.n143 prog renX where
 mixed := by kernel_rfl
 f143 := by kernel_rfl
 f217 := by kernel_rfl
 f219 := by kernel_rfl
 f224 := by kernel_rfl
 f225 := by kernel_rfl
 f266 := by kernel_rfl
 f267 := by kernel_rfl
 f314 := by kernel_rfl
 t3 := underlying3
 a3 := isAgg3
 z3 := sizeOf3
 v3 := zeroValue3
 t4 := underlying4
 a4 := isAgg4
 z4 := sizeOf4
 v4 := zeroValue4
 t5 := underlying5
 a5 := isAgg5
 z5 := sizeOf5
 v5 := zeroValue5
 t9 := underlying9
 a9 := isAgg9
 z9 := sizeOf9
 v9 := zeroValue9
 t46 := underlying89
 a46 := isAgg89
 z46 := sizeOf89
 v46 := zeroValue89
 t51 := underlying121
 a51 := isAgg121
 z51 := sizeOf121
 v51 := zeroValue121
 t146 := underlying129
 a146 := isAgg129
 z146 := sizeOf129
 v146 := zeroValue129
 g1 := by kernel_rfl
theorem ok70 : FnOK prog 70 fs70 := index_ok laysX
theorem ent70 : Entr prog 70 := ⟨_,func70,rfl,by decide⟩
end Go.Proofs.Tryz

set_option linter.unusedSimpArgs false
set_option linter.unusedVariables false
namespace Go.Proofs.Tryz
open Go.Ab Go.RowKit
def fs49 : FnS := fnS [.o,.o,.o,.o] [.str,.str,.int,.int] (fun _ (s,sep,sv,n,_)=>(.own 0 (List.length (splitNB sep n s)),[(9,.strs (splitNB sep n s))],(sep.size=1)∧(sv=0)∧(1≤n∧n≤1000)∧(s.size≤2000000)))
abbrev T49 : Tab := lk [(70,fs70)]
theorem tab49 : TabOK prog T49 := (TabOK.cons ok70 ent70 TabOK.nil)
abbrev v490 (n:Int) (s:ByteArray):AV:=.own 31 (List.length (List.replicate (Int.toNat (min n (((s.size+1):Nat):Int))) ByteArray.empty))
abbrev v491 (n:Int) (s:ByteArray):AV:=.i ((min n (((s.size+1):Nat):Int)) - (1:Int))
theorem ok49 : FnOK prog 49 fs49 := by
 refine FnOK.mk cok func49 rfl rfl rfl ?_
 rintro fl ⟨(s:ByteArray),(sep:ByteArray),(sv:Int),(n:Int),_⟩ hpre F hnt0 _
 have hnt : F.nt=66 := hnt0.trans ntmps49
 replace hpre : (sep.size=1)∧(sv=0)∧(1≤n∧n≤1000)∧(s.size≤2000000) := hpre
 obtain ⟨hs,hv,hn,hz⟩ := hpre
 refine W.to (⟨[(0,.v (.string s)),(1,.v (.string sep)),(2,.i sv),(3,.i n)],[],[999]⟩) rfl ?_
 refine kE tab49 hnt [(0,.v (.string s)),(1,.v (.string sep)),(2,.i sv),(3,.i n)] 2 [] tt ?_
 refine W.seq ?_
 refine kE tab49 hnt [(0,.v (.string s)),(1,.v (.string sep)),(2,.i sv),(3,.i n),(13,.b (decide (n=(0:Int))))] 560 [] tt ?_
 refine ifp (n=(0:Int)) ?_ ?_
 ·intro h13
  exact (show False from (by omega)).elim
 ·intro n13
  refine W.skip (thenQ_normal ?_)
  refine W.seq ?_
  refine kE tab49 hnt [(0,.v (.string s)),(1,.v (.string sep)),(2,.i sv),(3,.i n),(15,.b (eqS sep nEmpty))] 560 [] tt ?_
  refine ifb (eqS sep nEmpty) ?_ ?_
  ·intro h15
   exact (show False from (by rw [eqB_iff] at h15; rw [h15] at hs; cases hs)).elim
  ·intro n15
   refine W.skip (thenQ_normal ?_)
   refine W.seq ?_
   refine kE tab49 hnt [(0,.v (.string s)),(1,.v (.string sep)),(2,.i sv),(3,.i n),(20,.b (decide (n<(0:Int))))] 560 [] tt ?_
   refine ifp (n<(0:Int)) ?_ ?_
   ·intro h20
    exact (show False from (by omega)).elim
   ·intro n20
    refine W.skip (thenQ_normal ?_)
    refine kE tab49 hnt [(0,.v (.string s)),(1,.v (.string sep)),(2,.i sv),(3,.i (min n (((s.size+1):Nat):Int)))] 90567497 [Fits .i64 (((s.size+1):Nat):Int)] (by exact fits_i64 (by omega) (by omega)) ?_
    refine kS tab49 hnt [(0,.v (.string s)),(1,.v (.string sep)),(2,.i sv),(3,.i (min n (((s.size+1):Nat):Int))),(9,(v490 n s))] [(31,⟨9,.row (.strs (List.replicate (Int.toNat (min n (((s.size+1):Nat):Int))) ByteArray.empty))⟩)] [31,999] 1349939 [(min n (((s.size+1):Nat):Int))=(min n (((s.size+1):Nat):Int)),0≤(min n (((s.size+1):Nat):Int)),(min n (((s.size+1):Nat):Int)) * 16≤281474976710656] ⟨rfl,(by omega),(by (try simp only [List.length_append,List.length_cons,List.length_nil,List.length_set]); omega)⟩ ?_ [31]
    refine kE tab49 hnt [(0,.v (.string s)),(1,.v (.string sep)),(2,.i sv),(3,(v491 n s)),(9,(v490 n s))] 15869 [Fits .i64 ((min n (((s.size+1):Nat):Int)) - (1:Int))] (by exact fits_i64 (by omega) (by omega)) ?_
    refine kE tab49 hnt [(0,.v (.string s)),(1,.v (.string sep)),(2,.i sv),(3,(v491 n s)),(9,(v490 n s)),(10,.i (0:Int))] 2 [] tt ?_
    refine W.seq ?_
    refine W.block ?_
    refine W.loop (ι := ByteArray × Nat × (List ByteArray)) (fun (x : ByteArray × Nat × (List ByteArray))=>match x with | (r,i,a)=>(⟨[(0,.v (.string r)),(1,.v (.string sep)),(2,.i sv),(3,(v491 n s)),(9,(v490 n s)),(10,.i ((i:Nat):Int))],[(31,⟨9,.row (.strs a)⟩)],[31,999]⟩:St))
     (fun (x : ByteArray × Nat × (List ByteArray))=>match x with | (r,i,a)=>(i+1≤Int.toNat (min n (((s.size:Nat):Int)+1)))∧(r.size≤s.size)∧(a.length=Int.toNat (min n (((s.size:Nat):Int)+1)))∧(a.take i++(splitNL (sepc sep) (Int.toNat (min n (((s.size:Nat):Int)+1)) - i) r.data.toList).map BA=splitNB sep n s))
     (fun (x : ByteArray × Nat × (List ByteArray))=>match x with | (r,i,a)=>(Int.toNat n - i:Nat)) (s,0,(List.replicate (Int.toNat (min n (((s.size+1):Nat):Int))) ByteArray.empty)) ?_ ?_ ?_
    ·exact ⟨(by omega),(by exact Nat.le_refl _),(by exact List.length_replicate),(by exact gs_init hn.1)⟩
    ·exact Sk
    ·rintro ⟨r,i,a⟩ hC0
     obtain ⟨hi,hr,ha,hp⟩ := hC0
     have hb := idx_bnd r sep
     refine W.seq ?_
     refine kE tab49 hnt [(0,.v (.string r)),(1,.v (.string sep)),(2,.i sv),(3,(v491 n s)),(9,(v490 n s)),(10,.i ((i:Nat):Int)),(36,.b (decide (((i:Nat):Int)<((min n (((s.size+1):Nat):Int)) - (1:Int)))))] 5042 [] tt ?_
     refine ifp (((i:Nat):Int)<((min n (((s.size+1):Nat):Int)) - (1:Int))) ?_ ?_
     ·intro h36
      refine W.skip (thenQ_normal ?_)
      refine W.block ?_
      refine kE tab49 hnt [(0,.v (.string r)),(1,.v (.string sep)),(2,.i sv),(3,(v491 n s)),(9,(v490 n s)),(10,.i ((i:Nat):Int)),(11,.i (idxB r sep))] 11296523 [sep.size=1] (by omega) ?_
      refine W.seq ?_
      refine kE tab49 hnt [(0,.v (.string r)),(1,.v (.string sep)),(2,.i sv),(3,(v491 n s)),(9,(v490 n s)),(10,.i ((i:Nat):Int)),(11,.i (idxB r sep)),(41,.b (decide ((idxB r sep)<(0:Int))))] 560 [] tt ?_
      refine ifp ((idxB r sep)<(0:Int)) ?_ ?_
      ·intro h41
       refine W.exit (thenQ_exit (blockQ_miss rfl (thenQ_exit (blockQ_hit ?_))))
       refine thenQ_normal ?_
       refine kS tab49 hnt [(9,(v490 n s)),(10,.i ((i:Nat):Int))] [(31,⟨9,.row (.strs (List.set a i r))⟩)] [31,999] 1461330983 [0≤((i:Nat):Int),((i:Nat):Int)<(((List.length (List.replicate (Int.toNat (min n (((s.size+1):Nat):Int))) ByteArray.empty)):Nat):Int),i<a.length] ⟨om,(by (try simp only [List.length_replicate,List.length_set]); omega),om⟩ ?_
       refine kE tab49 hnt [(8,.own 31 (i+1))] 979411439 [Fits .i64 (((i+1):Nat):Int),0≤(((i+1):Nat):Int),(((i+1):Nat):Int)≤(((List.length (List.replicate (Int.toNat (min n (((s.size+1):Nat):Int))) ByteArray.empty)):Nat):Int)] ⟨(by exact fits_i64 (by omega) (by omega)),om,(by (try simp only [List.length_replicate,List.length_set]); omega)⟩ ?_
       refine W.cutRow 31 9 (.strs (List.set a i r)) (.strs (List.take (i+1) (List.set a i r))) (i+1) (⟨[(8,.own 31 (i+1))],[(31,⟨9,.row (.strs (List.take (i+1) (List.set a i r)))⟩)],[31,999]⟩) (by kernel_rfl) (by rfl) (show (i+1)≤(List.length (List.set a i r)) from ow) (by kernel_rfl) ?_
       refine W.ret ?_
       exact endQ_rows [(0,31)] (.own 31 (i+1)) (by kernel_rfl) (@cast (((31:Nat)=31)∧((i+1)=(List.length (splitNB sep n s)))∧((0:Nat) ∈ ([0] : List Nat))) _ (by kernel_rfl) ⟨rfl,(by first | rfl | omega | assumption | (symm; assumption) | (exact congrArg List.length (by first | exact gs_end hp (by omega) ha (.inl h41) | (rw [← gs_end hp (by omega) ha (.inl h41),List.length_take,List.length_set]; omega))) | (first | exact gs_end hp (by omega) ha (.inl h41) | (rw [← gs_end hp (by omega) ha (.inl h41),List.length_take,List.length_set]; omega); done) | simp | simp_all),(by decide)⟩) (@cast ((((9:Nat)=9)∧((.strs (List.take (i+1) (List.set a i r)):Dat)=.strs (splitNB sep n s))∧((0:Nat) ∈ ([0] : List Nat)))∧Y) _ (by kernel_rfl) ⟨⟨rfl,(congrArg Dat.strs (by first | exact gs_end hp (by omega) ha (.inl h41) | (rw [← gs_end hp (by omega) ha (.inl h41),List.length_take,List.length_set]; omega))),(by decide)⟩,tt⟩) (by kernel_rfl)
      ·intro n41
       have h41n := n41
       refine W.skip (thenQ_normal ?_)
       refine kS tab49 hnt [(0,.v (.string r)),(1,.v (.string sep)),(2,.i sv),(3,(v491 n s)),(9,(v490 n s)),(10,.i ((i:Nat):Int)),(11,.i (idxB r sep))] [(31,⟨9,.row (.strs (List.set a i (r.extract 0 (Int.toNat ((idxB r sep)+sv)))))⟩)] [31,999] 45858121331012770961 [Fits .i64 ((idxB r sep)+sv),0≤(0:Int),(0:Int)≤((idxB r sep)+sv),((idxB r sep)+sv)≤((r.size:Nat):Int),0≤((i:Nat):Int),((i:Nat):Int)<(((List.length (List.replicate (Int.toNat (min n (((s.size+1):Nat):Int))) ByteArray.empty)):Nat):Int),i<a.length] ⟨(by exact fits_i64 (by omega) (by omega)),om,om,(by omega),om,(by (try simp only [List.length_replicate,List.length_set]); omega),om⟩ ?_
       refine kE tab49 hnt [(0,.v (.string (r.extract (Int.toNat ((idxB r sep)+((sep.size:Nat):Int))) r.size))),(1,.v (.string sep)),(2,.i sv),(3,(v491 n s)),(9,(v490 n s)),(10,.i ((i:Nat):Int))] 6456660996008 [Fits .i64 ((idxB r sep)+((sep.size:Nat):Int)),0≤((idxB r sep)+((sep.size:Nat):Int)),((idxB r sep)+((sep.size:Nat):Int))≤((r.size:Nat):Int),((r.size:Nat):Int)≤((r.size:Nat):Int)] ⟨(by exact fits_i64 (by omega) (by omega)),(by omega),(by omega),(by omega)⟩ ?_
       refine lE tab49 hnt [(0,.v (.string (r.extract (Int.toNat ((idxB r sep)+((sep.size:Nat):Int))) r.size))),(1,.v (.string sep)),(2,.i sv),(3,(v491 n s)),(9,(v490 n s)),(10,.i (((i+1):Nat):Int))] 15869 [Fits .i64 (((i+1):Nat):Int)] (by exact fits_i64 (by omega) (by omega)) ?_
       refine blockQ_normal (thenQ_normal ?_)
       refine ⟨((r.extract (Int.toNat ((idxB r sep)+((sep.size:Nat):Int))) r.size),(i+1),(List.set a i (r.extract 0 (Int.toNat ((idxB r sep)+sv))))),⟨(by omega),(by rw [ByteArray.size_extract]; omega),(by rw [List.length_set]; exact ha),(by exact gs_step hp (by omega) ha h41n hv hs)⟩,(show Int.toNat n - (i+1)<Int.toNat n - i from o2),?_⟩
       exact Sk
     ·intro n36
      refine W.exit (thenQ_exit (thenQ_exit (blockQ_hit ?_)))
      refine thenQ_normal ?_
      refine kS tab49 hnt [(9,(v490 n s)),(10,.i ((i:Nat):Int))] [(31,⟨9,.row (.strs (List.set a i r))⟩)] [31,999] 1461330983 [0≤((i:Nat):Int),((i:Nat):Int)<(((List.length (List.replicate (Int.toNat (min n (((s.size+1):Nat):Int))) ByteArray.empty)):Nat):Int),i<a.length] ⟨om,(by (try simp only [List.length_replicate,List.length_set]); omega),om⟩ ?_
      refine kE tab49 hnt [(8,.own 31 (i+1))] 979411439 [Fits .i64 (((i+1):Nat):Int),0≤(((i+1):Nat):Int),(((i+1):Nat):Int)≤(((List.length (List.replicate (Int.toNat (min n (((s.size+1):Nat):Int))) ByteArray.empty)):Nat):Int)] ⟨(by exact fits_i64 (by omega) (by omega)),om,(by (try simp only [List.length_replicate,List.length_set]); omega)⟩ ?_
      refine W.cutRow 31 9 (.strs (List.set a i r)) (.strs (List.take (i+1) (List.set a i r))) (i+1) (⟨[(8,.own 31 (i+1))],[(31,⟨9,.row (.strs (List.take (i+1) (List.set a i r)))⟩)],[31,999]⟩) (by kernel_rfl) (by rfl) (show (i+1)≤(List.length (List.set a i r)) from ow) (by kernel_rfl) ?_
      refine W.ret ?_
      exact endQ_rows [(0,31)] (.own 31 (i+1)) (by kernel_rfl) (@cast (((31:Nat)=31)∧((i+1)=(List.length (splitNB sep n s)))∧((0:Nat) ∈ ([0] : List Nat))) _ (by kernel_rfl) ⟨rfl,(by first | rfl | omega | assumption | (symm; assumption) | (exact congrArg List.length (by first | exact gs_end hp (by omega) ha (.inr (by omega)) | (rw [← gs_end hp (by omega) ha (.inr (by omega)),List.length_take,List.length_set]; omega))) | (first | exact gs_end hp (by omega) ha (.inr (by omega)) | (rw [← gs_end hp (by omega) ha (.inr (by omega)),List.length_take,List.length_set]; omega); done) | simp | simp_all),(by decide)⟩) (@cast ((((9:Nat)=9)∧((.strs (List.take (i+1) (List.set a i r)):Dat)=.strs (splitNB sep n s))∧((0:Nat) ∈ ([0] : List Nat)))∧Y) _ (by kernel_rfl) ⟨⟨rfl,(congrArg Dat.strs (by first | exact gs_end hp (by omega) ha (.inr (by omega)) | (rw [← gs_end hp (by omega) ha (.inr (by omega)),List.length_take,List.length_set]; omega))),(by decide)⟩,tt⟩) (by kernel_rfl)
theorem ent49 : Entr prog 49 := ⟨_,func49,rfl,by decide⟩
end Go.Proofs.Tryz

set_option linter.unusedSimpArgs false
set_option linter.unusedVariables false
namespace Go.Proofs.Tryz
open Go.Ab Go.RowKit
def fs29 : FnS := fnS [.o,.o,.o] [.str,.str,.int] (fun _ (s,sep,n,_)=>(.own 0 (List.length (splitNB sep n s)),[(9,.strs (splitNB sep n s))],(sep.size=1)∧(1≤n∧n≤1000)∧(s.size≤2000000)))
abbrev T29 : Tab := lk [(49,fs49)]
theorem tab29 : TabOK prog T29 := (TabOK.cons ok49 ent49 TabOK.nil)
theorem ok29 : FnOK prog 29 fs29 := by
 refine FnOK.mk cok func29 rfl rfl rfl ?_
 rintro fl ⟨(s:ByteArray),(sep:ByteArray),(n:Int),_⟩ hpre F hnt0 _
 have hnt : F.nt=11 := hnt0.trans ntmps29
 replace hpre : (sep.size=1)∧(1≤n∧n≤1000)∧(s.size≤2000000) := hpre
 obtain ⟨hs,hn,hz⟩ := hpre
 refine W.to (⟨[(0,.v (.string s)),(1,.v (.string sep)),(2,.i n)],[],[999]⟩) rfl ?_
 refine kE tab29 hnt [(0,.v (.string s)),(1,.v (.string sep)),(2,.i n)] 2 [] tt ?_
 refine kS tab29 hnt [(6,.own 10 (List.length (splitNB sep n s)))] [(10,⟨9,.row (.strs (splitNB sep n s))⟩)] [10,999] 6459946119326 [sep.size=1,(0:Int)=0,1≤n∧n≤1000,s.size≤2000000] ⟨om,(by rfl),om,om⟩ ?_ [10]
 refine W.ret ?_
 exact endQ_rows [(0,10)] (.own 10 (List.length (splitNB sep n s))) (by kernel_rfl) (@cast (((10:Nat)=10)∧((List.length (splitNB sep n s))=(List.length (splitNB sep n s)))∧((0:Nat) ∈ ([0] : List Nat))) _ (by kernel_rfl) ⟨rfl,rfl,(by decide)⟩) (@cast ((((9:Nat)=9)∧(Sd (.strs (splitNB sep n s)))∧((0:Nat) ∈ ([0] : List Nat)))∧Y) _ (by kernel_rfl) ⟨⟨rfl,rfl,(by decide)⟩,tt⟩) (by kernel_rfl)
theorem ent29 : Entr prog 29 := ⟨_,func29,rfl,by decide⟩
end Go.Proofs.Tryz

set_option linter.unusedSimpArgs false
set_option linter.unusedVariables false
namespace Go.Proofs.Tryz
open Go.Ab Go.RowKit
def fs50 : FnS := fnS [.s .strs,.o] [.strs,.str] (fun _ (l,x,_)=>(.i (firstI l.length (fun jj=>eqS x (l.getD jj default))),[],Y))
abbrev T50 : Tab := lk []
theorem tab50 : TabOK prog T50 := TabOK.nil
abbrev v500 (l:List ByteArray):AV:=.i (l.length:Int)
theorem ok50 : FnOK prog 50 fs50 := by
 refine FnOK.mk cok func50 rfl rfl rfl ?_
 rintro fl ⟨(l : List ByteArray),(x:ByteArray),_⟩ hpre F hnt0 _
 have hnt : F.nt=19 := hnt0.trans ntmps50
 clear hpre
 refine W.to (⟨[(0,.sl (.strs l)),(1,.v (.string x))],[],[999]⟩) rfl ?_
 refine W.lenOf 0 (.strs l) (by kernel_rfl) ?_
 intro hl_l; replace hl_l : List.length l≤9223372036854775807 := hl_l
 refine kE tab50 hnt [(0,.sl (.strs l)),(1,.v (.string x))] 2 [] tt ?_
 refine W.seq ?_
 refine kE tab50 hnt [(0,.sl (.strs l)),(1,.v (.string x)),(7,(v500 l)),(8,.i (0:Int))] 182 [] tt ?_
 refine W.block ?_
 refine W.loop (ι := Nat) (fun (i:Nat)=>(⟨[(0,.sl (.strs l)),(1,.v (.string x)),(7,(v500 l)),(8,.i ((i:Nat):Int))],[],[999]⟩:St))
  (fun (i:Nat)=>(i≤l.length)∧(∀ jj,jj<i→(eqS x (l.getD jj default))=false))
  (fun (i:Nat)=>(l.length - i:Nat)) (0) ?_ ?_ ?_
 ·exact ⟨oi,(by exact upto_zero)⟩
 ·exact Sk
 ·rintro i hC0
  obtain ⟨hi,hA⟩ := hC0
  refine kE tab50 hnt [(0,.sl (.strs l)),(1,.v (.string x)),(7,(v500 l)),(8,.i ((i:Nat):Int)),(9,.b (decide (((i:Nat):Int)<(l.length:Int))))] 62 [] tt ?_
  refine W.seq ?_
  refine ifp (((i:Nat):Int)<(l.length:Int)) ?_ ?_
  ·intro h9
   refine W.skip (thenQ_normal ?_)
   refine W.seq ?_
   refine W.block ?_
   refine kE tab50 hnt [(0,.sl (.strs l)),(1,.v (.string x)),(5,.i ((i:Nat):Int)),(7,(v500 l)),(8,.i ((i:Nat):Int))] 20 [] tt ?_
   refine kE tab50 hnt [(0,.sl (.strs l)),(1,.v (.string x)),(5,.i ((i:Nat):Int)),(7,(v500 l)),(8,.i ((i:Nat):Int)),(16,.b (eqS x (l.getD i default)))] 2680988078 [0≤((i:Nat):Int),((i:Nat):Int)<(l.length:Int)] ⟨om,om⟩ ?_
   refine ifb (eqS x (l.getD i default)) ?_ ?_
   ·intro h16
    refine kE tab50 hnt [(4,.i ((i:Nat):Int))] 20 [] tt ?_
    refine W.ret (blockQ_ret (thenQ_ret (thenQ_ret (blockQ_ret (thenQ_ret ?_)))))
    exact eI (show ((i:Nat):Int)=(firstI l.length (fun jj=>eqS x (l.getD jj default))) from (by exact (firstI_yes (by omega) h16 hA).symm))
   ·intro n16
    refine W.skip (blockQ_normal (thenQ_normal ?_))
    refine lE tab50 hnt [(0,.sl (.strs l)),(1,.v (.string x)),(7,(v500 l)),(8,.i (((i+1):Nat):Int))] 1763 [Fits .i64 (((i+1):Nat):Int)] fi ?_
    refine thenQ_normal ?_
    refine ⟨((i+1)),⟨oi,(by exact upto_succ hA n16)⟩,(show l.length - (i+1)<l.length - i from o2),?_⟩
    exact Sk
  ·intro n9
   refine W.exit (thenQ_exit (thenQ_exit (blockQ_hit ?_)))
   refine thenQ_normal ?_
   refine kE tab50 hnt [(4,.i (-1:Int))] 2 [] tt ?_
   refine W.ret ?_
   exact eI (show (-1:Int)=(firstI l.length (fun jj=>eqS x (l.getD jj default))) from (by exact (firstI_no (fun j hj=>hA j (by omega))).symm))
theorem ent50 : Entr prog 50 := ⟨_,func50,rfl,by decide⟩
end Go.Proofs.Tryz

set_option linter.unusedSimpArgs false
set_option linter.unusedVariables false
namespace Go.Proofs.Tryz
open Go.Ab Go.RowKit
def fs30 : FnS := fnS [.s .strs,.o] [.strs,.str] (fun _ (l,x,_)=>(.b (hasS l x),[],Y))
abbrev T30 : Tab := lk [(50,fs50)]
theorem tab30 : TabOK prog T30 := (TabOK.cons ok50 ent50 TabOK.nil)
theorem ok30 : FnOK prog 30 fs30 := by
 refine FnOK.mk cok func30 rfl rfl rfl ?_
 rintro fl ⟨(l : List ByteArray),(x:ByteArray),_⟩ hpre F hnt0 _
 have hnt : F.nt=9 := hnt0.trans ntmps30
 clear hpre
 refine W.to (⟨[(0,.sl (.strs l)),(1,.v (.string x))],[],[999]⟩) rfl ?_
 refine W.lenOf 0 (.strs l) (by kernel_rfl) ?_
 intro hl_l; replace hl_l : List.length l≤9223372036854775807 := hl_l
 refine kE tab30 hnt [(0,.sl (.strs l)),(1,.v (.string x))] 2 [] tt ?_
 refine kE tab30 hnt [(4,.b (decide ((0:Int)≤(firstI l.length (fun jj=>eqS x (l.getD jj default))))))] 7270249142 [] tt ?_
 refine W.ret ?_
 exact eB (show (decide ((0:Int)≤(firstI l.length (fun jj=>eqS x (l.getD jj default)))))=(hasS l x) from (by exact firstI_has _ _))
theorem ent30 : Entr prog 30 := ⟨_,func30,rfl,by decide⟩
end Go.Proofs.Tryz

set_option linter.unusedSimpArgs false
set_option linter.unusedVariables false
namespace Go.Proofs.Tryz
open Go.Ab Go.RowKit Go.Shelf Go.Proofs Go.Lib
def fs92 : FnS := fnS [.o,.o] [.str,.str] (fun _ (s,sep,_)=>(.i (idxB s sep),[],(sep.size=1)))
def renL : Go.Shelf.Ren := ⟨fun k=>bif Nat.beq k 217 then 94 else bif Nat.beq k 219 then 92 else bif Nat.beq k 224 then 109 else bif Nat.beq k 225 then 108 else bif Nat.beq k 266 then 111 else bif Nat.beq k 267 then 110 else bif Nat.beq k 314 then 127 else k,fun k=>bif Nat.beq k 3 then 3 else bif Nat.beq k 4 then 4 else bif Nat.beq k 5 then 5 else bif Nat.beq k 9 then 9 else bif Nat.beq k 46 then 89 else bif Nat.beq k 51 then 121 else bif Nat.beq k 146 then 129 else k,fun k=>bif Nat.beq k 1 then 0 else k⟩
set_option maxRecDepth 100000 in
theorem laysL : Go.Proofs.Lays.n219 prog renL where
 mixed := by kernel_rfl
 f217 := by kernel_rfl
 f219 := by kernel_rfl
 f224 := by kernel_rfl
 f225 := by kernel_rfl
 f266 := by kernel_rfl
 f267 := by kernel_rfl
 f314 := by kernel_rfl
 t3 := underlying3
 a3 := isAgg3
 z3 := sizeOf3
 v3 := zeroValue3
 t4 := underlying4
 a4 := isAgg4
 z4 := sizeOf4
 v4 := zeroValue4
 t5 := underlying5
 a5 := isAgg5
 z5 := sizeOf5
 v5 := zeroValue5
 t9 := underlying9
 a9 := isAgg9
 z9 := sizeOf9
 v9 := zeroValue9
 t46 := underlying89
 a46 := isAgg89
 z46 := sizeOf89
 v46 := zeroValue89
 t51 := underlying121
 a51 := isAgg121
 z51 := sizeOf121
 v51 := zeroValue121
 t146 := underlying129
 a146 := isAgg129
 z146 := sizeOf129
 v146 := zeroValue129
 g1 := by kernel_rfl
theorem ok92 : FnOK prog 92 fs92 := lindex_ok laysL
theorem ent92 : Entr prog 92 := ⟨_,func92,rfl,by decide⟩
end Go.Proofs.Tryz

set_option linter.unusedSimpArgs false
set_option linter.unusedVariables false
namespace Go.Proofs.Tryz
open Go.Ab Go.RowKit
def fs93 : FnS := fnS [.o,.o] [.str,.str] (fun _ (s,sep,_)=>(.tup [.v (.string (cutB1 s sep)),.v (.string (cutB2 s sep)),.b (decide (0≤idxB s sep))],[],(sep.size=1)∧(s.size≤2000000)))
abbrev T93 : Tab := lk [(92,fs92)]
theorem tab93 : TabOK prog T93 := (TabOK.cons ok92 ent92 TabOK.nil)
theorem ok93 : FnOK prog 93 fs93 := by
 refine FnOK.mk cok func93 rfl rfl rfl ?_
 rintro fl ⟨(s:ByteArray),(sep:ByteArray),_⟩ hpre F hnt0 _
 have hnt : F.nt=23 := hnt0.trans ntmps93
 replace hpre : (sep.size=1)∧(s.size≤2000000) := hpre
 obtain ⟨hs,hz⟩ := hpre
 refine W.to (⟨[(0,.v (.string s)),(1,.v (.string sep))],[],[999]⟩) rfl ?_
 have hb := idx_bnd s sep
 refine kE tab93 hnt [(0,.v (.string s)),(1,.v (.string sep))] 182 [] tt ?_
 refine W.seq ?_
 refine kE tab93 hnt [(0,.v (.string s)),(1,.v (.string sep)),(7,.i (idxB s sep))] 11296523 [sep.size=1] (by exact hs) ?_
 refine kE tab93 hnt [(0,.v (.string s)),(1,.v (.string sep)),(7,.i (idxB s sep)),(12,.b (decide ((0:Int)≤(idxB s sep))))] 560 [] tt ?_
 refine ifp ((0:Int)≤(idxB s sep)) ?_ ?_
 ·intro h12
  refine kA tab93 hnt [(4,.v (.string (s.extract 0 (Int.toNat (idxB s sep))))),(5,.v (.string (s.extract (Int.toNat ((idxB s sep)+((sep.size:Nat):Int))) s.size))),(6,.b true)] [] [999] 19973356128158986398053 [0≤(0:Int),(0:Int)≤(idxB s sep),(idxB s sep)≤((s.size:Nat):Int),Fits .i64 ((idxB s sep)+((sep.size:Nat):Int)),0≤((idxB s sep)+((sep.size:Nat):Int)),((idxB s sep)+((sep.size:Nat):Int))≤((s.size:Nat):Int),((s.size:Nat):Int)≤((s.size:Nat):Int)] ⟨om,om,(by omega),(by exact fits_i64 (by omega) (by omega)),(by omega),(by omega),(by omega)⟩ ?_
  refine W.ret (thenQ_ret ?_)
  exact endQ_ret (.tup [.v (.string (s.extract 0 (Int.toNat (idxB s sep)))),.v (.string (s.extract (Int.toNat ((idxB s sep)+((sep.size:Nat):Int))) s.size)),.b true]) (by kernel_rfl) (@cast ((((.string (s.extract 0 (Int.toNat (idxB s sep)))):Value)=(.string (cutB1 s sep)))∧(((.string (s.extract (Int.toNat ((idxB s sep)+((sep.size:Nat):Int))) s.size)):Value)=(.string (cutB2 s sep)))∧((.bool true:Value)=.bool (decide (0≤idxB s sep)))∧Y) _ (by kernel_rfl) ⟨(congrArg Value.string (by first | exact cut_yes1 h12 | exact cut_yes2 hs h12 | exact (decide_eq_true h12).symm)),(congrArg Value.string (by first | exact cut_yes1 h12 | exact cut_yes2 hs h12 | exact (decide_eq_true h12).symm)),(congrArg Value.bool (by first | exact cut_yes1 h12 | exact cut_yes2 hs h12 | exact (decide_eq_true h12).symm)),tt⟩)
 ·intro n12
  refine W.skip (thenQ_normal ?_)
  refine kE tab93 hnt [(4,.v (.string s)),(5,.v (.string nEmpty)),(6,.b false)] 1640 [] tt ?_
  refine W.ret ?_
  exact endQ_ret (.tup [.v (.string s),.v (.string nEmpty),.b false]) (by kernel_rfl) (@cast ((((.string s):Value)=(.string (cutB1 s sep)))∧(((.string nEmpty):Value)=(.string (cutB2 s sep)))∧((.bool false:Value)=.bool (decide (0≤idxB s sep)))∧Y) _ (by kernel_rfl) ⟨(congrArg Value.string (by first | exact cut_no1 n12 | exact cut_no2 n12 | exact (decide_eq_false n12).symm)),(congrArg Value.string (by first | exact cut_no1 n12 | exact cut_no2 n12 | exact (decide_eq_false n12).symm)),(congrArg Value.bool (by first | exact cut_no1 n12 | exact cut_no2 n12 | exact (decide_eq_false n12).symm)),tt⟩)
theorem ent93 : Entr prog 93 := ⟨_,func93,rfl,by decide⟩
end Go.Proofs.Tryz

set_option linter.unusedSimpArgs false
set_option linter.unusedVariables false
namespace Go.Proofs.Tryz
open Go.Ab Go.RowKit
def fs71 : FnS := fnS [.o,.o] [.str,.str] (fun _ (s,sep,_)=>(.tup [.v (.string (cutB1 s sep)),.v (.string (cutB2 s sep)),.b (decide (0≤idxB s sep))],[],(sep.size=1)∧(s.size≤2000000)))
abbrev T71 : Tab := lk [(93,fs93)]
theorem tab71 : TabOK prog T71 := (TabOK.cons ok93 ent93 TabOK.nil)
theorem ok71 : FnOK prog 71 fs71 := by
 refine FnOK.mk cok func71 rfl rfl rfl ?_
 rintro fl ⟨(s:ByteArray),(sep:ByteArray),_⟩ hpre F hnt0 _
 have hnt : F.nt=13 := hnt0.trans ntmps71
 replace hpre : (sep.size=1)∧(s.size≤2000000) := hpre
 obtain ⟨hs,hz⟩ := hpre
 refine W.to (⟨[(0,.v (.string s)),(1,.v (.string sep))],[],[999]⟩) rfl ?_
 refine kE tab71 hnt [(0,.v (.string s)),(1,.v (.string sep))] 182 [] tt ?_
 refine kE tab71 hnt [(4,.v (.string (cutB1 s sep))),(5,.v (.string (cutB2 s sep))),(6,.b (decide (0≤idxB s sep)))] 5719209808844 [sep.size=1,s.size≤2000000] ⟨om,om⟩ ?_
 refine W.ret ?_
 exact endQ_ret (.tup [.v (.string (cutB1 s sep)),.v (.string (cutB2 s sep)),.b (decide (0≤idxB s sep))]) (by kernel_rfl) (@cast ((((.string (cutB1 s sep)):Value)=(.string (cutB1 s sep)))∧(((.string (cutB2 s sep)):Value)=(.string (cutB2 s sep)))∧(Sv (.bool (decide (0≤idxB s sep))))∧Y) _ (by kernel_rfl) ⟨rfl,rfl,rfl,tt⟩)
theorem ent71 : Entr prog 71 := ⟨_,func71,rfl,by decide⟩
end Go.Proofs.Tryz

set_option linter.unusedSimpArgs false
set_option linter.unusedVariables false
namespace Go.Proofs.Tryz
open Go.Ab Go.RowKit Go.Shelf Go.Proofs Go.Lib
def fs72 : FnS := fnS [.o,.o] [.str,.u8] (fun _ (s,c,_)=>(.i (Lib.indexByte s.data.toList (Int.toNat c).toUInt8),[],Y))
def renB : Go.Shelf.Ren := ⟨fun k=>bif Nat.beq k 137 then 72 else bif Nat.beq k 217 then 94 else bif Nat.beq k 266 then 111 else k,fun k=>bif Nat.beq k 3 then 3 else bif Nat.beq k 5 then 5 else bif Nat.beq k 9 then 9 else k,fun k=>k⟩
set_option maxRecDepth 100000 in
theorem laysB : Go.Proofs.Lays.n137 prog renB where
 mixed := by kernel_rfl
 f137 := by kernel_rfl
 f217 := by kernel_rfl
 f266 := by kernel_rfl
 t3 := underlying3
 a3 := isAgg3
 z3 := sizeOf3
 v3 := zeroValue3
 t5 := underlying5
 a5 := isAgg5
 z5 := sizeOf5
 v5 := zeroValue5
 t9 := underlying9
 a9 := isAgg9
 z9 := sizeOf9
 v9 := zeroValue9
theorem ok72 : FnOK prog 72 fs72 := indexByte_ok laysB
theorem ent72 : Entr prog 72 := ⟨_,func72,rfl,by decide⟩
end Go.Proofs.Tryz

set_option linter.unusedSimpArgs false
set_option linter.unusedVariables false
namespace Go.Proofs.Tryz
open Go.Ab Go.RowKit Go.Shelf Go.Proofs Go.Lib
def fs73 : FnS := fnS [.o] [.str] (fun _ (s,_)=>(.tup [.i (atoiV s.data.toList),.any],[],(s.size≤2000000)))
def renA : Go.Shelf.Ren := ⟨fun k=>bif Nat.beq k 129 then 123 else bif Nat.beq k 171 then 36 else bif Nat.beq k 172 then 73 else bif Nat.beq k 205 then 130 else bif Nat.beq k 243 then 58 else bif Nat.beq k 244 then 95 else bif Nat.beq k 245 then 96 else bif Nat.beq k 246 then 84 else bif Nat.beq k 247 then 112 else bif Nat.beq k 279 then 113 else bif Nat.beq k 280 then 114 else bif Nat.beq k 281 then 115 else bif Nat.beq k 282 then 116 else bif Nat.beq k 283 then 103 else bif Nat.beq k 284 then 104 else bif Nat.beq k 285 then 105 else bif Nat.beq k 286 then 106 else bif Nat.beq k 287 then 128 else bif Nat.beq k 316 then 129 else bif Nat.beq k 317 then 122 else bif Nat.beq k 318 then 124 else bif Nat.beq k 319 then 125 else bif Nat.beq k 320 then 126 else bif Nat.beq k 321 then 137 else bif Nat.beq k 322 then 138 else bif Nat.beq k 337 then 135 else bif Nat.beq k 338 then 136 else k,fun k=>bif Nat.beq k 0 then 0 else bif Nat.beq k 2 then 2 else bif Nat.beq k 3 then 3 else bif Nat.beq k 4 then 4 else bif Nat.beq k 5 then 5 else bif Nat.beq k 9 then 9 else bif Nat.beq k 20 then 20 else bif Nat.beq k 21 then 21 else bif Nat.beq k 37 then 28 else bif Nat.beq k 46 then 89 else bif Nat.beq k 51 then 121 else bif Nat.beq k 53 then 106 else bif Nat.beq k 75 then 81 else bif Nat.beq k 76 then 82 else bif Nat.beq k 80 then 102 else bif Nat.beq k 85 then 112 else bif Nat.beq k 127 then 117 else bif Nat.beq k 143 then 143 else bif Nat.beq k 145 then 145 else bif Nat.beq k 167 then 111 else bif Nat.beq k 168 then 114 else bif Nat.beq k 171 then 105 else bif Nat.beq k 173 then 109 else bif Nat.beq k 175 then 131 else bif Nat.beq k 210 then 134 else bif Nat.beq k 212 then 120 else bif Nat.beq k 213 then 122 else bif Nat.beq k 232 then 146 else bif Nat.beq k 233 then 147 else k,fun k=>bif Nat.beq k 15 then 4 else bif Nat.beq k 16 then 5 else bif Nat.beq k 17 then 1 else bif Nat.beq k 18 then 6 else bif Nat.beq k 19 then 7 else k⟩
set_option maxRecDepth 100000 in
theorem laysA : Go.Proofs.LaysC.n172 prog renA where
 mixed := by kernel_rfl
 f129 := by kernel_rfl
 f171 := by kernel_rfl
 f172 := by kernel_rfl
 f205 := by kernel_rfl
 f243 := by kernel_rfl
 f244 := by kernel_rfl
 f245 := by kernel_rfl
 f246 := by kernel_rfl
 f247 := by kernel_rfl
 f279 := by kernel_rfl
 f280 := by kernel_rfl
 f281 := by kernel_rfl
 f282 := by kernel_rfl
 f283 := by kernel_rfl
 f284 := by kernel_rfl
 f285 := by kernel_rfl
 f286 := by kernel_rfl
 f287 := by kernel_rfl
 f316 := by kernel_rfl
 f317 := by kernel_rfl
 f318 := by kernel_rfl
 f319 := by kernel_rfl
 f320 := by kernel_rfl
 f321 := by kernel_rfl
 f322 := by kernel_rfl
 f337 := by kernel_rfl
 f338 := by kernel_rfl
 t0 := underlying0
 a0 := isAgg0
 z0 := sizeOf0
 v0 := zeroValue0
 t2 := underlying2
 a2 := isAgg2
 z2 := sizeOf2
 v2 := zeroValue2
 t3 := underlying3
 a3 := isAgg3
 z3 := sizeOf3
 v3 := zeroValue3
 t4 := underlying4
 a4 := isAgg4
 z4 := sizeOf4
 v4 := zeroValue4
 t5 := underlying5
 a5 := isAgg5
 z5 := sizeOf5
 v5 := zeroValue5
 t9 := underlying9
 a9 := isAgg9
 z9 := sizeOf9
 v9 := zeroValue9
 t20 := underlying20
 a20 := isAgg20
 z20 := sizeOf20
 v20 := zeroValue20
 t21 := underlying21
 a21 := isAgg21
 z21 := sizeOf21
 v21 := zeroValue21
 t37 := underlying28
 a37 := isAgg28
 z37 := sizeOf28
 v37 := zeroValue28
 t46 := underlying89
 a46 := isAgg89
 z46 := sizeOf89
 v46 := zeroValue89
 t51 := underlying121
 a51 := isAgg121
 z51 := sizeOf121
 v51 := zeroValue121
 t53 := underlying106
 a53 := isAgg106
 z53 := sizeOf106
 v53 := zeroValue106
 t75 := underlying81
 a75 := isAgg81
 z75 := sizeOf81
 v75 := zeroValue81
 t76 := underlying82
 a76 := isAgg82
 z76 := sizeOf82
 v76 := zeroValue82
 t85 := underlying112
 a85 := isAgg112
 z85 := sizeOf112
 v85 := zeroValue112
 t127 := underlying117
 a127 := isAgg117
 z127 := sizeOf117
 v127 := zeroValue117
 t143 := underlying143
 a143 := isAgg143
 z143 := sizeOf143
 v143 := zeroValue143
 t145 := underlying145
 a145 := isAgg145
 z145 := sizeOf145
 v145 := zeroValue145
 t167 := underlying111
 a167 := isAgg111
 z167 := sizeOf111
 v167 := zeroValue111
 t168 := underlying114
 a168 := isAgg114
 z168 := sizeOf114
 v168 := zeroValue114
 t171 := underlying105
 a171 := isAgg105
 z171 := sizeOf105
 v171 := zeroValue105
 t173 := underlying109
 a173 := isAgg109
 z173 := sizeOf109
 v173 := zeroValue109
 t175 := underlying131
 a175 := isAgg131
 z175 := sizeOf131
 v175 := zeroValue131
 t210 := underlying134
 a210 := isAgg134
 z210 := sizeOf134
 v210 := zeroValue134
 t212 := underlying120
 a212 := isAgg120
 z212 := sizeOf120
 v212 := zeroValue120
 t213 := underlying122
 a213 := isAgg122
 z213 := sizeOf122
 t232 := underlying146
 a232 := isAgg146
 z232 := sizeOf146
 v232 := zeroValue146
 t233 := underlying147
 a233 := isAgg147
 z233 := sizeOf147
 v233 := zeroValue147
 g15 := by kernel_rfl
 g16 := by kernel_rfl
 g17 := by kernel_rfl
 g18 := by kernel_rfl
 g19 := by kernel_rfl
 t80 := underlying102
 a80 := isAgg102
 z80 := sizeOf102
 v80 := zeroValue102
 i0 := by kernel_rfl
 i2 := by kernel_rfl
 i3 := by kernel_rfl
 i4 := by kernel_rfl
 i5 := by kernel_rfl
 i9 := by kernel_rfl
 i20 := by kernel_rfl
 i21 := by kernel_rfl
 i37 := by kernel_rfl
 i46 := by kernel_rfl
 i51 := by kernel_rfl
 i53 := by kernel_rfl
 i75 := by kernel_rfl
 i76 := by kernel_rfl
 i80 := by kernel_rfl
 i85 := by kernel_rfl
 i127 := by kernel_rfl
 i143 := by kernel_rfl
 i145 := by kernel_rfl
 i167 := by kernel_rfl
 i168 := by kernel_rfl
 i171 := by kernel_rfl
 i173 := by kernel_rfl
 i175 := by kernel_rfl
 i210 := by kernel_rfl
 i212 := by kernel_rfl
 i232 := by kernel_rfl
 i233 := by kernel_rfl
 m15 := by kernel_rfl
 m16 := by kernel_rfl
 m17 := by kernel_rfl
 m18 := by kernel_rfl
 m19 := by kernel_rfl
 c0 := by kernel_rfl
 c2 := by kernel_rfl
 c3 := by kernel_rfl
 c4 := by kernel_rfl
 c5 := by kernel_rfl
 c9 := by kernel_rfl
 c20 := by kernel_rfl
 c21 := by kernel_rfl
 c37 := by kernel_rfl
 c46 := by kernel_rfl
 c51 := by kernel_rfl
 c53 := by kernel_rfl
 c75 := by kernel_rfl
 c76 := by kernel_rfl
 c80 := by kernel_rfl
 c85 := by kernel_rfl
 c127 := by kernel_rfl
 c143 := by kernel_rfl
 c145 := by kernel_rfl
 c167 := by kernel_rfl
 c168 := by kernel_rfl
 c171 := by kernel_rfl
 c173 := by kernel_rfl
 c175 := by kernel_rfl
 c210 := by kernel_rfl
 c212 := by kernel_rfl
 c213 := by kernel_rfl
 c232 := by kernel_rfl
 c233 := by kernel_rfl
theorem ok73 : FnOK prog 73 fs73 := atoi_ok laysA (by decide) (by decide)
theorem ent73 : Entr prog 73 := ⟨_,func73,rfl,by decide⟩
end Go.Proofs.Tryz

set_option linter.unusedSimpArgs false
set_option linter.unusedVariables false
namespace Go.Proofs.Tryz
open Go.Ab Go.RowKit
def fs51 : FnS := fnS [.o] [.str] (fun _ (w,_)=>(.agg [.i ((readI w.data.toList).proc),.i ((readI w.data.toList).obj),.i ((readI w.data.toList).kind),.i ((readI w.data.toList).arg),.i ((readI w.data.toList).ret),.i ((readI w.data.toList).frm),.i ((readI w.data.toList).to)],[],(w.size≤2000000)))
abbrev T51 : Tab := lk [(71,fs71),(72,fs72),(73,fs73)]
theorem tab51 : TabOK prog T51 := (TabOK.cons ok71 ent71 (TabOK.cons ok72 ent72 (TabOK.cons ok73 ent73 TabOK.nil)))
abbrev v510 (w:ByteArray):AV:=.v (.string (cutB1 w (⟨#[61]⟩:ByteArray)))
abbrev v511 (w:ByteArray):AV:=.v (.string (cutB1 (cutB2 w (⟨#[61]⟩:ByteArray)) (⟨#[64]⟩:ByteArray)))
abbrev v512 (w:ByteArray):AV:=.v (.string (cutB1 (cutB2 (cutB2 w (⟨#[61]⟩:ByteArray)) (⟨#[64]⟩:ByteArray)) (⟨#[45]⟩:ByteArray)))
abbrev v513 (w:ByteArray):AV:=.v (.string (cutB2 (cutB2 (cutB2 w (⟨#[61]⟩:ByteArray)) (⟨#[64]⟩:ByteArray)) (⟨#[45]⟩:ByteArray)))
abbrev v514 (w:ByteArray):AV:=.i ((((UInt8.toNat (List.getD (cutB1 w (⟨#[61]⟩:ByteArray)).data.toList 0 0)):Nat):Int) - (48:Int))
abbrev v515 (w:ByteArray):AV:=.i ((((UInt8.toNat (List.getD (cutB1 w (⟨#[61]⟩:ByteArray)).data.toList 1 0)):Nat):Int) - (120:Int))
abbrev v516 (w:ByteArray):AV:=.i (Lib.indexByte (⟨#[112,116,108]⟩:ByteArray).data.toList (Int.toNat (((UInt8.toNat (List.getD (cutB1 w (⟨#[61]⟩:ByteArray)).data.toList 2 0)):Nat):Int)).toUInt8)
abbrev v517 (w:ByteArray):AV:=.i ((((UInt8.toNat (List.getD (cutB1 w (⟨#[61]⟩:ByteArray)).data.toList 3 0)):Nat):Int) - (48:Int))
abbrev v518 (w:ByteArray):AV:=.i (atoiV (cutB1 (cutB2 w (⟨#[61]⟩:ByteArray)) (⟨#[64]⟩:ByteArray)).data.toList)
abbrev v519 (w:ByteArray):AV:=.i (atoiV (cutB1 (cutB2 (cutB2 w (⟨#[61]⟩:ByteArray)) (⟨#[64]⟩:ByteArray)) (⟨#[45]⟩:ByteArray)).data.toList)
abbrev v5110 (w:ByteArray):AV:=.i (atoiV (cutB2 (cutB2 (cutB2 w (⟨#[61]⟩:ByteArray)) (⟨#[64]⟩:ByteArray)) (⟨#[45]⟩:ByteArray)).data.toList)
theorem ok51 : FnOK prog 51 fs51 := by
 refine FnOK.mk cok func51 rfl rfl rfl ?_
 rintro fl ⟨(w:ByteArray),_⟩ hpre F hnt0 _
 have hnt : F.nt=70 := hnt0.trans ntmps51
 replace hpre : (w.size≤2000000) := hpre
 have hz := hpre
 refine W.to (⟨[(0,.v (.string w))],[],[999]⟩) rfl ?_
 have c1 := cut_size w (⟨#[61]⟩:ByteArray)
 have c2 := cut_size (cutB2 w (⟨#[61]⟩:ByteArray)) (⟨#[64]⟩:ByteArray)
 have c3 := cut_size (cutB2 (cutB2 w (⟨#[61]⟩:ByteArray)) (⟨#[64]⟩:ByteArray)) (⟨#[45]⟩:ByteArray)
 have hu : ∀ (s:ByteArray) (i:Nat),((UInt8.toNat (List.getD s.data.toList i 0):Nat):Int)≤255 := fun s i=>by have := (List.getD s.data.toList i 0).toNat_lt; omega
 refine kS tab51 hnt [(0,.v (.string w)),(2,.ptr 2 0)] [(2,⟨59,.fix [.i (0:Int),.i (0:Int),.i (0:Int),.i (0:Int),.i (0:Int),.i (0:Int),.i (0:Int)]⟩)] [2,999] 2 [] tt ?_
 refine kE tab51 hnt [(2,.ptr 2 0),(3,(v510 w)),(4,.v (.string (cutB2 w (⟨#[61]⟩:ByteArray))))] 5719199413196 [(⟨#[61]⟩:ByteArray).size=1,w.size≤2000000] ⟨(by rfl),(by omega)⟩ ?_
 refine kE tab51 hnt [(2,.ptr 2 0),(3,(v510 w)),(6,(v511 w)),(7,.v (.string (cutB2 (cutB2 w (⟨#[61]⟩:ByteArray)) (⟨#[64]⟩:ByteArray))))] 5719199413196 [(⟨#[64]⟩:ByteArray).size=1,(cutB2 w (⟨#[61]⟩:ByteArray)).size≤2000000] ⟨(by rfl),(by omega)⟩ ?_
 refine kE tab51 hnt [(2,.ptr 2 0),(3,(v510 w)),(6,(v511 w)),(9,(v512 w)),(10,(v513 w))] 5719199413196 [(⟨#[45]⟩:ByteArray).size=1,(cutB2 (cutB2 w (⟨#[61]⟩:ByteArray)) (⟨#[64]⟩:ByteArray)).size≤2000000] ⟨(by rfl),(by omega)⟩ ?_
 refine kS tab51 hnt [(2,.ptr 2 0),(3,(v510 w)),(6,(v511 w)),(9,(v512 w)),(10,(v513 w)),(12,.ptr 12 0)] [(2,⟨59,.fix [.i (0:Int),.i (0:Int),.i (0:Int),.i (0:Int),.i (0:Int),.i (0:Int),.i (0:Int)]⟩),(12,⟨59,.fix [.i (0:Int),.i (0:Int),.i (0:Int),.i (0:Int),.i (0:Int),.i (0:Int),.i (0:Int)]⟩)] [12,2,999] 668 [] tt ?_
 refine W.seq ?_
 refine kE tab51 hnt [(2,.ptr 2 0),(3,(v510 w)),(6,(v511 w)),(9,(v512 w)),(10,(v513 w)),(12,.ptr 12 0),(34,.b (decide (((((cutB1 w (⟨#[61]⟩:ByteArray)).size):Nat):Int)=(4:Int))))] 5042 [] tt ?_
 refine ifp (((((cutB1 w (⟨#[61]⟩:ByteArray)).size):Nat):Int)=(4:Int)) ?_ ?_
 ·intro h34
  have hu0 := hu (cutB1 w (⟨#[61]⟩:ByteArray)) 0
  have hu1 := hu (cutB1 w (⟨#[61]⟩:ByteArray)) 1
  have hu3 := hu (cutB1 w (⟨#[61]⟩:ByteArray)) 3
  obtain ⟨_,_,_,_,_,_,_⟩ := cd_eta _ _ _ _ _ _ _ _ (ri_four (w := w) (sep1 := (⟨#[61]⟩:ByteArray)) (sep2 := (⟨#[64]⟩:ByteArray)) (sep3 := (⟨#[45]⟩:ByteArray)) rfl rfl rfl h34)
  refine lA tab51 hnt [(2,.ptr 2 0),(6,(v511 w)),(9,(v512 w)),(10,(v513 w)),(12,.ptr 12 0)] [(2,⟨59,.fix [.i (0:Int),.i (0:Int),.i (0:Int),.i (0:Int),.i (0:Int),.i (0:Int),.i (0:Int)]⟩),(12,⟨59,.fix [(v514 w),(v515 w),(v516 w),(v517 w),.i (0:Int),.i (0:Int),.i (0:Int)]⟩)] [12,2,999] 70551285532467976315078320822103096597659224 [0≤(0:Int),(0:Int)<(((cutB1 w (⟨#[61]⟩:ByteArray)).size:Nat):Int),Fits .i64 (((UInt8.toNat (List.getD (cutB1 w (⟨#[61]⟩:ByteArray)).data.toList 0 0)):Nat):Int),Fits .i64 ((((UInt8.toNat (List.getD (cutB1 w (⟨#[61]⟩:ByteArray)).data.toList 0 0)):Nat):Int) - (48:Int)),0≤(1:Int),(1:Int)<(((cutB1 w (⟨#[61]⟩:ByteArray)).size:Nat):Int),Fits .i64 (((UInt8.toNat (List.getD (cutB1 w (⟨#[61]⟩:ByteArray)).data.toList 1 0)):Nat):Int),Fits .i64 ((((UInt8.toNat (List.getD (cutB1 w (⟨#[61]⟩:ByteArray)).data.toList 1 0)):Nat):Int) - (120:Int)),0≤(2:Int),(2:Int)<(((cutB1 w (⟨#[61]⟩:ByteArray)).size:Nat):Int),0≤(3:Int),(3:Int)<(((cutB1 w (⟨#[61]⟩:ByteArray)).size:Nat):Int),Fits .i64 (((UInt8.toNat (List.getD (cutB1 w (⟨#[61]⟩:ByteArray)).data.toList 3 0)):Nat):Int),Fits .i64 ((((UInt8.toNat (List.getD (cutB1 w (⟨#[61]⟩:ByteArray)).data.toList 3 0)):Nat):Int) - (48:Int))] ⟨om,(by omega),(by exact fits_i64 (by omega) (by omega)),(by exact fits_i64 (by omega) (by omega)),om,(by omega),(by exact fits_i64 (by omega) (by omega)),(by exact fits_i64 (by omega) (by omega)),om,(by omega),om,(by omega),(by exact fits_i64 (by omega) (by omega)),(by exact fits_i64 (by omega) (by omega))⟩ ?_
  refine thenQ_normal ?_
  refine kS tab51 hnt [(2,.ptr 2 0),(9,(v512 w)),(10,(v513 w)),(12,.ptr 12 0)] [(2,⟨59,.fix [.i (0:Int),.i (0:Int),.i (0:Int),.i (0:Int),.i (0:Int),.i (0:Int),.i (0:Int)]⟩),(12,⟨59,.fix [(v514 w),(v515 w),(v516 w),(v517 w),(v518 w),.i (0:Int),.i (0:Int)]⟩)] [12,2,999] 3196225973 [(cutB1 (cutB2 w (⟨#[61]⟩:ByteArray)) (⟨#[64]⟩:ByteArray)).size≤2000000] (by omega) ?_
  refine kS tab51 hnt [(2,.ptr 2 0),(10,(v513 w)),(12,.ptr 12 0)] [(2,⟨59,.fix [.i (0:Int),.i (0:Int),.i (0:Int),.i (0:Int),.i (0:Int),.i (0:Int),.i (0:Int)]⟩),(12,⟨59,.fix [(v514 w),(v515 w),(v516 w),(v517 w),(v518 w),(v519 w),.i (0:Int)]⟩)] [12,2,999] 3196225973 [(cutB1 (cutB2 (cutB2 w (⟨#[61]⟩:ByteArray)) (⟨#[64]⟩:ByteArray)) (⟨#[45]⟩:ByteArray)).size≤2000000] (by omega) ?_
  refine kS tab51 hnt [(2,.ptr 2 0),(12,.ptr 12 0)] [(2,⟨59,.fix [.i (0:Int),.i (0:Int),.i (0:Int),.i (0:Int),.i (0:Int),.i (0:Int),.i (0:Int)]⟩),(12,⟨59,.fix [(v514 w),(v515 w),(v516 w),(v517 w),(v518 w),(v519 w),(v5110 w)]⟩)] [12,2,999] 3196225973 [(cutB2 (cutB2 (cutB2 w (⟨#[61]⟩:ByteArray)) (⟨#[64]⟩:ByteArray)) (⟨#[45]⟩:ByteArray)).size≤2000000] (by omega) ?_
  refine kS tab51 hnt [(2,.ptr 2 0)] [(2,⟨59,.fix [(v514 w),(v515 w),(v516 w),(v517 w),(v518 w),(v519 w),(v5110 w)]⟩),(12,⟨59,.fix [(v514 w),(v515 w),(v516 w),(v517 w),(v518 w),(v519 w),(v5110 w)]⟩)] [12,2,999] 74 [] tt ?_
  refine W.ret ?_
  exact endQ_ret (.agg [.i ((((UInt8.toNat (List.getD (cutB1 w (⟨#[61]⟩:ByteArray)).data.toList 0 0)):Nat):Int) - (48:Int)),.i ((((UInt8.toNat (List.getD (cutB1 w (⟨#[61]⟩:ByteArray)).data.toList 1 0)):Nat):Int) - (120:Int)),.i (Lib.indexByte (⟨#[112,116,108]⟩:ByteArray).data.toList (Int.toNat (((UInt8.toNat (List.getD (cutB1 w (⟨#[61]⟩:ByteArray)).data.toList 2 0)):Nat):Int)).toUInt8),.i ((((UInt8.toNat (List.getD (cutB1 w (⟨#[61]⟩:ByteArray)).data.toList 3 0)):Nat):Int) - (48:Int)),.i (atoiV (cutB1 (cutB2 w (⟨#[61]⟩:ByteArray)) (⟨#[64]⟩:ByteArray)).data.toList),.i (atoiV (cutB1 (cutB2 (cutB2 w (⟨#[61]⟩:ByteArray)) (⟨#[64]⟩:ByteArray)) (⟨#[45]⟩:ByteArray)).data.toList),.i (atoiV (cutB2 (cutB2 (cutB2 w (⟨#[61]⟩:ByteArray)) (⟨#[64]⟩:ByteArray)) (⟨#[45]⟩:ByteArray)).data.toList)]) (by kernel_rfl) (@cast (((.int .i64 ((((UInt8.toNat (List.getD (cutB1 w (⟨#[61]⟩:ByteArray)).data.toList 0 0)):Nat):Int) - (48:Int)):Value)=.int .i64 ((readI w.data.toList).proc))∧((.int .i64 ((((UInt8.toNat (List.getD (cutB1 w (⟨#[61]⟩:ByteArray)).data.toList 1 0)):Nat):Int) - (120:Int)):Value)=.int .i64 ((readI w.data.toList).obj))∧((.int .i64 (Lib.indexByte (⟨#[112,116,108]⟩:ByteArray).data.toList (Int.toNat (((UInt8.toNat (List.getD (cutB1 w (⟨#[61]⟩:ByteArray)).data.toList 2 0)):Nat):Int)).toUInt8):Value)=.int .i64 ((readI w.data.toList).kind))∧((.int .i64 ((((UInt8.toNat (List.getD (cutB1 w (⟨#[61]⟩:ByteArray)).data.toList 3 0)):Nat):Int) - (48:Int)):Value)=.int .i64 ((readI w.data.toList).arg))∧((.int .i64 (atoiV (cutB1 (cutB2 w (⟨#[61]⟩:ByteArray)) (⟨#[64]⟩:ByteArray)).data.toList):Value)=.int .i64 ((readI w.data.toList).ret))∧((.int .i64 (atoiV (cutB1 (cutB2 (cutB2 w (⟨#[61]⟩:ByteArray)) (⟨#[64]⟩:ByteArray)) (⟨#[45]⟩:ByteArray)).data.toList):Value)=.int .i64 ((readI w.data.toList).frm))∧((.int .i64 (atoiV (cutB2 (cutB2 (cutB2 w (⟨#[61]⟩:ByteArray)) (⟨#[64]⟩:ByteArray)) (⟨#[45]⟩:ByteArray)).data.toList):Value)=.int .i64 ((readI w.data.toList).to))∧Y) _ (by kernel_rfl) ⟨(congrArg (Value.int .i64) (by (try rw [u8_back]); with_reducible assumption)),(congrArg (Value.int .i64) (by (try rw [u8_back]); with_reducible assumption)),(congrArg (Value.int .i64) (by (try rw [u8_back]); with_reducible assumption)),(congrArg (Value.int .i64) (by (try rw [u8_back]); with_reducible assumption)),(congrArg (Value.int .i64) (by (try rw [u8_back]); with_reducible assumption)),(congrArg (Value.int .i64) (by (try rw [u8_back]); with_reducible assumption)),(congrArg (Value.int .i64) (by (try rw [u8_back]); with_reducible assumption)),tt⟩)
 ·intro n34
  obtain ⟨_,_,_,_,_,_,_⟩ := cd_eta _ _ _ _ _ _ _ _ (ri_not (w := w) (sep1 := (⟨#[61]⟩:ByteArray)) (sep2 := (⟨#[64]⟩:ByteArray)) (sep3 := (⟨#[45]⟩:ByteArray)) rfl rfl rfl n34)
  refine W.skip (thenQ_normal ?_)
  refine kS tab51 hnt [(2,.ptr 2 0),(9,(v512 w)),(10,(v513 w)),(12,.ptr 12 0)] [(2,⟨59,.fix [.i (0:Int),.i (0:Int),.i (0:Int),.i (0:Int),.i (0:Int),.i (0:Int),.i (0:Int)]⟩),(12,⟨59,.fix [.i (0:Int),.i (0:Int),.i (0:Int),.i (0:Int),(v518 w),.i (0:Int),.i (0:Int)]⟩)] [12,2,999] 3196225973 [(cutB1 (cutB2 w (⟨#[61]⟩:ByteArray)) (⟨#[64]⟩:ByteArray)).size≤2000000] (by omega) ?_
  refine kS tab51 hnt [(2,.ptr 2 0),(10,(v513 w)),(12,.ptr 12 0)] [(2,⟨59,.fix [.i (0:Int),.i (0:Int),.i (0:Int),.i (0:Int),.i (0:Int),.i (0:Int),.i (0:Int)]⟩),(12,⟨59,.fix [.i (0:Int),.i (0:Int),.i (0:Int),.i (0:Int),(v518 w),(v519 w),.i (0:Int)]⟩)] [12,2,999] 3196225973 [(cutB1 (cutB2 (cutB2 w (⟨#[61]⟩:ByteArray)) (⟨#[64]⟩:ByteArray)) (⟨#[45]⟩:ByteArray)).size≤2000000] (by omega) ?_
  refine kS tab51 hnt [(2,.ptr 2 0),(12,.ptr 12 0)] [(2,⟨59,.fix [.i (0:Int),.i (0:Int),.i (0:Int),.i (0:Int),.i (0:Int),.i (0:Int),.i (0:Int)]⟩),(12,⟨59,.fix [.i (0:Int),.i (0:Int),.i (0:Int),.i (0:Int),(v518 w),(v519 w),(v5110 w)]⟩)] [12,2,999] 3196225973 [(cutB2 (cutB2 (cutB2 w (⟨#[61]⟩:ByteArray)) (⟨#[64]⟩:ByteArray)) (⟨#[45]⟩:ByteArray)).size≤2000000] (by omega) ?_
  refine kS tab51 hnt [(2,.ptr 2 0)] [(2,⟨59,.fix [.i (0:Int),.i (0:Int),.i (0:Int),.i (0:Int),(v518 w),(v519 w),(v5110 w)]⟩),(12,⟨59,.fix [.i (0:Int),.i (0:Int),.i (0:Int),.i (0:Int),(v518 w),(v519 w),(v5110 w)]⟩)] [12,2,999] 74 [] tt ?_
  refine W.ret ?_
  exact endQ_ret (.agg [.i (0:Int),.i (0:Int),.i (0:Int),.i (0:Int),.i (atoiV (cutB1 (cutB2 w (⟨#[61]⟩:ByteArray)) (⟨#[64]⟩:ByteArray)).data.toList),.i (atoiV (cutB1 (cutB2 (cutB2 w (⟨#[61]⟩:ByteArray)) (⟨#[64]⟩:ByteArray)) (⟨#[45]⟩:ByteArray)).data.toList),.i (atoiV (cutB2 (cutB2 (cutB2 w (⟨#[61]⟩:ByteArray)) (⟨#[64]⟩:ByteArray)) (⟨#[45]⟩:ByteArray)).data.toList)]) (by kernel_rfl) (@cast (((.int .i64 (0:Int):Value)=.int .i64 ((readI w.data.toList).proc))∧((.int .i64 (0:Int):Value)=.int .i64 ((readI w.data.toList).obj))∧((.int .i64 (0:Int):Value)=.int .i64 ((readI w.data.toList).kind))∧((.int .i64 (0:Int):Value)=.int .i64 ((readI w.data.toList).arg))∧((.int .i64 (atoiV (cutB1 (cutB2 w (⟨#[61]⟩:ByteArray)) (⟨#[64]⟩:ByteArray)).data.toList):Value)=.int .i64 ((readI w.data.toList).ret))∧((.int .i64 (atoiV (cutB1 (cutB2 (cutB2 w (⟨#[61]⟩:ByteArray)) (⟨#[64]⟩:ByteArray)) (⟨#[45]⟩:ByteArray)).data.toList):Value)=.int .i64 ((readI w.data.toList).frm))∧((.int .i64 (atoiV (cutB2 (cutB2 (cutB2 w (⟨#[61]⟩:ByteArray)) (⟨#[64]⟩:ByteArray)) (⟨#[45]⟩:ByteArray)).data.toList):Value)=.int .i64 ((readI w.data.toList).to))∧Y) _ (by kernel_rfl) ⟨(congrArg (Value.int .i64) (by (try rw [u8_back]); with_reducible assumption)),(congrArg (Value.int .i64) (by (try rw [u8_back]); with_reducible assumption)),(congrArg (Value.int .i64) (by (try rw [u8_back]); with_reducible assumption)),(congrArg (Value.int .i64) (by (try rw [u8_back]); with_reducible assumption)),(congrArg (Value.int .i64) (by (try rw [u8_back]); with_reducible assumption)),(congrArg (Value.int .i64) (by (try rw [u8_back]); with_reducible assumption)),(congrArg (Value.int .i64) (by (try rw [u8_back]); with_reducible assumption)),tt⟩)
theorem ent51 : Entr prog 51 := ⟨_,func51,rfl,by decide⟩
end Go.Proofs.Tryz

set_option linter.unusedSimpArgs false
set_option linter.unusedVariables false
namespace Go.Proofs.Tryz
open Go.Ab Go.RowKit
def fs97 : FnS := fnS [.o,.o,.o] [.int,.int,.int] (fun _ (n,low,high,_)=>(.b (within n low high),[],Y))
abbrev T97 : Tab := lk []
theorem tab97 : TabOK prog T97 := TabOK.nil
theorem ok97 : FnOK prog 97 fs97 := by
 refine FnOK.mk cok func97 rfl rfl rfl ?_
 rintro fl ⟨(n:Int),(low:Int),(high:Int),_⟩ hpre F hnt0 _
 have hnt : F.nt=15 := hnt0.trans ntmps97
 clear hpre
 refine W.to (⟨[(0,.i n),(1,.i low),(2,.i high)],[],[999]⟩) rfl ?_
 refine kE tab97 hnt [(0,.i n),(1,.i low),(2,.i high)] 2 [] tt ?_
 refine kE tab97 hnt [(6,.b ((decide (low≤n)) && (decide (n≤high))))] 714645310511 ((fun (Z1:Bool)=>([Z1=true→Y,Z1=true→Y,Z1=true→(((Z1=true)∧Y)∧(((Z1=true)∧Y)∧Y)),Z1=true→(Z1=true)∧Y,Z1=false→Y]:PL)) (decide (low≤n))) ⟨(fun _=>trivial),(fun _=>trivial),(fun hG=>⟨⟨hG,tt⟩,⟨hG,tt⟩,tt⟩),(fun hp=>⟨hp,tt⟩),(fun _=>trivial)⟩ ?_
 refine W.ret ?_
 exact eB (show ((decide (low≤n)) && (decide (n≤high)))=(within n low high) from (by first | rfl | simp_all))
theorem ent97 : Entr prog 97 := ⟨_,func97,rfl,by decide⟩
end Go.Proofs.Tryz

set_option linter.unusedSimpArgs false
set_option linter.unusedVariables false
namespace Go.Proofs.Tryz
open Go.Ab Go.RowKit
def fs74 : FnS := fnS [.o] [.call] (fun _ (c,_)=>(.b (isCall c),[],Y))
abbrev T74 : Tab := lk [(97,fs97)]
theorem tab74 : TabOK prog T74 := (TabOK.cons ok97 ent97 TabOK.nil)
theorem ok74 : FnOK prog 74 fs74 := by
 refine FnOK.mk cok func74 rfl rfl rfl ?_
 rintro fl ⟨(c:CallD),_⟩ hpre F hnt0 _
 have hnt : F.nt=43 := hnt0.trans ntmps74
 clear hpre
 refine W.to (⟨[(0,.agg [.i c.proc,.i c.obj,.i c.kind,.i c.arg,.i c.ret,.i c.frm,.i c.to])],[],[999]⟩) rfl ?_
 refine kS tab74 hnt [(1,.ptr 1 0)] [(1,⟨59,.fix [.i c.proc,.i c.obj,.i c.kind,.i c.arg,.i c.ret,.i c.frm,.i c.to]⟩)] [1,999] 20 [] tt ?_
 refine kE tab74 hnt [(2,.b ((((((((within c.proc (0:Int) (2:Int)) && (within c.obj (0:Int) (1:Int))) && (within c.kind (0:Int) (2:Int))) && (within c.arg (0:Int) (3:Int))) && (within c.ret (-1:Int) (20:Int))) && (within c.frm (0:Int) (30:Int))) && (within c.to (0:Int) (30:Int))) && (decide (c.frm<c.to))))] 505229403142117101471675348311477733498286701797865490025 ((fun (Z1:Bool)=>((fun (Z2:Bool)=>((fun (Z3:Bool)=>((fun (Z4:Bool)=>((fun (Z5:Bool)=>((fun (Z6:Bool)=>((fun (Z7:Bool)=>([Z1=true→Y,Z1=true→((Z1=true)∧Y),Z1=true→(Y∧((((Z1=true)∧Y)∧(Y∧(Y∧Y)))∧Y)),Z1=true→(Z1=true)∧Y,Z1=false→Y,Z2=true→Y,Z2=true→((Z2=true)∧Y),Z2=true→(Y∧((((Z2=true)∧Y)∧(Y∧(Y∧Y)))∧Y)),Z2=true→(Z2=true)∧Y,Z2=false→Y,Z3=true→Y,Z3=true→((Z3=true)∧Y),Z3=true→(Y∧((((Z3=true)∧Y)∧(Y∧(Y∧Y)))∧Y)),Z3=true→(Z3=true)∧Y,Z3=false→Y,Z4=true→Y,Z4=true→((Z4=true)∧Y),Z4=true→(Y∧((((Z4=true)∧Y)∧(Y∧(Y∧Y)))∧Y)),Z4=true→(Z4=true)∧Y,Z4=false→Y,Z5=true→Y,Z5=true→((Z5=true)∧Y),Z5=true→(Y∧((((Z5=true)∧Y)∧(Y∧(Y∧Y)))∧Y)),Z5=true→(Z5=true)∧Y,Z5=false→Y,Z6=true→Y,Z6=true→((Z6=true)∧Y),Z6=true→(Y∧((((Z6=true)∧Y)∧(Y∧(Y∧Y)))∧Y)),Z6=true→(Z6=true)∧Y,Z6=false→Y,Z7=true→Y,Z7=true→((Z7=true)∧Y),Z7=true→Y,Z7=true→((Z7=true)∧Y),Z7=true→(((Z7=true)∧Y)∧(((Z7=true)∧Y)∧Y)),Z7=true→(Z7=true)∧Y,Z7=false→Y]:PL)) (Z6 && (within c.to (0:Int) (30:Int))))) (Z5 && (within c.frm (0:Int) (30:Int))))) (Z4 && (within c.ret (-1:Int) (20:Int))))) (Z3 && (within c.arg (0:Int) (3:Int))))) (Z2 && (within c.kind (0:Int) (2:Int))))) (Z1 && (within c.obj (0:Int) (1:Int))))) (within c.proc (0:Int) (2:Int))) ⟨(fun _=>trivial),(fun hG=>⟨hG,tt⟩),(fun hG=>⟨tt,⟨⟨hG,tt⟩,tt,tt,tt⟩,tt⟩),(fun hp=>⟨hp,tt⟩),(fun _=>trivial),(fun _=>trivial),(fun hG=>⟨hG,tt⟩),(fun hG=>⟨tt,⟨⟨hG,tt⟩,tt,tt,tt⟩,tt⟩),(fun hp=>⟨hp,tt⟩),(fun _=>trivial),(fun _=>trivial),(fun hG=>⟨hG,tt⟩),(fun hG=>⟨tt,⟨⟨hG,tt⟩,tt,tt,tt⟩,tt⟩),(fun hp=>⟨hp,tt⟩),(fun _=>trivial),(fun _=>trivial),(fun hG=>⟨hG,tt⟩),(fun hG=>⟨tt,⟨⟨hG,tt⟩,tt,tt,tt⟩,tt⟩),(fun hp=>⟨hp,tt⟩),(fun _=>trivial),(fun _=>trivial),(fun hG=>⟨hG,tt⟩),(fun hG=>⟨tt,⟨⟨hG,tt⟩,tt,tt,tt⟩,tt⟩),(fun hp=>⟨hp,tt⟩),(fun _=>trivial),(fun _=>trivial),(fun hG=>⟨hG,tt⟩),(fun hG=>⟨tt,⟨⟨hG,tt⟩,tt,tt,tt⟩,tt⟩),(fun hp=>⟨hp,tt⟩),(fun _=>trivial),(fun _=>trivial),(fun hG=>⟨hG,tt⟩),(fun _=>trivial),(fun hG=>⟨hG,tt⟩),(fun hG=>⟨⟨hG,tt⟩,⟨hG,tt⟩,tt⟩),(fun hp=>⟨hp,tt⟩),(fun _=>trivial)⟩ ?_
 refine W.ret ?_
 exact eB (show ((((((((within c.proc (0:Int) (2:Int)) && (within c.obj (0:Int) (1:Int))) && (within c.kind (0:Int) (2:Int))) && (within c.arg (0:Int) (3:Int))) && (within c.ret (-1:Int) (20:Int))) && (within c.frm (0:Int) (30:Int))) && (within c.to (0:Int) (30:Int))) && (decide (c.frm<c.to)))=(isCall c) from (by first | rfl | simp_all))
theorem ent74 : Entr prog 74 := ⟨_,func74,rfl,by decide⟩
end Go.Proofs.Tryz

set_option linter.unusedSimpArgs false
set_option linter.unusedVariables false
namespace Go.Proofs.Tryz
open Go.Ab Go.RowKit
def fs86 : FnS := fnS [.o,.o] [.call,.call] (fun _ (a,b,_)=>(.b (isBefore a b),[],Y))
abbrev T86 : Tab := lk []
theorem tab86 : TabOK prog T86 := TabOK.nil
theorem ok86 : FnOK prog 86 fs86 := by
 refine FnOK.mk cok func86 rfl rfl rfl ?_
 rintro fl ⟨(a:CallD),(b:CallD),_⟩ hpre F hnt0 _
 have hnt : F.nt=10 := hnt0.trans ntmps86
 clear hpre
 refine W.to (⟨[(0,.agg [.i a.proc,.i a.obj,.i a.kind,.i a.arg,.i a.ret,.i a.frm,.i a.to]),(1,.agg [.i b.proc,.i b.obj,.i b.kind,.i b.arg,.i b.ret,.i b.frm,.i b.to])],[],[999]⟩) rfl ?_
 refine kS tab86 hnt [(2,.ptr 2 0),(3,.ptr 3 0)] [(2,⟨59,.fix [.i a.proc,.i a.obj,.i a.kind,.i a.arg,.i a.ret,.i a.frm,.i a.to]⟩),(3,⟨59,.fix [.i b.proc,.i b.obj,.i b.kind,.i b.arg,.i b.ret,.i b.frm,.i b.to]⟩)] [3,2,999] 182 [] tt ?_
 refine kE tab86 hnt [(4,.b (decide (a.to<b.frm)))] 9974360 [] tt ?_
 refine W.ret ?_
 exact eB (show (decide (a.to<b.frm))=(isBefore a b) from (by first | rfl | simp_all))
theorem ent86 : Entr prog 86 := ⟨_,func86,rfl,by decide⟩
end Go.Proofs.Tryz

set_option linter.unusedSimpArgs false
set_option linter.unusedVariables false
namespace Go.Proofs.Tryz
open Go.Ab Go.RowKit
def fs75 : FnS := fnS [.o,.o] [.call,.call] (fun _ (a,b,_)=>(.b (doOverlap a b),[],Y))
abbrev T75 : Tab := lk [(86,fs86)]
theorem tab75 : TabOK prog T75 := (TabOK.cons ok86 ent86 TabOK.nil)
theorem ok75 : FnOK prog 75 fs75 := by
 refine FnOK.mk cok func75 rfl rfl rfl ?_
 rintro fl ⟨(a:CallD),(b:CallD),_⟩ hpre F hnt0 _
 have hnt : F.nt=15 := hnt0.trans ntmps75
 clear hpre
 refine W.to (⟨[(0,.agg [.i a.proc,.i a.obj,.i a.kind,.i a.arg,.i a.ret,.i a.frm,.i a.to]),(1,.agg [.i b.proc,.i b.obj,.i b.kind,.i b.arg,.i b.ret,.i b.frm,.i b.to])],[],[999]⟩) rfl ?_
 refine kS tab75 hnt [(2,.ptr 2 0),(3,.ptr 3 0)] [(2,⟨59,.fix [.i a.proc,.i a.obj,.i a.kind,.i a.arg,.i a.ret,.i a.frm,.i a.to]⟩),(3,⟨59,.fix [.i b.proc,.i b.obj,.i b.kind,.i b.arg,.i b.ret,.i b.frm,.i b.to]⟩)] [3,2,999] 182 [] tt ?_
 refine kE tab75 hnt [(4,.b ((!(isBefore a b)) && (!(isBefore b a))))] 4688789107239218 ((fun (Z1:Bool)=>([Z1=true→Y,Z1=true→Y,Z1=true→(Y∧((((Z1=true)∧Y)∧(((Z1=true)∧Y)∧Y))∧Y)),Z1=true→((Z1=true)∧Y),Z1=true→(Z1=true)∧Y,Z1=false→Y]:PL)) (!(isBefore a b))) ⟨(fun _=>trivial),(fun _=>trivial),(fun hG=>⟨tt,⟨⟨hG,tt⟩,⟨hG,tt⟩,tt⟩,tt⟩),(fun hG=>⟨hG,tt⟩),(fun hp=>⟨hp,tt⟩),(fun _=>trivial)⟩ ?_
 refine W.ret ?_
 exact eB (show ((!(isBefore a b)) && (!(isBefore b a)))=(doOverlap a b) from (by first | rfl | simp_all))
theorem ent75 : Entr prog 75 := ⟨_,func75,rfl,by decide⟩
end Go.Proofs.Tryz
