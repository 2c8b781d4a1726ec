import Derived.Test.YtmjlbcgcfloefaaFrameB
import Derived.ProofKit
import Derived.SizedLaws
import Derived.Deep.Slices
import Derived.ChangeMaps5
namespace Go.Ab
open Go.RowKit
section
variable {F : Fr} {β : Names} {e : Nat → Option AV} {s : Heap} {u : Nat → Prop} {a : Act} {w : World} {P : Program}
theorem sat_inner (h : Sat F β e s u a w) {L i : Nat} {et ti : TypeId} {ll : List (List Int)} {g cap : Nat} {gs : List (Option (Nat × Nat))} (hL : s L = some ⟨et,.grp ll ti none⟩) (hG : GrpOK w β L et ll ti none g cap gs) (hi : i < ll.length)
  {w' : World} {r' : List Int} {v : Value} (hlr : r'.length = (ll.getD i []).length) (hos : w'.os = w.os) (htape : w'.tape = w.tape) (hout : w'.output = w.output) (hsz : w.heap.size ≤ w'.heap.size)
  (hkeep : ∀ b,b < w.heap.size → (∀ c,gs.getD i none ≠ some (b,c)) → w'.heap[b]? = w.heap[b]?)
  (hrow : IRow w ti (gs.getD i none) (ll.getD i []) v) (hrow' : IRow w' ti (gs.getD i none) r' v) :
  Sat F β e (updS s L (some ⟨et,.grp (ll.set i r') ti none⟩)) u a w' := by
 have hlv : ∀ b,Live β (updS s L (some ⟨et,.grp (ll.set i r') ti none⟩)) b ↔ Live β s b := by
  intro b
  constructor
  ·rintro ⟨k,c,p,h1,h2,h3⟩
   unfold updS at h1
   by_cases hk : k = L
   ·subst hk; exact ⟨k,_,p,hL,h2,h3⟩
   ·rw [if_neg hk] at h1; exact ⟨k,c,p,h1,h2,h3⟩
  ·rintro ⟨k,c,p,h1,h2,h3⟩
   by_cases hk : k = L
   ·exact ⟨k,⟨et,.grp (ll.set i r') ti none⟩,p,by simp [updS,hk],h2,h3⟩
   ·exact ⟨k,c,p,by simp [updS,hk,h1],h2,h3⟩
 have hinner : ∀ b c,gs.getD i none = some (b,c) → (Bl.grp g cap gs).has b := fun b c hb => .inr ⟨c,getD_mem_some hb⟩
 have hk : ∀ b,b < w.heap.size → ¬ Live β s b → w'.heap[b]? = w.heap[b]? := fun b hb hnl => hkeep b hb (fun c hc => hnl ⟨L,_,_,hL,hG.1,hinner b c hc⟩)
 obtain ⟨hT,hw⟩ := h.grow (w' := w') (β' := β) (s' := updS s L (some ⟨et,.grp (ll.set i r') ti none⟩)) hsz hk (fun b hb _ => (hlv b).1 hb)
 have hsome : ∀ k c1,updS s L (some ⟨et,.grp (ll.set i r') ti none⟩) k = some c1 → ∃ c2,s k = some c2 := by
  intro k c1 hk
  unfold updS at hk
  by_cases he : k = L
  ·subst he; exact ⟨_,hL⟩
  ·rw [if_neg he] at hk; exact ⟨_,hk⟩
 refine h.step hos htape hout hsz hk (fun _ _ h => h) h.dom (fun b hb _ => (hlv b).1 hb) ?_ ?_ ?_
 ·intro k c' hk'
  unfold updS at hk'
  by_cases he : k = L
  ·subst he
   simp only [if_true,Option.some.injEq] at hk'
   subst hk'
   simp only [LocOK,CellsOK]
   obtain ⟨b1,b2,b3,b4,b5,b6,cur,b7,b8,b9⟩ := hG
   refine .inr ⟨g,cap,gs,b1,by rw [List.length_set]; exact b2,by rw [List.length_set]; exact b3,b4,fun b c hm => ⟨(b5 b c hm).1,by have := (b5 b c hm).2; omega⟩,b6,cur,?_,b8,fun j hj => ?_⟩
   ·rw [hkeep g (Array.getElem?_eq_some_iff.1 b7).1 (fun c hc => (b5 g c (getD_mem_some hc)).1 rfl)]; exact b7
   ·rw [List.length_set] at hj
    obtain ⟨y,hy,hg⟩ := b9 j hj
    have hg' : IRow w ti (gs.getD j none) (ll.getD j []) y := by
     rcases hg with ⟨nm,h3,_⟩ | ⟨_,h3⟩
     ·cases h3
     ·exact h3
    refine ⟨y,hy,.inr ⟨by simp,?_⟩⟩
    by_cases hji : j = i
    ·subst hji
     have e1 : (ll.set j r').getD j [] = r' := by simp [List.getD_eq_getElem?_getD,hj]
     rw [e1]
     have hvy : v = y := by
      rcases hrow with ⟨h1,h2,h3⟩ | ⟨g1,c1,arr,h1,h2,_⟩ <;> rcases hg' with ⟨k1,k2,k3⟩ | ⟨g2,c2,arr2,k1,k2,_⟩
      ·rw [h3,k3]
      ·rw [h1] at k1; cases k1
      ·rw [h1] at k1; cases k1
      ·rw [h1] at k1; cases k1; rw [h2,k2]
     rw [← hvy]; exact hrow'
    ·have e1 : (ll.set i r').getD j [] = ll.getD j [] := by simp [List.getD_eq_getElem?_getD,Ne.symm hji]
     rw [e1]
     refine hg'.mono (fun b c hb => hkeep b (b5 b c (getD_mem_some hb)).2 (fun c' hc' => hji ?_))
     exact b6 j i b c c' (getD_of_lt hb) (getD_of_lt hc')
  ·rw [if_neg he] at hk'
   refine CellsOK.mono hT hw (fun _ _ h => h) hsz (fun p b hb hp => hkeep b (Live.lt h ⟨k,c',p,hk',hb,hp⟩) (fun c hc => he ?_)) (h.loc k c' hk')
   exact h.inj k L c' _ p _ b hk' hL hb hG.1 hp (hinner b c hc)
 ·intro k k' c1 c2 p1 p2 b h1 h2 h3 h4 hp hp'
  obtain ⟨c3,h5⟩ := hsome k c1 h1
  obtain ⟨c4,h6⟩ := hsome k' c2 h2
  exact h.inj k k' c3 c4 p1 p2 b h5 h6 h3 h4 hp hp'
 ·intro k c1 p b h1 h2 hp
  obtain ⟨c3,h5⟩ := hsome k c1 h1
  exact h.out k c3 p b h5 h2 hp
end
section
variable {F : Fr} {P : Program} {D : CD} {ops : Array Oper} {st : St} {Q : Post} {nt k : Nat}
theorem WI.callIn {f : FuncId} {R : HR} {o : Oper} {ys : Array Operand} {ts : Array TypeId} (L i : Nat) (et ti : TypeId) (ll : List (List Int)) (r r' : List Int) (kv : Value) (val : AV) (px : AV)
  (hok : HOK P f [911] [.own 911 r.length,.v kv] [(911,⟨ti,.row (.ints r)⟩)] [911] R) (hR : ∀ r1 s1 u1,R r1 s1 u1 → r1 = val ∧ s1 = [(911,⟨ti,.row (.ints r')⟩)]) (hval : val.free = true) (hE : Entr P f) (hn : F.nt = nt) (ho : ops[k]? = some o)
  (hop : o.op = .call { callee := .value (.func f),args := ys,argTypes := ts }) (hw : WantedB F ops o st true) (hargs : argsA (lk st.e) ys.toList = some [px,.v kv]) (hpc : px.core = .oi L i r.length) (hpp : px.cond)
  (hL : lk st.s L = some ⟨et,.grp ll ti none⟩) (hr : r = ll.getD i []) (hi : i < ll.length) (hlr : r'.length = r.length) (hd : dstOK o.dst nt = true)
  (h : WI P F ops (k + 1) ⟨putO o.dst val st.e,put L ⟨et,.grp (ll.set i r') ti none⟩ st.s,st.u⟩ Q) : WI P F ops k st Q := by
 unfold WI at h ⊢
 rw [drop_at ho]
 intro a w β hs
 have hs' : Sat F β (lk st.e) (lk st.s) (fun k => k ∈ st.u) a w := hs
 unfold wpList
 rw [if_pos (hw a w β hs)]
 left
 have hrep := argsA_ok hs' hargs
 obtain ⟨v0,v1,hvs,hr0,hr1⟩ : ∃ v0 v1,ys.toList.map a.eval = [v0,v1] ∧ Rep w (Stab F β (lk st.s) w) β px v0 ∧ v1 = kv := by
  match hh : ys.toList.map a.eval,hrep with
  | [v0,v1],hrep => simp only [RepL,Rep,and_true] at hrep; exact ⟨v0,v1,rfl,hrep.1,hrep.2⟩
  | [],hrep => simp [RepL] at hrep
  | [_],hrep => simp [RepL] at hrep
  | _ :: _ :: _ :: _,hrep => simp [RepL] at hrep
 subst hr1
 have hr0' := hr0.core hpp
 rw [hpc] at hr0'
 simp only [Rep,InRep] at hr0'
 subst hr
 have hloc := hs'.loc L _ hL
 simp only [LocOK,CellsOK] at hloc
 rcases hloc with ⟨b1,b2⟩ | ⟨g,cap,gs,hG⟩
 ·rw [b2] at hi; simp at hi
 obtain ⟨g',cap',gs',e1,hv⟩ := hr0'
 have e0 := e1
 rw [hG.1] at e1
 simp only [Option.some.injEq,Bl.grp.injEq] at e1
 obtain ⟨rfl,rfl,rfl⟩ := e1
 have hG' := hG
 obtain ⟨b1,b2,b3,b4,b5,b6,cur,b7,b8,b9⟩ := hG
 obtain ⟨y,hy,hg⟩ := b9 i hi
 have hrow0 : IRow w ti (gs.getD i none) (ll.getD i []) y := by
  rcases hg with ⟨nm,h3,_⟩ | ⟨_,h3⟩
  ·cases h3
  ·exact h3
 have hrow : IRow w ti (gs.getD i none) (ll.getD i []) v0 := by
  have hyv : y = v0 := by
   rcases hrow0 with ⟨h1,h2,h3⟩ | ⟨g1,c1,arr,h1,h2,_⟩ <;> rcases hv with ⟨k1,k2,k3⟩ | ⟨g2,c2,k1,k2,k3⟩
   ·rw [h3,k3]
   ·rw [List.getD_eq_getElem?_getD,k1] at h1; cases h1
   ·rw [List.getD_eq_getElem?_getD,k1] at h1; cases h1
   ·rw [List.getD_eq_getElem?_getD,k1] at h1; cases h1; rw [h2,k3]
  rw [← hyv]; exact hrow0
 let β0 : Names := fun l => if l = 911 then some (ibBl (gs.getD i none)) else none
 have hβ0 : β0 911 = some (ibBl (gs.getD i none)) := if_pos rfl
 have hlk : ∀ (rr : List Int) l c,lk [(911,(⟨ti,.row (.ints rr)⟩ : LB))] l = some c → l = 911 ∧ c = ⟨ti,.row (.ints rr)⟩ := by
  intro rr l c hl
  simp only [lk] at hl
  by_cases h9 : l = 911
  ·rw [if_pos h9] at hl; cases hl; exact ⟨h9,rfl⟩
  ·rw [if_neg h9] at hl; cases hl
 have hblk : ∀ b,(ibBl (gs.getD i none)).has b → ∃ c,gs.getD i none = some (b,c) := by
  intro b hb
  cases hgi : gs.getD i none with
  | none => rw [hgi] at hb; exact hb.elim
  | some q => rw [hgi] at hb; obtain ⟨q1,q2⟩ := q; have hb : b = q1 := hb; subst hb; exact ⟨q2,rfl⟩
 have hlive0 : ∀ b,Live β0 (lk [(911,(⟨ti,.row (.ints (ll.getD i []))⟩ : LB))]) b → ∃ c,gs.getD i none = some (b,c) := by
  rintro b ⟨l,c,p,h1,h2,hq⟩
  obtain ⟨rfl,_⟩ := hlk _ l c h1
  rw [hβ0] at h2
  cases h2
  exact hblk b hq
 have hin : ∀ b c,gs.getD i none = some (b,c) → Live β (lk st.s) b := fun b c hb => ⟨L,_,_,hL,b1,.inr ⟨c,getD_mem_some hb⟩⟩
 have hcalls := hok w (Stab F β (lk st.s) w) β0 [v0,v1] (fun b hb => ⟨Stab.lt hs' hb,fun hl => by
   obtain ⟨c,hc⟩ := hlive0 b hl
   exact hb.2 (hin b c hc)⟩)
  (fun l p hl => by
   by_cases h9 : l = 911
   ·simp [h9]
   ·simp only [β0,if_neg h9] at hl; cases hl)
  (fun l c hl => by
   obtain ⟨rfl,rfl⟩ := hlk _ l c hl
   simp only [LocOK,CellsOK]
   rcases hrow with ⟨h1,h2,_⟩ | ⟨g1,c1,arr,h1,h2,h3,h4,h5,h6,h7⟩
   ·exact .inl ⟨by rw [hβ0,h1]; rfl,by rw [h2]; rfl⟩
   ·refine .inr ⟨g1,c1,arr,by rw [hβ0,h1]; rfl,h3,h4,h5,by simpa [Dat.esz] using h6,fun j jj x hj hx => ?_⟩
    cases jj with
    | succ jj => simp [Dat.elem] at hx
    | zero =>
     simp only [Dat.elem,List.getElem?_cons_zero,Option.some.injEq] at hx
     subst hx
     exact ⟨_,by simpa [Dat.esz] using h7 j hj,by simp [Rep]⟩)
  (fun l l' c c' p p' b h1 h2 _ _ _ _ => by rw [(hlk _ l c h1).1,(hlk _ l' c' h2).1])
  (by
   simp only [RepL,Rep,and_true]
   rw [hβ0]
   rcases hrow with ⟨h1,h2,h3⟩ | ⟨g1,c1,arr,h1,h2,h3,h4,_⟩
   ·exact .inl ⟨by rw [h1]; rfl,by rw [h2]; rfl,h3⟩
   ·exact .inr ⟨g1,c1,by rw [h1]; rfl,h4,h2⟩)
 unfold Oper.wp
 rw [run_resolve hE hop (caps := #[]) (by simp [Act.eval])]
 simp only [Oper.upon]
 have he : ys.map a.eval ++ #[] = ([v0,v1] : List Value).toArray := by
  apply Array.toList_inj.1
  simpa using hvs
 rw [he]
 refine hcalls.mono (fun en w' hpost => ?_)
 obtain ⟨y',β1,r1,s1,u1,rfl,hR1,hp,hd1,hpn⟩ := hpost
 obtain ⟨rfl,rfl⟩ := hR r1 s1 u1 hR1
 have hb1 := hpn 911 (by simp) _ hβ0
 have hl1 := hp.loc 911 ⟨ti,.row (.ints r')⟩ (by simp [lk])
 have hkeep : ∀ b,b < w.heap.size → (∀ c,gs.getD i none ≠ some (b,c)) → w'.heap[b]? = w.heap[b]? := fun b hb hall => hp.keep b hb (fun hl => by
  obtain ⟨c,hc⟩ := hlive0 b hl
  exact hall c hc)
 have hrow' : IRow w' ti (gs.getD i none) r' v0 := by
  simp only [LocOK,CellsOK] at hl1
  rw [hb1] at hl1
  rcases hrow with ⟨h1,h2,h3⟩ | ⟨g1,c1,arr,h1,h2,h3,h4,h5,h6,h7⟩
  ·rw [h1] at hl1
   refine .inl ⟨h1,List.eq_nil_of_length_eq_zero (by rw [hlr,h2]; rfl),h3⟩
  ·rw [h1] at hl1
   rcases hl1 with ⟨k1,_⟩ | ⟨g2,c2,cur2,k1,k2,k3,k4,k5,k6⟩
   ·cases k1
   ·simp only [ibBl,Option.some.injEq,Bl.blk.injEq] at k1
    obtain ⟨rfl,rfl⟩ := k1
    refine .inr ⟨g1,c1,cur2,h1,by rw [h2,hlr],k2,k3,k4,by simpa [Dat.esz] using k5,fun j hj => ?_⟩
    obtain ⟨z,hz,hrz⟩ := k6 j 0 (.v (.int .i64 (r'.getD j 0))) hj (by simp [Dat.elem])
    simp only [Rep] at hrz
    subst hrz
    simpa [Dat.esz] using hz
 have hsat := sat_inner hs' hL hG' hi hlr hp.os hp.tape hp.output hp.size hkeep hrow hrow'
 show wpList P ops (liftQ F Q) _ (a.put o.dst y') w'
 refine h _ w' β ?_
 unfold SatL
 simp only
 rw [lk_putO]
 have e1 : lk (put L ⟨et,.grp (ll.set i r') ti none⟩ st.s) = updS (lk st.s) L (some ⟨et,.grp (ll.set i r') ti none⟩) := by funext t; rw [lk_put]; rfl
 rw [e1]
 exact hsat.put (Rep.free _ _ hval hp.rep) (fun d hd' => by rw [hn]; exact dstOK_ok hd d hd')
end
end Go.Ab

namespace Go.Ab
open Go.RowKit
section
variable {F : Fr} {β : Names} {e : Nat → Option AV} {s : Heap} {u : Nat → Prop} {a : Act} {w : World} {P : Program}
theorem Sat.recell (h : Sat F β e s u a w) {l0 : Nat} {t0 : TypeId} {xs xs' : List AV} (hl : s l0 = some ⟨t0,.fix xs⟩) (hx : ∀ ys,RepL w (Stab F β s w) β xs ys → RepL w (Stab F β s w) β xs' ys) :
  Sat F β e (updS s l0 (some ⟨t0,.fix xs'⟩)) u a w := by
 have hloc := h.loc l0 _ hl
 simp only [LocOK,CellsOK] at hloc
 obtain ⟨g,cap,arr,b1,b2,b3⟩ := hloc
 refine h.turn (g0 := g) hl b1 rfl rfl rfl rfl rfl (fun _ _ => rfl) (fun _ => ?_)
 simp only [CellsOK]
 exact ⟨g,cap,arr,b1,b2,hx _ b3⟩
end
section
variable {P : Program} {F : Fr} {st : St} {Q : Post} {c : Code}
theorem Sub.nilGrp (t l : Nat) (ty ti : TypeId) (hx : lk st.e t = some (.v (.slice none 0 0))) (hl : l ∉ st.u) : Sub F st ⟨put t (.og l 0) st.e,put l ⟨ty,.grp [] ti none⟩ st.s,l :: st.u⟩ := by
 intro a w β hs
 have hs' : Sat F β (lk st.e) (lk st.s) (fun k => k ∈ st.u) a w := hs
 have hsat := hs'.give (w' := w) (nm := l) hl [] (bl := .nil) (c := ⟨ty,.grp [] ti none⟩) rfl rfl rfl (Nat.le_refl _) (fun _ _ _ => rfl) (fun b hb => hb.elim) (fun T β' _ _ hb => .inl ⟨hb,rfl⟩)
 have e1 : (fun k => if k = l then some (⟨ty,.grp [] ti none⟩ : LB) else if k ∈ ([] : List Nat) then none else lk st.s k) = lk (put l ⟨ty,.grp [] ti none⟩ st.s) := by
  funext k; rw [lk_put]; simp
 rw [e1] at hsat
 refine ⟨updB β l .nil,?_⟩
 have hsat2 := hsat.moreU (u' := fun k => k ∈ l :: st.u) (fun k hk => by rcases hk with h1 | h1 <;> simp [h1])
 refine ⟨hsat2.os,hsat2.tape,hsat2.output,hsat2.size,hsat2.old,hsat2.dom,hsat2.loc,hsat2.inj,hsat2.out,?_,hsat2.nt,hsat2.defers,hsat2.pin⟩
 intro t' x' hx'
 simp only [lk_put] at hx'
 by_cases ht : t' = t
 ·rw [if_pos ht] at hx'
  cases hx'
  subst ht
  obtain ⟨y,hy,hr⟩ := hs'.slots t' _ hx
  simp only [Rep] at hr
  exact ⟨y,hy,by simp only [Rep]; exact .inl ⟨by simp [updB],rfl,hr⟩⟩
 ·rw [if_neg ht] at hx'
  exact hsat2.slots t' x' hx'
theorem W.nilGrp (t l : Nat) (ty ti : TypeId) (st' : St) (hx : lk st.e t = some (.v (.slice none 0 0))) (hl : decide (l ∉ st.u) = true)
  (hst : (⟨put t (.og l 0) st.e,put l ⟨ty,.grp [] ti none⟩ st.s,l :: st.u⟩ : St) = st') (h : W P F c st' Q) : W P F c st Q :=
 W.sub (Sub.nilGrp t l ty ti hx (of_decide_eq_true hl)) (by rw [hst]; exact h)
theorem Sub.emptyGrp (l0 j L l : Nat) (t0 ty ti : TypeId) (xs : List AV) (hx : lk st.s l0 = some ⟨t0,.fix xs⟩) (hj : xs[j]? = some (.own L 0)) (hL : lk st.s L = some ⟨ty,.row (.intss [])⟩) (hl : l ∉ st.u) (hne : l0 ≠ L) :
  Sub F st ⟨st.e,put l0 ⟨t0,.fix (xs.set j (.og l 0))⟩ (put l ⟨ty,.grp [] ti none⟩ (del L st.s)),l :: st.u⟩ := by
 intro a w β hs
 have hs' : Sat F β (lk st.e) (lk st.s) (fun k => k ∈ st.u) a w := hs
 obtain ⟨p0,hp0⟩ := (hs'.loc l0 _ hx).name
 have hl0l : l0 ≠ l := fun he => hl (he ▸ hs'.dom l0 p0 hp0)
 have hloc := hs'.loc L _ hL
 simp only [LocOK,CellsOK] at hloc
 have main : ∀ bl : Bl,(∀ b,bl.has b → ∃ p,β L = some p ∧ p.has b) → (∀ (T : Nat → Prop) (β' : Names),(∀ l p,β l = some p → β' l = some p) → β' l = some bl → CellsOK w T β' l ty (.grp [] ti none)) → (∀ y,OwnRep (β L) 0 y → GrpRep (some bl) 0 y) →
   ∃ β',SatL F β' ⟨st.e,put l0 ⟨t0,.fix (xs.set j (.og l 0))⟩ (put l ⟨ty,.grp [] ti none⟩ (del L st.s)),l :: st.u⟩ a w := by
  intro bl hbl hcell hrep
  have hsat := hs'.give (w' := w) (nm := l) hl [L] (bl := bl) (c := ⟨ty,.grp [] ti none⟩) rfl rfl rfl (Nat.le_refl _) (fun _ _ _ => rfl) (fun b hb => by
    obtain ⟨p,h1,h2⟩ := hbl b hb
    exact .inl ⟨L,by simp,_,p,hL,h1,h2⟩) (fun T β' _ hβ hb => hcell T β' hβ hb)
  have hget : ∀ k,(if k = l then some (⟨ty,.grp [] ti none⟩ : LB) else if k ∈ [L] then none else lk st.s k) = lk (put l ⟨ty,.grp [] ti none⟩ (del L st.s)) k := by
   intro k; rw [lk_put,lk_del]; simp
  have e1 : (fun k => if k = l then some (⟨ty,.grp [] ti none⟩ : LB) else if k ∈ [L] then none else lk st.s k) = lk (put l ⟨ty,.grp [] ti none⟩ (del L st.s)) := funext hget
  rw [e1] at hsat
  have hx1 : lk (put l ⟨ty,.grp [] ti none⟩ (del L st.s)) l0 = some ⟨t0,.fix xs⟩ := by rw [lk_put,lk_del,if_neg hl0l,if_neg hne]; exact hx
  have hbL : ∀ p,β L = some p → updB β l bl L = some p := by
   intro p hp
   unfold updB
   rw [if_neg]
   ·exact hp
   ·intro he; exact hl (he ▸ hs'.dom L p hp)
  have h2 := hsat.recell (xs' := xs.set j (.og l 0)) hx1 (fun ys hr => by
    obtain ⟨y,hy,hry⟩ := hr.get hj
    simp only [Rep] at hry
    have hry' : OwnRep (β L) 0 y := by
     obtain ⟨pL,hpL⟩ := (hs'.loc L _ hL).name
     rw [hbL pL hpL] at hry
     rw [hpL]; exact hry
    have := RepL.set (i := j) hr (show Rep w (Stab F (updB β l bl) (lk (put l ⟨ty,.grp [] ti none⟩ (del L st.s))) w) (updB β l bl) (.og l 0) y by
     simp only [Rep]
     have : updB β l bl l = some bl := by simp [updB]
     rw [this]; exact hrep y hry')
    rwa [set_self_eq _ _ _ hy] at this)
  refine ⟨updB β l bl,?_⟩
  have e2 : updS (lk (put l ⟨ty,.grp [] ti none⟩ (del L st.s))) l0 (some ⟨t0,.fix (xs.set j (.og l 0))⟩) = lk (put l0 ⟨t0,.fix (xs.set j (.og l 0))⟩ (put l ⟨ty,.grp [] ti none⟩ (del L st.s))) := by
   funext k; rw [lk_put l0]; rfl
  rw [e2] at h2
  exact h2.moreU (fun k hk => by rcases hk with h1 | h1 <;> simp [h1])
 rcases hloc with ⟨b1,_⟩ | ⟨g,cap,cur,b1,b2,b3,b4,b5,b6⟩
 ·refine main .nil (fun b hb => hb.elim) (fun T β' _ hb => .inl ⟨hb,rfl⟩) (fun y hy => ?_)
  rcases hy with ⟨_,h2,h3⟩ | ⟨g,cap,h1,_⟩
  ·exact .inl ⟨rfl,h2,h3⟩
  ·rw [b1] at h1; cases h1
 ·refine main (.grp g cap []) (fun b hb => ?_) (fun T β' _ hb => ?_) (fun y hy => ?_)
  ·rcases hb with rfl | ⟨c,hm⟩
   ·exact ⟨_,b1,rfl⟩
   ·cases hm
  ·refine .inr ⟨g,cap,[],hb,rfl,Nat.zero_le _,b4,by simp,by simp,cur,b2,by simpa [Dat.esz] using b5,fun k hk => ?_⟩
   simp at hk
  ·rcases hy with ⟨h1,_⟩ | ⟨g',cap',h1,h2,h3⟩
   ·rw [b1] at h1; cases h1
   ·rw [b1] at h1
    simp only [Option.some.injEq,Bl.blk.injEq] at h1
    obtain ⟨rfl,rfl⟩ := h1
    exact .inr ⟨g,cap,[],rfl,h2,h3⟩
theorem W.emptyGrp (l0 j L l : Nat) (t0 ty ti : TypeId) (xs : List AV) (st' : St) (hx : lk st.s l0 = some ⟨t0,.fix xs⟩) (hj : xs[j]? = some (.own L 0)) (hL : lk st.s L = some ⟨ty,.row (.intss [])⟩) (hl : decide (l ∉ st.u) = true) (hne : Nat.beq l0 L = false)
  (hst : (⟨st.e,put l0 ⟨t0,.fix (xs.set j (.og l 0))⟩ (put l ⟨ty,.grp [] ti none⟩ (del L st.s)),l :: st.u⟩ : St) = st') (h : W P F c st' Q) : W P F c st Q :=
 W.sub (Sub.emptyGrp l0 j L l t0 ty ti xs hx hj hL (of_decide_eq_true hl) (by intro he; subst he; simp at hne)) (by rw [hst]; exact h)
end
end Go.Ab

namespace Go.Ab
open Go.RowKit
theorem argsRep_noC {w : World} {T : Nat → Prop} : ∀ {sg : List PK} {xs : List AV} {ys : List Value} {bC : Option Nat},noC sg = true → ArgsRep w T sg xs ys bC → RepL w T noNames xs ys
 | [],[],[],_,_,_ => by simp [RepL]
 | k :: sg,x0 :: xs,y :: ys,bC,hn,h => by
  have hk : noC sg = true ∧ (Rep w T noNames x0 y ∧ ArgsRep w T sg xs ys bC) := by
   cases k with
   | c _ _ => simp [noC] at hn
   | o => exact ⟨by simpa only [noC] using hn,by simpa only [ArgsRep] using h⟩
   | s _ => exact ⟨by simpa only [noC] using hn,by simpa only [ArgsRep] using h⟩
   | a _ => exact ⟨by simpa only [noC] using hn,by simpa only [ArgsRep] using h⟩
  simp only [RepL]
  exact ⟨hk.2.1,argsRep_noC hk.1 hk.2.2⟩
 | [],_ :: _,_,_,_,h => by cases h
 | [],[],_ :: _,_,_,h => by cases h
 | k :: _,[],ys,_,_,h => by cases k <;> cases ys <;> simp [ArgsRep] at h
 | k :: _,_ :: _,[],_,_,h => by cases k <;> simp [ArgsRep] at h
section
variable {F : Fr} {P : Program} {D : CD} {ops : Array Oper} {st : St} {Q : Post} {nt k : Nat}
theorem WI.callV {f : FuncId} {R : HR} {o : Oper} {ys : Array Operand} {ts : Array TypeId} (sig : List PK) (xs zs : List AV) (vw : List Nat) (cz : Prop) (nm n : Nat) (et ti : TypeId) (ll : List (List Int))
  (hok : HOK P f [] zs [] [] R) (hR : ∀ r1 s1 u1,R r1 s1 u1 → r1 = .og 0 n ∧ s1 = [(0,⟨et,.grp ll ti none⟩)]) (hE : Entr P f) (hn : F.nt = nt) (ho : ops[k]? = some o)
  (hop : o.op = .call { callee := .value (.func f),args := ys,argTypes := ts }) (hw : WantedB F ops o st true) (hargs : argsA (lk st.e) ys.toList = some xs) (hno : noC sig = true) (hnl : normL (lk st.s) sig xs = some (zs,cz,vw,none)) (hcz : cz)
  (hd : dstOK o.dst nt = true) (hnm : st.u.contains nm = false)
  (h : WI P F ops (k + 1) ⟨putO o.dst (.og nm n) st.e,updL st.s [(nm,some ⟨et,.grp ll ti none⟩)],insU st.u [(nm,some ⟨et,.grp ll ti none⟩)]⟩ Q) : WI P F ops k st Q := by
 unfold WI at h ⊢
 rw [drop_at ho]
 intro a w β hs
 have hs' : Sat F β (lk st.e) (lk st.s) (fun k => k ∈ st.u) a w := hs
 unfold wpList
 rw [if_pos (hw a w β hs)]
 left
 have hrep := argsA_ok hs' hargs
 have hvws := normL_vw hnl
 have hargsRep := normL_ok hs' hnl hcz hrep (T := fun b => Stab F β (lk st.s) w b ∨ Seen β vw b) (fun b hb => .inl hb) (fun b hb => .inr hb) (fun b hb => by simp [consB] at hb)
 have hlt : ∀ b,(Stab F β (lk st.s) w b ∨ Seen β vw b) → b < w.heap.size := by
  rintro b (hb | ⟨l1,hl1,p1,hb1,hq1⟩)
  ·exact Stab.lt hs' hb
  ·obtain ⟨c1,hc1⟩ := hvws l1 hl1
   exact Live.lt hs' ⟨l1,c1,p1,hc1,hb1,hq1⟩
 have hnl0 : ∀ b,¬ Live noNames (lk ([] : List (Nat × LB))) b := by
  rintro b ⟨l,c,p,h1,_⟩; simp [lk] at h1
 have hcalls := hok w (fun b => Stab F β (lk st.s) w b ∨ Seen β vw b) noNames (ys.toList.map a.eval) (fun b hb => ⟨hlt b hb,hnl0 b⟩) (fun l p hl => by cases hl) (fun l c hl => by simp [lk] at hl)
  (fun l l' c c' p p' g h1 => by simp [lk] at h1) (argsRep_noC hno hargsRep)
 unfold Oper.wp
 rw [run_resolve hE hop (caps := #[]) (by simp [Act.eval])]
 simp only [Oper.upon]
 have he : ys.map a.eval ++ #[] = (ys.toList.map a.eval).toArray := by
  apply Array.toList_inj.1
  simp
 rw [he]
 refine hcalls.mono (fun en w' hpost => ?_)
 obtain ⟨y',β1,r1,s1,u1,rfl,hR1,hp,hd1,_⟩ := hpost
 obtain ⟨rfl,rfl⟩ := hR r1 s1 u1 hR1
 have hl1 := hp.loc 0 ⟨et,.grp ll ti none⟩ (by simp [lk])
 obtain ⟨p,hpb⟩ := hl1.name
 have hnew : ∀ b,p.has b → w.heap.size ≤ b := by
  intro b hb
  rcases hp.out 0 _ p b (by simp [lk]; rfl) hpb hb with h1 | h1
  ·exact (hnl0 b h1).elim
  ·exact h1
 have hsat := hs'.give (w' := w') (nm := nm) (by simpa using hnm) [] (bl := p) (c := ⟨et,.grp ll ti none⟩) hp.os hp.tape hp.output hp.size (fun b hb _ => hp.keep b hb (hnl0 b)) (fun b hb => .inr (hnew b hb)) (fun T β' _ _ hb => by
  simp only [LocOK,CellsOK] at hl1 ⊢
  rcases hl1 with ⟨b1,b2⟩ | ⟨g,cap,gs,b1⟩
  ·rw [b1] at hpb; cases hpb
   exact .inl ⟨hb,b2⟩
  ·have b0 := b1.1
   rw [b0] at hpb; cases hpb
   exact .inr ⟨g,cap,gs,b1.ren (fun _ => hb) (fun k nm' he => by cases he) (fun k nm' he => by cases he)⟩)
 show wpList P ops (liftQ F Q) _ (a.put o.dst y') w'
 refine h _ w' (updB β nm p) ?_
 unfold SatL
 simp only
 rw [lk_putO,lk_updL,insU_fun]
 have e1 : upds (lk st.s) [(nm,some ⟨et,.grp ll ti none⟩)] = fun k => if k = nm then some (⟨et,.grp ll ti none⟩ : LB) else if k ∈ ([] : List Nat) then none else lk st.s k := by
  funext k
  rw [upds_one]
  unfold updS
  simp
 have e2 : updu (fun k => k ∈ st.u) [(nm,some (⟨et,.grp ll ti none⟩ : LB))] = fun l => l ∈ st.u ∨ l = nm := by
  funext l; simp [updu]
 rw [e1,e2]
 refine hsat.put ?_ (fun d hd' => by rw [hn]; exact dstOK_ok hd d hd')
 have hrep1 := hp.rep
 simp only [Rep] at hrep1 ⊢
 have hbe : updB β nm p nm = some p := by simp [updB]
 rw [hbe,← hpb]
 exact hrep1
end
end Go.Ab

namespace Go.Ab
open Go.RowKit Go.ChangeShapes Go.WideShapes Go.ChangeAt
end Go.Ab

namespace Go.Ab
open Go.RowKit Go.ChangeShapes Go.WideShapes Go.ChangeAt Go.Deep
section
variable {H : Type} {enc : TypeId × Value → H} {P : Program} {w : World} {base : Nat} {spare : Nat → Bool} {held : Bool}
theorem open_rows {t e : TypeId} {fs : Array Field} {n : Nat} {fuel : Nat} {cs : List Value} {x : DataW H × List MemPlace} (ht : P.underlying t = some (.slice e)) (he : P.underlying e = some (.struct fs))
  (ce : P.cellsOf e = n) (hn : fs.size = n) (hf : ∀ (j : Nat) (f : Field),fs[j]? = some f → f.offset = j ∧ P.cellsOf f.type = 1 ∧ P.underlying f.type = some (.int .i64))
  (h : DataW.trod enc P w base spare held fuel t cs = some x) :
  cs = [.slice none 0 0] ∨ ∃ (a : Addr) (len cap : Nat) (V : Nat → Nat → Int),cs = [.slice (some a) len cap] ∧ len ≤ cap ∧ cap ≤ maxLen ∧
   ∀ i,i < len → ∀ j,j < n → w.cell? (a.add (i * n + j)) = some (.int .i64 (V i j)) ∧ (Lit.int .i64 (V i j)).wf = true := by
 rcases open_slice ht h with ⟨h0,_⟩ | ⟨a,len,cap,m,fl,D,Pl,rfl,hb,hl,hm,hmm,rfl,hx⟩
 ·exact Or.inl h0
 right
 have hlm : len ≤ m := by rw [hmm]; split <;> omega
 have each : ∀ i,i < len → ∃ v : Nat → Int,∀ j,j < n → w.cell? (a.add (i * n + j)) = some (.int .i64 (v j)) ∧ (Lit.int .i64 (v j)).wf = true := by
  intro i hi
  obtain ⟨cs',h1,h2⟩ := hx i (by omega)
  rw [ce] at h1
  obtain ⟨_,hlen,hcell⟩ := World.cells?_some h1
  obtain ⟨xs,k,_,_,_,hxl,hfi⟩ := DataW.trod_struct he h2
  have one : ∀ j,j < n → ∃ v : Int,w.cell? (a.add (i * n + j)) = some (.int .i64 v) ∧ (Lit.int .i64 v).wf = true := by
   intro j hj
   have hfj : fs[j]? = some (fs[j]'(by omega)) := Array.getElem?_eq_getElem (by omega)
   obtain ⟨ho,hc,hu⟩ := hf j _ hfj
   have g := hfi j _ hfj
   rw [ho,hc,List.getElem?_eq_getElem (show j < xs.length by omega)] at g
   have hd : (cs'.drop j).take 1 = [cs'[j]'(by omega)] := by
    rw [List.drop_eq_getElem_cons (show j < cs'.length by omega)]; rfl
   rw [hd] at g
   obtain ⟨v,hv,_,hw⟩ := DataW.trod_int hu g
   have hc2 := hcell j hj
   rw [add_add,List.getElem?_eq_getElem (show j < cs'.length by omega)] at hc2
   simp only [List.cons.injEq,and_true] at hv
   rw [hv] at hc2
   exact ⟨v,hc2,hw⟩
  have : ∀ j,∃ v : Int,j < n → w.cell? (a.add (i * n + j)) = some (.int .i64 v) ∧ (Lit.int .i64 v).wf = true := fun j => by
   by_cases hj : j < n
   ·obtain ⟨v,hv⟩ := one j hj; exact ⟨v,fun _ => hv⟩
   ·exact ⟨0,fun h => absurd h hj⟩
  exact ⟨fun j => Classical.choose (this j),fun j hj => Classical.choose_spec (this j) hj⟩
 have all : ∀ i,∃ v : Nat → Int,i < len → ∀ j,j < n → w.cell? (a.add (i * n + j)) = some (.int .i64 (v j)) ∧ (Lit.int .i64 (v j)).wf = true := fun i => by
  by_cases hi : i < len
  ·obtain ⟨v,hv⟩ := each i hi; exact ⟨v,fun _ => hv⟩
  ·exact ⟨fun _ => 0,fun h => absurd h hi⟩
 exact ⟨a,len,cap,fun i => Classical.choose (all i),rfl,hl,hm,fun i hi => Classical.choose_spec (all i) hi⟩
end
def callOf (v : Nat → Int) : CallD := ⟨v 0,v 1,v 2,v 3,v 4,v 5,v 6⟩
theorem block_of_cell {W : World} {a : Addr} {i : Nat} {v : Value} (h : W.cell? (a.add i) = some v) : a.block < W.heap.size := by
 unfold World.cell? at h
 rw [block_add] at h
 cases hb : W.heap[a.block]? with
 | none => rw [hb] at h; simp at h
 | some o => exact (Array.getElem?_eq_some_iff.1 hb).1
theorem calls_rep {W : World} {a : Addr} {len cap : Nat} {V : Nat → Nat → Int} (hl : len ≤ cap) (hm : cap ≤ maxLen)
  (hc : ∀ i,i < len → ∀ j,j < 7 → W.cell? (a.add (i * 7 + j)) = some (.int .i64 (V i j))) :
  SlRep W (fun b => b < W.heap.size) (.calls ((List.range len).map fun i => callOf (V i))) (.slice (some a) len cap) := by
 have hlen : ((List.range len).map fun i => callOf (V i)).length = len := by simp
 refine ⟨some a,cap,by rw [hlen],by rw [hlen]; exact hl,hm,?_⟩
 rw [hlen]
 rcases Nat.eq_zero_or_pos len with h0 | h0
 ·exact .inl h0
 ·refine .inr ⟨a,rfl,block_of_cell (hc 0 h0 0 (by omega)),?_⟩
  intro k j u hk hu
  have e : ((List.range len).map fun i => callOf (V i)).getD k default = callOf (V k) := by
   simp [List.getD_eq_getElem?_getD,hk]
  simp only [Dat.flat,Dat.elem,e] at hu
  match j,hu with
  | 0,hu => simp [callOf,CallD.avs,AV.val] at hu; rw [← hu]; exact hc k hk 0 (by omega)
  | 1,hu => simp [callOf,CallD.avs,AV.val] at hu; rw [← hu]; exact hc k hk 1 (by omega)
  | 2,hu => simp [callOf,CallD.avs,AV.val] at hu; rw [← hu]; exact hc k hk 2 (by omega)
  | 3,hu => simp [callOf,CallD.avs,AV.val] at hu; rw [← hu]; exact hc k hk 3 (by omega)
  | 4,hu => simp [callOf,CallD.avs,AV.val] at hu; rw [← hu]; exact hc k hk 4 (by omega)
  | 5,hu => simp [callOf,CallD.avs,AV.val] at hu; rw [← hu]; exact hc k hk 5 (by omega)
  | 6,hu => simp [callOf,CallD.avs,AV.val] at hu; rw [← hu]; exact hc k hk 6 (by omega)
  | j + 7,hu => simp [callOf,CallD.avs,AV.val] at hu
theorem arg_calls {H : Type} {enc : TypeId × Value → H} {P : Program} {W : World} {base : Nat} {spare : Nat → Bool} {held : Bool} {t e : TypeId} {fs : Array Field} {b0 : Nat} {v : Value} {d : DataW H} {p : List MemPlace} (ht : P.underlying t = some (.slice e)) (he : P.underlying e = some (.struct fs))
  (ce : P.cellsOf e = 7) (hn : fs.size = 7) (hf : ∀ (j : Nat) (f : Field),fs[j]? = some f → f.offset = j ∧ P.cellsOf f.type = 1 ∧ P.underlying f.type = some (.int .i64))
  (hval : Value.okWide P W .any b0 t v) (h : DataW.Trod enc P W base spare held t v d p) : ∃ l : List CallD,SlRep W (fun b => b < W.heap.size) (.calls l) v := by
 obtain ⟨a0,len,cap,rfl⟩ := okWide_slice ht hval
 obtain ⟨fuel,hf'⟩ := h
 rcases open_rows ht he ce hn hf hf' with hcs | ⟨a,len',cap',V,hcs,hl,hm,hx⟩
 ·simp [Value.cells] at hcs
  obtain ⟨rfl,rfl,rfl⟩ := hcs
  exact ⟨[],sl_of_nil rfl⟩
 ·simp [Value.cells] at hcs
  obtain ⟨rfl,rfl,rfl⟩ := hcs
  exact ⟨_,calls_rep hl hm (fun i hi j hj => (hx i hi j hj).1)⟩
theorem arg_str {H : Type} {enc : TypeId × Value → H} {P : Program} {W : World} {base : Nat} {spare : Nat → Bool} {held : Bool} {t : TypeId} {b0 : Nat} {v : Value} {d : DataW H} {p : List MemPlace} (ht : P.underlying t = some .string)
  (hval : Value.okWide P W .any b0 t v) (h : DataW.Trod enc P W base spare held t v d p) : ∃ s : ByteArray,v = .string s := by
 obtain ⟨s,e,_⟩ := Go.ChangeMaps.open_string ht hval h
 exact ⟨s,e⟩
abbrev lawSC : FnS := fnS [.o,.s .calls] [.str,.calls] (fun _ (_,_,_) => (.v (.bool true),[],True))
theorem law_sc {P : Program} {f : FuncId} (hok : FnOK P f lawSC) {W : World} {s : ByteArray} {l : List CallD} {v : Value} (h : SlRep W (fun b => b < W.heap.size) (.calls l) v) :
  Calls P f #[.string s,v] W fun e W' => e = .returned (.bool true) ∧ Below W.heap.size W W' := by
 have h1 := hok false [.v (.string s),.sl (.calls l)] (.v (.bool true)) [] True rfl trivial W (fun b => b < W.heap.size) [.string s,v] none (fun _ h => h) ⟨by simp [Rep],by simpa [Rep] using h,rfl⟩
 refine Calls.mono h1 ?_
 rintro e W' ⟨y,β',rfl,hp⟩
 have hr := hp.rep
 simp only [Rep] at hr
 subst hr
 exact ⟨rfl,hp.os,hp.tape,hp.output,hp.size,fun k hk => hp.keep k hk (by simp)⟩
end Go.Ab
