import Derived.Test.YtbmbdlgifplglaaGreatDoorZF4S0
import Derived.Test.YtbmbdlgifplglaaGreatDoorZF4S6
import Derived.Test.YtbmbdlgifplglaaGreatDoorZF4S7
import Derived.Test.YtbmbdlgifplglaaGreatDoorZF4S8
set_option maxRecDepth 100000
set_option maxHeartbeats 1000000
set_option linter.unusedSimpArgs false
set_option linter.unusedVariables false
namespace Go.Proofs.Tryz
open Go.Ab Go.RowKit
def pre42 : List AV→List AV→Prop := preP [.str,.int] [.bytes,.int] (fun (name,most,_) (l,p,_)=>(0≤p∧p≤900000)∧(most=6))
def rel42 : RelS := relP [.str,.int] [.bytes,.int] (ι := (List CallD) × Int) (fun (name,most,_) (l,p,_) (g,q)=>(GoodH g)∧(p≤q∧q≤p+100)) (fun (name,most,_) (l,p,_) (g,q)=>(.own 1 g.length,[⟨59,.row (.calls g)⟩],[.sl (.bytes l),.i q]))
abbrev T42 : Tab := lk [(23,fs23),(62,fs62)]
theorem tab42 : TabOK prog T42 := (TabOK.cons ok23 ent23 (TabOK.cons ok62 ent62 TabOK.nil))
abbrev v420:AV:=.own 19 (List.length ([] : List CallD))
abbrev v421:AV:=.own 22 (List.length ([([] : List Int),([] : List Int)]))
abbrev v422:AV:=.sl (.ints ([(1:Int),(1:Int),(2:Int)]))
abbrev v423:AV:=.sl (.ints ([(4:Int),(5:Int),(3:Int),(6:Int),(2:Int),(1:Int),(0:Int)]))
abbrev v424 (n:Int) (o:List CallD) (most:Int):AV:=.b ((decide ((0:Int)<n)) && (decide ((o.length:Int)<most)))
abbrev v425:AV:=.sl (.ints ([(0:Int),(2:Int),(0:Int),(1:Int)]))
abbrev v426:AV:=.sl (.ints ([(1:Int),(2:Int),(3:Int),(0:Int)]))
abbrev v427 (tm:Int):AV:=.i (((2:Int) * tm)+(1:Int))
abbrev v428 (tm:Int):AV:=.i (((2:Int) * tm)+(2:Int))
abbrev v429 (ret:Int):AV:=.b (decide (ret≤(20:Int)))
abbrev v4210 (v97:Int):AV:=.b (decide (v97=(0:Int)))
abbrev v4211:AV:=.sl (.ints ([(0:Int),(1:Int),(-1:Int),(2:Int)]))
abbrev v4212 (o:List CallD) (v40:Int) (v43:Int) (kd:Int) (ag:Int) (v101:Int) (tm:Int):AV:=.own 106 (List.length (o++([(⟨v40,v43,kd,ag,v101,(((2:Int) * tm)+(1:Int)),(((2:Int) * tm)+(2:Int))⟩:CallD)])))
abbrev v4213 (o:List CallD) (v40:Int) (v43:Int) (kd:Int) (ag:Int) (ret:Int) (tm:Int):AV:=.own 106 (List.length (o++([(⟨v40,v43,kd,ag,ret,(((2:Int) * tm)+(1:Int)),(((2:Int) * tm)+(2:Int))⟩:CallD)])))
abbrev v4214 (o:List CallD) (v40:Int) (v43:Int) (kd:Int) (ag:Int) (r4:Int) (tm:Int):AV:=.own 106 (List.length (o++([(⟨v40,v43,kd,ag,r4,(((2:Int) * tm)+(1:Int)),(((2:Int) * tm)+(2:Int))⟩:CallD)])))
theorem rok42 : RelOK prog 42 (some 55) [.o,.o] pre42 rel42 := by
 refine RelOK.mk cok func42 rfl rfl rfl ?_
 rintro ⟨(name:ByteArray),(most:Int),_⟩ ⟨(l : List UInt8),(p:Int),_⟩ hpre F hnt0
 have hnt : F.nt=110 := hnt0.trans ntmps42
 replace hpre : (0≤p∧p≤900000)∧(most=6) := hpre
 obtain ⟨hp,hm⟩ := hpre
 refine W.to (⟨[(0,.ptr 998 0),(1,.v (.string name)),(2,.i most)],[(998,⟨55,.fix [.sl (.bytes l),.i p]⟩)],[998,999]⟩) rfl ?_
 refine kE tab42 hnt [(0,.ptr 998 0),(1,.v (.string name)),(2,.i most)] 2 [] tt ?_
 refine W.seq ?_
 refine kE tab42 hnt [(0,.ptr 998 0),(1,.v (.string name)),(2,.i most),(18,.b (!(isObject name)))] 120116 [] tt ?_
 refine W.meetT (ι := ByteArray) (fun (nm:ByteArray)=>(⟨[(0,.ptr 998 0),(1,.v (.string nm)),(2,.i most)],[(998,⟨55,.fix [.sl (.bytes l),.i p]⟩)],[998,999]⟩:St)) (fun (nm:ByteArray)=>Y) ?_ ?_
 ·skip
  refine ifb (!(isObject name)) ?_ ?_
  ·intro h18
   refine lE tab42 hnt [(0,.ptr 998 0),(1,.v (.string nRegister)),(2,.i most)] 2 [] tt ?_
   refine thenQ_normal ?_
   refine ⟨(nRegister),(show Y from trivial),?_⟩
   exact Sk
  ·intro n18
   refine W.skip (thenQ_normal ?_)
   refine ⟨(name),(show Y from trivial),?_⟩
   exact Sk
 ·rintro nm hC0
  have hC : Y := hC0
  clear hC0
  refine kS tab42 hnt [(0,.ptr 998 0),(1,.v (.string nm)),(2,.i most),(7,v420)] [(19,⟨59,.row (.calls ([] : List CallD))⟩),(998,⟨55,.fix [.sl (.bytes l),.i p]⟩)] [19,998,999] 20 [] tt ?_ [19]
  refine kS tab42 hnt [(0,.ptr 998 0),(1,.v (.string nm)),(2,.i most),(7,v420),(8,v421)] [(19,⟨59,.row (.calls ([] : List CallD))⟩),(22,⟨36,.row (.intss ([([] : List Int),([] : List Int)]))⟩),(998,⟨55,.fix [.sl (.bytes l),.i p]⟩)] [22,21,20,19,998,999] 123140 [] tt ?_ [22]
  refine W.seq (W.wi ?_)
  refine WI.runT cok tab42 hnt [] 2 2 (⟨[(0,.ptr 998 0),(1,.v (.string nm)),(2,.i most),(7,v420),(8,v421),(23,.ptr 998 0),(24,v422)],[(19,⟨59,.row (.calls ([] : List CallD))⟩),(22,⟨36,.row (.intss ([([] : List Int),([] : List Int)]))⟩),(998,⟨55,.fix [.sl (.bytes l),.i p]⟩)],[24,22,21,20,19,998,999]⟩)
   (Y∧(Y∧Y∧Y∧Y)∧Y) (by kernel_rfl) rfl
   ⟨tt,⟨tt,tt,tt,tt⟩,tt⟩ ?_
  refine WI.call [.ptr 998 0,v422] [.sl (.bytes l),.i p] [v422] [v422] (some (55,998)) (Y) (Y∧Y) none rok15 ent15 hnt rfl rfl (wanted_none rfl) (by kernel_rfl) (by kernel_rfl) (by kernel_rfl) ⟨tt,tt,tt⟩
   (@cast ((0≤p∧p≤1000000)∧(0<([(1:Int),(1:Int),(2:Int)]).length)∧(([(1:Int),(1:Int),(2:Int)]).length≤1000)) _ (by kernel_rfl) ⟨om,⟨ow,ow⟩⟩) (Or.inl rfl) rfl ?_
  rintro r bl fx2 hR
  obtain ⟨⟨v25,q25⟩,hq25,rfl,rfl,rfl⟩ := (@cast _ (∃ x : Int × Int,((x.1 ∈ ([(1:Int),(1:Int),(2:Int)]))∧(x.2=p+1))∧r=(.i x.1)∧bl=([])∧fx2=([.sl (.bytes l),.i x.2])) (by kernel_rfl) hR)
  clear hR
  replace hq25 : (v25 ∈ ([(1:Int),(1:Int),(2:Int)]))∧(q25=p+1) := hq25
  obtain ⟨hv25,hq125⟩ := hq25
  simp only [List.mem_cons,List.not_mem_nil,or_false] at hv25
  refine ⟨by kernel_rfl,WI.to (⟨[(0,.ptr 998 0),(1,.v (.string nm)),(2,.i most),(7,v420),(8,v421),(23,.ptr 998 0),(24,v422),(25,.i v25)],[(19,⟨59,.row (.calls ([] : List CallD))⟩),(22,⟨36,.row (.intss ([([] : List Int),([] : List Int)]))⟩),(998,⟨55,.fix [.sl (.bytes l),.i q25]⟩)],[25,24,22,21,20,19,998,999]⟩) 3 (by kernel_rfl) rfl ?_⟩
  refine WI.runT cok tab42 hnt [] 1 4 (⟨[(0,.ptr 998 0),(1,.v (.string nm)),(2,.i most),(7,v420),(8,v421),(9,.i v25),(23,.ptr 998 0),(24,v422),(25,.i v25)],[(19,⟨59,.row (.calls ([] : List CallD))⟩),(22,⟨36,.row (.intss ([([] : List Int),([] : List Int)]))⟩),(998,⟨55,.fix [.sl (.bytes l),.i q25]⟩)],[25,24,22,21,20,19,998,999]⟩)
   (Y∧Y) (by kernel_rfl) rfl
   ⟨tt,tt⟩ ?_
  refine WI.nil rfl (thenQ_normal ?_)
  refine W.keepE [0,1,2,7,8,9] [(0,.ptr 998 0),(1,.v (.string nm)),(2,.i most),(7,.own 19 (List.length ([] : List CallD))),(8,.own 22 (List.length ([([] : List Int),([] : List Int)]))),(9,.i v25)] (by kernel_rfl) ?_
  refine W.to (⟨[(0,.ptr 998 0),(1,.v (.string nm)),(2,.i most),(7,v420),(8,v421),(9,.i v25)],[(19,⟨59,.row (.calls ([] : List CallD))⟩),(22,⟨36,.row (.intss ([([] : List Int),([] : List Int)]))⟩),(998,⟨55,.fix [.sl (.bytes l),.i q25]⟩)],[25,24,22,21,20,19,998,999]⟩) rfl ?_
  refine kE tab42 hnt [(0,.ptr 998 0),(1,.v (.string nm)),(2,.i most),(7,v420),(8,v421),(9,.i v25),(10,.i (0:Int))] 2 [] tt ?_
  refine W.seq ?_
  refine W.seq (W.wi ?_)
  refine WI.runT cok tab42 hnt [] 2 2 (⟨[(0,.ptr 998 0),(1,.v (.string nm)),(2,.i most),(7,v420),(8,v421),(9,.i v25),(10,.i (0:Int)),(26,.ptr 998 0),(27,v423)],[(19,⟨59,.row (.calls ([] : List CallD))⟩),(22,⟨36,.row (.intss ([([] : List Int),([] : List Int)]))⟩),(998,⟨55,.fix [.sl (.bytes l),.i q25]⟩)],[27,25,24,22,21,20,19,998,999]⟩)
   (Y∧(Y∧Y∧Y∧Y∧Y∧Y∧Y∧Y)∧Y) (by kernel_rfl) rfl
   ⟨tt,⟨tt,tt,tt,tt,tt,tt,tt,tt⟩,tt⟩ ?_
  refine WI.call [.ptr 998 0,v423] [.sl (.bytes l),.i q25] [v423] [v423] (some (55,998)) (Y) (Y∧Y) none rok15 ent15 hnt rfl rfl (wanted_none rfl) (by kernel_rfl) (by kernel_rfl) (by kernel_rfl) ⟨tt,tt,tt⟩
   (@cast ((0≤q25∧q25≤1000000)∧(0<([(4:Int),(5:Int),(3:Int),(6:Int),(2:Int),(1:Int),(0:Int)]).length)∧(([(4:Int),(5:Int),(3:Int),(6:Int),(2:Int),(1:Int),(0:Int)]).length≤1000)) _ (by kernel_rfl) ⟨om,⟨ow,ow⟩⟩) (Or.inl rfl) rfl ?_
  rintro r bl fx2 hR
  obtain ⟨⟨v28,q28⟩,hq28,rfl,rfl,rfl⟩ := (@cast _ (∃ x : Int × Int,((x.1 ∈ ([(4:Int),(5:Int),(3:Int),(6:Int),(2:Int),(1:Int),(0:Int)]))∧(x.2=q25+1))∧r=(.i x.1)∧bl=([])∧fx2=([.sl (.bytes l),.i x.2])) (by kernel_rfl) hR)
  clear hR
  replace hq28 : (v28 ∈ ([(4:Int),(5:Int),(3:Int),(6:Int),(2:Int),(1:Int),(0:Int)]))∧(q28=q25+1) := hq28
  obtain ⟨hv28,hq128⟩ := hq28
  simp only [List.mem_cons,List.not_mem_nil,or_false] at hv28
  refine ⟨by kernel_rfl,WI.to (⟨[(0,.ptr 998 0),(1,.v (.string nm)),(2,.i most),(7,v420),(8,v421),(9,.i v25),(10,.i (0:Int)),(26,.ptr 998 0),(27,v423),(28,.i v28)],[(19,⟨59,.row (.calls ([] : List CallD))⟩),(22,⟨36,.row (.intss ([([] : List Int),([] : List Int)]))⟩),(998,⟨55,.fix [.sl (.bytes l),.i q28]⟩)],[28,27,25,24,22,21,20,19,998,999]⟩) 3 (by kernel_rfl) rfl ?_⟩
  refine WI.runT cok tab42 hnt [] 1 4 (⟨[(0,.ptr 998 0),(1,.v (.string nm)),(2,.i most),(7,v420),(8,v421),(9,.i v25),(10,.i (0:Int)),(11,.i v28),(26,.ptr 998 0),(27,v423),(28,.i v28)],[(19,⟨59,.row (.calls ([] : List CallD))⟩),(22,⟨36,.row (.intss ([([] : List Int),([] : List Int)]))⟩),(998,⟨55,.fix [.sl (.bytes l),.i q28]⟩)],[28,27,25,24,22,21,20,19,998,999]⟩)
   (Y∧Y) (by kernel_rfl) rfl
   ⟨tt,tt⟩ ?_
  refine WI.nil rfl (thenQ_normal ?_)
  refine W.keepE [0,1,2,7,8,9,10,11] [(0,.ptr 998 0),(1,.v (.string nm)),(2,.i most),(7,.own 19 (List.length ([] : List CallD))),(8,.own 22 (List.length ([([] : List Int),([] : List Int)]))),(9,.i v25),(10,.i (0:Int)),(11,.i v28)] (by kernel_rfl) ?_
  refine W.to (⟨[(0,.ptr 998 0),(1,.v (.string nm)),(2,.i most),(7,v420),(8,v421),(9,.i v25),(10,.i (0:Int)),(11,.i v28)],[(19,⟨59,.row (.calls ([] : List CallD))⟩),(22,⟨36,.row (.intss ([([] : List Int),([] : List Int)]))⟩),(998,⟨55,.fix [.sl (.bytes l),.i q28]⟩)],[28,27,25,24,22,21,20,19,998,999]⟩) rfl ?_
  refine W.block ?_
  refine W.loop (ι := (List CallD) × Int × Int × (List (List Int)) × Int) (fun (x : (List CallD) × Int × Int × (List (List Int)) × Int)=>match x with | (o,tm,n,ss,p1)=>(⟨[(0,.ptr 998 0),(1,.v (.string nm)),(2,.i most),(7,.own 19 o.length),(8,v421),(9,.i v25),(10,.i tm),(11,.i n)],[(19,⟨59,.row (.calls o)⟩),(22,⟨36,.row (.intss ss)⟩),(998,⟨55,.fix [.sl (.bytes l),.i p1]⟩)],[19,22,998,999]⟩:St))
   (fun (x : (List CallD) × Int × Int × (List (List Int)) × Int)=>match x with | (o,tm,n,ss,p1)=>(tm=o.length)∧(GoodH o)∧(okStates o.length (3 * o.length) ss)∧(n≤6)∧(p+2≤p1∧p1≤p+2+6 * (6 - n)∧p1≤p+90))
   (fun (x : (List CallD) × Int × Int × (List (List Int)) × Int)=>match x with | (o,tm,n,ss,p1)=>(n.toNat:Nat)) (([] : List CallD),(0:Int),v28,([([] : List Int),([] : List Int)]),q28) ?_ ?_ ?_
  ·exact ⟨oi,(by exact GoodH.nil),(by exact ⟨rfl,by simp [okState]⟩),oi,oi⟩
  ·exact Sk
  ·rintro ⟨o,tm,n,ss,p1⟩ hC0
   obtain ⟨hat,ho,hss,hn,hq⟩ := hC0
   have ho6 := ho.1
   have hss2 := hss.1
   refine W.seq ?_
   refine kE tab42 hnt [(0,.ptr 998 0),(1,.v (.string nm)),(2,.i most),(7,.own 19 o.length),(8,v421),(9,.i v25),(10,.i tm),(11,.i n),(36,(v424 n o most))] 149786423336 ((fun (Z1:Bool)=>([Z1=true→Y,Z1=true→((Z1=true)∧Y),Z1=true→Y,Z1=true→(((Z1=true)∧Y)∧(((Z1=true)∧Y)∧Y)),Z1=true→(Z1=true)∧Y,Z1=false→Y]:PL)) (decide ((0:Int)<n))) ⟨(fun _=>trivial),(fun hG=>⟨hG,tt⟩),(fun _=>trivial),(fun hG=>⟨⟨hG,tt⟩,⟨hG,tt⟩,tt⟩),(fun hp=>⟨hp,tt⟩),(fun _=>trivial)⟩ ?_
   refine ifb ((decide ((0:Int)<n)) && (decide ((o.length:Int)<most))) ?_ ?_
   ·intro h36
    have h36_0 : (0:Int)<n := of_decide_eq_true (and_l h36)
    have h36_1 : (o.length:Int)<most := of_decide_eq_true (and_r h36)
    refine W.skip (thenQ_normal ?_)
    refine W.seq ?_
    refine W.block ?_
    refine W.seq (W.wi ?_)
    refine WI.runT cok tab42 hnt [] 1 1 (⟨[(0,.ptr 998 0),(1,.v (.string nm)),(2,.i most),(7,.own 19 o.length),(8,v421),(9,.i v25),(10,.i tm),(11,.i n),(36,(v424 n o most)),(39,.ptr 998 0)],[(19,⟨59,.row (.calls o)⟩),(22,⟨36,.row (.intss ss)⟩),(998,⟨55,.fix [.sl (.bytes l),.i p1]⟩)],[19,22,998,999]⟩)
     (Y∧Y) (by kernel_rfl) rfl
     ⟨tt,tt⟩ ?_
    refine WI.call [.ptr 998 0,.i (3:Int)] [.sl (.bytes l),.i p1] [.i (3:Int)] [.i (3:Int)] (some (55,998)) (Y) (Y∧Y) none rok19 ent19 hnt rfl rfl (wanted_none rfl) (by kernel_rfl) (by kernel_rfl) (by kernel_rfl) ⟨tt,tt,tt⟩
     (@cast (0≤p1∧p1≤1000000) _ (by kernel_rfl) om) (Or.inl rfl) rfl ?_
    rintro r bl fx2 hR
    obtain ⟨⟨v40,q40⟩,hq40,rfl,rfl,rfl⟩ := (@cast _ (∃ x : Int × Int,((0≤x.1∧x.1<max (3:Int) 1)∧(x.2=p1+1))∧r=(.i x.1)∧bl=([])∧fx2=([.sl (.bytes l),.i x.2])) (by kernel_rfl) hR)
    clear hR
    replace hq40 : (0≤v40∧v40<max (3:Int) 1)∧(q40=p1+1) := hq40
    obtain ⟨hv40,hq140⟩ := hq40
    refine ⟨by kernel_rfl,WI.to (⟨[(0,.ptr 998 0),(1,.v (.string nm)),(2,.i most),(7,.own 19 o.length),(8,v421),(9,.i v25),(10,.i tm),(11,.i n),(36,(v424 n o most)),(39,.ptr 998 0),(40,.i v40)],[(19,⟨59,.row (.calls o)⟩),(22,⟨36,.row (.intss ss)⟩),(998,⟨55,.fix [.sl (.bytes l),.i q40]⟩)],[40,19,22,998,999]⟩) 2 (by kernel_rfl) rfl ?_⟩
    refine WI.runT cok tab42 hnt [] 2 4 (⟨[(0,.ptr 998 0),(1,.v (.string nm)),(2,.i most),(7,.own 19 o.length),(8,v421),(9,.i v25),(10,.i tm),(11,.i n),(36,(v424 n o most)),(39,.ptr 998 0),(40,.i v40),(41,.ptr 998 0),(42,.i v25)],[(19,⟨59,.row (.calls o)⟩),(22,⟨36,.row (.intss ss)⟩),(998,⟨55,.fix [.sl (.bytes l),.i q40]⟩)],[40,19,22,998,999]⟩)
     (Y∧Y∧Y) (by kernel_rfl) rfl
     ⟨tt,tt,tt⟩ ?_
    refine WI.call [.ptr 998 0,.i v25] [.sl (.bytes l),.i q40] [.i v25] [.i v25] (some (55,998)) (Y) (Y∧Y) none rok19 ent19 hnt rfl rfl (wanted_none rfl) (by kernel_rfl) (by kernel_rfl) (by kernel_rfl) ⟨tt,tt,tt⟩
     (@cast (0≤q40∧q40≤1000000) _ (by kernel_rfl) om) (Or.inl rfl) rfl ?_
    rintro r bl fx2 hR
    obtain ⟨⟨v43,q43⟩,hq43,rfl,rfl,rfl⟩ := (@cast _ (∃ x : Int × Int,((0≤x.1∧x.1<max v25 1)∧(x.2=q40+1))∧r=(.i x.1)∧bl=([])∧fx2=([.sl (.bytes l),.i x.2])) (by kernel_rfl) hR)
    clear hR
    replace hq43 : (0≤v43∧v43<max v25 1)∧(q43=q40+1) := hq43
    obtain ⟨hv43,hq143⟩ := hq43
    refine ⟨by kernel_rfl,WI.to (⟨[(0,.ptr 998 0),(1,.v (.string nm)),(2,.i most),(7,.own 19 o.length),(8,v421),(9,.i v25),(10,.i tm),(11,.i n),(36,(v424 n o most)),(39,.ptr 998 0),(40,.i v40),(41,.ptr 998 0),(42,.i v25),(43,.i v43)],[(19,⟨59,.row (.calls o)⟩),(22,⟨36,.row (.intss ss)⟩),(998,⟨55,.fix [.sl (.bytes l),.i q43]⟩)],[43,40,19,22,998,999]⟩) 5 (by kernel_rfl) rfl ?_⟩
    refine WI.runT cok tab42 hnt [] 2 7 (⟨[(0,.ptr 998 0),(1,.v (.string nm)),(2,.i most),(7,.own 19 o.length),(8,v421),(9,.i v25),(10,.i tm),(11,.i n),(36,(v424 n o most)),(39,.ptr 998 0),(40,.i v40),(41,.ptr 998 0),(42,.i v25),(43,.i v43),(44,.ptr 998 0),(45,v425)],[(19,⟨59,.row (.calls o)⟩),(22,⟨36,.row (.intss ss)⟩),(998,⟨55,.fix [.sl (.bytes l),.i q43]⟩)],[45,43,40,19,22,998,999]⟩)
     (Y∧(Y∧Y∧Y∧Y∧Y)∧Y) (by kernel_rfl) rfl
     ⟨tt,⟨tt,tt,tt,tt,tt⟩,tt⟩ ?_
    refine WI.call [.ptr 998 0,v425] [.sl (.bytes l),.i q43] [v425] [v425] (some (55,998)) (Y) (Y∧Y) none rok15 ent15 hnt rfl rfl (wanted_none rfl) (by kernel_rfl) (by kernel_rfl) (by kernel_rfl) ⟨tt,tt,tt⟩
     (@cast ((0≤q43∧q43≤1000000)∧(0<([(0:Int),(2:Int),(0:Int),(1:Int)]).length)∧(([(0:Int),(2:Int),(0:Int),(1:Int)]).length≤1000)) _ (by kernel_rfl) ⟨om,⟨ow,ow⟩⟩) (Or.inl rfl) rfl ?_
    rintro r bl fx2 hR
    obtain ⟨⟨v46,q46⟩,hq46,rfl,rfl,rfl⟩ := (@cast _ (∃ x : Int × Int,((x.1 ∈ ([(0:Int),(2:Int),(0:Int),(1:Int)]))∧(x.2=q43+1))∧r=(.i x.1)∧bl=([])∧fx2=([.sl (.bytes l),.i x.2])) (by kernel_rfl) hR)
    clear hR
    replace hq46 : (v46 ∈ ([(0:Int),(2:Int),(0:Int),(1:Int)]))∧(q46=q43+1) := hq46
    obtain ⟨hv46,hq146⟩ := hq46
    simp only [List.mem_cons,List.not_mem_nil,or_false] at hv46
    refine ⟨by kernel_rfl,WI.to (⟨[(0,.ptr 998 0),(1,.v (.string nm)),(2,.i most),(7,.own 19 o.length),(8,v421),(9,.i v25),(10,.i tm),(11,.i n),(36,(v424 n o most)),(39,.ptr 998 0),(40,.i v40),(41,.ptr 998 0),(42,.i v25),(43,.i v43),(44,.ptr 998 0),(45,v425),(46,.i v46)],[(19,⟨59,.row (.calls o)⟩),(22,⟨36,.row (.intss ss)⟩),(998,⟨55,.fix [.sl (.bytes l),.i q46]⟩)],[46,45,43,40,19,22,998,999]⟩) 8 (by kernel_rfl) rfl ?_⟩
    refine WI.runT cok tab42 hnt [] 2 10 (⟨[(0,.ptr 998 0),(1,.v (.string nm)),(2,.i most),(7,.own 19 o.length),(8,v421),(9,.i v25),(10,.i tm),(11,.i n),(36,(v424 n o most)),(39,.ptr 998 0),(40,.i v40),(41,.ptr 998 0),(42,.i v25),(43,.i v43),(44,.ptr 998 0),(45,v425),(46,.i v46),(47,.ptr 998 0),(48,v426)],[(19,⟨59,.row (.calls o)⟩),(22,⟨36,.row (.intss ss)⟩),(998,⟨55,.fix [.sl (.bytes l),.i q46]⟩)],[48,46,45,43,40,19,22,998,999]⟩)
     (Y∧(Y∧Y∧Y∧Y∧Y)∧Y) (by kernel_rfl) rfl
     ⟨tt,⟨tt,tt,tt,tt,tt⟩,tt⟩ ?_
    refine WI.call [.ptr 998 0,v426] [.sl (.bytes l),.i q46] [v426] [v426] (some (55,998)) (Y) (Y∧Y) none rok15 ent15 hnt rfl rfl (wanted_none rfl) (by kernel_rfl) (by kernel_rfl) (by kernel_rfl) ⟨tt,tt,tt⟩
     (@cast ((0≤q46∧q46≤1000000)∧(0<([(1:Int),(2:Int),(3:Int),(0:Int)]).length)∧(([(1:Int),(2:Int),(3:Int),(0:Int)]).length≤1000)) _ (by kernel_rfl) ⟨om,⟨ow,ow⟩⟩) (Or.inl rfl) rfl ?_
    rintro r bl fx2 hR
    obtain ⟨⟨v49,q49⟩,hq49,rfl,rfl,rfl⟩ := (@cast _ (∃ x : Int × Int,((x.1 ∈ ([(1:Int),(2:Int),(3:Int),(0:Int)]))∧(x.2=q46+1))∧r=(.i x.1)∧bl=([])∧fx2=([.sl (.bytes l),.i x.2])) (by kernel_rfl) hR)
    clear hR
    replace hq49 : (v49 ∈ ([(1:Int),(2:Int),(3:Int),(0:Int)]))∧(q49=q46+1) := hq49
    obtain ⟨hv49,hq149⟩ := hq49
    simp only [List.mem_cons,List.not_mem_nil,or_false] at hv49
    refine ⟨by kernel_rfl,WI.to (⟨[(0,.ptr 998 0),(1,.v (.string nm)),(2,.i most),(7,.own 19 o.length),(8,v421),(9,.i v25),(10,.i tm),(11,.i n),(36,(v424 n o most)),(39,.ptr 998 0),(40,.i v40),(41,.ptr 998 0),(42,.i v25),(43,.i v43),(44,.ptr 998 0),(45,v425),(46,.i v46),(47,.ptr 998 0),(48,v426),(49,.i v49)],[(19,⟨59,.row (.calls o)⟩),(22,⟨36,.row (.intss ss)⟩),(998,⟨55,.fix [.sl (.bytes l),.i q49]⟩)],[49,48,46,45,43,40,19,22,998,999]⟩) 11 (by kernel_rfl) rfl ?_⟩
    refine WI.runT cok tab42 hnt [] 9 20 (⟨[(0,.ptr 998 0),(1,.v (.string nm)),(2,.i most),(7,.own 19 o.length),(8,v421),(9,.i v25),(10,.i tm),(11,.i n),(12,.ptr 12 0),(36,(v424 n o most)),(39,.ptr 998 0),(40,.i v40),(41,.ptr 998 0),(42,.i v25),(43,.i v43),(44,.ptr 998 0),(45,v425),(46,.i v46),(47,.ptr 998 0),(48,v426),(49,.i v49),(50,.i tm),(51,.i ((2:Int) * tm)),(52,(v427 tm)),(53,.i tm),(54,.i ((2:Int) * tm)),(55,(v428 tm)),(56,.agg [.i v40,.i v43,.i v46,.i v49,.i (0:Int),.i (((2:Int) * tm)+(1:Int)),.i (((2:Int) * tm)+(2:Int))])],[(12,⟨59,.fix [.i v40,.i v43,.i v46,.i v49,.i (0:Int),(v427 tm),(v428 tm)]⟩),(19,⟨59,.row (.calls o)⟩),(22,⟨36,.row (.intss ss)⟩),(998,⟨55,.fix [.sl (.bytes l),.i q49]⟩)],[12,49,48,46,45,43,40,19,22,998,999]⟩)
     (Y∧(Y∧Y∧(Fits .i64 ((2:Int) * tm)))∧(Y∧Y∧(Fits .i64 (((2:Int) * tm)+(1:Int))))∧Y∧(Y∧Y∧(Fits .i64 ((2:Int) * tm)))∧(Y∧Y∧(Fits .i64 (((2:Int) * tm)+(2:Int))))∧(Y∧Y∧Y∧Y∧Y∧Y∧Y)∧Y∧(Y∧Y)∧Y) (by kernel_rfl) rfl
     ⟨tt,⟨tt,tt,fi⟩,⟨tt,tt,fi⟩,tt,⟨tt,tt,fi⟩,⟨tt,tt,fi⟩,⟨tt,tt,tt,tt,tt,tt,tt⟩,tt,⟨tt,tt⟩,tt⟩ ?_
    refine WI.nil rfl (thenQ_normal ?_)
    refine W.keepE [0,1,2,7,8,9,10,11,12] [(0,.ptr 998 0),(1,.v (.string nm)),(2,.i most),(7,.own 19 o.length),(8,.own 22 (List.length ([([] : List Int),([] : List Int)]))),(9,.i v25),(10,.i tm),(11,.i n),(12,.ptr 12 0)] (by kernel_rfl) ?_
    refine W.to (⟨[(0,.ptr 998 0),(1,.v (.string nm)),(2,.i most),(7,.own 19 o.length),(8,v421),(9,.i v25),(10,.i tm),(11,.i n),(12,.ptr 12 0)],[(12,⟨59,.fix [.i v40,.i v43,.i v46,.i v49,.i (0:Int),(v427 tm),(v428 tm)]⟩),(19,⟨59,.row (.calls o)⟩),(22,⟨36,.row (.intss ss)⟩),(998,⟨55,.fix [.sl (.bytes l),.i q49]⟩)],[12,49,48,46,45,43,40,19,22,998,999]⟩) rfl ?_
    refine W.seq ?_
    refine kE tab42 hnt [(0,.ptr 998 0),(1,.v (.string nm)),(2,.i most),(7,.own 19 o.length),(8,v421),(9,.i v25),(10,.i tm),(11,.i n),(12,.ptr 12 0),(63,.b ((eqS nm nRegister) && (decide (v46=(1:Int)))))] 16642915283 ((fun (Z1:Bool)=>([Z1=true→Y,Z1=true→((Z1=true)∧Y),Z1=true→(((Z1=true)∧Y)∧(Y∧Y)),Z1=true→(Z1=true)∧Y,Z1=false→Y]:PL)) (eqS nm nRegister)) ⟨(fun _=>trivial),(fun hG=>⟨hG,tt⟩),(fun hG=>⟨⟨hG,tt⟩,tt,tt⟩),(fun hp=>⟨hp,tt⟩),(fun _=>trivial)⟩ ?_
    refine W.meetT (ι := Int) (fun (kd:Int)=>(⟨[(0,.ptr 998 0),(1,.v (.string nm)),(2,.i most),(7,.own 19 o.length),(8,v421),(9,.i v25),(10,.i tm),(11,.i n),(12,.ptr 12 0)],[(12,⟨59,.fix [.i v40,.i v43,.i kd,.i v49,.i (0:Int),(v427 tm),(v428 tm)]⟩),(19,⟨59,.row (.calls o)⟩),(22,⟨36,.row (.intss ss)⟩),(998,⟨55,.fix [.sl (.bytes l),.i q49]⟩)],[12,19,22,998,999]⟩:St)) (fun (kd:Int)=>Y) ?_ ?_
    ·skip
     refine ifb ((eqS nm nRegister) && (decide (v46=(1:Int)))) ?_ ?_
     ·intro h63
      have h63_0 : v46=(1:Int) := of_decide_eq_true (and_r h63)
      refine lS tab42 hnt [(0,.ptr 998 0),(1,.v (.string nm)),(2,.i most),(7,.own 19 o.length),(8,v421),(9,.i v25),(10,.i tm),(11,.i n),(12,.ptr 12 0)] [(12,⟨59,.fix [.i v40,.i v43,.i (2:Int),.i v49,.i (0:Int),(v427 tm),(v428 tm)]⟩),(19,⟨59,.row (.calls o)⟩),(22,⟨36,.row (.intss ss)⟩),(998,⟨55,.fix [.sl (.bytes l),.i q49]⟩)] [12,49,48,46,45,43,40,19,22,998,999] 74 [] tt ?_
      refine thenQ_normal ?_
      refine ⟨((2:Int)),(show Y from trivial),?_⟩
      exact Sk
     ·intro n63
      refine W.skip (thenQ_normal ?_)
      refine ⟨(v46),(show Y from trivial),?_⟩
      exact Sk
    ·rintro kd hC0
     have hC : Y := hC0
     clear hC0
     refine W.seq ?_
     refine kE tab42 hnt [(0,.ptr 998 0),(1,.v (.string nm)),(2,.i most),(7,.own 19 o.length),(8,v421),(9,.i v25),(10,.i tm),(11,.i n),(12,.ptr 12 0),(71,.b ((decide (kd≠(0:Int))) && (!(eqS nm nSet))))] 16642729496 ((fun (Z1:Bool)=>([Z1=true→Y,Z1=true→(((Z1=true)∧Y)∧(Y∧Y)),Z1=true→(Z1=true)∧Y,Z1=false→Y]:PL)) (decide (kd≠(0:Int)))) ⟨(fun _=>trivial),(fun hG=>⟨⟨hG,tt⟩,tt,tt⟩),(fun hp=>⟨hp,tt⟩),(fun _=>trivial)⟩ ?_
     refine W.meetT (ι := Int) (fun (ag:Int)=>(⟨[(0,.ptr 998 0),(1,.v (.string nm)),(2,.i most),(7,.own 19 o.length),(8,v421),(9,.i v25),(10,.i tm),(11,.i n),(12,.ptr 12 0)],[(12,⟨59,.fix [.i v40,.i v43,.i kd,.i ag,.i (0:Int),(v427 tm),(v428 tm)]⟩),(19,⟨59,.row (.calls o)⟩),(22,⟨36,.row (.intss ss)⟩),(998,⟨55,.fix [.sl (.bytes l),.i q49]⟩)],[12,19,22,998,999]⟩:St)) (fun (ag:Int)=>(0≤ag∧ag≤3)) ?_ ?_
     ·skip
      refine ifb ((decide (kd≠(0:Int))) && (!(eqS nm nSet))) ?_ ?_
      ·intro h71
       have h71_0 : kd≠(0:Int) := of_decide_eq_true (and_l h71)
       refine lS tab42 hnt [(0,.ptr 998 0),(1,.v (.string nm)),(2,.i most),(7,.own 19 o.length),(8,v421),(9,.i v25),(10,.i tm),(11,.i n),(12,.ptr 12 0)] [(12,⟨59,.fix [.i v40,.i v43,.i kd,.i (0:Int),.i (0:Int),(v427 tm),(v428 tm)]⟩),(19,⟨59,.row (.calls o)⟩),(22,⟨36,.row (.intss ss)⟩),(998,⟨55,.fix [.sl (.bytes l),.i q49]⟩)] [12,19,22,998,999] 74 [] tt ?_
       refine thenQ_normal ?_
       refine ⟨((0:Int)),(show (0≤(0:Int)∧(0:Int)≤3) from oi),?_⟩
       exact Sk
      ·intro n71
       refine W.skip (thenQ_normal ?_)
       refine ⟨(v49),(show (0≤v49∧v49≤3) from oi),?_⟩
       exact Sk
     ·rintro ag hC0
      have hC : (0≤ag∧ag≤3) := hC0
      clear hC0
      have hag := hC
      refine W.seq ?_
      refine kE tab42 hnt [(0,.ptr 998 0),(1,.v (.string nm)),(2,.i most),(7,.own 19 o.length),(8,v421),(9,.i v25),(10,.i tm),(11,.i n),(12,.ptr 12 0),(13,.i (-1:Int))] 2 [] tt ?_
      refine W.block ?_
      refine W.loop (ι := Int × Int) (fun (x : Int × Int)=>match x with | (ret,r4)=>(⟨[(0,.ptr 998 0),(1,.v (.string nm)),(2,.i most),(7,.own 19 o.length),(8,v421),(9,.i v25),(10,.i tm),(11,.i n),(12,.ptr 12 0),(13,.i ret)],[(12,⟨59,.fix [.i v40,.i v43,.i kd,.i ag,.i r4,(v427 tm),(v428 tm)]⟩),(19,⟨59,.row (.calls o)⟩),(22,⟨36,.row (.intss ss)⟩),(998,⟨55,.fix [.sl (.bytes l),.i q49]⟩)],[12,19,22,998,999]⟩:St))
       (fun (x : Int × Int)=>match x with | (ret,r4)=>(-1≤ret∧ret≤21))
       (fun (x : Int × Int)=>match x with | (ret,r4)=>((21 - ret).toNat:Nat)) ((-1:Int),(0:Int)) ?_ ?_ ?_
      ·exact (show (-1≤(-1:Int)∧(-1:Int)≤21) from oi)
      ·exact Sk
      ·rintro ⟨ret,r4⟩ hC0
       have hC : (-1≤ret∧ret≤21) := hC0
       clear hC0
       obtain hr := hC
       refine W.seq ?_
       refine kE tab42 hnt [(0,.ptr 998 0),(1,.v (.string nm)),(2,.i most),(7,.own 19 o.length),(8,v421),(9,.i v25),(10,.i tm),(11,.i n),(12,.ptr 12 0),(13,.i ret),(74,(v429 ret))] 560 [] tt ?_
       refine ifp (ret≤(20:Int)) ?_ ?_
       ·intro h74
        refine W.skip (thenQ_normal ?_)
        refine W.seq ?_
        refine W.block ?_
        refine kS tab42 hnt [(0,.ptr 998 0),(1,.v (.string nm)),(2,.i most),(7,.own 19 o.length),(8,v421),(9,.i v25),(10,.i tm),(11,.i n),(12,.ptr 12 0),(13,.i ret)] [(12,⟨59,.fix [.i v40,.i v43,.i kd,.i ag,.i ret,(v427 tm),(v428 tm)]⟩),(19,⟨59,.row (.calls o)⟩),(22,⟨36,.row (.intss ss)⟩),(998,⟨55,.fix [.sl (.bytes l),.i q49]⟩)] [12,19,22,998,999] 668 [] tt ?_
        refine kA tab42 hnt [(0,.ptr 998 0),(1,.v (.string nm)),(2,.i most),(7,.own 19 o.length),(8,v421),(9,.i v25),(10,.i tm),(11,.i n),(12,.ptr 12 0),(13,.i ret),(14,.sl (.ints ((specStep nm (ss.getD (Int.toNat v43) []) (⟨v40,v43,kd,ag,ret,(((2:Int) * tm)+(1:Int)),(((2:Int) * tm)+(2:Int))⟩:CallD)).1))),(15,.b ((specStep nm (ss.getD (Int.toNat v43) []) (⟨v40,v43,kd,ag,ret,(((2:Int) * tm)+(1:Int)),(((2:Int) * tm)+(2:Int))⟩:CallD)).2))] [(12,⟨59,.fix [.i v40,.i v43,.i kd,.i ag,.i ret,(v427 tm),(v428 tm)]⟩),(19,⟨59,.row (.calls o)⟩),(22,⟨36,.row (.intss ss)⟩),(998,⟨55,.fix [.sl (.bytes l),.i q49]⟩)] [12,19,22,998,999] 19942001757796637375948 [0≤v43,v43<(((List.length ([([] : List Int),([] : List Int)])):Nat):Int),(Int.toNat v43)<ss.length,(ss.getD (Int.toNat v43) []).length≤1000000,∀ x ∈ (ss.getD (Int.toNat v43) []),-1000000000≤x∧x≤1000000000,-1000000000≤(⟨v40,v43,kd,ag,ret,(((2:Int) * tm)+(1:Int)),(((2:Int) * tm)+(2:Int))⟩:CallD).arg∧(⟨v40,v43,kd,ag,ret,(((2:Int) * tm)+(1:Int)),(((2:Int) * tm)+(2:Int))⟩:CallD).arg≤1000000000] ⟨om,ow,om,(by have hh := (hss.at (i := Int.toNat v43) (by omega)).1; omega),(by intro x hx; have hh := (hss.at (i := Int.toNat v43) (by omega)).2 x hx; omega),ow⟩ ?_
        refine kE tab42 hnt [(0,.ptr 998 0),(1,.v (.string nm)),(2,.i most),(7,.own 19 o.length),(8,v421),(9,.i v25),(10,.i tm),(11,.i n),(12,.ptr 12 0),(13,.i ret),(14,.sl (.ints ((specStep nm (ss.getD (Int.toNat v43) []) (⟨v40,v43,kd,ag,ret,(((2:Int) * tm)+(1:Int)),(((2:Int) * tm)+(2:Int))⟩:CallD)).1))),(90,.b ((specStep nm (ss.getD (Int.toNat v43) []) (⟨v40,v43,kd,ag,ret,(((2:Int) * tm)+(1:Int)),(((2:Int) * tm)+(2:Int))⟩:CallD)).2))] 2 [] tt ?_
        refine ifb ((specStep nm (ss.getD (Int.toNat v43) []) (⟨v40,v43,kd,ag,ret,(((2:Int) * tm)+(1:Int)),(((2:Int) * tm)+(2:Int))⟩:CallD)).2) ?_ ?_
        ·intro h90
         refine kS tab42 hnt [(0,.ptr 998 0),(1,.v (.string nm)),(2,.i most),(7,.own 19 o.length),(8,v421),(9,.i v25),(10,.i tm),(11,.i n),(12,.ptr 12 0)] [(12,⟨59,.fix [.i v40,.i v43,.i kd,.i ag,.i ret,(v427 tm),(v428 tm)]⟩),(19,⟨59,.row (.calls o)⟩),(22,⟨36,.row (.intss (List.set ss (Int.toNat v43) ((specStep nm (ss.getD (Int.toNat v43) []) (⟨v40,v43,kd,ag,ret,(((2:Int) * tm)+(1:Int)),(((2:Int) * tm)+(2:Int))⟩:CallD)).1)))⟩),(998,⟨55,.fix [.sl (.bytes l),.i q49]⟩)] [12,19,22,998,999] 13151978849 [0≤v43,v43<(((List.length ([([] : List Int),([] : List Int)])):Nat):Int),(Int.toNat v43)<ss.length] ⟨om,ow,om⟩ ?_
         refine W.exit (blockQ_miss rfl (thenQ_exit (thenQ_exit (blockQ_hit ?_))))
         refine thenQ_normal ?_
         refine W.seq ?_
         refine W.seq (W.wi ?_)
         refine WI.runT cok tab42 hnt [] 1 1 (⟨[(0,.ptr 998 0),(1,.v (.string nm)),(2,.i most),(7,.own 19 o.length),(8,v421),(9,.i v25),(10,.i tm),(11,.i n),(12,.ptr 12 0),(96,.ptr 998 0)],[(12,⟨59,.fix [.i v40,.i v43,.i kd,.i ag,.i ret,(v427 tm),(v428 tm)]⟩),(19,⟨59,.row (.calls o)⟩),(22,⟨36,.row (.intss (List.set ss (Int.toNat v43) ((specStep nm (ss.getD (Int.toNat v43) []) (⟨v40,v43,kd,ag,ret,(((2:Int) * tm)+(1:Int)),(((2:Int) * tm)+(2:Int))⟩:CallD)).1)))⟩),(998,⟨55,.fix [.sl (.bytes l),.i q49]⟩)],[12,19,22,998,999]⟩)
          (Y∧Y) (by kernel_rfl) rfl
          ⟨tt,tt⟩ ?_
         refine WI.call [.ptr 998 0,.i (12:Int)] [.sl (.bytes l),.i q49] [.i (12:Int)] [.i (12:Int)] (some (55,998)) (Y) (Y∧Y) none rok19 ent19 hnt rfl rfl (wanted_none rfl) (by kernel_rfl) (by kernel_rfl) (by kernel_rfl) ⟨tt,tt,tt⟩
          (@cast (0≤q49∧q49≤1000000) _ (by kernel_rfl) om) (Or.inl rfl) rfl ?_
         rintro r bl fx2 hR
         obtain ⟨⟨v97,q97⟩,hq97,rfl,rfl,rfl⟩ := (@cast _ (∃ x : Int × Int,((0≤x.1∧x.1<max (12:Int) 1)∧(x.2=q49+1))∧r=(.i x.1)∧bl=([])∧fx2=([.sl (.bytes l),.i x.2])) (by kernel_rfl) hR)
         clear hR
         replace hq97 : (0≤v97∧v97<max (12:Int) 1)∧(q97=q49+1) := hq97
         obtain ⟨hv97,hq197⟩ := hq97
         refine ⟨by kernel_rfl,WI.to (⟨[(0,.ptr 998 0),(1,.v (.string nm)),(2,.i most),(7,.own 19 o.length),(8,v421),(9,.i v25),(10,.i tm),(11,.i n),(12,.ptr 12 0),(96,.ptr 998 0),(97,.i v97)],[(12,⟨59,.fix [.i v40,.i v43,.i kd,.i ag,.i ret,(v427 tm),(v428 tm)]⟩),(19,⟨59,.row (.calls o)⟩),(22,⟨36,.row (.intss (List.set ss (Int.toNat v43) ((specStep nm (ss.getD (Int.toNat v43) []) (⟨v40,v43,kd,ag,ret,(((2:Int) * tm)+(1:Int)),(((2:Int) * tm)+(2:Int))⟩:CallD)).1)))⟩),(998,⟨55,.fix [.sl (.bytes l),.i q97]⟩)],[97,12,19,22,998,999]⟩) 2 (by kernel_rfl) rfl ?_⟩
         refine WI.runT cok tab42 hnt [] 1 3 (⟨[(0,.ptr 998 0),(1,.v (.string nm)),(2,.i most),(7,.own 19 o.length),(8,v421),(9,.i v25),(10,.i tm),(11,.i n),(12,.ptr 12 0),(96,.ptr 998 0),(97,.i v97),(98,(v4210 v97))],[(12,⟨59,.fix [.i v40,.i v43,.i kd,.i ag,.i ret,(v427 tm),(v428 tm)]⟩),(19,⟨59,.row (.calls o)⟩),(22,⟨36,.row (.intss (List.set ss (Int.toNat v43) ((specStep nm (ss.getD (Int.toNat v43) []) (⟨v40,v43,kd,ag,ret,(((2:Int) * tm)+(1:Int)),(((2:Int) * tm)+(2:Int))⟩:CallD)).1)))⟩),(998,⟨55,.fix [.sl (.bytes l),.i q97]⟩)],[97,12,19,22,998,999]⟩)
          ((Y∧Y∧Y)∧Y) (by kernel_rfl) rfl
          ⟨⟨tt,tt,tt⟩,tt⟩ ?_
         refine WI.nil rfl (thenQ_normal ?_)
         refine W.keepE [0,1,2,7,8,9,10,11,12,98] [(0,.ptr 998 0),(1,.v (.string nm)),(2,.i most),(7,.own 19 o.length),(8,.own 22 (List.length ([([] : List Int),([] : List Int)]))),(9,.i v25),(10,.i tm),(11,.i n),(12,.ptr 12 0),(98,.b (decide (v97=(0:Int))))] (by kernel_rfl) ?_
         refine W.to (⟨[(0,.ptr 998 0),(1,.v (.string nm)),(2,.i most),(7,.own 19 o.length),(8,v421),(9,.i v25),(10,.i tm),(11,.i n),(12,.ptr 12 0),(98,(v4210 v97))],[(12,⟨59,.fix [.i v40,.i v43,.i kd,.i ag,.i ret,(v427 tm),(v428 tm)]⟩),(19,⟨59,.row (.calls o)⟩),(22,⟨36,.row (.intss (List.set ss (Int.toNat v43) ((specStep nm (ss.getD (Int.toNat v43) []) (⟨v40,v43,kd,ag,ret,(((2:Int) * tm)+(1:Int)),(((2:Int) * tm)+(2:Int))⟩:CallD)).1)))⟩),(998,⟨55,.fix [.sl (.bytes l),.i q97]⟩)],[97,12,19,22,998,999]⟩) rfl ?_
         refine ifp (v97=(0:Int)) ?_ ?_
         ·intro h98
          refine W.wi ?_
          refine WI.runT cok tab42 hnt [] 2 2 (⟨[(0,.ptr 998 0),(1,.v (.string nm)),(2,.i most),(7,.own 19 o.length),(8,v421),(9,.i v25),(10,.i tm),(11,.i n),(12,.ptr 12 0),(98,(v4210 v97)),(99,.ptr 998 0),(100,v4211)],[(12,⟨59,.fix [.i v40,.i v43,.i kd,.i ag,.i ret,(v427 tm),(v428 tm)]⟩),(19,⟨59,.row (.calls o)⟩),(22,⟨36,.row (.intss (List.set ss (Int.toNat v43) ((specStep nm (ss.getD (Int.toNat v43) []) (⟨v40,v43,kd,ag,ret,(((2:Int) * tm)+(1:Int)),(((2:Int) * tm)+(2:Int))⟩:CallD)).1)))⟩),(998,⟨55,.fix [.sl (.bytes l),.i q97]⟩)],[100,97,12,19,22,998,999]⟩)
           (Y∧(Y∧Y∧Y∧Y∧Y)∧Y) (by kernel_rfl) rfl
           ⟨tt,⟨tt,tt,tt,tt,tt⟩,tt⟩ ?_
          refine WI.call [.ptr 998 0,v4211] [.sl (.bytes l),.i q97] [v4211] [v4211] (some (55,998)) (Y) (Y∧Y) none rok15 ent15 hnt rfl rfl (wanted_none rfl) (by kernel_rfl) (by kernel_rfl) (by kernel_rfl) ⟨tt,tt,tt⟩
           (@cast ((0≤q97∧q97≤1000000)∧(0<([(0:Int),(1:Int),(-1:Int),(2:Int)]).length)∧(([(0:Int),(1:Int),(-1:Int),(2:Int)]).length≤1000)) _ (by kernel_rfl) ⟨om,⟨ow,ow⟩⟩) (Or.inl rfl) rfl ?_
          rintro r bl fx2 hR
          obtain ⟨⟨v101,q101⟩,hq101,rfl,rfl,rfl⟩ := (@cast _ (∃ x : Int × Int,((x.1 ∈ ([(0:Int),(1:Int),(-1:Int),(2:Int)]))∧(x.2=q97+1))∧r=(.i x.1)∧bl=([])∧fx2=([.sl (.bytes l),.i x.2])) (by kernel_rfl) hR)
          clear hR
          replace hq101 : (v101 ∈ ([(0:Int),(1:Int),(-1:Int),(2:Int)]))∧(q101=q97+1) := hq101
          obtain ⟨hv101,hq1101⟩ := hq101
          simp only [List.mem_cons,List.not_mem_nil,or_false] at hv101
          refine ⟨by kernel_rfl,WI.to (⟨[(0,.ptr 998 0),(1,.v (.string nm)),(2,.i most),(7,.own 19 o.length),(8,v421),(9,.i v25),(10,.i tm),(11,.i n),(12,.ptr 12 0),(98,(v4210 v97)),(99,.ptr 998 0),(100,v4211),(101,.i v101)],[(12,⟨59,.fix [.i v40,.i v43,.i kd,.i ag,.i ret,(v427 tm),(v428 tm)]⟩),(19,⟨59,.row (.calls o)⟩),(22,⟨36,.row (.intss (List.set ss (Int.toNat v43) ((specStep nm (ss.getD (Int.toNat v43) []) (⟨v40,v43,kd,ag,ret,(((2:Int) * tm)+(1:Int)),(((2:Int) * tm)+(2:Int))⟩:CallD)).1)))⟩),(998,⟨55,.fix [.sl (.bytes l),.i q101]⟩)],[101,100,97,12,19,22,998,999]⟩) 3 (by kernel_rfl) rfl ?_⟩
          refine WI.runT cok tab42 hnt [] 2 5 (⟨[(0,.ptr 998 0),(1,.v (.string nm)),(2,.i most),(7,.own 19 o.length),(8,v421),(9,.i v25),(10,.i tm),(11,.i n),(12,.ptr 12 0),(98,(v4210 v97)),(99,.ptr 998 0),(100,v4211),(101,.i v101),(102,.ptr 12 4)],[(12,⟨59,.fix [.i v40,.i v43,.i kd,.i ag,.i v101,(v427 tm),(v428 tm)]⟩),(19,⟨59,.row (.calls o)⟩),(22,⟨36,.row (.intss (List.set ss (Int.toNat v43) ((specStep nm (ss.getD (Int.toNat v43) []) (⟨v40,v43,kd,ag,ret,(((2:Int) * tm)+(1:Int)),(((2:Int) * tm)+(2:Int))⟩:CallD)).1)))⟩),(998,⟨55,.fix [.sl (.bytes l),.i q101]⟩)],[101,100,97,12,19,22,998,999]⟩)
           (Y∧(Y∧Y)∧Y) (by kernel_rfl) rfl
           ⟨tt,⟨tt,tt⟩,tt⟩ ?_
          refine WI.nil rfl ?_
          refine thenQ_normal ?_
          refine kS tab42 hnt [(0,.ptr 998 0),(1,.v (.string nm)),(2,.i most),(7,(v4212 o v40 v43 kd ag v101 tm)),(8,v421),(9,.i v25),(10,.i tm),(11,.i n)] [(12,⟨59,.fix [.i v40,.i v43,.i kd,.i ag,.i v101,(v427 tm),(v428 tm)]⟩),(22,⟨36,.row (.intss (List.set ss (Int.toNat v43) ((specStep nm (ss.getD (Int.toNat v43) []) (⟨v40,v43,kd,ag,ret,(((2:Int) * tm)+(1:Int)),(((2:Int) * tm)+(2:Int))⟩:CallD)).1)))⟩),(106,⟨59,.row (.calls (o++([(⟨v40,v43,kd,ag,v101,(((2:Int) * tm)+(1:Int)),(((2:Int) * tm)+(2:Int))⟩:CallD)])))⟩),(998,⟨55,.fix [.sl (.bytes l),.i q101]⟩)] [106,105,101,100,97,12,19,22,998,999] 104333690 [o.length=o.length,(o.length+(List.length ([(⟨v40,v43,kd,ag,v101,(((2:Int) * tm)+(1:Int)),(((2:Int) * tm)+(2:Int))⟩:CallD)]))) * 56≤140737488355328] ⟨rfl,ow⟩ ?_ [106]
          refine lE tab42 hnt [(0,.ptr 998 0),(1,.v (.string nm)),(2,.i most),(7,(v4212 o v40 v43 kd ag v101 tm)),(8,v421),(9,.i v25),(10,.i (tm+(1:Int))),(11,.i n)] 15869 [Fits .i64 (tm+(1:Int))] fi ?_
          refine blockQ_normal (thenQ_normal ?_)
          refine lE tab42 hnt [(0,.ptr 998 0),(1,.v (.string nm)),(2,.i most),(7,(v4212 o v40 v43 kd ag v101 tm)),(8,v421),(9,.i v25),(10,.i (tm+(1:Int))),(11,.i (n - (1:Int)))] 15869 [Fits .i64 (n - (1:Int))] fi ?_
          refine thenQ_normal ?_
          refine ⟨((o++([(⟨v40,v43,kd,ag,v101,(((2:Int) * tm)+(1:Int)),(((2:Int) * tm)+(2:Int))⟩:CallD)])),(tm+(1:Int)),(n - (1:Int)),(List.set ss (Int.toNat v43) ((specStep nm (ss.getD (Int.toNat v43) []) (⟨v40,v43,kd,ag,ret,(((2:Int) * tm)+(1:Int)),(((2:Int) * tm)+(2:Int))⟩:CallD)).1)),q101),⟨oi,(by exact ho.snoc (by omega) (by unfold smallC; simp only; omega)),(by first | exact hss.step | exact hss.stepSet (by omega) (by simp only; omega) (by simp only; omega)),oi,oi⟩,(show (n - (1:Int)).toNat<n.toNat from o2),?_⟩
          exact Sub.of [(19,106)] (@cast (((((998:Nat)=998)∧((0:Nat)=0)∧((998:Nat) ∈ ([19,22,998,999] : List Nat)))∧(((.string nm):Value)=(.string nm))∧(Si most)∧(((106:Nat)=106)∧((List.length (o++([(⟨v40,v43,kd,ag,v101,(((2:Int) * tm)+(1:Int)),(((2:Int) * tm)+(2:Int))⟩:CallD)])))=(List.length (o++([(⟨v40,v43,kd,ag,v101,(((2:Int) * tm)+(1:Int)),(((2:Int) * tm)+(2:Int))⟩:CallD)]))))∧((19:Nat) ∈ ([19,22,998,999] : List Nat)))∧(((22:Nat)=22)∧((List.length ([([] : List Int),([] : List Int)]))=(List.length ([([] : List Int),([] : List Int)])))∧((22:Nat) ∈ ([19,22,998,999] : List Nat)))∧(Si v25)∧(Si (tm+(1:Int)))∧(Si (n - (1:Int)))∧Y)∧((((59:Nat)=59)∧(Sd (.calls (o++([(⟨v40,v43,kd,ag,v101,(((2:Int) * tm)+(1:Int)),(((2:Int) * tm)+(2:Int))⟩:CallD)]))))∧((19:Nat) ∈ ([19,22,998,999] : List Nat)))∧(((36:Nat)=36)∧(Sd (.intss (List.set ss (Int.toNat v43) ((specStep nm (ss.getD (Int.toNat v43) []) (⟨v40,v43,kd,ag,ret,(((2:Int) * tm)+(1:Int)),(((2:Int) * tm)+(2:Int))⟩:CallD)).1))))∧((22:Nat) ∈ ([19,22,998,999] : List Nat)))∧(((55:Nat)=55)∧((Sd (.bytes l))∧(Si q101)∧Y)∧((998:Nat) ∈ ([19,22,998,999] : List Nat)))∧Y)∧(true=true)∧(true=true)) _ (by kernel_rfl) ⟨⟨⟨rfl,rfl,(by decide)⟩,rfl,rfl,⟨rfl,rfl,(by decide)⟩,⟨rfl,rfl,(by decide)⟩,rfl,rfl,rfl,tt⟩,⟨⟨rfl,rfl,(by decide)⟩,⟨rfl,rfl,(by decide)⟩,⟨rfl,⟨rfl,rfl,tt⟩,(by decide)⟩,tt⟩,rfl,rfl⟩)
         ·intro n98
          refine W.skip (thenQ_normal ?_)
          refine kS tab42 hnt [(0,.ptr 998 0),(1,.v (.string nm)),(2,.i most),(7,(v4213 o v40 v43 kd ag ret tm)),(8,v421),(9,.i v25),(10,.i tm),(11,.i n)] [(12,⟨59,.fix [.i v40,.i v43,.i kd,.i ag,.i ret,(v427 tm),(v428 tm)]⟩),(22,⟨36,.row (.intss (List.set ss (Int.toNat v43) ((specStep nm (ss.getD (Int.toNat v43) []) (⟨v40,v43,kd,ag,ret,(((2:Int) * tm)+(1:Int)),(((2:Int) * tm)+(2:Int))⟩:CallD)).1)))⟩),(106,⟨59,.row (.calls (o++([(⟨v40,v43,kd,ag,ret,(((2:Int) * tm)+(1:Int)),(((2:Int) * tm)+(2:Int))⟩:CallD)])))⟩),(998,⟨55,.fix [.sl (.bytes l),.i q97]⟩)] [106,105,97,12,19,22,998,999] 104333690 [o.length=o.length,(o.length+(List.length ([(⟨v40,v43,kd,ag,ret,(((2:Int) * tm)+(1:Int)),(((2:Int) * tm)+(2:Int))⟩:CallD)]))) * 56≤140737488355328] ⟨rfl,ow⟩ ?_ [106]
          refine lE tab42 hnt [(0,.ptr 998 0),(1,.v (.string nm)),(2,.i most),(7,(v4213 o v40 v43 kd ag ret tm)),(8,v421),(9,.i v25),(10,.i (tm+(1:Int))),(11,.i n)] 15869 [Fits .i64 (tm+(1:Int))] fi ?_
          refine blockQ_normal (thenQ_normal ?_)
          refine lE tab42 hnt [(0,.ptr 998 0),(1,.v (.string nm)),(2,.i most),(7,(v4213 o v40 v43 kd ag ret tm)),(8,v421),(9,.i v25),(10,.i (tm+(1:Int))),(11,.i (n - (1:Int)))] 15869 [Fits .i64 (n - (1:Int))] fi ?_
          refine thenQ_normal ?_
          refine ⟨((o++([(⟨v40,v43,kd,ag,ret,(((2:Int) * tm)+(1:Int)),(((2:Int) * tm)+(2:Int))⟩:CallD)])),(tm+(1:Int)),(n - (1:Int)),(List.set ss (Int.toNat v43) ((specStep nm (ss.getD (Int.toNat v43) []) (⟨v40,v43,kd,ag,ret,(((2:Int) * tm)+(1:Int)),(((2:Int) * tm)+(2:Int))⟩:CallD)).1)),q97),⟨oi,(by exact ho.snoc (by omega) (by unfold smallC; simp only; omega)),(by first | exact hss.step | exact hss.stepSet (by omega) (by simp only; omega) (by simp only; omega)),oi,oi⟩,(show (n - (1:Int)).toNat<n.toNat from o2),?_⟩
          exact Sub.of [(19,106)] (@cast (((((998:Nat)=998)∧((0:Nat)=0)∧((998:Nat) ∈ ([19,22,998,999] : List Nat)))∧(((.string nm):Value)=(.string nm))∧(Si most)∧(((106:Nat)=106)∧((List.length (o++([(⟨v40,v43,kd,ag,ret,(((2:Int) * tm)+(1:Int)),(((2:Int) * tm)+(2:Int))⟩:CallD)])))=(List.length (o++([(⟨v40,v43,kd,ag,ret,(((2:Int) * tm)+(1:Int)),(((2:Int) * tm)+(2:Int))⟩:CallD)]))))∧((19:Nat) ∈ ([19,22,998,999] : List Nat)))∧(((22:Nat)=22)∧((List.length ([([] : List Int),([] : List Int)]))=(List.length ([([] : List Int),([] : List Int)])))∧((22:Nat) ∈ ([19,22,998,999] : List Nat)))∧(Si v25)∧(Si (tm+(1:Int)))∧(Si (n - (1:Int)))∧Y)∧((((59:Nat)=59)∧(Sd (.calls (o++([(⟨v40,v43,kd,ag,ret,(((2:Int) * tm)+(1:Int)),(((2:Int) * tm)+(2:Int))⟩:CallD)]))))∧((19:Nat) ∈ ([19,22,998,999] : List Nat)))∧(((36:Nat)=36)∧(Sd (.intss (List.set ss (Int.toNat v43) ((specStep nm (ss.getD (Int.toNat v43) []) (⟨v40,v43,kd,ag,ret,(((2:Int) * tm)+(1:Int)),(((2:Int) * tm)+(2:Int))⟩:CallD)).1))))∧((22:Nat) ∈ ([19,22,998,999] : List Nat)))∧(((55:Nat)=55)∧((Sd (.bytes l))∧(Si q97)∧Y)∧((998:Nat) ∈ ([19,22,998,999] : List Nat)))∧Y)∧(true=true)∧(true=true)) _ (by kernel_rfl) ⟨⟨⟨rfl,rfl,(by decide)⟩,rfl,rfl,⟨rfl,rfl,(by decide)⟩,⟨rfl,rfl,(by decide)⟩,rfl,rfl,rfl,tt⟩,⟨⟨rfl,rfl,(by decide)⟩,⟨rfl,rfl,(by decide)⟩,⟨rfl,⟨rfl,rfl,tt⟩,(by decide)⟩,tt⟩,rfl,rfl⟩)
        ·intro n90
         refine W.skip (blockQ_normal (thenQ_normal ?_))
         refine lE tab42 hnt [(0,.ptr 998 0),(1,.v (.string nm)),(2,.i most),(7,.own 19 o.length),(8,v421),(9,.i v25),(10,.i tm),(11,.i n),(12,.ptr 12 0),(13,.i (ret+(1:Int)))] 15869 [Fits .i64 (ret+(1:Int))] fi ?_
         refine thenQ_normal ?_
         refine ⟨((ret+(1:Int)),ret),(show (-1≤(ret+(1:Int))∧(ret+(1:Int))≤21) from oi),(show (21 - (ret+(1:Int))).toNat<(21 - ret).toNat from o2),?_⟩
         exact Sk
       ·intro n74
        refine W.exit (thenQ_exit (thenQ_exit (blockQ_hit ?_)))
        refine thenQ_normal ?_
        refine W.seq ?_
        refine W.seq (W.wi ?_)
        refine WI.runT cok tab42 hnt [] 1 1 (⟨[(0,.ptr 998 0),(1,.v (.string nm)),(2,.i most),(7,.own 19 o.length),(8,v421),(9,.i v25),(10,.i tm),(11,.i n),(12,.ptr 12 0),(13,.i ret),(74,(v429 ret)),(96,.ptr 998 0)],[(12,⟨59,.fix [.i v40,.i v43,.i kd,.i ag,.i r4,(v427 tm),(v428 tm)]⟩),(19,⟨59,.row (.calls o)⟩),(22,⟨36,.row (.intss ss)⟩),(998,⟨55,.fix [.sl (.bytes l),.i q49]⟩)],[12,19,22,998,999]⟩)
         (Y∧Y) (by kernel_rfl) rfl
         ⟨tt,tt⟩ ?_
        refine WI.call [.ptr 998 0,.i (12:Int)] [.sl (.bytes l),.i q49] [.i (12:Int)] [.i (12:Int)] (some (55,998)) (Y) (Y∧Y) none rok19 ent19 hnt rfl rfl (wanted_none rfl) (by kernel_rfl) (by kernel_rfl) (by kernel_rfl) ⟨tt,tt,tt⟩
         (@cast (0≤q49∧q49≤1000000) _ (by kernel_rfl) om) (Or.inl rfl) rfl ?_
        rintro r bl fx2 hR
        obtain ⟨⟨v97,q97⟩,hq97,rfl,rfl,rfl⟩ := (@cast _ (∃ x : Int × Int,((0≤x.1∧x.1<max (12:Int) 1)∧(x.2=q49+1))∧r=(.i x.1)∧bl=([])∧fx2=([.sl (.bytes l),.i x.2])) (by kernel_rfl) hR)
        clear hR
        replace hq97 : (0≤v97∧v97<max (12:Int) 1)∧(q97=q49+1) := hq97
        obtain ⟨hv97,hq197⟩ := hq97
        refine ⟨by kernel_rfl,WI.to (⟨[(0,.ptr 998 0),(1,.v (.string nm)),(2,.i most),(7,.own 19 o.length),(8,v421),(9,.i v25),(10,.i tm),(11,.i n),(12,.ptr 12 0),(13,.i ret),(74,(v429 ret)),(96,.ptr 998 0),(97,.i v97)],[(12,⟨59,.fix [.i v40,.i v43,.i kd,.i ag,.i r4,(v427 tm),(v428 tm)]⟩),(19,⟨59,.row (.calls o)⟩),(22,⟨36,.row (.intss ss)⟩),(998,⟨55,.fix [.sl (.bytes l),.i q97]⟩)],[97,12,19,22,998,999]⟩) 2 (by kernel_rfl) rfl ?_⟩
        refine WI.runT cok tab42 hnt [] 1 3 (⟨[(0,.ptr 998 0),(1,.v (.string nm)),(2,.i most),(7,.own 19 o.length),(8,v421),(9,.i v25),(10,.i tm),(11,.i n),(12,.ptr 12 0),(13,.i ret),(74,(v429 ret)),(96,.ptr 998 0),(97,.i v97),(98,(v4210 v97))],[(12,⟨59,.fix [.i v40,.i v43,.i kd,.i ag,.i r4,(v427 tm),(v428 tm)]⟩),(19,⟨59,.row (.calls o)⟩),(22,⟨36,.row (.intss ss)⟩),(998,⟨55,.fix [.sl (.bytes l),.i q97]⟩)],[97,12,19,22,998,999]⟩)
         ((Y∧Y∧Y)∧Y) (by kernel_rfl) rfl
         ⟨⟨tt,tt,tt⟩,tt⟩ ?_
        refine WI.nil rfl (thenQ_normal ?_)
        refine W.keepE [0,1,2,7,8,9,10,11,12,98] [(0,.ptr 998 0),(1,.v (.string nm)),(2,.i most),(7,.own 19 o.length),(8,.own 22 (List.length ([([] : List Int),([] : List Int)]))),(9,.i v25),(10,.i tm),(11,.i n),(12,.ptr 12 0),(98,.b (decide (v97=(0:Int))))] (by kernel_rfl) ?_
        refine W.to (⟨[(0,.ptr 998 0),(1,.v (.string nm)),(2,.i most),(7,.own 19 o.length),(8,v421),(9,.i v25),(10,.i tm),(11,.i n),(12,.ptr 12 0),(98,(v4210 v97))],[(12,⟨59,.fix [.i v40,.i v43,.i kd,.i ag,.i r4,(v427 tm),(v428 tm)]⟩),(19,⟨59,.row (.calls o)⟩),(22,⟨36,.row (.intss ss)⟩),(998,⟨55,.fix [.sl (.bytes l),.i q97]⟩)],[97,12,19,22,998,999]⟩) rfl ?_
        refine ifp (v97=(0:Int)) ?_ ?_
        ·intro h98
         refine W.wi ?_
         refine WI.runT cok tab42 hnt [] 2 2 (⟨[(0,.ptr 998 0),(1,.v (.string nm)),(2,.i most),(7,.own 19 o.length),(8,v421),(9,.i v25),(10,.i tm),(11,.i n),(12,.ptr 12 0),(98,(v4210 v97)),(99,.ptr 998 0),(100,v4211)],[(12,⟨59,.fix [.i v40,.i v43,.i kd,.i ag,.i r4,(v427 tm),(v428 tm)]⟩),(19,⟨59,.row (.calls o)⟩),(22,⟨36,.row (.intss ss)⟩),(998,⟨55,.fix [.sl (.bytes l),.i q97]⟩)],[100,97,12,19,22,998,999]⟩)
          (Y∧(Y∧Y∧Y∧Y∧Y)∧Y) (by kernel_rfl) rfl
          ⟨tt,⟨tt,tt,tt,tt,tt⟩,tt⟩ ?_
         refine WI.call [.ptr 998 0,v4211] [.sl (.bytes l),.i q97] [v4211] [v4211] (some (55,998)) (Y) (Y∧Y) none rok15 ent15 hnt rfl rfl (wanted_none rfl) (by kernel_rfl) (by kernel_rfl) (by kernel_rfl) ⟨tt,tt,tt⟩
          (@cast ((0≤q97∧q97≤1000000)∧(0<([(0:Int),(1:Int),(-1:Int),(2:Int)]).length)∧(([(0:Int),(1:Int),(-1:Int),(2:Int)]).length≤1000)) _ (by kernel_rfl) ⟨om,⟨ow,ow⟩⟩) (Or.inl rfl) rfl ?_
         rintro r bl fx2 hR
         obtain ⟨⟨v101,q101⟩,hq101,rfl,rfl,rfl⟩ := (@cast _ (∃ x : Int × Int,((x.1 ∈ ([(0:Int),(1:Int),(-1:Int),(2:Int)]))∧(x.2=q97+1))∧r=(.i x.1)∧bl=([])∧fx2=([.sl (.bytes l),.i x.2])) (by kernel_rfl) hR)
         clear hR
         replace hq101 : (v101 ∈ ([(0:Int),(1:Int),(-1:Int),(2:Int)]))∧(q101=q97+1) := hq101
         obtain ⟨hv101,hq1101⟩ := hq101
         simp only [List.mem_cons,List.not_mem_nil,or_false] at hv101
         refine ⟨by kernel_rfl,WI.to (⟨[(0,.ptr 998 0),(1,.v (.string nm)),(2,.i most),(7,.own 19 o.length),(8,v421),(9,.i v25),(10,.i tm),(11,.i n),(12,.ptr 12 0),(98,(v4210 v97)),(99,.ptr 998 0),(100,v4211),(101,.i v101)],[(12,⟨59,.fix [.i v40,.i v43,.i kd,.i ag,.i r4,(v427 tm),(v428 tm)]⟩),(19,⟨59,.row (.calls o)⟩),(22,⟨36,.row (.intss ss)⟩),(998,⟨55,.fix [.sl (.bytes l),.i q101]⟩)],[101,100,97,12,19,22,998,999]⟩) 3 (by kernel_rfl) rfl ?_⟩
         refine WI.runT cok tab42 hnt [] 2 5 (⟨[(0,.ptr 998 0),(1,.v (.string nm)),(2,.i most),(7,.own 19 o.length),(8,v421),(9,.i v25),(10,.i tm),(11,.i n),(12,.ptr 12 0),(98,(v4210 v97)),(99,.ptr 998 0),(100,v4211),(101,.i v101),(102,.ptr 12 4)],[(12,⟨59,.fix [.i v40,.i v43,.i kd,.i ag,.i v101,(v427 tm),(v428 tm)]⟩),(19,⟨59,.row (.calls o)⟩),(22,⟨36,.row (.intss ss)⟩),(998,⟨55,.fix [.sl (.bytes l),.i q101]⟩)],[101,100,97,12,19,22,998,999]⟩)
          (Y∧(Y∧Y)∧Y) (by kernel_rfl) rfl
          ⟨tt,⟨tt,tt⟩,tt⟩ ?_
         refine WI.nil rfl ?_
         refine thenQ_normal ?_
         refine kS tab42 hnt [(0,.ptr 998 0),(1,.v (.string nm)),(2,.i most),(7,(v4212 o v40 v43 kd ag v101 tm)),(8,v421),(9,.i v25),(10,.i tm),(11,.i n)] [(12,⟨59,.fix [.i v40,.i v43,.i kd,.i ag,.i v101,(v427 tm),(v428 tm)]⟩),(22,⟨36,.row (.intss ss)⟩),(106,⟨59,.row (.calls (o++([(⟨v40,v43,kd,ag,v101,(((2:Int) * tm)+(1:Int)),(((2:Int) * tm)+(2:Int))⟩:CallD)])))⟩),(998,⟨55,.fix [.sl (.bytes l),.i q101]⟩)] [106,105,101,100,97,12,19,22,998,999] 104333690 [o.length=o.length,(o.length+(List.length ([(⟨v40,v43,kd,ag,v101,(((2:Int) * tm)+(1:Int)),(((2:Int) * tm)+(2:Int))⟩:CallD)]))) * 56≤140737488355328] ⟨rfl,ow⟩ ?_ [106]
         refine lE tab42 hnt [(0,.ptr 998 0),(1,.v (.string nm)),(2,.i most),(7,(v4212 o v40 v43 kd ag v101 tm)),(8,v421),(9,.i v25),(10,.i (tm+(1:Int))),(11,.i n)] 15869 [Fits .i64 (tm+(1:Int))] fi ?_
         refine blockQ_normal (thenQ_normal ?_)
         refine lE tab42 hnt [(0,.ptr 998 0),(1,.v (.string nm)),(2,.i most),(7,(v4212 o v40 v43 kd ag v101 tm)),(8,v421),(9,.i v25),(10,.i (tm+(1:Int))),(11,.i (n - (1:Int)))] 15869 [Fits .i64 (n - (1:Int))] fi ?_
         refine thenQ_normal ?_
         refine ⟨((o++([(⟨v40,v43,kd,ag,v101,(((2:Int) * tm)+(1:Int)),(((2:Int) * tm)+(2:Int))⟩:CallD)])),(tm+(1:Int)),(n - (1:Int)),ss,q101),⟨oi,(by exact ho.snoc (by omega) (by unfold smallC; simp only; omega)),(by first | exact hss.step | exact hss.stepSet (by omega) (by simp only; omega) (by simp only; omega)),oi,oi⟩,(show (n - (1:Int)).toNat<n.toNat from o2),?_⟩
         exact Sub.of [(19,106)] (@cast (((((998:Nat)=998)∧((0:Nat)=0)∧((998:Nat) ∈ ([19,22,998,999] : List Nat)))∧(((.string nm):Value)=(.string nm))∧(Si most)∧(((106:Nat)=106)∧((List.length (o++([(⟨v40,v43,kd,ag,v101,(((2:Int) * tm)+(1:Int)),(((2:Int) * tm)+(2:Int))⟩:CallD)])))=(List.length (o++([(⟨v40,v43,kd,ag,v101,(((2:Int) * tm)+(1:Int)),(((2:Int) * tm)+(2:Int))⟩:CallD)]))))∧((19:Nat) ∈ ([19,22,998,999] : List Nat)))∧(((22:Nat)=22)∧((List.length ([([] : List Int),([] : List Int)]))=(List.length ([([] : List Int),([] : List Int)])))∧((22:Nat) ∈ ([19,22,998,999] : List Nat)))∧(Si v25)∧(Si (tm+(1:Int)))∧(Si (n - (1:Int)))∧Y)∧((((59:Nat)=59)∧(Sd (.calls (o++([(⟨v40,v43,kd,ag,v101,(((2:Int) * tm)+(1:Int)),(((2:Int) * tm)+(2:Int))⟩:CallD)]))))∧((19:Nat) ∈ ([19,22,998,999] : List Nat)))∧(((36:Nat)=36)∧(Sd (.intss ss))∧((22:Nat) ∈ ([19,22,998,999] : List Nat)))∧(((55:Nat)=55)∧((Sd (.bytes l))∧(Si q101)∧Y)∧((998:Nat) ∈ ([19,22,998,999] : List Nat)))∧Y)∧(true=true)∧(true=true)) _ (by kernel_rfl) ⟨⟨⟨rfl,rfl,(by decide)⟩,rfl,rfl,⟨rfl,rfl,(by decide)⟩,⟨rfl,rfl,(by decide)⟩,rfl,rfl,rfl,tt⟩,⟨⟨rfl,rfl,(by decide)⟩,⟨rfl,rfl,(by decide)⟩,⟨rfl,⟨rfl,rfl,tt⟩,(by decide)⟩,tt⟩,rfl,rfl⟩)
        ·intro n98
         refine W.skip (thenQ_normal ?_)
         refine kS tab42 hnt [(0,.ptr 998 0),(1,.v (.string nm)),(2,.i most),(7,(v4214 o v40 v43 kd ag r4 tm)),(8,v421),(9,.i v25),(10,.i tm),(11,.i n)] [(12,⟨59,.fix [.i v40,.i v43,.i kd,.i ag,.i r4,(v427 tm),(v428 tm)]⟩),(22,⟨36,.row (.intss ss)⟩),(106,⟨59,.row (.calls (o++([(⟨v40,v43,kd,ag,r4,(((2:Int) * tm)+(1:Int)),(((2:Int) * tm)+(2:Int))⟩:CallD)])))⟩),(998,⟨55,.fix [.sl (.bytes l),.i q97]⟩)] [106,105,97,12,19,22,998,999] 104333690 [o.length=o.length,(o.length+(List.length ([(⟨v40,v43,kd,ag,r4,(((2:Int) * tm)+(1:Int)),(((2:Int) * tm)+(2:Int))⟩:CallD)]))) * 56≤140737488355328] ⟨rfl,ow⟩ ?_ [106]
         refine lE tab42 hnt [(0,.ptr 998 0),(1,.v (.string nm)),(2,.i most),(7,(v4214 o v40 v43 kd ag r4 tm)),(8,v421),(9,.i v25),(10,.i (tm+(1:Int))),(11,.i n)] 15869 [Fits .i64 (tm+(1:Int))] fi ?_
         refine blockQ_normal (thenQ_normal ?_)
         refine lE tab42 hnt [(0,.ptr 998 0),(1,.v (.string nm)),(2,.i most),(7,(v4214 o v40 v43 kd ag r4 tm)),(8,v421),(9,.i v25),(10,.i (tm+(1:Int))),(11,.i (n - (1:Int)))] 15869 [Fits .i64 (n - (1:Int))] fi ?_
         refine thenQ_normal ?_
         refine ⟨((o++([(⟨v40,v43,kd,ag,r4,(((2:Int) * tm)+(1:Int)),(((2:Int) * tm)+(2:Int))⟩:CallD)])),(tm+(1:Int)),(n - (1:Int)),ss,q97),⟨oi,(by exact ho.snoc (by omega) (by unfold smallC; simp only; omega)),(by first | exact hss.step | exact hss.stepSet (by omega) (by simp only; omega) (by simp only; omega)),oi,oi⟩,(show (n - (1:Int)).toNat<n.toNat from o2),?_⟩
         exact Sub.of [(19,106)] (@cast (((((998:Nat)=998)∧((0:Nat)=0)∧((998:Nat) ∈ ([19,22,998,999] : List Nat)))∧(((.string nm):Value)=(.string nm))∧(Si most)∧(((106:Nat)=106)∧((List.length (o++([(⟨v40,v43,kd,ag,r4,(((2:Int) * tm)+(1:Int)),(((2:Int) * tm)+(2:Int))⟩:CallD)])))=(List.length (o++([(⟨v40,v43,kd,ag,r4,(((2:Int) * tm)+(1:Int)),(((2:Int) * tm)+(2:Int))⟩:CallD)]))))∧((19:Nat) ∈ ([19,22,998,999] : List Nat)))∧(((22:Nat)=22)∧((List.length ([([] : List Int),([] : List Int)]))=(List.length ([([] : List Int),([] : List Int)])))∧((22:Nat) ∈ ([19,22,998,999] : List Nat)))∧(Si v25)∧(Si (tm+(1:Int)))∧(Si (n - (1:Int)))∧Y)∧((((59:Nat)=59)∧(Sd (.calls (o++([(⟨v40,v43,kd,ag,r4,(((2:Int) * tm)+(1:Int)),(((2:Int) * tm)+(2:Int))⟩:CallD)]))))∧((19:Nat) ∈ ([19,22,998,999] : List Nat)))∧(((36:Nat)=36)∧(Sd (.intss ss))∧((22:Nat) ∈ ([19,22,998,999] : List Nat)))∧(((55:Nat)=55)∧((Sd (.bytes l))∧(Si q97)∧Y)∧((998:Nat) ∈ ([19,22,998,999] : List Nat)))∧Y)∧(true=true)∧(true=true)) _ (by kernel_rfl) ⟨⟨⟨rfl,rfl,(by decide)⟩,rfl,rfl,⟨rfl,rfl,(by decide)⟩,⟨rfl,rfl,(by decide)⟩,rfl,rfl,rfl,tt⟩,⟨⟨rfl,rfl,(by decide)⟩,⟨rfl,rfl,(by decide)⟩,⟨rfl,⟨rfl,rfl,tt⟩,(by decide)⟩,tt⟩,rfl,rfl⟩)
   ·intro n36
    refine W.exit (thenQ_exit (thenQ_exit (blockQ_hit ?_)))
    refine thenQ_normal ?_
    refine kE tab42 hnt [(6,.own 19 o.length)] 20 [] tt ?_
    refine W.ret ?_
    exact endP_ret (o,p1) (show (GoodH o)∧(p≤p1∧p1≤p+100) from ⟨(by first | assumption | omega | rfl | (simp; done) | (simp; omega)),(by first | assumption | omega | rfl | (simp; done) | (simp; omega))⟩) [(1,19),(0,998)] (.own 19 o.length) (by kernel_rfl) (@cast ((((19:Nat)=19)∧(o.length=o.length)∧((1:Nat) ∈ ([0,1] : List Nat)))∧((((55:Nat)=55)∧((Sd (.bytes l))∧(Si p1)∧Y)∧((0:Nat) ∈ ([0,1] : List Nat)))∧(((59:Nat)=59)∧(Sd (.calls o))∧((1:Nat) ∈ ([0,1] : List Nat)))∧Y)∧(true=true)∧((([] : List Nat)=[])∧Y)∧(true=true→(998:Nat)=998)) _ (by kernel_rfl) ⟨⟨rfl,rfl,(by decide)⟩,⟨⟨rfl,⟨rfl,rfl,tt⟩,(by decide)⟩,⟨rfl,rfl,(by decide)⟩,tt⟩,rfl,⟨rfl,tt⟩,(fun _=>rfl)⟩)
theorem ent42 : Entr prog 42 := ⟨_,func42,rfl,by decide⟩
end Go.Proofs.Tryz

set_option linter.unusedSimpArgs false
set_option linter.unusedVariables false
namespace Go.Proofs.Tryz
open Go.Ab Go.RowKit
def pre41 : List AV→List AV→Prop := preP [.calls] [.bytes,.int] (fun (h,_) (l,p,_)=>(0≤p∧p≤900000)∧(GoodH h))
def rel41 : RelS := relP [.calls] [.bytes,.int] (ι := (List CallD) × Int) (fun (h,_) (l,p,_) (g,q)=>(GoodH g)∧(p≤q∧q≤p+1000)) (fun (h,_) (l,p,_) (g,q)=>(.own 1 g.length,[⟨59,.row (.calls g)⟩],[.sl (.bytes l),.i q]))
abbrev T41 : Tab := lk [(39,fs39)]
theorem tab41 : TabOK prog T41 := (TabOK.cons ok39 ent39 TabOK.nil)
abbrev v410:AV:=.sl (.ints ([(4:Int),(8:Int),(2:Int),(0:Int),(12:Int)]))
abbrev v411 (o:List CallD):AV:=.i (o.length:Int)
abbrev v412 (o:List CallD) (v33:Int):AV:=.i ((o.getD (Int.toNat v33) default).frm)
abbrev v413 (o:List CallD) (v33:Int):AV:=.i ((o.getD (Int.toNat v33) default).to)
abbrev v414:AV:=.sl (.ints ([(1:Int),(-1:Int)]))
abbrev v415 (k:Nat):AV:=.i (((k+1):Nat):Int)
theorem rok41 : RelOK prog 41 (some 55) [.c .calls 59] pre41 rel41 := by
 refine RelOK.mk cok func41 rfl rfl rfl ?_
 rintro ⟨(h : List CallD),_⟩ ⟨(l : List UInt8),(p:Int),_⟩ hpre F hnt0
 have hnt : F.nt=117 := hnt0.trans ntmps41
 replace hpre : (0≤p∧p≤900000)∧(GoodH h) := hpre
 obtain ⟨hp,hG⟩ := hpre
 refine W.to (⟨[(0,.ptr 998 0),(1,.own 999 h.length)],[(998,⟨55,.fix [.sl (.bytes l),.i p]⟩),(999,⟨59,.row (.calls h)⟩)],[998,999]⟩) rfl ?_
 have hl6 := hG.1
 refine kE tab41 hnt [(0,.ptr 998 0),(1,.own 999 h.length)] 2 [] tt ?_
 refine W.seq ?_
 refine kE tab41 hnt [(0,.ptr 998 0),(1,.own 999 h.length),(15,.b (decide ((h.length:Int)=(0:Int))))] 5042 [] tt ?_
 refine ifp ((h.length:Int)=(0:Int)) ?_ ?_
 ·intro h15
  refine kE tab41 hnt [(4,.own 999 h.length)] 20 [] tt ?_
  refine W.ret (thenQ_ret ?_)
  exact endP_ret (h,p) (show (GoodH h)∧(p≤p∧p≤p+1000) from ⟨(by assumption),(by first | assumption | omega | rfl | (simp; done) | (simp; omega))⟩) [(1,999),(0,998)] (.own 999 h.length) (by kernel_rfl) (@cast ((((999:Nat)=999)∧(h.length=h.length)∧((1:Nat) ∈ ([0,1] : List Nat)))∧((((55:Nat)=55)∧((Sd (.bytes l))∧(Si p)∧Y)∧((0:Nat) ∈ ([0,1] : List Nat)))∧(((59:Nat)=59)∧(Sd (.calls h))∧((1:Nat) ∈ ([0,1] : List Nat)))∧Y)∧(true=true)∧((([] : List Nat)=[])∧Y)∧(true=true→(998:Nat)=998)) _ (by kernel_rfl) ⟨⟨rfl,rfl,(by decide)⟩,⟨⟨rfl,⟨rfl,rfl,tt⟩,(by decide)⟩,⟨rfl,rfl,(by decide)⟩,tt⟩,rfl,⟨rfl,tt⟩,(fun _=>rfl)⟩)
 ·intro n15
  refine W.skip (thenQ_normal ?_)
  refine kS tab41 hnt [(0,.ptr 998 0),(5,.own 19 h.length)] [(19,⟨59,.row (.calls h)⟩),(998,⟨55,.fix [.sl (.bytes l),.i p]⟩),(999,⟨59,.row (.calls h)⟩)] [19,17,998,999] 11857853 [(List.length ([] : List CallD))=(List.length ([] : List CallD)),h.length=h.length,((List.length ([] : List CallD))+h.length) * 56≤140737488355328] ⟨rfl,rfl,ow⟩ ?_ [17,19]
  refine W.seq ?_
  refine W.seq (W.wi ?_)
  refine WI.runT cok tab41 hnt [] 2 2 (⟨[(0,.ptr 998 0),(5,.own 19 h.length),(20,.ptr 998 0),(21,v410)],[(19,⟨59,.row (.calls h)⟩),(998,⟨55,.fix [.sl (.bytes l),.i p]⟩),(999,⟨59,.row (.calls h)⟩)],[21,19,17,998,999]⟩)
   (Y∧(Y∧Y∧Y∧Y∧Y∧Y)∧Y) (by kernel_rfl) rfl
   ⟨tt,⟨tt,tt,tt,tt,tt,tt⟩,tt⟩ ?_
  refine WI.call [.ptr 998 0,v410] [.sl (.bytes l),.i p] [v410] [v410] (some (55,998)) (Y) (Y∧Y) none rok15 ent15 hnt rfl rfl (wanted_none rfl) (by kernel_rfl) (by kernel_rfl) (by kernel_rfl) ⟨tt,tt,tt⟩
   (@cast ((0≤p∧p≤1000000)∧(0<([(4:Int),(8:Int),(2:Int),(0:Int),(12:Int)]).length)∧(([(4:Int),(8:Int),(2:Int),(0:Int),(12:Int)]).length≤1000)) _ (by kernel_rfl) ⟨om,⟨ow,ow⟩⟩) (Or.inl rfl) rfl ?_
  rintro r bl fx2 hR
  obtain ⟨⟨v22,q22⟩,hq22,rfl,rfl,rfl⟩ := (@cast _ (∃ x : Int × Int,((x.1 ∈ ([(4:Int),(8:Int),(2:Int),(0:Int),(12:Int)]))∧(x.2=p+1))∧r=(.i x.1)∧bl=([])∧fx2=([.sl (.bytes l),.i x.2])) (by kernel_rfl) hR)
  clear hR
  replace hq22 : (v22 ∈ ([(4:Int),(8:Int),(2:Int),(0:Int),(12:Int)]))∧(q22=p+1) := hq22
  obtain ⟨hv22,hq122⟩ := hq22
  simp only [List.mem_cons,List.not_mem_nil,or_false] at hv22
  refine ⟨by kernel_rfl,WI.to (⟨[(0,.ptr 998 0),(5,.own 19 h.length),(20,.ptr 998 0),(21,v410),(22,.i v22)],[(19,⟨59,.row (.calls h)⟩),(998,⟨55,.fix [.sl (.bytes l),.i q22]⟩),(999,⟨59,.row (.calls h)⟩)],[22,21,19,17,998,999]⟩) 3 (by kernel_rfl) rfl ?_⟩
  refine WI.runT cok tab41 hnt [] 1 4 (⟨[(0,.ptr 998 0),(5,.own 19 h.length),(6,.i v22),(20,.ptr 998 0),(21,v410),(22,.i v22)],[(19,⟨59,.row (.calls h)⟩),(998,⟨55,.fix [.sl (.bytes l),.i q22]⟩),(999,⟨59,.row (.calls h)⟩)],[22,21,19,17,998,999]⟩)
   (Y∧Y) (by kernel_rfl) rfl
   ⟨tt,tt⟩ ?_
  refine WI.nil rfl (thenQ_normal ?_)
  refine W.keepE [0,5,6] [(0,.ptr 998 0),(5,.own 19 h.length),(6,.i v22)] (by kernel_rfl) ?_
  refine W.to (⟨[(0,.ptr 998 0),(5,.own 19 h.length),(6,.i v22)],[(19,⟨59,.row (.calls h)⟩),(998,⟨55,.fix [.sl (.bytes l),.i q22]⟩),(999,⟨59,.row (.calls h)⟩)],[22,21,19,17,998,999]⟩) rfl ?_
  refine W.block ?_
  refine W.loop (ι := (List CallD) × Int × Int) (fun (x : (List CallD) × Int × Int)=>match x with | (o,n,p1)=>(⟨[(0,.ptr 998 0),(5,.own 19 o.length),(6,.i n)],[(19,⟨59,.row (.calls o)⟩),(998,⟨55,.fix [.sl (.bytes l),.i p1]⟩)],[19,998,999]⟩:St))
   (fun (x : (List CallD) × Int × Int)=>match x with | (o,n,p1)=>(n≤12)∧(p+1≤p1∧p1≤p+1+3 * (12 - n)∧p1≤p+900)∧(GoodH o)∧(o.length=h.length))
   (fun (x : (List CallD) × Int × Int)=>match x with | (o,n,p1)=>(n.toNat:Nat)) (h,v22,q22) ?_ ?_ ?_
  ·exact ⟨(by omega),(by omega),(by exact hG),(by rfl)⟩
  ·exact Sk
  ·rintro ⟨o,n,p1⟩ hC0
   obtain ⟨hn,hq,ho,hol⟩ := hC0
   have ho6 := ho.1
   refine W.seq ?_
   refine kE tab41 hnt [(0,.ptr 998 0),(5,.own 19 o.length),(6,.i n),(24,.b (decide ((0:Int)<n)))] 560 [] tt ?_
   refine ifp ((0:Int)<n) ?_ ?_
   ·intro h24
    refine W.skip (thenQ_normal ?_)
    refine W.seq ?_
    refine W.block ?_
    refine kS tab41 hnt [(0,.ptr 998 0),(5,.own 19 o.length),(6,.i n),(7,.own 29 o.length)] [(19,⟨59,.row (.calls o)⟩),(29,⟨59,.row (.calls o)⟩),(998,⟨55,.fix [.sl (.bytes l),.i p1]⟩)] [29,27,19,998,999] 11857853 [(List.length ([] : List CallD))=(List.length ([] : List CallD)),o.length=o.length,((List.length ([] : List CallD))+o.length) * 56≤140737488355328] ⟨rfl,rfl,ow⟩ ?_ [27,29]
    refine W.seq (W.wi ?_)
    refine WI.runT cok tab41 hnt [] 3 3 (⟨[(0,.ptr 998 0),(5,.own 19 o.length),(6,.i n),(7,.own 29 o.length),(30,.ptr 998 0),(31,.own 29 o.length),(32,(v411 o))],[(19,⟨59,.row (.calls o)⟩),(29,⟨59,.row (.calls o)⟩),(998,⟨55,.fix [.sl (.bytes l),.i p1]⟩)],[29,27,19,998,999]⟩)
     (Y∧Y∧Y∧Y) (by kernel_rfl) rfl
     ⟨tt,tt,tt,tt⟩ ?_
    refine WI.call [.ptr 998 0,(v411 o)] [.sl (.bytes l),.i p1] [(v411 o)] [(v411 o)] (some (55,998)) (Y) (Y∧Y) none rok19 ent19 hnt rfl rfl (wanted_none rfl) (by kernel_rfl) (by kernel_rfl) (by kernel_rfl) ⟨tt,tt,tt⟩
     (@cast (0≤p1∧p1≤1000000) _ (by kernel_rfl) om) (Or.inl rfl) rfl ?_
    rintro r bl fx2 hR
    obtain ⟨⟨v33,q33⟩,hq33,rfl,rfl,rfl⟩ := (@cast _ (∃ x : Int × Int,((0≤x.1∧x.1<max (o.length:Int) 1)∧(x.2=p1+1))∧r=(.i x.1)∧bl=([])∧fx2=([.sl (.bytes l),.i x.2])) (by kernel_rfl) hR)
    clear hR
    replace hq33 : (0≤v33∧v33<max (o.length:Int) 1)∧(q33=p1+1) := hq33
    obtain ⟨hv33,hq133⟩ := hq33
    refine ⟨by kernel_rfl,WI.to (⟨[(0,.ptr 998 0),(5,.own 19 o.length),(6,.i n),(7,.own 29 o.length),(30,.ptr 998 0),(31,.own 29 o.length),(32,(v411 o)),(33,.i v33)],[(19,⟨59,.row (.calls o)⟩),(29,⟨59,.row (.calls o)⟩),(998,⟨55,.fix [.sl (.bytes l),.i q33]⟩)],[33,29,27,19,998,999]⟩) 4 (by kernel_rfl) rfl ?_⟩
    refine WI.runT cok tab41 hnt [] 1 5 (⟨[(0,.ptr 998 0),(5,.own 19 o.length),(6,.i n),(7,.own 29 o.length),(8,.i v33),(30,.ptr 998 0),(31,.own 29 o.length),(32,(v411 o)),(33,.i v33)],[(19,⟨59,.row (.calls o)⟩),(29,⟨59,.row (.calls o)⟩),(998,⟨55,.fix [.sl (.bytes l),.i q33]⟩)],[33,29,27,19,998,999]⟩)
     (Y∧Y) (by kernel_rfl) rfl
     ⟨tt,tt⟩ ?_
    refine WI.nil rfl (thenQ_normal ?_)
    refine W.keepE [0,5,6,7,8] [(0,.ptr 998 0),(5,.own 19 o.length),(6,.i n),(7,.own 29 o.length),(8,.i v33)] (by kernel_rfl) ?_
    refine W.to (⟨[(0,.ptr 998 0),(5,.own 19 o.length),(6,.i n),(7,.own 29 o.length),(8,.i v33)],[(19,⟨59,.row (.calls o)⟩),(29,⟨59,.row (.calls o)⟩),(998,⟨55,.fix [.sl (.bytes l),.i q33]⟩)],[33,29,27,19,998,999]⟩) rfl ?_
    refine kE tab41 hnt [(0,.ptr 998 0),(5,.own 19 o.length),(6,.i n),(7,.own 29 o.length),(8,.i v33),(9,(v412 o v33))] 943588379 [0≤v33,v33<(o.length:Int),(Int.toNat v33)<o.length] ⟨om,om,om⟩ ?_
    refine kE tab41 hnt [(0,.ptr 998 0),(5,.own 19 o.length),(6,.i n),(7,.own 29 o.length),(9,(v412 o v33)),(10,(v413 o v33))] 943588379 [0≤v33,v33<(o.length:Int),(Int.toNat v33)<o.length] ⟨om,om,om⟩ ?_
    refine W.seq ?_
    refine W.seq (W.wi ?_)
    refine WI.runT cok tab41 hnt [] 1 1 (⟨[(0,.ptr 998 0),(5,.own 19 o.length),(6,.i n),(7,.own 29 o.length),(9,(v412 o v33)),(10,(v413 o v33)),(44,.ptr 998 0)],[(19,⟨59,.row (.calls o)⟩),(29,⟨59,.row (.calls o)⟩),(998,⟨55,.fix [.sl (.bytes l),.i q33]⟩)],[33,29,27,19,998,999]⟩)
     (Y∧Y) (by kernel_rfl) rfl
     ⟨tt,tt⟩ ?_
    refine WI.call [.ptr 998 0,.i (2:Int)] [.sl (.bytes l),.i q33] [.i (2:Int)] [.i (2:Int)] (some (55,998)) (Y) (Y∧Y) none rok19 ent19 hnt rfl rfl (wanted_none rfl) (by kernel_rfl) (by kernel_rfl) (by kernel_rfl) ⟨tt,tt,tt⟩
     (@cast (0≤q33∧q33≤1000000) _ (by kernel_rfl) om) (Or.inl rfl) rfl ?_
    rintro r bl fx2 hR
    obtain ⟨⟨v45,q45⟩,hq45,rfl,rfl,rfl⟩ := (@cast _ (∃ x : Int × Int,((0≤x.1∧x.1<max (2:Int) 1)∧(x.2=q33+1))∧r=(.i x.1)∧bl=([])∧fx2=([.sl (.bytes l),.i x.2])) (by kernel_rfl) hR)
    clear hR
    replace hq45 : (0≤v45∧v45<max (2:Int) 1)∧(q45=q33+1) := hq45
    obtain ⟨hv45,hq145⟩ := hq45
    refine ⟨by kernel_rfl,WI.to (⟨[(0,.ptr 998 0),(5,.own 19 o.length),(6,.i n),(7,.own 29 o.length),(9,(v412 o v33)),(10,(v413 o v33)),(44,.ptr 998 0),(45,.i v45)],[(19,⟨59,.row (.calls o)⟩),(29,⟨59,.row (.calls o)⟩),(998,⟨55,.fix [.sl (.bytes l),.i q45]⟩)],[45,33,29,27,19,998,999]⟩) 2 (by kernel_rfl) rfl ?_⟩
    refine WI.runT cok tab41 hnt [] 1 3 (⟨[(0,.ptr 998 0),(5,.own 19 o.length),(6,.i n),(7,.own 29 o.length),(9,(v412 o v33)),(10,(v413 o v33)),(44,.ptr 998 0),(45,.i v45),(46,.b (decide (v45=(0:Int))))],[(19,⟨59,.row (.calls o)⟩),(29,⟨59,.row (.calls o)⟩),(998,⟨55,.fix [.sl (.bytes l),.i q45]⟩)],[45,33,29,27,19,998,999]⟩)
     ((Y∧Y∧Y)∧Y) (by kernel_rfl) rfl
     ⟨⟨tt,tt,tt⟩,tt⟩ ?_
    refine WI.nil rfl (thenQ_normal ?_)
    refine W.keepE [0,5,6,7,9,10,46] [(0,.ptr 998 0),(5,.own 19 o.length),(6,.i n),(7,.own 29 o.length),(9,.i ((o.getD (Int.toNat v33) default).frm)),(10,.i ((o.getD (Int.toNat v33) default).to)),(46,.b (decide (v45=(0:Int))))] (by kernel_rfl) ?_
    refine W.to (⟨[(0,.ptr 998 0),(5,.own 19 o.length),(6,.i n),(7,.own 29 o.length),(9,(v412 o v33)),(10,(v413 o v33)),(46,.b (decide (v45=(0:Int))))],[(19,⟨59,.row (.calls o)⟩),(29,⟨59,.row (.calls o)⟩),(998,⟨55,.fix [.sl (.bytes l),.i q45]⟩)],[45,33,29,27,19,998,999]⟩) rfl ?_
    refine W.meetT (ι := Int) (fun (a:Int)=>(⟨[(0,.ptr 998 0),(5,.own 19 o.length),(6,.i n),(7,.own 29 o.length),(9,.i a)],[(19,⟨59,.row (.calls o)⟩),(29,⟨59,.row (.calls o)⟩),(998,⟨55,.fix [.sl (.bytes l),.i q45]⟩)],[19,29,998,999]⟩:St)) (fun (a:Int)=>(-100≤a∧a≤100)) ?_ ?_
    ·skip
     refine ifp (v45=(0:Int)) ?_ ?_
     ·intro h46
      refine lE tab41 hnt [(0,.ptr 998 0),(5,.own 19 o.length),(6,.i n),(7,.own 29 o.length),(9,(v413 o v33))] 20 [] tt ?_
      refine thenQ_normal ?_
      refine ⟨(((o.getD (Int.toNat v33) default).to)),(show (-100≤((o.getD (Int.toNat v33) default).to)∧((o.getD (Int.toNat v33) default).to)≤100) from (by have hs := ho.at (i := Int.toNat v33) (by omega); unfold smallC at hs; omega)),?_⟩
      exact Sk
     ·intro n46
      refine W.skip (thenQ_normal ?_)
      refine ⟨(((o.getD (Int.toNat v33) default).frm)),(show (-100≤((o.getD (Int.toNat v33) default).frm)∧((o.getD (Int.toNat v33) default).frm)≤100) from (by have hs := ho.at (i := Int.toNat v33) (by omega); unfold smallC at hs; omega)),?_⟩
      exact Sk
    ·rintro a hC0
     have hC : (-100≤a∧a≤100) := hC0
     clear hC0
     have ha := hC
     refine W.seq (W.wi ?_)
     refine WI.runT cok tab41 hnt [] 2 2 (⟨[(0,.ptr 998 0),(5,.own 19 o.length),(6,.i n),(7,.own 29 o.length),(9,.i a),(48,.ptr 998 0),(49,v414)],[(19,⟨59,.row (.calls o)⟩),(29,⟨59,.row (.calls o)⟩),(998,⟨55,.fix [.sl (.bytes l),.i q45]⟩)],[49,19,29,998,999]⟩)
      (Y∧(Y∧Y∧Y)∧Y) (by kernel_rfl) rfl
      ⟨tt,⟨tt,tt,tt⟩,tt⟩ ?_
     refine WI.call [.ptr 998 0,v414] [.sl (.bytes l),.i q45] [v414] [v414] (some (55,998)) (Y) (Y∧Y) none rok15 ent15 hnt rfl rfl (wanted_none rfl) (by kernel_rfl) (by kernel_rfl) (by kernel_rfl) ⟨tt,tt,tt⟩
      (@cast ((0≤q45∧q45≤1000000)∧(0<([(1:Int),(-1:Int)]).length)∧(([(1:Int),(-1:Int)]).length≤1000)) _ (by kernel_rfl) ⟨om,⟨ow,ow⟩⟩) (Or.inl rfl) rfl ?_
     rintro r bl fx2 hR
     obtain ⟨⟨v50,q50⟩,hq50,rfl,rfl,rfl⟩ := (@cast _ (∃ x : Int × Int,((x.1 ∈ ([(1:Int),(-1:Int)]))∧(x.2=q45+1))∧r=(.i x.1)∧bl=([])∧fx2=([.sl (.bytes l),.i x.2])) (by kernel_rfl) hR)
     clear hR
     replace hq50 : (v50 ∈ ([(1:Int),(-1:Int)]))∧(q50=q45+1) := hq50
     obtain ⟨hv50,hq150⟩ := hq50
     simp only [List.mem_cons,List.not_mem_nil,or_false] at hv50
     refine ⟨by kernel_rfl,WI.to (⟨[(0,.ptr 998 0),(5,.own 19 o.length),(6,.i n),(7,.own 29 o.length),(9,.i a),(48,.ptr 998 0),(49,v414),(50,.i v50)],[(19,⟨59,.row (.calls o)⟩),(29,⟨59,.row (.calls o)⟩),(998,⟨55,.fix [.sl (.bytes l),.i q50]⟩)],[50,49,19,29,998,999]⟩) 3 (by kernel_rfl) rfl ?_⟩
     refine WI.runT cok tab41 hnt [] 1 4 (⟨[(0,.ptr 998 0),(5,.own 19 o.length),(6,.i n),(7,.own 29 o.length),(9,.i a),(11,.i v50),(48,.ptr 998 0),(49,v414),(50,.i v50)],[(19,⟨59,.row (.calls o)⟩),(29,⟨59,.row (.calls o)⟩),(998,⟨55,.fix [.sl (.bytes l),.i q50]⟩)],[50,49,19,29,998,999]⟩)
      (Y∧Y) (by kernel_rfl) rfl
      ⟨tt,tt⟩ ?_
     refine WI.nil rfl (thenQ_normal ?_)
     refine W.keepE [0,5,6,7,9,11] [(0,.ptr 998 0),(5,.own 19 o.length),(6,.i n),(7,.own 29 o.length),(9,.i a),(11,.i v50)] (by kernel_rfl) ?_
     refine W.to (⟨[(0,.ptr 998 0),(5,.own 19 o.length),(6,.i n),(7,.own 29 o.length),(9,.i a),(11,.i v50)],[(19,⟨59,.row (.calls o)⟩),(29,⟨59,.row (.calls o)⟩),(998,⟨55,.fix [.sl (.bytes l),.i q50]⟩)],[50,49,19,29,998,999]⟩) rfl ?_
     refine W.seq ?_
     refine kE tab41 hnt [(0,.ptr 998 0),(5,.own 19 o.length),(6,.i n),(7,.own 29 o.length),(9,.i a),(11,.i v50),(12,.i (0:Int))] 2 [] tt ?_
     refine W.block ?_
     refine W.loop (ι := Nat × (List CallD)) (fun (x : Nat × (List CallD))=>match x with | (k,xs)=>(⟨[(0,.ptr 998 0),(5,.own 19 o.length),(6,.i n),(7,.own 29 o.length),(9,.i a),(11,.i v50),(12,.i ((k:Nat):Int))],[(19,⟨59,.row (.calls o)⟩),(29,⟨59,.row (.calls xs)⟩),(998,⟨55,.fix [.sl (.bytes l),.i q50]⟩)],[19,29,998,999]⟩:St))
      (fun (x : Nat × (List CallD))=>match x with | (k,xs)=>(k≤o.length)∧(xs.length=o.length))
      (fun (x : Nat × (List CallD))=>match x with | (k,xs)=>(o.length - k:Nat)) (0,o) ?_ ?_ ?_
     ·exact ⟨oi,oi⟩
     ·exact Sk
     ·rintro ⟨k,xs⟩ hC0
      obtain ⟨hk,hx⟩ := hC0
      refine W.seq ?_
      refine kE tab41 hnt [(0,.ptr 998 0),(5,.own 19 o.length),(6,.i n),(7,.own 29 o.length),(9,.i a),(11,.i v50),(12,.i ((k:Nat):Int)),(54,.b (decide (((k:Nat):Int)<(o.length:Int))))] 45380 [] tt ?_
      refine ifp (((k:Nat):Int)<(o.length:Int)) ?_ ?_
      ·intro h54
       refine W.skip (thenQ_normal ?_)
       refine W.seq ?_
       refine W.block ?_
       refine W.seq ?_
       refine kE tab41 hnt [(0,.ptr 998 0),(5,.own 19 o.length),(6,.i n),(7,.own 29 o.length),(9,.i a),(11,.i v50),(12,.i ((k:Nat):Int)),(65,.b (decide (((xs.getD k default).frm)=(a+v50))))] 1427940272545508 [0≤((k:Nat):Int),((k:Nat):Int)<(o.length:Int),k<xs.length,Fits .i64 (a+v50)] ⟨om,om,om,fi⟩ ?_
       refine ifp (((xs.getD k default).frm)=(a+v50)) ?_ ?_
       ·intro h65
        refine lS tab41 hnt [(0,.ptr 998 0),(5,.own 19 o.length),(6,.i n),(7,.own 29 o.length),(9,.i a),(11,.i v50),(12,.i ((k:Nat):Int))] [(19,⟨59,.row (.calls o)⟩),(29,⟨59,.row (.calls (List.set xs k ({ xs.getD k default with frm := a })))⟩),(998,⟨55,.fix [.sl (.bytes l),.i q50]⟩)] [19,29,998,999] 13141341281 [0≤((k:Nat):Int),((k:Nat):Int)<(o.length:Int),k<xs.length] ⟨om,om,om⟩ ?_
        refine thenQ_normal ?_
        refine kE tab41 hnt [(0,.ptr 998 0),(5,.own 19 o.length),(6,.i n),(7,.own 29 o.length),(9,.i a),(11,.i v50),(12,.i ((k:Nat):Int)),(93,.b (decide (((List.getD (List.set xs k ({ xs.getD k default with frm := a })) k default).to)=(a+v50))))] 1427940272545508 [0≤((k:Nat):Int),((k:Nat):Int)<(o.length:Int),k<(List.length (List.set xs k ({ xs.getD k default with frm := a }))),Fits .i64 (a+v50)] ⟨om,om,ow,fi⟩ ?_
        refine ifp (((List.getD (List.set xs k ({ xs.getD k default with frm := a })) k default).to)=(a+v50)) ?_ ?_
        ·intro h93
         refine lS tab41 hnt [(0,.ptr 998 0),(5,.own 19 o.length),(6,.i n),(7,.own 29 o.length),(9,.i a),(11,.i v50),(12,.i ((k:Nat):Int))] [(19,⟨59,.row (.calls o)⟩),(29,⟨59,.row (.calls (List.set (List.set xs k ({ xs.getD k default with frm := a })) k ({ List.getD (List.set xs k ({ xs.getD k default with frm := a })) k default with to := a })))⟩),(998,⟨55,.fix [.sl (.bytes l),.i q50]⟩)] [19,29,998,999] 13141341281 [0≤((k:Nat):Int),((k:Nat):Int)<(o.length:Int),k<(List.length (List.set xs k ({ xs.getD k default with frm := a })))] ⟨om,om,ow⟩ ?_
         refine blockQ_normal (thenQ_normal ?_)
         refine lE tab41 hnt [(0,.ptr 998 0),(5,.own 19 o.length),(6,.i n),(7,.own 29 o.length),(9,.i a),(11,.i v50),(12,(v415 k))] 15869 [Fits .i64 (((k+1):Nat):Int)] fi ?_
         refine thenQ_normal ?_
         refine ⟨((k+1),(List.set (List.set xs k ({ xs.getD k default with frm := a })) k ({ List.getD (List.set xs k ({ xs.getD k default with frm := a })) k default with to := a }))),⟨oi,(by first | assumption | (simp only [List.length_set]; assumption))⟩,(show o.length - (k+1)<o.length - k from o2),?_⟩
         exact Sk
        ·intro n93
         refine kE tab41 hnt [(0,.ptr 998 0),(5,.own 19 o.length),(6,.i n),(7,.own 29 o.length),(9,.i a),(11,.i v50),(12,.i ((k:Nat):Int)),(105,.b (decide (((List.getD (List.set xs k ({ xs.getD k default with frm := a })) k default).to)=a)))] 217124221241 [0≤((k:Nat):Int),((k:Nat):Int)<(o.length:Int),k<(List.length (List.set xs k ({ xs.getD k default with frm := a })))] ⟨om,om,ow⟩ ?_
         refine ifp (((List.getD (List.set xs k ({ xs.getD k default with frm := a })) k default).to)=a) ?_ ?_
         ·intro h105
          refine lS tab41 hnt [(0,.ptr 998 0),(5,.own 19 o.length),(6,.i n),(7,.own 29 o.length),(9,.i a),(11,.i v50),(12,.i ((k:Nat):Int))] [(19,⟨59,.row (.calls o)⟩),(29,⟨59,.row (.calls (List.set (List.set xs k ({ xs.getD k default with frm := a })) k ({ List.getD (List.set xs k ({ xs.getD k default with frm := a })) k default with to := (a+v50) })))⟩),(998,⟨55,.fix [.sl (.bytes l),.i q50]⟩)] [19,29,998,999] 86220340953284 [Fits .i64 (a+v50),0≤((k:Nat):Int),((k:Nat):Int)<(o.length:Int),k<(List.length (List.set xs k ({ xs.getD k default with frm := a })))] ⟨fi,om,om,ow⟩ ?_
          refine blockQ_normal (thenQ_normal ?_)
          refine lE tab41 hnt [(0,.ptr 998 0),(5,.own 19 o.length),(6,.i n),(7,.own 29 o.length),(9,.i a),(11,.i v50),(12,(v415 k))] 15869 [Fits .i64 (((k+1):Nat):Int)] fi ?_
          refine thenQ_normal ?_
          refine ⟨((k+1),(List.set (List.set xs k ({ xs.getD k default with frm := a })) k ({ List.getD (List.set xs k ({ xs.getD k default with frm := a })) k default with to := (a+v50) }))),⟨oi,(by first | assumption | (simp only [List.length_set]; assumption))⟩,(show o.length - (k+1)<o.length - k from o2),?_⟩
          exact Sk
         ·intro n105
          refine W.skip (blockQ_normal (thenQ_normal ?_))
          refine lE tab41 hnt [(0,.ptr 998 0),(5,.own 19 o.length),(6,.i n),(7,.own 29 o.length),(9,.i a),(11,.i v50),(12,(v415 k))] 15869 [Fits .i64 (((k+1):Nat):Int)] fi ?_
          refine thenQ_normal ?_
          refine ⟨((k+1),(List.set xs k ({ xs.getD k default with frm := a }))),⟨oi,(by first | assumption | (simp only [List.length_set]; assumption))⟩,(show o.length - (k+1)<o.length - k from o2),?_⟩
          exact Sk
       ·intro n65
        refine kE tab41 hnt [(0,.ptr 998 0),(5,.own 19 o.length),(6,.i n),(7,.own 29 o.length),(9,.i a),(11,.i v50),(12,.i ((k:Nat):Int)),(77,.b (decide (((xs.getD k default).frm)=a)))] 217124221241 [0≤((k:Nat):Int),((k:Nat):Int)<(o.length:Int),k<xs.length] ⟨om,om,om⟩ ?_
        refine ifp (((xs.getD k default).frm)=a) ?_ ?_
        ·intro h77
         refine lS tab41 hnt [(0,.ptr 998 0),(5,.own 19 o.length),(6,.i n),(7,.own 29 o.length),(9,.i a),(11,.i v50),(12,.i ((k:Nat):Int))] [(19,⟨59,.row (.calls o)⟩),(29,⟨59,.row (.calls (List.set xs k ({ xs.getD k default with frm := (a+v50) })))⟩),(998,⟨55,.fix [.sl (.bytes l),.i q50]⟩)] [19,29,998,999] 86220340953284 [Fits .i64 (a+v50),0≤((k:Nat):Int),((k:Nat):Int)<(o.length:Int),k<xs.length] ⟨fi,om,om,om⟩ ?_
         refine thenQ_normal ?_
         refine kE tab41 hnt [(0,.ptr 998 0),(5,.own 19 o.length),(6,.i n),(7,.own 29 o.length),(9,.i a),(11,.i v50),(12,.i ((k:Nat):Int)),(93,.b (decide (((List.getD (List.set xs k ({ xs.getD k default with frm := (a+v50) })) k default).to)=(a+v50))))] 1427940272545508 [0≤((k:Nat):Int),((k:Nat):Int)<(o.length:Int),k<(List.length (List.set xs k ({ xs.getD k default with frm := (a+v50) }))),Fits .i64 (a+v50)] ⟨om,om,ow,fi⟩ ?_
         refine ifp (((List.getD (List.set xs k ({ xs.getD k default with frm := (a+v50) })) k default).to)=(a+v50)) ?_ ?_
         ·intro h93
          refine lS tab41 hnt [(0,.ptr 998 0),(5,.own 19 o.length),(6,.i n),(7,.own 29 o.length),(9,.i a),(11,.i v50),(12,.i ((k:Nat):Int))] [(19,⟨59,.row (.calls o)⟩),(29,⟨59,.row (.calls (List.set (List.set xs k ({ xs.getD k default with frm := (a+v50) })) k ({ List.getD (List.set xs k ({ xs.getD k default with frm := (a+v50) })) k default with to := a })))⟩),(998,⟨55,.fix [.sl (.bytes l),.i q50]⟩)] [19,29,998,999] 13141341281 [0≤((k:Nat):Int),((k:Nat):Int)<(o.length:Int),k<(List.length (List.set xs k ({ xs.getD k default with frm := (a+v50) })))] ⟨om,om,ow⟩ ?_
          refine blockQ_normal (thenQ_normal ?_)
          refine lE tab41 hnt [(0,.ptr 998 0),(5,.own 19 o.length),(6,.i n),(7,.own 29 o.length),(9,.i a),(11,.i v50),(12,(v415 k))] 15869 [Fits .i64 (((k+1):Nat):Int)] fi ?_
          refine thenQ_normal ?_
          refine ⟨((k+1),(List.set (List.set xs k ({ xs.getD k default with frm := (a+v50) })) k ({ List.getD (List.set xs k ({ xs.getD k default with frm := (a+v50) })) k default with to := a }))),⟨oi,(by first | assumption | (simp only [List.length_set]; assumption))⟩,(show o.length - (k+1)<o.length - k from o2),?_⟩
          exact Sk
         ·intro n93
          refine kE tab41 hnt [(0,.ptr 998 0),(5,.own 19 o.length),(6,.i n),(7,.own 29 o.length),(9,.i a),(11,.i v50),(12,.i ((k:Nat):Int)),(105,.b (decide (((List.getD (List.set xs k ({ xs.getD k default with frm := (a+v50) })) k default).to)=a)))] 217124221241 [0≤((k:Nat):Int),((k:Nat):Int)<(o.length:Int),k<(List.length (List.set xs k ({ xs.getD k default with frm := (a+v50) })))] ⟨om,om,ow⟩ ?_
          refine ifp (((List.getD (List.set xs k ({ xs.getD k default with frm := (a+v50) })) k default).to)=a) ?_ ?_
          ·intro h105
           refine lS tab41 hnt [(0,.ptr 998 0),(5,.own 19 o.length),(6,.i n),(7,.own 29 o.length),(9,.i a),(11,.i v50),(12,.i ((k:Nat):Int))] [(19,⟨59,.row (.calls o)⟩),(29,⟨59,.row (.calls (List.set (List.set xs k ({ xs.getD k default with frm := (a+v50) })) k ({ List.getD (List.set xs k ({ xs.getD k default with frm := (a+v50) })) k default with to := (a+v50) })))⟩),(998,⟨55,.fix [.sl (.bytes l),.i q50]⟩)] [19,29,998,999] 86220340953284 [Fits .i64 (a+v50),0≤((k:Nat):Int),((k:Nat):Int)<(o.length:Int),k<(List.length (List.set xs k ({ xs.getD k default with frm := (a+v50) })))] ⟨fi,om,om,ow⟩ ?_
           refine blockQ_normal (thenQ_normal ?_)
           refine lE tab41 hnt [(0,.ptr 998 0),(5,.own 19 o.length),(6,.i n),(7,.own 29 o.length),(9,.i a),(11,.i v50),(12,(v415 k))] 15869 [Fits .i64 (((k+1):Nat):Int)] fi ?_
           refine thenQ_normal ?_
           refine ⟨((k+1),(List.set (List.set xs k ({ xs.getD k default with frm := (a+v50) })) k ({ List.getD (List.set xs k ({ xs.getD k default with frm := (a+v50) })) k default with to := (a+v50) }))),⟨oi,(by first | assumption | (simp only [List.length_set]; assumption))⟩,(show o.length - (k+1)<o.length - k from o2),?_⟩
           exact Sk
          ·intro n105
           refine W.skip (blockQ_normal (thenQ_normal ?_))
           refine lE tab41 hnt [(0,.ptr 998 0),(5,.own 19 o.length),(6,.i n),(7,.own 29 o.length),(9,.i a),(11,.i v50),(12,(v415 k))] 15869 [Fits .i64 (((k+1):Nat):Int)] fi ?_
           refine thenQ_normal ?_
           refine ⟨((k+1),(List.set xs k ({ xs.getD k default with frm := (a+v50) }))),⟨oi,(by first | assumption | (simp only [List.length_set]; assumption))⟩,(show o.length - (k+1)<o.length - k from o2),?_⟩
           exact Sk
        ·intro n77
         refine W.skip (thenQ_normal ?_)
         refine kE tab41 hnt [(0,.ptr 998 0),(5,.own 19 o.length),(6,.i n),(7,.own 29 o.length),(9,.i a),(11,.i v50),(12,.i ((k:Nat):Int)),(93,.b (decide (((xs.getD k default).to)=(a+v50))))] 1427940272545508 [0≤((k:Nat):Int),((k:Nat):Int)<(o.length:Int),k<xs.length,Fits .i64 (a+v50)] ⟨om,om,om,fi⟩ ?_
         refine ifp (((xs.getD k default).to)=(a+v50)) ?_ ?_
         ·intro h93
          refine lS tab41 hnt [(0,.ptr 998 0),(5,.own 19 o.length),(6,.i n),(7,.own 29 o.length),(9,.i a),(11,.i v50),(12,.i ((k:Nat):Int))] [(19,⟨59,.row (.calls o)⟩),(29,⟨59,.row (.calls (List.set xs k ({ xs.getD k default with to := a })))⟩),(998,⟨55,.fix [.sl (.bytes l),.i q50]⟩)] [19,29,998,999] 13141341281 [0≤((k:Nat):Int),((k:Nat):Int)<(o.length:Int),k<xs.length] ⟨om,om,om⟩ ?_
          refine blockQ_normal (thenQ_normal ?_)
          refine lE tab41 hnt [(0,.ptr 998 0),(5,.own 19 o.length),(6,.i n),(7,.own 29 o.length),(9,.i a),(11,.i v50),(12,(v415 k))] 15869 [Fits .i64 (((k+1):Nat):Int)] fi ?_
          refine thenQ_normal ?_
          refine ⟨((k+1),(List.set xs k ({ xs.getD k default with to := a }))),⟨oi,(by first | assumption | (simp only [List.length_set]; assumption))⟩,(show o.length - (k+1)<o.length - k from o2),?_⟩
          exact Sk
         ·intro n93
          refine kE tab41 hnt [(0,.ptr 998 0),(5,.own 19 o.length),(6,.i n),(7,.own 29 o.length),(9,.i a),(11,.i v50),(12,.i ((k:Nat):Int)),(105,.b (decide (((xs.getD k default).to)=a)))] 217124221241 [0≤((k:Nat):Int),((k:Nat):Int)<(o.length:Int),k<xs.length] ⟨om,om,om⟩ ?_
          refine ifp (((xs.getD k default).to)=a) ?_ ?_
          ·intro h105
           refine lS tab41 hnt [(0,.ptr 998 0),(5,.own 19 o.length),(6,.i n),(7,.own 29 o.length),(9,.i a),(11,.i v50),(12,.i ((k:Nat):Int))] [(19,⟨59,.row (.calls o)⟩),(29,⟨59,.row (.calls (List.set xs k ({ xs.getD k default with to := (a+v50) })))⟩),(998,⟨55,.fix [.sl (.bytes l),.i q50]⟩)] [19,29,998,999] 86220340953284 [Fits .i64 (a+v50),0≤((k:Nat):Int),((k:Nat):Int)<(o.length:Int),k<xs.length] ⟨fi,om,om,om⟩ ?_
           refine blockQ_normal (thenQ_normal ?_)
           refine lE tab41 hnt [(0,.ptr 998 0),(5,.own 19 o.length),(6,.i n),(7,.own 29 o.length),(9,.i a),(11,.i v50),(12,(v415 k))] 15869 [Fits .i64 (((k+1):Nat):Int)] fi ?_
           refine thenQ_normal ?_
           refine ⟨((k+1),(List.set xs k ({ xs.getD k default with to := (a+v50) }))),⟨oi,(by first | assumption | (simp only [List.length_set]; assumption))⟩,(show o.length - (k+1)<o.length - k from o2),?_⟩
           exact Sk
          ·intro n105
           refine W.skip (blockQ_normal (thenQ_normal ?_))
           refine lE tab41 hnt [(0,.ptr 998 0),(5,.own 19 o.length),(6,.i n),(7,.own 29 o.length),(9,.i a),(11,.i v50),(12,(v415 k))] 15869 [Fits .i64 (((k+1):Nat):Int)] fi ?_
           refine thenQ_normal ?_
           refine ⟨((k+1),xs),⟨oi,(by first | assumption | (simp only [List.length_set]; assumption))⟩,(show o.length - (k+1)<o.length - k from o2),?_⟩
           exact Sk
      ·intro n54
       refine W.exit (thenQ_exit (thenQ_exit (blockQ_hit ?_)))
       refine thenQ_normal ?_
       refine kE tab41 hnt [(0,.ptr 998 0),(5,.own 19 o.length),(6,.i n),(7,.own 29 o.length),(114,.b (validHistory xs))] 26075 [o.length=xs.length] om ?_
       refine ifb (validHistory xs) ?_ ?_
       ·intro h114
        refine lE tab41 hnt [(0,.ptr 998 0),(5,.own 29 o.length),(6,.i n)] 20 [] tt ?_
        refine blockQ_normal (thenQ_normal ?_)
        refine lE tab41 hnt [(0,.ptr 998 0),(5,.own 29 o.length),(6,.i (n - (1:Int)))] 15869 [Fits .i64 (n - (1:Int))] fi ?_
        refine thenQ_normal ?_
        refine ⟨(xs,(n - (1:Int)),q50),⟨oi,oi,(by first | exact ho | exact valid_good h114),oi⟩,(show (n - (1:Int)).toNat<n.toNat from o2),?_⟩
        exact Sub.of [(19,29)] (@cast (((((998:Nat)=998)∧((0:Nat)=0)∧((998:Nat) ∈ ([19,998,999] : List Nat)))∧(((29:Nat)=29)∧(o.length=xs.length)∧((19:Nat) ∈ ([19,998,999] : List Nat)))∧(Si (n - (1:Int)))∧Y)∧((((59:Nat)=59)∧(Sd (.calls xs))∧((19:Nat) ∈ ([19,998,999] : List Nat)))∧(((55:Nat)=55)∧((Sd (.bytes l))∧(Si q50)∧Y)∧((998:Nat) ∈ ([19,998,999] : List Nat)))∧Y)∧(true=true)∧(true=true)) _ (by kernel_rfl) ⟨⟨⟨rfl,rfl,(by decide)⟩,⟨rfl,(by first | rfl | omega | assumption | (symm; assumption) | simp | simp_all),(by decide)⟩,rfl,tt⟩,⟨⟨rfl,rfl,(by decide)⟩,⟨rfl,⟨rfl,rfl,tt⟩,(by decide)⟩,tt⟩,rfl,rfl⟩)
       ·intro n114
        refine W.skip (blockQ_normal (thenQ_normal ?_))
        refine lE tab41 hnt [(0,.ptr 998 0),(5,.own 19 o.length),(6,.i (n - (1:Int)))] 15869 [Fits .i64 (n - (1:Int))] fi ?_
        refine thenQ_normal ?_
        refine ⟨(o,(n - (1:Int)),q50),⟨oi,oi,(by first | exact ho | exact valid_good h114),oi⟩,(show (n - (1:Int)).toNat<n.toNat from o2),?_⟩
        exact Sk
   ·intro n24
    refine W.exit (thenQ_exit (thenQ_exit (blockQ_hit ?_)))
    refine thenQ_normal ?_
    refine kE tab41 hnt [(4,.own 19 o.length)] 20 [] tt ?_
    refine W.ret ?_
    exact endP_ret (o,p1) (show (GoodH o)∧(p≤p1∧p1≤p+1000) from ⟨(by assumption),(by first | assumption | omega | rfl | (simp; done) | (simp; omega))⟩) [(1,19),(0,998)] (.own 19 o.length) (by kernel_rfl) (@cast ((((19:Nat)=19)∧(o.length=o.length)∧((1:Nat) ∈ ([0,1] : List Nat)))∧((((55:Nat)=55)∧((Sd (.bytes l))∧(Si p1)∧Y)∧((0:Nat) ∈ ([0,1] : List Nat)))∧(((59:Nat)=59)∧(Sd (.calls o))∧((1:Nat) ∈ ([0,1] : List Nat)))∧Y)∧(true=true)∧((([] : List Nat)=[])∧Y)∧(true=true→(998:Nat)=998)) _ (by kernel_rfl) ⟨⟨rfl,rfl,(by decide)⟩,⟨⟨rfl,⟨rfl,rfl,tt⟩,(by decide)⟩,⟨rfl,rfl,(by decide)⟩,tt⟩,rfl,⟨rfl,tt⟩,(fun _=>rfl)⟩)
theorem ent41 : Entr prog 41 := ⟨_,func41,rfl,by decide⟩
end Go.Proofs.Tryz
