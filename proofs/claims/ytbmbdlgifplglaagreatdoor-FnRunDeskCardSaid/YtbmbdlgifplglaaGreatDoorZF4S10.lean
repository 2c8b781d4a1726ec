import Derived.Test.YtbmbdlgifplglaaGreatDoorZF4S0
import Derived.Test.YtbmbdlgifplglaaGreatDoorZF4S9
import Derived.Test.YtbmbdlgifplglaaGreatDoorZF4S1
import Derived.Test.YtbmbdlgifplglaaGreatDoorZF4S2
import Derived.Test.YtbmbdlgifplglaaGreatDoorZF4S8
set_option maxRecDepth 100000
set_option maxHeartbeats 1000000
set_option linter.unusedSimpArgs false
set_option linter.unusedVariables false
namespace Go.Proofs.Tryz
open Go.Ab Go.RowKit
def pre18 : List AV→List AV→Prop := preP [.str] [.bytes,.int] (fun (name,_) (l,p,_)=>(0≤p∧p≤800000))
def rel18 : RelS := relP [.str] [.bytes,.int] (ι := (List CallD) × Int) (fun (name,_) (l,p,_) (g,q)=>(GoodH g)∧(p≤q∧q≤p+1200)) (fun (name,_) (l,p,_) (g,q)=>(.own 1 g.length,[⟨59,.row (.calls g)⟩],[.sl (.bytes l),.i q]))
abbrev T18 : Tab := lk []
theorem tab18 : TabOK prog T18 := TabOK.nil
abbrev v180 (g8:List CallD):AV:=.own 1008 g8.length
theorem rok18 : RelOK prog 18 (some 55) [.o] pre18 rel18 := by
 refine RelOK.mk cok func18 rfl rfl rfl ?_
 rintro ⟨(name:ByteArray),_⟩ ⟨(l : List UInt8),(p:Int),_⟩ hpre F hnt0
 have hnt : F.nt=10 := hnt0.trans ntmps18
 replace hpre : (0≤p∧p≤800000) := hpre
 have hp := hpre
 refine W.to (⟨[(0,.ptr 998 0),(1,.v (.string name))],[(998,⟨55,.fix [.sl (.bytes l),.i p]⟩)],[998,999]⟩) rfl ?_
 refine kE tab18 hnt [(0,.ptr 998 0),(1,.v (.string name))] 2 [] tt ?_
 refine W.seq (W.wi ?_)
 refine WI.runT cok tab18 hnt [] 3 3 (⟨[(0,.ptr 998 0),(1,.v (.string name)),(5,.ptr 998 0),(6,.ptr 998 0),(7,.v (.string name))],[(998,⟨55,.fix [.sl (.bytes l),.i p]⟩)],[998,999]⟩)
  (Y∧Y∧Y∧Y) (by kernel_rfl) rfl
  ⟨tt,tt,tt,tt⟩ ?_
 refine WI.call [.ptr 998 0,.v (.string name),.i (6:Int)] [.sl (.bytes l),.i p] [.v (.string name),.i (6:Int)] [.v (.string name),.i (6:Int)] (some (55,998)) (Y) (Y∧(Y∧Y)) none rok42 ent42 hnt rfl rfl (wanted_none rfl) (by kernel_rfl) (by kernel_rfl) (by kernel_rfl) ⟨tt,tt,tt,tt⟩
  (@cast ((0≤p∧p≤900000)∧((6:Int)=6)) _ (by kernel_rfl) ⟨om,om⟩) (Or.inl rfl) rfl ?_
 rintro r bl fx2 hR
 obtain ⟨⟨g8,q8⟩,hq8,rfl,rfl,rfl⟩ := (@cast _ (∃ x : (List CallD) × Int,((GoodH x.1)∧(p≤x.2∧x.2≤p+100))∧r=(.own 1 (List.length x.1))∧bl=([⟨59,.row (.calls x.1)⟩])∧fx2=([.sl (.bytes l),.i x.2])) (by kernel_rfl) hR)
 clear hR
 replace hq8 : (GoodH g8)∧(p≤q8∧q8≤p+100) := hq8
 obtain ⟨hg8,hq18⟩ := hq8
 refine ⟨by kernel_rfl,WI.to (⟨[(0,.ptr 998 0),(1,.v (.string name)),(5,.ptr 998 0),(6,.ptr 998 0),(7,.v (.string name)),(8,(v180 g8))],[(998,⟨55,.fix [.sl (.bytes l),.i q8]⟩),(1008,⟨59,.row (.calls g8)⟩)],[1008,8,998,999]⟩) 4 (by kernel_rfl) rfl ?_⟩
 refine WI.call [.ptr 998 0,(v180 g8)] [.sl (.bytes l),.i q8] [(v180 g8)] [.sl (.calls g8)] (some (55,998)) (Y) ((Y∧(g8.length=g8.length))∧Y) (some 1008) rok41 ent41 hnt rfl rfl (wanted_none rfl) (by kernel_rfl) (by kernel_rfl) (by kernel_rfl) ⟨tt,⟨tt,rfl⟩,tt⟩
  (@cast ((0≤q8∧q8≤900000)∧(GoodH g8)) _ (by kernel_rfl) ⟨om,om⟩) (Or.inr (by decide)) rfl ?_
 rintro r bl fx2 hR
 obtain ⟨⟨g9,q9⟩,hq9,rfl,rfl,rfl⟩ := (@cast _ (∃ x : (List CallD) × Int,((GoodH x.1)∧(q8≤x.2∧x.2≤q8+1000))∧r=(.own 1 (List.length x.1))∧bl=([⟨59,.row (.calls x.1)⟩])∧fx2=([.sl (.bytes l),.i x.2])) (by kernel_rfl) hR)
 clear hR
 replace hq9 : (GoodH g9)∧(q8≤q9∧q9≤q8+1000) := hq9
 obtain ⟨hg9,hq19⟩ := hq9
 refine ⟨by kernel_rfl,WI.to (⟨[(0,.ptr 998 0),(1,.v (.string name)),(5,.ptr 998 0),(6,.ptr 998 0),(7,.v (.string name)),(8,(v180 g8)),(9,.own 1009 g9.length)],[(998,⟨55,.fix [.sl (.bytes l),.i q9]⟩),(1009,⟨59,.row (.calls g9)⟩)],[1009,9,1008,8,998,999]⟩) 5 (by kernel_rfl) rfl ?_⟩
 refine WI.runT cok tab18 hnt [] 1 6 (⟨[(0,.ptr 998 0),(1,.v (.string name)),(4,.own 1009 g9.length),(5,.ptr 998 0),(6,.ptr 998 0),(7,.v (.string name)),(8,(v180 g8)),(9,.own 1009 g9.length)],[(998,⟨55,.fix [.sl (.bytes l),.i q9]⟩),(1009,⟨59,.row (.calls g9)⟩)],[1009,9,1008,8,998,999]⟩)
  (Y∧Y) (by kernel_rfl) rfl
  ⟨tt,tt⟩ ?_
 refine WI.nil rfl (thenQ_normal ?_)
 refine W.keepE [4] [(4,.own 1009 g9.length)] (by kernel_rfl) ?_
 refine W.to (⟨[(4,.own 1009 g9.length)],[(998,⟨55,.fix [.sl (.bytes l),.i q9]⟩),(1009,⟨59,.row (.calls g9)⟩)],[1009,9,1008,8,998,999]⟩) rfl ?_
 refine W.ret ?_
 exact endP_ret (g9,q9) (show (GoodH g9)∧(p≤q9∧q9≤p+1200) from ⟨(by first | assumption | omega | rfl | (simp; done) | (simp; omega)),(by first | assumption | omega | rfl | (simp; done) | (simp; omega))⟩) [(1,1009),(0,998)] (.own 1009 g9.length) (by kernel_rfl) (@cast ((((1009:Nat)=1009)∧(g9.length=g9.length)∧((1:Nat) ∈ ([0,1] : List Nat)))∧((((55:Nat)=55)∧((Sd (.bytes l))∧(Si q9)∧Y)∧((0:Nat) ∈ ([0,1] : List Nat)))∧(((59:Nat)=59)∧(Sd (.calls g9))∧((1:Nat) ∈ ([0,1] : List Nat)))∧Y)∧(true=true)∧((([] : List Nat)=[])∧Y)∧(true=true→(998:Nat)=998)) _ (by kernel_rfl) ⟨⟨rfl,rfl,(by decide)⟩,⟨⟨rfl,⟨rfl,rfl,tt⟩,(by decide)⟩,⟨rfl,rfl,(by decide)⟩,tt⟩,rfl,⟨rfl,tt⟩,(fun _=>rfl)⟩)
theorem ent18 : Entr prog 18 := ⟨_,func18,rfl,by decide⟩
end Go.Proofs.Tryz

set_option linter.unusedSimpArgs false
set_option linter.unusedVariables false
namespace Go.Proofs.Tryz
open Go.Ab Go.RowKit
def pre19x : List AV→List AV→Prop := preP [.int] [.bytes,.int] (fun (n,_) (l,p,_)=>(0≤p∧p≤1000000))
def rel19x : RelS := relP [.int] [.bytes,.int] (ι := Unit) (fun (n,_) (l,p,_) _=>Y) (fun (n,_) (l,p,_) _=>(.i (pickV l p n),[],[.sl (.bytes l),.i (p+1)]))
abbrev T19x : Tab := lk []
theorem tab19x : TabOK prog T19x := TabOK.nil
theorem rok19x : RelOK prog 19 (some 55) [.o] pre19x rel19x := by
 refine RelOK.mk cok func19 rfl rfl rfl ?_
 rintro ⟨(n:Int),_⟩ ⟨(l : List UInt8),(p:Int),_⟩ hpre F hnt0
 have hnt : F.nt=99 := hnt0.trans ntmps19
 replace hpre : (0≤p∧p≤1000000) := hpre
 have hp := hpre
 refine W.to (⟨[(0,.ptr 998 0),(1,.i n)],[(998,⟨55,.fix [.sl (.bytes l),.i p]⟩)],[998,999]⟩) rfl ?_
 have hu : ∀ i : Nat,((UInt8.toNat (l.getD i default):Nat):Int)≤255 := fun i=>by have := (l.getD i default).toNat_lt; omega
 refine kE tab19x hnt [(0,.ptr 998 0),(1,.i n)] 2 [] tt ?_
 refine kS tab19x hnt [(0,.ptr 998 0),(1,.i n)] [(998,⟨55,.fix [.sl (.bytes l),.i (p+(1:Int))]⟩)] [998,999] 28773234335 [Fits .i64 (p+(1:Int))] fi ?_
 refine W.seq ?_
 refine kE tab19x hnt [(0,.ptr 998 0),(1,.i n),(24,.b ((decide (n<(1:Int))) || (decide ((l.length:Int)=(0:Int)))))] 12132702148106 ((fun (Z1:Bool)=>([(!Z1)=true→Y,(!Z1)=true→(((!Z1)=true)∧Y),(!Z1)=true→(((!Z1)=true)∧Y),(!Z1)=true→(((!Z1)=true)∧Y),(!Z1)=true→(((!Z1)=true)∧Y),(!Z1)=true→((((!Z1)=true)∧Y)∧(Y∧Y)),Z1=true→Y,Z1=false→((!Z1)=true)∧Y]:PL)) (decide (n<(1:Int)))) ⟨(fun _=>trivial),(fun hG=>⟨hG,tt⟩),(fun hG=>⟨hG,tt⟩),(fun hG=>⟨hG,tt⟩),(fun hG=>⟨hG,tt⟩),(fun hG=>⟨⟨hG,tt⟩,tt,tt⟩),(fun _=>trivial),(fun hp=>⟨(not_t hp),tt⟩)⟩ ?_
 refine ifb ((decide (n<(1:Int))) || (decide ((l.length:Int)=(0:Int)))) ?_ ?_
 ·intro h24
  refine kE tab19x hnt [(4,.i (0:Int))] 2 [] tt ?_
  refine W.ret (thenQ_ret ?_)
  exact endP_ret () (show Y from trivial) [(0,998)] (.i (0:Int)) (by kernel_rfl) (@cast (((.int .i64 (0:Int):Value)=.int .i64 (pickV l p n))∧((((55:Nat)=55)∧((Sd (.bytes l))∧((.int .i64 (p+(1:Int)):Value)=.int .i64 (p+1))∧Y)∧((0:Nat) ∈ ([0] : List Nat)))∧Y)∧(true=true)∧((([] : List Nat)=[])∧Y)∧(true=true→(998:Nat)=998)) _ (by kernel_rfl) ⟨(congrArg (Value.int .i64) (by first | rfl | omega | assumption | (exact pickV_0 h24; done) | simp | simp_all)),⟨⟨rfl,⟨rfl,(congrArg (Value.int .i64) (by first | rfl | omega | assumption | simp | simp_all)),tt⟩,(by decide)⟩,tt⟩,rfl,⟨rfl,tt⟩,(fun _=>rfl)⟩)
 ·intro n24
  have n24_0 : ¬ (n<(1:Int)) := of_decide_eq_false (or_l n24)
  have n24_1 : ¬ ((l.length:Int)=(0:Int)) := of_decide_eq_false (or_r n24)
  refine W.skip (thenQ_normal ?_)
  refine kE tab19x hnt [(0,.ptr 998 0),(1,.i n),(5,.i ((p+(1:Int)) - (1:Int)))] 11568683 [Fits .i64 ((p+(1:Int)) - (1:Int))] fi ?_
  refine W.seq ?_
  refine kE tab19x hnt [(0,.ptr 998 0),(1,.i n),(5,.i ((p+(1:Int)) - (1:Int))),(36,.b (decide (((p+(1:Int)) - (1:Int))<(l.length:Int))))] 33082202 [] tt ?_
  refine ifp (((p+(1:Int)) - (1:Int))<(l.length:Int)) ?_ ?_
  ·intro h36
   have hu1 := hu (Int.toNat (p+1 - 1))
   refine kE tab19x hnt [(4,.i (Int.tmod (((UInt8.toNat (l.getD (Int.toNat ((p+(1:Int)) - (1:Int))) default)):Nat):Int) n))] 4481997331272500 [0≤((p+(1:Int)) - (1:Int)),((p+(1:Int)) - (1:Int))<(l.length:Int),Fits .i64 (((UInt8.toNat (l.getD (Int.toNat ((p+(1:Int)) - (1:Int))) default)):Nat):Int),n≠0] ⟨om,om,(by exact fits_i64 (by (first | omega | (simp only [List.length_set]; done) | (simp only [ln] at *; omega) | assumption)) (by (first | omega | (simp only [List.length_set]; done) | (simp only [ln] at *; omega) | assumption))),om⟩ ?_
   refine W.ret (thenQ_ret ?_)
   exact endP_ret () (show Y from trivial) [(0,998)] (.i (Int.tmod (((UInt8.toNat (l.getD (Int.toNat ((p+(1:Int)) - (1:Int))) default)):Nat):Int) n)) (by kernel_rfl) (@cast (((.int .i64 (Int.tmod (((UInt8.toNat (l.getD (Int.toNat ((p+(1:Int)) - (1:Int))) default)):Nat):Int) n):Value)=.int .i64 (pickV l p n))∧((((55:Nat)=55)∧((Sd (.bytes l))∧((.int .i64 (p+(1:Int)):Value)=.int .i64 (p+1))∧Y)∧((0:Nat) ∈ ([0] : List Nat)))∧Y)∧(true=true)∧((([] : List Nat)=[])∧Y)∧(true=true→(998:Nat)=998)) _ (by kernel_rfl) ⟨(congrArg (Value.int .i64) (by first | rfl | omega | assumption | (exact pickV_1 n24 h36; done) | simp | simp_all)),⟨⟨rfl,⟨rfl,(congrArg (Value.int .i64) (by first | rfl | omega | assumption | simp | simp_all)),tt⟩,(by decide)⟩,tt⟩,rfl,⟨rfl,tt⟩,(fun _=>rfl)⟩)
  ·intro n36
   refine W.skip (thenQ_normal ?_)
   have hl0 : 0<(List.length l:Int) := by omega
   have hm1 := Int.tmod_lt_of_pos (p+1 - 1) hl0
   have hm2 := Int.tmod_nonneg (List.length l:Int) (show 0≤p+1 - 1 by omega)
   have hm3 := Int.tmod_lt_of_pos ((p+1 - 1) * 7+3) hl0
   have hm4 := Int.tmod_nonneg (List.length l:Int) (show 0≤(p+1 - 1) * 7+3 by omega)
   have hd1 : 0≤Int.tdiv (p+1 - 1) (List.length l:Int) := Int.tdiv_nonneg (by omega) (by omega)
   have hd2 : Int.tdiv (p+1 - 1) (List.length l:Int)≤p+1 - 1 := Int.tdiv_le_self _ (by omega)
   have hu2 := hu (Int.toNat (Int.tmod (p+1 - 1) (List.length l:Int)))
   have hu3 := hu (Int.toNat (Int.tmod ((p+1 - 1) * 7+3) (List.length l:Int)))
   refine kA tab19x hnt [(1,.i n),(6,.i (((((((UInt8.toNat (l.getD (Int.toNat (Int.tmod ((p+(1:Int)) - (1:Int)) (l.length:Int))) default)):Nat):Int) * (131:Int))+((((UInt8.toNat (l.getD (Int.toNat (Int.tmod ((((p+(1:Int)) - (1:Int)) * (7:Int))+(3:Int)) (l.length:Int))) default)):Nat):Int) * (1117:Int)))+(((p+(1:Int)) - (1:Int)) * (29:Int)))+((Int.tdiv ((p+(1:Int)) - (1:Int)) (l.length:Int)) * (53:Int))))] [(998,⟨55,.fix [.sl (.bytes l),.i (p+(1:Int))]⟩)] [998,999] 652444763375124049247349698859180996330146632954764566666389239438710022389 [(l.length:Int)≠0,0≤(Int.tmod ((p+(1:Int)) - (1:Int)) (l.length:Int)),(Int.tmod ((p+(1:Int)) - (1:Int)) (l.length:Int))<(l.length:Int),Fits .i64 (((UInt8.toNat (l.getD (Int.toNat (Int.tmod ((p+(1:Int)) - (1:Int)) (l.length:Int))) default)):Nat):Int),Fits .i64 ((((UInt8.toNat (l.getD (Int.toNat (Int.tmod ((p+(1:Int)) - (1:Int)) (l.length:Int))) default)):Nat):Int) * (131:Int)),Fits .i64 (((p+(1:Int)) - (1:Int)) * (7:Int)),Fits .i64 ((((p+(1:Int)) - (1:Int)) * (7:Int))+(3:Int)),(l.length:Int)≠0,0≤(Int.tmod ((((p+(1:Int)) - (1:Int)) * (7:Int))+(3:Int)) (l.length:Int)),(Int.tmod ((((p+(1:Int)) - (1:Int)) * (7:Int))+(3:Int)) (l.length:Int))<(l.length:Int),Fits .i64 (((UInt8.toNat (l.getD (Int.toNat (Int.tmod ((((p+(1:Int)) - (1:Int)) * (7:Int))+(3:Int)) (l.length:Int))) default)):Nat):Int),Fits .i64 ((((UInt8.toNat (l.getD (Int.toNat (Int.tmod ((((p+(1:Int)) - (1:Int)) * (7:Int))+(3:Int)) (l.length:Int))) default)):Nat):Int) * (1117:Int)),Fits .i64 (((((UInt8.toNat (l.getD (Int.toNat (Int.tmod ((p+(1:Int)) - (1:Int)) (l.length:Int))) default)):Nat):Int) * (131:Int))+((((UInt8.toNat (l.getD (Int.toNat (Int.tmod ((((p+(1:Int)) - (1:Int)) * (7:Int))+(3:Int)) (l.length:Int))) default)):Nat):Int) * (1117:Int))),Fits .i64 (((p+(1:Int)) - (1:Int)) * (29:Int)),Fits .i64 ((((((UInt8.toNat (l.getD (Int.toNat (Int.tmod ((p+(1:Int)) - (1:Int)) (l.length:Int))) default)):Nat):Int) * (131:Int))+((((UInt8.toNat (l.getD (Int.toNat (Int.tmod ((((p+(1:Int)) - (1:Int)) * (7:Int))+(3:Int)) (l.length:Int))) default)):Nat):Int) * (1117:Int)))+(((p+(1:Int)) - (1:Int)) * (29:Int))),(l.length:Int)≠0,Fits .i64 (Int.tdiv ((p+(1:Int)) - (1:Int)) (l.length:Int)),Fits .i64 ((Int.tdiv ((p+(1:Int)) - (1:Int)) (l.length:Int)) * (53:Int)),Fits .i64 (((((((UInt8.toNat (l.getD (Int.toNat (Int.tmod ((p+(1:Int)) - (1:Int)) (l.length:Int))) default)):Nat):Int) * (131:Int))+((((UInt8.toNat (l.getD (Int.toNat (Int.tmod ((((p+(1:Int)) - (1:Int)) * (7:Int))+(3:Int)) (l.length:Int))) default)):Nat):Int) * (1117:Int)))+(((p+(1:Int)) - (1:Int)) * (29:Int)))+((Int.tdiv ((p+(1:Int)) - (1:Int)) (l.length:Int)) * (53:Int)))] ⟨om,om,om,(by exact fits_i64 (by (first | omega | (simp only [List.length_set]; done) | (simp only [ln] at *; omega) | assumption)) (by (first | omega | (simp only [List.length_set]; done) | (simp only [ln] at *; omega) | assumption))),(by exact fits_i64 (by (first | omega | (simp only [List.length_set]; done) | (simp only [ln] at *; omega) | assumption)) (by (first | omega | (simp only [List.length_set]; done) | (simp only [ln] at *; omega) | assumption))),fi,fi,om,om,om,(by exact fits_i64 (by (first | omega | (simp only [List.length_set]; done) | (simp only [ln] at *; omega) | assumption)) (by (first | omega | (simp only [List.length_set]; done) | (simp only [ln] at *; omega) | assumption))),(by exact fits_i64 (by (first | omega | (simp only [List.length_set]; done) | (simp only [ln] at *; omega) | assumption)) (by (first | omega | (simp only [List.length_set]; done) | (simp only [ln] at *; omega) | assumption))),(by exact fits_i64 (by (first | omega | (simp only [List.length_set]; done) | (simp only [ln] at *; omega) | assumption)) (by (first | omega | (simp only [List.length_set]; done) | (simp only [ln] at *; omega) | assumption))),fi,(by exact fits_i64 (by (first | omega | (simp only [List.length_set]; done) | (simp only [ln] at *; omega) | assumption)) (by (first | omega | (simp only [List.length_set]; done) | (simp only [ln] at *; omega) | assumption))),om,fi,fi,(by exact fits_i64 (by (first | omega | (simp only [List.length_set]; done) | (simp only [ln] at *; omega) | assumption)) (by (first | omega | (simp only [List.length_set]; done) | (simp only [ln] at *; omega) | assumption)))⟩ ?_
   refine kE tab19x hnt [(1,.i n),(6,.i (bitsI .xor .i64 (((((((UInt8.toNat (l.getD (Int.toNat (Int.tmod ((p+(1:Int)) - (1:Int)) (l.length:Int))) default)):Nat):Int) * (131:Int))+((((UInt8.toNat (l.getD (Int.toNat (Int.tmod ((((p+(1:Int)) - (1:Int)) * (7:Int))+(3:Int)) (l.length:Int))) default)):Nat):Int) * (1117:Int)))+(((p+(1:Int)) - (1:Int)) * (29:Int)))+((Int.tdiv ((p+(1:Int)) - (1:Int)) (l.length:Int)) * (53:Int))) (Int.tdiv (((((((UInt8.toNat (l.getD (Int.toNat (Int.tmod ((p+(1:Int)) - (1:Int)) (l.length:Int))) default)):Nat):Int) * (131:Int))+((((UInt8.toNat (l.getD (Int.toNat (Int.tmod ((((p+(1:Int)) - (1:Int)) * (7:Int))+(3:Int)) (l.length:Int))) default)):Nat):Int) * (1117:Int)))+(((p+(1:Int)) - (1:Int)) * (29:Int)))+((Int.tdiv ((p+(1:Int)) - (1:Int)) (l.length:Int)) * (53:Int))) (64:Int))))] 808070924 [(64:Int)≠0,Fits .i64 (Int.tdiv (((((((UInt8.toNat (l.getD (Int.toNat (Int.tmod ((p+(1:Int)) - (1:Int)) (l.length:Int))) default)):Nat):Int) * (131:Int))+((((UInt8.toNat (l.getD (Int.toNat (Int.tmod ((((p+(1:Int)) - (1:Int)) * (7:Int))+(3:Int)) (l.length:Int))) default)):Nat):Int) * (1117:Int)))+(((p+(1:Int)) - (1:Int)) * (29:Int)))+((Int.tdiv ((p+(1:Int)) - (1:Int)) (l.length:Int)) * (53:Int))) (64:Int))] ⟨(by decide),(by exact fits_i64 (Int.le_trans (by omega) (Int.tdiv_nonneg (by omega) (by omega))) (Int.le_trans (Int.tdiv_le_self _ (by omega)) (by omega)))⟩ ?_
   refine kE tab19x hnt [(4,.i (Int.tmod (bitsI .xor .i64 (((((((UInt8.toNat (l.getD (Int.toNat (Int.tmod ((p+(1:Int)) - (1:Int)) (l.length:Int))) default)):Nat):Int) * (131:Int))+((((UInt8.toNat (l.getD (Int.toNat (Int.tmod ((((p+(1:Int)) - (1:Int)) * (7:Int))+(3:Int)) (l.length:Int))) default)):Nat):Int) * (1117:Int)))+(((p+(1:Int)) - (1:Int)) * (29:Int)))+((Int.tdiv ((p+(1:Int)) - (1:Int)) (l.length:Int)) * (53:Int))) (Int.tdiv (((((((UInt8.toNat (l.getD (Int.toNat (Int.tmod ((p+(1:Int)) - (1:Int)) (l.length:Int))) default)):Nat):Int) * (131:Int))+((((UInt8.toNat (l.getD (Int.toNat (Int.tmod ((((p+(1:Int)) - (1:Int)) * (7:Int))+(3:Int)) (l.length:Int))) default)):Nat):Int) * (1117:Int)))+(((p+(1:Int)) - (1:Int)) * (29:Int)))+((Int.tdiv ((p+(1:Int)) - (1:Int)) (l.length:Int)) * (53:Int))) (64:Int))) n))] 142823 [n≠0] om ?_
   refine W.ret ?_
   exact endP_ret () (show Y from trivial) [(0,998)] (.i (Int.tmod (bitsI .xor .i64 (((((((UInt8.toNat (l.getD (Int.toNat (Int.tmod ((p+(1:Int)) - (1:Int)) (l.length:Int))) default)):Nat):Int) * (131:Int))+((((UInt8.toNat (l.getD (Int.toNat (Int.tmod ((((p+(1:Int)) - (1:Int)) * (7:Int))+(3:Int)) (l.length:Int))) default)):Nat):Int) * (1117:Int)))+(((p+(1:Int)) - (1:Int)) * (29:Int)))+((Int.tdiv ((p+(1:Int)) - (1:Int)) (l.length:Int)) * (53:Int))) (Int.tdiv (((((((UInt8.toNat (l.getD (Int.toNat (Int.tmod ((p+(1:Int)) - (1:Int)) (l.length:Int))) default)):Nat):Int) * (131:Int))+((((UInt8.toNat (l.getD (Int.toNat (Int.tmod ((((p+(1:Int)) - (1:Int)) * (7:Int))+(3:Int)) (l.length:Int))) default)):Nat):Int) * (1117:Int)))+(((p+(1:Int)) - (1:Int)) * (29:Int)))+((Int.tdiv ((p+(1:Int)) - (1:Int)) (l.length:Int)) * (53:Int))) (64:Int))) n)) (by kernel_rfl) (@cast (((.int .i64 (Int.tmod (bitsI .xor .i64 (((((((UInt8.toNat (l.getD (Int.toNat (Int.tmod ((p+(1:Int)) - (1:Int)) (l.length:Int))) default)):Nat):Int) * (131:Int))+((((UInt8.toNat (l.getD (Int.toNat (Int.tmod ((((p+(1:Int)) - (1:Int)) * (7:Int))+(3:Int)) (l.length:Int))) default)):Nat):Int) * (1117:Int)))+(((p+(1:Int)) - (1:Int)) * (29:Int)))+((Int.tdiv ((p+(1:Int)) - (1:Int)) (l.length:Int)) * (53:Int))) (Int.tdiv (((((((UInt8.toNat (l.getD (Int.toNat (Int.tmod ((p+(1:Int)) - (1:Int)) (l.length:Int))) default)):Nat):Int) * (131:Int))+((((UInt8.toNat (l.getD (Int.toNat (Int.tmod ((((p+(1:Int)) - (1:Int)) * (7:Int))+(3:Int)) (l.length:Int))) default)):Nat):Int) * (1117:Int)))+(((p+(1:Int)) - (1:Int)) * (29:Int)))+((Int.tdiv ((p+(1:Int)) - (1:Int)) (l.length:Int)) * (53:Int))) (64:Int))) n):Value)=.int .i64 (pickV l p n))∧((((55:Nat)=55)∧((Sd (.bytes l))∧((.int .i64 (p+(1:Int)):Value)=.int .i64 (p+1))∧Y)∧((0:Nat) ∈ ([0] : List Nat)))∧Y)∧(true=true)∧((([] : List Nat)=[])∧Y)∧(true=true→(998:Nat)=998)) _ (by kernel_rfl) ⟨(congrArg (Value.int .i64) (by first | rfl | omega | assumption | (exact pickV_2 n24 n36 rfl; done) | simp | simp_all)),⟨⟨rfl,⟨rfl,(congrArg (Value.int .i64) (by first | rfl | omega | assumption | simp | simp_all)),tt⟩,(by decide)⟩,tt⟩,rfl,⟨rfl,tt⟩,(fun _=>rfl)⟩)
theorem ent19x : Entr prog 19 := ⟨_,func19,rfl,by decide⟩
def fs19x : FnS := fnP 55 [.o] [.int] [.bytes,.int] (fun (n,_) (l,p,_)=>(0≤p∧p≤1000000)) (fun (n,_) (l,p,_) _=>(.i (pickV l p n),[],[.sl (.bytes l),.i (p+1)]))
theorem ok19x : FnX prog 19 fs19x := FnX.mk rok19x (fun _ _=>rfl)
end Go.Proofs.Tryz

set_option linter.unusedSimpArgs false
set_option linter.unusedVariables false
namespace Go.Proofs.Tryz
open Go.Ab Go.RowKit
def pre16x : List AV→List AV→Prop := preP [.strs] [.bytes,.int] (fun (xs,_) (l,p,_)=>(0≤p∧p≤1000000)∧(0<xs.length)∧(xs.length≤1000))
def rel16x : RelS := relP [.strs] [.bytes,.int] (ι := Unit) (fun (xs,_) (l,p,_) _=>Y) (fun (xs,_) (l,p,_) _=>(.v (.string (ofV l p xs)),[],[.sl (.bytes l),.i (p+1)]))
abbrev T16x : Tab := lk [(19,fs19x)]
theorem tab16x : TabOK prog T16x := (TabOK.cons ok19x ent19x TabOK.nil)
theorem rok16x : RelOK prog 16 (some 55) [.s .strs] pre16x rel16x := by
 refine RelOK.mk cok func16 rfl rfl rfl ?_
 rintro ⟨(xs : List ByteArray),_⟩ ⟨(l : List UInt8),(p:Int),_⟩ hpre F hnt0
 have hnt : F.nt=12 := hnt0.trans ntmps16
 replace hpre : (0≤p∧p≤1000000)∧(0<xs.length)∧(xs.length≤1000) := hpre
 obtain ⟨hp,hx,hx2⟩ := hpre
 refine W.to (⟨[(0,.ptr 998 0),(1,.sl (.strs xs))],[(998,⟨55,.fix [.sl (.bytes l),.i p]⟩)],[998,999]⟩) rfl ?_
 refine kE tab16x hnt [(0,.ptr 998 0),(1,.sl (.strs xs))] 2 [] tt ?_
 refine kS tab16x hnt [(4,.v (.string (xs.getD (Int.toNat (pickV l p (xs.length:Int))) default)))] [(998,⟨55,.fix [.sl (.bytes l),.i (p+1)]⟩)] [9,998,999] 52179483443645 [0≤p∧p≤1000000,0≤(pickV l p (xs.length:Int)),(pickV l p (xs.length:Int))<(xs.length:Int)] ⟨om,(by have h9 := pickV_bnd (l := l) (n := (xs.length:Int)) hp; omega),(by have h9 := pickV_bnd (l := l) (n := (xs.length:Int)) hp; omega)⟩ ?_
 refine W.ret ?_
 exact endP_ret () (show Y from trivial) [(0,998)] (.v (.string (xs.getD (Int.toNat (pickV l p (xs.length:Int))) default))) (by kernel_rfl) (@cast ((((.string (xs.getD (Int.toNat (pickV l p (xs.length:Int))) default)):Value)=(.string (ofV l p xs)))∧((((55:Nat)=55)∧((Sd (.bytes l))∧(Si (p+1))∧Y)∧((0:Nat) ∈ ([0] : List Nat)))∧Y)∧(true=true)∧((([] : List Nat)=[])∧Y)∧(true=true→(998:Nat)=998)) _ (by kernel_rfl) ⟨(by first | rfl | omega | assumption | (symm; assumption) | simp | simp_all),⟨⟨rfl,⟨rfl,rfl,tt⟩,(by decide)⟩,tt⟩,rfl,⟨rfl,tt⟩,(fun _=>rfl)⟩)
theorem ent16x : Entr prog 16 := ⟨_,func16,rfl,by decide⟩
def fs16x : FnS := fnP 55 [.s .strs] [.strs] [.bytes,.int] (fun (xs,_) (l,p,_)=>(0≤p∧p≤1000000)∧(0<xs.length)∧(xs.length≤1000)) (fun (xs,_) (l,p,_) _=>(.v (.string (ofV l p xs)),[],[.sl (.bytes l),.i (p+1)]))
theorem ok16x : FnX prog 16 fs16x := FnX.mk rok16x (fun _ _=>rfl)
end Go.Proofs.Tryz

set_option linter.unusedSimpArgs false
set_option linter.unusedVariables false
namespace Go.Proofs.Tryz
open Go.Ab Go.RowKit
def pre20 : List AV→List AV→Prop := preP [.str] [.bytes,.int] (fun (s,_) (l,p,_)=>(0≤p∧p≤900000)∧(s.size≤1000))
def rel20 : RelS := relP [.str] [.bytes,.int] (ι := ByteArray × Int) (fun (s,_) (l,p,_) (g,q)=>(g.size≤1020)∧(p≤q∧q≤p+10)) (fun (s,_) (l,p,_) (g,q)=>(.v (.string g),[],[.sl (.bytes l),.i q]))
abbrev T20 : Tab := lk [(16,fs16x),(19,fs19x)]
theorem tab20 : TabOK prog T20 := (TabOK.cons ok16x ent16x (TabOK.cons ok19x ent19x TabOK.nil))
abbrev v200 (l:List UInt8) (p:Int) (s:ByteArray):AV:=.i (pickV l p (((s.size+1):Nat):Int))
abbrev v201 (l:List UInt8) (p:Int):AV:=.i (pickV l (p+1) (5:Int))
abbrev v202 (s:ByteArray) (l:List UInt8) (p:Int):AV:=.v (.string (((s.extract 0 (Int.toNat (pickV l p (((s.size+1):Nat):Int))))++(ofV l ((p+1)+1) ([(⟨#[48]⟩:ByteArray),(⟨#[49]⟩:ByteArray),(⟨#[120]⟩:ByteArray),(⟨#[61]⟩:ByteArray),(⟨#[64]⟩:ByteArray),(⟨#[45]⟩:ByteArray),(⟨#[112]⟩:ByteArray),(⟨#[57]⟩:ByteArray),(⟨#[32]⟩:ByteArray)])))++(s.extract (Int.toNat ((pickV l p (((s.size+1):Nat):Int))+(1:Int))) s.size)))
abbrev v203 (s:ByteArray) (l:List UInt8) (p:Int):AV:=.v (.string (s++(ofV l ((p+1)+1) ([(⟨#[48]⟩:ByteArray),(⟨#[32]⟩:ByteArray),(⟨#[64,49]⟩:ByteArray),(⟨#[32,48,120,112,48,61,48,64,50,57,45,51,48]⟩:ByteArray),(⟨#[45]⟩:ByteArray)]))))
theorem rok20 : RelOK prog 20 (some 55) [.o] pre20 rel20 := by
 refine RelOK.mk cok func20 rfl rfl rfl ?_
 rintro ⟨(s:ByteArray),_⟩ ⟨(l : List UInt8),(p:Int),_⟩ hpre F hnt0
 have hnt : F.nt=45 := hnt0.trans ntmps20
 replace hpre : (0≤p∧p≤900000)∧(s.size≤1000) := hpre
 obtain ⟨hp,hz⟩ := hpre
 refine W.to (⟨[(0,.ptr 998 0),(1,.v (.string s))],[(998,⟨55,.fix [.sl (.bytes l),.i p]⟩)],[998,999]⟩) rfl ?_
 have h9 := pickV_bnd (l := l) (p := p) (n := ((s.size+1:Nat):Int)) (by omega)
 refine kE tab20 hnt [(0,.ptr 998 0),(1,.v (.string s))] 2 [] tt ?_
 refine kS tab20 hnt [(0,.ptr 998 0),(1,.v (.string s)),(5,(v200 l p s))] [(998,⟨55,.fix [.sl (.bytes l),.i (p+1)]⟩)] [10,998,999] 74288765594 [Fits .i64 (((s.size+1):Nat):Int),0≤p∧p≤1000000] ⟨(by exact fits_i64 (by omega) (by omega)),om⟩ ?_
 refine W.seq ?_
 refine kS tab20 hnt [(0,.ptr 998 0),(1,.v (.string s)),(5,(v200 l p s)),(12,(v201 l p))] [(998,⟨55,.fix [.sl (.bytes l),.i ((p+1)+1)]⟩)] [12,10,998,999] 195203 [0≤(p+1)∧(p+1)≤1000000] om ?_
 refine W.block ?_
 refine W.seq ?_
 refine kE tab20 hnt [(0,.ptr 998 0),(1,.v (.string s)),(5,(v200 l p s)),(12,(v201 l p)),(13,.b (decide ((pickV l (p+1) (5:Int))=(0:Int))))] 1520 [] tt ?_
 refine ifp ((pickV l (p+1) (5:Int))=(0:Int)) ?_ ?_
 ·intro h13
  refine W.skip (thenQ_normal ?_)
  refine ifp ((pickV l (p+1) (5:Int))=(0:Int)) ?_ ?_
  ·intro h13
   refine kE tab20 hnt [(0,.ptr 998 0),(1,.v (.string s)),(5,(v200 l p s)),(19,.b (decide ((pickV l p (((s.size+1):Nat):Int))<((s.size:Nat):Int))))] 45380 [] tt ?_
   refine ifp ((pickV l p (((s.size+1):Nat):Int))<((s.size:Nat):Int)) ?_ ?_
   ·intro h19
    refine kA tab20 hnt [(4,(v202 s l p))] [(998,⟨55,.fix [.sl (.bytes l),.i (((p+1)+1)+1)]⟩)] [25,24,12,10,998,999] 260666801737499633965427767008347044250528 [0≤(0:Int),(0:Int)≤(pickV l p (((s.size+1):Nat):Int)),(pickV l p (((s.size+1):Nat):Int))≤((s.size:Nat):Int),0≤((p+1)+1)∧((p+1)+1)≤1000000,0<([(⟨#[48]⟩:ByteArray),(⟨#[49]⟩:ByteArray),(⟨#[120]⟩:ByteArray),(⟨#[61]⟩:ByteArray),(⟨#[64]⟩:ByteArray),(⟨#[45]⟩:ByteArray),(⟨#[112]⟩:ByteArray),(⟨#[57]⟩:ByteArray),(⟨#[32]⟩:ByteArray)]).length,([(⟨#[48]⟩:ByteArray),(⟨#[49]⟩:ByteArray),(⟨#[120]⟩:ByteArray),(⟨#[61]⟩:ByteArray),(⟨#[64]⟩:ByteArray),(⟨#[45]⟩:ByteArray),(⟨#[112]⟩:ByteArray),(⟨#[57]⟩:ByteArray),(⟨#[32]⟩:ByteArray)]).length≤1000,(s.extract 0 (Int.toNat (pickV l p (((s.size+1):Nat):Int)))).size+(ofV l ((p+1)+1) ([(⟨#[48]⟩:ByteArray),(⟨#[49]⟩:ByteArray),(⟨#[120]⟩:ByteArray),(⟨#[61]⟩:ByteArray),(⟨#[64]⟩:ByteArray),(⟨#[45]⟩:ByteArray),(⟨#[112]⟩:ByteArray),(⟨#[57]⟩:ByteArray),(⟨#[32]⟩:ByteArray)])).size≤9223372036854775807,Fits .i64 ((pickV l p (((s.size+1):Nat):Int))+(1:Int)),0≤((pickV l p (((s.size+1):Nat):Int))+(1:Int)),((pickV l p (((s.size+1):Nat):Int))+(1:Int))≤((s.size:Nat):Int),((s.size:Nat):Int)≤((s.size:Nat):Int),((s.extract 0 (Int.toNat (pickV l p (((s.size+1):Nat):Int))))++(ofV l ((p+1)+1) ([(⟨#[48]⟩:ByteArray),(⟨#[49]⟩:ByteArray),(⟨#[120]⟩:ByteArray),(⟨#[61]⟩:ByteArray),(⟨#[64]⟩:ByteArray),(⟨#[45]⟩:ByteArray),(⟨#[112]⟩:ByteArray),(⟨#[57]⟩:ByteArray),(⟨#[32]⟩:ByteArray)]))).size+(s.extract (Int.toNat ((pickV l p (((s.size+1):Nat):Int))+(1:Int))) s.size).size≤9223372036854775807] ⟨om,(by (try simp only [ByteArray.size_append,ByteArray.size_extract]); first | omega | exact ob_2 (ofV_small (by decide)) (by omega) | exact ob_3 (ofV_small (by decide)) (by omega)),(by (try simp only [ByteArray.size_append,ByteArray.size_extract]); first | omega | exact ob_2 (ofV_small (by decide)) (by omega) | exact ob_3 (ofV_small (by decide)) (by omega)),om,ow,ow,(by (try simp only [ByteArray.size_append,ByteArray.size_extract]); first | omega | exact ob_2 (ofV_small (by decide)) (by omega) | exact ob_3 (ofV_small (by decide)) (by omega)),(by exact fits_i64 (by omega) (by omega)),(by (try simp only [ByteArray.size_append,ByteArray.size_extract]); first | omega | exact ob_2 (ofV_small (by decide)) (by omega) | exact ob_3 (ofV_small (by decide)) (by omega)),(by (try simp only [ByteArray.size_append,ByteArray.size_extract]); first | omega | exact ob_2 (ofV_small (by decide)) (by omega) | exact ob_3 (ofV_small (by decide)) (by omega)),(by (try simp only [ByteArray.size_append,ByteArray.size_extract]); first | omega | exact ob_2 (ofV_small (by decide)) (by omega) | exact ob_3 (ofV_small (by decide)) (by omega)),(by (try simp only [ByteArray.size_append,ByteArray.size_extract]); first | omega | exact ob_2 (ofV_small (by decide)) (by omega) | exact ob_3 (ofV_small (by decide)) (by omega))⟩ ?_
    refine W.ret (blockQ_ret (thenQ_ret ?_))
    exact endP_ret ((((s.extract 0 (Int.toNat (pickV l p (((s.size+1):Nat):Int))))++(ofV l ((p+1)+1) ([(⟨#[48]⟩:ByteArray),(⟨#[49]⟩:ByteArray),(⟨#[120]⟩:ByteArray),(⟨#[61]⟩:ByteArray),(⟨#[64]⟩:ByteArray),(⟨#[45]⟩:ByteArray),(⟨#[112]⟩:ByteArray),(⟨#[57]⟩:ByteArray),(⟨#[32]⟩:ByteArray)])))++(s.extract (Int.toNat ((pickV l p (((s.size+1):Nat):Int))+(1:Int))) s.size)),(((p+1)+1)+1)) (show ((((s.extract 0 (Int.toNat (pickV l p (((s.size+1):Nat):Int))))++(ofV l ((p+1)+1) ([(⟨#[48]⟩:ByteArray),(⟨#[49]⟩:ByteArray),(⟨#[120]⟩:ByteArray),(⟨#[61]⟩:ByteArray),(⟨#[64]⟩:ByteArray),(⟨#[45]⟩:ByteArray),(⟨#[112]⟩:ByteArray),(⟨#[57]⟩:ByteArray),(⟨#[32]⟩:ByteArray)])))++(s.extract (Int.toNat ((pickV l p (((s.size+1):Nat):Int))+(1:Int))) s.size)).size≤1020)∧(p≤(((p+1)+1)+1)∧(((p+1)+1)+1)≤p+10) from ⟨(by (try simp only [ByteArray.size_append,ByteArray.size_extract]); first | omega | exact ob_2 (ofV_small (by decide)) (by omega) | exact ob_3 (ofV_small (by decide)) (by omega)),(by first | assumption | omega | rfl | (simp; done) | (simp; omega))⟩) [(0,998)] (.v (.string (((s.extract 0 (Int.toNat (pickV l p (((s.size+1):Nat):Int))))++(ofV l ((p+1)+1) ([(⟨#[48]⟩:ByteArray),(⟨#[49]⟩:ByteArray),(⟨#[120]⟩:ByteArray),(⟨#[61]⟩:ByteArray),(⟨#[64]⟩:ByteArray),(⟨#[45]⟩:ByteArray),(⟨#[112]⟩:ByteArray),(⟨#[57]⟩:ByteArray),(⟨#[32]⟩:ByteArray)])))++(s.extract (Int.toNat ((pickV l p (((s.size+1):Nat):Int))+(1:Int))) s.size)))) (by kernel_rfl) (@cast ((((.string (((s.extract 0 (Int.toNat (pickV l p (((s.size+1):Nat):Int))))++(ofV l ((p+1)+1) ([(⟨#[48]⟩:ByteArray),(⟨#[49]⟩:ByteArray),(⟨#[120]⟩:ByteArray),(⟨#[61]⟩:ByteArray),(⟨#[64]⟩:ByteArray),(⟨#[45]⟩:ByteArray),(⟨#[112]⟩:ByteArray),(⟨#[57]⟩:ByteArray),(⟨#[32]⟩:ByteArray)])))++(s.extract (Int.toNat ((pickV l p (((s.size+1):Nat):Int))+(1:Int))) s.size))):Value)=(.string (((s.extract 0 (Int.toNat (pickV l p (((s.size+1):Nat):Int))))++(ofV l ((p+1)+1) ([(⟨#[48]⟩:ByteArray),(⟨#[49]⟩:ByteArray),(⟨#[120]⟩:ByteArray),(⟨#[61]⟩:ByteArray),(⟨#[64]⟩:ByteArray),(⟨#[45]⟩:ByteArray),(⟨#[112]⟩:ByteArray),(⟨#[57]⟩:ByteArray),(⟨#[32]⟩:ByteArray)])))++(s.extract (Int.toNat ((pickV l p (((s.size+1):Nat):Int))+(1:Int))) s.size))))∧((((55:Nat)=55)∧((Sd (.bytes l))∧(Si (((p+1)+1)+1))∧Y)∧((0:Nat) ∈ ([0] : List Nat)))∧Y)∧(true=true)∧((([] : List Nat)=[])∧Y)∧(true=true→(998:Nat)=998)) _ (by kernel_rfl) ⟨rfl,⟨⟨rfl,⟨rfl,rfl,tt⟩,(by decide)⟩,tt⟩,rfl,⟨rfl,tt⟩,(fun _=>rfl)⟩)
   ·intro n19
    refine W.skip (blockQ_normal (thenQ_normal ?_))
    refine kE tab20 hnt [(4,.v (.string s))] 20 [] tt ?_
    refine W.ret ?_
    exact endP_ret (s,((p+1)+1)) (show (s.size≤1020)∧(p≤((p+1)+1)∧((p+1)+1)≤p+10) from ⟨(by (try simp only [ByteArray.size_append,ByteArray.size_extract]); first | omega | exact ob_2 (ofV_small (by decide)) (by omega) | exact ob_3 (ofV_small (by decide)) (by omega)),(by first | assumption | omega | rfl | (simp; done) | (simp; omega))⟩) [(0,998)] (.v (.string s)) (by kernel_rfl) (@cast ((((.string s):Value)=(.string s))∧((((55:Nat)=55)∧((Sd (.bytes l))∧(Si ((p+1)+1))∧Y)∧((0:Nat) ∈ ([0] : List Nat)))∧Y)∧(true=true)∧((([] : List Nat)=[])∧Y)∧(true=true→(998:Nat)=998)) _ (by kernel_rfl) ⟨rfl,⟨⟨rfl,⟨rfl,rfl,tt⟩,(by decide)⟩,tt⟩,rfl,⟨rfl,tt⟩,(fun _=>rfl)⟩)
  ·intro n13
   refine kE tab20 hnt [(0,.ptr 998 0),(1,.v (.string s)),(5,(v200 l p s)),(12,(v201 l p)),(32,.b (decide ((pickV l (p+1) (5:Int))=(2:Int))))] 1520 [] tt ?_
   refine ifp ((pickV l (p+1) (5:Int))=(2:Int)) ?_ ?_
   ·intro h32
    refine kE tab20 hnt [(4,.v (.string (s.extract 0 (Int.toNat (pickV l p (((s.size+1):Nat):Int))))))] 109344107 [0≤(0:Int),(0:Int)≤(pickV l p (((s.size+1):Nat):Int)),(pickV l p (((s.size+1):Nat):Int))≤((s.size:Nat):Int)] ⟨om,(by (try simp only [ByteArray.size_append,ByteArray.size_extract]); first | omega | exact ob_2 (ofV_small (by decide)) (by omega) | exact ob_3 (ofV_small (by decide)) (by omega)),(by (try simp only [ByteArray.size_append,ByteArray.size_extract]); first | omega | exact ob_2 (ofV_small (by decide)) (by omega) | exact ob_3 (ofV_small (by decide)) (by omega))⟩ ?_
    refine W.ret (blockQ_ret (thenQ_ret ?_))
    exact endP_ret ((s.extract 0 (Int.toNat (pickV l p (((s.size+1):Nat):Int)))),((p+1)+1)) (show ((s.extract 0 (Int.toNat (pickV l p (((s.size+1):Nat):Int)))).size≤1020)∧(p≤((p+1)+1)∧((p+1)+1)≤p+10) from ⟨(by (try simp only [ByteArray.size_append,ByteArray.size_extract]); first | omega | exact ob_2 (ofV_small (by decide)) (by omega) | exact ob_3 (ofV_small (by decide)) (by omega)),(by first | assumption | omega | rfl | (simp; done) | (simp; omega))⟩) [(0,998)] (.v (.string (s.extract 0 (Int.toNat (pickV l p (((s.size+1):Nat):Int)))))) (by kernel_rfl) (@cast ((((.string (s.extract 0 (Int.toNat (pickV l p (((s.size+1):Nat):Int))))):Value)=(.string (s.extract 0 (Int.toNat (pickV l p (((s.size+1):Nat):Int))))))∧((((55:Nat)=55)∧((Sd (.bytes l))∧(Si ((p+1)+1))∧Y)∧((0:Nat) ∈ ([0] : List Nat)))∧Y)∧(true=true)∧((([] : List Nat)=[])∧Y)∧(true=true→(998:Nat)=998)) _ (by kernel_rfl) ⟨rfl,⟨⟨rfl,⟨rfl,rfl,tt⟩,(by decide)⟩,tt⟩,rfl,⟨rfl,tt⟩,(fun _=>rfl)⟩)
   ·intro n32
    refine kE tab20 hnt [(0,.ptr 998 0),(1,.v (.string s)),(37,.b (decide ((pickV l (p+1) (5:Int))=(3:Int))))] 1520 [] tt ?_
    refine ifp ((pickV l (p+1) (5:Int))=(3:Int)) ?_ ?_
    ·intro h37
     refine kS tab20 hnt [(4,(v203 s l p))] [(998,⟨55,.fix [.sl (.bytes l),.i (((p+1)+1)+1)]⟩)] [42,41,12,10,998,999] 363097147046012894 [0≤((p+1)+1)∧((p+1)+1)≤1000000,0<([(⟨#[48]⟩:ByteArray),(⟨#[32]⟩:ByteArray),(⟨#[64,49]⟩:ByteArray),(⟨#[32,48,120,112,48,61,48,64,50,57,45,51,48]⟩:ByteArray),(⟨#[45]⟩:ByteArray)]).length,([(⟨#[48]⟩:ByteArray),(⟨#[32]⟩:ByteArray),(⟨#[64,49]⟩:ByteArray),(⟨#[32,48,120,112,48,61,48,64,50,57,45,51,48]⟩:ByteArray),(⟨#[45]⟩:ByteArray)]).length≤1000,s.size+(ofV l ((p+1)+1) ([(⟨#[48]⟩:ByteArray),(⟨#[32]⟩:ByteArray),(⟨#[64,49]⟩:ByteArray),(⟨#[32,48,120,112,48,61,48,64,50,57,45,51,48]⟩:ByteArray),(⟨#[45]⟩:ByteArray)])).size≤9223372036854775807] ⟨om,ow,ow,(by (try simp only [ByteArray.size_append,ByteArray.size_extract]); first | omega | exact ob_2 (ofV_small (by decide)) (by omega) | exact ob_3 (ofV_small (by decide)) (by omega))⟩ ?_
     refine W.ret (blockQ_ret (thenQ_ret ?_))
     exact endP_ret ((s++(ofV l ((p+1)+1) ([(⟨#[48]⟩:ByteArray),(⟨#[32]⟩:ByteArray),(⟨#[64,49]⟩:ByteArray),(⟨#[32,48,120,112,48,61,48,64,50,57,45,51,48]⟩:ByteArray),(⟨#[45]⟩:ByteArray)]))),(((p+1)+1)+1)) (show ((s++(ofV l ((p+1)+1) ([(⟨#[48]⟩:ByteArray),(⟨#[32]⟩:ByteArray),(⟨#[64,49]⟩:ByteArray),(⟨#[32,48,120,112,48,61,48,64,50,57,45,51,48]⟩:ByteArray),(⟨#[45]⟩:ByteArray)]))).size≤1020)∧(p≤(((p+1)+1)+1)∧(((p+1)+1)+1)≤p+10) from ⟨(by (try simp only [ByteArray.size_append,ByteArray.size_extract]); first | omega | exact ob_2 (ofV_small (by decide)) (by omega) | exact ob_3 (ofV_small (by decide)) (by omega)),(by first | assumption | omega | rfl | (simp; done) | (simp; omega))⟩) [(0,998)] (.v (.string (s++(ofV l ((p+1)+1) ([(⟨#[48]⟩:ByteArray),(⟨#[32]⟩:ByteArray),(⟨#[64,49]⟩:ByteArray),(⟨#[32,48,120,112,48,61,48,64,50,57,45,51,48]⟩:ByteArray),(⟨#[45]⟩:ByteArray)]))))) (by kernel_rfl) (@cast ((((.string (s++(ofV l ((p+1)+1) ([(⟨#[48]⟩:ByteArray),(⟨#[32]⟩:ByteArray),(⟨#[64,49]⟩:ByteArray),(⟨#[32,48,120,112,48,61,48,64,50,57,45,51,48]⟩:ByteArray),(⟨#[45]⟩:ByteArray)])))):Value)=(.string (s++(ofV l ((p+1)+1) ([(⟨#[48]⟩:ByteArray),(⟨#[32]⟩:ByteArray),(⟨#[64,49]⟩:ByteArray),(⟨#[32,48,120,112,48,61,48,64,50,57,45,51,48]⟩:ByteArray),(⟨#[45]⟩:ByteArray)])))))∧((((55:Nat)=55)∧((Sd (.bytes l))∧(Si (((p+1)+1)+1))∧Y)∧((0:Nat) ∈ ([0] : List Nat)))∧Y)∧(true=true)∧((([] : List Nat)=[])∧Y)∧(true=true→(998:Nat)=998)) _ (by kernel_rfl) ⟨rfl,⟨⟨rfl,⟨rfl,rfl,tt⟩,(by decide)⟩,tt⟩,rfl,⟨rfl,tt⟩,(fun _=>rfl)⟩)
    ·intro n37
     refine W.skip (blockQ_normal (thenQ_normal ?_))
     refine kE tab20 hnt [(4,.v (.string s))] 20 [] tt ?_
     refine W.ret ?_
     exact endP_ret (s,((p+1)+1)) (show (s.size≤1020)∧(p≤((p+1)+1)∧((p+1)+1)≤p+10) from ⟨(by (try simp only [ByteArray.size_append,ByteArray.size_extract]); first | omega | exact ob_2 (ofV_small (by decide)) (by omega) | exact ob_3 (ofV_small (by decide)) (by omega)),(by first | assumption | omega | rfl | (simp; done) | (simp; omega))⟩) [(0,998)] (.v (.string s)) (by kernel_rfl) (@cast ((((.string s):Value)=(.string s))∧((((55:Nat)=55)∧((Sd (.bytes l))∧(Si ((p+1)+1))∧Y)∧((0:Nat) ∈ ([0] : List Nat)))∧Y)∧(true=true)∧((([] : List Nat)=[])∧Y)∧(true=true→(998:Nat)=998)) _ (by kernel_rfl) ⟨rfl,⟨⟨rfl,⟨rfl,rfl,tt⟩,(by decide)⟩,tt⟩,rfl,⟨rfl,tt⟩,(fun _=>rfl)⟩)
 ·intro n13
  refine lE tab20 hnt [(0,.ptr 998 0),(1,.v (.string s)),(5,(v200 l p s)),(12,(v201 l p)),(13,.b (decide ((pickV l (p+1) (5:Int))=(1:Int))))] 1520 [] tt ?_
  refine thenQ_normal ?_
  refine ifp ((pickV l (p+1) (5:Int))=(1:Int)) ?_ ?_
  ·intro h13
   refine kE tab20 hnt [(0,.ptr 998 0),(1,.v (.string s)),(5,(v200 l p s)),(19,.b (decide ((pickV l p (((s.size+1):Nat):Int))<((s.size:Nat):Int))))] 45380 [] tt ?_
   refine ifp ((pickV l p (((s.size+1):Nat):Int))<((s.size:Nat):Int)) ?_ ?_
   ·intro h19
    refine kA tab20 hnt [(4,(v202 s l p))] [(998,⟨55,.fix [.sl (.bytes l),.i (((p+1)+1)+1)]⟩)] [25,24,12,10,998,999] 260666801737499633965427767008347044250528 [0≤(0:Int),(0:Int)≤(pickV l p (((s.size+1):Nat):Int)),(pickV l p (((s.size+1):Nat):Int))≤((s.size:Nat):Int),0≤((p+1)+1)∧((p+1)+1)≤1000000,0<([(⟨#[48]⟩:ByteArray),(⟨#[49]⟩:ByteArray),(⟨#[120]⟩:ByteArray),(⟨#[61]⟩:ByteArray),(⟨#[64]⟩:ByteArray),(⟨#[45]⟩:ByteArray),(⟨#[112]⟩:ByteArray),(⟨#[57]⟩:ByteArray),(⟨#[32]⟩:ByteArray)]).length,([(⟨#[48]⟩:ByteArray),(⟨#[49]⟩:ByteArray),(⟨#[120]⟩:ByteArray),(⟨#[61]⟩:ByteArray),(⟨#[64]⟩:ByteArray),(⟨#[45]⟩:ByteArray),(⟨#[112]⟩:ByteArray),(⟨#[57]⟩:ByteArray),(⟨#[32]⟩:ByteArray)]).length≤1000,(s.extract 0 (Int.toNat (pickV l p (((s.size+1):Nat):Int)))).size+(ofV l ((p+1)+1) ([(⟨#[48]⟩:ByteArray),(⟨#[49]⟩:ByteArray),(⟨#[120]⟩:ByteArray),(⟨#[61]⟩:ByteArray),(⟨#[64]⟩:ByteArray),(⟨#[45]⟩:ByteArray),(⟨#[112]⟩:ByteArray),(⟨#[57]⟩:ByteArray),(⟨#[32]⟩:ByteArray)])).size≤9223372036854775807,Fits .i64 ((pickV l p (((s.size+1):Nat):Int))+(1:Int)),0≤((pickV l p (((s.size+1):Nat):Int))+(1:Int)),((pickV l p (((s.size+1):Nat):Int))+(1:Int))≤((s.size:Nat):Int),((s.size:Nat):Int)≤((s.size:Nat):Int),((s.extract 0 (Int.toNat (pickV l p (((s.size+1):Nat):Int))))++(ofV l ((p+1)+1) ([(⟨#[48]⟩:ByteArray),(⟨#[49]⟩:ByteArray),(⟨#[120]⟩:ByteArray),(⟨#[61]⟩:ByteArray),(⟨#[64]⟩:ByteArray),(⟨#[45]⟩:ByteArray),(⟨#[112]⟩:ByteArray),(⟨#[57]⟩:ByteArray),(⟨#[32]⟩:ByteArray)]))).size+(s.extract (Int.toNat ((pickV l p (((s.size+1):Nat):Int))+(1:Int))) s.size).size≤9223372036854775807] ⟨om,(by (try simp only [ByteArray.size_append,ByteArray.size_extract]); first | omega | exact ob_2 (ofV_small (by decide)) (by omega) | exact ob_3 (ofV_small (by decide)) (by omega)),(by (try simp only [ByteArray.size_append,ByteArray.size_extract]); first | omega | exact ob_2 (ofV_small (by decide)) (by omega) | exact ob_3 (ofV_small (by decide)) (by omega)),om,ow,ow,(by (try simp only [ByteArray.size_append,ByteArray.size_extract]); first | omega | exact ob_2 (ofV_small (by decide)) (by omega) | exact ob_3 (ofV_small (by decide)) (by omega)),(by exact fits_i64 (by omega) (by omega)),(by (try simp only [ByteArray.size_append,ByteArray.size_extract]); first | omega | exact ob_2 (ofV_small (by decide)) (by omega) | exact ob_3 (ofV_small (by decide)) (by omega)),(by (try simp only [ByteArray.size_append,ByteArray.size_extract]); first | omega | exact ob_2 (ofV_small (by decide)) (by omega) | exact ob_3 (ofV_small (by decide)) (by omega)),(by (try simp only [ByteArray.size_append,ByteArray.size_extract]); first | omega | exact ob_2 (ofV_small (by decide)) (by omega) | exact ob_3 (ofV_small (by decide)) (by omega)),(by (try simp only [ByteArray.size_append,ByteArray.size_extract]); first | omega | exact ob_2 (ofV_small (by decide)) (by omega) | exact ob_3 (ofV_small (by decide)) (by omega))⟩ ?_
    refine W.ret (blockQ_ret (thenQ_ret ?_))
    exact endP_ret ((((s.extract 0 (Int.toNat (pickV l p (((s.size+1):Nat):Int))))++(ofV l ((p+1)+1) ([(⟨#[48]⟩:ByteArray),(⟨#[49]⟩:ByteArray),(⟨#[120]⟩:ByteArray),(⟨#[61]⟩:ByteArray),(⟨#[64]⟩:ByteArray),(⟨#[45]⟩:ByteArray),(⟨#[112]⟩:ByteArray),(⟨#[57]⟩:ByteArray),(⟨#[32]⟩:ByteArray)])))++(s.extract (Int.toNat ((pickV l p (((s.size+1):Nat):Int))+(1:Int))) s.size)),(((p+1)+1)+1)) (show ((((s.extract 0 (Int.toNat (pickV l p (((s.size+1):Nat):Int))))++(ofV l ((p+1)+1) ([(⟨#[48]⟩:ByteArray),(⟨#[49]⟩:ByteArray),(⟨#[120]⟩:ByteArray),(⟨#[61]⟩:ByteArray),(⟨#[64]⟩:ByteArray),(⟨#[45]⟩:ByteArray),(⟨#[112]⟩:ByteArray),(⟨#[57]⟩:ByteArray),(⟨#[32]⟩:ByteArray)])))++(s.extract (Int.toNat ((pickV l p (((s.size+1):Nat):Int))+(1:Int))) s.size)).size≤1020)∧(p≤(((p+1)+1)+1)∧(((p+1)+1)+1)≤p+10) from ⟨(by (try simp only [ByteArray.size_append,ByteArray.size_extract]); first | omega | exact ob_2 (ofV_small (by decide)) (by omega) | exact ob_3 (ofV_small (by decide)) (by omega)),(by first | assumption | omega | rfl | (simp; done) | (simp; omega))⟩) [(0,998)] (.v (.string (((s.extract 0 (Int.toNat (pickV l p (((s.size+1):Nat):Int))))++(ofV l ((p+1)+1) ([(⟨#[48]⟩:ByteArray),(⟨#[49]⟩:ByteArray),(⟨#[120]⟩:ByteArray),(⟨#[61]⟩:ByteArray),(⟨#[64]⟩:ByteArray),(⟨#[45]⟩:ByteArray),(⟨#[112]⟩:ByteArray),(⟨#[57]⟩:ByteArray),(⟨#[32]⟩:ByteArray)])))++(s.extract (Int.toNat ((pickV l p (((s.size+1):Nat):Int))+(1:Int))) s.size)))) (by kernel_rfl) (@cast ((((.string (((s.extract 0 (Int.toNat (pickV l p (((s.size+1):Nat):Int))))++(ofV l ((p+1)+1) ([(⟨#[48]⟩:ByteArray),(⟨#[49]⟩:ByteArray),(⟨#[120]⟩:ByteArray),(⟨#[61]⟩:ByteArray),(⟨#[64]⟩:ByteArray),(⟨#[45]⟩:ByteArray),(⟨#[112]⟩:ByteArray),(⟨#[57]⟩:ByteArray),(⟨#[32]⟩:ByteArray)])))++(s.extract (Int.toNat ((pickV l p (((s.size+1):Nat):Int))+(1:Int))) s.size))):Value)=(.string (((s.extract 0 (Int.toNat (pickV l p (((s.size+1):Nat):Int))))++(ofV l ((p+1)+1) ([(⟨#[48]⟩:ByteArray),(⟨#[49]⟩:ByteArray),(⟨#[120]⟩:ByteArray),(⟨#[61]⟩:ByteArray),(⟨#[64]⟩:ByteArray),(⟨#[45]⟩:ByteArray),(⟨#[112]⟩:ByteArray),(⟨#[57]⟩:ByteArray),(⟨#[32]⟩:ByteArray)])))++(s.extract (Int.toNat ((pickV l p (((s.size+1):Nat):Int))+(1:Int))) s.size))))∧((((55:Nat)=55)∧((Sd (.bytes l))∧(Si (((p+1)+1)+1))∧Y)∧((0:Nat) ∈ ([0] : List Nat)))∧Y)∧(true=true)∧((([] : List Nat)=[])∧Y)∧(true=true→(998:Nat)=998)) _ (by kernel_rfl) ⟨rfl,⟨⟨rfl,⟨rfl,rfl,tt⟩,(by decide)⟩,tt⟩,rfl,⟨rfl,tt⟩,(fun _=>rfl)⟩)
   ·intro n19
    refine W.skip (blockQ_normal (thenQ_normal ?_))
    refine kE tab20 hnt [(4,.v (.string s))] 20 [] tt ?_
    refine W.ret ?_
    exact endP_ret (s,((p+1)+1)) (show (s.size≤1020)∧(p≤((p+1)+1)∧((p+1)+1)≤p+10) from ⟨(by (try simp only [ByteArray.size_append,ByteArray.size_extract]); first | omega | exact ob_2 (ofV_small (by decide)) (by omega) | exact ob_3 (ofV_small (by decide)) (by omega)),(by first | assumption | omega | rfl | (simp; done) | (simp; omega))⟩) [(0,998)] (.v (.string s)) (by kernel_rfl) (@cast ((((.string s):Value)=(.string s))∧((((55:Nat)=55)∧((Sd (.bytes l))∧(Si ((p+1)+1))∧Y)∧((0:Nat) ∈ ([0] : List Nat)))∧Y)∧(true=true)∧((([] : List Nat)=[])∧Y)∧(true=true→(998:Nat)=998)) _ (by kernel_rfl) ⟨rfl,⟨⟨rfl,⟨rfl,rfl,tt⟩,(by decide)⟩,tt⟩,rfl,⟨rfl,tt⟩,(fun _=>rfl)⟩)
  ·intro n13
   refine kE tab20 hnt [(0,.ptr 998 0),(1,.v (.string s)),(5,(v200 l p s)),(12,(v201 l p)),(32,.b (decide ((pickV l (p+1) (5:Int))=(2:Int))))] 1520 [] tt ?_
   refine ifp ((pickV l (p+1) (5:Int))=(2:Int)) ?_ ?_
   ·intro h32
    refine kE tab20 hnt [(4,.v (.string (s.extract 0 (Int.toNat (pickV l p (((s.size+1):Nat):Int))))))] 109344107 [0≤(0:Int),(0:Int)≤(pickV l p (((s.size+1):Nat):Int)),(pickV l p (((s.size+1):Nat):Int))≤((s.size:Nat):Int)] ⟨om,(by (try simp only [ByteArray.size_append,ByteArray.size_extract]); first | omega | exact ob_2 (ofV_small (by decide)) (by omega) | exact ob_3 (ofV_small (by decide)) (by omega)),(by (try simp only [ByteArray.size_append,ByteArray.size_extract]); first | omega | exact ob_2 (ofV_small (by decide)) (by omega) | exact ob_3 (ofV_small (by decide)) (by omega))⟩ ?_
    refine W.ret (blockQ_ret (thenQ_ret ?_))
    exact endP_ret ((s.extract 0 (Int.toNat (pickV l p (((s.size+1):Nat):Int)))),((p+1)+1)) (show ((s.extract 0 (Int.toNat (pickV l p (((s.size+1):Nat):Int)))).size≤1020)∧(p≤((p+1)+1)∧((p+1)+1)≤p+10) from ⟨(by (try simp only [ByteArray.size_append,ByteArray.size_extract]); first | omega | exact ob_2 (ofV_small (by decide)) (by omega) | exact ob_3 (ofV_small (by decide)) (by omega)),(by first | assumption | omega | rfl | (simp; done) | (simp; omega))⟩) [(0,998)] (.v (.string (s.extract 0 (Int.toNat (pickV l p (((s.size+1):Nat):Int)))))) (by kernel_rfl) (@cast ((((.string (s.extract 0 (Int.toNat (pickV l p (((s.size+1):Nat):Int))))):Value)=(.string (s.extract 0 (Int.toNat (pickV l p (((s.size+1):Nat):Int))))))∧((((55:Nat)=55)∧((Sd (.bytes l))∧(Si ((p+1)+1))∧Y)∧((0:Nat) ∈ ([0] : List Nat)))∧Y)∧(true=true)∧((([] : List Nat)=[])∧Y)∧(true=true→(998:Nat)=998)) _ (by kernel_rfl) ⟨rfl,⟨⟨rfl,⟨rfl,rfl,tt⟩,(by decide)⟩,tt⟩,rfl,⟨rfl,tt⟩,(fun _=>rfl)⟩)
   ·intro n32
    refine kE tab20 hnt [(0,.ptr 998 0),(1,.v (.string s)),(37,.b (decide ((pickV l (p+1) (5:Int))=(3:Int))))] 1520 [] tt ?_
    refine ifp ((pickV l (p+1) (5:Int))=(3:Int)) ?_ ?_
    ·intro h37
     refine kS tab20 hnt [(4,(v203 s l p))] [(998,⟨55,.fix [.sl (.bytes l),.i (((p+1)+1)+1)]⟩)] [42,41,12,10,998,999] 363097147046012894 [0≤((p+1)+1)∧((p+1)+1)≤1000000,0<([(⟨#[48]⟩:ByteArray),(⟨#[32]⟩:ByteArray),(⟨#[64,49]⟩:ByteArray),(⟨#[32,48,120,112,48,61,48,64,50,57,45,51,48]⟩:ByteArray),(⟨#[45]⟩:ByteArray)]).length,([(⟨#[48]⟩:ByteArray),(⟨#[32]⟩:ByteArray),(⟨#[64,49]⟩:ByteArray),(⟨#[32,48,120,112,48,61,48,64,50,57,45,51,48]⟩:ByteArray),(⟨#[45]⟩:ByteArray)]).length≤1000,s.size+(ofV l ((p+1)+1) ([(⟨#[48]⟩:ByteArray),(⟨#[32]⟩:ByteArray),(⟨#[64,49]⟩:ByteArray),(⟨#[32,48,120,112,48,61,48,64,50,57,45,51,48]⟩:ByteArray),(⟨#[45]⟩:ByteArray)])).size≤9223372036854775807] ⟨om,ow,ow,(by (try simp only [ByteArray.size_append,ByteArray.size_extract]); first | omega | exact ob_2 (ofV_small (by decide)) (by omega) | exact ob_3 (ofV_small (by decide)) (by omega))⟩ ?_
     refine W.ret (blockQ_ret (thenQ_ret ?_))
     exact endP_ret ((s++(ofV l ((p+1)+1) ([(⟨#[48]⟩:ByteArray),(⟨#[32]⟩:ByteArray),(⟨#[64,49]⟩:ByteArray),(⟨#[32,48,120,112,48,61,48,64,50,57,45,51,48]⟩:ByteArray),(⟨#[45]⟩:ByteArray)]))),(((p+1)+1)+1)) (show ((s++(ofV l ((p+1)+1) ([(⟨#[48]⟩:ByteArray),(⟨#[32]⟩:ByteArray),(⟨#[64,49]⟩:ByteArray),(⟨#[32,48,120,112,48,61,48,64,50,57,45,51,48]⟩:ByteArray),(⟨#[45]⟩:ByteArray)]))).size≤1020)∧(p≤(((p+1)+1)+1)∧(((p+1)+1)+1)≤p+10) from ⟨(by (try simp only [ByteArray.size_append,ByteArray.size_extract]); first | omega | exact ob_2 (ofV_small (by decide)) (by omega) | exact ob_3 (ofV_small (by decide)) (by omega)),(by first | assumption | omega | rfl | (simp; done) | (simp; omega))⟩) [(0,998)] (.v (.string (s++(ofV l ((p+1)+1) ([(⟨#[48]⟩:ByteArray),(⟨#[32]⟩:ByteArray),(⟨#[64,49]⟩:ByteArray),(⟨#[32,48,120,112,48,61,48,64,50,57,45,51,48]⟩:ByteArray),(⟨#[45]⟩:ByteArray)]))))) (by kernel_rfl) (@cast ((((.string (s++(ofV l ((p+1)+1) ([(⟨#[48]⟩:ByteArray),(⟨#[32]⟩:ByteArray),(⟨#[64,49]⟩:ByteArray),(⟨#[32,48,120,112,48,61,48,64,50,57,45,51,48]⟩:ByteArray),(⟨#[45]⟩:ByteArray)])))):Value)=(.string (s++(ofV l ((p+1)+1) ([(⟨#[48]⟩:ByteArray),(⟨#[32]⟩:ByteArray),(⟨#[64,49]⟩:ByteArray),(⟨#[32,48,120,112,48,61,48,64,50,57,45,51,48]⟩:ByteArray),(⟨#[45]⟩:ByteArray)])))))∧((((55:Nat)=55)∧((Sd (.bytes l))∧(Si (((p+1)+1)+1))∧Y)∧((0:Nat) ∈ ([0] : List Nat)))∧Y)∧(true=true)∧((([] : List Nat)=[])∧Y)∧(true=true→(998:Nat)=998)) _ (by kernel_rfl) ⟨rfl,⟨⟨rfl,⟨rfl,rfl,tt⟩,(by decide)⟩,tt⟩,rfl,⟨rfl,tt⟩,(fun _=>rfl)⟩)
    ·intro n37
     refine W.skip (blockQ_normal (thenQ_normal ?_))
     refine kE tab20 hnt [(4,.v (.string s))] 20 [] tt ?_
     refine W.ret ?_
     exact endP_ret (s,((p+1)+1)) (show (s.size≤1020)∧(p≤((p+1)+1)∧((p+1)+1)≤p+10) from ⟨(by (try simp only [ByteArray.size_append,ByteArray.size_extract]); first | omega | exact ob_2 (ofV_small (by decide)) (by omega) | exact ob_3 (ofV_small (by decide)) (by omega)),(by first | assumption | omega | rfl | (simp; done) | (simp; omega))⟩) [(0,998)] (.v (.string s)) (by kernel_rfl) (@cast ((((.string s):Value)=(.string s))∧((((55:Nat)=55)∧((Sd (.bytes l))∧(Si ((p+1)+1))∧Y)∧((0:Nat) ∈ ([0] : List Nat)))∧Y)∧(true=true)∧((([] : List Nat)=[])∧Y)∧(true=true→(998:Nat)=998)) _ (by kernel_rfl) ⟨rfl,⟨⟨rfl,⟨rfl,rfl,tt⟩,(by decide)⟩,tt⟩,rfl,⟨rfl,tt⟩,(fun _=>rfl)⟩)
theorem ent20 : Entr prog 20 := ⟨_,func20,rfl,by decide⟩
end Go.Proofs.Tryz

set_option linter.unusedSimpArgs false
set_option linter.unusedVariables false
namespace Go.Proofs.Tryz
open Go.Ab Go.RowKit
def pre10 : List AV→List AV→Prop := preP [.bytes] [] (fun (code,_) _=>Y)
def rel10 : RelS := relP [.bytes] [] (ι := (List ByteArray)) (fun (code,_) _ xs=>(xs.length≤4∧∀ i,(xs.getD i default).size≤1100)) (fun (code,_) _ xs=>(.sl (.strs xs),[],[]))
abbrev T10 : Tab := lk [(17,fs17)]
theorem tab10 : TabOK prog T10 := (TabOK.cons ok17 ent17 TabOK.nil)
abbrev v100:AV:=.own 10 (List.length ([] : List ByteArray))
abbrev v101:AV:=.sl (.ints ([(3:Int),(4:Int),(2:Int),(0:Int)]))
abbrev v102 (n:Int):AV:=.b (decide ((0:Int)<n))
abbrev v103:AV:=.sl (.strs ([nRegister,nQueue,nStack,nCounter,nSet,nMost]))
abbrev v104:AV:=.sl (.strs ([(⟨#[108,105,110,101,97,114]⟩:ByteArray),(⟨#[111,119,110]⟩:ByteArray),(⟨#[113,117,105,101,116]⟩:ByteArray),(⟨#[108,105,110,101,97,114]⟩:ByteArray)]))
abbrev v105 (v23:ByteArray):AV:=.v (.string (v23++(⟨#[32]⟩:ByteArray)))
abbrev v106 (v23:ByteArray) (v20:ByteArray):AV:=.v (.string ((v23++(⟨#[32]⟩:ByteArray))++v20))
abbrev v107 (v23:ByteArray) (v20:ByteArray):AV:=.v (.string (((v23++(⟨#[32]⟩:ByteArray))++v20)++(⟨#[32]⟩:ByteArray)))
abbrev v108 (v23:ByteArray) (v20:ByteArray) (g30:List CallD):AV:=.v (.string ((((v23++(⟨#[32]⟩:ByteArray))++v20)++(⟨#[32]⟩:ByteArray))++(histB g30)))
abbrev v109:AV:=.sl (.strs ([nEmpty,(⟨#[104,101,108,112]⟩:ByteArray),(⟨#[108,105,110,101,97,114]⟩:ByteArray),(⟨#[111,119,110,32,114,101,103,105,115,116,101,114]⟩:ByteArray),(⟨#[108,105,110,101,97,114,32,116,114,101,101,32]⟩:ByteArray),(⟨#[113,117,105,101,116,32,113,117,101,117,101,32,120]⟩:ByteArray),(⟨#[119,105,100,116,104,32,97,108,108,32]⟩:ByteArray),(⟨#[119,105,100,116,104,32,120,32]⟩:ByteArray),(⟨#[119,97,108,107,32,97,108,108,32]⟩:ByteArray)]))
abbrev v1010 (g49:List CallD):AV:=.v (.string ((⟨#[119,105,100,116,104,32,97,108,108,32]⟩:ByteArray)++(histB g49)))
abbrev v1011 (o:List ByteArray) (g49:List CallD):AV:=.own 55 (List.length (o++([(⟨#[119,105,100,116,104,32,97,108,108,32]⟩:ByteArray)++(histB g49)])))
theorem rok10 : RelOK prog 10 none [.s .bytes] pre10 rel10 := by
 refine RelOK.mk cok func10 rfl rfl rfl ?_
 rintro ⟨(code : List UInt8),_⟩ _ hpre F hnt0
 have hnt : F.nt=57 := hnt0.trans ntmps10
 clear hpre
 refine W.to (⟨[(0,.sl (.bytes code))],[],[998,999]⟩) rfl ?_
 have hh9 := hist_le
 refine kE tab10 hnt [(0,.sl (.bytes code))] 2 [] tt ?_
 refine W.seq (W.wi ?_)
 refine WI.runT cok tab10 hnt [] 1 1 (⟨[(0,.sl (.bytes code)),(8,.sl (.bytes code))],[],[998,999]⟩)
  (Y∧Y) (by kernel_rfl) rfl
  ⟨tt,tt⟩ ?_
 refine WI.call [.sl (.bytes code)] [] [.sl (.bytes code)] [.sl (.bytes code)] none (Y) (Y∧Y) none rok14 ent14 hnt rfl rfl (wanted_none rfl) (by kernel_rfl) (by kernel_rfl) (by kernel_rfl) ⟨tt,tt,tt⟩
  (@cast (Y) _ (by kernel_rfl) trivial) (Or.inl rfl) rfl ?_
 rintro r bl fx2 hR
 obtain ⟨l9,hq9,rfl,rfl,rfl⟩ := (@cast _ (∃ x : (List UInt8),(Y)∧r=(.ptr 0 0)∧bl=([⟨55,.fix [.sl (.bytes x),.i (0:Int)]⟩])∧fx2=([])) (by kernel_rfl) hR)
 clear hR
 replace hq9 : Y := hq9
 refine ⟨by kernel_rfl,WI.to (⟨[(0,.sl (.bytes code)),(8,.sl (.bytes code)),(9,.ptr 9 0)],[(9,⟨55,.fix [.sl (.bytes l9),.i (0:Int)]⟩)],[9,998,999]⟩) 2 (by kernel_rfl) rfl ?_⟩
 refine WI.runT cok tab10 hnt [] 1 3 (⟨[(0,.sl (.bytes code)),(3,.ptr 9 0),(8,.sl (.bytes code)),(9,.ptr 9 0)],[(9,⟨55,.fix [.sl (.bytes l9),.i (0:Int)]⟩)],[9,998,999]⟩)
  (Y∧Y) (by kernel_rfl) rfl
  ⟨tt,tt⟩ ?_
 refine WI.nil rfl (thenQ_normal ?_)
 refine W.keepE [3] [(3,.ptr 9 0)] (by kernel_rfl) ?_
 refine W.to (⟨[(3,.ptr 9 0)],[(9,⟨55,.fix [.sl (.bytes l9),.i (0:Int)]⟩)],[9,998,999]⟩) rfl ?_
 refine kS tab10 hnt [(3,.ptr 9 0),(4,v100)] [(9,⟨55,.fix [.sl (.bytes l9),.i (0:Int)]⟩),(10,⟨9,.row (.strs ([] : List ByteArray))⟩)] [10,9,998,999] 20 [] tt ?_ [10]
 refine W.seq ?_
 refine W.seq (W.wi ?_)
 refine WI.runT cok tab10 hnt [] 2 2 (⟨[(3,.ptr 9 0),(4,v100),(11,.ptr 9 0),(12,v101)],[(9,⟨55,.fix [.sl (.bytes l9),.i (0:Int)]⟩),(10,⟨9,.row (.strs ([] : List ByteArray))⟩)],[12,10,9,998,999]⟩)
  (Y∧(Y∧Y∧Y∧Y∧Y)∧Y) (by kernel_rfl) rfl
  ⟨tt,⟨tt,tt,tt,tt,tt⟩,tt⟩ ?_
 refine WI.call [.ptr 9 0,v101] [.sl (.bytes l9),.i (0:Int)] [v101] [v101] (some (55,9)) (Y) (Y∧Y) none rok15 ent15 hnt rfl rfl (wanted_none rfl) (by kernel_rfl) (by kernel_rfl) (by kernel_rfl) ⟨tt,tt,tt⟩
  (@cast ((0≤(0:Int)∧(0:Int)≤1000000)∧(0<([(3:Int),(4:Int),(2:Int),(0:Int)]).length)∧(([(3:Int),(4:Int),(2:Int),(0:Int)]).length≤1000)) _ (by kernel_rfl) ⟨om,⟨(by (try simp only [List.length_append,List.length_cons,List.length_nil]); first | omega | (have h7 := hg30.1; omega) | (have h7 := hg49.1; omega)),(by (try simp only [List.length_append,List.length_cons,List.length_nil]); first | omega | (have h7 := hg30.1; omega) | (have h7 := hg49.1; omega))⟩⟩) (Or.inl rfl) rfl ?_
 rintro r bl fx2 hR
 obtain ⟨⟨v13,q13⟩,hq13,rfl,rfl,rfl⟩ := (@cast _ (∃ x : Int × Int,((x.1 ∈ ([(3:Int),(4:Int),(2:Int),(0:Int)]))∧(x.2=(0:Int)+1))∧r=(.i x.1)∧bl=([])∧fx2=([.sl (.bytes l9),.i x.2])) (by kernel_rfl) hR)
 clear hR
 replace hq13 : (v13 ∈ ([(3:Int),(4:Int),(2:Int),(0:Int)]))∧(q13=(0:Int)+1) := hq13
 obtain ⟨hv13,hq113⟩ := hq13
 simp only [List.mem_cons,List.not_mem_nil,or_false] at hv13
 refine ⟨by kernel_rfl,WI.to (⟨[(3,.ptr 9 0),(4,v100),(11,.ptr 9 0),(12,v101),(13,.i v13)],[(9,⟨55,.fix [.sl (.bytes l9),.i q13]⟩),(10,⟨9,.row (.strs ([] : List ByteArray))⟩)],[13,12,10,9,998,999]⟩) 3 (by kernel_rfl) rfl ?_⟩
 refine WI.runT cok tab10 hnt [] 1 4 (⟨[(3,.ptr 9 0),(4,v100),(5,.i v13),(11,.ptr 9 0),(12,v101),(13,.i v13)],[(9,⟨55,.fix [.sl (.bytes l9),.i q13]⟩),(10,⟨9,.row (.strs ([] : List ByteArray))⟩)],[13,12,10,9,998,999]⟩)
  (Y∧Y) (by kernel_rfl) rfl
  ⟨tt,tt⟩ ?_
 refine WI.nil rfl (thenQ_normal ?_)
 refine W.keepE [3,4,5] [(3,.ptr 9 0),(4,.own 10 (List.length ([] : List ByteArray))),(5,.i v13)] (by kernel_rfl) ?_
 refine W.to (⟨[(3,.ptr 9 0),(4,v100),(5,.i v13)],[(9,⟨55,.fix [.sl (.bytes l9),.i q13]⟩),(10,⟨9,.row (.strs ([] : List ByteArray))⟩)],[13,12,10,9,998,999]⟩) rfl ?_
 refine W.block ?_
 refine W.loop (ι := Int × (List ByteArray) × Int) (fun (x : Int × (List ByteArray) × Int)=>match x with | (n,o,q)=>(⟨[(3,.ptr 9 0),(4,.own 10 o.length),(5,.i n)],[(9,⟨55,.fix [.sl (.bytes l9),.i q]⟩),(10,⟨9,.row (.strs o)⟩)],[9,10,998,999]⟩:St))
  (fun (x : Int × (List ByteArray) × Int)=>match x with | (n,o,q)=>(0≤n∧(o.length:Int)+n≤4)∧(∀ i,(o.getD i default).size≤1100)∧(0≤q∧q≤1+4000 * (4 - n)))
  (fun (x : Int × (List ByteArray) × Int)=>match x with | (n,o,q)=>(n.toNat:Nat)) (v13,([] : List ByteArray),q13) ?_ ?_ ?_
 ·exact ⟨(by simp; omega),(by intro i; rw [List.getD_nil]; decide),(by omega)⟩
 ·exact Sk
 ·rintro ⟨n,o,q⟩ hC0
  obtain ⟨hn,hos,hq⟩ := hC0
  refine W.seq ?_
  refine kE tab10 hnt [(3,.ptr 9 0),(4,.own 10 o.length),(5,.i n),(15,(v102 n))] 560 [] tt ?_
  refine ifp ((0:Int)<n) ?_ ?_
  ·intro h15
   refine W.skip (thenQ_normal ?_)
   refine W.seq ?_
   refine W.block ?_
   refine W.seq (W.wi ?_)
   refine WI.runT cok tab10 hnt [] 2 2 (⟨[(3,.ptr 9 0),(4,.own 10 o.length),(5,.i n),(15,(v102 n)),(18,.ptr 9 0),(19,v103)],[(9,⟨55,.fix [.sl (.bytes l9),.i q]⟩),(10,⟨9,.row (.strs o)⟩)],[19,9,10,998,999]⟩)
    (Y∧(Y∧Y∧Y∧Y∧Y∧Y∧Y)∧Y) (by kernel_rfl) rfl
    ⟨tt,⟨tt,tt,tt,tt,tt,tt,tt⟩,tt⟩ ?_
   refine WI.call [.ptr 9 0,v103] [.sl (.bytes l9),.i q] [v103] [v103] (some (55,9)) (Y) (Y∧Y) none rok16 ent16 hnt rfl rfl (wanted_none rfl) (by kernel_rfl) (by kernel_rfl) (by kernel_rfl) ⟨tt,tt,tt⟩
    (@cast ((0≤q∧q≤1000000)∧(0<([nRegister,nQueue,nStack,nCounter,nSet,nMost]).length)∧(([nRegister,nQueue,nStack,nCounter,nSet,nMost]).length≤1000)) _ (by kernel_rfl) ⟨om,⟨(by (try simp only [List.length_append,List.length_cons,List.length_nil]); first | omega | (have h7 := hg30.1; omega) | (have h7 := hg49.1; omega)),(by (try simp only [List.length_append,List.length_cons,List.length_nil]); first | omega | (have h7 := hg30.1; omega) | (have h7 := hg49.1; omega))⟩⟩) (Or.inl rfl) rfl ?_
   rintro r bl fx2 hR
   obtain ⟨⟨v20,q20⟩,hq20,rfl,rfl,rfl⟩ := (@cast _ (∃ x : ByteArray × Int,((x.1 ∈ ([nRegister,nQueue,nStack,nCounter,nSet,nMost]))∧(x.2=q+1))∧r=(.v (.string x.1))∧bl=([])∧fx2=([.sl (.bytes l9),.i x.2])) (by kernel_rfl) hR)
   clear hR
   replace hq20 : (v20 ∈ ([nRegister,nQueue,nStack,nCounter,nSet,nMost]))∧(q20=q+1) := hq20
   obtain ⟨hv20,hq120⟩ := hq20
   simp only [List.mem_cons,List.not_mem_nil,or_false] at hv20
   refine ⟨by kernel_rfl,WI.to (⟨[(3,.ptr 9 0),(4,.own 10 o.length),(5,.i n),(15,(v102 n)),(18,.ptr 9 0),(19,v103),(20,.v (.string v20))],[(9,⟨55,.fix [.sl (.bytes l9),.i q20]⟩),(10,⟨9,.row (.strs o)⟩)],[20,19,9,10,998,999]⟩) 3 (by kernel_rfl) rfl ?_⟩
   refine WI.runT cok tab10 hnt [] 1 4 (⟨[(3,.ptr 9 0),(4,.own 10 o.length),(5,.i n),(6,.v (.string v20)),(15,(v102 n)),(18,.ptr 9 0),(19,v103),(20,.v (.string v20))],[(9,⟨55,.fix [.sl (.bytes l9),.i q20]⟩),(10,⟨9,.row (.strs o)⟩)],[20,19,9,10,998,999]⟩)
    (Y∧Y) (by kernel_rfl) rfl
    ⟨tt,tt⟩ ?_
   refine WI.nil rfl (thenQ_normal ?_)
   refine W.keepE [3,4,5,6] [(3,.ptr 9 0),(4,.own 10 o.length),(5,.i n),(6,.v (.string v20))] (by kernel_rfl) ?_
   refine W.to (⟨[(3,.ptr 9 0),(4,.own 10 o.length),(5,.i n),(6,.v (.string v20))],[(9,⟨55,.fix [.sl (.bytes l9),.i q20]⟩),(10,⟨9,.row (.strs o)⟩)],[20,19,9,10,998,999]⟩) rfl ?_
   have s20 : v20.size≤8 := (by rcases hv20 with h | h | h | h | h | h <;> (rw [h]; decide))
   refine W.seq (W.wi ?_)
   refine WI.runT cok tab10 hnt [] 2 2 (⟨[(3,.ptr 9 0),(4,.own 10 o.length),(5,.i n),(6,.v (.string v20)),(21,.ptr 9 0),(22,v104)],[(9,⟨55,.fix [.sl (.bytes l9),.i q20]⟩),(10,⟨9,.row (.strs o)⟩)],[22,20,19,9,10,998,999]⟩)
    (Y∧(Y∧Y∧Y∧Y∧Y)∧Y) (by kernel_rfl) rfl
    ⟨tt,⟨tt,tt,tt,tt,tt⟩,tt⟩ ?_
   refine WI.call [.ptr 9 0,v104] [.sl (.bytes l9),.i q20] [v104] [v104] (some (55,9)) (Y) (Y∧Y) none rok16 ent16 hnt rfl rfl (wanted_none rfl) (by kernel_rfl) (by kernel_rfl) (by kernel_rfl) ⟨tt,tt,tt⟩
    (@cast ((0≤q20∧q20≤1000000)∧(0<([(⟨#[108,105,110,101,97,114]⟩:ByteArray),(⟨#[111,119,110]⟩:ByteArray),(⟨#[113,117,105,101,116]⟩:ByteArray),(⟨#[108,105,110,101,97,114]⟩:ByteArray)]).length)∧(([(⟨#[108,105,110,101,97,114]⟩:ByteArray),(⟨#[111,119,110]⟩:ByteArray),(⟨#[113,117,105,101,116]⟩:ByteArray),(⟨#[108,105,110,101,97,114]⟩:ByteArray)]).length≤1000)) _ (by kernel_rfl) ⟨om,⟨(by (try simp only [List.length_append,List.length_cons,List.length_nil]); first | omega | (have h7 := hg30.1; omega) | (have h7 := hg49.1; omega)),(by (try simp only [List.length_append,List.length_cons,List.length_nil]); first | omega | (have h7 := hg30.1; omega) | (have h7 := hg49.1; omega))⟩⟩) (Or.inl rfl) rfl ?_
   rintro r bl fx2 hR
   obtain ⟨⟨v23,q23⟩,hq23,rfl,rfl,rfl⟩ := (@cast _ (∃ x : ByteArray × Int,((x.1 ∈ ([(⟨#[108,105,110,101,97,114]⟩:ByteArray),(⟨#[111,119,110]⟩:ByteArray),(⟨#[113,117,105,101,116]⟩:ByteArray),(⟨#[108,105,110,101,97,114]⟩:ByteArray)]))∧(x.2=q20+1))∧r=(.v (.string x.1))∧bl=([])∧fx2=([.sl (.bytes l9),.i x.2])) (by kernel_rfl) hR)
   clear hR
   replace hq23 : (v23 ∈ ([(⟨#[108,105,110,101,97,114]⟩:ByteArray),(⟨#[111,119,110]⟩:ByteArray),(⟨#[113,117,105,101,116]⟩:ByteArray),(⟨#[108,105,110,101,97,114]⟩:ByteArray)]))∧(q23=q20+1) := hq23
   obtain ⟨hv23,hq123⟩ := hq23
   simp only [List.mem_cons,List.not_mem_nil,or_false] at hv23
   refine ⟨by kernel_rfl,WI.to (⟨[(3,.ptr 9 0),(4,.own 10 o.length),(5,.i n),(6,.v (.string v20)),(21,.ptr 9 0),(22,v104),(23,.v (.string v23))],[(9,⟨55,.fix [.sl (.bytes l9),.i q23]⟩),(10,⟨9,.row (.strs o)⟩)],[23,22,20,19,9,10,998,999]⟩) 3 (by kernel_rfl) rfl ?_⟩
   refine WI.runT cok tab10 hnt [] 6 9 (⟨[(3,.ptr 9 0),(4,.own 10 o.length),(5,.i n),(6,.v (.string v20)),(21,.ptr 9 0),(22,v104),(23,.v (.string v23)),(24,(v105 v23)),(25,.v (.string v20)),(26,(v106 v23 v20)),(27,(v107 v23 v20)),(28,.ptr 9 0),(29,.v (.string v20))],[(9,⟨55,.fix [.sl (.bytes l9),.i q23]⟩),(10,⟨9,.row (.strs o)⟩)],[23,22,20,19,9,10,998,999]⟩)
    ((Y∧Y∧(v23.size+(⟨#[32]⟩:ByteArray).size≤9223372036854775807))∧Y∧(Y∧Y∧((v23++(⟨#[32]⟩:ByteArray)).size+v20.size≤9223372036854775807))∧(Y∧Y∧(((v23++(⟨#[32]⟩:ByteArray))++v20).size+(⟨#[32]⟩:ByteArray).size≤9223372036854775807))∧Y∧Y∧Y) (by kernel_rfl) rfl
    ⟨⟨tt,tt,(by (try have s23 : v23.size≤6 := (by rcases hv23 with h | h | h | h <;> (rw [h]; decide))); (try have s39 : v39.size≤15 := (by rcases hv39 with h | h | h | h | h | h | h | h | h <;> (rw [h]; decide))); (try have s30 := hh9 g30); (try have s49 := hh9 g49); (try simp only [ByteArray.size_append,sz1,sz10]); omega)⟩,tt,⟨tt,tt,(by (try have s23 : v23.size≤6 := (by rcases hv23 with h | h | h | h <;> (rw [h]; decide))); (try have s39 : v39.size≤15 := (by rcases hv39 with h | h | h | h | h | h | h | h | h <;> (rw [h]; decide))); (try have s30 := hh9 g30); (try have s49 := hh9 g49); (try simp only [ByteArray.size_append,sz1,sz10]); omega)⟩,⟨tt,tt,(by (try have s23 : v23.size≤6 := (by rcases hv23 with h | h | h | h <;> (rw [h]; decide))); (try have s39 : v39.size≤15 := (by rcases hv39 with h | h | h | h | h | h | h | h | h <;> (rw [h]; decide))); (try have s30 := hh9 g30); (try have s49 := hh9 g49); (try simp only [ByteArray.size_append,sz1,sz10]); omega)⟩,tt,tt,tt⟩ ?_
   refine WI.call [.ptr 9 0,.v (.string v20)] [.sl (.bytes l9),.i q23] [.v (.string v20)] [.v (.string v20)] (some (55,9)) (Y) (Y∧Y) none rok18 ent18 hnt rfl rfl (wanted_none rfl) (by kernel_rfl) (by kernel_rfl) (by kernel_rfl) ⟨tt,tt,tt⟩
    (@cast (0≤q23∧q23≤800000) _ (by kernel_rfl) om) (Or.inl rfl) rfl ?_
   rintro r bl fx2 hR
   obtain ⟨⟨g30,q30⟩,hq30,rfl,rfl,rfl⟩ := (@cast _ (∃ x : (List CallD) × Int,((GoodH x.1)∧(q23≤x.2∧x.2≤q23+1200))∧r=(.own 1 (List.length x.1))∧bl=([⟨59,.row (.calls x.1)⟩])∧fx2=([.sl (.bytes l9),.i x.2])) (by kernel_rfl) hR)
   clear hR
   replace hq30 : (GoodH g30)∧(q23≤q30∧q30≤q23+1200) := hq30
   obtain ⟨hg30,hq130⟩ := hq30
   refine ⟨by kernel_rfl,WI.to (⟨[(3,.ptr 9 0),(4,.own 10 o.length),(5,.i n),(6,.v (.string v20)),(21,.ptr 9 0),(22,v104),(23,.v (.string v23)),(24,(v105 v23)),(25,.v (.string v20)),(26,(v106 v23 v20)),(27,(v107 v23 v20)),(28,.ptr 9 0),(29,.v (.string v20)),(30,.own 1030 g30.length)],[(9,⟨55,.fix [.sl (.bytes l9),.i q30]⟩),(10,⟨9,.row (.strs o)⟩),(1030,⟨59,.row (.calls g30)⟩)],[1030,30,23,22,20,19,9,10,998,999]⟩) 10 (by kernel_rfl) rfl ?_⟩
   refine WI.runT cok tab10 hnt [] 3 13 (⟨[(3,.ptr 9 0),(4,.own 10 o.length),(5,.i n),(6,.v (.string v20)),(7,(v108 v23 v20 g30)),(21,.ptr 9 0),(22,v104),(23,.v (.string v23)),(24,(v105 v23)),(25,.v (.string v20)),(26,(v106 v23 v20)),(27,(v107 v23 v20)),(28,.ptr 9 0),(29,.v (.string v20)),(30,.own 1030 g30.length),(31,.v (.string (histB g30))),(32,(v108 v23 v20 g30))],[(9,⟨55,.fix [.sl (.bytes l9),.i q30]⟩),(10,⟨9,.row (.strs o)⟩),(1030,⟨59,.row (.calls g30)⟩)],[1030,30,23,22,20,19,9,10,998,999]⟩)
    ((Y∧((Y∧(g30.length=g30.length))∧Y)∧Y)∧(Y∧Y∧((((v23++(⟨#[32]⟩:ByteArray))++v20)++(⟨#[32]⟩:ByteArray)).size+(histB g30).size≤9223372036854775807))∧Y∧Y) (by kernel_rfl) rfl
    ⟨⟨tt,⟨⟨tt,rfl⟩,tt⟩,tt⟩,⟨tt,tt,(by (try have s23 : v23.size≤6 := (by rcases hv23 with h | h | h | h <;> (rw [h]; decide))); (try have s39 : v39.size≤15 := (by rcases hv39 with h | h | h | h | h | h | h | h | h <;> (rw [h]; decide))); (try have s30 := hh9 g30); (try have s49 := hh9 g49); (try simp only [ByteArray.size_append,sz1,sz10]); omega)⟩,tt,tt⟩ ?_
   refine WI.nil rfl (thenQ_normal ?_)
   refine W.keepE [3,4,5,6,7] [(3,.ptr 9 0),(4,.own 10 o.length),(5,.i n),(6,.v (.string v20)),(7,.v (.string ((((v23++(⟨#[32]⟩:ByteArray))++v20)++(⟨#[32]⟩:ByteArray))++(histB g30))))] (by kernel_rfl) ?_
   refine W.to (⟨[(3,.ptr 9 0),(4,.own 10 o.length),(5,.i n),(6,.v (.string v20)),(7,(v108 v23 v20 g30))],[(9,⟨55,.fix [.sl (.bytes l9),.i q30]⟩),(10,⟨9,.row (.strs o)⟩),(1030,⟨59,.row (.calls g30)⟩)],[1030,30,23,22,20,19,9,10,998,999]⟩) rfl ?_
   refine W.seq ?_
   have s23 : v23.size≤6 := (by rcases hv23 with h | h | h | h <;> (rw [h]; decide))
   have s30 := hh9 g30
   refine W.seq (W.wi ?_)
   refine WI.runT cok tab10 hnt [] 1 1 (⟨[(3,.ptr 9 0),(4,.own 10 o.length),(5,.i n),(6,.v (.string v20)),(7,(v108 v23 v20 g30)),(33,.ptr 9 0)],[(9,⟨55,.fix [.sl (.bytes l9),.i q30]⟩),(10,⟨9,.row (.strs o)⟩),(1030,⟨59,.row (.calls g30)⟩)],[1030,30,23,22,20,19,9,10,998,999]⟩)
    (Y∧Y) (by kernel_rfl) rfl
    ⟨tt,tt⟩ ?_
   refine WI.call [.ptr 9 0,.i (10:Int)] [.sl (.bytes l9),.i q30] [.i (10:Int)] [.i (10:Int)] (some (55,9)) (Y) (Y∧Y) none rok19 ent19 hnt rfl rfl (wanted_none rfl) (by kernel_rfl) (by kernel_rfl) (by kernel_rfl) ⟨tt,tt,tt⟩
    (@cast (0≤q30∧q30≤1000000) _ (by kernel_rfl) om) (Or.inl rfl) rfl ?_
   rintro r bl fx2 hR
   obtain ⟨⟨v34,q34⟩,hq34,rfl,rfl,rfl⟩ := (@cast _ (∃ x : Int × Int,((0≤x.1∧x.1<max (10:Int) 1)∧(x.2=q30+1))∧r=(.i x.1)∧bl=([])∧fx2=([.sl (.bytes l9),.i x.2])) (by kernel_rfl) hR)
   clear hR
   replace hq34 : (0≤v34∧v34<max (10:Int) 1)∧(q34=q30+1) := hq34
   obtain ⟨hv34,hq134⟩ := hq34
   refine ⟨by kernel_rfl,WI.to (⟨[(3,.ptr 9 0),(4,.own 10 o.length),(5,.i n),(6,.v (.string v20)),(7,(v108 v23 v20 g30)),(33,.ptr 9 0),(34,.i v34)],[(9,⟨55,.fix [.sl (.bytes l9),.i q34]⟩),(10,⟨9,.row (.strs o)⟩),(1030,⟨59,.row (.calls g30)⟩)],[34,1030,30,23,22,20,19,9,10,998,999]⟩) 2 (by kernel_rfl) rfl ?_⟩
   refine WI.nil rfl (thenQ_normal ?_)
   refine W.keepE [3,4,5,6,7,34] [(3,.ptr 9 0),(4,.own 10 o.length),(5,.i n),(6,.v (.string v20)),(7,.v (.string ((((v23++(⟨#[32]⟩:ByteArray))++v20)++(⟨#[32]⟩:ByteArray))++(histB g30)))),(34,.i v34)] (by kernel_rfl) ?_
   refine W.to (⟨[(3,.ptr 9 0),(4,.own 10 o.length),(5,.i n),(6,.v (.string v20)),(7,(v108 v23 v20 g30)),(34,.i v34)],[(9,⟨55,.fix [.sl (.bytes l9),.i q34]⟩),(10,⟨9,.row (.strs o)⟩),(1030,⟨59,.row (.calls g30)⟩)],[34,1030,30,23,22,20,19,9,10,998,999]⟩) rfl ?_
   refine W.block ?_
   refine kE tab10 hnt [(3,.ptr 9 0),(4,.own 10 o.length),(5,.i n),(6,.v (.string v20)),(7,(v108 v23 v20 g30)),(34,.i v34),(35,.b (decide (v34=(0:Int))))] 1520 [] tt ?_
   refine ifp (v34=(0:Int)) ?_ ?_
   ·intro h35
    refine W.wi ?_
    refine WI.runT cok tab10 hnt [] 2 2 (⟨[(3,.ptr 9 0),(4,.own 10 o.length),(5,.i n),(6,.v (.string v20)),(7,(v108 v23 v20 g30)),(34,.i v34),(35,.b (decide (v34=(0:Int)))),(37,.ptr 9 0),(38,v109)],[(9,⟨55,.fix [.sl (.bytes l9),.i q34]⟩),(10,⟨9,.row (.strs o)⟩),(1030,⟨59,.row (.calls g30)⟩)],[38,34,1030,30,23,22,20,19,9,10,998,999]⟩)
     (Y∧(Y∧Y∧Y∧Y∧Y∧Y∧Y∧Y∧Y∧Y)∧Y) (by kernel_rfl) rfl
     ⟨tt,⟨tt,tt,tt,tt,tt,tt,tt,tt,tt,tt⟩,tt⟩ ?_
    refine WI.call [.ptr 9 0,v109] [.sl (.bytes l9),.i q34] [v109] [v109] (some (55,9)) (Y) (Y∧Y) none rok16 ent16 hnt rfl rfl (wanted_none rfl) (by kernel_rfl) (by kernel_rfl) (by kernel_rfl) ⟨tt,tt,tt⟩
     (@cast ((0≤q34∧q34≤1000000)∧(0<([nEmpty,(⟨#[104,101,108,112]⟩:ByteArray),(⟨#[108,105,110,101,97,114]⟩:ByteArray),(⟨#[111,119,110,32,114,101,103,105,115,116,101,114]⟩:ByteArray),(⟨#[108,105,110,101,97,114,32,116,114,101,101,32]⟩:ByteArray),(⟨#[113,117,105,101,116,32,113,117,101,117,101,32,120]⟩:ByteArray),(⟨#[119,105,100,116,104,32,97,108,108,32]⟩:ByteArray),(⟨#[119,105,100,116,104,32,120,32]⟩:ByteArray),(⟨#[119,97,108,107,32,97,108,108,32]⟩:ByteArray)]).length)∧(([nEmpty,(⟨#[104,101,108,112]⟩:ByteArray),(⟨#[108,105,110,101,97,114]⟩:ByteArray),(⟨#[111,119,110,32,114,101,103,105,115,116,101,114]⟩:ByteArray),(⟨#[108,105,110,101,97,114,32,116,114,101,101,32]⟩:ByteArray),(⟨#[113,117,105,101,116,32,113,117,101,117,101,32,120]⟩:ByteArray),(⟨#[119,105,100,116,104,32,97,108,108,32]⟩:ByteArray),(⟨#[119,105,100,116,104,32,120,32]⟩:ByteArray),(⟨#[119,97,108,107,32,97,108,108,32]⟩:ByteArray)]).length≤1000)) _ (by kernel_rfl) ⟨om,⟨(by (try simp only [List.length_append,List.length_cons,List.length_nil]); first | omega | (have h7 := hg30.1; omega) | (have h7 := hg49.1; omega)),(by (try simp only [List.length_append,List.length_cons,List.length_nil]); first | omega | (have h7 := hg30.1; omega) | (have h7 := hg49.1; omega))⟩⟩) (Or.inl rfl) rfl ?_
    rintro r bl fx2 hR
    obtain ⟨⟨v39,q39⟩,hq39,rfl,rfl,rfl⟩ := (@cast _ (∃ x : ByteArray × Int,((x.1 ∈ ([nEmpty,(⟨#[104,101,108,112]⟩:ByteArray),(⟨#[108,105,110,101,97,114]⟩:ByteArray),(⟨#[111,119,110,32,114,101,103,105,115,116,101,114]⟩:ByteArray),(⟨#[108,105,110,101,97,114,32,116,114,101,101,32]⟩:ByteArray),(⟨#[113,117,105,101,116,32,113,117,101,117,101,32,120]⟩:ByteArray),(⟨#[119,105,100,116,104,32,97,108,108,32]⟩:ByteArray),(⟨#[119,105,100,116,104,32,120,32]⟩:ByteArray),(⟨#[119,97,108,107,32,97,108,108,32]⟩:ByteArray)]))∧(x.2=q34+1))∧r=(.v (.string x.1))∧bl=([])∧fx2=([.sl (.bytes l9),.i x.2])) (by kernel_rfl) hR)
    clear hR
    replace hq39 : (v39 ∈ ([nEmpty,(⟨#[104,101,108,112]⟩:ByteArray),(⟨#[108,105,110,101,97,114]⟩:ByteArray),(⟨#[111,119,110,32,114,101,103,105,115,116,101,114]⟩:ByteArray),(⟨#[108,105,110,101,97,114,32,116,114,101,101,32]⟩:ByteArray),(⟨#[113,117,105,101,116,32,113,117,101,117,101,32,120]⟩:ByteArray),(⟨#[119,105,100,116,104,32,97,108,108,32]⟩:ByteArray),(⟨#[119,105,100,116,104,32,120,32]⟩:ByteArray),(⟨#[119,97,108,107,32,97,108,108,32]⟩:ByteArray)]))∧(q39=q34+1) := hq39
    obtain ⟨hv39,hq139⟩ := hq39
    simp only [List.mem_cons,List.not_mem_nil,or_false] at hv39
    refine ⟨by kernel_rfl,WI.to (⟨[(3,.ptr 9 0),(4,.own 10 o.length),(5,.i n),(6,.v (.string v20)),(7,(v108 v23 v20 g30)),(34,.i v34),(35,.b (decide (v34=(0:Int)))),(37,.ptr 9 0),(38,v109),(39,.v (.string v39))],[(9,⟨55,.fix [.sl (.bytes l9),.i q39]⟩),(10,⟨9,.row (.strs o)⟩),(1030,⟨59,.row (.calls g30)⟩)],[39,38,34,1030,30,23,22,20,19,9,10,998,999]⟩) 3 (by kernel_rfl) rfl ?_⟩
    refine WI.runT cok tab10 hnt [] 1 4 (⟨[(3,.ptr 9 0),(4,.own 10 o.length),(5,.i n),(6,.v (.string v20)),(7,.v (.string v39)),(34,.i v34),(35,.b (decide (v34=(0:Int)))),(37,.ptr 9 0),(38,v109),(39,.v (.string v39))],[(9,⟨55,.fix [.sl (.bytes l9),.i q39]⟩),(10,⟨9,.row (.strs o)⟩),(1030,⟨59,.row (.calls g30)⟩)],[39,38,34,1030,30,23,22,20,19,9,10,998,999]⟩)
     (Y∧Y) (by kernel_rfl) rfl
     ⟨tt,tt⟩ ?_
    refine WI.nil rfl ?_
    refine blockQ_normal (thenQ_normal ?_)
    refine lS tab10 hnt [(3,.ptr 9 0),(4,.own 55 (List.length (o++([v39])))),(5,.i n)] [(9,⟨55,.fix [.sl (.bytes l9),.i q39]⟩),(55,⟨9,.row (.strs (o++([v39])))⟩),(1030,⟨59,.row (.calls g30)⟩)] [55,54,39,38,34,1030,30,23,22,20,19,9,10,998,999] 104333690 [o.length=o.length,(o.length+(List.length ([v39]))) * 16≤140737488355328] ⟨rfl,(by (try simp only [List.length_append,List.length_cons,List.length_nil]); first | omega | (have h7 := hg30.1; omega) | (have h7 := hg49.1; omega))⟩ ?_ [55]
    refine blockQ_normal (thenQ_normal ?_)
    refine lE tab10 hnt [(3,.ptr 9 0),(4,.own 55 (List.length (o++([v39])))),(5,.i (n - (1:Int)))] 15869 [Fits .i64 (n - (1:Int))] (by exact fits_i64 (by omega) (by omega)) ?_
    refine thenQ_normal ?_
    refine ⟨((n - (1:Int)),(o++([v39])),q39),⟨(by simp; omega),(by exact snoc_small hos (by (try have s23 : v23.size≤6 := (by rcases hv23 with h | h | h | h <;> (rw [h]; decide))); (try have s39 : v39.size≤15 := (by rcases hv39 with h | h | h | h | h | h | h | h | h <;> (rw [h]; decide))); (try have s30 := hh9 g30); (try have s49 := hh9 g49); (try simp only [ByteArray.size_append,sz1,sz10]); omega)),(by omega)⟩,(show (n - (1:Int)).toNat<n.toNat from o2),?_⟩
    exact Sub.of [(10,55)] (@cast (((((9:Nat)=9)∧((0:Nat)=0)∧((9:Nat) ∈ ([9,10,998,999] : List Nat)))∧(((55:Nat)=55)∧((List.length (o++([v39])))=(List.length (o++([v39]))))∧((10:Nat) ∈ ([9,10,998,999] : List Nat)))∧(Si (n - (1:Int)))∧Y)∧((((55:Nat)=55)∧((Sd (.bytes l9))∧(Si q39)∧Y)∧((9:Nat) ∈ ([9,10,998,999] : List Nat)))∧(((9:Nat)=9)∧(Sd (.strs (o++([v39]))))∧((10:Nat) ∈ ([9,10,998,999] : List Nat)))∧Y)∧(true=true)∧(true=true)) _ (by kernel_rfl) ⟨⟨⟨rfl,rfl,(by decide)⟩,⟨rfl,rfl,(by decide)⟩,rfl,tt⟩,⟨⟨rfl,⟨rfl,rfl,tt⟩,(by decide)⟩,⟨rfl,rfl,(by decide)⟩,tt⟩,rfl,rfl⟩)
   ·intro n35
    refine kE tab10 hnt [(3,.ptr 9 0),(4,.own 10 o.length),(5,.i n),(6,.v (.string v20)),(7,(v108 v23 v20 g30)),(34,.i v34),(40,.b (decide (v34=(1:Int))))] 1520 [] tt ?_
    refine ifp (v34=(1:Int)) ?_ ?_
    ·intro h40
     refine W.wi ?_
     refine WI.runT cok tab10 hnt [] 2 2 (⟨[(3,.ptr 9 0),(4,.own 10 o.length),(5,.i n),(6,.v (.string v20)),(7,(v108 v23 v20 g30)),(34,.i v34),(40,.b (decide (v34=(1:Int)))),(42,.ptr 9 0),(43,(v108 v23 v20 g30))],[(9,⟨55,.fix [.sl (.bytes l9),.i q34]⟩),(10,⟨9,.row (.strs o)⟩),(1030,⟨59,.row (.calls g30)⟩)],[34,1030,30,23,22,20,19,9,10,998,999]⟩)
      (Y∧Y∧Y) (by kernel_rfl) rfl
      ⟨tt,tt,tt⟩ ?_
     refine WI.call [.ptr 9 0,(v108 v23 v20 g30)] [.sl (.bytes l9),.i q34] [(v108 v23 v20 g30)] [(v108 v23 v20 g30)] (some (55,9)) (Y) (Y∧Y) none rok20 ent20 hnt rfl rfl (wanted_none rfl) (by kernel_rfl) (by kernel_rfl) (by kernel_rfl) ⟨tt,tt,tt⟩
      (@cast ((0≤q34∧q34≤900000)∧(((((v23++(⟨#[32]⟩:ByteArray))++v20)++(⟨#[32]⟩:ByteArray))++(histB g30)).size≤1000)) _ (by kernel_rfl) ⟨om,(by (try have s23 : v23.size≤6 := (by rcases hv23 with h | h | h | h <;> (rw [h]; decide))); (try have s39 : v39.size≤15 := (by rcases hv39 with h | h | h | h | h | h | h | h | h <;> (rw [h]; decide))); (try have s30 := hh9 g30); (try have s49 := hh9 g49); (try simp only [ByteArray.size_append,sz1,sz10]); omega)⟩) (Or.inl rfl) rfl ?_
     rintro r bl fx2 hR
     obtain ⟨⟨g44,q44⟩,hq44,rfl,rfl,rfl⟩ := (@cast _ (∃ x : ByteArray × Int,((x.1.size≤1020)∧(q34≤x.2∧x.2≤q34+10))∧r=(.v (.string x.1))∧bl=([])∧fx2=([.sl (.bytes l9),.i x.2])) (by kernel_rfl) hR)
     clear hR
     replace hq44 : (g44.size≤1020)∧(q34≤q44∧q44≤q34+10) := hq44
     obtain ⟨hg44,hq144⟩ := hq44
     refine ⟨by kernel_rfl,WI.to (⟨[(3,.ptr 9 0),(4,.own 10 o.length),(5,.i n),(6,.v (.string v20)),(7,(v108 v23 v20 g30)),(34,.i v34),(40,.b (decide (v34=(1:Int)))),(42,.ptr 9 0),(43,(v108 v23 v20 g30)),(44,.v (.string g44))],[(9,⟨55,.fix [.sl (.bytes l9),.i q44]⟩),(10,⟨9,.row (.strs o)⟩),(1030,⟨59,.row (.calls g30)⟩)],[44,34,1030,30,23,22,20,19,9,10,998,999]⟩) 3 (by kernel_rfl) rfl ?_⟩
     refine WI.runT cok tab10 hnt [] 1 4 (⟨[(3,.ptr 9 0),(4,.own 10 o.length),(5,.i n),(6,.v (.string v20)),(7,.v (.string g44)),(34,.i v34),(40,.b (decide (v34=(1:Int)))),(42,.ptr 9 0),(43,(v108 v23 v20 g30)),(44,.v (.string g44))],[(9,⟨55,.fix [.sl (.bytes l9),.i q44]⟩),(10,⟨9,.row (.strs o)⟩),(1030,⟨59,.row (.calls g30)⟩)],[44,34,1030,30,23,22,20,19,9,10,998,999]⟩)
      (Y∧Y) (by kernel_rfl) rfl
      ⟨tt,tt⟩ ?_
     refine WI.nil rfl ?_
     refine blockQ_normal (thenQ_normal ?_)
     refine lS tab10 hnt [(3,.ptr 9 0),(4,.own 55 (List.length (o++([g44])))),(5,.i n)] [(9,⟨55,.fix [.sl (.bytes l9),.i q44]⟩),(55,⟨9,.row (.strs (o++([g44])))⟩),(1030,⟨59,.row (.calls g30)⟩)] [55,54,44,34,1030,30,23,22,20,19,9,10,998,999] 104333690 [o.length=o.length,(o.length+(List.length ([g44]))) * 16≤140737488355328] ⟨rfl,(by (try simp only [List.length_append,List.length_cons,List.length_nil]); first | omega | (have h7 := hg30.1; omega) | (have h7 := hg49.1; omega))⟩ ?_ [55]
     refine blockQ_normal (thenQ_normal ?_)
     refine lE tab10 hnt [(3,.ptr 9 0),(4,.own 55 (List.length (o++([g44])))),(5,.i (n - (1:Int)))] 15869 [Fits .i64 (n - (1:Int))] (by exact fits_i64 (by omega) (by omega)) ?_
     refine thenQ_normal ?_
     refine ⟨((n - (1:Int)),(o++([g44])),q44),⟨(by simp; omega),(by exact snoc_small hos (by (try have s23 : v23.size≤6 := (by rcases hv23 with h | h | h | h <;> (rw [h]; decide))); (try have s39 : v39.size≤15 := (by rcases hv39 with h | h | h | h | h | h | h | h | h <;> (rw [h]; decide))); (try have s30 := hh9 g30); (try have s49 := hh9 g49); (try simp only [ByteArray.size_append,sz1,sz10]); omega)),(by omega)⟩,(show (n - (1:Int)).toNat<n.toNat from o2),?_⟩
     exact Sub.of [(10,55)] (@cast (((((9:Nat)=9)∧((0:Nat)=0)∧((9:Nat) ∈ ([9,10,998,999] : List Nat)))∧(((55:Nat)=55)∧((List.length (o++([g44])))=(List.length (o++([g44]))))∧((10:Nat) ∈ ([9,10,998,999] : List Nat)))∧(Si (n - (1:Int)))∧Y)∧((((55:Nat)=55)∧((Sd (.bytes l9))∧(Si q44)∧Y)∧((9:Nat) ∈ ([9,10,998,999] : List Nat)))∧(((9:Nat)=9)∧(Sd (.strs (o++([g44]))))∧((10:Nat) ∈ ([9,10,998,999] : List Nat)))∧Y)∧(true=true)∧(true=true)) _ (by kernel_rfl) ⟨⟨⟨rfl,rfl,(by decide)⟩,⟨rfl,rfl,(by decide)⟩,rfl,tt⟩,⟨⟨rfl,⟨rfl,rfl,tt⟩,(by decide)⟩,⟨rfl,rfl,(by decide)⟩,tt⟩,rfl,rfl⟩)
    ·intro n40
     refine kE tab10 hnt [(3,.ptr 9 0),(4,.own 10 o.length),(5,.i n),(6,.v (.string v20)),(7,(v108 v23 v20 g30)),(45,.b (decide (v34=(2:Int))))] 1520 [] tt ?_
     refine ifp (v34=(2:Int)) ?_ ?_
     ·intro h45
      refine W.wi ?_
      refine WI.runT cok tab10 hnt [] 2 2 (⟨[(3,.ptr 9 0),(4,.own 10 o.length),(5,.i n),(6,.v (.string v20)),(7,(v108 v23 v20 g30)),(45,.b (decide (v34=(2:Int)))),(47,.ptr 9 0),(48,.v (.string v20))],[(9,⟨55,.fix [.sl (.bytes l9),.i q34]⟩),(10,⟨9,.row (.strs o)⟩),(1030,⟨59,.row (.calls g30)⟩)],[34,1030,30,23,22,20,19,9,10,998,999]⟩)
       (Y∧Y∧Y) (by kernel_rfl) rfl
       ⟨tt,tt,tt⟩ ?_
      refine WI.call [.ptr 9 0,.v (.string v20)] [.sl (.bytes l9),.i q34] [.v (.string v20)] [.v (.string v20)] (some (55,9)) (Y) (Y∧Y) none rok18 ent18 hnt rfl rfl (wanted_none rfl) (by kernel_rfl) (by kernel_rfl) (by kernel_rfl) ⟨tt,tt,tt⟩
       (@cast (0≤q34∧q34≤800000) _ (by kernel_rfl) om) (Or.inl rfl) rfl ?_
      rintro r bl fx2 hR
      obtain ⟨⟨g49,q49⟩,hq49,rfl,rfl,rfl⟩ := (@cast _ (∃ x : (List CallD) × Int,((GoodH x.1)∧(q34≤x.2∧x.2≤q34+1200))∧r=(.own 1 (List.length x.1))∧bl=([⟨59,.row (.calls x.1)⟩])∧fx2=([.sl (.bytes l9),.i x.2])) (by kernel_rfl) hR)
      clear hR
      replace hq49 : (GoodH g49)∧(q34≤q49∧q49≤q34+1200) := hq49
      obtain ⟨hg49,hq149⟩ := hq49
      refine ⟨by kernel_rfl,WI.to (⟨[(3,.ptr 9 0),(4,.own 10 o.length),(5,.i n),(6,.v (.string v20)),(7,(v108 v23 v20 g30)),(45,.b (decide (v34=(2:Int)))),(47,.ptr 9 0),(48,.v (.string v20)),(49,.own 1049 g49.length)],[(9,⟨55,.fix [.sl (.bytes l9),.i q49]⟩),(10,⟨9,.row (.strs o)⟩),(1030,⟨59,.row (.calls g30)⟩),(1049,⟨59,.row (.calls g49)⟩)],[1049,49,34,1030,30,23,22,20,19,9,10,998,999]⟩) 3 (by kernel_rfl) rfl ?_⟩
      refine WI.runT cok tab10 hnt [] 3 6 (⟨[(3,.ptr 9 0),(4,.own 10 o.length),(5,.i n),(6,.v (.string v20)),(7,(v1010 g49)),(45,.b (decide (v34=(2:Int)))),(47,.ptr 9 0),(48,.v (.string v20)),(49,.own 1049 g49.length),(50,.v (.string (histB g49))),(51,(v1010 g49))],[(9,⟨55,.fix [.sl (.bytes l9),.i q49]⟩),(10,⟨9,.row (.strs o)⟩),(1030,⟨59,.row (.calls g30)⟩),(1049,⟨59,.row (.calls g49)⟩)],[1049,49,34,1030,30,23,22,20,19,9,10,998,999]⟩)
       ((Y∧((Y∧(g49.length=g49.length))∧Y)∧Y)∧(Y∧Y∧((⟨#[119,105,100,116,104,32,97,108,108,32]⟩:ByteArray).size+(histB g49).size≤9223372036854775807))∧Y∧Y) (by kernel_rfl) rfl
       ⟨⟨tt,⟨⟨tt,rfl⟩,tt⟩,tt⟩,⟨tt,tt,(by (try have s23 : v23.size≤6 := (by rcases hv23 with h | h | h | h <;> (rw [h]; decide))); (try have s39 : v39.size≤15 := (by rcases hv39 with h | h | h | h | h | h | h | h | h <;> (rw [h]; decide))); (try have s30 := hh9 g30); (try have s49 := hh9 g49); (try simp only [ByteArray.size_append,sz1,sz10]); omega)⟩,tt,tt⟩ ?_
      refine WI.nil rfl ?_
      refine blockQ_normal (thenQ_normal ?_)
      refine lS tab10 hnt [(3,.ptr 9 0),(4,(v1011 o g49)),(5,.i n)] [(9,⟨55,.fix [.sl (.bytes l9),.i q49]⟩),(55,⟨9,.row (.strs (o++([(⟨#[119,105,100,116,104,32,97,108,108,32]⟩:ByteArray)++(histB g49)])))⟩),(1030,⟨59,.row (.calls g30)⟩),(1049,⟨59,.row (.calls g49)⟩)] [55,54,1049,49,34,1030,30,23,22,20,19,9,10,998,999] 104333690 [o.length=o.length,(o.length+(List.length ([(⟨#[119,105,100,116,104,32,97,108,108,32]⟩:ByteArray)++(histB g49)]))) * 16≤140737488355328] ⟨rfl,(by (try simp only [List.length_append,List.length_cons,List.length_nil]); first | omega | (have h7 := hg30.1; omega) | (have h7 := hg49.1; omega))⟩ ?_ [55]
      refine blockQ_normal (thenQ_normal ?_)
      refine lE tab10 hnt [(3,.ptr 9 0),(4,(v1011 o g49)),(5,.i (n - (1:Int)))] 15869 [Fits .i64 (n - (1:Int))] (by exact fits_i64 (by omega) (by omega)) ?_
      refine thenQ_normal ?_
      refine ⟨((n - (1:Int)),(o++([(⟨#[119,105,100,116,104,32,97,108,108,32]⟩:ByteArray)++(histB g49)])),q49),⟨(by simp; omega),(by exact snoc_small hos (by (try have s23 : v23.size≤6 := (by rcases hv23 with h | h | h | h <;> (rw [h]; decide))); (try have s39 : v39.size≤15 := (by rcases hv39 with h | h | h | h | h | h | h | h | h <;> (rw [h]; decide))); (try have s30 := hh9 g30); (try have s49 := hh9 g49); (try simp only [ByteArray.size_append,sz1,sz10]); omega)),(by omega)⟩,(show (n - (1:Int)).toNat<n.toNat from o2),?_⟩
      exact Sub.of [(10,55)] (@cast (((((9:Nat)=9)∧((0:Nat)=0)∧((9:Nat) ∈ ([9,10,998,999] : List Nat)))∧(((55:Nat)=55)∧((List.length (o++([(⟨#[119,105,100,116,104,32,97,108,108,32]⟩:ByteArray)++(histB g49)])))=(List.length (o++([(⟨#[119,105,100,116,104,32,97,108,108,32]⟩:ByteArray)++(histB g49)]))))∧((10:Nat) ∈ ([9,10,998,999] : List Nat)))∧(Si (n - (1:Int)))∧Y)∧((((55:Nat)=55)∧((Sd (.bytes l9))∧(Si q49)∧Y)∧((9:Nat) ∈ ([9,10,998,999] : List Nat)))∧(((9:Nat)=9)∧(Sd (.strs (o++([(⟨#[119,105,100,116,104,32,97,108,108,32]⟩:ByteArray)++(histB g49)]))))∧((10:Nat) ∈ ([9,10,998,999] : List Nat)))∧Y)∧(true=true)∧(true=true)) _ (by kernel_rfl) ⟨⟨⟨rfl,rfl,(by decide)⟩,⟨rfl,rfl,(by decide)⟩,rfl,tt⟩,⟨⟨rfl,⟨rfl,rfl,tt⟩,(by decide)⟩,⟨rfl,rfl,(by decide)⟩,tt⟩,rfl,rfl⟩)
     ·intro n45
      refine W.skip (blockQ_normal (thenQ_normal ?_))
      refine lS tab10 hnt [(3,.ptr 9 0),(4,.own 55 (List.length (o++([(((v23++(⟨#[32]⟩:ByteArray))++v20)++(⟨#[32]⟩:ByteArray))++(histB g30)])))),(5,.i n)] [(9,⟨55,.fix [.sl (.bytes l9),.i q34]⟩),(55,⟨9,.row (.strs (o++([(((v23++(⟨#[32]⟩:ByteArray))++v20)++(⟨#[32]⟩:ByteArray))++(histB g30)])))⟩),(1030,⟨59,.row (.calls g30)⟩)] [55,54,34,1030,30,23,22,20,19,9,10,998,999] 104333690 [o.length=o.length,(o.length+(List.length ([(((v23++(⟨#[32]⟩:ByteArray))++v20)++(⟨#[32]⟩:ByteArray))++(histB g30)]))) * 16≤140737488355328] ⟨rfl,(by (try simp only [List.length_append,List.length_cons,List.length_nil]); first | omega | (have h7 := hg30.1; omega) | (have h7 := hg49.1; omega))⟩ ?_ [55]
      refine blockQ_normal (thenQ_normal ?_)
      refine lE tab10 hnt [(3,.ptr 9 0),(4,.own 55 (List.length (o++([(((v23++(⟨#[32]⟩:ByteArray))++v20)++(⟨#[32]⟩:ByteArray))++(histB g30)])))),(5,.i (n - (1:Int)))] 15869 [Fits .i64 (n - (1:Int))] (by exact fits_i64 (by omega) (by omega)) ?_
      refine thenQ_normal ?_
      refine ⟨((n - (1:Int)),(o++([(((v23++(⟨#[32]⟩:ByteArray))++v20)++(⟨#[32]⟩:ByteArray))++(histB g30)])),q34),⟨(by simp; omega),(by exact snoc_small hos (by (try have s23 : v23.size≤6 := (by rcases hv23 with h | h | h | h <;> (rw [h]; decide))); (try have s39 : v39.size≤15 := (by rcases hv39 with h | h | h | h | h | h | h | h | h <;> (rw [h]; decide))); (try have s30 := hh9 g30); (try have s49 := hh9 g49); (try simp only [ByteArray.size_append,sz1,sz10]); omega)),(by omega)⟩,(show (n - (1:Int)).toNat<n.toNat from o2),?_⟩
      exact Sub.of [(10,55)] (@cast (((((9:Nat)=9)∧((0:Nat)=0)∧((9:Nat) ∈ ([9,10,998,999] : List Nat)))∧(((55:Nat)=55)∧((List.length (o++([(((v23++(⟨#[32]⟩:ByteArray))++v20)++(⟨#[32]⟩:ByteArray))++(histB g30)])))=(List.length (o++([(((v23++(⟨#[32]⟩:ByteArray))++v20)++(⟨#[32]⟩:ByteArray))++(histB g30)]))))∧((10:Nat) ∈ ([9,10,998,999] : List Nat)))∧(Si (n - (1:Int)))∧Y)∧((((55:Nat)=55)∧((Sd (.bytes l9))∧(Si q34)∧Y)∧((9:Nat) ∈ ([9,10,998,999] : List Nat)))∧(((9:Nat)=9)∧(Sd (.strs (o++([(((v23++(⟨#[32]⟩:ByteArray))++v20)++(⟨#[32]⟩:ByteArray))++(histB g30)]))))∧((10:Nat) ∈ ([9,10,998,999] : List Nat)))∧Y)∧(true=true)∧(true=true)) _ (by kernel_rfl) ⟨⟨⟨rfl,rfl,(by decide)⟩,⟨rfl,rfl,(by decide)⟩,rfl,tt⟩,⟨⟨rfl,⟨rfl,rfl,tt⟩,(by decide)⟩,⟨rfl,rfl,(by decide)⟩,tt⟩,rfl,rfl⟩)
  ·intro n15
   refine W.exit (thenQ_exit (thenQ_exit (blockQ_hit ?_)))
   refine thenQ_normal ?_
   refine kE tab10 hnt [(2,.own 10 o.length)] 20 [] tt ?_
   refine W.ret ?_
   exact endP_ret (o) (show (o.length≤4∧∀ i,(o.getD i default).size≤1100) from (by exact ⟨by omega,hos⟩)) [] (.own 10 o.length) (by kernel_rfl) (@cast (((o.length=o.length)∧(Sd (.strs o))∧((10:Nat) ∉ ([] : List Nat)))∧Y∧(true=true)∧Y∧(false=true→(0:Nat)=998)) _ (by kernel_rfl) ⟨⟨rfl,rfl,(by decide)⟩,tt,rfl,tt,(fun h=>by cases h)⟩)
theorem ent10 : Entr prog 10 := ⟨_,func10,rfl,by decide⟩
end Go.Proofs.Tryz
