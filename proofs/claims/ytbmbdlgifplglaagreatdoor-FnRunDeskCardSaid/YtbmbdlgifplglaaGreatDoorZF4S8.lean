import Derived.Test.YtbmbdlgifplglaaGreatDoorZF4S0
import Derived.Test.YtbmbdlgifplglaaGreatDoorZF4S1
import Derived.Test.YtbmbdlgifplglaaGreatDoorZF4S6
import Derived.Test.YtbmbdlgifplglaaGreatDoorZF4S7
import Derived.Test.YtbmbdlgifplglaaGreatDoorZF4S2
import Derived.Test.YtbmbdlgifplglaaGreatDoorZF4S5
set_option maxRecDepth 100000
set_option maxHeartbeats 1000000
set_option linter.unusedSimpArgs false
set_option linter.unusedVariables false
namespace Go.Proofs.Tryz
open Go.Ab Go.RowKit
def fs28 : FnS := fnS [.o,.s .calls] [.str,.calls] (fun _ (s,h,_)=>(.b (explains s h (quietF h)),[],Y))
abbrev T28 : Tab := lk [(44,fs44),(45,fs45),(48,fs48)]
theorem tab28 : TabOK prog T28 := (TabOK.cons ok44 ent44 (TabOK.cons ok45 ent45 (TabOK.cons ok48 ent48 TabOK.nil)))
theorem ok28 : FnOK prog 28 fs28 := by
 refine FnOK.mk cok func28 rfl rfl rfl ?_
 rintro fl ⟨(s:ByteArray),(h : List CallD),_⟩ hpre F hnt0 _
 have hnt : F.nt=18 := hnt0.trans ntmps28
 clear hpre
 refine W.to (⟨[(0,.v (.string s)),(1,.sl (.calls h))],[],[999]⟩) rfl ?_
 refine W.lenOf 1 (.calls h) (by kernel_rfl) ?_
 intro hl_h; replace hl_h : List.length h≤9223372036854775807 := hl_h
 refine kE tab28 hnt [(0,.v (.string s)),(1,.sl (.calls h))] 2 [] tt ?_
 refine kS tab28 hnt [(4,.b ((isObject s && validHistory h) && (decide ((0:Int)<(((List.length (ordersF s h (bitF (rowsOf h.length (quietF h))) (h.length - ([] : List Int).length) ([] : List Int))):Nat):Int)))))] [] [13,999] 3418127365843625204 ((fun (Z1:Bool)=>([Z1=true→Y,Z1=true→Y,Z1=true→Y,Z1=true→(Y∧((((Z1=true)∧Y)∧Y)∧(validHistory h=true))),Z1=true→Y,Z1=true→(Y∧((((Z1=true)∧Y)∧(((Z1=true)∧Y)∧(((Z1=true)∧Y)∧(((Z1=true)∧Y)∧Y))))∧((isObject s=true)∧((validHistory h=true)∧(((rowsOf h.length (quietF h))=rowsOf h.length (bitF (rowsOf h.length (quietF h))))∧(headO h ([] : List Int))))))),Z1=true→((Z1=true)∧Y),Z1=true→(((Z1=true)∧Y)∧(Y∧Y)),Z1=true→(Z1=true)∧Y,Z1=false→Y]:PL)) (isObject s && validHistory h)) ⟨(fun _=>trivial),(fun _=>trivial),(fun _=>trivial),(fun hG=>⟨tt,⟨⟨hG,tt⟩,tt⟩,(by exact and_r hG)⟩),(fun _=>trivial),(fun hG=>⟨tt,⟨⟨hG,tt⟩,⟨hG,tt⟩,⟨hG,tt⟩,⟨hG,tt⟩,tt⟩,(by exact and_l hG),(by exact and_r hG),(by exact rows_self),(by exact headO_nil h)⟩),(fun hG=>⟨hG,tt⟩),(fun hG=>⟨⟨hG,tt⟩,tt,tt⟩),(fun hp=>⟨hp,tt⟩),(fun _=>trivial)⟩ ?_
 refine W.ret ?_
 exact eB (show ((isObject s && validHistory h) && (decide ((0:Int)<(((List.length (ordersF s h (bitF (rowsOf h.length (quietF h))) (h.length - ([] : List Int).length) ([] : List Int))):Nat):Int))))=(explains s h (quietF h)) from (by exact by_gt (fun _=>rfl)))
theorem ent28 : Entr prog 28 := ⟨_,func28,rfl,by decide⟩
end Go.Proofs.Tryz

set_option linter.unusedSimpArgs false
set_option linter.unusedVariables false
namespace Go.Proofs.Tryz
open Go.Ab Go.RowKit
def fs12 : FnS := fnS [.o] [.str] (fun _ (l,_)=>(.v (.string (deskV l)),[],(l.size≤1100000)))
abbrev T12 : Tab := lk [(21,fs21),(22,fs22),(23,fs23),(24,fs24),(25,fs25),(26,fs26),(27,fs27),(28,fs28)]
theorem tab12 : TabOK prog T12 := (TabOK.cons ok21 ent21 (TabOK.cons ok22 ent22 (TabOK.cons ok23 ent23 (TabOK.cons ok24 ent24 (TabOK.cons ok25 ent25 (TabOK.cons ok26 ent26 (TabOK.cons ok27 ent27 (TabOK.cons ok28 ent28 TabOK.nil))))))))
abbrev v120 (l:ByteArray):AV:=.sl (.strs (splitB8 (32:Int) l))
abbrev v121:AV:=.v (.string (⟨#[119,104,97,116]⟩:ByteArray))
abbrev v122 (l:ByteArray):AV:=.v (.string (List.getD (splitB8 (32:Int) l) 0 default))
abbrev v123 (l:ByteArray):AV:=.sl (.calls (outS (l.extract (Int.toNat ((((((List.getD (splitB8 (32:Int) l) 0 default).size):Nat):Int)+((((List.getD (splitB8 (32:Int) l) 1 default).size):Nat):Int))+(2:Int))) l.size).data.toList))
abbrev v124:AV:=.v (.string (⟨#[110,111]⟩:ByteArray))
abbrev v125 (l:ByteArray):AV:=.sl (.intss (ordersBy (List.getD (splitB8 (32:Int) l) 1 default) (outS (l.extract (Int.toNat ((((((List.getD (splitB8 (32:Int) l) 0 default).size):Nat):Int)+((((List.getD (splitB8 (32:Int) l) 1 default).size):Nat):Int))+(2:Int))) l.size).data.toList) (aheadF (outS (l.extract (Int.toNat ((((((List.getD (splitB8 (32:Int) l) 0 default).size):Nat):Int)+((((List.getD (splitB8 (32:Int) l) 1 default).size):Nat):Int))+(2:Int))) l.size).data.toList))))
abbrev v126:AV:=.v (.string (⟨#[121,101,115]⟩:ByteArray))
abbrev v127 (o:ByteArray) (l:ByteArray) (i:Nat):AV:=.v (.string ((o++(⟨#[32]⟩:ByteArray))++(numB (List.getD (List.getD (ordersBy (List.getD (splitB8 (32:Int) l) 1 default) (outS (l.extract (Int.toNat ((((((List.getD (splitB8 (32:Int) l) 0 default).size):Nat):Int)+((((List.getD (splitB8 (32:Int) l) 1 default).size):Nat):Int))+(2:Int))) l.size).data.toList) (aheadF (outS (l.extract (Int.toNat ((((((List.getD (splitB8 (32:Int) l) 0 default).size):Nat):Int)+((((List.getD (splitB8 (32:Int) l) 1 default).size):Nat):Int))+(2:Int))) l.size).data.toList))) 0 []) i 0))))
theorem ok12 : FnOK prog 12 fs12 := by
 refine FnOK.mk cok func12 rfl rfl rfl ?_
 rintro fl ⟨(l:ByteArray),_⟩ hpre F hnt0 _
 have hnt : F.nt=116 := hnt0.trans ntmps12
 replace hpre : (l.size≤1100000) := hpre
 have hz := hpre
 refine W.to (⟨[(0,.v (.string l))],[],[999]⟩) rfl ?_
 refine kE tab12 hnt [(0,.v (.string l))] 2 [] tt ?_
 refine kS tab12 hnt [(0,.v (.string l)),(3,(v120 l))] [] [11,999] 107927957 [0≤(32:Int)∧(32:Int)≤255,l.size≤2000000,(List.length (splitB8 (32:Int) l))=(List.length (splitB8 (32:Int) l))] ⟨(by first | omega | (have h9 := hrow.2 i; omega)),(by (try simp only [ByteArray.size_append,ByteArray.size_extract,sz1,sz2,sz3]); omega),rfl⟩ ?_
 refine W.seq ?_
 refine kE tab12 hnt [(0,.v (.string l)),(3,(v120 l)),(14,.b (decide ((((List.length (splitB8 (32:Int) l)):Nat):Int)<(3:Int))))] 5042 [] tt ?_
 refine ifp ((((List.length (splitB8 (32:Int) l)):Nat):Int)<(3:Int)) ?_ ?_
 ·intro h14
  have hE : tWhat=deskV l := dk_short h14
  refine kE tab12 hnt [(2,v121)] 2 [] tt ?_
  refine W.ret (thenQ_ret ?_)
  exact eT (show (⟨#[119,104,97,116]⟩:ByteArray)=(deskV l) from (by first | exact hE | exact hE.symm))
 ·intro n14
  have hL : ¬ (splitB8 32 l).length<3 := by omega
  have hsz := (dk_words hL).2
  replace hsz : (List.getD (splitB8 32 l) 0 default).size+(List.getD (splitB8 32 l) 1 default).size+2≤l.size := hsz
  refine W.skip (thenQ_normal ?_)
  refine kE tab12 hnt [(0,.v (.string l)),(3,(v120 l)),(4,(v122 l))] 1212158 [0≤(0:Int),(0:Int)<(((List.length (splitB8 (32:Int) l)):Nat):Int)] ⟨(by first | omega | (have h9 := hrow.2 i; omega)),(by first | omega | (have h9 := hrow.2 i; omega))⟩ ?_
  refine W.seq ?_
  refine kE tab12 hnt [(0,.v (.string l)),(3,(v120 l)),(4,(v122 l)),(31,.b ((((!(eqS (List.getD (splitB8 (32:Int) l) 0 default) (⟨#[108,105,110,101,97,114]⟩:ByteArray))) && (!(eqS (List.getD (splitB8 (32:Int) l) 0 default) (⟨#[111,119,110]⟩:ByteArray)))) && (!(eqS (List.getD (splitB8 (32:Int) l) 0 default) (⟨#[113,117,105,101,116]⟩:ByteArray)))) && (!(eqS (List.getD (splitB8 (32:Int) l) 0 default) (⟨#[119,105,100,116,104]⟩:ByteArray)))))] 522267310885221454898 ((fun (Z1:Bool)=>((fun (Z2:Bool)=>((fun (Z3:Bool)=>([Z1=true→Y,Z1=true→(((Z1=true)∧Y)∧(Y∧Y)),Z1=true→(Z1=true)∧Y,Z1=false→Y,Z2=true→Y,Z2=true→(((Z2=true)∧Y)∧(Y∧Y)),Z2=true→(Z2=true)∧Y,Z2=false→Y,Z3=true→Y,Z3=true→(((Z3=true)∧Y)∧(Y∧Y)),Z3=true→(Z3=true)∧Y,Z3=false→Y]:PL)) (Z2 && (!(eqS (List.getD (splitB8 (32:Int) l) 0 default) (⟨#[113,117,105,101,116]⟩:ByteArray)))))) (Z1 && (!(eqS (List.getD (splitB8 (32:Int) l) 0 default) (⟨#[111,119,110]⟩:ByteArray)))))) (!(eqS (List.getD (splitB8 (32:Int) l) 0 default) (⟨#[108,105,110,101,97,114]⟩:ByteArray)))) ⟨(fun _=>trivial),(fun hG=>⟨⟨hG,tt⟩,tt,tt⟩),(fun hp=>⟨hp,tt⟩),(fun _=>trivial),(fun _=>trivial),(fun hG=>⟨⟨hG,tt⟩,tt,tt⟩),(fun hp=>⟨hp,tt⟩),(fun _=>trivial),(fun _=>trivial),(fun hG=>⟨⟨hG,tt⟩,tt,tt⟩),(fun hp=>⟨hp,tt⟩),(fun _=>trivial)⟩ ?_
  refine ifb ((((!(eqS (List.getD (splitB8 (32:Int) l) 0 default) (⟨#[108,105,110,101,97,114]⟩:ByteArray))) && (!(eqS (List.getD (splitB8 (32:Int) l) 0 default) (⟨#[111,119,110]⟩:ByteArray)))) && (!(eqS (List.getD (splitB8 (32:Int) l) 0 default) (⟨#[113,117,105,101,116]⟩:ByteArray)))) && (!(eqS (List.getD (splitB8 (32:Int) l) 0 default) (⟨#[119,105,100,116,104]⟩:ByteArray)))) ?_ ?_
  ·intro h31
   have hE : tWhat=deskV l := dk_kind (by unfold kindD dW; simp at h31; simp [h31])
   refine kE tab12 hnt [(2,v121)] 2 [] tt ?_
   refine W.ret (thenQ_ret ?_)
   exact eT (show (⟨#[119,104,97,116]⟩:ByteArray)=(deskV l) from (by first | exact hE | exact hE.symm))
  ·intro n31
   have hk : kindD (dW l 0)=true := by unfold kindD dW; simp at n31; simp; grind
   have hO := dk_on (l := l) (by omega) hk
   refine W.skip (thenQ_normal ?_)
   refine kE tab12 hnt [(3,(v120 l)),(4,(v122 l)),(5,(v123 l)),(6,.b (validHistory (outS (l.extract (Int.toNat ((((((List.getD (splitB8 (32:Int) l) 0 default).size):Nat):Int)+((((List.getD (splitB8 (32:Int) l) 1 default).size):Nat):Int))+(2:Int))) l.size).data.toList)))] 95380865663310272367927463592 [0≤(1:Int),(1:Int)<(((List.length (splitB8 (32:Int) l)):Nat):Int),Fits .i64 (((((List.getD (splitB8 (32:Int) l) 0 default).size):Nat):Int)+((((List.getD (splitB8 (32:Int) l) 1 default).size):Nat):Int)),Fits .i64 ((((((List.getD (splitB8 (32:Int) l) 0 default).size):Nat):Int)+((((List.getD (splitB8 (32:Int) l) 1 default).size):Nat):Int))+(2:Int)),0≤((((((List.getD (splitB8 (32:Int) l) 0 default).size):Nat):Int)+((((List.getD (splitB8 (32:Int) l) 1 default).size):Nat):Int))+(2:Int)),((((((List.getD (splitB8 (32:Int) l) 0 default).size):Nat):Int)+((((List.getD (splitB8 (32:Int) l) 1 default).size):Nat):Int))+(2:Int))≤((l.size:Nat):Int),((l.size:Nat):Int)≤((l.size:Nat):Int),(l.extract (Int.toNat ((((((List.getD (splitB8 (32:Int) l) 0 default).size):Nat):Int)+((((List.getD (splitB8 (32:Int) l) 1 default).size):Nat):Int))+(2:Int))) l.size).size≤1999999] ⟨(by first | omega | (have h9 := hrow.2 i; omega)),(by first | omega | (have h9 := hrow.2 i; omega)),(by exact fits_i64 (by omega) (by omega)),(by exact fits_i64 (by omega) (by omega)),(by (try simp only [ByteArray.size_append,ByteArray.size_extract,sz1,sz2,sz3]); omega),(by (try simp only [ByteArray.size_append,ByteArray.size_extract,sz1,sz2,sz3]); omega),(by (try simp only [ByteArray.size_append,ByteArray.size_extract,sz1,sz2,sz3]); omega),(by (try simp only [ByteArray.size_append,ByteArray.size_extract,sz1,sz2,sz3]); omega)⟩ ?_
   refine W.seq ?_
   refine kE tab12 hnt [(3,(v120 l)),(4,(v122 l)),(5,(v123 l)),(68,.b ((((eqS (List.getD (splitB8 (32:Int) l) 0 default) (⟨#[119,105,100,116,104]⟩:ByteArray)) && (!(eqS (List.getD (splitB8 (32:Int) l) 1 default) (⟨#[97,108,108]⟩:ByteArray)))) || ((!(eqS (List.getD (splitB8 (32:Int) l) 0 default) (⟨#[119,105,100,116,104]⟩:ByteArray))) && (!(isObject (List.getD (splitB8 (32:Int) l) 1 default))))) || (!(validHistory (outS (l.extract (Int.toNat ((((((List.getD (splitB8 (32:Int) l) 0 default).size):Nat):Int)+((((List.getD (splitB8 (32:Int) l) 1 default).size):Nat):Int))+(2:Int))) l.size).data.toList)))))] 202337056976047940599211865863 ((fun (Z1:Bool)=>((fun (Z2:Bool)=>((fun (Z3:Bool)=>((fun (Z4:Bool)=>([Z1=true→Y,Z1=true→(((Z1=true)∧Y)∧(Y∧((0≤(1:Int))∧((1:Int)<(((List.length (splitB8 (32:Int) l)):Nat):Int))))),Z1=true→((Z1=true)∧Y),Z1=true→(((Z1=true)∧Y)∧(Y∧Y)),Z1=true→(Z1=true)∧Y,Z1=false→Y,(!Z2)=true→Y,(!Z2)=true→((((!Z2)=true)∧Y)∧(Y∧Y)),(!Z2)=true→Y,Z3=true→Y,Z3=true→(((Z3=true)∧Y)∧(Y∧((0≤(1:Int))∧((1:Int)<(((List.length (splitB8 (32:Int) l)):Nat):Int))))),Z3=true→((Z3=true)∧Y),Z3=true→(Y∧((((Z3=true)∧Y)∧Y)∧Y)),Z3=true→((Z3=true)∧Y),(!Z2)=true→((((!Z2)=true)∧(((!Z2)=true)∧Y))∧(((!Z1)=true→(Z3=true)∧Y)∧((!Z1)=false→Y))),Z2=true→Y,Z2=false→((!Z2)=true)∧Y,(!Z4)=true→Y,(!Z4)=true→(((!Z4)=true)∧Y),Z4=true→Y,Z4=false→((!Z4)=true)∧Y]:PL)) (Z2 || ((!Z1) && (!(isObject (List.getD (splitB8 (32:Int) l) 1 default))))))) ((!Z2) && ((!Z2) && (!Z1))))) (Z1 && (!(eqS (List.getD (splitB8 (32:Int) l) 1 default) (⟨#[97,108,108]⟩:ByteArray)))))) (eqS (List.getD (splitB8 (32:Int) l) 0 default) (⟨#[119,105,100,116,104]⟩:ByteArray))) ⟨(fun _=>trivial),(fun hG=>⟨⟨hG,tt⟩,tt,(by first | omega | (have h9 := hrow.2 i; omega)),(by first | omega | (have h9 := hrow.2 i; omega))⟩),(fun hG=>⟨hG,tt⟩),(fun hG=>⟨⟨hG,tt⟩,tt,tt⟩),(fun hp=>⟨hp,tt⟩),(fun _=>trivial),(fun _=>trivial),(fun hG=>⟨⟨hG,tt⟩,tt,tt⟩),(fun _=>trivial),(fun _=>trivial),(fun hG=>⟨⟨hG,tt⟩,tt,(by first | omega | (have h9 := hrow.2 i; omega)),(by first | omega | (have h9 := hrow.2 i; omega))⟩),(fun hG=>⟨hG,tt⟩),(fun hG=>⟨tt,⟨⟨hG,tt⟩,tt⟩,tt⟩),(fun hG=>⟨hG,tt⟩),(fun hG=>⟨⟨hG,hG,tt⟩,(fun hp=>⟨(and_t hG (and_t hG hp)),tt⟩),(fun _=>trivial)⟩),(fun _=>trivial),(fun hp=>⟨(not_t hp),tt⟩),(fun _=>trivial),(fun hG=>⟨hG,tt⟩),(fun _=>trivial),(fun hp=>⟨(not_t hp),tt⟩)⟩ ?_
   refine ifb ((((eqS (List.getD (splitB8 (32:Int) l) 0 default) (⟨#[119,105,100,116,104]⟩:ByteArray)) && (!(eqS (List.getD (splitB8 (32:Int) l) 1 default) (⟨#[97,108,108]⟩:ByteArray)))) || ((!(eqS (List.getD (splitB8 (32:Int) l) 0 default) (⟨#[119,105,100,116,104]⟩:ByteArray))) && (!(isObject (List.getD (splitB8 (32:Int) l) 1 default))))) || (!(validHistory (outS (l.extract (Int.toNat ((((((List.getD (splitB8 (32:Int) l) 0 default).size):Nat):Int)+((((List.getD (splitB8 (32:Int) l) 1 default).size):Nat):Int))+(2:Int))) l.size).data.toList)))) ?_ ?_
   ·intro h68
    have hE : tWrong=deskV l := by rw [hO,show wrongD (dW l 0) (dW l 1) (parseS (dT l).data.toList).2=true from (by rw [ps_snd]; unfold wrongD; simp at h68; simp; grind)]; rfl
    refine kE tab12 hnt [(2,.v (.string (⟨#[119,114,111,110,103]⟩:ByteArray)))] 2 [] tt ?_
    refine W.ret (thenQ_ret ?_)
    exact eT (show (⟨#[119,114,111,110,103]⟩:ByteArray)=(deskV l) from (by first | exact hE | exact hE.symm))
   ·intro n68
    have hv : validHistory (outS (l.extract (Int.toNat ((((((List.getD (splitB8 32 l) 0 default).size:Nat):Int)+(((List.getD (splitB8 32 l) 1 default).size:Nat):Int))+2))) l.size).data.toList)=true := not_g (or_r n68)
    have hE : deskV l=coreD (List.getD (splitB8 32 l) 0 default) (List.getD (splitB8 32 l) 1 default) (outS (l.extract (Int.toNat ((((((List.getD (splitB8 32 l) 0 default).size:Nat):Int)+(((List.getD (splitB8 32 l) 1 default).size:Nat):Int))+2))) l.size).data.toList) := by rw [hO,show wrongD (dW l 0) (dW l 1) (parseS (dT l).data.toList).2=false from (by rw [ps_snd]; unfold wrongD; simp at n68; simp; grind),cond_false,ps_fst hv]
    have hwb := wid_bnd hv
    have hrow := by_row (s := (List.getD (splitB8 32 l) 1 default)) (f := aheadF (outS (l.extract (Int.toNat ((((((List.getD (splitB8 32 l) 0 default).size:Nat):Int)+(((List.getD (splitB8 32 l) 1 default).size:Nat):Int))+2))) l.size).data.toList)) hv
    refine W.skip (thenQ_normal ?_)
    refine kE tab12 hnt [(3,(v120 l)),(4,(v122 l)),(5,(v123 l)),(7,v124)] 2 [] tt ?_
    refine W.seq ?_
    refine kE tab12 hnt [(3,(v120 l)),(5,(v123 l)),(7,v124),(69,(v122 l))] 2 [] tt ?_
    refine W.block ?_
    refine kE tab12 hnt [(3,(v120 l)),(5,(v123 l)),(7,v124),(69,(v122 l)),(75,.b (eqS (List.getD (splitB8 (32:Int) l) 0 default) (⟨#[119,105,100,116,104]⟩:ByteArray)))] 1520 [] tt ?_
    refine ifb (eqS (List.getD (splitB8 (32:Int) l) 0 default) (⟨#[119,105,100,116,104]⟩:ByteArray)) ?_ ?_
    ·intro h75
     rw [core_wid h75] at hE
     refine kE tab12 hnt [(2,.v (.string (numB (widthS (outS (l.extract (Int.toNat ((((((List.getD (splitB8 (32:Int) l) 0 default).size):Nat):Int)+((((List.getD (splitB8 (32:Int) l) 1 default).size):Nat):Int))+(2:Int))) l.size).data.toList)))))] 917210135 [-1000000≤(widthS (outS (l.extract (Int.toNat ((((((List.getD (splitB8 (32:Int) l) 0 default).size):Nat):Int)+((((List.getD (splitB8 (32:Int) l) 1 default).size):Nat):Int))+(2:Int))) l.size).data.toList))∧(widthS (outS (l.extract (Int.toNat ((((((List.getD (splitB8 (32:Int) l) 0 default).size):Nat):Int)+((((List.getD (splitB8 (32:Int) l) 1 default).size):Nat):Int))+(2:Int))) l.size).data.toList))≤1000000] (by (try simp only [ByteArray.size_append,ByteArray.size_extract,sz1,sz2,sz3]); omega) ?_
     refine W.ret (blockQ_ret (thenQ_ret ?_))
     exact eT (show (numB (widthS (outS (l.extract (Int.toNat ((((((List.getD (splitB8 (32:Int) l) 0 default).size):Nat):Int)+((((List.getD (splitB8 (32:Int) l) 1 default).size):Nat):Int))+(2:Int))) l.size).data.toList)))=(deskV l) from (by first | exact hE | exact hE.symm))
    ·intro n75
     refine kE tab12 hnt [(3,(v120 l)),(5,(v123 l)),(7,v124),(69,(v122 l)),(80,.b (eqS (List.getD (splitB8 (32:Int) l) 0 default) (⟨#[108,105,110,101,97,114]⟩:ByteArray)))] 1520 [] tt ?_
     refine ifb (eqS (List.getD (splitB8 (32:Int) l) 0 default) (⟨#[108,105,110,101,97,114]⟩:ByteArray)) ?_ ?_
     ·intro h80
      rw [core_lin' h80] at hE
      refine kE tab12 hnt [(7,v124),(8,(v125 l))] 572905238978 [0≤(1:Int),(1:Int)<(((List.length (splitB8 (32:Int) l)):Nat):Int)] ⟨(by first | omega | (have h9 := hrow.2 i; omega)),(by first | omega | (have h9 := hrow.2 i; omega))⟩ ?_
      refine kE tab12 hnt [(7,v124),(8,(v125 l)),(89,.b (decide ((0:Int)<(((List.length (ordersBy (List.getD (splitB8 (32:Int) l) 1 default) (outS (l.extract (Int.toNat ((((((List.getD (splitB8 (32:Int) l) 0 default).size):Nat):Int)+((((List.getD (splitB8 (32:Int) l) 1 default).size):Nat):Int))+(2:Int))) l.size).data.toList) (aheadF (outS (l.extract (Int.toNat ((((((List.getD (splitB8 (32:Int) l) 0 default).size):Nat):Int)+((((List.getD (splitB8 (32:Int) l) 1 default).size):Nat):Int))+(2:Int))) l.size).data.toList)))):Nat):Int))))] 5042 [] tt ?_
      refine ifp ((0:Int)<(((List.length (ordersBy (List.getD (splitB8 (32:Int) l) 1 default) (outS (l.extract (Int.toNat ((((((List.getD (splitB8 (32:Int) l) 0 default).size):Nat):Int)+((((List.getD (splitB8 (32:Int) l) 1 default).size):Nat):Int))+(2:Int))) l.size).data.toList) (aheadF (outS (l.extract (Int.toNat ((((((List.getD (splitB8 (32:Int) l) 0 default).size):Nat):Int)+((((List.getD (splitB8 (32:Int) l) 1 default).size):Nat):Int))+(2:Int))) l.size).data.toList)))):Nat):Int)) ?_ ?_
      ·intro h89
       rw [decide_eq_false (p := _=0) (by omega),cond_false] at hE
       refine kE tab12 hnt [(7,v126),(8,(v125 l))] 2 [] tt ?_
       refine kE tab12 hnt [(7,v126),(8,(v125 l)),(9,.i (0:Int))] 2 [] tt ?_
       refine W.block ?_
       refine W.loop (ι := Nat × ByteArray) (fun (x : Nat × ByteArray)=>match x with | (i,o)=>(⟨[(7,.v (.string o)),(8,(v125 l)),(9,.i ((i:Nat):Int))],[],[999]⟩:St))
        (fun (x : Nat × ByteArray)=>match x with | (i,o)=>(i≤(List.getD (ordersBy (List.getD (splitB8 32 l) 1 default) (outS (l.extract (Int.toNat ((((((List.getD (splitB8 32 l) 0 default).size:Nat):Int)+(((List.getD (splitB8 32 l) 1 default).size:Nat):Int))+2))) l.size).data.toList) (aheadF (outS (l.extract (Int.toNat ((((((List.getD (splitB8 32 l) 0 default).size:Nat):Int)+(((List.getD (splitB8 32 l) 1 default).size:Nat):Int))+2))) l.size).data.toList))) 0 []).length)∧(o=numsUp (List.getD (ordersBy (List.getD (splitB8 32 l) 1 default) (outS (l.extract (Int.toNat ((((((List.getD (splitB8 32 l) 0 default).size:Nat):Int)+(((List.getD (splitB8 32 l) 1 default).size:Nat):Int))+2))) l.size).data.toList) (aheadF (outS (l.extract (Int.toNat ((((((List.getD (splitB8 32 l) 0 default).size:Nat):Int)+(((List.getD (splitB8 32 l) 1 default).size:Nat):Int))+2))) l.size).data.toList))) 0 []) i))
        (fun (x : Nat × ByteArray)=>match x with | (i,o)=>((List.getD (ordersBy (List.getD (splitB8 32 l) 1 default) (outS (l.extract (Int.toNat ((((((List.getD (splitB8 32 l) 0 default).size:Nat):Int)+(((List.getD (splitB8 32 l) 1 default).size:Nat):Int))+2))) l.size).data.toList) (aheadF (outS (l.extract (Int.toNat ((((((List.getD (splitB8 32 l) 0 default).size:Nat):Int)+(((List.getD (splitB8 32 l) 1 default).size:Nat):Int))+2))) l.size).data.toList))) 0 []).length - i:Nat)) (0,(⟨#[121,101,115]⟩:ByteArray)) ?_ ?_ ?_
       ·exact ⟨oi,(by rfl)⟩
       ·exact Sk
       ·rintro ⟨i,o⟩ hC0
        obtain ⟨hi,ho⟩ := hC0
        have hri := hrow.2 i
        have hos : o.size≤3+3 * i := by rw [ho]; exact nums_size hrow.2 i
        have hns := numB_small (n := (List.getD (ordersBy (List.getD (splitB8 32 l) 1 default) (outS (l.extract (Int.toNat ((((((List.getD (splitB8 32 l) 0 default).size:Nat):Int)+(((List.getD (splitB8 32 l) 1 default).size:Nat):Int))+2))) l.size).data.toList) (aheadF (outS (l.extract (Int.toNat ((((((List.getD (splitB8 32 l) 0 default).size:Nat):Int)+(((List.getD (splitB8 32 l) 1 default).size:Nat):Int))+2))) l.size).data.toList))) 0 []).getD i 0) (by omega) (by omega)
        refine W.seq ?_
        refine kE tab12 hnt [(7,.v (.string o)),(8,(v125 l)),(9,.i ((i:Nat):Int)),(95,.b (decide (((i:Nat):Int)<(((List.length (List.getD (ordersBy (List.getD (splitB8 (32:Int) l) 1 default) (outS (l.extract (Int.toNat ((((((List.getD (splitB8 (32:Int) l) 0 default).size):Nat):Int)+((((List.getD (splitB8 (32:Int) l) 1 default).size):Nat):Int))+(2:Int))) l.size).data.toList) (aheadF (outS (l.extract (Int.toNat ((((((List.getD (splitB8 (32:Int) l) 0 default).size):Nat):Int)+((((List.getD (splitB8 (32:Int) l) 1 default).size):Nat):Int))+(2:Int))) l.size).data.toList))) 0 [])):Nat):Int))))] 2679806126 [0≤(0:Int),(0:Int)<(((List.length (ordersBy (List.getD (splitB8 (32:Int) l) 1 default) (outS (l.extract (Int.toNat ((((((List.getD (splitB8 (32:Int) l) 0 default).size):Nat):Int)+((((List.getD (splitB8 (32:Int) l) 1 default).size):Nat):Int))+(2:Int))) l.size).data.toList) (aheadF (outS (l.extract (Int.toNat ((((((List.getD (splitB8 (32:Int) l) 0 default).size):Nat):Int)+((((List.getD (splitB8 (32:Int) l) 1 default).size):Nat):Int))+(2:Int))) l.size).data.toList)))):Nat):Int)] ⟨(by first | omega | (have h9 := hrow.2 i; omega)),(by (try simp only [ByteArray.size_append,ByteArray.size_extract,sz1,sz2,sz3]); omega)⟩ ?_
        refine ifp (((i:Nat):Int)<(((List.length (List.getD (ordersBy (List.getD (splitB8 (32:Int) l) 1 default) (outS (l.extract (Int.toNat ((((((List.getD (splitB8 (32:Int) l) 0 default).size):Nat):Int)+((((List.getD (splitB8 (32:Int) l) 1 default).size):Nat):Int))+(2:Int))) l.size).data.toList) (aheadF (outS (l.extract (Int.toNat ((((((List.getD (splitB8 (32:Int) l) 0 default).size):Nat):Int)+((((List.getD (splitB8 (32:Int) l) 1 default).size):Nat):Int))+(2:Int))) l.size).data.toList))) 0 [])):Nat):Int)) ?_ ?_
        ·intro h95
         refine W.skip (thenQ_normal ?_)
         refine W.seq ?_
         refine W.block ?_
         refine lE tab12 hnt [(7,(v127 o l i)),(8,(v125 l)),(9,.i ((i:Nat):Int))] 21438432356486894911073 [o.size+(⟨#[32]⟩:ByteArray).size≤9223372036854775807,0≤(0:Int),(0:Int)<(((List.length (ordersBy (List.getD (splitB8 (32:Int) l) 1 default) (outS (l.extract (Int.toNat ((((((List.getD (splitB8 (32:Int) l) 0 default).size):Nat):Int)+((((List.getD (splitB8 (32:Int) l) 1 default).size):Nat):Int))+(2:Int))) l.size).data.toList) (aheadF (outS (l.extract (Int.toNat ((((((List.getD (splitB8 (32:Int) l) 0 default).size):Nat):Int)+((((List.getD (splitB8 (32:Int) l) 1 default).size):Nat):Int))+(2:Int))) l.size).data.toList)))):Nat):Int),0≤((i:Nat):Int),((i:Nat):Int)<(((List.length (List.getD (ordersBy (List.getD (splitB8 (32:Int) l) 1 default) (outS (l.extract (Int.toNat ((((((List.getD (splitB8 (32:Int) l) 0 default).size):Nat):Int)+((((List.getD (splitB8 (32:Int) l) 1 default).size):Nat):Int))+(2:Int))) l.size).data.toList) (aheadF (outS (l.extract (Int.toNat ((((((List.getD (splitB8 (32:Int) l) 0 default).size):Nat):Int)+((((List.getD (splitB8 (32:Int) l) 1 default).size):Nat):Int))+(2:Int))) l.size).data.toList))) 0 [])):Nat):Int),-1000000≤(List.getD (List.getD (ordersBy (List.getD (splitB8 (32:Int) l) 1 default) (outS (l.extract (Int.toNat ((((((List.getD (splitB8 (32:Int) l) 0 default).size):Nat):Int)+((((List.getD (splitB8 (32:Int) l) 1 default).size):Nat):Int))+(2:Int))) l.size).data.toList) (aheadF (outS (l.extract (Int.toNat ((((((List.getD (splitB8 (32:Int) l) 0 default).size):Nat):Int)+((((List.getD (splitB8 (32:Int) l) 1 default).size):Nat):Int))+(2:Int))) l.size).data.toList))) 0 []) i 0)∧(List.getD (List.getD (ordersBy (List.getD (splitB8 (32:Int) l) 1 default) (outS (l.extract (Int.toNat ((((((List.getD (splitB8 (32:Int) l) 0 default).size):Nat):Int)+((((List.getD (splitB8 (32:Int) l) 1 default).size):Nat):Int))+(2:Int))) l.size).data.toList) (aheadF (outS (l.extract (Int.toNat ((((((List.getD (splitB8 (32:Int) l) 0 default).size):Nat):Int)+((((List.getD (splitB8 (32:Int) l) 1 default).size):Nat):Int))+(2:Int))) l.size).data.toList))) 0 []) i 0)≤1000000,(o++(⟨#[32]⟩:ByteArray)).size+(numB (List.getD (List.getD (ordersBy (List.getD (splitB8 (32:Int) l) 1 default) (outS (l.extract (Int.toNat ((((((List.getD (splitB8 (32:Int) l) 0 default).size):Nat):Int)+((((List.getD (splitB8 (32:Int) l) 1 default).size):Nat):Int))+(2:Int))) l.size).data.toList) (aheadF (outS (l.extract (Int.toNat ((((((List.getD (splitB8 (32:Int) l) 0 default).size):Nat):Int)+((((List.getD (splitB8 (32:Int) l) 1 default).size):Nat):Int))+(2:Int))) l.size).data.toList))) 0 []) i 0)).size≤9223372036854775807] ⟨(by (try simp only [ByteArray.size_append,ByteArray.size_extract,sz1,sz2,sz3]); omega),(by first | omega | (have h9 := hrow.2 i; omega)),(by (try simp only [ByteArray.size_append,ByteArray.size_extract,sz1,sz2,sz3]); omega),(by first | omega | (have h9 := hrow.2 i; omega)),(by (try simp only [ByteArray.size_append,ByteArray.size_extract,sz1,sz2,sz3]); omega),(by (try simp only [ByteArray.size_append,ByteArray.size_extract,sz1,sz2,sz3]); omega),(by (try simp only [ByteArray.size_append,ByteArray.size_extract,sz1,sz2,sz3]); omega)⟩ ?_
         refine blockQ_normal (thenQ_normal ?_)
         refine lE tab12 hnt [(7,(v127 o l i)),(8,(v125 l)),(9,.i (((i+1):Nat):Int))] 15869 [Fits .i64 (((i+1):Nat):Int)] (by exact fits_i64 (by omega) (by omega)) ?_
         refine thenQ_normal ?_
         refine ⟨((i+1),((o++(⟨#[32]⟩:ByteArray))++(numB (List.getD (List.getD (ordersBy (List.getD (splitB8 (32:Int) l) 1 default) (outS (l.extract (Int.toNat ((((((List.getD (splitB8 (32:Int) l) 0 default).size):Nat):Int)+((((List.getD (splitB8 (32:Int) l) 1 default).size):Nat):Int))+(2:Int))) l.size).data.toList) (aheadF (outS (l.extract (Int.toNat ((((((List.getD (splitB8 (32:Int) l) 0 default).size):Nat):Int)+((((List.getD (splitB8 (32:Int) l) 1 default).size):Nat):Int))+(2:Int))) l.size).data.toList))) 0 []) i 0)))),⟨oi,(by rw [ho,ByteArray.append_assoc]; rfl)⟩,(show (List.getD (ordersBy (List.getD (splitB8 32 l) 1 default) (outS (l.extract (Int.toNat ((((((List.getD (splitB8 32 l) 0 default).size:Nat):Int)+(((List.getD (splitB8 32 l) 1 default).size:Nat):Int))+2))) l.size).data.toList) (aheadF (outS (l.extract (Int.toNat ((((((List.getD (splitB8 32 l) 0 default).size:Nat):Int)+(((List.getD (splitB8 32 l) 1 default).size:Nat):Int))+2))) l.size).data.toList))) 0 []).length - (i+1)<(List.getD (ordersBy (List.getD (splitB8 32 l) 1 default) (outS (l.extract (Int.toNat ((((((List.getD (splitB8 32 l) 0 default).size:Nat):Int)+(((List.getD (splitB8 32 l) 1 default).size:Nat):Int))+2))) l.size).data.toList) (aheadF (outS (l.extract (Int.toNat ((((((List.getD (splitB8 32 l) 0 default).size:Nat):Int)+(((List.getD (splitB8 32 l) 1 default).size:Nat):Int))+2))) l.size).data.toList))) 0 []).length - i from o2),?_⟩
         exact Sk
        ·intro n95
         refine W.exit (thenQ_exit (thenQ_exit (blockQ_hit ?_)))
         refine blockQ_normal (thenQ_normal ?_)
         refine kE tab12 hnt [(2,.v (.string o))] 20 [] tt ?_
         refine W.ret ?_
         exact eT (show o=(deskV l) from (by rw [hE,ho,show i=(List.getD (ordersBy (List.getD (splitB8 32 l) 1 default) (outS (l.extract (Int.toNat ((((((List.getD (splitB8 32 l) 0 default).size:Nat):Int)+(((List.getD (splitB8 32 l) 1 default).size:Nat):Int))+2))) l.size).data.toList) (aheadF (outS (l.extract (Int.toNat ((((((List.getD (splitB8 32 l) 0 default).size:Nat):Int)+(((List.getD (splitB8 32 l) 1 default).size:Nat):Int))+2))) l.size).data.toList))) 0 []).length by omega]))
      ·intro n89
       rw [decide_eq_true (p := _=0) (by omega),cond_true] at hE
       refine W.skip (blockQ_normal (thenQ_normal ?_))
       refine kE tab12 hnt [(2,v124)] 20 [] tt ?_
       refine W.ret ?_
       exact eT (show (⟨#[110,111]⟩:ByteArray)=(deskV l) from (by first | exact hE | exact hE.symm))
     ·intro n80
      refine kE tab12 hnt [(3,(v120 l)),(5,(v123 l)),(7,v124),(108,.b (eqS (List.getD (splitB8 (32:Int) l) 0 default) (⟨#[111,119,110]⟩:ByteArray)))] 1520 [] tt ?_
      refine ifb (eqS (List.getD (splitB8 (32:Int) l) 0 default) (⟨#[111,119,110]⟩:ByteArray)) ?_ ?_
      ·intro h108
       rw [core_own h108] at hE
       refine kE tab12 hnt [(7,v124),(114,.b (explains (List.getD (splitB8 (32:Int) l) 1 default) (outS (l.extract (Int.toNat ((((((List.getD (splitB8 (32:Int) l) 0 default).size):Nat):Int)+((((List.getD (splitB8 (32:Int) l) 1 default).size):Nat):Int))+(2:Int))) l.size).data.toList) (ownF (outS (l.extract (Int.toNat ((((((List.getD (splitB8 (32:Int) l) 0 default).size):Nat):Int)+((((List.getD (splitB8 (32:Int) l) 1 default).size):Nat):Int))+(2:Int))) l.size).data.toList))))] 8046166016 [0≤(1:Int),(1:Int)<(((List.length (splitB8 (32:Int) l)):Nat):Int)] ⟨(by first | omega | (have h9 := hrow.2 i; omega)),(by first | omega | (have h9 := hrow.2 i; omega))⟩ ?_
       refine ifb (explains (List.getD (splitB8 (32:Int) l) 1 default) (outS (l.extract (Int.toNat ((((((List.getD (splitB8 (32:Int) l) 0 default).size):Nat):Int)+((((List.getD (splitB8 (32:Int) l) 1 default).size):Nat):Int))+(2:Int))) l.size).data.toList) (ownF (outS (l.extract (Int.toNat ((((((List.getD (splitB8 (32:Int) l) 0 default).size):Nat):Int)+((((List.getD (splitB8 (32:Int) l) 1 default).size):Nat):Int))+(2:Int))) l.size).data.toList))) ?_ ?_
       ·intro h114
        rw [h114] at hE
        refine lE tab12 hnt [(7,v126)] 2 [] tt ?_
        refine blockQ_normal (thenQ_normal ?_)
        refine kE tab12 hnt [(2,v126)] 20 [] tt ?_
        refine W.ret ?_
        exact eT (show (⟨#[121,101,115]⟩:ByteArray)=(deskV l) from (by first | exact hE | exact hE.symm))
       ·intro n114
        rw [n114] at hE
        refine W.skip (blockQ_normal (thenQ_normal ?_))
        refine kE tab12 hnt [(2,v124)] 20 [] tt ?_
        refine W.ret ?_
        exact eT (show (⟨#[110,111]⟩:ByteArray)=(deskV l) from (by first | exact hE | exact hE.symm))
      ·intro n108
       rw [core_qui (kind_qui hk n75 n80 n108)] at hE
       refine kE tab12 hnt [(7,v124),(74,.b (explains (List.getD (splitB8 (32:Int) l) 1 default) (outS (l.extract (Int.toNat ((((((List.getD (splitB8 (32:Int) l) 0 default).size):Nat):Int)+((((List.getD (splitB8 (32:Int) l) 1 default).size):Nat):Int))+(2:Int))) l.size).data.toList) (quietF (outS (l.extract (Int.toNat ((((((List.getD (splitB8 (32:Int) l) 0 default).size):Nat):Int)+((((List.getD (splitB8 (32:Int) l) 1 default).size):Nat):Int))+(2:Int))) l.size).data.toList))))] 8046166016 [0≤(1:Int),(1:Int)<(((List.length (splitB8 (32:Int) l)):Nat):Int)] ⟨(by first | omega | (have h9 := hrow.2 i; omega)),(by first | omega | (have h9 := hrow.2 i; omega))⟩ ?_
       refine ifb (explains (List.getD (splitB8 (32:Int) l) 1 default) (outS (l.extract (Int.toNat ((((((List.getD (splitB8 (32:Int) l) 0 default).size):Nat):Int)+((((List.getD (splitB8 (32:Int) l) 1 default).size):Nat):Int))+(2:Int))) l.size).data.toList) (quietF (outS (l.extract (Int.toNat ((((((List.getD (splitB8 (32:Int) l) 0 default).size):Nat):Int)+((((List.getD (splitB8 (32:Int) l) 1 default).size):Nat):Int))+(2:Int))) l.size).data.toList))) ?_ ?_
       ·intro h74
        rw [h74] at hE
        refine lE tab12 hnt [(7,v126)] 2 [] tt ?_
        refine blockQ_normal (thenQ_normal ?_)
        refine kE tab12 hnt [(2,v126)] 20 [] tt ?_
        refine W.ret ?_
        exact eT (show (⟨#[121,101,115]⟩:ByteArray)=(deskV l) from (by first | exact hE | exact hE.symm))
       ·intro n74
        rw [n74] at hE
        refine W.skip (blockQ_normal (thenQ_normal ?_))
        refine kE tab12 hnt [(2,v124)] 20 [] tt ?_
        refine W.ret ?_
        exact eT (show (⟨#[110,111]⟩:ByteArray)=(deskV l) from (by first | exact hE | exact hE.symm))
theorem ent12 : Entr prog 12 := ⟨_,func12,rfl,by decide⟩
end Go.Proofs.Tryz

set_option linter.unusedSimpArgs false
set_option linter.unusedVariables false
namespace Go.Proofs.Tryz
open Go.Ab Go.RowKit
def fs6 : FnS := fnS [.s .strs] [.strs] (fun _ (xs,_)=>(.v (.string (runV xs)),[],(∀ i,(xs.getD i default).size≤1100000)))
abbrev T6 : Tab := lk [(12,fs12)]
theorem tab6 : TabOK prog T6 := (TabOK.cons ok12 ent12 TabOK.nil)
theorem ok6 : FnOK prog 6 fs6 := by
 refine FnOK.mk cok func6 rfl rfl rfl ?_
 rintro fl ⟨(xs : List ByteArray),_⟩ hpre F hnt0 _
 have hnt : F.nt=23 := hnt0.trans ntmps6
 replace hpre : (∀ i,(xs.getD i default).size≤1100000) := hpre
 have hz := hpre
 refine W.to (⟨[(0,.sl (.strs xs))],[],[999]⟩) rfl ?_
 refine W.lenOf 0 (.strs xs) (by kernel_rfl) ?_
 intro hl_xs; replace hl_xs : List.length xs≤9223372036854775807 := hl_xs
 refine kE tab6 hnt [(0,.sl (.strs xs))] 2 [] tt ?_
 refine W.seq ?_
 refine kE tab6 hnt [(0,.sl (.strs xs)),(7,.b (decide ((20:Int)<(xs.length:Int))))] 5042 [] tt ?_
 refine ifp ((20:Int)<(xs.length:Int)) ?_ ?_
 ·intro h7
  refine kE tab6 hnt [(2,.v (.string nEmpty))] 2 [] tt ?_
  refine W.ret (thenQ_ret ?_)
  exact eT (show nEmpty=(runV xs) from (by exact run_none h7))
 ·intro n7
  refine W.skip (thenQ_normal ?_)
  refine kE tab6 hnt [(0,.sl (.strs xs)),(3,.v (.string nEmpty))] 2 [] tt ?_
  refine W.seq ?_
  refine kE tab6 hnt [(0,.sl (.strs xs)),(3,.v (.string nEmpty)),(4,.i (0:Int))] 2 [] tt ?_
  refine W.block ?_
  refine W.loop (ι := Nat × ByteArray) (fun (x : Nat × ByteArray)=>match x with | (i,o)=>(⟨[(0,.sl (.strs xs)),(3,.v (.string o)),(4,.i ((i:Nat):Int))],[],[999]⟩:St))
   (fun (x : Nat × ByteArray)=>match x with | (i,o)=>(i≤xs.length)∧(o=runUp xs i))
   (fun (x : Nat × ByteArray)=>match x with | (i,o)=>(xs.length - i:Nat)) (0,nEmpty) ?_ ?_ ?_
  ·exact ⟨oi,(by rfl)⟩
  ·exact Sk
  ·rintro ⟨i,o⟩ hC0
   obtain ⟨hi,ho⟩ := hC0
   have hos : o.size≤31 * i := by rw [ho]; exact run_size xs i
   have hds := desk_size (xs.getD i default)
   refine W.seq ?_
   refine kE tab6 hnt [(0,.sl (.strs xs)),(3,.v (.string o)),(4,.i ((i:Nat):Int)),(11,.b (decide (((i:Nat):Int)<(xs.length:Int))))] 45380 [] tt ?_
   refine ifp (((i:Nat):Int)<(xs.length:Int)) ?_ ?_
   ·intro h11
    refine W.skip (thenQ_normal ?_)
    refine W.seq ?_
    refine W.block ?_
    refine lE tab6 hnt [(0,.sl (.strs xs)),(3,.v (.string ((o++(deskV (xs.getD i default)))++(⟨#[10]⟩:ByteArray)))),(4,.i ((i:Nat):Int))] 363072310689228599 [0≤((i:Nat):Int),((i:Nat):Int)<(xs.length:Int),(xs.getD i default).size≤1100000,o.size+(deskV (xs.getD i default)).size≤9223372036854775807,(o++(deskV (xs.getD i default))).size+(⟨#[10]⟩:ByteArray).size≤9223372036854775807] ⟨om,om,(by exact hz _),(by (try simp only [ByteArray.size_append,ByteArray.size_extract,sz1,sz2,sz3]); omega),(by (try simp only [ByteArray.size_append,ByteArray.size_extract,sz1,sz2,sz3]); omega)⟩ ?_
    refine blockQ_normal (thenQ_normal ?_)
    refine lE tab6 hnt [(0,.sl (.strs xs)),(3,.v (.string ((o++(deskV (xs.getD i default)))++(⟨#[10]⟩:ByteArray)))),(4,.i (((i+1):Nat):Int))] 15869 [Fits .i64 (((i+1):Nat):Int)] fi ?_
    refine thenQ_normal ?_
    refine ⟨((i+1),((o++(deskV (xs.getD i default)))++(⟨#[10]⟩:ByteArray))),⟨oi,(by rw [ho,ByteArray.append_assoc]; rfl)⟩,(show xs.length - (i+1)<xs.length - i from o2),?_⟩
    exact Sk
   ·intro n11
    refine W.exit (thenQ_exit (thenQ_exit (blockQ_hit ?_)))
    refine thenQ_normal ?_
    refine kE tab6 hnt [(2,.v (.string o))] 20 [] tt ?_
    refine W.ret ?_
    exact eT (show o=(runV xs) from (by exact run_all n7 ho hi n11))
theorem ent6 : Entr prog 6 := ⟨_,func6,rfl,by decide⟩
end Go.Proofs.Tryz

set_option linter.unusedSimpArgs false
set_option linter.unusedVariables false
namespace Go.Proofs.Tryz
open Go.Ab Go.RowKit
def fs11 : FnS := fnS [.o] [.str] (fun _ (s,_)=>(.i ((nlC s.data.toList:Nat):Int),[],(s.size≤1100000)))
abbrev T11 : Tab := lk []
theorem tab11 : TabOK prog T11 := TabOK.nil
theorem ok11 : FnOK prog 11 fs11 := by
 refine FnOK.mk cok func11 rfl rfl rfl ?_
 rintro fl ⟨(s:ByteArray),_⟩ hpre F hnt0 _
 have hnt : F.nt=18 := hnt0.trans ntmps11
 replace hpre : (s.size≤1100000) := hpre
 have hz := hpre
 refine W.to (⟨[(0,.v (.string s))],[],[999]⟩) rfl ?_
 refine kE tab11 hnt [(0,.v (.string s))] 2 [] tt ?_
 refine kE tab11 hnt [(0,.v (.string s)),(3,.i (0:Int))] 2 [] tt ?_
 refine W.seq ?_
 refine kE tab11 hnt [(0,.v (.string s)),(3,.i (0:Int)),(4,.i (0:Int))] 2 [] tt ?_
 refine W.block ?_
 refine W.loop (ι := Nat × Nat) (fun (x : Nat × Nat)=>match x with | (i,k)=>(⟨[(0,.v (.string s)),(3,.i ((k:Nat):Int)),(4,.i ((i:Nat):Int))],[],[999]⟩:St))
  (fun (x : Nat × Nat)=>match x with | (i,k)=>(i≤s.size)∧(k=nlUp s i))
  (fun (x : Nat × Nat)=>match x with | (i,k)=>(s.size - i:Nat)) (0,0) ?_ ?_ ?_
 ·exact ⟨oi,(by exact (nlUp_zero s).symm)⟩
 ·exact Sk
 ·rintro ⟨i,k⟩ hC0
  obtain ⟨hi,hk⟩ := hC0
  have hkl : k≤i := by rw [hk]; exact nlUp_le s i
  refine W.seq ?_
  refine kE tab11 hnt [(0,.v (.string s)),(3,.i ((k:Nat):Int)),(4,.i ((i:Nat):Int)),(8,.b (decide (((i:Nat):Int)<((s.size:Nat):Int))))] 45380 [] tt ?_
  refine ifp (((i:Nat):Int)<((s.size:Nat):Int)) ?_ ?_
  ·intro h8
   refine W.skip (thenQ_normal ?_)
   refine W.seq ?_
   refine W.block ?_
   refine kE tab11 hnt [(0,.v (.string s)),(3,.i ((k:Nat):Int)),(4,.i ((i:Nat):Int)),(14,.b (decide ((((UInt8.toNat (List.getD s.data.toList i 0)):Nat):Int)=(10:Int))))] 33229946 [0≤((i:Nat):Int),((i:Nat):Int)<((s.size:Nat):Int)] ⟨om,om⟩ ?_
   refine ifp ((((UInt8.toNat (List.getD s.data.toList i 0)):Nat):Int)=(10:Int)) ?_ ?_
   ·intro h14
    refine lE tab11 hnt [(0,.v (.string s)),(3,.i (((k+1):Nat):Int)),(4,.i ((i:Nat):Int))] 15869 [Fits .i64 (((k+1):Nat):Int)] fi ?_
    refine blockQ_normal (thenQ_normal ?_)
    refine lE tab11 hnt [(0,.v (.string s)),(3,.i (((k+1):Nat):Int)),(4,.i (((i+1):Nat):Int))] 15869 [Fits .i64 (((i+1):Nat):Int)] fi ?_
    refine thenQ_normal ?_
    refine ⟨((i+1),(k+1)),⟨oi,(by first | (rw [hk,nlUp_yes (by omega) (by assumption)]; done) | (rw [hk,nlUp_no (by omega) (by assumption)]; done))⟩,(show s.size - (i+1)<s.size - i from o2),?_⟩
    exact Sk
   ·intro n14
    refine W.skip (blockQ_normal (thenQ_normal ?_))
    refine lE tab11 hnt [(0,.v (.string s)),(3,.i ((k:Nat):Int)),(4,.i (((i+1):Nat):Int))] 15869 [Fits .i64 (((i+1):Nat):Int)] fi ?_
    refine thenQ_normal ?_
    refine ⟨((i+1),k),⟨oi,(by first | (rw [hk,nlUp_yes (by omega) (by assumption)]; done) | (rw [hk,nlUp_no (by omega) (by assumption)]; done))⟩,(show s.size - (i+1)<s.size - i from o2),?_⟩
    exact Sk
  ·intro n8
   refine W.exit (thenQ_exit (thenQ_exit (blockQ_hit ?_)))
   refine thenQ_normal ?_
   refine kE tab11 hnt [(2,.i ((k:Nat):Int))] 20 [] tt ?_
   refine W.ret ?_
   exact eI (show ((k:Nat):Int)=((nlC s.data.toList:Nat):Int) from (by rw [hk,nlUp_all hi (by assumption)]))
theorem ent11 : Entr prog 11 := ⟨_,func11,rfl,by decide⟩
end Go.Proofs.Tryz

set_option linter.unusedSimpArgs false
set_option linter.unusedVariables false
namespace Go.Proofs.Tryz
open Go.Ab Go.RowKit
def fs40 : FnS := fnS [.o] [.call] (fun _ (c,_)=>(.v (.string (callTextB c)),[],(isCall c=true)))
abbrev T40 : Tab := lk [(24,fs24)]
theorem tab40 : TabOK prog T40 := (TabOK.cons ok24 ent24 TabOK.nil)
theorem ok40 : FnOK prog 40 fs40 := by
 refine FnOK.mk cok func40 rfl rfl rfl ?_
 rintro fl ⟨(c:CallD),_⟩ hpre F hnt0 _
 have hnt : F.nt=39 := hnt0.trans ntmps40
 replace hpre : (isCall c=true) := hpre
 have hc := hpre
 refine W.to (⟨[(0,.agg [.i c.proc,.i c.obj,.i c.kind,.i c.arg,.i c.ret,.i c.frm,.i c.to])],[],[999]⟩) rfl ?_
 have hf := call_facts hc
 have s0 := numB_size c.proc
 have s1 := numB_size c.arg
 have s2 := numB_size c.ret
 have s3 := numB_size c.frm
 have s4 := numB_size c.to
 refine kS tab40 hnt [(1,.ptr 1 0)] [(1,⟨59,.fix [.i c.proc,.i c.obj,.i c.kind,.i c.arg,.i c.ret,.i c.frm,.i c.to]⟩)] [1,999] 20 [] tt ?_
 refine kA tab40 hnt [(2,.v (.string ((((((((((numB c.proc)++((⟨#[120,121]⟩:ByteArray).extract (Int.toNat c.obj) (Int.toNat (c.obj+(1:Int)))))++((⟨#[112,116,108]⟩:ByteArray).extract (Int.toNat c.kind) (Int.toNat (c.kind+(1:Int)))))++(numB c.arg))++(⟨#[61]⟩:ByteArray))++(numB c.ret))++(⟨#[64]⟩:ByteArray))++(numB c.frm))++(⟨#[45]⟩:ByteArray))++(numB c.to))))] [(1,⟨59,.fix [.i c.proc,.i c.obj,.i c.kind,.i c.arg,.i c.ret,.i c.frm,.i c.to]⟩)] [1,999] 38525083662712150953092533855505456999633498791798124525755672377438669544169018 [-1000000≤c.proc∧c.proc≤1000000,Fits .i64 (c.obj+(1:Int)),0≤c.obj,c.obj≤(c.obj+(1:Int)),(c.obj+(1:Int))≤((((⟨#[120,121]⟩:ByteArray).size):Nat):Int),(numB c.proc).size+((⟨#[120,121]⟩:ByteArray).extract (Int.toNat c.obj) (Int.toNat (c.obj+(1:Int)))).size≤9223372036854775807,Fits .i64 (c.kind+(1:Int)),0≤c.kind,c.kind≤(c.kind+(1:Int)),(c.kind+(1:Int))≤((((⟨#[112,116,108]⟩:ByteArray).size):Nat):Int),((numB c.proc)++((⟨#[120,121]⟩:ByteArray).extract (Int.toNat c.obj) (Int.toNat (c.obj+(1:Int))))).size+((⟨#[112,116,108]⟩:ByteArray).extract (Int.toNat c.kind) (Int.toNat (c.kind+(1:Int)))).size≤9223372036854775807,-1000000≤c.arg∧c.arg≤1000000,(((numB c.proc)++((⟨#[120,121]⟩:ByteArray).extract (Int.toNat c.obj) (Int.toNat (c.obj+(1:Int)))))++((⟨#[112,116,108]⟩:ByteArray).extract (Int.toNat c.kind) (Int.toNat (c.kind+(1:Int))))).size+(numB c.arg).size≤9223372036854775807,((((numB c.proc)++((⟨#[120,121]⟩:ByteArray).extract (Int.toNat c.obj) (Int.toNat (c.obj+(1:Int)))))++((⟨#[112,116,108]⟩:ByteArray).extract (Int.toNat c.kind) (Int.toNat (c.kind+(1:Int)))))++(numB c.arg)).size+(⟨#[61]⟩:ByteArray).size≤9223372036854775807,-1000000≤c.ret∧c.ret≤1000000,(((((numB c.proc)++((⟨#[120,121]⟩:ByteArray).extract (Int.toNat c.obj) (Int.toNat (c.obj+(1:Int)))))++((⟨#[112,116,108]⟩:ByteArray).extract (Int.toNat c.kind) (Int.toNat (c.kind+(1:Int)))))++(numB c.arg))++(⟨#[61]⟩:ByteArray)).size+(numB c.ret).size≤9223372036854775807,((((((numB c.proc)++((⟨#[120,121]⟩:ByteArray).extract (Int.toNat c.obj) (Int.toNat (c.obj+(1:Int)))))++((⟨#[112,116,108]⟩:ByteArray).extract (Int.toNat c.kind) (Int.toNat (c.kind+(1:Int)))))++(numB c.arg))++(⟨#[61]⟩:ByteArray))++(numB c.ret)).size+(⟨#[64]⟩:ByteArray).size≤9223372036854775807,-1000000≤c.frm∧c.frm≤1000000,(((((((numB c.proc)++((⟨#[120,121]⟩:ByteArray).extract (Int.toNat c.obj) (Int.toNat (c.obj+(1:Int)))))++((⟨#[112,116,108]⟩:ByteArray).extract (Int.toNat c.kind) (Int.toNat (c.kind+(1:Int)))))++(numB c.arg))++(⟨#[61]⟩:ByteArray))++(numB c.ret))++(⟨#[64]⟩:ByteArray)).size+(numB c.frm).size≤9223372036854775807,((((((((numB c.proc)++((⟨#[120,121]⟩:ByteArray).extract (Int.toNat c.obj) (Int.toNat (c.obj+(1:Int)))))++((⟨#[112,116,108]⟩:ByteArray).extract (Int.toNat c.kind) (Int.toNat (c.kind+(1:Int)))))++(numB c.arg))++(⟨#[61]⟩:ByteArray))++(numB c.ret))++(⟨#[64]⟩:ByteArray))++(numB c.frm)).size+(⟨#[45]⟩:ByteArray).size≤9223372036854775807,-1000000≤c.to∧c.to≤1000000,(((((((((numB c.proc)++((⟨#[120,121]⟩:ByteArray).extract (Int.toNat c.obj) (Int.toNat (c.obj+(1:Int)))))++((⟨#[112,116,108]⟩:ByteArray).extract (Int.toNat c.kind) (Int.toNat (c.kind+(1:Int)))))++(numB c.arg))++(⟨#[61]⟩:ByteArray))++(numB c.ret))++(⟨#[64]⟩:ByteArray))++(numB c.frm))++(⟨#[45]⟩:ByteArray)).size+(numB c.to).size≤9223372036854775807] ⟨om,fi,om,om,(by (try simp only [ByteArray.size_append,ByteArray.size_extract,sz1,sz2,sz3,sz10]); omega),(by (try simp only [ByteArray.size_append,ByteArray.size_extract,sz1,sz2,sz3,sz10]); omega),fi,om,om,(by (try simp only [ByteArray.size_append,ByteArray.size_extract,sz1,sz2,sz3,sz10]); omega),(by (try simp only [ByteArray.size_append,ByteArray.size_extract,sz1,sz2,sz3,sz10]); omega),om,(by (try simp only [ByteArray.size_append,ByteArray.size_extract,sz1,sz2,sz3,sz10]); omega),(by (try simp only [ByteArray.size_append,ByteArray.size_extract,sz1,sz2,sz3,sz10]); omega),om,(by (try simp only [ByteArray.size_append,ByteArray.size_extract,sz1,sz2,sz3,sz10]); omega),(by (try simp only [ByteArray.size_append,ByteArray.size_extract,sz1,sz2,sz3,sz10]); omega),om,(by (try simp only [ByteArray.size_append,ByteArray.size_extract,sz1,sz2,sz3,sz10]); omega),(by (try simp only [ByteArray.size_append,ByteArray.size_extract,sz1,sz2,sz3,sz10]); omega),om,(by (try simp only [ByteArray.size_append,ByteArray.size_extract,sz1,sz2,sz3,sz10]); omega)⟩ ?_
 refine W.ret ?_
 exact eT (show ((((((((((numB c.proc)++((⟨#[120,121]⟩:ByteArray).extract (Int.toNat c.obj) (Int.toNat (c.obj+(1:Int)))))++((⟨#[112,116,108]⟩:ByteArray).extract (Int.toNat c.kind) (Int.toNat (c.kind+(1:Int)))))++(numB c.arg))++(⟨#[61]⟩:ByteArray))++(numB c.ret))++(⟨#[64]⟩:ByteArray))++(numB c.frm))++(⟨#[45]⟩:ByteArray))++(numB c.to))=(callTextB c) from (by exact text_val hc))
theorem ent40 : Entr prog 40 := ⟨_,func40,rfl,by decide⟩
end Go.Proofs.Tryz

set_option linter.unusedSimpArgs false
set_option linter.unusedVariables false
namespace Go.Proofs.Tryz
open Go.Ab Go.RowKit
def fs17 : FnS := fnS [.s .calls] [.calls] (fun _ (h,_)=>(.v (.string (histB h)),[],Y))
abbrev T17 : Tab := lk [(39,fs39),(40,fs40)]
theorem tab17 : TabOK prog T17 := (TabOK.cons ok39 ent39 (TabOK.cons ok40 ent40 TabOK.nil))
theorem ok17 : FnOK prog 17 fs17 := by
 refine FnOK.mk cok func17 rfl rfl rfl ?_
 rintro fl ⟨(h : List CallD),_⟩ hpre F hnt0 _
 have hnt : F.nt=26 := hnt0.trans ntmps17
 clear hpre
 refine W.to (⟨[(0,.sl (.calls h))],[],[999]⟩) rfl ?_
 refine W.lenOf 0 (.calls h) (by kernel_rfl) ?_
 intro hl_h; replace hl_h : List.length h≤9223372036854775807 := hl_h
 refine kE tab17 hnt [(0,.sl (.calls h))] 2 [] tt ?_
 refine W.seq ?_
 refine kE tab17 hnt [(0,.sl (.calls h)),(7,.b (!(validHistory h)))] 120116 [] tt ?_
 refine ifb (!(validHistory h)) ?_ ?_
 ·intro h7
  refine kE tab17 hnt [(2,.v (.string nEmpty))] 2 [] tt ?_
  refine W.ret (thenQ_ret ?_)
  exact eT (show nEmpty=(histB h) from (by exact histB_no (not_f h7)))
 ·intro n7
  have hv : validHistory h=true := not_g n7
  have h6 := valid_len hv
  refine W.skip (thenQ_normal ?_)
  refine kE tab17 hnt [(0,.sl (.calls h)),(3,.v (.string nEmpty))] 2 [] tt ?_
  refine W.seq ?_
  refine kE tab17 hnt [(0,.sl (.calls h)),(3,.v (.string nEmpty)),(4,.i (0:Int))] 2 [] tt ?_
  refine W.block ?_
  refine W.loop (ι := Nat × ByteArray) (fun (x : Nat × ByteArray)=>match x with | (i,o)=>(⟨[(0,.sl (.calls h)),(3,.v (.string o)),(4,.i ((i:Nat):Int))],[],[999]⟩:St))
   (fun (x : Nat × ByteArray)=>match x with | (i,o)=>(i≤h.length)∧(o=histUp h i))
   (fun (x : Nat × ByteArray)=>match x with | (i,o)=>(h.length - i:Nat)) (0,nEmpty) ?_ ?_ ?_
  ·exact ⟨oi,(by exact histUp_zero h)⟩
  ·exact Sk
  ·rintro ⟨i,o⟩ hC0
   obtain ⟨hi,ho⟩ := hC0
   have hos : o.size≤16 * i := by rw [ho]; exact hist_size h i
   have hts := text_size (h.getD i default)
   refine W.seq ?_
   refine kE tab17 hnt [(0,.sl (.calls h)),(3,.v (.string o)),(4,.i ((i:Nat):Int)),(11,.b (decide (((i:Nat):Int)<(h.length:Int))))] 45380 [] tt ?_
   refine ifp (((i:Nat):Int)<(h.length:Int)) ?_ ?_
   ·intro h11
    refine W.skip (thenQ_normal ?_)
    refine W.seq ?_
    refine W.block ?_
    refine W.seq ?_
    refine kE tab17 hnt [(0,.sl (.calls h)),(3,.v (.string o)),(4,.i ((i:Nat):Int)),(15,.b (decide ((0:Int)<((i:Nat):Int))))] 560 [] tt ?_
    refine ifp ((0:Int)<((i:Nat):Int)) ?_ ?_
    ·intro h15
     refine lE tab17 hnt [(0,.sl (.calls h)),(3,.v (.string (o++(⟨#[32]⟩:ByteArray)))),(4,.i ((i:Nat):Int))] 15869 [o.size+(⟨#[32]⟩:ByteArray).size≤9223372036854775807] (by (try simp only [ByteArray.size_append,ByteArray.size_extract,sz1,sz2,sz3,sz10]); omega) ?_
     refine thenQ_normal ?_
     refine lE tab17 hnt [(0,.sl (.calls h)),(3,.v (.string ((o++(⟨#[32]⟩:ByteArray))++(callTextB (h.getD i default))))),(4,.i ((i:Nat):Int))] 498027070551710 [0≤((i:Nat):Int),((i:Nat):Int)<(h.length:Int),isCall (h.getD i default)=true,(o++(⟨#[32]⟩:ByteArray)).size+(callTextB (h.getD i default)).size≤9223372036854775807] ⟨om,om,(by have h9 := valid_call hv _ (getD_mem h default (show i<h.length by omega)); exact h9),(by (try simp only [ByteArray.size_append,ByteArray.size_extract,sz1,sz2,sz3,sz10]); omega)⟩ ?_
     refine blockQ_normal (thenQ_normal ?_)
     refine lE tab17 hnt [(0,.sl (.calls h)),(3,.v (.string ((o++(⟨#[32]⟩:ByteArray))++(callTextB (h.getD i default))))),(4,.i (((i+1):Nat):Int))] 15869 [Fits .i64 (((i+1):Nat):Int)] fi ?_
     refine thenQ_normal ?_
     refine ⟨((i+1),((o++(⟨#[32]⟩:ByteArray))++(callTextB (h.getD i default)))),⟨oi,(by first | exact histUp_next ho (by omega) h15 | exact histUp_one ho (by omega) n15)⟩,(show h.length - (i+1)<h.length - i from o2),?_⟩
     exact Sk
    ·intro n15
     refine W.skip (thenQ_normal ?_)
     refine lE tab17 hnt [(0,.sl (.calls h)),(3,.v (.string (o++(callTextB (h.getD i default))))),(4,.i ((i:Nat):Int))] 498027070551710 [0≤((i:Nat):Int),((i:Nat):Int)<(h.length:Int),isCall (h.getD i default)=true,o.size+(callTextB (h.getD i default)).size≤9223372036854775807] ⟨om,om,(by have h9 := valid_call hv _ (getD_mem h default (show i<h.length by omega)); exact h9),(by (try simp only [ByteArray.size_append,ByteArray.size_extract,sz1,sz2,sz3,sz10]); omega)⟩ ?_
     refine blockQ_normal (thenQ_normal ?_)
     refine lE tab17 hnt [(0,.sl (.calls h)),(3,.v (.string (o++(callTextB (h.getD i default))))),(4,.i (((i+1):Nat):Int))] 15869 [Fits .i64 (((i+1):Nat):Int)] fi ?_
     refine thenQ_normal ?_
     refine ⟨((i+1),(o++(callTextB (h.getD i default)))),⟨oi,(by first | exact histUp_next ho (by omega) h15 | exact histUp_one ho (by omega) n15)⟩,(show h.length - (i+1)<h.length - i from o2),?_⟩
     exact Sk
   ·intro n11
    refine W.exit (thenQ_exit (thenQ_exit (blockQ_hit ?_)))
    refine thenQ_normal ?_
    refine kE tab17 hnt [(2,.v (.string o))] 20 [] tt ?_
    refine W.ret ?_
    exact eT (show o=(histB h) from (by exact histUp_all hv ho (by omega)))
theorem ent17 : Entr prog 17 := ⟨_,func17,rfl,by decide⟩
end Go.Proofs.Tryz

set_option linter.unusedSimpArgs false
set_option linter.unusedVariables false
namespace Go.Proofs.Tryz
open Go.Ab Go.RowKit
def pre14 : List AV→List AV→Prop := preP [.bytes] [] (fun (code,_) _=>Y)
def rel14 : RelS := relP [.bytes] [] (ι := (List UInt8)) (fun (code,_) _ l=>Y) (fun (code,_) _ l=>(.ptr 0 0,[⟨55,.fix [.sl (.bytes l),.i (0:Int)]⟩],[]))
abbrev T14 : Tab := lk []
theorem tab14 : TabOK prog T14 := TabOK.nil
theorem rok14 : RelOK prog 14 none [.s .bytes] pre14 rel14 := by
 refine RelOK.mk cok func14 rfl rfl rfl ?_
 rintro ⟨(code : List UInt8),_⟩ _ hpre F hnt0
 have hnt : F.nt=11 := hnt0.trans ntmps14
 clear hpre
 refine W.to (⟨[(0,.sl (.bytes code))],[],[998,999]⟩) rfl ?_
 refine kE tab14 hnt [(0,.sl (.bytes code))] 2 [] tt ?_
 refine W.seq ?_
 refine kE tab14 hnt [(0,.sl (.bytes code)),(5,.b (decide ((2000:Int)<(code.length:Int))))] 5042 [] tt ?_
 refine ifp ((2000:Int)<(code.length:Int)) ?_ ?_
 ·intro h5
  refine lE tab14 hnt [(0,.sl (.bytes (List.take 2000 code)))] 12149345 [0≤(0:Int),(0:Int)≤(2000:Int),(2000:Int)≤(code.length:Int)] ⟨om,om,om⟩ ?_
  refine thenQ_normal ?_
  refine kS tab14 hnt [(2,.ptr 10 0)] [(10,⟨55,.fix [.sl (.bytes (List.take 2000 code)),.i (0:Int)]⟩)] [10,998,999] 14654 [] tt ?_
  refine W.ret ?_
  exact endP_ret ((List.take 2000 code)) (show Y from trivial) [(0,10)] (.ptr 10 0) (by kernel_rfl) (@cast ((((10:Nat)=10)∧((0:Nat)=0)∧((0:Nat) ∈ ([0] : List Nat)))∧((((55:Nat)=55)∧((Sd (.bytes (List.take 2000 code)))∧(Si (0:Int))∧Y)∧((0:Nat) ∈ ([0] : List Nat)))∧Y)∧(true=true)∧((([] : List Nat)=[])∧Y)∧(false=true→(10:Nat)=998)) _ (by kernel_rfl) ⟨⟨rfl,rfl,(by decide)⟩,⟨⟨rfl,⟨rfl,rfl,tt⟩,(by decide)⟩,tt⟩,rfl,⟨rfl,tt⟩,(fun h=>by cases h)⟩)
 ·intro n5
  refine W.skip (thenQ_normal ?_)
  refine kS tab14 hnt [(2,.ptr 10 0)] [(10,⟨55,.fix [.sl (.bytes code),.i (0:Int)]⟩)] [10,998,999] 14654 [] tt ?_
  refine W.ret ?_
  exact endP_ret (code) (show Y from trivial) [(0,10)] (.ptr 10 0) (by kernel_rfl) (@cast ((((10:Nat)=10)∧((0:Nat)=0)∧((0:Nat) ∈ ([0] : List Nat)))∧((((55:Nat)=55)∧((Sd (.bytes code))∧(Si (0:Int))∧Y)∧((0:Nat) ∈ ([0] : List Nat)))∧Y)∧(true=true)∧((([] : List Nat)=[])∧Y)∧(false=true→(10:Nat)=998)) _ (by kernel_rfl) ⟨⟨rfl,rfl,(by decide)⟩,⟨⟨rfl,⟨rfl,rfl,tt⟩,(by decide)⟩,tt⟩,rfl,⟨rfl,tt⟩,(fun h=>by cases h)⟩)
theorem ent14 : Entr prog 14 := ⟨_,func14,rfl,by decide⟩
end Go.Proofs.Tryz

set_option linter.unusedSimpArgs false
set_option linter.unusedVariables false
namespace Go.Proofs.Tryz
open Go.Ab Go.RowKit
def pre19 : List AV→List AV→Prop := preP [.int] [.bytes,.int] (fun (n,_) (l,p,_)=>(0≤p∧p≤1000000))
def rel19 : RelS := relP [.int] [.bytes,.int] (ι := Int × Int) (fun (n,_) (l,p,_) (v,q)=>(0≤v∧v<max n 1)∧(q=p+1)) (fun (n,_) (l,p,_) (v,q)=>(.i v,[],[.sl (.bytes l),.i q]))
abbrev T19 : Tab := lk []
theorem tab19 : TabOK prog T19 := TabOK.nil
theorem rok19 : RelOK prog 19 (some 55) [.o] pre19 rel19 := by
 refine RelOK.mk cok func19 rfl rfl rfl ?_
 rintro ⟨(n:Int),_⟩ ⟨(l : List UInt8),(p:Int),_⟩ hpre F hnt0
 have hnt : F.nt=99 := hnt0.trans ntmps19
 replace hpre : (0≤p∧p≤1000000) := hpre
 have hp := hpre
 refine W.to (⟨[(0,.ptr 998 0),(1,.i n)],[(998,⟨55,.fix [.sl (.bytes l),.i p]⟩)],[998,999]⟩) rfl ?_
 have hu : ∀ i : Nat,((UInt8.toNat (l.getD i default):Nat):Int)≤255 := fun i=>by have := (l.getD i default).toNat_lt; omega
 refine kE tab19 hnt [(0,.ptr 998 0),(1,.i n)] 2 [] tt ?_
 refine kS tab19 hnt [(0,.ptr 998 0),(1,.i n)] [(998,⟨55,.fix [.sl (.bytes l),.i (p+(1:Int))]⟩)] [998,999] 28773234335 [Fits .i64 (p+(1:Int))] fi ?_
 refine W.seq ?_
 refine kE tab19 hnt [(0,.ptr 998 0),(1,.i n),(24,.b ((decide (n<(1:Int))) || (decide ((l.length:Int)=(0:Int)))))] 12132702148106 ((fun (Z1:Bool)=>([(!Z1)=true→Y,(!Z1)=true→(((!Z1)=true)∧Y),(!Z1)=true→(((!Z1)=true)∧Y),(!Z1)=true→(((!Z1)=true)∧Y),(!Z1)=true→(((!Z1)=true)∧Y),(!Z1)=true→((((!Z1)=true)∧Y)∧(Y∧Y)),Z1=true→Y,Z1=false→((!Z1)=true)∧Y]:PL)) (decide (n<(1:Int)))) ⟨(fun _=>trivial),(fun hG=>⟨hG,tt⟩),(fun hG=>⟨hG,tt⟩),(fun hG=>⟨hG,tt⟩),(fun hG=>⟨hG,tt⟩),(fun hG=>⟨⟨hG,tt⟩,tt,tt⟩),(fun _=>trivial),(fun hp=>⟨(not_t hp),tt⟩)⟩ ?_
 refine ifb ((decide (n<(1:Int))) || (decide ((l.length:Int)=(0:Int)))) ?_ ?_
 ·intro h24
  refine kE tab19 hnt [(4,.i (0:Int))] 2 [] tt ?_
  refine W.ret (thenQ_ret ?_)
  exact endP_ret ((0:Int),(p+(1:Int))) (show (0≤(0:Int)∧(0:Int)<max n 1)∧((p+(1:Int))=p+1) from ⟨(by omega),(by first | assumption | omega | rfl | (simp; done) | (simp; omega))⟩) [(0,998)] (.i (0:Int)) (by kernel_rfl) (@cast ((Si (0:Int))∧((((55:Nat)=55)∧((Sd (.bytes l))∧(Si (p+(1:Int)))∧Y)∧((0:Nat) ∈ ([0] : List Nat)))∧Y)∧(true=true)∧((([] : List Nat)=[])∧Y)∧(true=true→(998:Nat)=998)) _ (by kernel_rfl) ⟨rfl,⟨⟨rfl,⟨rfl,rfl,tt⟩,(by decide)⟩,tt⟩,rfl,⟨rfl,tt⟩,(fun _=>rfl)⟩)
 ·intro n24
  have n24_0 : ¬ (n<(1:Int)) := of_decide_eq_false (or_l n24)
  have n24_1 : ¬ ((l.length:Int)=(0:Int)) := of_decide_eq_false (or_r n24)
  refine W.skip (thenQ_normal ?_)
  refine kE tab19 hnt [(0,.ptr 998 0),(1,.i n),(5,.i ((p+(1:Int)) - (1:Int)))] 11568683 [Fits .i64 ((p+(1:Int)) - (1:Int))] fi ?_
  refine W.seq ?_
  refine kE tab19 hnt [(0,.ptr 998 0),(1,.i n),(5,.i ((p+(1:Int)) - (1:Int))),(36,.b (decide (((p+(1:Int)) - (1:Int))<(l.length:Int))))] 33082202 [] tt ?_
  refine ifp (((p+(1:Int)) - (1:Int))<(l.length:Int)) ?_ ?_
  ·intro h36
   have hu1 := hu (Int.toNat (p+1 - 1))
   refine kE tab19 hnt [(4,.i (Int.tmod (((UInt8.toNat (l.getD (Int.toNat ((p+(1:Int)) - (1:Int))) default)):Nat):Int) n))] 4481997331272500 [0≤((p+(1:Int)) - (1:Int)),((p+(1:Int)) - (1:Int))<(l.length:Int),Fits .i64 (((UInt8.toNat (l.getD (Int.toNat ((p+(1:Int)) - (1:Int))) default)):Nat):Int),n≠0] ⟨om,om,(by exact fits_i64 (by (first | omega | (simp only [List.length_set]; done) | (simp only [ln] at *; omega) | assumption)) (by (first | omega | (simp only [List.length_set]; done) | (simp only [ln] at *; omega) | assumption))),om⟩ ?_
   refine W.ret (thenQ_ret ?_)
   exact endP_ret ((Int.tmod (((UInt8.toNat (l.getD (Int.toNat ((p+(1:Int)) - (1:Int))) default)):Nat):Int) n),(p+(1:Int))) (show (0≤(Int.tmod (((UInt8.toNat (l.getD (Int.toNat ((p+(1:Int)) - (1:Int))) default)):Nat):Int) n)∧(Int.tmod (((UInt8.toNat (l.getD (Int.toNat ((p+(1:Int)) - (1:Int))) default)):Nat):Int) n)<max n 1)∧((p+(1:Int))=p+1) from ⟨(by exact ⟨Int.tmod_nonneg _ (by omega),by have := Int.tmod_lt_of_pos ((UInt8.toNat (l.getD (Int.toNat (p+1 - 1)) default):Nat):Int) (show 0<n by omega); omega⟩),(by first | assumption | omega | rfl | (simp; done) | (simp; omega))⟩) [(0,998)] (.i (Int.tmod (((UInt8.toNat (l.getD (Int.toNat ((p+(1:Int)) - (1:Int))) default)):Nat):Int) n)) (by kernel_rfl) (@cast ((Si (Int.tmod (((UInt8.toNat (l.getD (Int.toNat ((p+(1:Int)) - (1:Int))) default)):Nat):Int) n))∧((((55:Nat)=55)∧((Sd (.bytes l))∧(Si (p+(1:Int)))∧Y)∧((0:Nat) ∈ ([0] : List Nat)))∧Y)∧(true=true)∧((([] : List Nat)=[])∧Y)∧(true=true→(998:Nat)=998)) _ (by kernel_rfl) ⟨rfl,⟨⟨rfl,⟨rfl,rfl,tt⟩,(by decide)⟩,tt⟩,rfl,⟨rfl,tt⟩,(fun _=>rfl)⟩)
  ·intro n36
   refine W.skip (thenQ_normal ?_)
   have hl0 : 0<(List.length l:Int) := by omega
   have hm1 := Int.tmod_lt_of_pos (p+1 - 1) hl0
   have hm2 := Int.tmod_nonneg (List.length l:Int) (show 0≤p+1 - 1 by omega)
   have hm3 := Int.tmod_lt_of_pos ((p+1 - 1) * 7+3) hl0
   have hm4 := Int.tmod_nonneg (List.length l:Int) (show 0≤(p+1 - 1) * 7+3 by omega)
   have hd1 : 0≤Int.tdiv (p+1 - 1) (List.length l:Int) := Int.tdiv_nonneg (by omega) (by omega)
   have hd2 : Int.tdiv (p+1 - 1) (List.length l:Int)≤p+1 - 1 := Int.tdiv_le_self _ (by omega)
   have hu2 := hu (Int.toNat (Int.tmod (p+1 - 1) (List.length l:Int)))
   have hu3 := hu (Int.toNat (Int.tmod ((p+1 - 1) * 7+3) (List.length l:Int)))
   refine kA tab19 hnt [(1,.i n),(6,.i (((((((UInt8.toNat (l.getD (Int.toNat (Int.tmod ((p+(1:Int)) - (1:Int)) (l.length:Int))) default)):Nat):Int) * (131:Int))+((((UInt8.toNat (l.getD (Int.toNat (Int.tmod ((((p+(1:Int)) - (1:Int)) * (7:Int))+(3:Int)) (l.length:Int))) default)):Nat):Int) * (1117:Int)))+(((p+(1:Int)) - (1:Int)) * (29:Int)))+((Int.tdiv ((p+(1:Int)) - (1:Int)) (l.length:Int)) * (53:Int))))] [(998,⟨55,.fix [.sl (.bytes l),.i (p+(1:Int))]⟩)] [998,999] 652444763375124049247349698859180996330146632954764566666389239438710022389 [(l.length:Int)≠0,0≤(Int.tmod ((p+(1:Int)) - (1:Int)) (l.length:Int)),(Int.tmod ((p+(1:Int)) - (1:Int)) (l.length:Int))<(l.length:Int),Fits .i64 (((UInt8.toNat (l.getD (Int.toNat (Int.tmod ((p+(1:Int)) - (1:Int)) (l.length:Int))) default)):Nat):Int),Fits .i64 ((((UInt8.toNat (l.getD (Int.toNat (Int.tmod ((p+(1:Int)) - (1:Int)) (l.length:Int))) default)):Nat):Int) * (131:Int)),Fits .i64 (((p+(1:Int)) - (1:Int)) * (7:Int)),Fits .i64 ((((p+(1:Int)) - (1:Int)) * (7:Int))+(3:Int)),(l.length:Int)≠0,0≤(Int.tmod ((((p+(1:Int)) - (1:Int)) * (7:Int))+(3:Int)) (l.length:Int)),(Int.tmod ((((p+(1:Int)) - (1:Int)) * (7:Int))+(3:Int)) (l.length:Int))<(l.length:Int),Fits .i64 (((UInt8.toNat (l.getD (Int.toNat (Int.tmod ((((p+(1:Int)) - (1:Int)) * (7:Int))+(3:Int)) (l.length:Int))) default)):Nat):Int),Fits .i64 ((((UInt8.toNat (l.getD (Int.toNat (Int.tmod ((((p+(1:Int)) - (1:Int)) * (7:Int))+(3:Int)) (l.length:Int))) default)):Nat):Int) * (1117:Int)),Fits .i64 (((((UInt8.toNat (l.getD (Int.toNat (Int.tmod ((p+(1:Int)) - (1:Int)) (l.length:Int))) default)):Nat):Int) * (131:Int))+((((UInt8.toNat (l.getD (Int.toNat (Int.tmod ((((p+(1:Int)) - (1:Int)) * (7:Int))+(3:Int)) (l.length:Int))) default)):Nat):Int) * (1117:Int))),Fits .i64 (((p+(1:Int)) - (1:Int)) * (29:Int)),Fits .i64 ((((((UInt8.toNat (l.getD (Int.toNat (Int.tmod ((p+(1:Int)) - (1:Int)) (l.length:Int))) default)):Nat):Int) * (131:Int))+((((UInt8.toNat (l.getD (Int.toNat (Int.tmod ((((p+(1:Int)) - (1:Int)) * (7:Int))+(3:Int)) (l.length:Int))) default)):Nat):Int) * (1117:Int)))+(((p+(1:Int)) - (1:Int)) * (29:Int))),(l.length:Int)≠0,Fits .i64 (Int.tdiv ((p+(1:Int)) - (1:Int)) (l.length:Int)),Fits .i64 ((Int.tdiv ((p+(1:Int)) - (1:Int)) (l.length:Int)) * (53:Int)),Fits .i64 (((((((UInt8.toNat (l.getD (Int.toNat (Int.tmod ((p+(1:Int)) - (1:Int)) (l.length:Int))) default)):Nat):Int) * (131:Int))+((((UInt8.toNat (l.getD (Int.toNat (Int.tmod ((((p+(1:Int)) - (1:Int)) * (7:Int))+(3:Int)) (l.length:Int))) default)):Nat):Int) * (1117:Int)))+(((p+(1:Int)) - (1:Int)) * (29:Int)))+((Int.tdiv ((p+(1:Int)) - (1:Int)) (l.length:Int)) * (53:Int)))] ⟨om,om,om,(by exact fits_i64 (by (first | omega | (simp only [List.length_set]; done) | (simp only [ln] at *; omega) | assumption)) (by (first | omega | (simp only [List.length_set]; done) | (simp only [ln] at *; omega) | assumption))),(by exact fits_i64 (by (first | omega | (simp only [List.length_set]; done) | (simp only [ln] at *; omega) | assumption)) (by (first | omega | (simp only [List.length_set]; done) | (simp only [ln] at *; omega) | assumption))),fi,fi,om,om,om,(by exact fits_i64 (by (first | omega | (simp only [List.length_set]; done) | (simp only [ln] at *; omega) | assumption)) (by (first | omega | (simp only [List.length_set]; done) | (simp only [ln] at *; omega) | assumption))),(by exact fits_i64 (by (first | omega | (simp only [List.length_set]; done) | (simp only [ln] at *; omega) | assumption)) (by (first | omega | (simp only [List.length_set]; done) | (simp only [ln] at *; omega) | assumption))),(by exact fits_i64 (by (first | omega | (simp only [List.length_set]; done) | (simp only [ln] at *; omega) | assumption)) (by (first | omega | (simp only [List.length_set]; done) | (simp only [ln] at *; omega) | assumption))),fi,(by exact fits_i64 (by (first | omega | (simp only [List.length_set]; done) | (simp only [ln] at *; omega) | assumption)) (by (first | omega | (simp only [List.length_set]; done) | (simp only [ln] at *; omega) | assumption))),om,fi,fi,(by exact fits_i64 (by (first | omega | (simp only [List.length_set]; done) | (simp only [ln] at *; omega) | assumption)) (by (first | omega | (simp only [List.length_set]; done) | (simp only [ln] at *; omega) | assumption)))⟩ ?_
   refine kE tab19 hnt [(1,.i n),(6,.i (bitsI .xor .i64 (((((((UInt8.toNat (l.getD (Int.toNat (Int.tmod ((p+(1:Int)) - (1:Int)) (l.length:Int))) default)):Nat):Int) * (131:Int))+((((UInt8.toNat (l.getD (Int.toNat (Int.tmod ((((p+(1:Int)) - (1:Int)) * (7:Int))+(3:Int)) (l.length:Int))) default)):Nat):Int) * (1117:Int)))+(((p+(1:Int)) - (1:Int)) * (29:Int)))+((Int.tdiv ((p+(1:Int)) - (1:Int)) (l.length:Int)) * (53:Int))) (Int.tdiv (((((((UInt8.toNat (l.getD (Int.toNat (Int.tmod ((p+(1:Int)) - (1:Int)) (l.length:Int))) default)):Nat):Int) * (131:Int))+((((UInt8.toNat (l.getD (Int.toNat (Int.tmod ((((p+(1:Int)) - (1:Int)) * (7:Int))+(3:Int)) (l.length:Int))) default)):Nat):Int) * (1117:Int)))+(((p+(1:Int)) - (1:Int)) * (29:Int)))+((Int.tdiv ((p+(1:Int)) - (1:Int)) (l.length:Int)) * (53:Int))) (64:Int))))] 808070924 [(64:Int)≠0,Fits .i64 (Int.tdiv (((((((UInt8.toNat (l.getD (Int.toNat (Int.tmod ((p+(1:Int)) - (1:Int)) (l.length:Int))) default)):Nat):Int) * (131:Int))+((((UInt8.toNat (l.getD (Int.toNat (Int.tmod ((((p+(1:Int)) - (1:Int)) * (7:Int))+(3:Int)) (l.length:Int))) default)):Nat):Int) * (1117:Int)))+(((p+(1:Int)) - (1:Int)) * (29:Int)))+((Int.tdiv ((p+(1:Int)) - (1:Int)) (l.length:Int)) * (53:Int))) (64:Int))] ⟨(by decide),(by exact fits_i64 (Int.le_trans (by omega) (Int.tdiv_nonneg (by omega) (by omega))) (Int.le_trans (Int.tdiv_le_self _ (by omega)) (by omega)))⟩ ?_
   refine kE tab19 hnt [(4,.i (Int.tmod (bitsI .xor .i64 (((((((UInt8.toNat (l.getD (Int.toNat (Int.tmod ((p+(1:Int)) - (1:Int)) (l.length:Int))) default)):Nat):Int) * (131:Int))+((((UInt8.toNat (l.getD (Int.toNat (Int.tmod ((((p+(1:Int)) - (1:Int)) * (7:Int))+(3:Int)) (l.length:Int))) default)):Nat):Int) * (1117:Int)))+(((p+(1:Int)) - (1:Int)) * (29:Int)))+((Int.tdiv ((p+(1:Int)) - (1:Int)) (l.length:Int)) * (53:Int))) (Int.tdiv (((((((UInt8.toNat (l.getD (Int.toNat (Int.tmod ((p+(1:Int)) - (1:Int)) (l.length:Int))) default)):Nat):Int) * (131:Int))+((((UInt8.toNat (l.getD (Int.toNat (Int.tmod ((((p+(1:Int)) - (1:Int)) * (7:Int))+(3:Int)) (l.length:Int))) default)):Nat):Int) * (1117:Int)))+(((p+(1:Int)) - (1:Int)) * (29:Int)))+((Int.tdiv ((p+(1:Int)) - (1:Int)) (l.length:Int)) * (53:Int))) (64:Int))) n))] 142823 [n≠0] om ?_
   refine W.ret ?_
   exact endP_ret ((Int.tmod (bitsI .xor .i64 (((((((UInt8.toNat (l.getD (Int.toNat (Int.tmod ((p+(1:Int)) - (1:Int)) (l.length:Int))) default)):Nat):Int) * (131:Int))+((((UInt8.toNat (l.getD (Int.toNat (Int.tmod ((((p+(1:Int)) - (1:Int)) * (7:Int))+(3:Int)) (l.length:Int))) default)):Nat):Int) * (1117:Int)))+(((p+(1:Int)) - (1:Int)) * (29:Int)))+((Int.tdiv ((p+(1:Int)) - (1:Int)) (l.length:Int)) * (53:Int))) (Int.tdiv (((((((UInt8.toNat (l.getD (Int.toNat (Int.tmod ((p+(1:Int)) - (1:Int)) (l.length:Int))) default)):Nat):Int) * (131:Int))+((((UInt8.toNat (l.getD (Int.toNat (Int.tmod ((((p+(1:Int)) - (1:Int)) * (7:Int))+(3:Int)) (l.length:Int))) default)):Nat):Int) * (1117:Int)))+(((p+(1:Int)) - (1:Int)) * (29:Int)))+((Int.tdiv ((p+(1:Int)) - (1:Int)) (l.length:Int)) * (53:Int))) (64:Int))) n),(p+(1:Int))) (show (0≤(Int.tmod (bitsI .xor .i64 (((((((UInt8.toNat (l.getD (Int.toNat (Int.tmod ((p+(1:Int)) - (1:Int)) (l.length:Int))) default)):Nat):Int) * (131:Int))+((((UInt8.toNat (l.getD (Int.toNat (Int.tmod ((((p+(1:Int)) - (1:Int)) * (7:Int))+(3:Int)) (l.length:Int))) default)):Nat):Int) * (1117:Int)))+(((p+(1:Int)) - (1:Int)) * (29:Int)))+((Int.tdiv ((p+(1:Int)) - (1:Int)) (l.length:Int)) * (53:Int))) (Int.tdiv (((((((UInt8.toNat (l.getD (Int.toNat (Int.tmod ((p+(1:Int)) - (1:Int)) (l.length:Int))) default)):Nat):Int) * (131:Int))+((((UInt8.toNat (l.getD (Int.toNat (Int.tmod ((((p+(1:Int)) - (1:Int)) * (7:Int))+(3:Int)) (l.length:Int))) default)):Nat):Int) * (1117:Int)))+(((p+(1:Int)) - (1:Int)) * (29:Int)))+((Int.tdiv ((p+(1:Int)) - (1:Int)) (l.length:Int)) * (53:Int))) (64:Int))) n)∧(Int.tmod (bitsI .xor .i64 (((((((UInt8.toNat (l.getD (Int.toNat (Int.tmod ((p+(1:Int)) - (1:Int)) (l.length:Int))) default)):Nat):Int) * (131:Int))+((((UInt8.toNat (l.getD (Int.toNat (Int.tmod ((((p+(1:Int)) - (1:Int)) * (7:Int))+(3:Int)) (l.length:Int))) default)):Nat):Int) * (1117:Int)))+(((p+(1:Int)) - (1:Int)) * (29:Int)))+((Int.tdiv ((p+(1:Int)) - (1:Int)) (l.length:Int)) * (53:Int))) (Int.tdiv (((((((UInt8.toNat (l.getD (Int.toNat (Int.tmod ((p+(1:Int)) - (1:Int)) (l.length:Int))) default)):Nat):Int) * (131:Int))+((((UInt8.toNat (l.getD (Int.toNat (Int.tmod ((((p+(1:Int)) - (1:Int)) * (7:Int))+(3:Int)) (l.length:Int))) default)):Nat):Int) * (1117:Int)))+(((p+(1:Int)) - (1:Int)) * (29:Int)))+((Int.tdiv ((p+(1:Int)) - (1:Int)) (l.length:Int)) * (53:Int))) (64:Int))) n)<max n 1)∧((p+(1:Int))=p+1) from ⟨(by exact ⟨Int.tmod_nonneg _ (xor_nonneg (by omega) (Int.tdiv_nonneg (by omega) (by omega)) (by omega) (Int.le_trans (Int.tdiv_le_self _ (by omega)) (by omega))),by refine Int.lt_of_lt_of_le (Int.tmod_lt_of_pos _ (show 0<n by omega)) (by omega)⟩),(by first | assumption | omega | rfl | (simp; done) | (simp; omega))⟩) [(0,998)] (.i (Int.tmod (bitsI .xor .i64 (((((((UInt8.toNat (l.getD (Int.toNat (Int.tmod ((p+(1:Int)) - (1:Int)) (l.length:Int))) default)):Nat):Int) * (131:Int))+((((UInt8.toNat (l.getD (Int.toNat (Int.tmod ((((p+(1:Int)) - (1:Int)) * (7:Int))+(3:Int)) (l.length:Int))) default)):Nat):Int) * (1117:Int)))+(((p+(1:Int)) - (1:Int)) * (29:Int)))+((Int.tdiv ((p+(1:Int)) - (1:Int)) (l.length:Int)) * (53:Int))) (Int.tdiv (((((((UInt8.toNat (l.getD (Int.toNat (Int.tmod ((p+(1:Int)) - (1:Int)) (l.length:Int))) default)):Nat):Int) * (131:Int))+((((UInt8.toNat (l.getD (Int.toNat (Int.tmod ((((p+(1:Int)) - (1:Int)) * (7:Int))+(3:Int)) (l.length:Int))) default)):Nat):Int) * (1117:Int)))+(((p+(1:Int)) - (1:Int)) * (29:Int)))+((Int.tdiv ((p+(1:Int)) - (1:Int)) (l.length:Int)) * (53:Int))) (64:Int))) n)) (by kernel_rfl) (@cast ((Si (Int.tmod (bitsI .xor .i64 (((((((UInt8.toNat (l.getD (Int.toNat (Int.tmod ((p+(1:Int)) - (1:Int)) (l.length:Int))) default)):Nat):Int) * (131:Int))+((((UInt8.toNat (l.getD (Int.toNat (Int.tmod ((((p+(1:Int)) - (1:Int)) * (7:Int))+(3:Int)) (l.length:Int))) default)):Nat):Int) * (1117:Int)))+(((p+(1:Int)) - (1:Int)) * (29:Int)))+((Int.tdiv ((p+(1:Int)) - (1:Int)) (l.length:Int)) * (53:Int))) (Int.tdiv (((((((UInt8.toNat (l.getD (Int.toNat (Int.tmod ((p+(1:Int)) - (1:Int)) (l.length:Int))) default)):Nat):Int) * (131:Int))+((((UInt8.toNat (l.getD (Int.toNat (Int.tmod ((((p+(1:Int)) - (1:Int)) * (7:Int))+(3:Int)) (l.length:Int))) default)):Nat):Int) * (1117:Int)))+(((p+(1:Int)) - (1:Int)) * (29:Int)))+((Int.tdiv ((p+(1:Int)) - (1:Int)) (l.length:Int)) * (53:Int))) (64:Int))) n))∧((((55:Nat)=55)∧((Sd (.bytes l))∧(Si (p+(1:Int)))∧Y)∧((0:Nat) ∈ ([0] : List Nat)))∧Y)∧(true=true)∧((([] : List Nat)=[])∧Y)∧(true=true→(998:Nat)=998)) _ (by kernel_rfl) ⟨rfl,⟨⟨rfl,⟨rfl,rfl,tt⟩,(by decide)⟩,tt⟩,rfl,⟨rfl,tt⟩,(fun _=>rfl)⟩)
theorem ent19 : Entr prog 19 := ⟨_,func19,rfl,by decide⟩
end Go.Proofs.Tryz

set_option linter.unusedSimpArgs false
set_option linter.unusedVariables false
namespace Go.Proofs.Tryz
open Go.Ab Go.RowKit
def pre15 : List AV→List AV→Prop := preP [.ints] [.bytes,.int] (fun (xs,_) (l,p,_)=>(0≤p∧p≤1000000)∧(0<xs.length)∧(xs.length≤1000))
def rel15 : RelS := relP [.ints] [.bytes,.int] (ι := Int × Int) (fun (xs,_) (l,p,_) (v,q)=>(v ∈ xs)∧(q=p+1)) (fun (xs,_) (l,p,_) (v,q)=>(.i v,[],[.sl (.bytes l),.i q]))
abbrev T15 : Tab := lk []
theorem tab15 : TabOK prog T15 := TabOK.nil
abbrev v150 (xs:List Int):AV:=.i (xs.length:Int)
theorem rok15 : RelOK prog 15 (some 55) [.s .ints] pre15 rel15 := by
 refine RelOK.mk cok func15 rfl rfl rfl ?_
 rintro ⟨(xs : List Int),_⟩ ⟨(l : List UInt8),(p:Int),_⟩ hpre F hnt0
 have hnt : F.nt=12 := hnt0.trans ntmps15
 replace hpre : (0≤p∧p≤1000000)∧(0<xs.length)∧(xs.length≤1000) := hpre
 obtain ⟨hp,hx,hx2⟩ := hpre
 refine W.to (⟨[(0,.ptr 998 0),(1,.sl (.ints xs))],[(998,⟨55,.fix [.sl (.bytes l),.i p]⟩)],[998,999]⟩) rfl ?_
 refine kE tab15 hnt [(0,.ptr 998 0),(1,.sl (.ints xs))] 2 [] tt ?_
 refine W.seq (W.wi ?_)
 refine WI.runT cok tab15 hnt [] 4 4 (⟨[(0,.ptr 998 0),(1,.sl (.ints xs)),(5,.sl (.ints xs)),(6,.ptr 998 0),(7,.sl (.ints xs)),(8,(v150 xs))],[(998,⟨55,.fix [.sl (.bytes l),.i p]⟩)],[998,999]⟩)
  (Y∧Y∧Y∧Y∧Y) (by kernel_rfl) rfl
  ⟨tt,tt,tt,tt,tt⟩ ?_
 refine WI.call [.ptr 998 0,(v150 xs)] [.sl (.bytes l),.i p] [(v150 xs)] [(v150 xs)] (some (55,998)) (Y) (Y∧Y) none rok19 ent19 hnt rfl rfl (wanted_none rfl) (by kernel_rfl) (by kernel_rfl) (by kernel_rfl) ⟨tt,tt,tt⟩
  (@cast (0≤p∧p≤1000000) _ (by kernel_rfl) om) (Or.inl rfl) rfl ?_
 rintro r bl fx2 hR
 obtain ⟨⟨v9,q9⟩,hq9,rfl,rfl,rfl⟩ := (@cast _ (∃ x : Int × Int,((0≤x.1∧x.1<max (xs.length:Int) 1)∧(x.2=p+1))∧r=(.i x.1)∧bl=([])∧fx2=([.sl (.bytes l),.i x.2])) (by kernel_rfl) hR)
 clear hR
 replace hq9 : (0≤v9∧v9<max (xs.length:Int) 1)∧(q9=p+1) := hq9
 obtain ⟨hv9,hq19⟩ := hq9
 refine ⟨by kernel_rfl,WI.to (⟨[(0,.ptr 998 0),(1,.sl (.ints xs)),(5,.sl (.ints xs)),(6,.ptr 998 0),(7,.sl (.ints xs)),(8,(v150 xs)),(9,.i v9)],[(998,⟨55,.fix [.sl (.bytes l),.i q9]⟩)],[9,998,999]⟩) 5 (by kernel_rfl) rfl ?_⟩
 refine WI.runT cok tab15 hnt [] 3 8 (⟨[(0,.ptr 998 0),(1,.sl (.ints xs)),(4,.i (xs.getD (Int.toNat v9) 0)),(5,.sl (.ints xs)),(6,.ptr 998 0),(7,.sl (.ints xs)),(8,(v150 xs)),(9,.i v9),(10,.ep [.i (xs.getD (Int.toNat v9) 0)]),(11,.i (xs.getD (Int.toNat v9) 0))],[(998,⟨55,.fix [.sl (.bytes l),.i q9]⟩)],[9,998,999]⟩)
  ((Y∧Y∧(0≤v9)∧(v9<(xs.length:Int)))∧Y∧Y∧Y) (by kernel_rfl) rfl
  ⟨⟨tt,tt,om,om⟩,tt,tt,tt⟩ ?_
 refine WI.nil rfl (thenQ_normal ?_)
 refine W.keepE [4] [(4,.i (xs.getD (Int.toNat v9) 0))] (by kernel_rfl) ?_
 refine W.to (⟨[(4,.i (xs.getD (Int.toNat v9) 0))],[(998,⟨55,.fix [.sl (.bytes l),.i q9]⟩)],[9,998,999]⟩) rfl ?_
 refine W.ret ?_
 exact endP_ret ((xs.getD (Int.toNat v9) 0),q9) (show ((xs.getD (Int.toNat v9) 0) ∈ xs)∧(q9=p+1) from ⟨(by exact getD_mem xs 0 (by omega)),(by first | assumption | omega | rfl | (simp; done) | (simp; omega))⟩) [(0,998)] (.i (xs.getD (Int.toNat v9) 0)) (by kernel_rfl) (@cast ((Si (xs.getD (Int.toNat v9) 0))∧((((55:Nat)=55)∧((Sd (.bytes l))∧(Si q9)∧Y)∧((0:Nat) ∈ ([0] : List Nat)))∧Y)∧(true=true)∧((([] : List Nat)=[])∧Y)∧(true=true→(998:Nat)=998)) _ (by kernel_rfl) ⟨rfl,⟨⟨rfl,⟨rfl,rfl,tt⟩,(by decide)⟩,tt⟩,rfl,⟨rfl,tt⟩,(fun _=>rfl)⟩)
theorem ent15 : Entr prog 15 := ⟨_,func15,rfl,by decide⟩
end Go.Proofs.Tryz

set_option linter.unusedSimpArgs false
set_option linter.unusedVariables false
namespace Go.Proofs.Tryz
open Go.Ab Go.RowKit
def pre16 : List AV→List AV→Prop := preP [.strs] [.bytes,.int] (fun (xs,_) (l,p,_)=>(0≤p∧p≤1000000)∧(0<xs.length)∧(xs.length≤1000))
def rel16 : RelS := relP [.strs] [.bytes,.int] (ι := ByteArray × Int) (fun (xs,_) (l,p,_) (v,q)=>(v ∈ xs)∧(q=p+1)) (fun (xs,_) (l,p,_) (v,q)=>(.v (.string v),[],[.sl (.bytes l),.i q]))
abbrev T16 : Tab := lk []
theorem tab16 : TabOK prog T16 := TabOK.nil
abbrev v160 (xs:List ByteArray):AV:=.i (xs.length:Int)
theorem rok16 : RelOK prog 16 (some 55) [.s .strs] pre16 rel16 := by
 refine RelOK.mk cok func16 rfl rfl rfl ?_
 rintro ⟨(xs : List ByteArray),_⟩ ⟨(l : List UInt8),(p:Int),_⟩ hpre F hnt0
 have hnt : F.nt=12 := hnt0.trans ntmps16
 replace hpre : (0≤p∧p≤1000000)∧(0<xs.length)∧(xs.length≤1000) := hpre
 obtain ⟨hp,hx,hx2⟩ := hpre
 refine W.to (⟨[(0,.ptr 998 0),(1,.sl (.strs xs))],[(998,⟨55,.fix [.sl (.bytes l),.i p]⟩)],[998,999]⟩) rfl ?_
 refine kE tab16 hnt [(0,.ptr 998 0),(1,.sl (.strs xs))] 2 [] tt ?_
 refine W.seq (W.wi ?_)
 refine WI.runT cok tab16 hnt [] 4 4 (⟨[(0,.ptr 998 0),(1,.sl (.strs xs)),(5,.sl (.strs xs)),(6,.ptr 998 0),(7,.sl (.strs xs)),(8,(v160 xs))],[(998,⟨55,.fix [.sl (.bytes l),.i p]⟩)],[998,999]⟩)
  (Y∧Y∧Y∧Y∧Y) (by kernel_rfl) rfl
  ⟨tt,tt,tt,tt,tt⟩ ?_
 refine WI.call [.ptr 998 0,(v160 xs)] [.sl (.bytes l),.i p] [(v160 xs)] [(v160 xs)] (some (55,998)) (Y) (Y∧Y) none rok19 ent19 hnt rfl rfl (wanted_none rfl) (by kernel_rfl) (by kernel_rfl) (by kernel_rfl) ⟨tt,tt,tt⟩
  (@cast (0≤p∧p≤1000000) _ (by kernel_rfl) om) (Or.inl rfl) rfl ?_
 rintro r bl fx2 hR
 obtain ⟨⟨v9,q9⟩,hq9,rfl,rfl,rfl⟩ := (@cast _ (∃ x : Int × Int,((0≤x.1∧x.1<max (xs.length:Int) 1)∧(x.2=p+1))∧r=(.i x.1)∧bl=([])∧fx2=([.sl (.bytes l),.i x.2])) (by kernel_rfl) hR)
 clear hR
 replace hq9 : (0≤v9∧v9<max (xs.length:Int) 1)∧(q9=p+1) := hq9
 obtain ⟨hv9,hq19⟩ := hq9
 refine ⟨by kernel_rfl,WI.to (⟨[(0,.ptr 998 0),(1,.sl (.strs xs)),(5,.sl (.strs xs)),(6,.ptr 998 0),(7,.sl (.strs xs)),(8,(v160 xs)),(9,.i v9)],[(998,⟨55,.fix [.sl (.bytes l),.i q9]⟩)],[9,998,999]⟩) 5 (by kernel_rfl) rfl ?_⟩
 refine WI.runT cok tab16 hnt [] 3 8 (⟨[(0,.ptr 998 0),(1,.sl (.strs xs)),(4,.v (.string (xs.getD (Int.toNat v9) default))),(5,.sl (.strs xs)),(6,.ptr 998 0),(7,.sl (.strs xs)),(8,(v160 xs)),(9,.i v9),(10,.ep [.v (.string (xs.getD (Int.toNat v9) default))]),(11,.v (.string (xs.getD (Int.toNat v9) default)))],[(998,⟨55,.fix [.sl (.bytes l),.i q9]⟩)],[9,998,999]⟩)
  ((Y∧Y∧(0≤v9)∧(v9<(xs.length:Int)))∧Y∧Y∧Y) (by kernel_rfl) rfl
  ⟨⟨tt,tt,om,om⟩,tt,tt,tt⟩ ?_
 refine WI.nil rfl (thenQ_normal ?_)
 refine W.keepE [4] [(4,.v (.string (xs.getD (Int.toNat v9) default)))] (by kernel_rfl) ?_
 refine W.to (⟨[(4,.v (.string (xs.getD (Int.toNat v9) default)))],[(998,⟨55,.fix [.sl (.bytes l),.i q9]⟩)],[9,998,999]⟩) rfl ?_
 refine W.ret ?_
 exact endP_ret ((xs.getD (Int.toNat v9) default),q9) (show ((xs.getD (Int.toNat v9) default) ∈ xs)∧(q9=p+1) from ⟨(by exact getD_mem xs default (by omega)),(by first | assumption | omega | rfl | (simp; done) | (simp; omega))⟩) [(0,998)] (.v (.string (xs.getD (Int.toNat v9) default))) (by kernel_rfl) (@cast ((((.string (xs.getD (Int.toNat v9) default)):Value)=(.string (xs.getD (Int.toNat v9) default)))∧((((55:Nat)=55)∧((Sd (.bytes l))∧(Si q9)∧Y)∧((0:Nat) ∈ ([0] : List Nat)))∧Y)∧(true=true)∧((([] : List Nat)=[])∧Y)∧(true=true→(998:Nat)=998)) _ (by kernel_rfl) ⟨rfl,⟨⟨rfl,⟨rfl,rfl,tt⟩,(by decide)⟩,tt⟩,rfl,⟨rfl,tt⟩,(fun _=>rfl)⟩)
theorem ent16 : Entr prog 16 := ⟨_,func16,rfl,by decide⟩
end Go.Proofs.Tryz
