import Derived.Test.YtbmbdlgifplglaaGreatDoorZF3S0
import Derived.Test.YtbmbdlgifplglaaGreatDoorZF3S2
import Derived.Test.YtbmbdlgifplglaaGreatDoorZF3S4
import Derived.Test.YtbmbdlgifplglaaGreatDoorZF3S6
import Derived.Test.YtbmbdlgifplglaaGreatDoorZF3S1
set_option maxRecDepth 100000
set_option maxHeartbeats 1000000
set_option linter.unusedSimpArgs false
set_option linter.unusedVariables false
namespace Go.Proofs.Tryz
open Go.Ab Go.RowKit
def fs12 : FnS := fnS [.o] [.str] (fun _ (l,_)=>(.v (.string (deskV l)),[],(l.size≤1100000)))
abbrev T12 : Tab := lk [(21,fs21),(22,fs22),(23,fs23),(24,fs24),(25,fs25),(26,fs26),(27,fs27),(28,fs28)]
theorem tab12 : TabOK prog T12 := (TabOK.cons ok21 ent21 (TabOK.cons ok22 ent22 (TabOK.cons ok23 ent23 (TabOK.cons ok24 ent24 (TabOK.cons ok25 ent25 (TabOK.cons ok26 ent26 (TabOK.cons ok27 ent27 (TabOK.cons ok28 ent28 TabOK.nil))))))))
theorem ok12 : FnOK prog 12 fs12 := by
 refine FnOK.mk cok func12 rfl rfl rfl ?_
 rintro fl ⟨(l:ByteArray),_⟩ hpre F hnt0 _
 have hnt : F.nt=116 := hnt0.trans ntmps12
 replace hpre : (l.size≤1100000) := hpre
 have hz := hpre
 refine W.to (⟨[(0,.v (.string l))],[],[999]⟩) rfl ?_
 refine Kk cok tab12 hnt [] [0] (⟨[(0,.v (.string l))],[],[999]⟩)
  (Y∧Y)
  ⟨tt,tt⟩ ?_
 refine Kk cok tab12 hnt [] [0,3] (⟨[(0,.v (.string l)),(3,.sl (.strs (splitB8 (32:Int) l)))],[],[11,999]⟩)
  (Y∧((Y∧(Y∧Y∧Y)∧(0≤(32:Int)∧(32:Int)≤255)∧(l.size≤2000000))∧((List.length (splitB8 (32:Int) l))=(List.length (splitB8 (32:Int) l))))∧Y∧Y)
  ⟨tt,⟨⟨tt,⟨tt,tt,tt⟩,(by first | omega | (have h9 := hrow.2 i; omega)),(by (try simp only [ByteArray.size_append,ByteArray.size_extract,sz1,sz2,sz3]); omega)⟩,rfl⟩,tt,tt⟩ ?_
 refine W.seq ?_
 refine Kk cok tab12 hnt [] [0,3,14] (⟨[(0,.v (.string l)),(3,.sl (.strs (splitB8 (32:Int) l))),(14,.b (decide ((((List.length (splitB8 (32:Int) l)):Nat):Int)<(3:Int))))],[],[11,999]⟩)
  (Y∧Y∧(Y∧Y∧Y)∧Y)
  ⟨tt,tt,⟨tt,tt,tt⟩,tt⟩ ?_
 refine W.ifP ((((List.length (splitB8 (32:Int) l)):Nat):Int)<(3:Int)) (.b (decide ((((List.length (splitB8 (32:Int) l)):Nat):Int)<(3:Int)))) (by kernel_rfl) rfl trivial ?_ ?_
 ·intro h14
  have hE : tWhat=deskV l := dk_short h14
  refine Kk cok tab12 hnt [] [2] (⟨[(2,.v (.string (⟨#[119,104,97,116]⟩:ByteArray)))],[],[11,999]⟩)
   (Y∧Y)
   ⟨tt,tt⟩ ?_
  refine W.ret (thenQ_ret ?_)
  exact endQ_ret (.v (.string (⟨#[119,104,97,116]⟩:ByteArray))) (by kernel_rfl) (@cast (((.string (⟨#[119,104,97,116]⟩:ByteArray)):Value)=(.string (deskV l))) _ (by kernel_rfl) (congrArg Value.string (by first | exact hE | exact hE.symm)))
 ·intro n14
  have hL : ¬ (splitB8 32 l).length<3 := by omega
  have hsz := (dk_words hL).2
  replace hsz : (List.getD (splitB8 32 l) 0 default).size+(List.getD (splitB8 32 l) 1 default).size+2≤l.size := hsz
  refine W.skip (thenQ_normal ?_)
  refine Kk cok tab12 hnt [] [0,3,4] (⟨[(0,.v (.string l)),(3,.sl (.strs (splitB8 (32:Int) l))),(4,.v (.string (List.getD (splitB8 (32:Int) l) 0 default)))],[],[11,999]⟩)
   (Y∧(Y∧Y∧(0≤(0:Int))∧((0:Int)<(((List.length (splitB8 (32:Int) l)):Nat):Int)))∧Y∧Y∧Y)
   ⟨tt,⟨tt,tt,(by first | omega | (have h9 := hrow.2 i; omega)),(by first | omega | (have h9 := hrow.2 i; omega))⟩,tt,tt,tt⟩ ?_
  refine W.seq ?_
  refine Kk cok tab12 hnt [] [0,3,4,31] (⟨[(0,.v (.string l)),(3,.sl (.strs (splitB8 (32:Int) l))),(4,.v (.string (List.getD (splitB8 (32:Int) l) 0 default))),(31,.b ((((!(eqS (List.getD (splitB8 (32:Int) l) 0 default) (⟨#[108,105,110,101,97,114]⟩:ByteArray))) && (!(eqS (List.getD (splitB8 (32:Int) l) 0 default) (⟨#[111,119,110]⟩:ByteArray)))) && (!(eqS (List.getD (splitB8 (32:Int) l) 0 default) (⟨#[113,117,105,101,116]⟩:ByteArray)))) && (!(eqS (List.getD (splitB8 (32:Int) l) 0 default) (⟨#[119,105,100,116,104]⟩:ByteArray)))))],[],[11,999]⟩)
   ((fun (Z1:Bool)=>((fun (Z2:Bool)=>((fun (Z3:Bool)=>(Y∧((Y∧(Y∧Y))∧(Y∧((Z1=true→Y)∧((Z1=true→(((Z1=true)∧Y)∧(Y∧Y)))∧((Y∧((Z1=true→(Z1=true)∧Y)∧(Z1=false→Y)))∧(Y∧((Z2=true→Y)∧((Z2=true→(((Z2=true)∧Y)∧(Y∧Y)))∧((Y∧((Z2=true→(Z2=true)∧Y)∧(Z2=false→Y)))∧(Y∧((Z3=true→Y)∧((Z3=true→(((Z3=true)∧Y)∧(Y∧Y)))∧((Y∧((Z3=true→(Z3=true)∧Y)∧(Z3=false→Y)))∧Y))))))))))))))) (Z2 && (!(eqS (List.getD (splitB8 (32:Int) l) 0 default) (⟨#[113,117,105,101,116]⟩:ByteArray)))))) (Z1 && (!(eqS (List.getD (splitB8 (32:Int) l) 0 default) (⟨#[111,119,110]⟩:ByteArray)))))) (!(eqS (List.getD (splitB8 (32:Int) l) 0 default) (⟨#[108,105,110,101,97,114]⟩:ByteArray))))
   ⟨tt,⟨tt,tt,tt⟩,tt,(fun _=>trivial),(fun hG=>⟨⟨hG,tt⟩,tt,tt⟩),⟨tt,(fun hp=>⟨hp,tt⟩),(fun _=>trivial)⟩,tt,(fun _=>trivial),(fun hG=>⟨⟨hG,tt⟩,tt,tt⟩),⟨tt,(fun hp=>⟨hp,tt⟩),(fun _=>trivial)⟩,tt,(fun _=>trivial),(fun hG=>⟨⟨hG,tt⟩,tt,tt⟩),⟨tt,(fun hp=>⟨hp,tt⟩),(fun _=>trivial)⟩,tt⟩ ?_
  refine W.if' ((((!(eqS (List.getD (splitB8 (32:Int) l) 0 default) (⟨#[108,105,110,101,97,114]⟩:ByteArray))) && (!(eqS (List.getD (splitB8 (32:Int) l) 0 default) (⟨#[111,119,110]⟩:ByteArray)))) && (!(eqS (List.getD (splitB8 (32:Int) l) 0 default) (⟨#[113,117,105,101,116]⟩:ByteArray)))) && (!(eqS (List.getD (splitB8 (32:Int) l) 0 default) (⟨#[119,105,100,116,104]⟩:ByteArray)))) (.b ((((!(eqS (List.getD (splitB8 (32:Int) l) 0 default) (⟨#[108,105,110,101,97,114]⟩:ByteArray))) && (!(eqS (List.getD (splitB8 (32:Int) l) 0 default) (⟨#[111,119,110]⟩:ByteArray)))) && (!(eqS (List.getD (splitB8 (32:Int) l) 0 default) (⟨#[113,117,105,101,116]⟩:ByteArray)))) && (!(eqS (List.getD (splitB8 (32:Int) l) 0 default) (⟨#[119,105,100,116,104]⟩:ByteArray))))) (by kernel_rfl) rfl trivial ?_ ?_
  ·intro h31
   have hE : tWhat=deskV l := dk_kind (by unfold kindD dW; simp at h31; simp [h31])
   refine Kk cok tab12 hnt [] [2] (⟨[(2,.v (.string (⟨#[119,104,97,116]⟩:ByteArray)))],[],[11,999]⟩)
    (Y∧Y)
    ⟨tt,tt⟩ ?_
   refine W.ret (thenQ_ret ?_)
   exact endQ_ret (.v (.string (⟨#[119,104,97,116]⟩:ByteArray))) (by kernel_rfl) (@cast (((.string (⟨#[119,104,97,116]⟩:ByteArray)):Value)=(.string (deskV l))) _ (by kernel_rfl) (congrArg Value.string (by first | exact hE | exact hE.symm)))
  ·intro n31
   have hk : kindD (dW l 0)=true := by unfold kindD dW; simp at n31; simp; grind
   have hO := dk_on (l := l) (by omega) hk
   refine W.skip (thenQ_normal ?_)
   refine Kk cok tab12 hnt [] [3,4,5,6] (⟨[(3,.sl (.strs (splitB8 (32:Int) l))),(4,.v (.string (List.getD (splitB8 (32:Int) l) 0 default))),(5,.sl (.calls (outS (l.extract (Int.toNat ((((((List.getD (splitB8 (32:Int) l) 0 default).size):Nat):Int)+((((List.getD (splitB8 (32:Int) l) 1 default).size):Nat):Int))+(2:Int))) l.size).data.toList))),(6,.b (validHistory (outS (l.extract (Int.toNat ((((((List.getD (splitB8 (32:Int) l) 0 default).size):Nat):Int)+((((List.getD (splitB8 (32:Int) l) 1 default).size):Nat):Int))+(2:Int))) l.size).data.toList)))],[],[11,999]⟩)
    (Y∧Y∧Y∧Y∧(Y∧Y∧(0≤(1:Int))∧((1:Int)<(((List.length (splitB8 (32:Int) l)):Nat):Int)))∧Y∧Y∧(Y∧Y∧(Fits .i64 (((((List.getD (splitB8 (32:Int) l) 0 default).size):Nat):Int)+((((List.getD (splitB8 (32:Int) l) 1 default).size):Nat):Int))))∧(Y∧Y∧(Fits .i64 ((((((List.getD (splitB8 (32:Int) l) 0 default).size):Nat):Int)+((((List.getD (splitB8 (32:Int) l) 1 default).size):Nat):Int))+(2:Int))))∧(Y∧Y∧Y∧(0≤((((((List.getD (splitB8 (32:Int) l) 0 default).size):Nat):Int)+((((List.getD (splitB8 (32:Int) l) 1 default).size):Nat):Int))+(2:Int)))∧(((((((List.getD (splitB8 (32:Int) l) 0 default).size):Nat):Int)+((((List.getD (splitB8 (32:Int) l) 1 default).size):Nat):Int))+(2:Int))≤((l.size:Nat):Int))∧(((l.size:Nat):Int)≤((l.size:Nat):Int)))∧(Y∧(Y∧Y)∧((l.extract (Int.toNat ((((((List.getD (splitB8 (32:Int) l) 0 default).size):Nat):Int)+((((List.getD (splitB8 (32:Int) l) 1 default).size):Nat):Int))+(2:Int))) l.size).size≤1999999))∧Y∧Y∧Y∧Y∧Y∧Y)
    ⟨tt,tt,tt,tt,⟨tt,tt,(by first | omega | (have h9 := hrow.2 i; omega)),(by first | omega | (have h9 := hrow.2 i; omega))⟩,tt,tt,⟨tt,tt,(by exact fits_i64 (by omega) (by omega))⟩,⟨tt,tt,(by exact fits_i64 (by omega) (by omega))⟩,⟨tt,tt,tt,(by (try simp only [ByteArray.size_append,ByteArray.size_extract,sz1,sz2,sz3]); omega),(by (try simp only [ByteArray.size_append,ByteArray.size_extract,sz1,sz2,sz3]); omega),(by (try simp only [ByteArray.size_append,ByteArray.size_extract,sz1,sz2,sz3]); omega)⟩,⟨tt,⟨tt,tt⟩,(by (try simp only [ByteArray.size_append,ByteArray.size_extract,sz1,sz2,sz3]); omega)⟩,tt,tt,tt,tt,tt,tt⟩ ?_
   refine W.seq ?_
   refine Kk cok tab12 hnt [] [3,4,5,68] (⟨[(3,.sl (.strs (splitB8 (32:Int) l))),(4,.v (.string (List.getD (splitB8 (32:Int) l) 0 default))),(5,.sl (.calls (outS (l.extract (Int.toNat ((((((List.getD (splitB8 (32:Int) l) 0 default).size):Nat):Int)+((((List.getD (splitB8 (32:Int) l) 1 default).size):Nat):Int))+(2:Int))) l.size).data.toList))),(68,.b ((((eqS (List.getD (splitB8 (32:Int) l) 0 default) (⟨#[119,105,100,116,104]⟩:ByteArray)) && (!(eqS (List.getD (splitB8 (32:Int) l) 1 default) (⟨#[97,108,108]⟩:ByteArray)))) || ((!(eqS (List.getD (splitB8 (32:Int) l) 0 default) (⟨#[119,105,100,116,104]⟩:ByteArray))) && (!(isObject (List.getD (splitB8 (32:Int) l) 1 default))))) || (!(validHistory (outS (l.extract (Int.toNat ((((((List.getD (splitB8 (32:Int) l) 0 default).size):Nat):Int)+((((List.getD (splitB8 (32:Int) l) 1 default).size):Nat):Int))+(2:Int))) l.size).data.toList)))))],[],[11,999]⟩)
    ((fun (Z1:Bool)=>((fun (Z2:Bool)=>((fun (Z3:Bool)=>((fun (Z4:Bool)=>(Y∧((Y∧(Y∧Y))∧(Y∧((Z1=true→Y)∧((Z1=true→(((Z1=true)∧Y)∧(Y∧((0≤(1:Int))∧((1:Int)<(((List.length (splitB8 (32:Int) l)):Nat):Int))))))∧((Z1=true→((Z1=true)∧Y))∧((Z1=true→(((Z1=true)∧Y)∧(Y∧Y)))∧((Y∧((Z1=true→(Z1=true)∧Y)∧(Z1=false→Y)))∧(Y∧(((!Z2)=true→Y)∧(((!Z2)=true→((((!Z2)=true)∧Y)∧(Y∧Y)))∧(((!Z2)=true→Y)∧((Z3=true→Y)∧((Z3=true→(((Z3=true)∧Y)∧(Y∧((0≤(1:Int))∧((1:Int)<(((List.length (splitB8 (32:Int) l)):Nat):Int))))))∧((Z3=true→((Z3=true)∧Y))∧((Z3=true→(Y∧((((Z3=true)∧Y)∧Y)∧Y)))∧((Z3=true→((Z3=true)∧Y))∧(((!Z2)=true→((((!Z2)=true)∧(((!Z2)=true)∧Y))∧(((!Z1)=true→(Z3=true)∧Y)∧((!Z1)=false→Y))))∧((Y∧((Z2=true→Y)∧(Z2=false→((!Z2)=true)∧Y)))∧(Y∧(((!Z4)=true→Y)∧(((!Z4)=true→(((!Z4)=true)∧Y))∧((Y∧((Z4=true→Y)∧(Z4=false→((!Z4)=true)∧Y)))∧Y)))))))))))))))))))))))) (Z2 || ((!Z1) && (!(isObject (List.getD (splitB8 (32:Int) l) 1 default))))))) ((!Z2) && ((!Z2) && (!Z1))))) (Z1 && (!(eqS (List.getD (splitB8 (32:Int) l) 1 default) (⟨#[97,108,108]⟩:ByteArray)))))) (eqS (List.getD (splitB8 (32:Int) l) 0 default) (⟨#[119,105,100,116,104]⟩:ByteArray)))
    ⟨tt,⟨tt,tt,tt⟩,tt,(fun _=>trivial),(fun hG=>⟨⟨hG,tt⟩,tt,(by first | omega | (have h9 := hrow.2 i; omega)),(by first | omega | (have h9 := hrow.2 i; omega))⟩),(fun hG=>⟨hG,tt⟩),(fun hG=>⟨⟨hG,tt⟩,tt,tt⟩),⟨tt,(fun hp=>⟨hp,tt⟩),(fun _=>trivial)⟩,tt,(fun _=>trivial),(fun hG=>⟨⟨hG,tt⟩,tt,tt⟩),(fun _=>trivial),(fun _=>trivial),(fun hG=>⟨⟨hG,tt⟩,tt,(by first | omega | (have h9 := hrow.2 i; omega)),(by first | omega | (have h9 := hrow.2 i; omega))⟩),(fun hG=>⟨hG,tt⟩),(fun hG=>⟨tt,⟨⟨hG,tt⟩,tt⟩,tt⟩),(fun hG=>⟨hG,tt⟩),(fun hG=>⟨⟨hG,hG,tt⟩,(fun hp=>⟨(and_t hG (and_t hG hp)),tt⟩),(fun _=>trivial)⟩),⟨tt,(fun _=>trivial),(fun hp=>⟨(not_t hp),tt⟩)⟩,tt,(fun _=>trivial),(fun hG=>⟨hG,tt⟩),⟨tt,(fun _=>trivial),(fun hp=>⟨(not_t hp),tt⟩)⟩,tt⟩ ?_
   refine W.if' ((((eqS (List.getD (splitB8 (32:Int) l) 0 default) (⟨#[119,105,100,116,104]⟩:ByteArray)) && (!(eqS (List.getD (splitB8 (32:Int) l) 1 default) (⟨#[97,108,108]⟩:ByteArray)))) || ((!(eqS (List.getD (splitB8 (32:Int) l) 0 default) (⟨#[119,105,100,116,104]⟩:ByteArray))) && (!(isObject (List.getD (splitB8 (32:Int) l) 1 default))))) || (!(validHistory (outS (l.extract (Int.toNat ((((((List.getD (splitB8 (32:Int) l) 0 default).size):Nat):Int)+((((List.getD (splitB8 (32:Int) l) 1 default).size):Nat):Int))+(2:Int))) l.size).data.toList)))) (.b ((((eqS (List.getD (splitB8 (32:Int) l) 0 default) (⟨#[119,105,100,116,104]⟩:ByteArray)) && (!(eqS (List.getD (splitB8 (32:Int) l) 1 default) (⟨#[97,108,108]⟩:ByteArray)))) || ((!(eqS (List.getD (splitB8 (32:Int) l) 0 default) (⟨#[119,105,100,116,104]⟩:ByteArray))) && (!(isObject (List.getD (splitB8 (32:Int) l) 1 default))))) || (!(validHistory (outS (l.extract (Int.toNat ((((((List.getD (splitB8 (32:Int) l) 0 default).size):Nat):Int)+((((List.getD (splitB8 (32:Int) l) 1 default).size):Nat):Int))+(2:Int))) l.size).data.toList))))) (by kernel_rfl) rfl trivial ?_ ?_
   ·intro h68
    have hE : tWrong=deskV l := by rw [hO,show wrongD (dW l 0) (dW l 1) (parseS (dT l).data.toList).2=true from (by rw [ps_snd]; unfold wrongD; simp at h68; simp; grind)]; rfl
    refine Kk cok tab12 hnt [] [2] (⟨[(2,.v (.string (⟨#[119,114,111,110,103]⟩:ByteArray)))],[],[11,999]⟩)
     (Y∧Y)
     ⟨tt,tt⟩ ?_
    refine W.ret (thenQ_ret ?_)
    exact endQ_ret (.v (.string (⟨#[119,114,111,110,103]⟩:ByteArray))) (by kernel_rfl) (@cast (((.string (⟨#[119,114,111,110,103]⟩:ByteArray)):Value)=(.string (deskV l))) _ (by kernel_rfl) (congrArg Value.string (by first | exact hE | exact hE.symm)))
   ·intro n68
    have hv : validHistory (outS (l.extract (Int.toNat ((((((List.getD (splitB8 32 l) 0 default).size:Nat):Int)+(((List.getD (splitB8 32 l) 1 default).size:Nat):Int))+2))) l.size).data.toList)=true := not_g (or_r n68)
    have hE : deskV l=coreD (List.getD (splitB8 32 l) 0 default) (List.getD (splitB8 32 l) 1 default) (outS (l.extract (Int.toNat ((((((List.getD (splitB8 32 l) 0 default).size:Nat):Int)+(((List.getD (splitB8 32 l) 1 default).size:Nat):Int))+2))) l.size).data.toList) := by rw [hO,show wrongD (dW l 0) (dW l 1) (parseS (dT l).data.toList).2=false from (by rw [ps_snd]; unfold wrongD; simp at n68; simp; grind),cond_false,ps_fst hv]
    have hwb := wid_bnd hv
    have hrow := by_row (s := (List.getD (splitB8 32 l) 1 default)) (f := aheadF (outS (l.extract (Int.toNat ((((((List.getD (splitB8 32 l) 0 default).size:Nat):Int)+(((List.getD (splitB8 32 l) 1 default).size:Nat):Int))+2))) l.size).data.toList)) hv
    refine W.skip (thenQ_normal ?_)
    refine Kk cok tab12 hnt [] [3,4,5,7] (⟨[(3,.sl (.strs (splitB8 (32:Int) l))),(4,.v (.string (List.getD (splitB8 (32:Int) l) 0 default))),(5,.sl (.calls (outS (l.extract (Int.toNat ((((((List.getD (splitB8 (32:Int) l) 0 default).size):Nat):Int)+((((List.getD (splitB8 (32:Int) l) 1 default).size):Nat):Int))+(2:Int))) l.size).data.toList))),(7,.v (.string (⟨#[110,111]⟩:ByteArray)))],[],[11,999]⟩)
     (Y∧Y)
     ⟨tt,tt⟩ ?_
    refine W.seq ?_
    refine Kk cok tab12 hnt [] [3,5,7,69] (⟨[(3,.sl (.strs (splitB8 (32:Int) l))),(5,.sl (.calls (outS (l.extract (Int.toNat ((((((List.getD (splitB8 (32:Int) l) 0 default).size):Nat):Int)+((((List.getD (splitB8 (32:Int) l) 1 default).size):Nat):Int))+(2:Int))) l.size).data.toList))),(7,.v (.string (⟨#[110,111]⟩:ByteArray))),(69,.v (.string (List.getD (splitB8 (32:Int) l) 0 default)))],[],[11,999]⟩)
     (Y∧Y)
     ⟨tt,tt⟩ ?_
    refine W.block ?_
    refine Kk cok tab12 hnt [] [3,5,7,69,75] (⟨[(3,.sl (.strs (splitB8 (32:Int) l))),(5,.sl (.calls (outS (l.extract (Int.toNat ((((((List.getD (splitB8 (32:Int) l) 0 default).size):Nat):Int)+((((List.getD (splitB8 (32:Int) l) 1 default).size):Nat):Int))+(2:Int))) l.size).data.toList))),(7,.v (.string (⟨#[110,111]⟩:ByteArray))),(69,.v (.string (List.getD (splitB8 (32:Int) l) 0 default))),(75,.b (eqS (List.getD (splitB8 (32:Int) l) 0 default) (⟨#[119,105,100,116,104]⟩:ByteArray)))],[],[11,999]⟩)
     ((Y∧Y∧Y)∧Y∧Y)
     ⟨⟨tt,tt,tt⟩,tt,tt⟩ ?_
    refine W.if' (eqS (List.getD (splitB8 (32:Int) l) 0 default) (⟨#[119,105,100,116,104]⟩:ByteArray)) (.b (eqS (List.getD (splitB8 (32:Int) l) 0 default) (⟨#[119,105,100,116,104]⟩:ByteArray))) (by kernel_rfl) rfl trivial ?_ ?_
    ·intro h75
     rw [core_wid h75] at hE
     refine Kk cok tab12 hnt [] [2] (⟨[(2,.v (.string (numB (widthS (outS (l.extract (Int.toNat ((((((List.getD (splitB8 (32:Int) l) 0 default).size):Nat):Int)+((((List.getD (splitB8 (32:Int) l) 1 default).size):Nat):Int))+(2:Int))) l.size).data.toList)))))],[],[11,999]⟩)
      (Y∧(Y∧(Y∧Y)∧Y)∧(Y∧(Y∧Y)∧-1000000≤(widthS (outS (l.extract (Int.toNat ((((((List.getD (splitB8 (32:Int) l) 0 default).size):Nat):Int)+((((List.getD (splitB8 (32:Int) l) 1 default).size):Nat):Int))+(2:Int))) l.size).data.toList))∧(widthS (outS (l.extract (Int.toNat ((((((List.getD (splitB8 (32:Int) l) 0 default).size):Nat):Int)+((((List.getD (splitB8 (32:Int) l) 1 default).size):Nat):Int))+(2:Int))) l.size).data.toList))≤1000000)∧Y∧Y)
      ⟨tt,⟨tt,⟨tt,tt⟩,tt⟩,⟨tt,⟨tt,tt⟩,(by (try simp only [ByteArray.size_append,ByteArray.size_extract,sz1,sz2,sz3]); omega)⟩,tt,tt⟩ ?_
     refine W.ret (blockQ_ret (thenQ_ret ?_))
     exact endQ_ret (.v (.string (numB (widthS (outS (l.extract (Int.toNat ((((((List.getD (splitB8 (32:Int) l) 0 default).size):Nat):Int)+((((List.getD (splitB8 (32:Int) l) 1 default).size):Nat):Int))+(2:Int))) l.size).data.toList))))) (by kernel_rfl) (@cast (((.string (numB (widthS (outS (l.extract (Int.toNat ((((((List.getD (splitB8 (32:Int) l) 0 default).size):Nat):Int)+((((List.getD (splitB8 (32:Int) l) 1 default).size):Nat):Int))+(2:Int))) l.size).data.toList)))):Value)=(.string (deskV l))) _ (by kernel_rfl) (congrArg Value.string (by first | exact hE | exact hE.symm)))
    ·intro n75
     refine Kk cok tab12 hnt [] [3,5,7,69,80] (⟨[(3,.sl (.strs (splitB8 (32:Int) l))),(5,.sl (.calls (outS (l.extract (Int.toNat ((((((List.getD (splitB8 (32:Int) l) 0 default).size):Nat):Int)+((((List.getD (splitB8 (32:Int) l) 1 default).size):Nat):Int))+(2:Int))) l.size).data.toList))),(7,.v (.string (⟨#[110,111]⟩:ByteArray))),(69,.v (.string (List.getD (splitB8 (32:Int) l) 0 default))),(80,.b (eqS (List.getD (splitB8 (32:Int) l) 0 default) (⟨#[108,105,110,101,97,114]⟩:ByteArray)))],[],[11,999]⟩)
      ((Y∧Y∧Y)∧Y∧Y)
      ⟨⟨tt,tt,tt⟩,tt,tt⟩ ?_
     refine W.if' (eqS (List.getD (splitB8 (32:Int) l) 0 default) (⟨#[108,105,110,101,97,114]⟩:ByteArray)) (.b (eqS (List.getD (splitB8 (32:Int) l) 0 default) (⟨#[108,105,110,101,97,114]⟩:ByteArray))) (by kernel_rfl) rfl trivial ?_ ?_
     ·intro h80
      rw [core_lin' h80] at hE
      refine Kk cok tab12 hnt [] [7,8] (⟨[(7,.v (.string (⟨#[110,111]⟩:ByteArray))),(8,.sl (.intss (ordersBy (List.getD (splitB8 (32:Int) l) 1 default) (outS (l.extract (Int.toNat ((((((List.getD (splitB8 (32:Int) l) 0 default).size):Nat):Int)+((((List.getD (splitB8 (32:Int) l) 1 default).size):Nat):Int))+(2:Int))) l.size).data.toList) (aheadF (outS (l.extract (Int.toNat ((((((List.getD (splitB8 (32:Int) l) 0 default).size):Nat):Int)+((((List.getD (splitB8 (32:Int) l) 1 default).size):Nat):Int))+(2:Int))) l.size).data.toList)))))],[],[11,999]⟩)
       (Y∧(Y∧Y∧(0≤(1:Int))∧((1:Int)<(((List.length (splitB8 (32:Int) l)):Nat):Int)))∧Y∧Y∧(Y∧(Y∧Y∧Y)∧Y)∧Y∧Y)
       ⟨tt,⟨tt,tt,(by first | omega | (have h9 := hrow.2 i; omega)),(by first | omega | (have h9 := hrow.2 i; omega))⟩,tt,tt,⟨tt,⟨tt,tt,tt⟩,tt⟩,tt,tt⟩ ?_
      refine Kk cok tab12 hnt [] [7,8,89] (⟨[(7,.v (.string (⟨#[110,111]⟩:ByteArray))),(8,.sl (.intss (ordersBy (List.getD (splitB8 (32:Int) l) 1 default) (outS (l.extract (Int.toNat ((((((List.getD (splitB8 (32:Int) l) 0 default).size):Nat):Int)+((((List.getD (splitB8 (32:Int) l) 1 default).size):Nat):Int))+(2:Int))) l.size).data.toList) (aheadF (outS (l.extract (Int.toNat ((((((List.getD (splitB8 (32:Int) l) 0 default).size):Nat):Int)+((((List.getD (splitB8 (32:Int) l) 1 default).size):Nat):Int))+(2:Int))) l.size).data.toList))))),(89,.b (decide ((0:Int)<(((List.length (ordersBy (List.getD (splitB8 (32:Int) l) 1 default) (outS (l.extract (Int.toNat ((((((List.getD (splitB8 (32:Int) l) 0 default).size):Nat):Int)+((((List.getD (splitB8 (32:Int) l) 1 default).size):Nat):Int))+(2:Int))) l.size).data.toList) (aheadF (outS (l.extract (Int.toNat ((((((List.getD (splitB8 (32:Int) l) 0 default).size):Nat):Int)+((((List.getD (splitB8 (32:Int) l) 1 default).size):Nat):Int))+(2:Int))) l.size).data.toList)))):Nat):Int))))],[],[11,999]⟩)
       (Y∧Y∧(Y∧Y∧Y)∧Y)
       ⟨tt,tt,⟨tt,tt,tt⟩,tt⟩ ?_
      refine W.ifP ((0:Int)<(((List.length (ordersBy (List.getD (splitB8 (32:Int) l) 1 default) (outS (l.extract (Int.toNat ((((((List.getD (splitB8 (32:Int) l) 0 default).size):Nat):Int)+((((List.getD (splitB8 (32:Int) l) 1 default).size):Nat):Int))+(2:Int))) l.size).data.toList) (aheadF (outS (l.extract (Int.toNat ((((((List.getD (splitB8 (32:Int) l) 0 default).size):Nat):Int)+((((List.getD (splitB8 (32:Int) l) 1 default).size):Nat):Int))+(2:Int))) l.size).data.toList)))):Nat):Int)) (.b (decide ((0:Int)<(((List.length (ordersBy (List.getD (splitB8 (32:Int) l) 1 default) (outS (l.extract (Int.toNat ((((((List.getD (splitB8 (32:Int) l) 0 default).size):Nat):Int)+((((List.getD (splitB8 (32:Int) l) 1 default).size):Nat):Int))+(2:Int))) l.size).data.toList) (aheadF (outS (l.extract (Int.toNat ((((((List.getD (splitB8 (32:Int) l) 0 default).size):Nat):Int)+((((List.getD (splitB8 (32:Int) l) 1 default).size):Nat):Int))+(2:Int))) l.size).data.toList)))):Nat):Int)))) (by kernel_rfl) rfl trivial ?_ ?_
      ·intro h89
       rw [decide_eq_false (p := _=0) (by omega),cond_false] at hE
       refine Kk cok tab12 hnt [] [7,8] (⟨[(7,.v (.string (⟨#[121,101,115]⟩:ByteArray))),(8,.sl (.intss (ordersBy (List.getD (splitB8 (32:Int) l) 1 default) (outS (l.extract (Int.toNat ((((((List.getD (splitB8 (32:Int) l) 0 default).size):Nat):Int)+((((List.getD (splitB8 (32:Int) l) 1 default).size):Nat):Int))+(2:Int))) l.size).data.toList) (aheadF (outS (l.extract (Int.toNat ((((((List.getD (splitB8 (32:Int) l) 0 default).size):Nat):Int)+((((List.getD (splitB8 (32:Int) l) 1 default).size):Nat):Int))+(2:Int))) l.size).data.toList)))))],[],[11,999]⟩)
        (Y∧Y)
        ⟨tt,tt⟩ ?_
       refine Kk cok tab12 hnt [] [7,8,9] (⟨[(7,.v (.string (⟨#[121,101,115]⟩:ByteArray))),(8,.sl (.intss (ordersBy (List.getD (splitB8 (32:Int) l) 1 default) (outS (l.extract (Int.toNat ((((((List.getD (splitB8 (32:Int) l) 0 default).size):Nat):Int)+((((List.getD (splitB8 (32:Int) l) 1 default).size):Nat):Int))+(2:Int))) l.size).data.toList) (aheadF (outS (l.extract (Int.toNat ((((((List.getD (splitB8 (32:Int) l) 0 default).size):Nat):Int)+((((List.getD (splitB8 (32:Int) l) 1 default).size):Nat):Int))+(2:Int))) l.size).data.toList))))),(9,.i (0:Int))],[],[11,999]⟩)
        (Y∧Y)
        ⟨tt,tt⟩ ?_
       refine W.block ?_
       refine W.loop (ι := Nat × ByteArray) (fun (x : Nat × ByteArray)=>match x with | (i,o)=>(⟨[(7,.v (.string o)),(8,.sl (.intss (ordersBy (List.getD (splitB8 (32:Int) l) 1 default) (outS (l.extract (Int.toNat ((((((List.getD (splitB8 (32:Int) l) 0 default).size):Nat):Int)+((((List.getD (splitB8 (32:Int) l) 1 default).size):Nat):Int))+(2:Int))) l.size).data.toList) (aheadF (outS (l.extract (Int.toNat ((((((List.getD (splitB8 (32:Int) l) 0 default).size):Nat):Int)+((((List.getD (splitB8 (32:Int) l) 1 default).size):Nat):Int))+(2:Int))) l.size).data.toList))))),(9,.i ((i:Nat):Int))],[],[999]⟩:St))
        (fun (x : Nat × ByteArray)=>match x with | (i,o)=>(i≤(List.getD (ordersBy (List.getD (splitB8 32 l) 1 default) (outS (l.extract (Int.toNat ((((((List.getD (splitB8 32 l) 0 default).size:Nat):Int)+(((List.getD (splitB8 32 l) 1 default).size:Nat):Int))+2))) l.size).data.toList) (aheadF (outS (l.extract (Int.toNat ((((((List.getD (splitB8 32 l) 0 default).size:Nat):Int)+(((List.getD (splitB8 32 l) 1 default).size:Nat):Int))+2))) l.size).data.toList))) 0 []).length)∧(o=numsUp (List.getD (ordersBy (List.getD (splitB8 32 l) 1 default) (outS (l.extract (Int.toNat ((((((List.getD (splitB8 32 l) 0 default).size:Nat):Int)+(((List.getD (splitB8 32 l) 1 default).size:Nat):Int))+2))) l.size).data.toList) (aheadF (outS (l.extract (Int.toNat ((((((List.getD (splitB8 32 l) 0 default).size:Nat):Int)+(((List.getD (splitB8 32 l) 1 default).size:Nat):Int))+2))) l.size).data.toList))) 0 []) i))
        (fun (x : Nat × ByteArray)=>match x with | (i,o)=>((List.getD (ordersBy (List.getD (splitB8 32 l) 1 default) (outS (l.extract (Int.toNat ((((((List.getD (splitB8 32 l) 0 default).size:Nat):Int)+(((List.getD (splitB8 32 l) 1 default).size:Nat):Int))+2))) l.size).data.toList) (aheadF (outS (l.extract (Int.toNat ((((((List.getD (splitB8 32 l) 0 default).size:Nat):Int)+(((List.getD (splitB8 32 l) 1 default).size:Nat):Int))+2))) l.size).data.toList))) 0 []).length - i:Nat)) (0,(⟨#[121,101,115]⟩:ByteArray)) ?_ ?_ ?_
       ·exact (show (0≤(List.getD (ordersBy (List.getD (splitB8 32 l) 1 default) (outS (l.extract (Int.toNat ((((((List.getD (splitB8 32 l) 0 default).size:Nat):Int)+(((List.getD (splitB8 32 l) 1 default).size:Nat):Int))+2))) l.size).data.toList) (aheadF (outS (l.extract (Int.toNat ((((((List.getD (splitB8 32 l) 0 default).size:Nat):Int)+(((List.getD (splitB8 32 l) 1 default).size:Nat):Int))+2))) l.size).data.toList))) 0 []).length)∧((⟨#[121,101,115]⟩:ByteArray)=numsUp (List.getD (ordersBy (List.getD (splitB8 32 l) 1 default) (outS (l.extract (Int.toNat ((((((List.getD (splitB8 32 l) 0 default).size:Nat):Int)+(((List.getD (splitB8 32 l) 1 default).size:Nat):Int))+2))) l.size).data.toList) (aheadF (outS (l.extract (Int.toNat ((((((List.getD (splitB8 32 l) 0 default).size:Nat):Int)+(((List.getD (splitB8 32 l) 1 default).size:Nat):Int))+2))) l.size).data.toList))) 0 []) 0) from ⟨(by first | assumption | omega | rfl | (intro _ hjj; omega) | (simp; done) | (simp; omega)),(by rfl)⟩)
       ·exact Sub.of [] (@cast (((((.string (⟨#[121,101,115]⟩:ByteArray)):Value)=(.string (⟨#[121,101,115]⟩:ByteArray)))∧(Sd (.intss (ordersBy (List.getD (splitB8 (32:Int) l) 1 default) (outS (l.extract (Int.toNat ((((((List.getD (splitB8 (32:Int) l) 0 default).size):Nat):Int)+((((List.getD (splitB8 (32:Int) l) 1 default).size):Nat):Int))+(2:Int))) l.size).data.toList) (aheadF (outS (l.extract (Int.toNat ((((((List.getD (splitB8 (32:Int) l) 0 default).size):Nat):Int)+((((List.getD (splitB8 (32:Int) l) 1 default).size):Nat):Int))+(2:Int))) l.size).data.toList)))))∧((.int .i64 (0:Int):Value)=.int .i64 ((0:Nat):Int))∧Y)∧Y∧(true=true)∧(true=true)) _ (by kernel_rfl) ⟨⟨rfl,rfl,(congrArg (Value.int .i64) (by first | rfl | omega | assumption | simp | simp_all)),tt⟩,tt,rfl,rfl⟩)
       ·rintro ⟨i,o⟩ hC0
        have hC : (i≤(List.getD (ordersBy (List.getD (splitB8 32 l) 1 default) (outS (l.extract (Int.toNat ((((((List.getD (splitB8 32 l) 0 default).size:Nat):Int)+(((List.getD (splitB8 32 l) 1 default).size:Nat):Int))+2))) l.size).data.toList) (aheadF (outS (l.extract (Int.toNat ((((((List.getD (splitB8 32 l) 0 default).size:Nat):Int)+(((List.getD (splitB8 32 l) 1 default).size:Nat):Int))+2))) l.size).data.toList))) 0 []).length)∧(o=numsUp (List.getD (ordersBy (List.getD (splitB8 32 l) 1 default) (outS (l.extract (Int.toNat ((((((List.getD (splitB8 32 l) 0 default).size:Nat):Int)+(((List.getD (splitB8 32 l) 1 default).size:Nat):Int))+2))) l.size).data.toList) (aheadF (outS (l.extract (Int.toNat ((((((List.getD (splitB8 32 l) 0 default).size:Nat):Int)+(((List.getD (splitB8 32 l) 1 default).size:Nat):Int))+2))) l.size).data.toList))) 0 []) i) := hC0
        clear hC0
        obtain ⟨hi,ho⟩ := hC
        refine W.to (⟨[(7,.v (.string o)),(8,.sl (.intss (ordersBy (List.getD (splitB8 (32:Int) l) 1 default) (outS (l.extract (Int.toNat ((((((List.getD (splitB8 (32:Int) l) 0 default).size):Nat):Int)+((((List.getD (splitB8 (32:Int) l) 1 default).size):Nat):Int))+(2:Int))) l.size).data.toList) (aheadF (outS (l.extract (Int.toNat ((((((List.getD (splitB8 (32:Int) l) 0 default).size):Nat):Int)+((((List.getD (splitB8 (32:Int) l) 1 default).size):Nat):Int))+(2:Int))) l.size).data.toList))))),(9,.i ((i:Nat):Int))],[],[999]⟩) rfl ?_
        have hri := hrow.2 i
        have hos : o.size≤3+3 * i := by rw [ho]; exact nums_size hrow.2 i
        have hns := numB_small (n := (List.getD (ordersBy (List.getD (splitB8 32 l) 1 default) (outS (l.extract (Int.toNat ((((((List.getD (splitB8 32 l) 0 default).size:Nat):Int)+(((List.getD (splitB8 32 l) 1 default).size:Nat):Int))+2))) l.size).data.toList) (aheadF (outS (l.extract (Int.toNat ((((((List.getD (splitB8 32 l) 0 default).size:Nat):Int)+(((List.getD (splitB8 32 l) 1 default).size:Nat):Int))+2))) l.size).data.toList))) 0 []).getD i 0) (by omega) (by omega)
        refine W.seq ?_
        refine Kk cok tab12 hnt [] [7,8,9,95] (⟨[(7,.v (.string o)),(8,.sl (.intss (ordersBy (List.getD (splitB8 (32:Int) l) 1 default) (outS (l.extract (Int.toNat ((((((List.getD (splitB8 (32:Int) l) 0 default).size):Nat):Int)+((((List.getD (splitB8 (32:Int) l) 1 default).size):Nat):Int))+(2:Int))) l.size).data.toList) (aheadF (outS (l.extract (Int.toNat ((((((List.getD (splitB8 (32:Int) l) 0 default).size):Nat):Int)+((((List.getD (splitB8 (32:Int) l) 1 default).size):Nat):Int))+(2:Int))) l.size).data.toList))))),(9,.i ((i:Nat):Int)),(95,.b (decide (((i:Nat):Int)<(((List.length (List.getD (ordersBy (List.getD (splitB8 (32:Int) l) 1 default) (outS (l.extract (Int.toNat ((((((List.getD (splitB8 (32:Int) l) 0 default).size):Nat):Int)+((((List.getD (splitB8 (32:Int) l) 1 default).size):Nat):Int))+(2:Int))) l.size).data.toList) (aheadF (outS (l.extract (Int.toNat ((((((List.getD (splitB8 (32:Int) l) 0 default).size):Nat):Int)+((((List.getD (splitB8 (32:Int) l) 1 default).size):Nat):Int))+(2:Int))) l.size).data.toList))) 0 [])):Nat):Int))))],[],[999]⟩)
         (Y∧Y∧(Y∧Y∧(0≤(0:Int))∧((0:Int)<(((List.length (ordersBy (List.getD (splitB8 (32:Int) l) 1 default) (outS (l.extract (Int.toNat ((((((List.getD (splitB8 (32:Int) l) 0 default).size):Nat):Int)+((((List.getD (splitB8 (32:Int) l) 1 default).size):Nat):Int))+(2:Int))) l.size).data.toList) (aheadF (outS (l.extract (Int.toNat ((((((List.getD (splitB8 (32:Int) l) 0 default).size):Nat):Int)+((((List.getD (splitB8 (32:Int) l) 1 default).size):Nat):Int))+(2:Int))) l.size).data.toList)))):Nat):Int)))∧Y∧Y∧(Y∧Y∧Y)∧Y)
         ⟨tt,tt,⟨tt,tt,(by first | omega | (have h9 := hrow.2 i; omega)),(by (try simp only [ByteArray.size_append,ByteArray.size_extract,sz1,sz2,sz3]); omega)⟩,tt,tt,⟨tt,tt,tt⟩,tt⟩ ?_
        refine W.ifP (((i:Nat):Int)<(((List.length (List.getD (ordersBy (List.getD (splitB8 (32:Int) l) 1 default) (outS (l.extract (Int.toNat ((((((List.getD (splitB8 (32:Int) l) 0 default).size):Nat):Int)+((((List.getD (splitB8 (32:Int) l) 1 default).size):Nat):Int))+(2:Int))) l.size).data.toList) (aheadF (outS (l.extract (Int.toNat ((((((List.getD (splitB8 (32:Int) l) 0 default).size):Nat):Int)+((((List.getD (splitB8 (32:Int) l) 1 default).size):Nat):Int))+(2:Int))) l.size).data.toList))) 0 [])):Nat):Int)) (.b (decide (((i:Nat):Int)<(((List.length (List.getD (ordersBy (List.getD (splitB8 (32:Int) l) 1 default) (outS (l.extract (Int.toNat ((((((List.getD (splitB8 (32:Int) l) 0 default).size):Nat):Int)+((((List.getD (splitB8 (32:Int) l) 1 default).size):Nat):Int))+(2:Int))) l.size).data.toList) (aheadF (outS (l.extract (Int.toNat ((((((List.getD (splitB8 (32:Int) l) 0 default).size):Nat):Int)+((((List.getD (splitB8 (32:Int) l) 1 default).size):Nat):Int))+(2:Int))) l.size).data.toList))) 0 [])):Nat):Int)))) (by kernel_rfl) rfl trivial ?_ ?_
        ·intro h95
         refine W.skip (thenQ_normal ?_)
         refine W.seq ?_
         refine W.block ?_
         refine Lk cok tab12 hnt [] (⟨[(7,.v (.string ((o++(⟨#[32]⟩:ByteArray))++(numB (List.getD (List.getD (ordersBy (List.getD (splitB8 (32:Int) l) 1 default) (outS (l.extract (Int.toNat ((((((List.getD (splitB8 (32:Int) l) 0 default).size):Nat):Int)+((((List.getD (splitB8 (32:Int) l) 1 default).size):Nat):Int))+(2:Int))) l.size).data.toList) (aheadF (outS (l.extract (Int.toNat ((((((List.getD (splitB8 (32:Int) l) 0 default).size):Nat):Int)+((((List.getD (splitB8 (32:Int) l) 1 default).size):Nat):Int))+(2:Int))) l.size).data.toList))) 0 []) i 0))))),(8,.sl (.intss (ordersBy (List.getD (splitB8 (32:Int) l) 1 default) (outS (l.extract (Int.toNat ((((((List.getD (splitB8 (32:Int) l) 0 default).size):Nat):Int)+((((List.getD (splitB8 (32:Int) l) 1 default).size):Nat):Int))+(2:Int))) l.size).data.toList) (aheadF (outS (l.extract (Int.toNat ((((((List.getD (splitB8 (32:Int) l) 0 default).size):Nat):Int)+((((List.getD (splitB8 (32:Int) l) 1 default).size):Nat):Int))+(2:Int))) l.size).data.toList))))),(9,.i ((i:Nat):Int)),(95,.b (decide (((i:Nat):Int)<(((List.length (List.getD (ordersBy (List.getD (splitB8 (32:Int) l) 1 default) (outS (l.extract (Int.toNat ((((((List.getD (splitB8 (32:Int) l) 0 default).size):Nat):Int)+((((List.getD (splitB8 (32:Int) l) 1 default).size):Nat):Int))+(2:Int))) l.size).data.toList) (aheadF (outS (l.extract (Int.toNat ((((((List.getD (splitB8 (32:Int) l) 0 default).size):Nat):Int)+((((List.getD (splitB8 (32:Int) l) 1 default).size):Nat):Int))+(2:Int))) l.size).data.toList))) 0 [])):Nat):Int)))),(98,.v (.string o)),(99,.v (.string (o++(⟨#[32]⟩:ByteArray)))),(100,.sl (.intss (ordersBy (List.getD (splitB8 (32:Int) l) 1 default) (outS (l.extract (Int.toNat ((((((List.getD (splitB8 (32:Int) l) 0 default).size):Nat):Int)+((((List.getD (splitB8 (32:Int) l) 1 default).size):Nat):Int))+(2:Int))) l.size).data.toList) (aheadF (outS (l.extract (Int.toNat ((((((List.getD (splitB8 (32:Int) l) 0 default).size):Nat):Int)+((((List.getD (splitB8 (32:Int) l) 1 default).size):Nat):Int))+(2:Int))) l.size).data.toList))))),(101,.ep [.sl (.ints (List.getD (ordersBy (List.getD (splitB8 (32:Int) l) 1 default) (outS (l.extract (Int.toNat ((((((List.getD (splitB8 (32:Int) l) 0 default).size):Nat):Int)+((((List.getD (splitB8 (32:Int) l) 1 default).size):Nat):Int))+(2:Int))) l.size).data.toList) (aheadF (outS (l.extract (Int.toNat ((((((List.getD (splitB8 (32:Int) l) 0 default).size):Nat):Int)+((((List.getD (splitB8 (32:Int) l) 1 default).size):Nat):Int))+(2:Int))) l.size).data.toList))) 0 []))]),(102,.sl (.ints (List.getD (ordersBy (List.getD (splitB8 (32:Int) l) 1 default) (outS (l.extract (Int.toNat ((((((List.getD (splitB8 (32:Int) l) 0 default).size):Nat):Int)+((((List.getD (splitB8 (32:Int) l) 1 default).size):Nat):Int))+(2:Int))) l.size).data.toList) (aheadF (outS (l.extract (Int.toNat ((((((List.getD (splitB8 (32:Int) l) 0 default).size):Nat):Int)+((((List.getD (splitB8 (32:Int) l) 1 default).size):Nat):Int))+(2:Int))) l.size).data.toList))) 0 []))),(103,.i ((i:Nat):Int)),(104,.ep [.i (List.getD (List.getD (ordersBy (List.getD (splitB8 (32:Int) l) 1 default) (outS (l.extract (Int.toNat ((((((List.getD (splitB8 (32:Int) l) 0 default).size):Nat):Int)+((((List.getD (splitB8 (32:Int) l) 1 default).size):Nat):Int))+(2:Int))) l.size).data.toList) (aheadF (outS (l.extract (Int.toNat ((((((List.getD (splitB8 (32:Int) l) 0 default).size):Nat):Int)+((((List.getD (splitB8 (32:Int) l) 1 default).size):Nat):Int))+(2:Int))) l.size).data.toList))) 0 []) i 0)]),(105,.i (List.getD (List.getD (ordersBy (List.getD (splitB8 (32:Int) l) 1 default) (outS (l.extract (Int.toNat ((((((List.getD (splitB8 (32:Int) l) 0 default).size):Nat):Int)+((((List.getD (splitB8 (32:Int) l) 1 default).size):Nat):Int))+(2:Int))) l.size).data.toList) (aheadF (outS (l.extract (Int.toNat ((((((List.getD (splitB8 (32:Int) l) 0 default).size):Nat):Int)+((((List.getD (splitB8 (32:Int) l) 1 default).size):Nat):Int))+(2:Int))) l.size).data.toList))) 0 []) i 0)),(106,.v (.string (numB (List.getD (List.getD (ordersBy (List.getD (splitB8 (32:Int) l) 1 default) (outS (l.extract (Int.toNat ((((((List.getD (splitB8 (32:Int) l) 0 default).size):Nat):Int)+((((List.getD (splitB8 (32:Int) l) 1 default).size):Nat):Int))+(2:Int))) l.size).data.toList) (aheadF (outS (l.extract (Int.toNat ((((((List.getD (splitB8 (32:Int) l) 0 default).size):Nat):Int)+((((List.getD (splitB8 (32:Int) l) 1 default).size):Nat):Int))+(2:Int))) l.size).data.toList))) 0 []) i 0)))),(107,.v (.string ((o++(⟨#[32]⟩:ByteArray))++(numB (List.getD (List.getD (ordersBy (List.getD (splitB8 (32:Int) l) 1 default) (outS (l.extract (Int.toNat ((((((List.getD (splitB8 (32:Int) l) 0 default).size):Nat):Int)+((((List.getD (splitB8 (32:Int) l) 1 default).size):Nat):Int))+(2:Int))) l.size).data.toList) (aheadF (outS (l.extract (Int.toNat ((((((List.getD (splitB8 (32:Int) l) 0 default).size):Nat):Int)+((((List.getD (splitB8 (32:Int) l) 1 default).size):Nat):Int))+(2:Int))) l.size).data.toList))) 0 []) i 0)))))],[],[999]⟩)
          (Y∧(Y∧Y∧(o.size+(⟨#[32]⟩:ByteArray).size≤9223372036854775807))∧Y∧(Y∧Y∧(0≤(0:Int))∧((0:Int)<(((List.length (ordersBy (List.getD (splitB8 (32:Int) l) 1 default) (outS (l.extract (Int.toNat ((((((List.getD (splitB8 (32:Int) l) 0 default).size):Nat):Int)+((((List.getD (splitB8 (32:Int) l) 1 default).size):Nat):Int))+(2:Int))) l.size).data.toList) (aheadF (outS (l.extract (Int.toNat ((((((List.getD (splitB8 (32:Int) l) 0 default).size):Nat):Int)+((((List.getD (splitB8 (32:Int) l) 1 default).size):Nat):Int))+(2:Int))) l.size).data.toList)))):Nat):Int)))∧Y∧Y∧(Y∧Y∧(0≤((i:Nat):Int))∧(((i:Nat):Int)<(((List.length (List.getD (ordersBy (List.getD (splitB8 (32:Int) l) 1 default) (outS (l.extract (Int.toNat ((((((List.getD (splitB8 (32:Int) l) 0 default).size):Nat):Int)+((((List.getD (splitB8 (32:Int) l) 1 default).size):Nat):Int))+(2:Int))) l.size).data.toList) (aheadF (outS (l.extract (Int.toNat ((((((List.getD (splitB8 (32:Int) l) 0 default).size):Nat):Int)+((((List.getD (splitB8 (32:Int) l) 1 default).size):Nat):Int))+(2:Int))) l.size).data.toList))) 0 [])):Nat):Int)))∧Y∧(Y∧(Y∧Y)∧-1000000≤(List.getD (List.getD (ordersBy (List.getD (splitB8 (32:Int) l) 1 default) (outS (l.extract (Int.toNat ((((((List.getD (splitB8 (32:Int) l) 0 default).size):Nat):Int)+((((List.getD (splitB8 (32:Int) l) 1 default).size):Nat):Int))+(2:Int))) l.size).data.toList) (aheadF (outS (l.extract (Int.toNat ((((((List.getD (splitB8 (32:Int) l) 0 default).size):Nat):Int)+((((List.getD (splitB8 (32:Int) l) 1 default).size):Nat):Int))+(2:Int))) l.size).data.toList))) 0 []) i 0)∧(List.getD (List.getD (ordersBy (List.getD (splitB8 (32:Int) l) 1 default) (outS (l.extract (Int.toNat ((((((List.getD (splitB8 (32:Int) l) 0 default).size):Nat):Int)+((((List.getD (splitB8 (32:Int) l) 1 default).size):Nat):Int))+(2:Int))) l.size).data.toList) (aheadF (outS (l.extract (Int.toNat ((((((List.getD (splitB8 (32:Int) l) 0 default).size):Nat):Int)+((((List.getD (splitB8 (32:Int) l) 1 default).size):Nat):Int))+(2:Int))) l.size).data.toList))) 0 []) i 0)≤1000000)∧(Y∧Y∧((o++(⟨#[32]⟩:ByteArray)).size+(numB (List.getD (List.getD (ordersBy (List.getD (splitB8 (32:Int) l) 1 default) (outS (l.extract (Int.toNat ((((((List.getD (splitB8 (32:Int) l) 0 default).size):Nat):Int)+((((List.getD (splitB8 (32:Int) l) 1 default).size):Nat):Int))+(2:Int))) l.size).data.toList) (aheadF (outS (l.extract (Int.toNat ((((((List.getD (splitB8 (32:Int) l) 0 default).size):Nat):Int)+((((List.getD (splitB8 (32:Int) l) 1 default).size):Nat):Int))+(2:Int))) l.size).data.toList))) 0 []) i 0)).size≤9223372036854775807))∧Y∧Y)
          ⟨tt,⟨tt,tt,(by (try simp only [ByteArray.size_append,ByteArray.size_extract,sz1,sz2,sz3]); omega)⟩,tt,⟨tt,tt,(by first | omega | (have h9 := hrow.2 i; omega)),(by (try simp only [ByteArray.size_append,ByteArray.size_extract,sz1,sz2,sz3]); omega)⟩,tt,tt,⟨tt,tt,(by first | omega | (have h9 := hrow.2 i; omega)),(by (try simp only [ByteArray.size_append,ByteArray.size_extract,sz1,sz2,sz3]); omega)⟩,tt,⟨tt,⟨tt,tt⟩,(by (try simp only [ByteArray.size_append,ByteArray.size_extract,sz1,sz2,sz3]); omega)⟩,⟨tt,tt,(by (try simp only [ByteArray.size_append,ByteArray.size_extract,sz1,sz2,sz3]); omega)⟩,tt,tt⟩ ?_
         refine blockQ_normal (thenQ_normal ?_)
         refine Lk cok tab12 hnt [] (⟨[(7,.v (.string ((o++(⟨#[32]⟩:ByteArray))++(numB (List.getD (List.getD (ordersBy (List.getD (splitB8 (32:Int) l) 1 default) (outS (l.extract (Int.toNat ((((((List.getD (splitB8 (32:Int) l) 0 default).size):Nat):Int)+((((List.getD (splitB8 (32:Int) l) 1 default).size):Nat):Int))+(2:Int))) l.size).data.toList) (aheadF (outS (l.extract (Int.toNat ((((((List.getD (splitB8 (32:Int) l) 0 default).size):Nat):Int)+((((List.getD (splitB8 (32:Int) l) 1 default).size):Nat):Int))+(2:Int))) l.size).data.toList))) 0 []) i 0))))),(8,.sl (.intss (ordersBy (List.getD (splitB8 (32:Int) l) 1 default) (outS (l.extract (Int.toNat ((((((List.getD (splitB8 (32:Int) l) 0 default).size):Nat):Int)+((((List.getD (splitB8 (32:Int) l) 1 default).size):Nat):Int))+(2:Int))) l.size).data.toList) (aheadF (outS (l.extract (Int.toNat ((((((List.getD (splitB8 (32:Int) l) 0 default).size):Nat):Int)+((((List.getD (splitB8 (32:Int) l) 1 default).size):Nat):Int))+(2:Int))) l.size).data.toList))))),(9,.i (((i+1):Nat):Int)),(95,.b (decide (((i:Nat):Int)<(((List.length (List.getD (ordersBy (List.getD (splitB8 (32:Int) l) 1 default) (outS (l.extract (Int.toNat ((((((List.getD (splitB8 (32:Int) l) 0 default).size):Nat):Int)+((((List.getD (splitB8 (32:Int) l) 1 default).size):Nat):Int))+(2:Int))) l.size).data.toList) (aheadF (outS (l.extract (Int.toNat ((((((List.getD (splitB8 (32:Int) l) 0 default).size):Nat):Int)+((((List.getD (splitB8 (32:Int) l) 1 default).size):Nat):Int))+(2:Int))) l.size).data.toList))) 0 [])):Nat):Int)))),(96,.i ((i:Nat):Int)),(97,.i (((i+1):Nat):Int)),(98,.v (.string o)),(99,.v (.string (o++(⟨#[32]⟩:ByteArray)))),(100,.sl (.intss (ordersBy (List.getD (splitB8 (32:Int) l) 1 default) (outS (l.extract (Int.toNat ((((((List.getD (splitB8 (32:Int) l) 0 default).size):Nat):Int)+((((List.getD (splitB8 (32:Int) l) 1 default).size):Nat):Int))+(2:Int))) l.size).data.toList) (aheadF (outS (l.extract (Int.toNat ((((((List.getD (splitB8 (32:Int) l) 0 default).size):Nat):Int)+((((List.getD (splitB8 (32:Int) l) 1 default).size):Nat):Int))+(2:Int))) l.size).data.toList))))),(101,.ep [.sl (.ints (List.getD (ordersBy (List.getD (splitB8 (32:Int) l) 1 default) (outS (l.extract (Int.toNat ((((((List.getD (splitB8 (32:Int) l) 0 default).size):Nat):Int)+((((List.getD (splitB8 (32:Int) l) 1 default).size):Nat):Int))+(2:Int))) l.size).data.toList) (aheadF (outS (l.extract (Int.toNat ((((((List.getD (splitB8 (32:Int) l) 0 default).size):Nat):Int)+((((List.getD (splitB8 (32:Int) l) 1 default).size):Nat):Int))+(2:Int))) l.size).data.toList))) 0 []))]),(102,.sl (.ints (List.getD (ordersBy (List.getD (splitB8 (32:Int) l) 1 default) (outS (l.extract (Int.toNat ((((((List.getD (splitB8 (32:Int) l) 0 default).size):Nat):Int)+((((List.getD (splitB8 (32:Int) l) 1 default).size):Nat):Int))+(2:Int))) l.size).data.toList) (aheadF (outS (l.extract (Int.toNat ((((((List.getD (splitB8 (32:Int) l) 0 default).size):Nat):Int)+((((List.getD (splitB8 (32:Int) l) 1 default).size):Nat):Int))+(2:Int))) l.size).data.toList))) 0 []))),(103,.i ((i:Nat):Int)),(104,.ep [.i (List.getD (List.getD (ordersBy (List.getD (splitB8 (32:Int) l) 1 default) (outS (l.extract (Int.toNat ((((((List.getD (splitB8 (32:Int) l) 0 default).size):Nat):Int)+((((List.getD (splitB8 (32:Int) l) 1 default).size):Nat):Int))+(2:Int))) l.size).data.toList) (aheadF (outS (l.extract (Int.toNat ((((((List.getD (splitB8 (32:Int) l) 0 default).size):Nat):Int)+((((List.getD (splitB8 (32:Int) l) 1 default).size):Nat):Int))+(2:Int))) l.size).data.toList))) 0 []) i 0)]),(105,.i (List.getD (List.getD (ordersBy (List.getD (splitB8 (32:Int) l) 1 default) (outS (l.extract (Int.toNat ((((((List.getD (splitB8 (32:Int) l) 0 default).size):Nat):Int)+((((List.getD (splitB8 (32:Int) l) 1 default).size):Nat):Int))+(2:Int))) l.size).data.toList) (aheadF (outS (l.extract (Int.toNat ((((((List.getD (splitB8 (32:Int) l) 0 default).size):Nat):Int)+((((List.getD (splitB8 (32:Int) l) 1 default).size):Nat):Int))+(2:Int))) l.size).data.toList))) 0 []) i 0)),(106,.v (.string (numB (List.getD (List.getD (ordersBy (List.getD (splitB8 (32:Int) l) 1 default) (outS (l.extract (Int.toNat ((((((List.getD (splitB8 (32:Int) l) 0 default).size):Nat):Int)+((((List.getD (splitB8 (32:Int) l) 1 default).size):Nat):Int))+(2:Int))) l.size).data.toList) (aheadF (outS (l.extract (Int.toNat ((((((List.getD (splitB8 (32:Int) l) 0 default).size):Nat):Int)+((((List.getD (splitB8 (32:Int) l) 1 default).size):Nat):Int))+(2:Int))) l.size).data.toList))) 0 []) i 0)))),(107,.v (.string ((o++(⟨#[32]⟩:ByteArray))++(numB (List.getD (List.getD (ordersBy (List.getD (splitB8 (32:Int) l) 1 default) (outS (l.extract (Int.toNat ((((((List.getD (splitB8 (32:Int) l) 0 default).size):Nat):Int)+((((List.getD (splitB8 (32:Int) l) 1 default).size):Nat):Int))+(2:Int))) l.size).data.toList) (aheadF (outS (l.extract (Int.toNat ((((((List.getD (splitB8 (32:Int) l) 0 default).size):Nat):Int)+((((List.getD (splitB8 (32:Int) l) 1 default).size):Nat):Int))+(2:Int))) l.size).data.toList))) 0 []) i 0)))))],[],[999]⟩)
          (Y∧(Y∧Y∧(Fits .i64 (((i+1):Nat):Int)))∧Y∧Y)
          ⟨tt,⟨tt,tt,(by exact fits_i64 (by omega) (by omega))⟩,tt,tt⟩ ?_
         refine thenQ_normal ?_
         refine ⟨((i+1),((o++(⟨#[32]⟩:ByteArray))++(numB (List.getD (List.getD (ordersBy (List.getD (splitB8 (32:Int) l) 1 default) (outS (l.extract (Int.toNat ((((((List.getD (splitB8 (32:Int) l) 0 default).size):Nat):Int)+((((List.getD (splitB8 (32:Int) l) 1 default).size):Nat):Int))+(2:Int))) l.size).data.toList) (aheadF (outS (l.extract (Int.toNat ((((((List.getD (splitB8 (32:Int) l) 0 default).size):Nat):Int)+((((List.getD (splitB8 (32:Int) l) 1 default).size):Nat):Int))+(2:Int))) l.size).data.toList))) 0 []) i 0)))),(show ((i+1)≤(List.getD (ordersBy (List.getD (splitB8 32 l) 1 default) (outS (l.extract (Int.toNat ((((((List.getD (splitB8 32 l) 0 default).size:Nat):Int)+(((List.getD (splitB8 32 l) 1 default).size:Nat):Int))+2))) l.size).data.toList) (aheadF (outS (l.extract (Int.toNat ((((((List.getD (splitB8 32 l) 0 default).size:Nat):Int)+(((List.getD (splitB8 32 l) 1 default).size:Nat):Int))+2))) l.size).data.toList))) 0 []).length)∧(((o++(⟨#[32]⟩:ByteArray))++(numB (List.getD (List.getD (ordersBy (List.getD (splitB8 (32:Int) l) 1 default) (outS (l.extract (Int.toNat ((((((List.getD (splitB8 (32:Int) l) 0 default).size):Nat):Int)+((((List.getD (splitB8 (32:Int) l) 1 default).size):Nat):Int))+(2:Int))) l.size).data.toList) (aheadF (outS (l.extract (Int.toNat ((((((List.getD (splitB8 (32:Int) l) 0 default).size):Nat):Int)+((((List.getD (splitB8 (32:Int) l) 1 default).size):Nat):Int))+(2:Int))) l.size).data.toList))) 0 []) i 0)))=numsUp (List.getD (ordersBy (List.getD (splitB8 32 l) 1 default) (outS (l.extract (Int.toNat ((((((List.getD (splitB8 32 l) 0 default).size:Nat):Int)+(((List.getD (splitB8 32 l) 1 default).size:Nat):Int))+2))) l.size).data.toList) (aheadF (outS (l.extract (Int.toNat ((((((List.getD (splitB8 32 l) 0 default).size:Nat):Int)+(((List.getD (splitB8 32 l) 1 default).size:Nat):Int))+2))) l.size).data.toList))) 0 []) (i+1)) from ⟨(by first | assumption | omega | rfl | (intro _ hjj; omega) | (simp; done) | (simp; omega)),(by rw [ho,ByteArray.append_assoc]; rfl)⟩),(show (List.getD (ordersBy (List.getD (splitB8 32 l) 1 default) (outS (l.extract (Int.toNat ((((((List.getD (splitB8 32 l) 0 default).size:Nat):Int)+(((List.getD (splitB8 32 l) 1 default).size:Nat):Int))+2))) l.size).data.toList) (aheadF (outS (l.extract (Int.toNat ((((((List.getD (splitB8 32 l) 0 default).size:Nat):Int)+(((List.getD (splitB8 32 l) 1 default).size:Nat):Int))+2))) l.size).data.toList))) 0 []).length - (i+1)<(List.getD (ordersBy (List.getD (splitB8 32 l) 1 default) (outS (l.extract (Int.toNat ((((((List.getD (splitB8 32 l) 0 default).size:Nat):Int)+(((List.getD (splitB8 32 l) 1 default).size:Nat):Int))+2))) l.size).data.toList) (aheadF (outS (l.extract (Int.toNat ((((((List.getD (splitB8 32 l) 0 default).size:Nat):Int)+(((List.getD (splitB8 32 l) 1 default).size:Nat):Int))+2))) l.size).data.toList))) 0 []).length - i from (by first | omega | (simp_all; omega))),?_⟩
         exact Sub.of [] (@cast (((((.string ((o++(⟨#[32]⟩:ByteArray))++(numB (List.getD (List.getD (ordersBy (List.getD (splitB8 (32:Int) l) 1 default) (outS (l.extract (Int.toNat ((((((List.getD (splitB8 (32:Int) l) 0 default).size):Nat):Int)+((((List.getD (splitB8 (32:Int) l) 1 default).size):Nat):Int))+(2:Int))) l.size).data.toList) (aheadF (outS (l.extract (Int.toNat ((((((List.getD (splitB8 (32:Int) l) 0 default).size):Nat):Int)+((((List.getD (splitB8 (32:Int) l) 1 default).size):Nat):Int))+(2:Int))) l.size).data.toList))) 0 []) i 0)))):Value)=(.string ((o++(⟨#[32]⟩:ByteArray))++(numB (List.getD (List.getD (ordersBy (List.getD (splitB8 (32:Int) l) 1 default) (outS (l.extract (Int.toNat ((((((List.getD (splitB8 (32:Int) l) 0 default).size):Nat):Int)+((((List.getD (splitB8 (32:Int) l) 1 default).size):Nat):Int))+(2:Int))) l.size).data.toList) (aheadF (outS (l.extract (Int.toNat ((((((List.getD (splitB8 (32:Int) l) 0 default).size):Nat):Int)+((((List.getD (splitB8 (32:Int) l) 1 default).size):Nat):Int))+(2:Int))) l.size).data.toList))) 0 []) i 0)))))∧(Sd (.intss (ordersBy (List.getD (splitB8 (32:Int) l) 1 default) (outS (l.extract (Int.toNat ((((((List.getD (splitB8 (32:Int) l) 0 default).size):Nat):Int)+((((List.getD (splitB8 (32:Int) l) 1 default).size):Nat):Int))+(2:Int))) l.size).data.toList) (aheadF (outS (l.extract (Int.toNat ((((((List.getD (splitB8 (32:Int) l) 0 default).size):Nat):Int)+((((List.getD (splitB8 (32:Int) l) 1 default).size):Nat):Int))+(2:Int))) l.size).data.toList)))))∧(Si (((i+1):Nat):Int))∧Y)∧Y∧(true=true)∧(true=true)) _ (by kernel_rfl) ⟨⟨rfl,rfl,rfl,tt⟩,tt,rfl,rfl⟩)
        ·intro n95
         refine W.exit (thenQ_exit (thenQ_exit (blockQ_hit ?_)))
         refine blockQ_normal (thenQ_normal ?_)
         refine Kk cok tab12 hnt [] [2] (⟨[(2,.v (.string o))],[],[999]⟩)
          (Y∧Y∧Y)
          ⟨tt,tt,tt⟩ ?_
         refine W.ret ?_
         exact endQ_ret (.v (.string o)) (by kernel_rfl) (@cast (((.string o):Value)=(.string (deskV l))) _ (by kernel_rfl) (congrArg Value.string (by rw [hE,ho,show i=(List.getD (ordersBy (List.getD (splitB8 32 l) 1 default) (outS (l.extract (Int.toNat ((((((List.getD (splitB8 32 l) 0 default).size:Nat):Int)+(((List.getD (splitB8 32 l) 1 default).size:Nat):Int))+2))) l.size).data.toList) (aheadF (outS (l.extract (Int.toNat ((((((List.getD (splitB8 32 l) 0 default).size:Nat):Int)+(((List.getD (splitB8 32 l) 1 default).size:Nat):Int))+2))) l.size).data.toList))) 0 []).length by omega])))
      ·intro n89
       rw [decide_eq_true (p := _=0) (by omega),cond_true] at hE
       refine W.skip (blockQ_normal (thenQ_normal ?_))
       refine Kk cok tab12 hnt [] [2] (⟨[(2,.v (.string (⟨#[110,111]⟩:ByteArray)))],[],[11,999]⟩)
        (Y∧Y∧Y)
        ⟨tt,tt,tt⟩ ?_
       refine W.ret ?_
       exact endQ_ret (.v (.string (⟨#[110,111]⟩:ByteArray))) (by kernel_rfl) (@cast (((.string (⟨#[110,111]⟩:ByteArray)):Value)=(.string (deskV l))) _ (by kernel_rfl) (congrArg Value.string (by first | exact hE | exact hE.symm)))
     ·intro n80
      refine Kk cok tab12 hnt [] [3,5,7,108] (⟨[(3,.sl (.strs (splitB8 (32:Int) l))),(5,.sl (.calls (outS (l.extract (Int.toNat ((((((List.getD (splitB8 (32:Int) l) 0 default).size):Nat):Int)+((((List.getD (splitB8 (32:Int) l) 1 default).size):Nat):Int))+(2:Int))) l.size).data.toList))),(7,.v (.string (⟨#[110,111]⟩:ByteArray))),(108,.b (eqS (List.getD (splitB8 (32:Int) l) 0 default) (⟨#[111,119,110]⟩:ByteArray)))],[],[11,999]⟩)
       ((Y∧Y∧Y)∧Y∧Y)
       ⟨⟨tt,tt,tt⟩,tt,tt⟩ ?_
      refine W.if' (eqS (List.getD (splitB8 (32:Int) l) 0 default) (⟨#[111,119,110]⟩:ByteArray)) (.b (eqS (List.getD (splitB8 (32:Int) l) 0 default) (⟨#[111,119,110]⟩:ByteArray))) (by kernel_rfl) rfl trivial ?_ ?_
      ·intro h108
       rw [core_own h108] at hE
       refine Kk cok tab12 hnt [] [7,114] (⟨[(7,.v (.string (⟨#[110,111]⟩:ByteArray))),(114,.b (explains (List.getD (splitB8 (32:Int) l) 1 default) (outS (l.extract (Int.toNat ((((((List.getD (splitB8 (32:Int) l) 0 default).size):Nat):Int)+((((List.getD (splitB8 (32:Int) l) 1 default).size):Nat):Int))+(2:Int))) l.size).data.toList) (ownF (outS (l.extract (Int.toNat ((((((List.getD (splitB8 (32:Int) l) 0 default).size):Nat):Int)+((((List.getD (splitB8 (32:Int) l) 1 default).size):Nat):Int))+(2:Int))) l.size).data.toList))))],[],[11,999]⟩)
        (Y∧(Y∧Y∧(0≤(1:Int))∧((1:Int)<(((List.length (splitB8 (32:Int) l)):Nat):Int)))∧Y∧Y∧(Y∧(Y∧Y∧Y)∧Y)∧Y)
        ⟨tt,⟨tt,tt,(by first | omega | (have h9 := hrow.2 i; omega)),(by first | omega | (have h9 := hrow.2 i; omega))⟩,tt,tt,⟨tt,⟨tt,tt,tt⟩,tt⟩,tt⟩ ?_
       refine W.if' (explains (List.getD (splitB8 (32:Int) l) 1 default) (outS (l.extract (Int.toNat ((((((List.getD (splitB8 (32:Int) l) 0 default).size):Nat):Int)+((((List.getD (splitB8 (32:Int) l) 1 default).size):Nat):Int))+(2:Int))) l.size).data.toList) (ownF (outS (l.extract (Int.toNat ((((((List.getD (splitB8 (32:Int) l) 0 default).size):Nat):Int)+((((List.getD (splitB8 (32:Int) l) 1 default).size):Nat):Int))+(2:Int))) l.size).data.toList))) (.b (explains (List.getD (splitB8 (32:Int) l) 1 default) (outS (l.extract (Int.toNat ((((((List.getD (splitB8 (32:Int) l) 0 default).size):Nat):Int)+((((List.getD (splitB8 (32:Int) l) 1 default).size):Nat):Int))+(2:Int))) l.size).data.toList) (ownF (outS (l.extract (Int.toNat ((((((List.getD (splitB8 (32:Int) l) 0 default).size):Nat):Int)+((((List.getD (splitB8 (32:Int) l) 1 default).size):Nat):Int))+(2:Int))) l.size).data.toList)))) (by kernel_rfl) rfl trivial ?_ ?_
       ·intro h114
        rw [h114] at hE
        refine Lk cok tab12 hnt [] (⟨[(7,.v (.string (⟨#[121,101,115]⟩:ByteArray))),(114,.b (explains (List.getD (splitB8 (32:Int) l) 1 default) (outS (l.extract (Int.toNat ((((((List.getD (splitB8 (32:Int) l) 0 default).size):Nat):Int)+((((List.getD (splitB8 (32:Int) l) 1 default).size):Nat):Int))+(2:Int))) l.size).data.toList) (ownF (outS (l.extract (Int.toNat ((((((List.getD (splitB8 (32:Int) l) 0 default).size):Nat):Int)+((((List.getD (splitB8 (32:Int) l) 1 default).size):Nat):Int))+(2:Int))) l.size).data.toList))))],[],[11,999]⟩)
         (Y∧Y)
         ⟨tt,tt⟩ ?_
        refine blockQ_normal (thenQ_normal ?_)
        refine Kk cok tab12 hnt [] [2] (⟨[(2,.v (.string (⟨#[121,101,115]⟩:ByteArray)))],[],[11,999]⟩)
         (Y∧Y∧Y)
         ⟨tt,tt,tt⟩ ?_
        refine W.ret ?_
        exact endQ_ret (.v (.string (⟨#[121,101,115]⟩:ByteArray))) (by kernel_rfl) (@cast (((.string (⟨#[121,101,115]⟩:ByteArray)):Value)=(.string (deskV l))) _ (by kernel_rfl) (congrArg Value.string (by first | exact hE | exact hE.symm)))
       ·intro n114
        rw [n114] at hE
        refine W.skip (blockQ_normal (thenQ_normal ?_))
        refine Kk cok tab12 hnt [] [2] (⟨[(2,.v (.string (⟨#[110,111]⟩:ByteArray)))],[],[11,999]⟩)
         (Y∧Y∧Y)
         ⟨tt,tt,tt⟩ ?_
        refine W.ret ?_
        exact endQ_ret (.v (.string (⟨#[110,111]⟩:ByteArray))) (by kernel_rfl) (@cast (((.string (⟨#[110,111]⟩:ByteArray)):Value)=(.string (deskV l))) _ (by kernel_rfl) (congrArg Value.string (by first | exact hE | exact hE.symm)))
      ·intro n108
       rw [core_qui (kind_qui hk n75 n80 n108)] at hE
       refine Kk cok tab12 hnt [] [7,74] (⟨[(7,.v (.string (⟨#[110,111]⟩:ByteArray))),(74,.b (explains (List.getD (splitB8 (32:Int) l) 1 default) (outS (l.extract (Int.toNat ((((((List.getD (splitB8 (32:Int) l) 0 default).size):Nat):Int)+((((List.getD (splitB8 (32:Int) l) 1 default).size):Nat):Int))+(2:Int))) l.size).data.toList) (quietF (outS (l.extract (Int.toNat ((((((List.getD (splitB8 (32:Int) l) 0 default).size):Nat):Int)+((((List.getD (splitB8 (32:Int) l) 1 default).size):Nat):Int))+(2:Int))) l.size).data.toList))))],[],[11,999]⟩)
        (Y∧(Y∧Y∧(0≤(1:Int))∧((1:Int)<(((List.length (splitB8 (32:Int) l)):Nat):Int)))∧Y∧Y∧(Y∧(Y∧Y∧Y)∧Y)∧Y)
        ⟨tt,⟨tt,tt,(by first | omega | (have h9 := hrow.2 i; omega)),(by first | omega | (have h9 := hrow.2 i; omega))⟩,tt,tt,⟨tt,⟨tt,tt,tt⟩,tt⟩,tt⟩ ?_
       refine W.if' (explains (List.getD (splitB8 (32:Int) l) 1 default) (outS (l.extract (Int.toNat ((((((List.getD (splitB8 (32:Int) l) 0 default).size):Nat):Int)+((((List.getD (splitB8 (32:Int) l) 1 default).size):Nat):Int))+(2:Int))) l.size).data.toList) (quietF (outS (l.extract (Int.toNat ((((((List.getD (splitB8 (32:Int) l) 0 default).size):Nat):Int)+((((List.getD (splitB8 (32:Int) l) 1 default).size):Nat):Int))+(2:Int))) l.size).data.toList))) (.b (explains (List.getD (splitB8 (32:Int) l) 1 default) (outS (l.extract (Int.toNat ((((((List.getD (splitB8 (32:Int) l) 0 default).size):Nat):Int)+((((List.getD (splitB8 (32:Int) l) 1 default).size):Nat):Int))+(2:Int))) l.size).data.toList) (quietF (outS (l.extract (Int.toNat ((((((List.getD (splitB8 (32:Int) l) 0 default).size):Nat):Int)+((((List.getD (splitB8 (32:Int) l) 1 default).size):Nat):Int))+(2:Int))) l.size).data.toList)))) (by kernel_rfl) rfl trivial ?_ ?_
       ·intro h74
        rw [h74] at hE
        refine Lk cok tab12 hnt [] (⟨[(7,.v (.string (⟨#[121,101,115]⟩:ByteArray))),(74,.b (explains (List.getD (splitB8 (32:Int) l) 1 default) (outS (l.extract (Int.toNat ((((((List.getD (splitB8 (32:Int) l) 0 default).size):Nat):Int)+((((List.getD (splitB8 (32:Int) l) 1 default).size):Nat):Int))+(2:Int))) l.size).data.toList) (quietF (outS (l.extract (Int.toNat ((((((List.getD (splitB8 (32:Int) l) 0 default).size):Nat):Int)+((((List.getD (splitB8 (32:Int) l) 1 default).size):Nat):Int))+(2:Int))) l.size).data.toList))))],[],[11,999]⟩)
         (Y∧Y)
         ⟨tt,tt⟩ ?_
        refine blockQ_normal (thenQ_normal ?_)
        refine Kk cok tab12 hnt [] [2] (⟨[(2,.v (.string (⟨#[121,101,115]⟩:ByteArray)))],[],[11,999]⟩)
         (Y∧Y∧Y)
         ⟨tt,tt,tt⟩ ?_
        refine W.ret ?_
        exact endQ_ret (.v (.string (⟨#[121,101,115]⟩:ByteArray))) (by kernel_rfl) (@cast (((.string (⟨#[121,101,115]⟩:ByteArray)):Value)=(.string (deskV l))) _ (by kernel_rfl) (congrArg Value.string (by first | exact hE | exact hE.symm)))
       ·intro n74
        rw [n74] at hE
        refine W.skip (blockQ_normal (thenQ_normal ?_))
        refine Kk cok tab12 hnt [] [2] (⟨[(2,.v (.string (⟨#[110,111]⟩:ByteArray)))],[],[11,999]⟩)
         (Y∧Y∧Y)
         ⟨tt,tt,tt⟩ ?_
        refine W.ret ?_
        exact endQ_ret (.v (.string (⟨#[110,111]⟩:ByteArray))) (by kernel_rfl) (@cast (((.string (⟨#[110,111]⟩:ByteArray)):Value)=(.string (deskV l))) _ (by kernel_rfl) (congrArg Value.string (by first | exact hE | exact hE.symm)))
theorem ent12 : Entr prog 12 := ⟨_,func12,rfl,by decide⟩
end Go.Proofs.Tryz

set_option linter.unusedSimpArgs false
set_option linter.unusedVariables false
namespace Go.Proofs.Tryz
open Go.Ab Go.RowKit
def fs6 : FnS := fnS [.s .strs] [.strs] (fun _ (xs,_)=>(.v (.string (runV xs)),[],(∀ i,(xs.getD i default).size≤1100000)))
abbrev T6 : Tab := lk [(12,fs12)]
theorem tab6 : TabOK prog T6 := (TabOK.cons ok12 ent12 TabOK.nil)
theorem ok6 : FnOK prog 6 fs6 := by
 refine FnOK.mk cok func6 rfl rfl rfl ?_
 rintro fl ⟨(xs : List ByteArray),_⟩ hpre F hnt0 _
 have hnt : F.nt=23 := hnt0.trans ntmps6
 replace hpre : (∀ i,(xs.getD i default).size≤1100000) := hpre
 have hz := hpre
 refine W.to (⟨[(0,.sl (.strs xs))],[],[999]⟩) rfl ?_
 refine W.lenOf 0 (.strs xs) (by kernel_rfl) ?_
 intro hl_xs; replace hl_xs : List.length xs≤9223372036854775807 := hl_xs
 refine Kk cok tab6 hnt [] [0] (⟨[(0,.sl (.strs xs))],[],[999]⟩)
  (Y∧Y)
  ⟨tt,tt⟩ ?_
 refine W.seq ?_
 refine Kk cok tab6 hnt [] [0,7] (⟨[(0,.sl (.strs xs)),(7,.b (decide ((20:Int)<(xs.length:Int))))],[],[999]⟩)
  (Y∧Y∧(Y∧Y∧Y)∧Y)
  ⟨tt,tt,⟨tt,tt,tt⟩,tt⟩ ?_
 refine W.ifP ((20:Int)<(xs.length:Int)) (.b (decide ((20:Int)<(xs.length:Int)))) (by kernel_rfl) rfl trivial ?_ ?_
 ·intro h7
  refine Kk cok tab6 hnt [] [2] (⟨[(2,.v (.string nEmpty))],[],[999]⟩)
   (Y∧Y)
   ⟨tt,tt⟩ ?_
  refine W.ret (thenQ_ret ?_)
  exact endQ_ret (.v (.string nEmpty)) (by kernel_rfl) (@cast (((.string nEmpty):Value)=(.string (runV xs))) _ (by kernel_rfl) (congrArg Value.string (by exact run_none h7)))
 ·intro n7
  refine W.skip (thenQ_normal ?_)
  refine Kk cok tab6 hnt [] [0,3] (⟨[(0,.sl (.strs xs)),(3,.v (.string nEmpty))],[],[999]⟩)
   (Y∧Y)
   ⟨tt,tt⟩ ?_
  refine W.seq ?_
  refine Kk cok tab6 hnt [] [0,3,4] (⟨[(0,.sl (.strs xs)),(3,.v (.string nEmpty)),(4,.i (0:Int))],[],[999]⟩)
   (Y∧Y)
   ⟨tt,tt⟩ ?_
  refine W.block ?_
  refine W.loop (ι := Nat × ByteArray) (fun (x : Nat × ByteArray)=>match x with | (i,o)=>(⟨[(0,.sl (.strs xs)),(3,.v (.string o)),(4,.i ((i:Nat):Int))],[],[999]⟩:St))
   (fun (x : Nat × ByteArray)=>match x with | (i,o)=>(i≤xs.length)∧(o=runUp xs i))
   (fun (x : Nat × ByteArray)=>match x with | (i,o)=>(xs.length - i:Nat)) (0,nEmpty) ?_ ?_ ?_
  ·exact (show (0≤xs.length)∧(nEmpty=runUp xs 0) from ⟨(by first | assumption | omega | rfl | (intro _ hjj; omega) | (simp; done) | (simp; omega)),(by rfl)⟩)
  ·exact Sub.of [] (@cast (((Sd (.strs xs))∧(((.string nEmpty):Value)=(.string nEmpty))∧((.int .i64 (0:Int):Value)=.int .i64 ((0:Nat):Int))∧Y)∧Y∧(true=true)∧(true=true)) _ (by kernel_rfl) ⟨⟨rfl,rfl,(congrArg (Value.int .i64) (by first | rfl | omega | assumption | simp | simp_all)),tt⟩,tt,rfl,rfl⟩)
  ·rintro ⟨i,o⟩ hC0
   have hC : (i≤xs.length)∧(o=runUp xs i) := hC0
   clear hC0
   obtain ⟨hi,ho⟩ := hC
   refine W.to (⟨[(0,.sl (.strs xs)),(3,.v (.string o)),(4,.i ((i:Nat):Int))],[],[999]⟩) rfl ?_
   have hos : o.size≤31 * i := by rw [ho]; exact run_size xs i
   have hds := desk_size (xs.getD i default)
   refine W.seq ?_
   refine Kk cok tab6 hnt [] [0,3,4,11] (⟨[(0,.sl (.strs xs)),(3,.v (.string o)),(4,.i ((i:Nat):Int)),(11,.b (decide (((i:Nat):Int)<(xs.length:Int))))],[],[999]⟩)
    (Y∧Y∧Y∧(Y∧Y∧Y)∧Y)
    ⟨tt,tt,tt,⟨tt,tt,tt⟩,tt⟩ ?_
   refine W.ifP (((i:Nat):Int)<(xs.length:Int)) (.b (decide (((i:Nat):Int)<(xs.length:Int)))) (by kernel_rfl) rfl trivial ?_ ?_
   ·intro h11
    refine W.skip (thenQ_normal ?_)
    refine W.seq ?_
    refine W.block ?_
    refine Lk cok tab6 hnt [] (⟨[(0,.sl (.strs xs)),(3,.v (.string ((o++(deskV (xs.getD i default)))++(⟨#[10]⟩:ByteArray)))),(4,.i ((i:Nat):Int)),(11,.b (decide (((i:Nat):Int)<(xs.length:Int)))),(14,.v (.string o)),(15,.sl (.strs xs)),(16,.i ((i:Nat):Int)),(17,.ep [.v (.string (xs.getD i default))]),(18,.v (.string (xs.getD i default))),(19,.v (.string (deskV (xs.getD i default)))),(20,.v (.string (o++(deskV (xs.getD i default))))),(21,.v (.string ((o++(deskV (xs.getD i default)))++(⟨#[10]⟩:ByteArray))))],[],[999]⟩)
     (Y∧Y∧Y∧(Y∧Y∧(0≤((i:Nat):Int))∧(((i:Nat):Int)<(xs.length:Int)))∧Y∧(Y∧(Y∧Y)∧((xs.getD i default).size≤1100000))∧(Y∧Y∧(o.size+(deskV (xs.getD i default)).size≤9223372036854775807))∧(Y∧Y∧((o++(deskV (xs.getD i default))).size+(⟨#[10]⟩:ByteArray).size≤9223372036854775807))∧Y∧Y)
     ⟨tt,tt,tt,⟨tt,tt,(by omega),(by omega)⟩,tt,⟨tt,⟨tt,tt⟩,(by exact hz _)⟩,⟨tt,tt,(by (try simp only [ByteArray.size_append,ByteArray.size_extract,sz1,sz2,sz3]); omega)⟩,⟨tt,tt,(by (try simp only [ByteArray.size_append,ByteArray.size_extract,sz1,sz2,sz3]); omega)⟩,tt,tt⟩ ?_
    refine blockQ_normal (thenQ_normal ?_)
    refine Lk cok tab6 hnt [] (⟨[(0,.sl (.strs xs)),(3,.v (.string ((o++(deskV (xs.getD i default)))++(⟨#[10]⟩:ByteArray)))),(4,.i (((i+1):Nat):Int)),(11,.b (decide (((i:Nat):Int)<(xs.length:Int)))),(12,.i ((i:Nat):Int)),(13,.i (((i+1):Nat):Int)),(14,.v (.string o)),(15,.sl (.strs xs)),(16,.i ((i:Nat):Int)),(17,.ep [.v (.string (xs.getD i default))]),(18,.v (.string (xs.getD i default))),(19,.v (.string (deskV (xs.getD i default)))),(20,.v (.string (o++(deskV (xs.getD i default))))),(21,.v (.string ((o++(deskV (xs.getD i default)))++(⟨#[10]⟩:ByteArray))))],[],[999]⟩)
     (Y∧(Y∧Y∧(Fits .i64 (((i+1):Nat):Int)))∧Y∧Y)
     ⟨tt,⟨tt,tt,(by exact fits_i64 (by omega) (by omega))⟩,tt,tt⟩ ?_
    refine thenQ_normal ?_
    refine ⟨((i+1),((o++(deskV (xs.getD i default)))++(⟨#[10]⟩:ByteArray))),(show ((i+1)≤xs.length)∧(((o++(deskV (xs.getD i default)))++(⟨#[10]⟩:ByteArray))=runUp xs (i+1)) from ⟨(by first | assumption | omega | rfl | (intro _ hjj; omega) | (simp; done) | (simp; omega)),(by rw [ho,ByteArray.append_assoc]; rfl)⟩),(show xs.length - (i+1)<xs.length - i from (by first | omega | (simp_all; omega))),?_⟩
    exact Sub.of [] (@cast (((Sd (.strs xs))∧(((.string ((o++(deskV (xs.getD i default)))++(⟨#[10]⟩:ByteArray))):Value)=(.string ((o++(deskV (xs.getD i default)))++(⟨#[10]⟩:ByteArray))))∧(Si (((i+1):Nat):Int))∧Y)∧Y∧(true=true)∧(true=true)) _ (by kernel_rfl) ⟨⟨rfl,rfl,rfl,tt⟩,tt,rfl,rfl⟩)
   ·intro n11
    refine W.exit (thenQ_exit (thenQ_exit (blockQ_hit ?_)))
    refine thenQ_normal ?_
    refine Kk cok tab6 hnt [] [2] (⟨[(2,.v (.string o))],[],[999]⟩)
     (Y∧Y∧Y)
     ⟨tt,tt,tt⟩ ?_
    refine W.ret ?_
    exact endQ_ret (.v (.string o)) (by kernel_rfl) (@cast (((.string o):Value)=(.string (runV xs))) _ (by kernel_rfl) (congrArg Value.string (by exact run_all n7 ho hi n11)))
theorem ent6 : Entr prog 6 := ⟨_,func6,rfl,by decide⟩
end Go.Proofs.Tryz

set_option linter.unusedSimpArgs false
set_option linter.unusedVariables false
namespace Go.Proofs.Tryz
open Go.Ab Go.RowKit Go.Shelf Go.Proofs Go.Lib
def fs70 : FnS := fnS [.o,.o] [.str,.str] (fun _ (s,sep,_)=>(.i (idxB s sep),[],(sep.size=1)))
def renX : Go.Shelf.Ren := ⟨fun k=>bif Nat.beq k 143 then 70 else bif Nat.beq k 217 then 94 else bif Nat.beq k 219 then 92 else bif Nat.beq k 224 then 109 else bif Nat.beq k 225 then 108 else bif Nat.beq k 266 then 111 else bif Nat.beq k 267 then 110 else bif Nat.beq k 314 then 127 else k,fun k=>bif Nat.beq k 3 then 3 else bif Nat.beq k 4 then 4 else bif Nat.beq k 5 then 5 else bif Nat.beq k 9 then 9 else bif Nat.beq k 46 then 89 else bif Nat.beq k 51 then 121 else bif Nat.beq k 146 then 129 else k,fun k=>bif Nat.beq k 1 then 0 else k⟩
set_option maxRecDepth 100000 in
theorem laysX : Go.Proofs.Lays.n143 prog renX where
 mixed := by kernel_rfl
 f143 := by kernel_rfl
 f217 := by kernel_rfl
 f219 := by kernel_rfl
 f224 := by kernel_rfl
 f225 := by kernel_rfl
 f266 := by kernel_rfl
 f267 := by kernel_rfl
 f314 := by kernel_rfl
 t3 := underlying3
 a3 := isAgg3
 z3 := sizeOf3
 v3 := zeroValue3
 t4 := underlying4
 a4 := isAgg4
 z4 := sizeOf4
 v4 := zeroValue4
 t5 := underlying5
 a5 := isAgg5
 z5 := sizeOf5
 v5 := zeroValue5
 t9 := underlying9
 a9 := isAgg9
 z9 := sizeOf9
 v9 := zeroValue9
 t46 := underlying89
 a46 := isAgg89
 z46 := sizeOf89
 v46 := zeroValue89
 t51 := underlying121
 a51 := isAgg121
 z51 := sizeOf121
 v51 := zeroValue121
 t146 := underlying129
 a146 := isAgg129
 z146 := sizeOf129
 v146 := zeroValue129
 g1 := by kernel_rfl
theorem ok70 : FnOK prog 70 fs70 := index_ok laysX
theorem ent70 : Entr prog 70 := ⟨_,func70,rfl,by decide⟩
end Go.Proofs.Tryz

set_option linter.unusedSimpArgs false
set_option linter.unusedVariables false
namespace Go.Proofs.Tryz
open Go.Ab Go.RowKit
def fs49 : FnS := fnS [.o,.o,.o,.o] [.str,.str,.int,.int] (fun _ (s,sep,sv,n,_)=>(.own 0 (List.length (splitNB sep n s)),[(9,.strs (splitNB sep n s))],(sep.size=1)∧(sv=0)∧(1≤n∧n≤1000)∧(s.size≤2000000)))
abbrev T49 : Tab := lk [(70,fs70)]
theorem tab49 : TabOK prog T49 := (TabOK.cons ok70 ent70 TabOK.nil)
theorem ok49 : FnOK prog 49 fs49 := by
 refine FnOK.mk cok func49 rfl rfl rfl ?_
 rintro fl ⟨(s:ByteArray),(sep:ByteArray),(sv:Int),(n:Int),_⟩ hpre F hnt0 _
 have hnt : F.nt=66 := hnt0.trans ntmps49
 replace hpre : (sep.size=1)∧(sv=0)∧(1≤n∧n≤1000)∧(s.size≤2000000) := hpre
 obtain ⟨hs,hv,hn,hz⟩ := hpre
 refine W.to (⟨[(0,.v (.string s)),(1,.v (.string sep)),(2,.i sv),(3,.i n)],[],[999]⟩) rfl ?_
 refine Kk cok tab49 hnt [] [0,1,2,3] (⟨[(0,.v (.string s)),(1,.v (.string sep)),(2,.i sv),(3,.i n)],[],[999]⟩)
  (Y∧Y)
  ⟨tt,tt⟩ ?_
 refine W.seq ?_
 refine Kk cok tab49 hnt [] [0,1,2,3,13] (⟨[(0,.v (.string s)),(1,.v (.string sep)),(2,.i sv),(3,.i n),(13,.b (decide (n=(0:Int))))],[],[999]⟩)
  (Y∧(Y∧Y∧Y)∧Y)
  ⟨tt,⟨tt,tt,tt⟩,tt⟩ ?_
 refine W.ifP (n=(0:Int)) (.b (decide (n=(0:Int)))) (by kernel_rfl) rfl trivial ?_ ?_
 ·intro h13
  exact (show False from (by omega)).elim
 ·intro n13
  refine W.skip (thenQ_normal ?_)
  refine W.seq ?_
  refine Kk cok tab49 hnt [] [0,1,2,3,15] (⟨[(0,.v (.string s)),(1,.v (.string sep)),(2,.i sv),(3,.i n),(15,.b (eqS sep nEmpty))],[],[999]⟩)
   (Y∧(Y∧Y∧Y)∧Y)
   ⟨tt,⟨tt,tt,tt⟩,tt⟩ ?_
  refine W.if' (eqS sep nEmpty) (.b (eqS sep nEmpty)) (by kernel_rfl) rfl trivial ?_ ?_
  ·intro h15
   exact (show False from (by rw [eqB_iff] at h15; rw [h15] at hs; cases hs)).elim
  ·intro n15
   refine W.skip (thenQ_normal ?_)
   refine W.seq ?_
   refine Kk cok tab49 hnt [] [0,1,2,3,20] (⟨[(0,.v (.string s)),(1,.v (.string sep)),(2,.i sv),(3,.i n),(20,.b (decide (n<(0:Int))))],[],[999]⟩)
    (Y∧(Y∧Y∧Y)∧Y)
    ⟨tt,⟨tt,tt,tt⟩,tt⟩ ?_
   refine W.ifP (n<(0:Int)) (.b (decide (n<(0:Int)))) (by kernel_rfl) rfl trivial ?_ ?_
   ·intro h20
    exact (show False from (by omega)).elim
   ·intro n20
    refine W.skip (thenQ_normal ?_)
    refine Kk cok tab49 hnt [] [0,1,2,3] (⟨[(0,.v (.string s)),(1,.v (.string sep)),(2,.i sv),(3,.i (min n (((s.size+1):Nat):Int)))],[],[999]⟩)
     (Y∧Y∧Y∧(Y∧Y∧(Fits .i64 (((s.size+1):Nat):Int)))∧(Y∧Y)∧Y∧Y)
     ⟨tt,tt,tt,⟨tt,tt,(by exact fits_i64 (by omega) (by omega))⟩,⟨tt,tt⟩,tt,tt⟩ ?_
    refine Kk cok tab49 hnt [31] [0,1,2,3,9] (⟨[(0,.v (.string s)),(1,.v (.string sep)),(2,.i sv),(3,.i (min n (((s.size+1):Nat):Int))),(9,.own 31 (List.length (List.replicate (Int.toNat (min n (((s.size+1):Nat):Int))) ByteArray.empty)))],[(31,⟨9,.row (.strs (List.replicate (Int.toNat (min n (((s.size+1):Nat):Int))) ByteArray.empty))⟩)],[31,999]⟩)
     (Y∧(Y∧Y∧((min n (((s.size+1):Nat):Int))=(min n (((s.size+1):Nat):Int)))∧(0≤(min n (((s.size+1):Nat):Int)))∧((min n (((s.size+1):Nat):Int)) * 16≤281474976710656))∧Y∧Y)
     ⟨tt,⟨tt,tt,rfl,(by omega),(by (try simp only [List.length_append,List.length_cons,List.length_nil,List.length_set]); omega)⟩,tt,tt⟩ ?_
    refine Kk cok tab49 hnt [] [0,1,2,3,9] (⟨[(0,.v (.string s)),(1,.v (.string sep)),(2,.i sv),(3,.i ((min n (((s.size+1):Nat):Int)) - (1:Int))),(9,.own 31 (List.length (List.replicate (Int.toNat (min n (((s.size+1):Nat):Int))) ByteArray.empty)))],[(31,⟨9,.row (.strs (List.replicate (Int.toNat (min n (((s.size+1):Nat):Int))) ByteArray.empty))⟩)],[31,999]⟩)
     (Y∧(Y∧Y∧(Fits .i64 ((min n (((s.size+1):Nat):Int)) - (1:Int))))∧Y∧Y)
     ⟨tt,⟨tt,tt,(by exact fits_i64 (by omega) (by omega))⟩,tt,tt⟩ ?_
    refine Kk cok tab49 hnt [] [0,1,2,3,9,10] (⟨[(0,.v (.string s)),(1,.v (.string sep)),(2,.i sv),(3,.i ((min n (((s.size+1):Nat):Int)) - (1:Int))),(9,.own 31 (List.length (List.replicate (Int.toNat (min n (((s.size+1):Nat):Int))) ByteArray.empty))),(10,.i (0:Int))],[(31,⟨9,.row (.strs (List.replicate (Int.toNat (min n (((s.size+1):Nat):Int))) ByteArray.empty))⟩)],[31,999]⟩)
     (Y∧Y)
     ⟨tt,tt⟩ ?_
    refine W.seq ?_
    refine W.block ?_
    refine W.loop (ι := ByteArray × Nat × (List ByteArray)) (fun (x : ByteArray × Nat × (List ByteArray))=>match x with | (r,i,a)=>(⟨[(0,.v (.string r)),(1,.v (.string sep)),(2,.i sv),(3,.i ((min n (((s.size+1):Nat):Int)) - (1:Int))),(9,.own 31 (List.length (List.replicate (Int.toNat (min n (((s.size+1):Nat):Int))) ByteArray.empty))),(10,.i ((i:Nat):Int))],[(31,⟨9,.row (.strs a)⟩)],[31,999]⟩:St))
     (fun (x : ByteArray × Nat × (List ByteArray))=>match x with | (r,i,a)=>(i+1≤Int.toNat (min n (((s.size:Nat):Int)+1)))∧(r.size≤s.size)∧(a.length=Int.toNat (min n (((s.size:Nat):Int)+1)))∧(a.take i++(splitNL (sepc sep) (Int.toNat (min n (((s.size:Nat):Int)+1)) - i) r.data.toList).map BA=splitNB sep n s))
     (fun (x : ByteArray × Nat × (List ByteArray))=>match x with | (r,i,a)=>(Int.toNat n - i:Nat)) (s,0,(List.replicate (Int.toNat (min n (((s.size+1):Nat):Int))) ByteArray.empty)) ?_ ?_ ?_
    ·exact (show (0+1≤Int.toNat (min n (((s.size:Nat):Int)+1)))∧(s.size≤s.size)∧((List.replicate (Int.toNat (min n (((s.size+1):Nat):Int))) ByteArray.empty).length=Int.toNat (min n (((s.size:Nat):Int)+1)))∧((List.replicate (Int.toNat (min n (((s.size+1):Nat):Int))) ByteArray.empty).take 0++(splitNL (sepc sep) (Int.toNat (min n (((s.size:Nat):Int)+1)) - 0) s.data.toList).map BA=splitNB sep n s) from ⟨(by omega),(by exact Nat.le_refl _),(by exact List.length_replicate),(by exact gs_init hn.1)⟩)
    ·exact Sub.of [] (@cast (((((.string s):Value)=(.string s))∧(((.string sep):Value)=(.string sep))∧(Si sv)∧(Si ((min n (((s.size+1):Nat):Int)) - (1:Int)))∧(((31:Nat)=31)∧((List.length (List.replicate (Int.toNat (min n (((s.size+1):Nat):Int))) ByteArray.empty))=(List.length (List.replicate (Int.toNat (min n (((s.size+1):Nat):Int))) ByteArray.empty)))∧((31:Nat) ∈ ([31,999] : List Nat)))∧((.int .i64 (0:Int):Value)=.int .i64 ((0:Nat):Int))∧Y)∧((((9:Nat)=9)∧(Sd (.strs (List.replicate (Int.toNat (min n (((s.size+1):Nat):Int))) ByteArray.empty)))∧((31:Nat) ∈ ([31,999] : List Nat)))∧Y)∧(true=true)∧(true=true)) _ (by kernel_rfl) ⟨⟨rfl,rfl,rfl,rfl,⟨rfl,rfl,(by decide)⟩,(congrArg (Value.int .i64) (by first | rfl | omega | assumption | simp | simp_all)),tt⟩,⟨⟨rfl,rfl,(by decide)⟩,tt⟩,rfl,rfl⟩)
    ·rintro ⟨r,i,a⟩ hC0
     have hC : (i+1≤Int.toNat (min n (((s.size:Nat):Int)+1)))∧(r.size≤s.size)∧(a.length=Int.toNat (min n (((s.size:Nat):Int)+1)))∧(a.take i++(splitNL (sepc sep) (Int.toNat (min n (((s.size:Nat):Int)+1)) - i) r.data.toList).map BA=splitNB sep n s) := hC0
     clear hC0
     obtain ⟨hi,hr,ha,hp⟩ := hC
     refine W.to (⟨[(0,.v (.string r)),(1,.v (.string sep)),(2,.i sv),(3,.i ((min n (((s.size+1):Nat):Int)) - (1:Int))),(9,.own 31 (List.length (List.replicate (Int.toNat (min n (((s.size+1):Nat):Int))) ByteArray.empty))),(10,.i ((i:Nat):Int))],[(31,⟨9,.row (.strs a)⟩)],[31,999]⟩) rfl ?_
     have hb := idx_bnd r sep
     refine W.seq ?_
     refine Kk cok tab49 hnt [] [0,1,2,3,9,10,36] (⟨[(0,.v (.string r)),(1,.v (.string sep)),(2,.i sv),(3,.i ((min n (((s.size+1):Nat):Int)) - (1:Int))),(9,.own 31 (List.length (List.replicate (Int.toNat (min n (((s.size+1):Nat):Int))) ByteArray.empty))),(10,.i ((i:Nat):Int)),(36,.b (decide (((i:Nat):Int)<((min n (((s.size+1):Nat):Int)) - (1:Int)))))],[(31,⟨9,.row (.strs a)⟩)],[31,999]⟩)
      (Y∧Y∧(Y∧Y∧Y)∧Y)
      ⟨tt,tt,⟨tt,tt,tt⟩,tt⟩ ?_
     refine W.ifP (((i:Nat):Int)<((min n (((s.size+1):Nat):Int)) - (1:Int))) (.b (decide (((i:Nat):Int)<((min n (((s.size+1):Nat):Int)) - (1:Int))))) (by kernel_rfl) rfl trivial ?_ ?_
     ·intro h36
      refine W.skip (thenQ_normal ?_)
      refine W.block ?_
      refine Kk cok tab49 hnt [] [0,1,2,3,9,10,11] (⟨[(0,.v (.string r)),(1,.v (.string sep)),(2,.i sv),(3,.i ((min n (((s.size+1):Nat):Int)) - (1:Int))),(9,.own 31 (List.length (List.replicate (Int.toNat (min n (((s.size+1):Nat):Int))) ByteArray.empty))),(10,.i ((i:Nat):Int)),(11,.i (idxB r sep))],[(31,⟨9,.row (.strs a)⟩)],[31,999]⟩)
       (Y∧Y∧(Y∧(Y∧Y∧Y)∧(sep.size=1))∧Y∧Y)
       ⟨tt,tt,⟨tt,⟨tt,tt,tt⟩,(by omega)⟩,tt,tt⟩ ?_
      refine W.seq ?_
      refine Kk cok tab49 hnt [] [0,1,2,3,9,10,11,41] (⟨[(0,.v (.string r)),(1,.v (.string sep)),(2,.i sv),(3,.i ((min n (((s.size+1):Nat):Int)) - (1:Int))),(9,.own 31 (List.length (List.replicate (Int.toNat (min n (((s.size+1):Nat):Int))) ByteArray.empty))),(10,.i ((i:Nat):Int)),(11,.i (idxB r sep)),(41,.b (decide ((idxB r sep)<(0:Int))))],[(31,⟨9,.row (.strs a)⟩)],[31,999]⟩)
       (Y∧(Y∧Y∧Y)∧Y)
       ⟨tt,⟨tt,tt,tt⟩,tt⟩ ?_
      refine W.ifP ((idxB r sep)<(0:Int)) (.b (decide ((idxB r sep)<(0:Int)))) (by kernel_rfl) rfl trivial ?_ ?_
      ·intro h41
       refine W.exit (thenQ_exit (blockQ_miss rfl (thenQ_exit (blockQ_hit ?_))))
       refine thenQ_normal ?_
       refine Kk cok tab49 hnt [] [9,10] (⟨[(9,.own 31 (List.length (List.replicate (Int.toNat (min n (((s.size+1):Nat):Int))) ByteArray.empty))),(10,.i ((i:Nat):Int))],[(31,⟨9,.row (.strs (List.set a i r))⟩)],[31,999]⟩)
        (Y∧Y∧Y∧(Y∧Y∧(0≤((i:Nat):Int))∧(((i:Nat):Int)<(((List.length (List.replicate (Int.toNat (min n (((s.size+1):Nat):Int))) ByteArray.empty)):Nat):Int)))∧(Y∧Y∧(i<a.length))∧Y)
        ⟨tt,tt,tt,⟨tt,tt,(by omega),(by (try simp only [List.length_replicate,List.length_set]); omega)⟩,⟨tt,tt,(by omega)⟩,tt⟩ ?_
       refine Kk cok tab49 hnt [] [8] (⟨[(8,.own 31 (i+1))],[(31,⟨9,.row (.strs (List.set a i r))⟩)],[31,999]⟩)
        (Y∧Y∧(Y∧Y∧(Fits .i64 (((i+1):Nat):Int)))∧(Y∧Y∧(0≤(((i+1):Nat):Int))∧((((i+1):Nat):Int)≤(((List.length (List.replicate (Int.toNat (min n (((s.size+1):Nat):Int))) ByteArray.empty)):Nat):Int)))∧Y∧Y)
        ⟨tt,tt,⟨tt,tt,(by exact fits_i64 (by omega) (by omega))⟩,⟨tt,tt,(by omega),(by (try simp only [List.length_replicate,List.length_set]); omega)⟩,tt,tt⟩ ?_
       refine W.cutRow 31 9 (.strs (List.set a i r)) (.strs (List.take (i+1) (List.set a i r))) (i+1) (⟨[(8,.own 31 (i+1))],[(31,⟨9,.row (.strs (List.take (i+1) (List.set a i r)))⟩)],[31,999]⟩) (by kernel_rfl) (by rfl) (show (i+1)≤(List.length (List.set a i r)) from (by (first | omega | (simp only [List.length_set]; done) | (simp only [ln] at *; omega) | assumption))) (by kernel_rfl) ?_
       refine W.ret ?_
       exact endQ_rows [(0,31)] (.own 31 (i+1)) (by kernel_rfl) (@cast (((31:Nat)=31)∧((i+1)=(List.length (splitNB sep n s)))∧((0:Nat) ∈ ([0] : List Nat))) _ (by kernel_rfl) ⟨rfl,(by first | rfl | omega | assumption | (symm; assumption) | (exact congrArg List.length (by first | exact gs_end hp (by omega) ha (.inl h41) | (rw [← gs_end hp (by omega) ha (.inl h41),List.length_take,List.length_set]; omega))) | (first | exact gs_end hp (by omega) ha (.inl h41) | (rw [← gs_end hp (by omega) ha (.inl h41),List.length_take,List.length_set]; omega); done) | simp | simp_all),(by decide)⟩) (@cast ((((9:Nat)=9)∧((.strs (List.take (i+1) (List.set a i r)):Dat)=.strs (splitNB sep n s))∧((0:Nat) ∈ ([0] : List Nat)))∧Y) _ (by kernel_rfl) ⟨⟨rfl,(congrArg Dat.strs (by first | exact gs_end hp (by omega) ha (.inl h41) | (rw [← gs_end hp (by omega) ha (.inl h41),List.length_take,List.length_set]; omega))),(by decide)⟩,tt⟩) (by kernel_rfl)
      ·intro n41
       have h41n := n41
       refine W.skip (thenQ_normal ?_)
       refine Kk cok tab49 hnt [] [0,1,2,3,9,10,11] (⟨[(0,.v (.string r)),(1,.v (.string sep)),(2,.i sv),(3,.i ((min n (((s.size+1):Nat):Int)) - (1:Int))),(9,.own 31 (List.length (List.replicate (Int.toNat (min n (((s.size+1):Nat):Int))) ByteArray.empty))),(10,.i ((i:Nat):Int)),(11,.i (idxB r sep))],[(31,⟨9,.row (.strs (List.set a i (r.extract 0 (Int.toNat ((idxB r sep)+sv)))))⟩)],[31,999]⟩)
        (Y∧Y∧Y∧Y∧Y∧(Y∧Y∧(Fits .i64 ((idxB r sep)+sv)))∧(Y∧Y∧Y∧(0≤(0:Int))∧((0:Int)≤((idxB r sep)+sv))∧(((idxB r sep)+sv)≤((r.size:Nat):Int)))∧(Y∧Y∧(0≤((i:Nat):Int))∧(((i:Nat):Int)<(((List.length (List.replicate (Int.toNat (min n (((s.size+1):Nat):Int))) ByteArray.empty)):Nat):Int)))∧(Y∧Y∧(i<a.length))∧Y)
        ⟨tt,tt,tt,tt,tt,⟨tt,tt,(by exact fits_i64 (by omega) (by omega))⟩,⟨tt,tt,tt,(by omega),(by omega),(by omega)⟩,⟨tt,tt,(by omega),(by (try simp only [List.length_replicate,List.length_set]); omega)⟩,⟨tt,tt,(by omega)⟩,tt⟩ ?_
       refine Kk cok tab49 hnt [] [0,1,2,3,9,10] (⟨[(0,.v (.string (r.extract (Int.toNat ((idxB r sep)+((sep.size:Nat):Int))) r.size))),(1,.v (.string sep)),(2,.i sv),(3,.i ((min n (((s.size+1):Nat):Int)) - (1:Int))),(9,.own 31 (List.length (List.replicate (Int.toNat (min n (((s.size+1):Nat):Int))) ByteArray.empty))),(10,.i ((i:Nat):Int))],[(31,⟨9,.row (.strs (List.set a i (r.extract 0 (Int.toNat ((idxB r sep)+sv)))))⟩)],[31,999]⟩)
        (Y∧Y∧Y∧Y∧(Y∧Y∧(Fits .i64 ((idxB r sep)+((sep.size:Nat):Int))))∧(Y∧Y∧Y∧(0≤((idxB r sep)+((sep.size:Nat):Int)))∧(((idxB r sep)+((sep.size:Nat):Int))≤((r.size:Nat):Int))∧(((r.size:Nat):Int)≤((r.size:Nat):Int)))∧Y∧Y)
        ⟨tt,tt,tt,tt,⟨tt,tt,(by exact fits_i64 (by omega) (by omega))⟩,⟨tt,tt,tt,(by omega),(by omega),(by omega)⟩,tt,tt⟩ ?_
       refine Lk cok tab49 hnt [] (⟨[(0,.v (.string (r.extract (Int.toNat ((idxB r sep)+((sep.size:Nat):Int))) r.size))),(1,.v (.string sep)),(2,.i sv),(3,.i ((min n (((s.size+1):Nat):Int)) - (1:Int))),(9,.own 31 (List.length (List.replicate (Int.toNat (min n (((s.size+1):Nat):Int))) ByteArray.empty))),(10,.i (((i+1):Nat):Int)),(56,.i ((i:Nat):Int)),(57,.i (((i+1):Nat):Int))],[(31,⟨9,.row (.strs (List.set a i (r.extract 0 (Int.toNat ((idxB r sep)+sv)))))⟩)],[31,999]⟩)
        (Y∧(Y∧Y∧(Fits .i64 (((i+1):Nat):Int)))∧Y∧Y)
        ⟨tt,⟨tt,tt,(by exact fits_i64 (by omega) (by omega))⟩,tt,tt⟩ ?_
       refine blockQ_normal (thenQ_normal ?_)
       refine ⟨((r.extract (Int.toNat ((idxB r sep)+((sep.size:Nat):Int))) r.size),(i+1),(List.set a i (r.extract 0 (Int.toNat ((idxB r sep)+sv))))),(show ((i+1)+1≤Int.toNat (min n (((s.size:Nat):Int)+1)))∧((r.extract (Int.toNat ((idxB r sep)+((sep.size:Nat):Int))) r.size).size≤s.size)∧((List.set a i (r.extract 0 (Int.toNat ((idxB r sep)+sv)))).length=Int.toNat (min n (((s.size:Nat):Int)+1)))∧((List.set a i (r.extract 0 (Int.toNat ((idxB r sep)+sv)))).take (i+1)++(splitNL (sepc sep) (Int.toNat (min n (((s.size:Nat):Int)+1)) - (i+1)) (r.extract (Int.toNat ((idxB r sep)+((sep.size:Nat):Int))) r.size).data.toList).map BA=splitNB sep n s) from ⟨(by omega),(by rw [ByteArray.size_extract]; omega),(by rw [List.length_set]; exact ha),(by exact gs_step hp (by omega) ha h41n hv hs)⟩),(show Int.toNat n - (i+1)<Int.toNat n - i from (by first | omega | (simp_all; omega))),?_⟩
       exact Sub.of [] (@cast (((((.string (r.extract (Int.toNat ((idxB r sep)+((sep.size:Nat):Int))) r.size)):Value)=(.string (r.extract (Int.toNat ((idxB r sep)+((sep.size:Nat):Int))) r.size)))∧(((.string sep):Value)=(.string sep))∧(Si sv)∧(Si ((min n (((s.size+1):Nat):Int)) - (1:Int)))∧(((31:Nat)=31)∧((List.length (List.replicate (Int.toNat (min n (((s.size+1):Nat):Int))) ByteArray.empty))=(List.length (List.replicate (Int.toNat (min n (((s.size+1):Nat):Int))) ByteArray.empty)))∧((31:Nat) ∈ ([31,999] : List Nat)))∧(Si (((i+1):Nat):Int))∧Y)∧((((9:Nat)=9)∧(Sd (.strs (List.set a i (r.extract 0 (Int.toNat ((idxB r sep)+sv))))))∧((31:Nat) ∈ ([31,999] : List Nat)))∧Y)∧(true=true)∧(true=true)) _ (by kernel_rfl) ⟨⟨rfl,rfl,rfl,rfl,⟨rfl,rfl,(by decide)⟩,rfl,tt⟩,⟨⟨rfl,rfl,(by decide)⟩,tt⟩,rfl,rfl⟩)
     ·intro n36
      refine W.exit (thenQ_exit (thenQ_exit (blockQ_hit ?_)))
      refine thenQ_normal ?_
      refine Kk cok tab49 hnt [] [9,10] (⟨[(9,.own 31 (List.length (List.replicate (Int.toNat (min n (((s.size+1):Nat):Int))) ByteArray.empty))),(10,.i ((i:Nat):Int))],[(31,⟨9,.row (.strs (List.set a i r))⟩)],[31,999]⟩)
       (Y∧Y∧Y∧(Y∧Y∧(0≤((i:Nat):Int))∧(((i:Nat):Int)<(((List.length (List.replicate (Int.toNat (min n (((s.size+1):Nat):Int))) ByteArray.empty)):Nat):Int)))∧(Y∧Y∧(i<a.length))∧Y)
       ⟨tt,tt,tt,⟨tt,tt,(by omega),(by (try simp only [List.length_replicate,List.length_set]); omega)⟩,⟨tt,tt,(by omega)⟩,tt⟩ ?_
      refine Kk cok tab49 hnt [] [8] (⟨[(8,.own 31 (i+1))],[(31,⟨9,.row (.strs (List.set a i r))⟩)],[31,999]⟩)
       (Y∧Y∧(Y∧Y∧(Fits .i64 (((i+1):Nat):Int)))∧(Y∧Y∧(0≤(((i+1):Nat):Int))∧((((i+1):Nat):Int)≤(((List.length (List.replicate (Int.toNat (min n (((s.size+1):Nat):Int))) ByteArray.empty)):Nat):Int)))∧Y∧Y)
       ⟨tt,tt,⟨tt,tt,(by exact fits_i64 (by omega) (by omega))⟩,⟨tt,tt,(by omega),(by (try simp only [List.length_replicate,List.length_set]); omega)⟩,tt,tt⟩ ?_
      refine W.cutRow 31 9 (.strs (List.set a i r)) (.strs (List.take (i+1) (List.set a i r))) (i+1) (⟨[(8,.own 31 (i+1))],[(31,⟨9,.row (.strs (List.take (i+1) (List.set a i r)))⟩)],[31,999]⟩) (by kernel_rfl) (by rfl) (show (i+1)≤(List.length (List.set a i r)) from (by (first | omega | (simp only [List.length_set]; done) | (simp only [ln] at *; omega) | assumption))) (by kernel_rfl) ?_
      refine W.ret ?_
      exact endQ_rows [(0,31)] (.own 31 (i+1)) (by kernel_rfl) (@cast (((31:Nat)=31)∧((i+1)=(List.length (splitNB sep n s)))∧((0:Nat) ∈ ([0] : List Nat))) _ (by kernel_rfl) ⟨rfl,(by first | rfl | omega | assumption | (symm; assumption) | (exact congrArg List.length (by first | exact gs_end hp (by omega) ha (.inr (by omega)) | (rw [← gs_end hp (by omega) ha (.inr (by omega)),List.length_take,List.length_set]; omega))) | (first | exact gs_end hp (by omega) ha (.inr (by omega)) | (rw [← gs_end hp (by omega) ha (.inr (by omega)),List.length_take,List.length_set]; omega); done) | simp | simp_all),(by decide)⟩) (@cast ((((9:Nat)=9)∧((.strs (List.take (i+1) (List.set a i r)):Dat)=.strs (splitNB sep n s))∧((0:Nat) ∈ ([0] : List Nat)))∧Y) _ (by kernel_rfl) ⟨⟨rfl,(congrArg Dat.strs (by first | exact gs_end hp (by omega) ha (.inr (by omega)) | (rw [← gs_end hp (by omega) ha (.inr (by omega)),List.length_take,List.length_set]; omega))),(by decide)⟩,tt⟩) (by kernel_rfl)
theorem ent49 : Entr prog 49 := ⟨_,func49,rfl,by decide⟩
end Go.Proofs.Tryz

set_option linter.unusedSimpArgs false
set_option linter.unusedVariables false
namespace Go.Proofs.Tryz
open Go.Ab Go.RowKit
def fs29 : FnS := fnS [.o,.o,.o] [.str,.str,.int] (fun _ (s,sep,n,_)=>(.own 0 (List.length (splitNB sep n s)),[(9,.strs (splitNB sep n s))],(sep.size=1)∧(1≤n∧n≤1000)∧(s.size≤2000000)))
abbrev T29 : Tab := lk [(49,fs49)]
theorem tab29 : TabOK prog T29 := (TabOK.cons ok49 ent49 TabOK.nil)
theorem ok29 : FnOK prog 29 fs29 := by
 refine FnOK.mk cok func29 rfl rfl rfl ?_
 rintro fl ⟨(s:ByteArray),(sep:ByteArray),(n:Int),_⟩ hpre F hnt0 _
 have hnt : F.nt=11 := hnt0.trans ntmps29
 replace hpre : (sep.size=1)∧(1≤n∧n≤1000)∧(s.size≤2000000) := hpre
 obtain ⟨hs,hn,hz⟩ := hpre
 refine W.to (⟨[(0,.v (.string s)),(1,.v (.string sep)),(2,.i n)],[],[999]⟩) rfl ?_
 refine Kk cok tab29 hnt [] [0,1,2] (⟨[(0,.v (.string s)),(1,.v (.string sep)),(2,.i n)],[],[999]⟩)
  (Y∧Y)
  ⟨tt,tt⟩ ?_
 refine Kk cok tab29 hnt [10] [6] (⟨[(6,.own 10 (List.length (splitNB sep n s)))],[(10,⟨9,.row (.strs (splitNB sep n s))⟩)],[10,999]⟩)
  (Y∧Y∧Y∧(Y∧(Y∧Y∧Y∧Y∧Y)∧(sep.size=1)∧((0:Int)=0)∧(1≤n∧n≤1000)∧(s.size≤2000000))∧Y∧Y)
  ⟨tt,tt,tt,⟨tt,⟨tt,tt,tt,tt,tt⟩,(by omega),(by rfl),(by omega),(by omega)⟩,tt,tt⟩ ?_
 refine W.ret ?_
 exact endQ_rows [(0,10)] (.own 10 (List.length (splitNB sep n s))) (by kernel_rfl) (@cast (((10:Nat)=10)∧((List.length (splitNB sep n s))=(List.length (splitNB sep n s)))∧((0:Nat) ∈ ([0] : List Nat))) _ (by kernel_rfl) ⟨rfl,rfl,(by decide)⟩) (@cast ((((9:Nat)=9)∧(Sd (.strs (splitNB sep n s)))∧((0:Nat) ∈ ([0] : List Nat)))∧Y) _ (by kernel_rfl) ⟨⟨rfl,rfl,(by decide)⟩,tt⟩) (by kernel_rfl)
theorem ent29 : Entr prog 29 := ⟨_,func29,rfl,by decide⟩
end Go.Proofs.Tryz
