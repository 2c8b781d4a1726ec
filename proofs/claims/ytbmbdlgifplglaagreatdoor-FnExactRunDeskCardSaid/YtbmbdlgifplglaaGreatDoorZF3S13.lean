import Derived.Test.YtbmbdlgifplglaaGreatDoorZF3S0
import Derived.Test.YtbmbdlgifplglaaGreatDoorZF3S2
import Derived.Test.YtbmbdlgifplglaaGreatDoorZF3S7
import Derived.Test.YtbmbdlgifplglaaGreatDoorZF3S8
import Derived.Test.YtbmbdlgifplglaaGreatDoorZF3S9
import Derived.Test.YtbmbdlgifplglaaGreatDoorZF3S11
import Derived.Test.YtbmbdlgifplglaaGreatDoorZF3S12
set_option maxRecDepth 100000
set_option maxHeartbeats 1000000
set_option linter.unusedSimpArgs false
set_option linter.unusedVariables false
namespace Go.Proofs.Tryz
open Go.Ab Go.RowKit
def fs13 : FnS := fnS [.o] [.str] (fun _ (l,_)=>(.v (.string (deskV l)),[],(l.size≤1100000)))
abbrev T13 : Tab := lk [(29,fs29),(30,fs30),(31,fs31),(32,fs32),(33,fs33),(34,fs34),(35,fs35),(36,fs36),(37,fs37),(38,fs38)]
theorem tab13 : TabOK prog T13 := (TabOK.cons ok29 ent29 (TabOK.cons ok30 ent30 (TabOK.cons ok31 ent31 (TabOK.cons ok32 ent32 (TabOK.cons ok33 ent33 (TabOK.cons ok34 ent34 (TabOK.cons ok35 ent35 (TabOK.cons ok36 ent36 (TabOK.cons ok37 ent37 (TabOK.cons ok38 ent38 TabOK.nil))))))))))
theorem ok13 : FnOK prog 13 fs13 := by
 refine FnOK.mk cok func13 rfl rfl rfl ?_
 rintro fl ⟨(l:ByteArray),_⟩ hpre F hnt0 _
 have hnt : F.nt=98 := hnt0.trans ntmps13
 replace hpre : (l.size≤1100000) := hpre
 have hz := hpre
 refine W.to (⟨[(0,.v (.string l))],[],[999]⟩) rfl ?_
 have hpw : ∀ i,(List.getD (splitNB (⟨#[32]⟩:ByteArray) 3 l) i default).size≤l.size := splitN_psz (⟨#[32]⟩:ByteArray) l 3
 have hp2 := hpw 2
 refine Kk cok tab13 hnt [] [0] (⟨[(0,.v (.string l))],[],[999]⟩)
  (Y∧Y)
  ⟨tt,tt⟩ ?_
 refine Kk cok tab13 hnt [] [3] (⟨[(3,.sl (.strs (splitNB (⟨#[32]⟩:ByteArray) (3:Int) l)))],[],[12,999]⟩)
  (Y∧((Y∧(Y∧Y∧Y∧Y)∧((⟨#[32]⟩:ByteArray).size=1)∧(1≤(3:Int)∧(3:Int)≤1000)∧(l.size≤2000000))∧((List.length (splitNB (⟨#[32]⟩:ByteArray) (3:Int) l))=(List.length (splitNB (⟨#[32]⟩:ByteArray) (3:Int) l))))∧Y∧Y)
  ⟨tt,⟨⟨tt,⟨tt,tt,tt,tt⟩,(by rfl),(by first | omega | (have h9 := hrow.2 i; omega)),(by (try simp only [ByteArray.size_append,ByteArray.size_extract,sz1,sz2,sz3]); omega)⟩,rfl⟩,tt,tt⟩ ?_
 refine W.seq ?_
 refine Kk cok tab13 hnt [] [3,23] (⟨[(3,.sl (.strs (splitNB (⟨#[32]⟩:ByteArray) (3:Int) l))),(23,.b ((decide ((((List.length (splitNB (⟨#[32]⟩:ByteArray) (3:Int) l)):Nat):Int)<(3:Int))) || (!(hasS ([(⟨#[108,105,110,101,97,114]⟩:ByteArray),(⟨#[111,119,110]⟩:ByteArray),(⟨#[113,117,105,101,116]⟩:ByteArray),(⟨#[119,105,100,116,104]⟩:ByteArray)]) (List.getD (splitNB (⟨#[32]⟩:ByteArray) (3:Int) l) 0 default)))))],[],[17,12,999]⟩)
  ((fun (Z1:Bool)=>(Y∧(Y∧((Y∧(Y∧Y))∧(Y∧(((!Z1)=true→(Y∧(Y∧(Y∧(Y∧Y)))))∧(((!Z1)=true→Y)∧(((!Z1)=true→((((!Z1)=true)∧Y)∧(Y∧((0≤(0:Int))∧((0:Int)<(((List.length (splitNB (⟨#[32]⟩:ByteArray) (3:Int) l)):Nat):Int))))))∧(((!Z1)=true→(((!Z1)=true)∧Y))∧(((!Z1)=true→(Y∧(((((!Z1)=true)∧Y)∧((((!Z1)=true)∧Y)∧Y))∧Y)))∧(((!Z1)=true→(((!Z1)=true)∧Y))∧((Y∧((Z1=true→Y)∧(Z1=false→((!Z1)=true)∧Y)))∧Y)))))))))))) (decide ((((List.length (splitNB (⟨#[32]⟩:ByteArray) (3:Int) l)):Nat):Int)<(3:Int))))
  ⟨tt,tt,⟨tt,tt,tt⟩,tt,(fun _=>⟨tt,tt,tt,tt,tt⟩),(fun _=>trivial),(fun hG=>⟨⟨hG,tt⟩,tt,(by have hg0 : ¬ ((((List.length (splitNB (⟨#[32]⟩:ByteArray) (3:Int) l)):Nat):Int)<(3:Int)) := of_decide_eq_false (not_f hG); first | omega | (have h9 := hrow.2 i; omega)),(by have hg0 : ¬ ((((List.length (splitNB (⟨#[32]⟩:ByteArray) (3:Int) l)):Nat):Int)<(3:Int)) := of_decide_eq_false (not_f hG); first | omega | (have h9 := hrow.2 i; omega))⟩),(fun hG=>⟨hG,tt⟩),(fun hG=>⟨tt,⟨⟨hG,tt⟩,⟨hG,tt⟩,tt⟩,tt⟩),(fun hG=>⟨hG,tt⟩),⟨tt,(fun _=>trivial),(fun hp=>⟨(not_t hp),tt⟩)⟩,tt⟩ ?_
 refine W.if' ((decide ((((List.length (splitNB (⟨#[32]⟩:ByteArray) (3:Int) l)):Nat):Int)<(3:Int))) || (!(hasS ([(⟨#[108,105,110,101,97,114]⟩:ByteArray),(⟨#[111,119,110]⟩:ByteArray),(⟨#[113,117,105,101,116]⟩:ByteArray),(⟨#[119,105,100,116,104]⟩:ByteArray)]) (List.getD (splitNB (⟨#[32]⟩:ByteArray) (3:Int) l) 0 default)))) (.b ((decide ((((List.length (splitNB (⟨#[32]⟩:ByteArray) (3:Int) l)):Nat):Int)<(3:Int))) || (!(hasS ([(⟨#[108,105,110,101,97,114]⟩:ByteArray),(⟨#[111,119,110]⟩:ByteArray),(⟨#[113,117,105,101,116]⟩:ByteArray),(⟨#[119,105,100,116,104]⟩:ByteArray)]) (List.getD (splitNB (⟨#[32]⟩:ByteArray) (3:Int) l) 0 default))))) (by kernel_rfl) rfl trivial ?_ ?_
 ·intro h23
  have hE : tWhat=deskV l := by
   rcases Classical.em ((splitB8 32 l).length<3) with h9 | h9
   ·exact dk_short (by omega)
   ·refine dk_kind ?_
    rw [← dk_w0 h9,← has_kind]
    have e1 : decide ((((splitNB (⟨#[32]⟩:ByteArray) 3 l).length:Nat):Int)<3)=false := decide_eq_false (by have := dk_len l; omega)
    have h8 := h23
    rw [e1,Bool.false_or] at h8; exact not_f h8
  refine Kk cok tab13 hnt [] [2] (⟨[(2,.v (.string (⟨#[119,104,97,116]⟩:ByteArray)))],[],[17,12,999]⟩)
   (Y∧Y)
   ⟨tt,tt⟩ ?_
  refine W.ret (thenQ_ret ?_)
  exact endQ_ret (.v (.string (⟨#[119,104,97,116]⟩:ByteArray))) (by kernel_rfl) (@cast (((.string (⟨#[119,104,97,116]⟩:ByteArray)):Value)=(.string (deskV l))) _ (by kernel_rfl) (congrArg Value.string (by first | exact hE | exact hE.symm)))
 ·intro n23
  have n23_0 : ¬ ((((List.length (splitNB (⟨#[32]⟩:ByteArray) (3:Int) l)):Nat):Int)<(3:Int)) := of_decide_eq_false (or_l n23)
  have hW : ¬ (((splitNB (⟨#[32]⟩:ByteArray) 3 l).length:Nat):Int)<3 := of_decide_eq_false (or_l n23)
  have hL : ¬ (splitB8 32 l).length<3 := fun e=>hW (by have := dk_len l; omega)
  have hk : kindD (dW l 0)=true := by rw [← dk_w0 hL,← has_kind]; exact not_g (or_r n23)
  have hO := dk_on (l := l) (by omega) hk
  rw [← dk_w0 hL,← dk_w1 hL,← dk_w2 hL,← parse_eq] at hO
  refine W.skip (thenQ_normal ?_)
  refine Kk cok tab13 hnt [] [3,4] (⟨[(3,.sl (.strs (splitNB (⟨#[32]⟩:ByteArray) (3:Int) l))),(4,.v (.string (List.getD (splitNB (⟨#[32]⟩:ByteArray) (3:Int) l) 1 default)))],[],[17,12,999]⟩)
   (Y∧(Y∧Y∧(0≤(1:Int))∧((1:Int)<(((List.length (splitNB (⟨#[32]⟩:ByteArray) (3:Int) l)):Nat):Int)))∧Y∧Y∧Y)
   ⟨tt,⟨tt,tt,(by first | omega | (have h9 := hrow.2 i; omega)),(by first | omega | (have h9 := hrow.2 i; omega))⟩,tt,tt,tt⟩ ?_
  refine Kk cok tab13 hnt [] [3,4,5,6] (⟨[(3,.sl (.strs (splitNB (⟨#[32]⟩:ByteArray) (3:Int) l))),(4,.v (.string (List.getD (splitNB (⟨#[32]⟩:ByteArray) (3:Int) l) 1 default))),(5,.own 31 (List.length ((parseI (List.getD (splitNB (⟨#[32]⟩:ByteArray) (3:Int) l) 2 default).data.toList).1))),(6,.b ((parseI (List.getD (splitNB (⟨#[32]⟩:ByteArray) (3:Int) l) 2 default).data.toList).2))],[(31,⟨59,.row (.calls ((parseI (List.getD (splitNB (⟨#[32]⟩:ByteArray) (3:Int) l) 2 default).data.toList).1))⟩)],[31,17,12,999]⟩)
   (Y∧(Y∧Y∧(0≤(2:Int))∧((2:Int)<(((List.length (splitNB (⟨#[32]⟩:ByteArray) (3:Int) l)):Nat):Int)))∧Y∧(Y∧(Y∧Y)∧((List.getD (splitNB (⟨#[32]⟩:ByteArray) (3:Int) l) 2 default).size≤1999999))∧Y∧Y∧Y∧Y∧Y∧Y)
   ⟨tt,⟨tt,tt,(by first | omega | (have h9 := hrow.2 i; omega)),(by first | omega | (have h9 := hrow.2 i; omega))⟩,tt,⟨tt,⟨tt,tt⟩,(by (try simp only [ByteArray.size_append,ByteArray.size_extract,sz1,sz2,sz3]); omega)⟩,tt,tt,tt,tt,tt,tt⟩ ?_
  refine W.subS [] (⟨[(3,.sl (.strs (splitNB (⟨#[32]⟩:ByteArray) (3:Int) l))),(4,.v (.string (List.getD (splitNB (⟨#[32]⟩:ByteArray) (3:Int) l) 1 default))),(5,.sl (.calls ((parseI (List.getD (splitNB (⟨#[32]⟩:ByteArray) (3:Int) l) 2 default).data.toList).1))),(6,.b ((parseI (List.getD (splitNB (⟨#[32]⟩:ByteArray) (3:Int) l) 2 default).data.toList).2))],[],[999]⟩) (@cast (((Sd (.strs (splitNB (⟨#[32]⟩:ByteArray) (3:Int) l)))∧(((.string (List.getD (splitNB (⟨#[32]⟩:ByteArray) (3:Int) l) 1 default)):Value)=(.string (List.getD (splitNB (⟨#[32]⟩:ByteArray) (3:Int) l) 1 default)))∧(((List.length ((parseI (List.getD (splitNB (⟨#[32]⟩:ByteArray) (3:Int) l) 2 default).data.toList).1))=(List.length ((parseI (List.getD (splitNB (⟨#[32]⟩:ByteArray) (3:Int) l) 2 default).data.toList).1)))∧(Sd (.calls ((parseI (List.getD (splitNB (⟨#[32]⟩:ByteArray) (3:Int) l) 2 default).data.toList).1)))∧((31:Nat) ∉ ([] : List Nat)))∧(Sv (.bool ((parseI (List.getD (splitNB (⟨#[32]⟩:ByteArray) (3:Int) l) 2 default).data.toList).2)))∧Y)∧Y∧(true=true)∧(true=true)) _ (by kernel_rfl) ⟨⟨rfl,rfl,⟨rfl,rfl,(by decide)⟩,rfl,tt⟩,tt,rfl,rfl⟩) ?_
  refine W.seq ?_
  refine Kk cok tab13 hnt [] [3,4,5,56] (⟨[(3,.sl (.strs (splitNB (⟨#[32]⟩:ByteArray) (3:Int) l))),(4,.v (.string (List.getD (splitNB (⟨#[32]⟩:ByteArray) (3:Int) l) 1 default))),(5,.sl (.calls ((parseI (List.getD (splitNB (⟨#[32]⟩:ByteArray) (3:Int) l) 2 default).data.toList).1))),(56,.b (((!((parseI (List.getD (splitNB (⟨#[32]⟩:ByteArray) (3:Int) l) 2 default).data.toList).2)) || ((eqS (List.getD (splitNB (⟨#[32]⟩:ByteArray) (3:Int) l) 0 default) (⟨#[119,105,100,116,104]⟩:ByteArray)) && (!(eqS (List.getD (splitNB (⟨#[32]⟩:ByteArray) (3:Int) l) 1 default) (⟨#[97,108,108]⟩:ByteArray))))) || ((!(eqS (List.getD (splitNB (⟨#[32]⟩:ByteArray) (3:Int) l) 0 default) (⟨#[119,105,100,116,104]⟩:ByteArray))) && (!(isObject (List.getD (splitNB (⟨#[32]⟩:ByteArray) (3:Int) l) 1 default))))))],[],[999]⟩)
   ((fun (Z1:Bool)=>((fun (Z2:Bool)=>((fun (Z3:Bool)=>((fun (Z4:Bool)=>((fun (Z5:Bool)=>(Y∧(Y∧(Y∧(((!Z1)=true→Y)∧(((!Z1)=true→((((!Z1)=true)∧Y)∧(Y∧((0≤(0:Int))∧((0:Int)<(((List.length (splitNB (⟨#[32]⟩:ByteArray) (3:Int) l)):Nat):Int))))))∧(((!Z1)=true→(((!Z1)=true)∧Y))∧(((!Z1)=true→((((!Z1)=true)∧Y)∧(Y∧Y)))∧(((!Z1)=true→Y)∧((Z3=true→Y)∧((Z3=true→(((Z3=true)∧Y)∧(Y∧Y)))∧(((!Z1)=true→((((!Z1)=true)∧(((!Z1)=true)∧Y))∧((Z2=true→(Z3=true)∧Y)∧(Z2=false→Y))))∧((Y∧((Z1=true→Y)∧(Z1=false→((!Z1)=true)∧Y)))∧(Y∧(((!Z4)=true→Y)∧(((!Z4)=true→((((!Z4)=true)∧Y)∧(Y∧((0≤(0:Int))∧((0:Int)<(((List.length (splitNB (⟨#[32]⟩:ByteArray) (3:Int) l)):Nat):Int))))))∧(((!Z4)=true→(((!Z4)=true)∧Y))∧(((!Z4)=true→((((!Z4)=true)∧Y)∧(Y∧Y)))∧(((!Z4)=true→Y)∧((Z5=true→Y)∧((Z5=true→(Y∧((((Z5=true)∧Y)∧Y)∧Y)))∧((Z5=true→((Z5=true)∧Y))∧(((!Z4)=true→((((!Z4)=true)∧(((!Z4)=true)∧Y))∧(((!Z2)=true→(Z5=true)∧Y)∧((!Z2)=false→Y))))∧((Y∧((Z4=true→Y)∧(Z4=false→((!Z4)=true)∧Y)))∧Y)))))))))))))))))))))))) ((!Z4) && ((!Z4) && (!Z2))))) (Z1 || (Z2 && (!(eqS (List.getD (splitNB (⟨#[32]⟩:ByteArray) (3:Int) l) 1 default) (⟨#[97,108,108]⟩:ByteArray))))))) ((!Z1) && ((!Z1) && Z2)))) (eqS (List.getD (splitNB (⟨#[32]⟩:ByteArray) (3:Int) l) 0 default) (⟨#[119,105,100,116,104]⟩:ByteArray)))) (!((parseI (List.getD (splitNB (⟨#[32]⟩:ByteArray) (3:Int) l) 2 default).data.toList).2)))
   ⟨tt,tt,tt,(fun _=>trivial),(fun hG=>⟨⟨hG,tt⟩,tt,(by first | omega | (have h9 := hrow.2 i; omega)),(by first | omega | (have h9 := hrow.2 i; omega))⟩),(fun hG=>⟨hG,tt⟩),(fun hG=>⟨⟨hG,tt⟩,tt,tt⟩),(fun _=>trivial),(fun _=>trivial),(fun hG=>⟨⟨hG,tt⟩,tt,tt⟩),(fun hG=>⟨⟨hG,hG,tt⟩,(fun hp=>⟨(and_t hG (and_t hG hp)),tt⟩),(fun _=>trivial)⟩),⟨tt,(fun _=>trivial),(fun hp=>⟨(not_t hp),tt⟩)⟩,tt,(fun _=>trivial),(fun hG=>⟨⟨hG,tt⟩,tt,(by first | omega | (have h9 := hrow.2 i; omega)),(by first | omega | (have h9 := hrow.2 i; omega))⟩),(fun hG=>⟨hG,tt⟩),(fun hG=>⟨⟨hG,tt⟩,tt,tt⟩),(fun _=>trivial),(fun _=>trivial),(fun hG=>⟨tt,⟨⟨hG,tt⟩,tt⟩,tt⟩),(fun hG=>⟨hG,tt⟩),(fun hG=>⟨⟨hG,hG,tt⟩,(fun hp=>⟨(and_t hG (and_t hG hp)),tt⟩),(fun _=>trivial)⟩),⟨tt,(fun _=>trivial),(fun hp=>⟨(not_t hp),tt⟩)⟩,tt⟩ ?_
  refine W.if' (((!((parseI (List.getD (splitNB (⟨#[32]⟩:ByteArray) (3:Int) l) 2 default).data.toList).2)) || ((eqS (List.getD (splitNB (⟨#[32]⟩:ByteArray) (3:Int) l) 0 default) (⟨#[119,105,100,116,104]⟩:ByteArray)) && (!(eqS (List.getD (splitNB (⟨#[32]⟩:ByteArray) (3:Int) l) 1 default) (⟨#[97,108,108]⟩:ByteArray))))) || ((!(eqS (List.getD (splitNB (⟨#[32]⟩:ByteArray) (3:Int) l) 0 default) (⟨#[119,105,100,116,104]⟩:ByteArray))) && (!(isObject (List.getD (splitNB (⟨#[32]⟩:ByteArray) (3:Int) l) 1 default))))) (.b (((!((parseI (List.getD (splitNB (⟨#[32]⟩:ByteArray) (3:Int) l) 2 default).data.toList).2)) || ((eqS (List.getD (splitNB (⟨#[32]⟩:ByteArray) (3:Int) l) 0 default) (⟨#[119,105,100,116,104]⟩:ByteArray)) && (!(eqS (List.getD (splitNB (⟨#[32]⟩:ByteArray) (3:Int) l) 1 default) (⟨#[97,108,108]⟩:ByteArray))))) || ((!(eqS (List.getD (splitNB (⟨#[32]⟩:ByteArray) (3:Int) l) 0 default) (⟨#[119,105,100,116,104]⟩:ByteArray))) && (!(isObject (List.getD (splitNB (⟨#[32]⟩:ByteArray) (3:Int) l) 1 default)))))) (by kernel_rfl) rfl trivial ?_ ?_
  ·intro h56
   have hE : tWrong=deskV l := by rw [hO,show wrongD _ _ _=true from h56]; rfl
   refine Kk cok tab13 hnt [] [2] (⟨[(2,.v (.string (⟨#[119,114,111,110,103]⟩:ByteArray)))],[],[999]⟩)
    (Y∧Y)
    ⟨tt,tt⟩ ?_
   refine W.ret (thenQ_ret ?_)
   exact endQ_ret (.v (.string (⟨#[119,114,111,110,103]⟩:ByteArray))) (by kernel_rfl) (@cast (((.string (⟨#[119,114,111,110,103]⟩:ByteArray)):Value)=(.string (deskV l))) _ (by kernel_rfl) (congrArg Value.string (by first | exact hE | exact hE.symm)))
  ·intro n56
   have hE : deskV l=coreD (List.getD (splitNB (⟨#[32]⟩:ByteArray) 3 l) 0 default) (List.getD (splitNB (⟨#[32]⟩:ByteArray) 3 l) 1 default) (parseI (List.getD (splitNB (⟨#[32]⟩:ByteArray) 3 l) 2 default).data.toList).1 := by rw [hO,show wrongD _ _ _=false from n56]; rfl
   have hv : validHistory (parseI (List.getD (splitNB (⟨#[32]⟩:ByteArray) 3 l) 2 default).data.toList).1=true := parse_valid (not_g (or_l (or_l n56)))
   have hwb := wid_bnd hv
   have hwe := wid_eq hv
   have hrow := by_row (s := (List.getD (splitNB (⟨#[32]⟩:ByteArray) 3 l) 1 default)) (f := aheadF (parseI (List.getD (splitNB (⟨#[32]⟩:ByteArray) 3 l) 2 default).data.toList).1) hv
   refine W.skip (thenQ_normal ?_)
   refine W.seq ?_
   refine Kk cok tab13 hnt [] [4,5,59] (⟨[(4,.v (.string (List.getD (splitNB (⟨#[32]⟩:ByteArray) (3:Int) l) 1 default))),(5,.sl (.calls ((parseI (List.getD (splitNB (⟨#[32]⟩:ByteArray) (3:Int) l) 2 default).data.toList).1))),(59,.v (.string (List.getD (splitNB (⟨#[32]⟩:ByteArray) (3:Int) l) 0 default)))],[],[999]⟩)
    (Y∧(Y∧Y∧(0≤(0:Int))∧((0:Int)<(((List.length (splitNB (⟨#[32]⟩:ByteArray) (3:Int) l)):Nat):Int)))∧Y∧Y)
    ⟨tt,⟨tt,tt,(by first | omega | (have h9 := hrow.2 i; omega)),(by first | omega | (have h9 := hrow.2 i; omega))⟩,tt,tt⟩ ?_
   refine W.block ?_
   refine Kk cok tab13 hnt [] [4,5,59,60] (⟨[(4,.v (.string (List.getD (splitNB (⟨#[32]⟩:ByteArray) (3:Int) l) 1 default))),(5,.sl (.calls ((parseI (List.getD (splitNB (⟨#[32]⟩:ByteArray) (3:Int) l) 2 default).data.toList).1))),(59,.v (.string (List.getD (splitNB (⟨#[32]⟩:ByteArray) (3:Int) l) 0 default))),(60,.b (eqS (List.getD (splitNB (⟨#[32]⟩:ByteArray) (3:Int) l) 0 default) (⟨#[111,119,110]⟩:ByteArray)))],[],[999]⟩)
    ((Y∧Y∧Y)∧Y∧Y)
    ⟨⟨tt,tt,tt⟩,tt,tt⟩ ?_
   refine W.if' (eqS (List.getD (splitNB (⟨#[32]⟩:ByteArray) (3:Int) l) 0 default) (⟨#[111,119,110]⟩:ByteArray)) (.b (eqS (List.getD (splitNB (⟨#[32]⟩:ByteArray) (3:Int) l) 0 default) (⟨#[111,119,110]⟩:ByteArray))) (by kernel_rfl) rfl trivial ?_ ?_
   ·intro h60
    rw [core_own h60] at hE
    refine Kk cok tab13 hnt [] [2] (⟨[(2,.v (.string (yesNoV (explains (List.getD (splitNB (⟨#[32]⟩:ByteArray) (3:Int) l) 1 default) ((parseI (List.getD (splitNB (⟨#[32]⟩:ByteArray) (3:Int) l) 2 default).data.toList).1) (ownF ((parseI (List.getD (splitNB (⟨#[32]⟩:ByteArray) (3:Int) l) 2 default).data.toList).1))))))],[],[999]⟩)
     (Y∧Y∧(Y∧(Y∧Y∧Y)∧Y)∧(Y∧(Y∧Y)∧Y)∧Y∧Y)
     ⟨tt,tt,⟨tt,⟨tt,tt,tt⟩,tt⟩,⟨tt,⟨tt,tt⟩,tt⟩,tt,tt⟩ ?_
    refine W.ret (blockQ_ret (thenQ_ret ?_))
    exact endQ_ret (.v (.string (yesNoV (explains (List.getD (splitNB (⟨#[32]⟩:ByteArray) (3:Int) l) 1 default) ((parseI (List.getD (splitNB (⟨#[32]⟩:ByteArray) (3:Int) l) 2 default).data.toList).1) (ownF ((parseI (List.getD (splitNB (⟨#[32]⟩:ByteArray) (3:Int) l) 2 default).data.toList).1)))))) (by kernel_rfl) (@cast (((.string (yesNoV (explains (List.getD (splitNB (⟨#[32]⟩:ByteArray) (3:Int) l) 1 default) ((parseI (List.getD (splitNB (⟨#[32]⟩:ByteArray) (3:Int) l) 2 default).data.toList).1) (ownF ((parseI (List.getD (splitNB (⟨#[32]⟩:ByteArray) (3:Int) l) 2 default).data.toList).1))))):Value)=(.string (deskV l))) _ (by kernel_rfl) (congrArg Value.string (by first | exact hE | exact hE.symm)))
   ·intro n60
    refine Kk cok tab13 hnt [] [4,5,59,66] (⟨[(4,.v (.string (List.getD (splitNB (⟨#[32]⟩:ByteArray) (3:Int) l) 1 default))),(5,.sl (.calls ((parseI (List.getD (splitNB (⟨#[32]⟩:ByteArray) (3:Int) l) 2 default).data.toList).1))),(59,.v (.string (List.getD (splitNB (⟨#[32]⟩:ByteArray) (3:Int) l) 0 default))),(66,.b (eqS (List.getD (splitNB (⟨#[32]⟩:ByteArray) (3:Int) l) 0 default) (⟨#[113,117,105,101,116]⟩:ByteArray)))],[],[999]⟩)
     ((Y∧Y∧Y)∧Y∧Y)
     ⟨⟨tt,tt,tt⟩,tt,tt⟩ ?_
    refine W.if' (eqS (List.getD (splitNB (⟨#[32]⟩:ByteArray) (3:Int) l) 0 default) (⟨#[113,117,105,101,116]⟩:ByteArray)) (.b (eqS (List.getD (splitNB (⟨#[32]⟩:ByteArray) (3:Int) l) 0 default) (⟨#[113,117,105,101,116]⟩:ByteArray))) (by kernel_rfl) rfl trivial ?_ ?_
    ·intro h66
     rw [core_qui h66] at hE
     refine Kk cok tab13 hnt [] [2] (⟨[(2,.v (.string (yesNoV (explains (List.getD (splitNB (⟨#[32]⟩:ByteArray) (3:Int) l) 1 default) ((parseI (List.getD (splitNB (⟨#[32]⟩:ByteArray) (3:Int) l) 2 default).data.toList).1) (quietF ((parseI (List.getD (splitNB (⟨#[32]⟩:ByteArray) (3:Int) l) 2 default).data.toList).1))))))],[],[999]⟩)
      (Y∧Y∧(Y∧(Y∧Y∧Y)∧Y)∧(Y∧(Y∧Y)∧Y)∧Y∧Y)
      ⟨tt,tt,⟨tt,⟨tt,tt,tt⟩,tt⟩,⟨tt,⟨tt,tt⟩,tt⟩,tt,tt⟩ ?_
     refine W.ret (blockQ_ret (thenQ_ret ?_))
     exact endQ_ret (.v (.string (yesNoV (explains (List.getD (splitNB (⟨#[32]⟩:ByteArray) (3:Int) l) 1 default) ((parseI (List.getD (splitNB (⟨#[32]⟩:ByteArray) (3:Int) l) 2 default).data.toList).1) (quietF ((parseI (List.getD (splitNB (⟨#[32]⟩:ByteArray) (3:Int) l) 2 default).data.toList).1)))))) (by kernel_rfl) (@cast (((.string (yesNoV (explains (List.getD (splitNB (⟨#[32]⟩:ByteArray) (3:Int) l) 1 default) ((parseI (List.getD (splitNB (⟨#[32]⟩:ByteArray) (3:Int) l) 2 default).data.toList).1) (quietF ((parseI (List.getD (splitNB (⟨#[32]⟩:ByteArray) (3:Int) l) 2 default).data.toList).1))))):Value)=(.string (deskV l))) _ (by kernel_rfl) (congrArg Value.string (by first | exact hE | exact hE.symm)))
    ·intro n66
     refine Kk cok tab13 hnt [] [4,5,72] (⟨[(4,.v (.string (List.getD (splitNB (⟨#[32]⟩:ByteArray) (3:Int) l) 1 default))),(5,.sl (.calls ((parseI (List.getD (splitNB (⟨#[32]⟩:ByteArray) (3:Int) l) 2 default).data.toList).1))),(72,.b (eqS (List.getD (splitNB (⟨#[32]⟩:ByteArray) (3:Int) l) 0 default) (⟨#[119,105,100,116,104]⟩:ByteArray)))],[],[999]⟩)
      ((Y∧Y∧Y)∧Y∧Y)
      ⟨⟨tt,tt,tt⟩,tt,tt⟩ ?_
     refine W.if' (eqS (List.getD (splitNB (⟨#[32]⟩:ByteArray) (3:Int) l) 0 default) (⟨#[119,105,100,116,104]⟩:ByteArray)) (.b (eqS (List.getD (splitNB (⟨#[32]⟩:ByteArray) (3:Int) l) 0 default) (⟨#[119,105,100,116,104]⟩:ByteArray))) (by kernel_rfl) rfl trivial ?_ ?_
     ·intro h72
      rw [core_wid h72,← hwe] at hE
      refine Kk cok tab13 hnt [] [2] (⟨[(2,.v (.string (numB (widthOf ((parseI (List.getD (splitNB (⟨#[32]⟩:ByteArray) (3:Int) l) 2 default).data.toList).1)))))],[],[999]⟩)
       (Y∧(Y∧(Y∧Y)∧Y)∧(Y∧(Y∧Y)∧(-9223372036854775808≤(widthOf ((parseI (List.getD (splitNB (⟨#[32]⟩:ByteArray) (3:Int) l) 2 default).data.toList).1)))∧((widthOf ((parseI (List.getD (splitNB (⟨#[32]⟩:ByteArray) (3:Int) l) 2 default).data.toList).1))≤9223372036854775807))∧Y∧Y)
       ⟨tt,⟨tt,⟨tt,tt⟩,tt⟩,⟨tt,⟨tt,tt⟩,(by omega),(by omega)⟩,tt,tt⟩ ?_
      refine W.ret (blockQ_ret (thenQ_ret ?_))
      exact endQ_ret (.v (.string (numB (widthOf ((parseI (List.getD (splitNB (⟨#[32]⟩:ByteArray) (3:Int) l) 2 default).data.toList).1))))) (by kernel_rfl) (@cast (((.string (numB (widthOf ((parseI (List.getD (splitNB (⟨#[32]⟩:ByteArray) (3:Int) l) 2 default).data.toList).1)))):Value)=(.string (deskV l))) _ (by kernel_rfl) (congrArg Value.string (by first | exact hE | exact hE.symm)))
     ·intro n72
      rw [core_lin n60 n66 n72] at hE
      refine W.skip (blockQ_normal (thenQ_normal ?_))
      refine Kk cok tab13 hnt [] [7] (⟨[(7,.sl (.intss (ordersBy (List.getD (splitNB (⟨#[32]⟩:ByteArray) (3:Int) l) 1 default) ((parseI (List.getD (splitNB (⟨#[32]⟩:ByteArray) (3:Int) l) 2 default).data.toList).1) (aheadF ((parseI (List.getD (splitNB (⟨#[32]⟩:ByteArray) (3:Int) l) 2 default).data.toList).1)))))],[],[999]⟩)
       (Y∧Y∧(Y∧(Y∧Y∧Y)∧Y)∧Y∧Y)
       ⟨tt,tt,⟨tt,⟨tt,tt,tt⟩,tt⟩,tt,tt⟩ ?_
      refine W.seq ?_
      refine Kk cok tab13 hnt [] [7,82] (⟨[(7,.sl (.intss (ordersBy (List.getD (splitNB (⟨#[32]⟩:ByteArray) (3:Int) l) 1 default) ((parseI (List.getD (splitNB (⟨#[32]⟩:ByteArray) (3:Int) l) 2 default).data.toList).1) (aheadF ((parseI (List.getD (splitNB (⟨#[32]⟩:ByteArray) (3:Int) l) 2 default).data.toList).1))))),(82,.b (decide ((((List.length (ordersBy (List.getD (splitNB (⟨#[32]⟩:ByteArray) (3:Int) l) 1 default) ((parseI (List.getD (splitNB (⟨#[32]⟩:ByteArray) (3:Int) l) 2 default).data.toList).1) (aheadF ((parseI (List.getD (splitNB (⟨#[32]⟩:ByteArray) (3:Int) l) 2 default).data.toList).1)))):Nat):Int)=(0:Int))))],[],[999]⟩)
       (Y∧Y∧(Y∧Y∧Y)∧Y)
       ⟨tt,tt,⟨tt,tt,tt⟩,tt⟩ ?_
      refine W.ifP ((((List.length (ordersBy (List.getD (splitNB (⟨#[32]⟩:ByteArray) (3:Int) l) 1 default) ((parseI (List.getD (splitNB (⟨#[32]⟩:ByteArray) (3:Int) l) 2 default).data.toList).1) (aheadF ((parseI (List.getD (splitNB (⟨#[32]⟩:ByteArray) (3:Int) l) 2 default).data.toList).1)))):Nat):Int)=(0:Int)) (.b (decide ((((List.length (ordersBy (List.getD (splitNB (⟨#[32]⟩:ByteArray) (3:Int) l) 1 default) ((parseI (List.getD (splitNB (⟨#[32]⟩:ByteArray) (3:Int) l) 2 default).data.toList).1) (aheadF ((parseI (List.getD (splitNB (⟨#[32]⟩:ByteArray) (3:Int) l) 2 default).data.toList).1)))):Nat):Int)=(0:Int)))) (by kernel_rfl) rfl trivial ?_ ?_
      ·intro h82
       rw [decide_eq_true (p := _=0) (by omega),cond_true] at hE
       refine Kk cok tab13 hnt [] [2] (⟨[(2,.v (.string (⟨#[110,111]⟩:ByteArray)))],[],[999]⟩)
        (Y∧Y)
        ⟨tt,tt⟩ ?_
       refine W.ret (thenQ_ret ?_)
       exact endQ_ret (.v (.string (⟨#[110,111]⟩:ByteArray))) (by kernel_rfl) (@cast (((.string (⟨#[110,111]⟩:ByteArray)):Value)=(.string (deskV l))) _ (by kernel_rfl) (congrArg Value.string (by first | exact hE | exact hE.symm)))
      ·intro n82
       rw [decide_eq_false (p := _=0) (by omega),cond_false] at hE
       refine W.skip (thenQ_normal ?_)
       refine Kk cok tab13 hnt [] [7,8] (⟨[(7,.sl (.intss (ordersBy (List.getD (splitNB (⟨#[32]⟩:ByteArray) (3:Int) l) 1 default) ((parseI (List.getD (splitNB (⟨#[32]⟩:ByteArray) (3:Int) l) 2 default).data.toList).1) (aheadF ((parseI (List.getD (splitNB (⟨#[32]⟩:ByteArray) (3:Int) l) 2 default).data.toList).1))))),(8,.v (.string (⟨#[121,101,115]⟩:ByteArray)))],[],[999]⟩)
        (Y∧Y)
        ⟨tt,tt⟩ ?_
       refine W.seq ?_
       refine Kk cok tab13 hnt [] [8,85,86,87] (⟨[(8,.v (.string (⟨#[121,101,115]⟩:ByteArray))),(85,.sl (.ints (List.getD (ordersBy (List.getD (splitNB (⟨#[32]⟩:ByteArray) (3:Int) l) 1 default) ((parseI (List.getD (splitNB (⟨#[32]⟩:ByteArray) (3:Int) l) 2 default).data.toList).1) (aheadF ((parseI (List.getD (splitNB (⟨#[32]⟩:ByteArray) (3:Int) l) 2 default).data.toList).1))) 0 []))),(86,.i (((List.length (List.getD (ordersBy (List.getD (splitNB (⟨#[32]⟩:ByteArray) (3:Int) l) 1 default) ((parseI (List.getD (splitNB (⟨#[32]⟩:ByteArray) (3:Int) l) 2 default).data.toList).1) (aheadF ((parseI (List.getD (splitNB (⟨#[32]⟩:ByteArray) (3:Int) l) 2 default).data.toList).1))) 0 [])):Nat):Int)),(87,.i (0:Int))],[],[999]⟩)
        (Y∧(Y∧Y∧(0≤(0:Int))∧((0:Int)<(((List.length (ordersBy (List.getD (splitNB (⟨#[32]⟩:ByteArray) (3:Int) l) 1 default) ((parseI (List.getD (splitNB (⟨#[32]⟩:ByteArray) (3:Int) l) 2 default).data.toList).1) (aheadF ((parseI (List.getD (splitNB (⟨#[32]⟩:ByteArray) (3:Int) l) 2 default).data.toList).1)))):Nat):Int)))∧Y∧Y∧Y∧Y)
        ⟨tt,⟨tt,tt,(by first | omega | (have h9 := hrow.2 i; omega)),(by first | omega | (have h9 := hrow.2 i; omega))⟩,tt,tt,tt,tt⟩ ?_
       refine W.block ?_
       refine W.loop (ι := Nat × ByteArray) (fun (x : Nat × ByteArray)=>match x with | (i,o)=>(⟨[(8,.v (.string o)),(85,.sl (.ints (List.getD (ordersBy (List.getD (splitNB (⟨#[32]⟩:ByteArray) (3:Int) l) 1 default) ((parseI (List.getD (splitNB (⟨#[32]⟩:ByteArray) (3:Int) l) 2 default).data.toList).1) (aheadF ((parseI (List.getD (splitNB (⟨#[32]⟩:ByteArray) (3:Int) l) 2 default).data.toList).1))) 0 []))),(86,.i (((List.length (List.getD (ordersBy (List.getD (splitNB (⟨#[32]⟩:ByteArray) (3:Int) l) 1 default) ((parseI (List.getD (splitNB (⟨#[32]⟩:ByteArray) (3:Int) l) 2 default).data.toList).1) (aheadF ((parseI (List.getD (splitNB (⟨#[32]⟩:ByteArray) (3:Int) l) 2 default).data.toList).1))) 0 [])):Nat):Int)),(87,.i ((i:Nat):Int))],[],[999]⟩:St))
        (fun (x : Nat × ByteArray)=>match x with | (i,o)=>(i≤(List.getD (ordersBy (List.getD (splitNB (⟨#[32]⟩:ByteArray) 3 l) 1 default) (parseI (List.getD (splitNB (⟨#[32]⟩:ByteArray) 3 l) 2 default).data.toList).1 (aheadF (parseI (List.getD (splitNB (⟨#[32]⟩:ByteArray) 3 l) 2 default).data.toList).1)) 0 []).length)∧(o=numsUp (List.getD (ordersBy (List.getD (splitNB (⟨#[32]⟩:ByteArray) 3 l) 1 default) (parseI (List.getD (splitNB (⟨#[32]⟩:ByteArray) 3 l) 2 default).data.toList).1 (aheadF (parseI (List.getD (splitNB (⟨#[32]⟩:ByteArray) 3 l) 2 default).data.toList).1)) 0 []) i))
        (fun (x : Nat × ByteArray)=>match x with | (i,o)=>((List.getD (ordersBy (List.getD (splitNB (⟨#[32]⟩:ByteArray) 3 l) 1 default) (parseI (List.getD (splitNB (⟨#[32]⟩:ByteArray) 3 l) 2 default).data.toList).1 (aheadF (parseI (List.getD (splitNB (⟨#[32]⟩:ByteArray) 3 l) 2 default).data.toList).1)) 0 []).length - i:Nat)) (0,(⟨#[121,101,115]⟩:ByteArray)) ?_ ?_ ?_
       ·exact (show (0≤(List.getD (ordersBy (List.getD (splitNB (⟨#[32]⟩:ByteArray) 3 l) 1 default) (parseI (List.getD (splitNB (⟨#[32]⟩:ByteArray) 3 l) 2 default).data.toList).1 (aheadF (parseI (List.getD (splitNB (⟨#[32]⟩:ByteArray) 3 l) 2 default).data.toList).1)) 0 []).length)∧((⟨#[121,101,115]⟩:ByteArray)=numsUp (List.getD (ordersBy (List.getD (splitNB (⟨#[32]⟩:ByteArray) 3 l) 1 default) (parseI (List.getD (splitNB (⟨#[32]⟩:ByteArray) 3 l) 2 default).data.toList).1 (aheadF (parseI (List.getD (splitNB (⟨#[32]⟩:ByteArray) 3 l) 2 default).data.toList).1)) 0 []) 0) from ⟨(by first | assumption | omega | rfl | (intro _ hjj; omega) | (simp; done) | (simp; omega)),(by rfl)⟩)
       ·exact Sub.of [] (@cast (((((.string (⟨#[121,101,115]⟩:ByteArray)):Value)=(.string (⟨#[121,101,115]⟩:ByteArray)))∧(Sd (.ints (List.getD (ordersBy (List.getD (splitNB (⟨#[32]⟩:ByteArray) (3:Int) l) 1 default) ((parseI (List.getD (splitNB (⟨#[32]⟩:ByteArray) (3:Int) l) 2 default).data.toList).1) (aheadF ((parseI (List.getD (splitNB (⟨#[32]⟩:ByteArray) (3:Int) l) 2 default).data.toList).1))) 0 [])))∧(Si (((List.length (List.getD (ordersBy (List.getD (splitNB (⟨#[32]⟩:ByteArray) (3:Int) l) 1 default) ((parseI (List.getD (splitNB (⟨#[32]⟩:ByteArray) (3:Int) l) 2 default).data.toList).1) (aheadF ((parseI (List.getD (splitNB (⟨#[32]⟩:ByteArray) (3:Int) l) 2 default).data.toList).1))) 0 [])):Nat):Int))∧((.int .i64 (0:Int):Value)=.int .i64 ((0:Nat):Int))∧Y)∧Y∧(true=true)∧(true=true)) _ (by kernel_rfl) ⟨⟨rfl,rfl,rfl,(congrArg (Value.int .i64) (by first | rfl | omega | assumption | simp | simp_all)),tt⟩,tt,rfl,rfl⟩)
       ·rintro ⟨i,o⟩ hC0
        have hC : (i≤(List.getD (ordersBy (List.getD (splitNB (⟨#[32]⟩:ByteArray) 3 l) 1 default) (parseI (List.getD (splitNB (⟨#[32]⟩:ByteArray) 3 l) 2 default).data.toList).1 (aheadF (parseI (List.getD (splitNB (⟨#[32]⟩:ByteArray) 3 l) 2 default).data.toList).1)) 0 []).length)∧(o=numsUp (List.getD (ordersBy (List.getD (splitNB (⟨#[32]⟩:ByteArray) 3 l) 1 default) (parseI (List.getD (splitNB (⟨#[32]⟩:ByteArray) 3 l) 2 default).data.toList).1 (aheadF (parseI (List.getD (splitNB (⟨#[32]⟩:ByteArray) 3 l) 2 default).data.toList).1)) 0 []) i) := hC0
        clear hC0
        obtain ⟨hi,ho⟩ := hC
        refine W.to (⟨[(8,.v (.string o)),(85,.sl (.ints (List.getD (ordersBy (List.getD (splitNB (⟨#[32]⟩:ByteArray) (3:Int) l) 1 default) ((parseI (List.getD (splitNB (⟨#[32]⟩:ByteArray) (3:Int) l) 2 default).data.toList).1) (aheadF ((parseI (List.getD (splitNB (⟨#[32]⟩:ByteArray) (3:Int) l) 2 default).data.toList).1))) 0 []))),(86,.i (((List.length (List.getD (ordersBy (List.getD (splitNB (⟨#[32]⟩:ByteArray) (3:Int) l) 1 default) ((parseI (List.getD (splitNB (⟨#[32]⟩:ByteArray) (3:Int) l) 2 default).data.toList).1) (aheadF ((parseI (List.getD (splitNB (⟨#[32]⟩:ByteArray) (3:Int) l) 2 default).data.toList).1))) 0 [])):Nat):Int)),(87,.i ((i:Nat):Int))],[],[999]⟩) rfl ?_
        have hri := hrow.2 i
        have hos : o.size≤3+3 * i := by rw [ho]; exact nums_size hrow.2 i
        have hns := numB_small (n := (List.getD (ordersBy (List.getD (splitNB (⟨#[32]⟩:ByteArray) 3 l) 1 default) (parseI (List.getD (splitNB (⟨#[32]⟩:ByteArray) 3 l) 2 default).data.toList).1 (aheadF (parseI (List.getD (splitNB (⟨#[32]⟩:ByteArray) 3 l) 2 default).data.toList).1)) 0 []).getD i 0) (by omega) (by omega)
        refine Kk cok tab13 hnt [] [8,85,86,87,88] (⟨[(8,.v (.string o)),(85,.sl (.ints (List.getD (ordersBy (List.getD (splitNB (⟨#[32]⟩:ByteArray) (3:Int) l) 1 default) ((parseI (List.getD (splitNB (⟨#[32]⟩:ByteArray) (3:Int) l) 2 default).data.toList).1) (aheadF ((parseI (List.getD (splitNB (⟨#[32]⟩:ByteArray) (3:Int) l) 2 default).data.toList).1))) 0 []))),(86,.i (((List.length (List.getD (ordersBy (List.getD (splitNB (⟨#[32]⟩:ByteArray) (3:Int) l) 1 default) ((parseI (List.getD (splitNB (⟨#[32]⟩:ByteArray) (3:Int) l) 2 default).data.toList).1) (aheadF ((parseI (List.getD (splitNB (⟨#[32]⟩:ByteArray) (3:Int) l) 2 default).data.toList).1))) 0 [])):Nat):Int)),(87,.i ((i:Nat):Int)),(88,.b (decide (((i:Nat):Int)<(((List.length (List.getD (ordersBy (List.getD (splitNB (⟨#[32]⟩:ByteArray) (3:Int) l) 1 default) ((parseI (List.getD (splitNB (⟨#[32]⟩:ByteArray) (3:Int) l) 2 default).data.toList).1) (aheadF ((parseI (List.getD (splitNB (⟨#[32]⟩:ByteArray) (3:Int) l) 2 default).data.toList).1))) 0 [])):Nat):Int))))],[],[999]⟩)
         ((Y∧Y∧Y)∧Y)
         ⟨⟨tt,tt,tt⟩,tt⟩ ?_
        refine W.seq ?_
        refine W.ifP (((i:Nat):Int)<(((List.length (List.getD (ordersBy (List.getD (splitNB (⟨#[32]⟩:ByteArray) (3:Int) l) 1 default) ((parseI (List.getD (splitNB (⟨#[32]⟩:ByteArray) (3:Int) l) 2 default).data.toList).1) (aheadF ((parseI (List.getD (splitNB (⟨#[32]⟩:ByteArray) (3:Int) l) 2 default).data.toList).1))) 0 [])):Nat):Int)) (.b (decide (((i:Nat):Int)<(((List.length (List.getD (ordersBy (List.getD (splitNB (⟨#[32]⟩:ByteArray) (3:Int) l) 1 default) ((parseI (List.getD (splitNB (⟨#[32]⟩:ByteArray) (3:Int) l) 2 default).data.toList).1) (aheadF ((parseI (List.getD (splitNB (⟨#[32]⟩:ByteArray) (3:Int) l) 2 default).data.toList).1))) 0 [])):Nat):Int)))) (by kernel_rfl) rfl trivial ?_ ?_
        ·intro h88
         refine W.skip (thenQ_normal ?_)
         refine W.seq ?_
         refine W.block ?_
         refine Kk cok tab13 hnt [] [8,10,85,86,87] (⟨[(8,.v (.string o)),(10,.i (List.getD (List.getD (ordersBy (List.getD (splitNB (⟨#[32]⟩:ByteArray) (3:Int) l) 1 default) ((parseI (List.getD (splitNB (⟨#[32]⟩:ByteArray) (3:Int) l) 2 default).data.toList).1) (aheadF ((parseI (List.getD (splitNB (⟨#[32]⟩:ByteArray) (3:Int) l) 2 default).data.toList).1))) 0 []) i 0)),(85,.sl (.ints (List.getD (ordersBy (List.getD (splitNB (⟨#[32]⟩:ByteArray) (3:Int) l) 1 default) ((parseI (List.getD (splitNB (⟨#[32]⟩:ByteArray) (3:Int) l) 2 default).data.toList).1) (aheadF ((parseI (List.getD (splitNB (⟨#[32]⟩:ByteArray) (3:Int) l) 2 default).data.toList).1))) 0 []))),(86,.i (((List.length (List.getD (ordersBy (List.getD (splitNB (⟨#[32]⟩:ByteArray) (3:Int) l) 1 default) ((parseI (List.getD (splitNB (⟨#[32]⟩:ByteArray) (3:Int) l) 2 default).data.toList).1) (aheadF ((parseI (List.getD (splitNB (⟨#[32]⟩:ByteArray) (3:Int) l) 2 default).data.toList).1))) 0 [])):Nat):Int)),(87,.i ((i:Nat):Int))],[],[999]⟩)
          ((Y∧Y∧(0≤((i:Nat):Int))∧(((i:Nat):Int)<(((List.length (List.getD (ordersBy (List.getD (splitNB (⟨#[32]⟩:ByteArray) (3:Int) l) 1 default) ((parseI (List.getD (splitNB (⟨#[32]⟩:ByteArray) (3:Int) l) 2 default).data.toList).1) (aheadF ((parseI (List.getD (splitNB (⟨#[32]⟩:ByteArray) (3:Int) l) 2 default).data.toList).1))) 0 [])):Nat):Int)))∧Y∧Y∧Y)
          ⟨⟨tt,tt,(by first | omega | (have h9 := hrow.2 i; omega)),(by first | omega | (have h9 := hrow.2 i; omega))⟩,tt,tt,tt⟩ ?_
         refine Lk cok tab13 hnt [] (⟨[(8,.v (.string (o++((⟨#[32]⟩:ByteArray)++(numB (List.getD (List.getD (ordersBy (List.getD (splitNB (⟨#[32]⟩:ByteArray) (3:Int) l) 1 default) ((parseI (List.getD (splitNB (⟨#[32]⟩:ByteArray) (3:Int) l) 2 default).data.toList).1) (aheadF ((parseI (List.getD (splitNB (⟨#[32]⟩:ByteArray) (3:Int) l) 2 default).data.toList).1))) 0 []) i 0)))))),(10,.i (List.getD (List.getD (ordersBy (List.getD (splitNB (⟨#[32]⟩:ByteArray) (3:Int) l) 1 default) ((parseI (List.getD (splitNB (⟨#[32]⟩:ByteArray) (3:Int) l) 2 default).data.toList).1) (aheadF ((parseI (List.getD (splitNB (⟨#[32]⟩:ByteArray) (3:Int) l) 2 default).data.toList).1))) 0 []) i 0)),(85,.sl (.ints (List.getD (ordersBy (List.getD (splitNB (⟨#[32]⟩:ByteArray) (3:Int) l) 1 default) ((parseI (List.getD (splitNB (⟨#[32]⟩:ByteArray) (3:Int) l) 2 default).data.toList).1) (aheadF ((parseI (List.getD (splitNB (⟨#[32]⟩:ByteArray) (3:Int) l) 2 default).data.toList).1))) 0 []))),(86,.i (((List.length (List.getD (ordersBy (List.getD (splitNB (⟨#[32]⟩:ByteArray) (3:Int) l) 1 default) ((parseI (List.getD (splitNB (⟨#[32]⟩:ByteArray) (3:Int) l) 2 default).data.toList).1) (aheadF ((parseI (List.getD (splitNB (⟨#[32]⟩:ByteArray) (3:Int) l) 2 default).data.toList).1))) 0 [])):Nat):Int)),(87,.i ((i:Nat):Int)),(91,.v (.string o)),(92,.i (List.getD (List.getD (ordersBy (List.getD (splitNB (⟨#[32]⟩:ByteArray) (3:Int) l) 1 default) ((parseI (List.getD (splitNB (⟨#[32]⟩:ByteArray) (3:Int) l) 2 default).data.toList).1) (aheadF ((parseI (List.getD (splitNB (⟨#[32]⟩:ByteArray) (3:Int) l) 2 default).data.toList).1))) 0 []) i 0)),(93,.v (.string (numB (List.getD (List.getD (ordersBy (List.getD (splitNB (⟨#[32]⟩:ByteArray) (3:Int) l) 1 default) ((parseI (List.getD (splitNB (⟨#[32]⟩:ByteArray) (3:Int) l) 2 default).data.toList).1) (aheadF ((parseI (List.getD (splitNB (⟨#[32]⟩:ByteArray) (3:Int) l) 2 default).data.toList).1))) 0 []) i 0)))),(94,.v (.string ((⟨#[32]⟩:ByteArray)++(numB (List.getD (List.getD (ordersBy (List.getD (splitNB (⟨#[32]⟩:ByteArray) (3:Int) l) 1 default) ((parseI (List.getD (splitNB (⟨#[32]⟩:ByteArray) (3:Int) l) 2 default).data.toList).1) (aheadF ((parseI (List.getD (splitNB (⟨#[32]⟩:ByteArray) (3:Int) l) 2 default).data.toList).1))) 0 []) i 0))))),(95,.v (.string (o++((⟨#[32]⟩:ByteArray)++(numB (List.getD (List.getD (ordersBy (List.getD (splitNB (⟨#[32]⟩:ByteArray) (3:Int) l) 1 default) ((parseI (List.getD (splitNB (⟨#[32]⟩:ByteArray) (3:Int) l) 2 default).data.toList).1) (aheadF ((parseI (List.getD (splitNB (⟨#[32]⟩:ByteArray) (3:Int) l) 2 default).data.toList).1))) 0 []) i 0))))))],[],[999]⟩)
          (Y∧Y∧(Y∧(Y∧Y)∧(-9223372036854775808≤(List.getD (List.getD (ordersBy (List.getD (splitNB (⟨#[32]⟩:ByteArray) (3:Int) l) 1 default) ((parseI (List.getD (splitNB (⟨#[32]⟩:ByteArray) (3:Int) l) 2 default).data.toList).1) (aheadF ((parseI (List.getD (splitNB (⟨#[32]⟩:ByteArray) (3:Int) l) 2 default).data.toList).1))) 0 []) i 0))∧((List.getD (List.getD (ordersBy (List.getD (splitNB (⟨#[32]⟩:ByteArray) (3:Int) l) 1 default) ((parseI (List.getD (splitNB (⟨#[32]⟩:ByteArray) (3:Int) l) 2 default).data.toList).1) (aheadF ((parseI (List.getD (splitNB (⟨#[32]⟩:ByteArray) (3:Int) l) 2 default).data.toList).1))) 0 []) i 0)≤9223372036854775807))∧(Y∧Y∧((⟨#[32]⟩:ByteArray).size+(numB (List.getD (List.getD (ordersBy (List.getD (splitNB (⟨#[32]⟩:ByteArray) (3:Int) l) 1 default) ((parseI (List.getD (splitNB (⟨#[32]⟩:ByteArray) (3:Int) l) 2 default).data.toList).1) (aheadF ((parseI (List.getD (splitNB (⟨#[32]⟩:ByteArray) (3:Int) l) 2 default).data.toList).1))) 0 []) i 0)).size≤9223372036854775807))∧(Y∧Y∧(o.size+((⟨#[32]⟩:ByteArray)++(numB (List.getD (List.getD (ordersBy (List.getD (splitNB (⟨#[32]⟩:ByteArray) (3:Int) l) 1 default) ((parseI (List.getD (splitNB (⟨#[32]⟩:ByteArray) (3:Int) l) 2 default).data.toList).1) (aheadF ((parseI (List.getD (splitNB (⟨#[32]⟩:ByteArray) (3:Int) l) 2 default).data.toList).1))) 0 []) i 0))).size≤9223372036854775807))∧Y∧Y)
          ⟨tt,tt,⟨tt,⟨tt,tt⟩,(by first | omega | (have h9 := hrow.2 i; omega)),(by first | omega | (have h9 := hrow.2 i; omega))⟩,⟨tt,tt,(by (try simp only [ByteArray.size_append,ByteArray.size_extract,sz1,sz2,sz3]); omega)⟩,⟨tt,tt,(by (try simp only [ByteArray.size_append,ByteArray.size_extract,sz1,sz2,sz3]); omega)⟩,tt,tt⟩ ?_
         refine blockQ_normal (thenQ_normal ?_)
         refine Lk cok tab13 hnt [] (⟨[(8,.v (.string (o++((⟨#[32]⟩:ByteArray)++(numB (List.getD (List.getD (ordersBy (List.getD (splitNB (⟨#[32]⟩:ByteArray) (3:Int) l) 1 default) ((parseI (List.getD (splitNB (⟨#[32]⟩:ByteArray) (3:Int) l) 2 default).data.toList).1) (aheadF ((parseI (List.getD (splitNB (⟨#[32]⟩:ByteArray) (3:Int) l) 2 default).data.toList).1))) 0 []) i 0)))))),(10,.i (List.getD (List.getD (ordersBy (List.getD (splitNB (⟨#[32]⟩:ByteArray) (3:Int) l) 1 default) ((parseI (List.getD (splitNB (⟨#[32]⟩:ByteArray) (3:Int) l) 2 default).data.toList).1) (aheadF ((parseI (List.getD (splitNB (⟨#[32]⟩:ByteArray) (3:Int) l) 2 default).data.toList).1))) 0 []) i 0)),(85,.sl (.ints (List.getD (ordersBy (List.getD (splitNB (⟨#[32]⟩:ByteArray) (3:Int) l) 1 default) ((parseI (List.getD (splitNB (⟨#[32]⟩:ByteArray) (3:Int) l) 2 default).data.toList).1) (aheadF ((parseI (List.getD (splitNB (⟨#[32]⟩:ByteArray) (3:Int) l) 2 default).data.toList).1))) 0 []))),(86,.i (((List.length (List.getD (ordersBy (List.getD (splitNB (⟨#[32]⟩:ByteArray) (3:Int) l) 1 default) ((parseI (List.getD (splitNB (⟨#[32]⟩:ByteArray) (3:Int) l) 2 default).data.toList).1) (aheadF ((parseI (List.getD (splitNB (⟨#[32]⟩:ByteArray) (3:Int) l) 2 default).data.toList).1))) 0 [])):Nat):Int)),(87,.i (((i+1):Nat):Int)),(91,.v (.string o)),(92,.i (List.getD (List.getD (ordersBy (List.getD (splitNB (⟨#[32]⟩:ByteArray) (3:Int) l) 1 default) ((parseI (List.getD (splitNB (⟨#[32]⟩:ByteArray) (3:Int) l) 2 default).data.toList).1) (aheadF ((parseI (List.getD (splitNB (⟨#[32]⟩:ByteArray) (3:Int) l) 2 default).data.toList).1))) 0 []) i 0)),(93,.v (.string (numB (List.getD (List.getD (ordersBy (List.getD (splitNB (⟨#[32]⟩:ByteArray) (3:Int) l) 1 default) ((parseI (List.getD (splitNB (⟨#[32]⟩:ByteArray) (3:Int) l) 2 default).data.toList).1) (aheadF ((parseI (List.getD (splitNB (⟨#[32]⟩:ByteArray) (3:Int) l) 2 default).data.toList).1))) 0 []) i 0)))),(94,.v (.string ((⟨#[32]⟩:ByteArray)++(numB (List.getD (List.getD (ordersBy (List.getD (splitNB (⟨#[32]⟩:ByteArray) (3:Int) l) 1 default) ((parseI (List.getD (splitNB (⟨#[32]⟩:ByteArray) (3:Int) l) 2 default).data.toList).1) (aheadF ((parseI (List.getD (splitNB (⟨#[32]⟩:ByteArray) (3:Int) l) 2 default).data.toList).1))) 0 []) i 0))))),(95,.v (.string (o++((⟨#[32]⟩:ByteArray)++(numB (List.getD (List.getD (ordersBy (List.getD (splitNB (⟨#[32]⟩:ByteArray) (3:Int) l) 1 default) ((parseI (List.getD (splitNB (⟨#[32]⟩:ByteArray) (3:Int) l) 2 default).data.toList).1) (aheadF ((parseI (List.getD (splitNB (⟨#[32]⟩:ByteArray) (3:Int) l) 2 default).data.toList).1))) 0 []) i 0)))))),(96,.i (((i+1):Nat):Int))],[],[999]⟩)
          ((Y∧Y∧(Fits .i64 (((i+1):Nat):Int)))∧Y∧Y)
          ⟨⟨tt,tt,(by exact fits_i64 (by omega) (by omega))⟩,tt,tt⟩ ?_
         refine thenQ_normal ?_
         refine ⟨((i+1),(o++((⟨#[32]⟩:ByteArray)++(numB (List.getD (List.getD (ordersBy (List.getD (splitNB (⟨#[32]⟩:ByteArray) (3:Int) l) 1 default) ((parseI (List.getD (splitNB (⟨#[32]⟩:ByteArray) (3:Int) l) 2 default).data.toList).1) (aheadF ((parseI (List.getD (splitNB (⟨#[32]⟩:ByteArray) (3:Int) l) 2 default).data.toList).1))) 0 []) i 0))))),(show ((i+1)≤(List.getD (ordersBy (List.getD (splitNB (⟨#[32]⟩:ByteArray) 3 l) 1 default) (parseI (List.getD (splitNB (⟨#[32]⟩:ByteArray) 3 l) 2 default).data.toList).1 (aheadF (parseI (List.getD (splitNB (⟨#[32]⟩:ByteArray) 3 l) 2 default).data.toList).1)) 0 []).length)∧((o++((⟨#[32]⟩:ByteArray)++(numB (List.getD (List.getD (ordersBy (List.getD (splitNB (⟨#[32]⟩:ByteArray) (3:Int) l) 1 default) ((parseI (List.getD (splitNB (⟨#[32]⟩:ByteArray) (3:Int) l) 2 default).data.toList).1) (aheadF ((parseI (List.getD (splitNB (⟨#[32]⟩:ByteArray) (3:Int) l) 2 default).data.toList).1))) 0 []) i 0))))=numsUp (List.getD (ordersBy (List.getD (splitNB (⟨#[32]⟩:ByteArray) 3 l) 1 default) (parseI (List.getD (splitNB (⟨#[32]⟩:ByteArray) 3 l) 2 default).data.toList).1 (aheadF (parseI (List.getD (splitNB (⟨#[32]⟩:ByteArray) 3 l) 2 default).data.toList).1)) 0 []) (i+1)) from ⟨(by first | assumption | omega | rfl | (intro _ hjj; omega) | (simp; done) | (simp; omega)),(by rw [ho]; rfl)⟩),(show (List.getD (ordersBy (List.getD (splitNB (⟨#[32]⟩:ByteArray) 3 l) 1 default) (parseI (List.getD (splitNB (⟨#[32]⟩:ByteArray) 3 l) 2 default).data.toList).1 (aheadF (parseI (List.getD (splitNB (⟨#[32]⟩:ByteArray) 3 l) 2 default).data.toList).1)) 0 []).length - (i+1)<(List.getD (ordersBy (List.getD (splitNB (⟨#[32]⟩:ByteArray) 3 l) 1 default) (parseI (List.getD (splitNB (⟨#[32]⟩:ByteArray) 3 l) 2 default).data.toList).1 (aheadF (parseI (List.getD (splitNB (⟨#[32]⟩:ByteArray) 3 l) 2 default).data.toList).1)) 0 []).length - i from (by first | omega | (simp_all; omega))),?_⟩
         exact Sub.of [] (@cast (((((.string (o++((⟨#[32]⟩:ByteArray)++(numB (List.getD (List.getD (ordersBy (List.getD (splitNB (⟨#[32]⟩:ByteArray) (3:Int) l) 1 default) ((parseI (List.getD (splitNB (⟨#[32]⟩:ByteArray) (3:Int) l) 2 default).data.toList).1) (aheadF ((parseI (List.getD (splitNB (⟨#[32]⟩:ByteArray) (3:Int) l) 2 default).data.toList).1))) 0 []) i 0))))):Value)=(.string (o++((⟨#[32]⟩:ByteArray)++(numB (List.getD (List.getD (ordersBy (List.getD (splitNB (⟨#[32]⟩:ByteArray) (3:Int) l) 1 default) ((parseI (List.getD (splitNB (⟨#[32]⟩:ByteArray) (3:Int) l) 2 default).data.toList).1) (aheadF ((parseI (List.getD (splitNB (⟨#[32]⟩:ByteArray) (3:Int) l) 2 default).data.toList).1))) 0 []) i 0))))))∧(Sd (.ints (List.getD (ordersBy (List.getD (splitNB (⟨#[32]⟩:ByteArray) (3:Int) l) 1 default) ((parseI (List.getD (splitNB (⟨#[32]⟩:ByteArray) (3:Int) l) 2 default).data.toList).1) (aheadF ((parseI (List.getD (splitNB (⟨#[32]⟩:ByteArray) (3:Int) l) 2 default).data.toList).1))) 0 [])))∧(Si (((List.length (List.getD (ordersBy (List.getD (splitNB (⟨#[32]⟩:ByteArray) (3:Int) l) 1 default) ((parseI (List.getD (splitNB (⟨#[32]⟩:ByteArray) (3:Int) l) 2 default).data.toList).1) (aheadF ((parseI (List.getD (splitNB (⟨#[32]⟩:ByteArray) (3:Int) l) 2 default).data.toList).1))) 0 [])):Nat):Int))∧(Si (((i+1):Nat):Int))∧Y)∧Y∧(true=true)∧(true=true)) _ (by kernel_rfl) ⟨⟨rfl,rfl,rfl,rfl,tt⟩,tt,rfl,rfl⟩)
        ·intro n88
         refine W.exit (thenQ_exit (thenQ_exit (blockQ_hit ?_)))
         refine thenQ_normal ?_
         refine Kk cok tab13 hnt [] [2] (⟨[(2,.v (.string o))],[],[999]⟩)
          (Y∧Y∧Y)
          ⟨tt,tt,tt⟩ ?_
         refine W.ret ?_
         exact endQ_ret (.v (.string o)) (by kernel_rfl) (@cast (((.string o):Value)=(.string (deskV l))) _ (by kernel_rfl) (congrArg Value.string (by rw [hE,ho,show i=(List.getD (ordersBy (List.getD (splitNB (⟨#[32]⟩:ByteArray) 3 l) 1 default) (parseI (List.getD (splitNB (⟨#[32]⟩:ByteArray) 3 l) 2 default).data.toList).1 (aheadF (parseI (List.getD (splitNB (⟨#[32]⟩:ByteArray) 3 l) 2 default).data.toList).1)) 0 []).length by omega])))
theorem ent13 : Entr prog 13 := ⟨_,func13,rfl,by decide⟩
end Go.Proofs.Tryz

set_option linter.unusedSimpArgs false
set_option linter.unusedVariables false
namespace Go.Proofs.Tryz
open Go.Ab Go.RowKit
def fs8 : FnS := fnS [.s .strs] [.strs] (fun _ (xs,_)=>(.v (.string (runV xs)),[],(∀ i,(xs.getD i default).size≤1100000)))
abbrev T8 : Tab := lk [(13,fs13)]
theorem tab8 : TabOK prog T8 := (TabOK.cons ok13 ent13 TabOK.nil)
theorem ok8 : FnOK prog 8 fs8 := by
 refine FnOK.mk cok func8 rfl rfl rfl ?_
 rintro fl ⟨(xs : List ByteArray),_⟩ hpre F hnt0 _
 have hnt : F.nt=22 := hnt0.trans ntmps8
 replace hpre : (∀ i,(xs.getD i default).size≤1100000) := hpre
 have hz := hpre
 refine W.to (⟨[(0,.sl (.strs xs))],[],[999]⟩) rfl ?_
 refine W.lenOf 0 (.strs xs) (by kernel_rfl) ?_
 intro hl_xs; replace hl_xs : List.length xs≤9223372036854775807 := hl_xs
 refine Kk cok tab8 hnt [] [0] (⟨[(0,.sl (.strs xs))],[],[999]⟩)
  (Y∧Y)
  ⟨tt,tt⟩ ?_
 refine W.seq ?_
 refine Kk cok tab8 hnt [] [0,8] (⟨[(0,.sl (.strs xs)),(8,.b (decide ((20:Int)<(xs.length:Int))))],[],[999]⟩)
  (Y∧Y∧(Y∧Y∧Y)∧Y)
  ⟨tt,tt,⟨tt,tt,tt⟩,tt⟩ ?_
 refine W.ifP ((20:Int)<(xs.length:Int)) (.b (decide ((20:Int)<(xs.length:Int)))) (by kernel_rfl) rfl trivial ?_ ?_
 ·intro h8
  refine Kk cok tab8 hnt [] [2] (⟨[(2,.v (.string nEmpty))],[],[999]⟩)
   (Y∧Y)
   ⟨tt,tt⟩ ?_
  refine W.ret (thenQ_ret ?_)
  exact endQ_ret (.v (.string nEmpty)) (by kernel_rfl) (@cast (((.string nEmpty):Value)=(.string (runV xs))) _ (by kernel_rfl) (congrArg Value.string (by exact run_none h8)))
 ·intro n8
  refine W.skip (thenQ_normal ?_)
  refine Kk cok tab8 hnt [] [0,3] (⟨[(0,.sl (.strs xs)),(3,.v (.string nEmpty))],[],[999]⟩)
   (Y∧Y)
   ⟨tt,tt⟩ ?_
  refine W.seq ?_
  refine Kk cok tab8 hnt [] [3,9,10,11] (⟨[(3,.v (.string nEmpty)),(9,.sl (.strs xs)),(10,.i (xs.length:Int)),(11,.i (0:Int))],[],[999]⟩)
   (Y∧Y∧Y∧Y)
   ⟨tt,tt,tt,tt⟩ ?_
  refine W.block ?_
  refine W.loop (ι := Nat × ByteArray) (fun (x : Nat × ByteArray)=>match x with | (i,o)=>(⟨[(3,.v (.string o)),(9,.sl (.strs xs)),(10,.i (xs.length:Int)),(11,.i ((i:Nat):Int))],[],[999]⟩:St))
   (fun (x : Nat × ByteArray)=>match x with | (i,o)=>(i≤xs.length)∧(o=runUp xs i))
   (fun (x : Nat × ByteArray)=>match x with | (i,o)=>(xs.length - i:Nat)) (0,nEmpty) ?_ ?_ ?_
  ·exact (show (0≤xs.length)∧(nEmpty=runUp xs 0) from ⟨(by first | assumption | omega | rfl | (intro _ hjj; omega) | (simp; done) | (simp; omega)),(by rfl)⟩)
  ·exact Sub.of [] (@cast (((((.string nEmpty):Value)=(.string nEmpty))∧(Sd (.strs xs))∧(Si (xs.length:Int))∧((.int .i64 (0:Int):Value)=.int .i64 ((0:Nat):Int))∧Y)∧Y∧(true=true)∧(true=true)) _ (by kernel_rfl) ⟨⟨rfl,rfl,rfl,(congrArg (Value.int .i64) (by first | rfl | omega | assumption | simp | simp_all)),tt⟩,tt,rfl,rfl⟩)
  ·rintro ⟨i,o⟩ hC0
   have hC : (i≤xs.length)∧(o=runUp xs i) := hC0
   clear hC0
   obtain ⟨hi,ho⟩ := hC
   refine W.to (⟨[(3,.v (.string o)),(9,.sl (.strs xs)),(10,.i (xs.length:Int)),(11,.i ((i:Nat):Int))],[],[999]⟩) rfl ?_
   have hos : o.size≤31 * i := by rw [ho]; exact run_size xs i
   have hds := desk_size (xs.getD i default)
   refine Kk cok tab8 hnt [] [3,9,10,11,12] (⟨[(3,.v (.string o)),(9,.sl (.strs xs)),(10,.i (xs.length:Int)),(11,.i ((i:Nat):Int)),(12,.b (decide (((i:Nat):Int)<(xs.length:Int))))],[],[999]⟩)
    ((Y∧Y∧Y)∧Y)
    ⟨⟨tt,tt,tt⟩,tt⟩ ?_
   refine W.seq ?_
   refine W.ifP (((i:Nat):Int)<(xs.length:Int)) (.b (decide (((i:Nat):Int)<(xs.length:Int)))) (by kernel_rfl) rfl trivial ?_ ?_
   ·intro h12
    refine W.skip (thenQ_normal ?_)
    refine W.seq ?_
    refine W.block ?_
    refine Kk cok tab8 hnt [] [3,5,9,10,11] (⟨[(3,.v (.string o)),(5,.v (.string (xs.getD i default))),(9,.sl (.strs xs)),(10,.i (xs.length:Int)),(11,.i ((i:Nat):Int))],[],[999]⟩)
     ((Y∧Y∧(0≤((i:Nat):Int))∧(((i:Nat):Int)<(xs.length:Int)))∧Y∧Y∧Y)
     ⟨⟨tt,tt,(by omega),(by omega)⟩,tt,tt,tt⟩ ?_
    refine Lk cok tab8 hnt [] (⟨[(3,.v (.string (o++((deskV (xs.getD i default))++(⟨#[10]⟩:ByteArray))))),(5,.v (.string (xs.getD i default))),(9,.sl (.strs xs)),(10,.i (xs.length:Int)),(11,.i ((i:Nat):Int)),(15,.v (.string o)),(16,.v (.string (xs.getD i default))),(17,.v (.string (deskV (xs.getD i default)))),(18,.v (.string ((deskV (xs.getD i default))++(⟨#[10]⟩:ByteArray)))),(19,.v (.string (o++((deskV (xs.getD i default))++(⟨#[10]⟩:ByteArray)))))],[],[999]⟩)
     (Y∧Y∧(Y∧(Y∧Y)∧((xs.getD i default).size≤1100000))∧(Y∧Y∧((deskV (xs.getD i default)).size+(⟨#[10]⟩:ByteArray).size≤9223372036854775807))∧(Y∧Y∧(o.size+((deskV (xs.getD i default))++(⟨#[10]⟩:ByteArray)).size≤9223372036854775807))∧Y∧Y)
     ⟨tt,tt,⟨tt,⟨tt,tt⟩,(by exact hz _)⟩,⟨tt,tt,(by (try simp only [ByteArray.size_append,ByteArray.size_extract,sz1,sz2,sz3]); omega)⟩,⟨tt,tt,(by (try simp only [ByteArray.size_append,ByteArray.size_extract,sz1,sz2,sz3]); omega)⟩,tt,tt⟩ ?_
    refine blockQ_normal (thenQ_normal ?_)
    refine Lk cok tab8 hnt [] (⟨[(3,.v (.string (o++((deskV (xs.getD i default))++(⟨#[10]⟩:ByteArray))))),(5,.v (.string (xs.getD i default))),(9,.sl (.strs xs)),(10,.i (xs.length:Int)),(11,.i (((i+1):Nat):Int)),(15,.v (.string o)),(16,.v (.string (xs.getD i default))),(17,.v (.string (deskV (xs.getD i default)))),(18,.v (.string ((deskV (xs.getD i default))++(⟨#[10]⟩:ByteArray)))),(19,.v (.string (o++((deskV (xs.getD i default))++(⟨#[10]⟩:ByteArray))))),(20,.i (((i+1):Nat):Int))],[],[999]⟩)
     ((Y∧Y∧(Fits .i64 (((i+1):Nat):Int)))∧Y∧Y)
     ⟨⟨tt,tt,(by exact fits_i64 (by omega) (by omega))⟩,tt,tt⟩ ?_
    refine thenQ_normal ?_
    refine ⟨((i+1),(o++((deskV (xs.getD i default))++(⟨#[10]⟩:ByteArray)))),(show ((i+1)≤xs.length)∧((o++((deskV (xs.getD i default))++(⟨#[10]⟩:ByteArray)))=runUp xs (i+1)) from ⟨(by first | assumption | omega | rfl | (intro _ hjj; omega) | (simp; done) | (simp; omega)),(by rw [ho]; rfl)⟩),(show xs.length - (i+1)<xs.length - i from (by first | omega | (simp_all; omega))),?_⟩
    exact Sub.of [] (@cast (((((.string (o++((deskV (xs.getD i default))++(⟨#[10]⟩:ByteArray)))):Value)=(.string (o++((deskV (xs.getD i default))++(⟨#[10]⟩:ByteArray)))))∧(Sd (.strs xs))∧(Si (xs.length:Int))∧(Si (((i+1):Nat):Int))∧Y)∧Y∧(true=true)∧(true=true)) _ (by kernel_rfl) ⟨⟨rfl,rfl,rfl,rfl,tt⟩,tt,rfl,rfl⟩)
   ·intro n12
    refine W.exit (thenQ_exit (thenQ_exit (blockQ_hit ?_)))
    refine thenQ_normal ?_
    refine Kk cok tab8 hnt [] [2] (⟨[(2,.v (.string o))],[],[999]⟩)
     (Y∧Y∧Y)
     ⟨tt,tt,tt⟩ ?_
    refine W.ret ?_
    exact endQ_ret (.v (.string o)) (by kernel_rfl) (@cast (((.string o):Value)=(.string (runV xs))) _ (by kernel_rfl) (congrArg Value.string (by exact run_all n8 ho hi n12)))
theorem ent8 : Entr prog 8 := ⟨_,func8,rfl,by decide⟩
end Go.Proofs.Tryz

set_option linter.unusedSimpArgs false
set_option linter.unusedVariables false
namespace Go.Proofs.Tryz
open Go.Ab Go.RowKit
def fs9 : FnS := fnS [.s .strs,.s .strs] [.strs,.strs] (fun _ (a,b,_)=>(.b (decide (a=b)),[],Y))
abbrev T9 : Tab := lk []
theorem tab9 : TabOK prog T9 := TabOK.nil
theorem ok9 : FnOK prog 9 fs9 := by
 refine FnOK.mk cok func9 rfl rfl rfl ?_
 rintro fl ⟨(a : List ByteArray),(b : List ByteArray),_⟩ hpre F hnt0 _
 have hnt : F.nt=26 := hnt0.trans ntmps9
 clear hpre
 refine W.to (⟨[(0,.sl (.strs a)),(1,.sl (.strs b))],[],[999]⟩) rfl ?_
 refine W.lenOf 0 (.strs a) (by kernel_rfl) ?_
 intro hl_a; replace hl_a : List.length a≤9223372036854775807 := hl_a
 refine W.lenOf 1 (.strs b) (by kernel_rfl) ?_
 intro hl_b; replace hl_b : List.length b≤9223372036854775807 := hl_b
 refine Kk cok tab9 hnt [] [0,1] (⟨[(0,.sl (.strs a)),(1,.sl (.strs b))],[],[999]⟩)
  (Y∧Y)
  ⟨tt,tt⟩ ?_
 refine W.seq ?_
 refine Kk cok tab9 hnt [] [0,1,10] (⟨[(0,.sl (.strs a)),(1,.sl (.strs b)),(10,.b (decide ((a.length:Int)≠(b.length:Int))))],[],[999]⟩)
  (Y∧Y∧Y∧Y∧(Y∧Y∧Y)∧Y)
  ⟨tt,tt,tt,tt,⟨tt,tt,tt⟩,tt⟩ ?_
 refine W.ifP ((a.length:Int)≠(b.length:Int)) (.b (decide ((a.length:Int)≠(b.length:Int)))) (by kernel_rfl) rfl trivial ?_ ?_
 ·intro h10
  refine Kk cok tab9 hnt [] [4] (⟨[(4,.b false)],[],[999]⟩)
   (Y∧Y)
   ⟨tt,tt⟩ ?_
  refine W.ret (thenQ_ret ?_)
  exact endQ_ret (.b false) (by kernel_rfl) (@cast ((.bool false:Value)=.bool (decide (a=b))) _ (by kernel_rfl) (congrArg Value.bool (by symm; exact decide_eq_false (fun e=>h10 (by rw [e])))))
 ·intro n10
  refine W.skip (thenQ_normal ?_)
  refine W.seq ?_
  refine Kk cok tab9 hnt [] [0,1,5] (⟨[(0,.sl (.strs a)),(1,.sl (.strs b)),(5,.i (0:Int))],[],[999]⟩)
   (Y∧Y)
   ⟨tt,tt⟩ ?_
  refine W.block ?_
  refine W.loop (ι := Nat) (fun (i:Nat)=>(⟨[(0,.sl (.strs a)),(1,.sl (.strs b)),(5,.i ((i:Nat):Int))],[],[999]⟩:St))
   (fun (i:Nat)=>(i≤a.length)∧(∀ j,j<i→a.getD j default=b.getD j default))
   (fun (i:Nat)=>(a.length - i:Nat)) (0) ?_ ?_ ?_
  ·exact (show (0≤a.length)∧(∀ j,j<0→a.getD j default=b.getD j default) from ⟨(by first | assumption | omega | rfl | (intro _ hjj; omega) | (simp; done) | (simp; omega)),(by exact upto_zero)⟩)
  ·exact Sub.of [] (@cast (((Sd (.strs a))∧(Sd (.strs b))∧((.int .i64 (0:Int):Value)=.int .i64 ((0:Nat):Int))∧Y)∧Y∧(true=true)∧(true=true)) _ (by kernel_rfl) ⟨⟨rfl,rfl,(congrArg (Value.int .i64) (by first | rfl | omega | assumption | simp | simp_all)),tt⟩,tt,rfl,rfl⟩)
  ·rintro i hC0
   have hC : (i≤a.length)∧(∀ j,j<i→a.getD j default=b.getD j default) := hC0
   clear hC0
   obtain ⟨hi,hA⟩ := hC
   refine W.to (⟨[(0,.sl (.strs a)),(1,.sl (.strs b)),(5,.i ((i:Nat):Int))],[],[999]⟩) rfl ?_
   refine W.seq ?_
   refine Kk cok tab9 hnt [] [0,1,5,14] (⟨[(0,.sl (.strs a)),(1,.sl (.strs b)),(5,.i ((i:Nat):Int)),(14,.b (decide (((i:Nat):Int)<(a.length:Int))))],[],[999]⟩)
    (Y∧Y∧Y∧(Y∧Y∧Y)∧Y)
    ⟨tt,tt,tt,⟨tt,tt,tt⟩,tt⟩ ?_
   refine W.ifP (((i:Nat):Int)<(a.length:Int)) (.b (decide (((i:Nat):Int)<(a.length:Int)))) (by kernel_rfl) rfl trivial ?_ ?_
   ·intro h14
    refine W.skip (thenQ_normal ?_)
    refine W.seq ?_
    refine W.block ?_
    refine W.KA cok tab9 hnt [] [0,1,5,25] (⟨[(0,.sl (.strs a)),(1,.sl (.strs b)),(5,.i ((i:Nat):Int)),(25,.b (!(eqS (a.getD i default) (b.getD i default))))],[],[999]⟩)
     (Y∧Y∧(Y∧Y∧(0≤((i:Nat):Int))∧(((i:Nat):Int)<(a.length:Int)))∧Y∧Y∧Y∧(Y∧Y∧(0≤((i:Nat):Int))∧(((i:Nat):Int)<(b.length:Int)))∧Y∧(Y∧Y∧Y)∧Y) (by kernel_rfl) (by kernel_rfl)
     ⟨tt,tt,⟨tt,tt,(by omega),(by omega)⟩,tt,tt,tt,⟨tt,tt,(by omega),(by omega)⟩,tt,⟨tt,tt,tt⟩,tt⟩ ?_
    refine W.if' (!(eqS (a.getD i default) (b.getD i default))) (.b (!(eqS (a.getD i default) (b.getD i default)))) (by kernel_rfl) rfl trivial ?_ ?_
    ·intro h25
     refine Kk cok tab9 hnt [] [4] (⟨[(4,.b false)],[],[999]⟩)
      (Y∧Y)
      ⟨tt,tt⟩ ?_
     refine W.ret (blockQ_ret (thenQ_ret (thenQ_ret (blockQ_ret (thenQ_ret ?_)))))
     exact endQ_ret (.b false) (by kernel_rfl) (@cast ((.bool false:Value)=.bool (decide (a=b))) _ (by kernel_rfl) (congrArg Value.bool (by symm; exact decide_eq_false (fun e=>by rw [e,eqB_self] at h25; cases h25))))
    ·intro n25
     refine W.skip (blockQ_normal (thenQ_normal ?_))
     refine Lk cok tab9 hnt [] (⟨[(0,.sl (.strs a)),(1,.sl (.strs b)),(5,.i (((i+1):Nat):Int)),(15,.i ((i:Nat):Int)),(16,.i (((i+1):Nat):Int)),(25,.b (!(eqS (a.getD i default) (b.getD i default))))],[],[999]⟩)
      (Y∧(Y∧Y∧(Fits .i64 (((i+1):Nat):Int)))∧Y∧Y)
      ⟨tt,⟨tt,tt,(by exact fits_i64 (by omega) (by omega))⟩,tt,tt⟩ ?_
     refine thenQ_normal ?_
     refine ⟨((i+1)),(show ((i+1)≤a.length)∧(∀ j,j<(i+1)→a.getD j default=b.getD j default) from ⟨(by first | assumption | omega | rfl | (intro _ hjj; omega) | (simp; done) | (simp; omega)),(by exact upto_succ hA (eqB_iff.1 (not_g n25)))⟩),(show a.length - (i+1)<a.length - i from (by first | omega | (simp_all; omega))),?_⟩
     exact Sub.of [] (@cast (((Sd (.strs a))∧(Sd (.strs b))∧(Si (((i+1):Nat):Int))∧Y)∧Y∧(true=true)∧(true=true)) _ (by kernel_rfl) ⟨⟨rfl,rfl,rfl,tt⟩,tt,rfl,rfl⟩)
   ·intro n14
    refine W.exit (thenQ_exit (thenQ_exit (blockQ_hit ?_)))
    refine thenQ_normal ?_
    refine Kk cok tab9 hnt [] [4] (⟨[(4,.b true)],[],[999]⟩)
     (Y∧Y)
     ⟨tt,tt⟩ ?_
    refine W.ret ?_
    exact endQ_ret (.b true) (by kernel_rfl) (@cast ((.bool true:Value)=.bool (decide (a=b))) _ (by kernel_rfl) (congrArg Value.bool (by symm; exact decide_eq_true (strs_ext (by omega) (fun j hj=>hA j (by omega))))))
theorem ent9 : Entr prog 9 := ⟨_,func9,rfl,by decide⟩
end Go.Proofs.Tryz

set_option linter.unusedSimpArgs false
set_option linter.unusedVariables false
namespace Go.Proofs.Tryz
open Go.Ab Go.RowKit
def fs3 : FnS := fnS [.s .strs] [.strs] (fun _ (xs,_)=>(.b true,[],(∀ i,(xs.getD i default).size≤9223372036854775807)))
abbrev T3 : Tab := lk [(5,fs5),(6,fs6),(7,fs7),(8,fs8),(9,fs9)]
theorem tab3 : TabOK prog T3 := (TabOK.cons ok5 ent5 (TabOK.cons ok6 ent6 (TabOK.cons ok7 ent7 (TabOK.cons ok8 ent8 (TabOK.cons ok9 ent9 TabOK.nil)))))
theorem ok3 : FnOK prog 3 fs3 := by
 refine FnOK.mk cok func3 rfl rfl rfl ?_
 rintro fl ⟨(xs : List ByteArray),_⟩ hpre F hnt0 _
 have hnt : F.nt=27 := hnt0.trans ntmps3
 replace hpre : (∀ i,(xs.getD i default).size≤9223372036854775807) := hpre
 have hm := hpre
 refine W.to (⟨[(0,.sl (.strs xs))],[],[999]⟩) rfl ?_
 refine W.lenOf 0 (.strs xs) (by kernel_rfl) ?_
 intro hl_xs; replace hl_xs : List.length xs≤9223372036854775807 := hl_xs
 refine Kk cok tab3 hnt [] [0] (⟨[(0,.sl (.strs xs))],[],[999]⟩)
  (Y∧Y)
  ⟨tt,tt⟩ ?_
 refine Kk cok tab3 hnt [] [0,3] (⟨[(0,.sl (.strs xs)),(3,.i (1048576:Int))],[],[999]⟩)
  (Y∧Y)
  ⟨tt,tt⟩ ?_
 refine Kk cok tab3 hnt [] [0,3] (⟨[(0,.sl (.strs xs)),(3,.i (szSV xs (1048576:Int)))],[],[999]⟩)
  (Y∧Y∧(Y∧(Y∧Y∧Y)∧(0≤(1048576:Int)∧(1048576:Int)≤1048576)∧(∀ i,(xs.getD i default).size≤9223372036854775807))∧Y∧Y)
  ⟨tt,tt,⟨tt,⟨tt,tt,tt⟩,(by omega),(by exact hm)⟩,tt,tt⟩ ?_
 refine W.seq ?_
 refine Kk cok tab3 hnt [] [0,11] (⟨[(0,.sl (.strs xs)),(11,.b (decide ((szSV xs (1048576:Int))<(0:Int))))],[],[999]⟩)
  (Y∧(Y∧Y∧Y)∧Y)
  ⟨tt,⟨tt,tt,tt⟩,tt⟩ ?_
 refine W.ifP ((szSV xs (1048576:Int))<(0:Int)) (.b (decide ((szSV xs (1048576:Int))<(0:Int)))) (by kernel_rfl) rfl trivial ?_ ?_
 ·intro h11
  refine Kk cok tab3 hnt [] [2] (⟨[(2,.b true)],[],[999]⟩)
   (Y∧Y)
   ⟨tt,tt⟩ ?_
  refine W.ret (thenQ_ret ?_)
  exact endQ_ret (.b true) (by kernel_rfl) (@cast (Sv (.bool true)) _ (by kernel_rfl) rfl)
 ·intro n11
  have hsz := szS_ok n11
  have hn := hsz.1
  refine W.skip (thenQ_normal ?_)
  refine Kk cok tab3 hnt [] [0,4] (⟨[(0,.sl (.strs xs)),(4,.v (.string (runV xs)))],[],[13,999]⟩)
   (Y∧((Y∧(Y∧Y)∧(xs.length≤1048576))∧(xs.length=xs.length))∧(Y∧(Y∧Y)∧(∀ i,(xs.getD i default).size≤1100000))∧Y∧Y)
   ⟨tt,⟨⟨tt,⟨tt,tt⟩,(by omega)⟩,rfl⟩,⟨tt,⟨tt,tt⟩,(by exact hsz.2)⟩,tt,tt⟩ ?_
  refine Kk cok tab3 hnt [] [0,4,5] (⟨[(0,.sl (.strs xs)),(4,.v (.string (runV xs))),(5,.sl (.strs xs))],[],[16,13,999]⟩)
   (Y∧((Y∧(Y∧Y)∧(xs.length≤1048576))∧(xs.length=xs.length))∧Y∧Y)
   ⟨tt,⟨⟨tt,⟨tt,tt⟩,(by omega)⟩,rfl⟩,tt,tt⟩ ?_
  refine Kk cok tab3 hnt [] [0,4,5,6] (⟨[(0,.sl (.strs xs)),(4,.v (.string (runV xs))),(5,.sl (.strs xs)),(6,.v (.string (runV xs)))],[],[16,13,999]⟩)
   (Y∧(Y∧(Y∧Y)∧(∀ i,(xs.getD i default).size≤1100000))∧Y∧Y)
   ⟨tt,⟨tt,⟨tt,tt⟩,(by exact hsz.2)⟩,tt,tt⟩ ?_
  refine W.seq ?_
  refine Kk cok tab3 hnt [] [0,5,21] (⟨[(0,.sl (.strs xs)),(5,.sl (.strs xs)),(21,.b (!(eqS (runV xs) (runV xs))))],[],[16,13,999]⟩)
   (Y∧Y∧(Y∧Y∧Y)∧Y)
   ⟨tt,tt,⟨tt,tt,tt⟩,tt⟩ ?_
  refine W.if' (!(eqS (runV xs) (runV xs))) (.b (!(eqS (runV xs) (runV xs)))) (by kernel_rfl) rfl trivial ?_ ?_
  ·intro h21
   refine Kk cok tab3 hnt [] [2] (⟨[(2,.b false)],[],[16,13,999]⟩)
    (Y∧Y)
    ⟨tt,tt⟩ ?_
   refine W.ret (thenQ_ret ?_)
   exact endQ_ret (.b false) (by kernel_rfl) (@cast ((.bool false:Value)=.bool true) _ (by kernel_rfl) (congrArg Value.bool (by exfalso; rw [eqB_self] at h21; cases h21)))
  ·intro n21
   refine W.skip (thenQ_normal ?_)
   refine W.seq ?_
   refine Kk cok tab3 hnt [] [26] (⟨[(26,.b (!(decide (xs=xs))))],[],[24,16,13,999]⟩)
    (Y∧Y∧((Y∧(Y∧Y)∧(xs.length≤1048576))∧(xs.length=xs.length))∧(Y∧(Y∧Y∧Y)∧Y)∧Y∧Y)
    ⟨tt,tt,⟨⟨tt,⟨tt,tt⟩,(by omega)⟩,rfl⟩,⟨tt,⟨tt,tt,tt⟩,tt⟩,tt,tt⟩ ?_
   refine W.if' (!(decide (xs=xs))) (.b (!(decide (xs=xs)))) (by kernel_rfl) rfl trivial ?_ ?_
   ·intro h26
    refine Kk cok tab3 hnt [] [2] (⟨[(2,.b false)],[],[24,16,13,999]⟩)
     (Y∧Y)
     ⟨tt,tt⟩ ?_
    refine W.ret (thenQ_ret ?_)
    exact endQ_ret (.b false) (by kernel_rfl) (@cast ((.bool false:Value)=.bool true) _ (by kernel_rfl) (congrArg Value.bool (by exfalso; simp at h26)))
   ·intro n26
    refine W.skip (thenQ_normal ?_)
    refine Kk cok tab3 hnt [] [2] (⟨[(2,.b true)],[],[24,16,13,999]⟩)
     (Y∧Y)
     ⟨tt,tt⟩ ?_
    refine W.ret ?_
    exact endQ_ret (.b true) (by kernel_rfl) (@cast (Sv (.bool true)) _ (by kernel_rfl) rfl)
end Go.Proofs.Tryz
