import Derived.Test.YtbmbdlgifplglaaGreatDoorZF4S0
import Derived.Test.YtbmbdlgifplglaaGreatDoorZF4S2
import Derived.Test.YtbmbdlgifplglaaGreatDoorZF4S5
import Derived.Test.YtbmbdlgifplglaaGreatDoorZF4S8
import Derived.Test.YtbmbdlgifplglaaGreatDoorZF4S10
set_option maxRecDepth 100000
set_option maxHeartbeats 1000000
set_option linter.unusedSimpArgs false
set_option linter.unusedVariables false
namespace Go.Proofs.Tryz
open Go.Ab Go.RowKit
def fs4 : FnS := fnS [.s .bytes] [.bytes] (fun _ (code,_)=>(.b true,[],Y))
abbrev T4 : Tab := lk [(6,fs6),(8,fs8),(11,fs11)]
theorem tab4 : TabOK prog T4 := (TabOK.cons ok6 ent6 (TabOK.cons ok8 ent8 (TabOK.cons ok11 ent11 TabOK.nil)))
abbrev v40 (code:List UInt8):AV:=.b (decide ((1048576:Int)<(code.length:Int)))
theorem ok4 : FnOK prog 4 fs4 := by
 refine FnOK.mk cok func4 rfl rfl rfl ?_
 rintro fl ⟨(code : List UInt8),_⟩ hpre F hnt0 _
 have hnt : F.nt=54 := hnt0.trans ntmps4
 clear hpre
 refine W.to (⟨[(0,.sl (.bytes code))],[],[999]⟩) rfl ?_
 refine W.lenOf 0 (.bytes code) (by kernel_rfl) ?_
 intro hl_code; replace hl_code : List.length code≤9223372036854775807 := hl_code
 refine kE tab4 hnt [(0,.sl (.bytes code))] 2 [] tt ?_
 refine W.seq ?_
 refine kE tab4 hnt [(0,.sl (.bytes code)),(9,(v40 code))] 5042 [] tt ?_
 refine ifp ((1048576:Int)<(code.length:Int)) ?_ ?_
 ·intro h9
  refine kE tab4 hnt [(2,.b true)] 2 [] tt ?_
  refine W.ret (thenQ_ret ?_)
  exact eB (show true=true from rfl)
 ·intro n9
  refine W.skip (thenQ_normal ?_)
  refine W.seq (W.wi ?_)
  refine WI.runT cok tab4 hnt [] 1 1 (⟨[(0,.sl (.bytes code)),(9,(v40 code)),(10,.sl (.bytes code))],[],[999]⟩)
   (Y∧Y) (by kernel_rfl) rfl
   ⟨tt,tt⟩ ?_
  refine WI.call [.sl (.bytes code)] [] [.sl (.bytes code)] [.sl (.bytes code)] none (Y) (Y∧Y) none rok10 ent10 hnt rfl rfl (wanted_none rfl) (by kernel_rfl) (by kernel_rfl) (by kernel_rfl) ⟨tt,tt,tt⟩
   (@cast (Y) _ (by kernel_rfl) trivial) (Or.inl rfl) rfl ?_
  rintro r bl fx2 hR
  obtain ⟨xs11,hq11,rfl,rfl,rfl⟩ := (@cast _ (∃ x : (List ByteArray),((x.length≤4∧∀ i,(x.getD i default).size≤1100))∧r=(.sl (.strs x))∧bl=([])∧fx2=([])) (by kernel_rfl) hR)
  clear hR
  replace hq11 : (xs11.length≤4∧∀ i,(xs11.getD i default).size≤1100) := hq11
  have hg11 := hq11
  refine ⟨by kernel_rfl,WI.to (⟨[(0,.sl (.bytes code)),(9,(v40 code)),(10,.sl (.bytes code)),(11,.sl (.strs xs11))],[],[999]⟩) 2 (by kernel_rfl) rfl ?_⟩
  refine WI.runT cok tab4 hnt [] 1 3 (⟨[(0,.sl (.bytes code)),(3,.sl (.strs xs11)),(9,(v40 code)),(10,.sl (.bytes code)),(11,.sl (.strs xs11))],[],[999]⟩)
   (Y∧Y) (by kernel_rfl) rfl
   ⟨tt,tt⟩ ?_
  refine WI.nil rfl (thenQ_normal ?_)
  refine W.keepE [3] [(3,.sl (.strs xs11))] (by kernel_rfl) ?_
  refine W.to (⟨[(3,.sl (.strs xs11))],[],[999]⟩) rfl ?_
  refine kE tab4 hnt [(3,.sl (.strs xs11)),(4,.v (.string (runV xs11)))] 139799 [∀ i,(xs11.getD i default).size≤1100000] (by exact fun i=>by have := hg11.2 i; omega) ?_
  refine W.seq ?_
  refine kE tab4 hnt [(3,.sl (.strs xs11)),(4,.v (.string (runV xs11))),(21,.b ((!(eqS (runV xs11) (runV xs11))) || (eqS (runV xs11) nEmpty)))] 109192948287347 ((fun (Z1:Bool)=>([∀ i,(xs11.getD i default).size≤1100000,(!Z1)=true→Y,(!Z1)=true→((((!Z1)=true)∧Y)∧(Y∧Y)),Z1=true→Y,Z1=false→((!Z1)=true)∧Y]:PL)) (!(eqS (runV xs11) (runV xs11)))) ⟨(by exact fun i=>by have := hg11.2 i; omega),(fun _=>trivial),(fun hG=>⟨⟨hG,tt⟩,tt,tt⟩),(fun _=>trivial),(fun hp=>⟨(not_t hp),tt⟩)⟩ ?_
  refine ifb ((!(eqS (runV xs11) (runV xs11))) || (eqS (runV xs11) nEmpty)) ?_ ?_
  ·intro h21
   refine kE tab4 hnt [(2,.b (eqS (runV xs11) (runV xs11)))] 807985631 [∀ i,(xs11.getD i default).size≤1100000] (by exact fun i=>by have := hg11.2 i; omega) ?_
   refine W.ret (thenQ_ret ?_)
   exact eB (show (eqS (runV xs11) (runV xs11))=true from (by simp [eqB_self]))
  ·intro n21
   refine W.skip (thenQ_normal ?_)
   refine W.seq ?_
   refine kE tab4 hnt [(3,.sl (.strs xs11)),(4,.v (.string (runV xs11))),(5,.i (0:Int))] 2 [] tt ?_
   refine W.block ?_
   refine W.loop (ι := Nat) (fun (k:Nat)=>(⟨[(3,.sl (.strs xs11)),(4,.v (.string (runV xs11))),(5,.i ((k:Nat):Int))],[],[999]⟩:St))
    (fun (k:Nat)=>(k≤xs11.length+1))
    (fun (k:Nat)=>(xs11.length+1 - k:Nat)) (0) ?_ ?_ ?_
   ·exact (show (0≤xs11.length+1) from oi)
   ·exact Sk
   ·rintro k hC0
    have hC : (k≤xs11.length+1) := hC0
    clear hC0
    obtain hk := hC
    refine W.seq ?_
    refine kE tab4 hnt [(3,.sl (.strs xs11)),(4,.v (.string (runV xs11))),(5,.i ((k:Nat):Int)),(29,.b (decide (((k:Nat):Int)≤(xs11.length:Int))))] 45380 [] tt ?_
    refine ifp (((k:Nat):Int)≤(xs11.length:Int)) ?_ ?_
    ·intro h29
     refine W.skip (thenQ_normal ?_)
     refine W.seq ?_
     refine W.block ?_
     refine kE tab4 hnt [(3,.sl (.strs xs11)),(4,.v (.string (runV xs11))),(5,.i ((k:Nat):Int)),(6,.v (.string (runV (List.take k xs11))))] 668667967958 [0≤(0:Int),(0:Int)≤((k:Nat):Int),((k:Nat):Int)≤(xs11.length:Int),∀ i,((List.take k xs11).getD i default).size≤1100000] ⟨om,om,om,(by exact take_small _ (fun i=>by have := hg11.2 i; omega))⟩ ?_
     refine kE tab4 hnt [(3,.sl (.strs xs11)),(4,.v (.string (runV xs11))),(5,.i ((k:Nat):Int)),(48,.b ((decide (((((runV xs11).size):Nat):Int)<((((runV (List.take k xs11)).size):Nat):Int))) || (!(eqS ((runV xs11).extract 0 ((runV (List.take k xs11)).size)) (runV (List.take k xs11))))))] 8844739865969456 ((fun (Z1:Bool)=>([(!Z1)=true→Y,(!Z1)=true→Y,(!Z1)=true→(((!Z1)=true)∧Y),(!Z1)=true→((((!Z1)=true)∧Y)∧(Y∧((((!Z1)=true)∧Y)∧((0≤(0:Int))∧(((0:Int)≤((((runV (List.take k xs11)).size):Nat):Int))∧(((((runV (List.take k xs11)).size):Nat):Int)≤((((runV xs11).size):Nat):Int))))))),(!Z1)=true→Y,(!Z1)=true→((((!Z1)=true)∧Y)∧((((!Z1)=true)∧Y)∧Y)),Z1=true→Y,Z1=false→((!Z1)=true)∧Y]:PL)) (decide (((((runV xs11).size):Nat):Int)<((((runV (List.take k xs11)).size):Nat):Int)))) ⟨(fun _=>trivial),(fun _=>trivial),(fun hG=>⟨hG,tt⟩),(fun hG=>⟨⟨hG,tt⟩,tt,⟨hG,tt⟩,(by have hg0 : ¬ (((((runV xs11).size):Nat):Int)<((((runV (List.take k xs11)).size):Nat):Int)) := of_decide_eq_false (not_f hG); omega),(by have hg0 : ¬ (((((runV xs11).size):Nat):Int)<((((runV (List.take k xs11)).size):Nat):Int)) := of_decide_eq_false (not_f hG); first | omega | (have h9 := run_pre (l := xs11) (k := k) (by omega) (by omega); omega)),(by have hg0 : ¬ (((((runV xs11).size):Nat):Int)<((((runV (List.take k xs11)).size):Nat):Int)) := of_decide_eq_false (not_f hG); first | omega | (have h9 := run_pre (l := xs11) (k := k) (by omega) (by omega); omega))⟩),(fun _=>trivial),(fun hG=>⟨⟨hG,tt⟩,⟨hG,tt⟩,tt⟩),(fun _=>trivial),(fun hp=>⟨(not_t hp),tt⟩)⟩ ?_
     refine ifb ((decide (((((runV xs11).size):Nat):Int)<((((runV (List.take k xs11)).size):Nat):Int))) || (!(eqS ((runV xs11).extract 0 ((runV (List.take k xs11)).size)) (runV (List.take k xs11))))) ?_ ?_
     ·intro h48
      refine kE tab4 hnt [(2,.b false)] 2 [] tt ?_
      refine W.ret (blockQ_ret (thenQ_ret (thenQ_ret (blockQ_ret (thenQ_ret ?_)))))
      exact eB (show false=true from (by exfalso; have h9 := run_pre (l := xs11) (k := k) (by have := hg11.1; omega) (by omega); rw [h9.2,eqB_self,decide_eq_false (by omega)] at h48; cases h48))
     ·intro n48
      have n48_0 : ¬ (((((runV xs11).size):Nat):Int)<((((runV (List.take k xs11)).size):Nat):Int)) := of_decide_eq_false (or_l n48)
      refine W.skip (blockQ_normal (thenQ_normal ?_))
      refine lE tab4 hnt [(3,.sl (.strs xs11)),(4,.v (.string (runV xs11))),(5,.i (((k+1):Nat):Int))] 15869 [Fits .i64 (((k+1):Nat):Int)] (by exact fits_i64 (by omega) (by omega)) ?_
      refine thenQ_normal ?_
      refine ⟨((k+1)),(show ((k+1)≤xs11.length+1) from oi),(show xs11.length+1 - (k+1)<xs11.length+1 - k from o2),?_⟩
      exact Sk
    ·intro n29
     refine W.exit (thenQ_exit (thenQ_exit (blockQ_hit ?_)))
     refine thenQ_normal ?_
     refine kE tab4 hnt [(2,.b (decide (((nlC (runV xs11).data.toList:Nat):Int)=(xs11.length:Int))))] 7271315561 [(runV xs11).size≤1100000] (by have h8 := run_size xs11 xs11.length; rw [runV_few (by omega)]; have := hg11.1; omega) ?_
     refine W.ret ?_
     exact eB (show (decide (((nlC (runV xs11).data.toList:Nat):Int)=(xs11.length:Int)))=true from (by exact decide_eq_true (by rw [run_lines (by have := hg11.1; omega)])))
end Go.Proofs.Tryz
