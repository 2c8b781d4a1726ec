import Derived.Test.YtbmbdlgifplglaaGreatDoorZF4S0
import Derived.Test.YtbmbdlgifplglaaGreatDoorZF4S2
import Derived.Test.YtbmbdlgifplglaaGreatDoorZF4S5
import Derived.Test.YtbmbdlgifplglaaGreatDoorZF4S1
set_option maxRecDepth 100000
set_option maxHeartbeats 1000000
set_option linter.unusedSimpArgs false
set_option linter.unusedVariables false
namespace Go.Proofs.Tryz
open Go.Ab Go.RowKit
def fs43 : FnS := fnS [.o] [.str] (fun _ (w,_)=>(.agg [.i ((readS w.data.toList).proc),.i ((readS w.data.toList).obj),.i ((readS w.data.toList).kind),.i ((readS w.data.toList).arg),.i ((readS w.data.toList).ret),.i ((readS w.data.toList).frm),.i ((readS w.data.toList).to)],[],(w.size≤2000000)))
abbrev T43 : Tab := lk [(21,fs21),(63,fs63)]
theorem tab43 : TabOK prog T43 := (TabOK.cons ok21 ent21 (TabOK.cons ok63 ent63 TabOK.nil))
abbrev v430 (w:ByteArray):AV:=.sl (.strs (splitB8 (64:Int) w))
abbrev v431 (w:ByteArray):AV:=.sl (.strs (splitB8 (45:Int) (List.getD (splitB8 (64:Int) w) 1 default)))
abbrev v432 (w:ByteArray):AV:=.sl (.strs (splitB8 (61:Int) ((List.getD (splitB8 (64:Int) w) 0 default).extract 3 ((List.getD (splitB8 (64:Int) w) 0 default).size))))
abbrev v433 (w:ByteArray):AV:=.i (readNum ((List.getD (splitB8 (64:Int) w) 0 default).extract 0 1).data.toList)
abbrev v434 (w:ByteArray):AV:=.i (readNum (List.getD (splitB8 (61:Int) ((List.getD (splitB8 (64:Int) w) 0 default).extract 3 ((List.getD (splitB8 (64:Int) w) 0 default).size))) 0 default).data.toList)
abbrev v435 (w:ByteArray):AV:=.i (readNum (List.getD (splitB8 (45:Int) (List.getD (splitB8 (64:Int) w) 1 default)) 0 default).data.toList)
abbrev v436 (w:ByteArray):AV:=.i (readNum (List.getD (splitB8 (45:Int) (List.getD (splitB8 (64:Int) w) 1 default)) 1 default).data.toList)
abbrev v437 (w:ByteArray):AV:=.v (.int .u8 (((UInt8.toNat (List.getD (List.getD (splitB8 (64:Int) w) 0 default).data.toList 1 0)):Nat):Int))
abbrev v438 (w:ByteArray):AV:=.v (.int .u8 (((UInt8.toNat (List.getD (List.getD (splitB8 (64:Int) w) 0 default).data.toList 2 0)):Nat):Int))
theorem ok43 : FnOK prog 43 fs43 := by
 refine FnOK.mk cok func43 rfl rfl rfl ?_
 rintro fl ⟨(w:ByteArray),_⟩ hpre F hnt0 _
 have hnt : F.nt=93 := hnt0.trans ntmps43
 replace hpre : (w.size≤2000000) := hpre
 have hz := hpre
 refine W.to (⟨[(0,.v (.string w))],[],[999]⟩) rfl ?_
 have hp0 := split8_piece 64 w 0
 have hp1 := split8_piece 64 w 1
 have hpf0 := split8_piece 45 (List.getD (splitB8 64 w) 1 default) 0
 have hpf1 := split8_piece 45 (List.getD (splitB8 64 w) 1 default) 1
 have hpv0 := split8_piece 61 ((List.getD (splitB8 64 w) 0 default).extract 3 (List.getD (splitB8 64 w) 0 default).size) 0
 have hpv1 := split8_piece 61 ((List.getD (splitB8 64 w) 0 default).extract 3 (List.getD (splitB8 64 w) 0 default).size) 1
 rw [ByteArray.size_extract] at hpv0 hpv1
 refine kS tab43 hnt [(0,.v (.string w)),(2,.ptr 2 0)] [(2,⟨59,.fix [.i (0:Int),.i (0:Int),.i (0:Int),.i (0:Int),.i (0:Int),.i (0:Int),.i (0:Int)]⟩)] [2,999] 2 [] tt ?_
 refine kS tab43 hnt [(0,.v (.string w)),(2,.ptr 2 0),(3,.ptr 3 0)] [(2,⟨59,.fix [.i (0:Int),.i (0:Int),.i (0:Int),.i (0:Int),.i (0:Int),.i (0:Int),.i (0:Int)]⟩),(3,⟨59,.fix [.i (-1:Int),.i (0:Int),.i (0:Int),.i (0:Int),.i (0:Int),.i (0:Int),.i (0:Int)]⟩)] [3,2,999] 6002 [] tt ?_
 refine kS tab43 hnt [(2,.ptr 2 0),(3,.ptr 3 0),(4,(v430 w))] [(2,⟨59,.fix [.i (0:Int),.i (0:Int),.i (0:Int),.i (0:Int),.i (0:Int),.i (0:Int),.i (0:Int)]⟩),(3,⟨59,.fix [.i (-1:Int),.i (0:Int),.i (0:Int),.i (0:Int),.i (0:Int),.i (0:Int),.i (0:Int)]⟩)] [10,3,2,999] 107927957 [0≤(64:Int)∧(64:Int)≤255,w.size≤2000000,(List.length (splitB8 (64:Int) w))=(List.length (splitB8 (64:Int) w))] ⟨om,(by (try simp only [ByteArray.size_extract]); omega),rfl⟩ ?_
 refine W.seq ?_
 refine kE tab43 hnt [(2,.ptr 2 0),(3,.ptr 3 0),(4,(v430 w)),(20,.b ((decide ((((List.length (splitB8 (64:Int) w)):Nat):Int)≠(2:Int))) || (decide (((((List.getD (splitB8 (64:Int) w) 0 default).size):Nat):Int)<(3:Int)))))] 12132701962319 ((fun (Z1:Bool)=>([(!Z1)=true→Y,(!Z1)=true→((((!Z1)=true)∧Y)∧(Y∧((0≤(0:Int))∧((0:Int)<(((List.length (splitB8 (64:Int) w)):Nat):Int))))),(!Z1)=true→(((!Z1)=true)∧Y),(!Z1)=true→(((!Z1)=true)∧Y),(!Z1)=true→((((!Z1)=true)∧Y)∧(Y∧Y)),Z1=true→Y,Z1=false→((!Z1)=true)∧Y]:PL)) (decide ((((List.length (splitB8 (64:Int) w)):Nat):Int)≠(2:Int)))) ⟨(fun _=>trivial),(fun hG=>⟨⟨hG,tt⟩,tt,(by have hg0 : ¬ ((((List.length (splitB8 (64:Int) w)):Nat):Int)≠(2:Int)) := of_decide_eq_false (not_f hG); omega),(by have hg0 : ¬ ((((List.length (splitB8 (64:Int) w)):Nat):Int)≠(2:Int)) := of_decide_eq_false (not_f hG); omega)⟩),(fun hG=>⟨hG,tt⟩),(fun hG=>⟨hG,tt⟩),(fun hG=>⟨⟨hG,tt⟩,tt,tt⟩),(fun _=>trivial),(fun hp=>⟨(not_t hp),tt⟩)⟩ ?_
 refine ifb ((decide ((((List.length (splitB8 (64:Int) w)):Nat):Int)≠(2:Int))) || (decide (((((List.getD (splitB8 (64:Int) w) 0 default).size):Nat):Int)<(3:Int)))) ?_ ?_
 ·intro h20
  obtain ⟨_,_,_,_,_,_,_⟩ := cd_eta _ _ _ _ _ _ _ _ ((rs_short (w := w) (by simp only [Bool.or_eq_true,decide_eq_true_eq] at h20; show ¬ (_∧3≤(List.getD (splitB8 64 w) 0 default).size); omega)).symm)
  refine kS tab43 hnt [(2,.ptr 2 0)] [(2,⟨59,.fix [.i (-1:Int),.i (0:Int),.i (0:Int),.i (0:Int),.i (0:Int),.i (0:Int),.i (0:Int)]⟩),(3,⟨59,.fix [.i (-1:Int),.i (0:Int),.i (0:Int),.i (0:Int),.i (0:Int),.i (0:Int),.i (0:Int)]⟩)] [10,3,2,999] 74 [] tt ?_
  refine W.ret (thenQ_ret ?_)
  exact endQ_ret (.agg [.i (-1:Int),.i (0:Int),.i (0:Int),.i (0:Int),.i (0:Int),.i (0:Int),.i (0:Int)]) (by kernel_rfl) (@cast (((.int .i64 (-1:Int):Value)=.int .i64 ((readS w.data.toList).proc))∧((.int .i64 (0:Int):Value)=.int .i64 ((readS w.data.toList).obj))∧((.int .i64 (0:Int):Value)=.int .i64 ((readS w.data.toList).kind))∧((.int .i64 (0:Int):Value)=.int .i64 ((readS w.data.toList).arg))∧((.int .i64 (0:Int):Value)=.int .i64 ((readS w.data.toList).ret))∧((.int .i64 (0:Int):Value)=.int .i64 ((readS w.data.toList).frm))∧((.int .i64 (0:Int):Value)=.int .i64 ((readS w.data.toList).to))∧Y) _ (by kernel_rfl) ⟨(congrArg (Value.int .i64) (by with_reducible assumption)),(congrArg (Value.int .i64) (by with_reducible assumption)),(congrArg (Value.int .i64) (by with_reducible assumption)),(congrArg (Value.int .i64) (by with_reducible assumption)),(congrArg (Value.int .i64) (by with_reducible assumption)),(congrArg (Value.int .i64) (by with_reducible assumption)),(congrArg (Value.int .i64) (by with_reducible assumption)),tt⟩)
 ·intro n20
  have n20_0 : ¬ ((((List.length (splitB8 (64:Int) w)):Nat):Int)≠(2:Int)) := of_decide_eq_false (or_l n20)
  have n20_1 : ¬ (((((List.getD (splitB8 (64:Int) w) 0 default).size):Nat):Int)<(3:Int)) := of_decide_eq_false (or_r n20)
  have rs1 : (splitB8 64 w).length=2∧3≤(List.getD (splitB8 64 w) 0 default).size := by simp only [Bool.or_eq_false_iff,decide_eq_false_iff_not] at n20; omega
  refine W.skip (thenQ_normal ?_)
  refine kS tab43 hnt [(2,.ptr 2 0),(3,.ptr 3 0),(4,(v430 w)),(5,(v431 w))] [(2,⟨59,.fix [.i (0:Int),.i (0:Int),.i (0:Int),.i (0:Int),.i (0:Int),.i (0:Int),.i (0:Int)]⟩),(3,⟨59,.fix [.i (-1:Int),.i (0:Int),.i (0:Int),.i (0:Int),.i (0:Int),.i (0:Int),.i (0:Int)]⟩)] [25,10,3,2,999] 6373037964071 [0≤(1:Int),(1:Int)<(((List.length (splitB8 (64:Int) w)):Nat):Int),0≤(45:Int)∧(45:Int)≤255,(List.getD (splitB8 (64:Int) w) 1 default).size≤2000000,(List.length (splitB8 (45:Int) (List.getD (splitB8 (64:Int) w) 1 default)))=(List.length (splitB8 (45:Int) (List.getD (splitB8 (64:Int) w) 1 default)))] ⟨om,om,om,(by (try simp only [ByteArray.size_extract]); omega),rfl⟩ ?_
  refine kS tab43 hnt [(2,.ptr 2 0),(3,.ptr 3 0),(4,(v430 w)),(5,(v431 w)),(6,(v432 w))] [(2,⟨59,.fix [.i (0:Int),.i (0:Int),.i (0:Int),.i (0:Int),.i (0:Int),.i (0:Int),.i (0:Int)]⟩),(3,⟨59,.fix [.i (-1:Int),.i (0:Int),.i (0:Int),.i (0:Int),.i (0:Int),.i (0:Int),.i (0:Int)]⟩)] [30,25,10,3,2,999] 3386893741880100716 [0≤(0:Int),(0:Int)<(((List.length (splitB8 (64:Int) w)):Nat):Int),0≤(3:Int),(3:Int)≤((((List.getD (splitB8 (64:Int) w) 0 default).size):Nat):Int),((((List.getD (splitB8 (64:Int) w) 0 default).size):Nat):Int)≤((((List.getD (splitB8 (64:Int) w) 0 default).size):Nat):Int),0≤(61:Int)∧(61:Int)≤255,((List.getD (splitB8 (64:Int) w) 0 default).extract 3 ((List.getD (splitB8 (64:Int) w) 0 default).size)).size≤2000000,(List.length (splitB8 (61:Int) ((List.getD (splitB8 (64:Int) w) 0 default).extract 3 ((List.getD (splitB8 (64:Int) w) 0 default).size))))=(List.length (splitB8 (61:Int) ((List.getD (splitB8 (64:Int) w) 0 default).extract 3 ((List.getD (splitB8 (64:Int) w) 0 default).size))))] ⟨om,om,om,(by (try simp only [ByteArray.size_extract]); omega),(by (try simp only [ByteArray.size_extract]); omega),om,(by (try simp only [ByteArray.size_extract]); omega),rfl⟩ ?_
  refine W.seq ?_
  refine kE tab43 hnt [(2,.ptr 2 0),(3,.ptr 3 0),(4,(v430 w)),(5,(v431 w)),(6,(v432 w)),(38,.b ((decide ((((List.length (splitB8 (45:Int) (List.getD (splitB8 (64:Int) w) 1 default))):Nat):Int)≠(2:Int))) || (decide ((((List.length (splitB8 (61:Int) ((List.getD (splitB8 (64:Int) w) 0 default).extract 3 ((List.getD (splitB8 (64:Int) w) 0 default).size)))):Nat):Int)≠(2:Int)))))] 149786237549 ((fun (Z1:Bool)=>([(!Z1)=true→Y,(!Z1)=true→(((!Z1)=true)∧Y),(!Z1)=true→((((!Z1)=true)∧Y)∧(Y∧Y)),Z1=true→Y,Z1=false→((!Z1)=true)∧Y]:PL)) (decide ((((List.length (splitB8 (45:Int) (List.getD (splitB8 (64:Int) w) 1 default))):Nat):Int)≠(2:Int)))) ⟨(fun _=>trivial),(fun hG=>⟨hG,tt⟩),(fun hG=>⟨⟨hG,tt⟩,tt,tt⟩),(fun _=>trivial),(fun hp=>⟨(not_t hp),tt⟩)⟩ ?_
  refine ifb ((decide ((((List.length (splitB8 (45:Int) (List.getD (splitB8 (64:Int) w) 1 default))):Nat):Int)≠(2:Int))) || (decide ((((List.length (splitB8 (61:Int) ((List.getD (splitB8 (64:Int) w) 0 default).extract 3 ((List.getD (splitB8 (64:Int) w) 0 default).size)))):Nat):Int)≠(2:Int)))) ?_ ?_
  ·intro h38
   obtain ⟨_,_,_,_,_,_,_⟩ := cd_eta _ _ _ _ _ _ _ _ ((rs_parts (w := w) rs1.1 rs1.2 (by simp only [Bool.or_eq_true,decide_eq_true_eq] at h38; show ¬ ((splitB8 45 (List.getD (splitB8 64 w) 1 default)).length=2∧(splitB8 61 ((List.getD (splitB8 64 w) 0 default).extract 3 (List.getD (splitB8 64 w) 0 default).size)).length=2); omega)).symm)
   refine kS tab43 hnt [(2,.ptr 2 0)] [(2,⟨59,.fix [.i (-1:Int),.i (0:Int),.i (0:Int),.i (0:Int),.i (0:Int),.i (0:Int),.i (0:Int)]⟩),(3,⟨59,.fix [.i (-1:Int),.i (0:Int),.i (0:Int),.i (0:Int),.i (0:Int),.i (0:Int),.i (0:Int)]⟩)] [30,25,10,3,2,999] 74 [] tt ?_
   refine W.ret (thenQ_ret ?_)
   exact endQ_ret (.agg [.i (-1:Int),.i (0:Int),.i (0:Int),.i (0:Int),.i (0:Int),.i (0:Int),.i (0:Int)]) (by kernel_rfl) (@cast (((.int .i64 (-1:Int):Value)=.int .i64 ((readS w.data.toList).proc))∧((.int .i64 (0:Int):Value)=.int .i64 ((readS w.data.toList).obj))∧((.int .i64 (0:Int):Value)=.int .i64 ((readS w.data.toList).kind))∧((.int .i64 (0:Int):Value)=.int .i64 ((readS w.data.toList).arg))∧((.int .i64 (0:Int):Value)=.int .i64 ((readS w.data.toList).ret))∧((.int .i64 (0:Int):Value)=.int .i64 ((readS w.data.toList).frm))∧((.int .i64 (0:Int):Value)=.int .i64 ((readS w.data.toList).to))∧Y) _ (by kernel_rfl) ⟨(congrArg (Value.int .i64) (by with_reducible assumption)),(congrArg (Value.int .i64) (by with_reducible assumption)),(congrArg (Value.int .i64) (by with_reducible assumption)),(congrArg (Value.int .i64) (by with_reducible assumption)),(congrArg (Value.int .i64) (by with_reducible assumption)),(congrArg (Value.int .i64) (by with_reducible assumption)),(congrArg (Value.int .i64) (by with_reducible assumption)),tt⟩)
  ·intro n38
   have n38_0 : ¬ ((((List.length (splitB8 (45:Int) (List.getD (splitB8 (64:Int) w) 1 default))):Nat):Int)≠(2:Int)) := of_decide_eq_false (or_l n38)
   have n38_1 : ¬ ((((List.length (splitB8 (61:Int) ((List.getD (splitB8 (64:Int) w) 0 default).extract 3 ((List.getD (splitB8 (64:Int) w) 0 default).size)))):Nat):Int)≠(2:Int)) := of_decide_eq_false (or_r n38)
   have rs2 : (splitB8 45 (List.getD (splitB8 64 w) 1 default)).length=2∧(splitB8 61 ((List.getD (splitB8 64 w) 0 default).extract 3 (List.getD (splitB8 64 w) 0 default).size)).length=2 := by simp only [Bool.or_eq_false_iff,decide_eq_false_iff_not] at n38; exact ⟨by omega,by omega⟩
   refine W.skip (thenQ_normal ?_)
   refine kA tab43 hnt [(2,.ptr 2 0),(3,.ptr 3 0),(4,(v430 w)),(6,(v432 w)),(7,.ptr 7 0)] [(2,⟨59,.fix [.i (0:Int),.i (0:Int),.i (0:Int),.i (0:Int),.i (0:Int),.i (0:Int),.i (0:Int)]⟩),(3,⟨59,.fix [.i (-1:Int),.i (0:Int),.i (0:Int),.i (0:Int),.i (0:Int),.i (0:Int),.i (0:Int)]⟩),(7,⟨59,.fix [(v433 w),.i (0:Int),.i (0:Int),(v434 w),.i (readNum (List.getD (splitB8 (61:Int) ((List.getD (splitB8 (64:Int) w) 0 default).extract 3 ((List.getD (splitB8 (64:Int) w) 0 default).size))) 1 default).data.toList),(v435 w),(v436 w)]⟩)] [7,30,25,10,3,2,999] 10783410000237771639613561748104079521272943246379541437567042 [0≤(0:Int),(0:Int)<(((List.length (splitB8 (64:Int) w)):Nat):Int),0≤(0:Int),(0:Int)≤(1:Int),(1:Int)≤((((List.getD (splitB8 (64:Int) w) 0 default).size):Nat):Int),((List.getD (splitB8 (64:Int) w) 0 default).extract 0 1).size≤2000000,0≤(0:Int),(0:Int)<(((List.length (splitB8 (61:Int) ((List.getD (splitB8 (64:Int) w) 0 default).extract 3 ((List.getD (splitB8 (64:Int) w) 0 default).size)))):Nat):Int),(List.getD (splitB8 (61:Int) ((List.getD (splitB8 (64:Int) w) 0 default).extract 3 ((List.getD (splitB8 (64:Int) w) 0 default).size))) 0 default).size≤2000000,0≤(1:Int),(1:Int)<(((List.length (splitB8 (61:Int) ((List.getD (splitB8 (64:Int) w) 0 default).extract 3 ((List.getD (splitB8 (64:Int) w) 0 default).size)))):Nat):Int),(List.getD (splitB8 (61:Int) ((List.getD (splitB8 (64:Int) w) 0 default).extract 3 ((List.getD (splitB8 (64:Int) w) 0 default).size))) 1 default).size≤2000000,0≤(0:Int),(0:Int)<(((List.length (splitB8 (45:Int) (List.getD (splitB8 (64:Int) w) 1 default))):Nat):Int),(List.getD (splitB8 (45:Int) (List.getD (splitB8 (64:Int) w) 1 default)) 0 default).size≤2000000,0≤(1:Int),(1:Int)<(((List.length (splitB8 (45:Int) (List.getD (splitB8 (64:Int) w) 1 default))):Nat):Int),(List.getD (splitB8 (45:Int) (List.getD (splitB8 (64:Int) w) 1 default)) 1 default).size≤2000000] ⟨om,om,om,om,(by (try simp only [ByteArray.size_extract]); omega),(by (try simp only [ByteArray.size_extract]); omega),om,(by (try simp only [ByteArray.size_extract]); omega),(by (try simp only [ByteArray.size_extract]); omega),om,(by (try simp only [ByteArray.size_extract]); omega),(by (try simp only [ByteArray.size_extract]); omega),om,ow,(by (try simp only [ByteArray.size_extract]); omega),om,ow,(by (try simp only [ByteArray.size_extract]); omega)⟩ ?_
   refine W.seq ?_
   refine kE tab43 hnt [(2,.ptr 2 0),(3,.ptr 3 0),(4,(v430 w)),(7,.ptr 7 0),(65,.b (eqS (List.getD (splitB8 (61:Int) ((List.getD (splitB8 (64:Int) w) 0 default).extract 3 ((List.getD (splitB8 (64:Int) w) 0 default).size))) 1 default) (⟨#[45,49]⟩:ByteArray)))] 33098618 [0≤(1:Int),(1:Int)<(((List.length (splitB8 (61:Int) ((List.getD (splitB8 (64:Int) w) 0 default).extract 3 ((List.getD (splitB8 (64:Int) w) 0 default).size)))):Nat):Int)] ⟨om,(by (try simp only [ByteArray.size_extract]); omega)⟩ ?_
   refine W.meetT (ι := Int) (fun (rr:Int)=>(⟨[(2,.ptr 2 0),(3,.ptr 3 0),(4,(v430 w)),(7,.ptr 7 0)],[(2,⟨59,.fix [.i (0:Int),.i (0:Int),.i (0:Int),.i (0:Int),.i (0:Int),.i (0:Int),.i (0:Int)]⟩),(3,⟨59,.fix [.i (-1:Int),.i (0:Int),.i (0:Int),.i (0:Int),.i (0:Int),.i (0:Int),.i (0:Int)]⟩),(7,⟨59,.fix [(v433 w),.i (0:Int),.i (0:Int),(v434 w),.i rr,(v435 w),(v436 w)]⟩)],[2,3,7,999]⟩:St)) (fun (rr:Int)=>(rr=bif eqS (List.getD (splitB8 61 ((List.getD (splitB8 64 w) 0 default).extract 3 (List.getD (splitB8 64 w) 0 default).size)) 1 default) (⟨#[45,49]⟩:ByteArray) then -1 else readNum (List.getD (splitB8 61 ((List.getD (splitB8 64 w) 0 default).extract 3 (List.getD (splitB8 64 w) 0 default).size)) 1 default).data.toList)) ?_ ?_
   ·skip
    refine ifb (eqS (List.getD (splitB8 (61:Int) ((List.getD (splitB8 (64:Int) w) 0 default).extract 3 ((List.getD (splitB8 (64:Int) w) 0 default).size))) 1 default) (⟨#[45,49]⟩:ByteArray)) ?_ ?_
    ·intro h65
     refine lS tab43 hnt [(2,.ptr 2 0),(3,.ptr 3 0),(4,(v430 w)),(7,.ptr 7 0)] [(2,⟨59,.fix [.i (0:Int),.i (0:Int),.i (0:Int),.i (0:Int),.i (0:Int),.i (0:Int),.i (0:Int)]⟩),(3,⟨59,.fix [.i (-1:Int),.i (0:Int),.i (0:Int),.i (0:Int),.i (0:Int),.i (0:Int),.i (0:Int)]⟩),(7,⟨59,.fix [(v433 w),.i (0:Int),.i (0:Int),(v434 w),.i (-1:Int),(v435 w),(v436 w)]⟩)] [7,30,25,10,3,2,999] 74 [] tt ?_
     refine thenQ_normal ?_
     refine ⟨((-1:Int)),(show ((-1:Int)=bif eqS (List.getD (splitB8 61 ((List.getD (splitB8 64 w) 0 default).extract 3 (List.getD (splitB8 64 w) 0 default).size)) 1 default) (⟨#[45,49]⟩:ByteArray) then -1 else readNum (List.getD (splitB8 61 ((List.getD (splitB8 64 w) 0 default).extract 3 (List.getD (splitB8 64 w) 0 default).size)) 1 default).data.toList) from (by first | (rw [h65]; rfl) | (rw [n65]; rfl))),?_⟩
     exact Sk
    ·intro n65
     refine W.skip (thenQ_normal ?_)
     refine ⟨((readNum (List.getD (splitB8 (61:Int) ((List.getD (splitB8 (64:Int) w) 0 default).extract 3 ((List.getD (splitB8 (64:Int) w) 0 default).size))) 1 default).data.toList)),(show ((readNum (List.getD (splitB8 (61:Int) ((List.getD (splitB8 (64:Int) w) 0 default).extract 3 ((List.getD (splitB8 (64:Int) w) 0 default).size))) 1 default).data.toList)=bif eqS (List.getD (splitB8 61 ((List.getD (splitB8 64 w) 0 default).extract 3 (List.getD (splitB8 64 w) 0 default).size)) 1 default) (⟨#[45,49]⟩:ByteArray) then -1 else readNum (List.getD (splitB8 61 ((List.getD (splitB8 64 w) 0 default).extract 3 (List.getD (splitB8 64 w) 0 default).size)) 1 default).data.toList) from (by first | (rw [h65]; rfl) | (rw [n65]; rfl))),?_⟩
     exact Sk
   ·rintro rr hC0
    have hC : (rr=bif eqS (List.getD (splitB8 61 ((List.getD (splitB8 64 w) 0 default).extract 3 (List.getD (splitB8 64 w) 0 default).size)) 1 default) (⟨#[45,49]⟩:ByteArray) then -1 else readNum (List.getD (splitB8 61 ((List.getD (splitB8 64 w) 0 default).extract 3 (List.getD (splitB8 64 w) 0 default).size)) 1 default).data.toList) := hC0
    clear hC0
    have hrr := hC
    refine W.seq ?_
    refine kE tab43 hnt [(2,.ptr 2 0),(3,.ptr 3 0),(4,(v430 w)),(7,.ptr 7 0),(70,(v437 w))] 1841060900 [0≤(0:Int),(0:Int)<(((List.length (splitB8 (64:Int) w)):Nat):Int),0≤(1:Int),(1:Int)<(((List.getD (splitB8 (64:Int) w) 0 default).size:Nat):Int)] ⟨om,om,om,(by (try simp only [ByteArray.size_extract]); omega)⟩ ?_
    refine W.meetT (ι := Int) (fun (ob:Int)=>(⟨[(2,.ptr 2 0),(3,.ptr 3 0),(4,(v430 w)),(7,.ptr 7 0)],[(2,⟨59,.fix [.i (0:Int),.i (0:Int),.i (0:Int),.i (0:Int),.i (0:Int),.i (0:Int),.i (0:Int)]⟩),(3,⟨59,.fix [.i (-1:Int),.i (0:Int),.i (0:Int),.i (0:Int),.i (0:Int),.i (0:Int),.i (0:Int)]⟩),(7,⟨59,.fix [(v433 w),.i ob,.i (0:Int),(v434 w),.i rr,(v435 w),(v436 w)]⟩)],[2,3,7,999]⟩:St)) (fun (ob:Int)=>(objV ((List.getD (splitB8 64 w) 0 default).data.toList.getD 1 0)=some ob)) ?_ ?_
    ·skip
     refine W.block ?_
     refine kE tab43 hnt [(2,.ptr 2 0),(3,.ptr 3 0),(4,(v430 w)),(7,.ptr 7 0),(70,(v437 w)),(72,.b (decide ((((UInt8.toNat (List.getD (List.getD (splitB8 (64:Int) w) 0 default).data.toList 1 0)):Nat):Int)=(120:Int))))] 1520 [] tt ?_
     refine ifp ((((UInt8.toNat (List.getD (List.getD (splitB8 (64:Int) w) 0 default).data.toList 1 0)):Nat):Int)=(120:Int)) ?_ ?_
     ·intro h72
      have hO := ov0 h72
      refine lE tab43 hnt [(2,.ptr 2 0),(3,.ptr 3 0),(4,(v430 w)),(7,.ptr 7 0)] 74 [] tt ?_
      refine blockQ_normal (thenQ_normal ?_)
      refine ⟨((0:Int)),(show (objV ((List.getD (splitB8 64 w) 0 default).data.toList.getD 1 0)=some (0:Int)) from (by exact hO)),?_⟩
      exact Sk
     ·intro n72
      refine kE tab43 hnt [(2,.ptr 2 0),(3,.ptr 3 0),(4,(v430 w)),(7,.ptr 7 0),(75,.b (decide ((((UInt8.toNat (List.getD (List.getD (splitB8 (64:Int) w) 0 default).data.toList 1 0)):Nat):Int)=(121:Int))))] 1520 [] tt ?_
      refine ifp ((((UInt8.toNat (List.getD (List.getD (splitB8 (64:Int) w) 0 default).data.toList 1 0)):Nat):Int)=(121:Int)) ?_ ?_
      ·intro h75
       have hO := ov1 h75
       refine lS tab43 hnt [(2,.ptr 2 0),(3,.ptr 3 0),(4,(v430 w)),(7,.ptr 7 0)] [(2,⟨59,.fix [.i (0:Int),.i (0:Int),.i (0:Int),.i (0:Int),.i (0:Int),.i (0:Int),.i (0:Int)]⟩),(3,⟨59,.fix [.i (-1:Int),.i (0:Int),.i (0:Int),.i (0:Int),.i (0:Int),.i (0:Int),.i (0:Int)]⟩),(7,⟨59,.fix [(v433 w),.i (1:Int),.i (0:Int),(v434 w),.i rr,(v435 w),(v436 w)]⟩)] [2,3,7,999] 74 [] tt ?_
       refine blockQ_normal (thenQ_normal ?_)
       refine ⟨((1:Int)),(show (objV ((List.getD (splitB8 64 w) 0 default).data.toList.getD 1 0)=some (1:Int)) from (by exact hO)),?_⟩
       exact Sk
      ·intro n75
       obtain ⟨_,_,_,_,_,_,_⟩ := cd_eta _ _ _ _ _ _ _ _ ((rv_obj (w := w) (ovn n72 n75)).trans (rs_main (w := w) rs1.1 rs1.2 rs2.1 rs2.2).symm)
       refine kS tab43 hnt [(2,.ptr 2 0)] [(2,⟨59,.fix [.i (-1:Int),.i (0:Int),.i (0:Int),.i (0:Int),.i (0:Int),.i (0:Int),.i (0:Int)]⟩),(3,⟨59,.fix [.i (-1:Int),.i (0:Int),.i (0:Int),.i (0:Int),.i (0:Int),.i (0:Int),.i (0:Int)]⟩),(7,⟨59,.fix [(v433 w),.i (0:Int),.i (0:Int),(v434 w),.i rr,(v435 w),(v436 w)]⟩)] [2,3,7,999] 74 [] tt ?_
       refine W.ret (blockQ_ret (thenQ_ret ?_))
       exact endQ_ret (.agg [.i (-1:Int),.i (0:Int),.i (0:Int),.i (0:Int),.i (0:Int),.i (0:Int),.i (0:Int)]) (by kernel_rfl) (@cast (((.int .i64 (-1:Int):Value)=.int .i64 ((readS w.data.toList).proc))∧((.int .i64 (0:Int):Value)=.int .i64 ((readS w.data.toList).obj))∧((.int .i64 (0:Int):Value)=.int .i64 ((readS w.data.toList).kind))∧((.int .i64 (0:Int):Value)=.int .i64 ((readS w.data.toList).arg))∧((.int .i64 (0:Int):Value)=.int .i64 ((readS w.data.toList).ret))∧((.int .i64 (0:Int):Value)=.int .i64 ((readS w.data.toList).frm))∧((.int .i64 (0:Int):Value)=.int .i64 ((readS w.data.toList).to))∧Y) _ (by kernel_rfl) ⟨(congrArg (Value.int .i64) (by with_reducible assumption)),(congrArg (Value.int .i64) (by with_reducible assumption)),(congrArg (Value.int .i64) (by with_reducible assumption)),(congrArg (Value.int .i64) (by with_reducible assumption)),(congrArg (Value.int .i64) (by with_reducible assumption)),(congrArg (Value.int .i64) (by with_reducible assumption)),(congrArg (Value.int .i64) (by with_reducible assumption)),tt⟩)
    ·rintro ob hC0
     have hC : (objV ((List.getD (splitB8 64 w) 0 default).data.toList.getD 1 0)=some ob) := hC0
     clear hC0
     have hO := hC
     refine W.seq ?_
     refine kE tab43 hnt [(2,.ptr 2 0),(3,.ptr 3 0),(7,.ptr 7 0),(81,(v438 w))] 1841060900 [0≤(0:Int),(0:Int)<(((List.length (splitB8 (64:Int) w)):Nat):Int),0≤(2:Int),(2:Int)<(((List.getD (splitB8 (64:Int) w) 0 default).size:Nat):Int)] ⟨om,om,om,(by (try simp only [ByteArray.size_extract]); omega)⟩ ?_
     refine W.meetT (ι := Int) (fun (kd:Int)=>(⟨[(2,.ptr 2 0),(7,.ptr 7 0)],[(2,⟨59,.fix [.i (0:Int),.i (0:Int),.i (0:Int),.i (0:Int),.i (0:Int),.i (0:Int),.i (0:Int)]⟩),(7,⟨59,.fix [(v433 w),.i ob,.i kd,(v434 w),.i rr,(v435 w),(v436 w)]⟩)],[2,7,999]⟩:St)) (fun (kd:Int)=>(kindV ((List.getD (splitB8 64 w) 0 default).data.toList.getD 2 0)=some kd)) ?_ ?_
     ·skip
      refine W.block ?_
      refine kE tab43 hnt [(2,.ptr 2 0),(3,.ptr 3 0),(7,.ptr 7 0),(81,(v438 w)),(83,.b (decide ((((UInt8.toNat (List.getD (List.getD (splitB8 (64:Int) w) 0 default).data.toList 2 0)):Nat):Int)=(112:Int))))] 1520 [] tt ?_
      refine ifp ((((UInt8.toNat (List.getD (List.getD (splitB8 (64:Int) w) 0 default).data.toList 2 0)):Nat):Int)=(112:Int)) ?_ ?_
      ·intro h83
       have hK := kv0 h83
       refine lE tab43 hnt [(2,.ptr 2 0),(7,.ptr 7 0)] 74 [] tt ?_
       refine blockQ_normal (thenQ_normal ?_)
       refine ⟨((0:Int)),(show (kindV ((List.getD (splitB8 64 w) 0 default).data.toList.getD 2 0)=some (0:Int)) from (by exact hK)),?_⟩
       exact Sk
      ·intro n83
       refine kE tab43 hnt [(2,.ptr 2 0),(3,.ptr 3 0),(7,.ptr 7 0),(81,(v438 w)),(86,.b (decide ((((UInt8.toNat (List.getD (List.getD (splitB8 (64:Int) w) 0 default).data.toList 2 0)):Nat):Int)=(116:Int))))] 1520 [] tt ?_
       refine ifp ((((UInt8.toNat (List.getD (List.getD (splitB8 (64:Int) w) 0 default).data.toList 2 0)):Nat):Int)=(116:Int)) ?_ ?_
       ·intro h86
        have hK := kv1 h86
        refine lS tab43 hnt [(2,.ptr 2 0),(7,.ptr 7 0)] [(2,⟨59,.fix [.i (0:Int),.i (0:Int),.i (0:Int),.i (0:Int),.i (0:Int),.i (0:Int),.i (0:Int)]⟩),(3,⟨59,.fix [.i (-1:Int),.i (0:Int),.i (0:Int),.i (0:Int),.i (0:Int),.i (0:Int),.i (0:Int)]⟩),(7,⟨59,.fix [(v433 w),.i ob,.i (1:Int),(v434 w),.i rr,(v435 w),(v436 w)]⟩)] [2,3,7,999] 74 [] tt ?_
        refine blockQ_normal (thenQ_normal ?_)
        refine ⟨((1:Int)),(show (kindV ((List.getD (splitB8 64 w) 0 default).data.toList.getD 2 0)=some (1:Int)) from (by exact hK)),?_⟩
        exact Sk
       ·intro n86
        refine kE tab43 hnt [(2,.ptr 2 0),(3,.ptr 3 0),(7,.ptr 7 0),(89,.b (decide ((((UInt8.toNat (List.getD (List.getD (splitB8 (64:Int) w) 0 default).data.toList 2 0)):Nat):Int)=(108:Int))))] 1520 [] tt ?_
        refine ifp ((((UInt8.toNat (List.getD (List.getD (splitB8 (64:Int) w) 0 default).data.toList 2 0)):Nat):Int)=(108:Int)) ?_ ?_
        ·intro h89
         have hK := kv2 h89
         refine lS tab43 hnt [(2,.ptr 2 0),(7,.ptr 7 0)] [(2,⟨59,.fix [.i (0:Int),.i (0:Int),.i (0:Int),.i (0:Int),.i (0:Int),.i (0:Int),.i (0:Int)]⟩),(3,⟨59,.fix [.i (-1:Int),.i (0:Int),.i (0:Int),.i (0:Int),.i (0:Int),.i (0:Int),.i (0:Int)]⟩),(7,⟨59,.fix [(v433 w),.i ob,.i (2:Int),(v434 w),.i rr,(v435 w),(v436 w)]⟩)] [2,3,7,999] 74 [] tt ?_
         refine blockQ_normal (thenQ_normal ?_)
         refine ⟨((2:Int)),(show (kindV ((List.getD (splitB8 64 w) 0 default).data.toList.getD 2 0)=some (2:Int)) from (by exact hK)),?_⟩
         exact Sk
        ·intro n89
         obtain ⟨_,_,_,_,_,_,_⟩ := cd_eta _ _ _ _ _ _ _ _ ((rv_kind (w := w) (kvn n83 n86 n89)).trans (rs_main (w := w) rs1.1 rs1.2 rs2.1 rs2.2).symm)
         refine kS tab43 hnt [(2,.ptr 2 0)] [(2,⟨59,.fix [.i (-1:Int),.i (0:Int),.i (0:Int),.i (0:Int),.i (0:Int),.i (0:Int),.i (0:Int)]⟩),(3,⟨59,.fix [.i (-1:Int),.i (0:Int),.i (0:Int),.i (0:Int),.i (0:Int),.i (0:Int),.i (0:Int)]⟩),(7,⟨59,.fix [(v433 w),.i ob,.i (0:Int),(v434 w),.i rr,(v435 w),(v436 w)]⟩)] [2,3,7,999] 74 [] tt ?_
         refine W.ret (blockQ_ret (thenQ_ret ?_))
         exact endQ_ret (.agg [.i (-1:Int),.i (0:Int),.i (0:Int),.i (0:Int),.i (0:Int),.i (0:Int),.i (0:Int)]) (by kernel_rfl) (@cast (((.int .i64 (-1:Int):Value)=.int .i64 ((readS w.data.toList).proc))∧((.int .i64 (0:Int):Value)=.int .i64 ((readS w.data.toList).obj))∧((.int .i64 (0:Int):Value)=.int .i64 ((readS w.data.toList).kind))∧((.int .i64 (0:Int):Value)=.int .i64 ((readS w.data.toList).arg))∧((.int .i64 (0:Int):Value)=.int .i64 ((readS w.data.toList).ret))∧((.int .i64 (0:Int):Value)=.int .i64 ((readS w.data.toList).frm))∧((.int .i64 (0:Int):Value)=.int .i64 ((readS w.data.toList).to))∧Y) _ (by kernel_rfl) ⟨(congrArg (Value.int .i64) (by with_reducible assumption)),(congrArg (Value.int .i64) (by with_reducible assumption)),(congrArg (Value.int .i64) (by with_reducible assumption)),(congrArg (Value.int .i64) (by with_reducible assumption)),(congrArg (Value.int .i64) (by with_reducible assumption)),(congrArg (Value.int .i64) (by with_reducible assumption)),(congrArg (Value.int .i64) (by with_reducible assumption)),tt⟩)
     ·rintro kd hC0
      have hC : (kindV ((List.getD (splitB8 64 w) 0 default).data.toList.getD 2 0)=some kd) := hC0
      clear hC0
      have hK := hC
      obtain ⟨_,_,_,_,_,_,_⟩ := cd_eta _ _ _ _ _ _ _ _ ((rv_all (w := w) hO hK hrr).trans (rs_main (w := w) rs1.1 rs1.2 rs2.1 rs2.2).symm)
      refine kS tab43 hnt [(2,.ptr 2 0)] [(2,⟨59,.fix [(v433 w),.i ob,.i kd,(v434 w),.i rr,(v435 w),(v436 w)]⟩),(7,⟨59,.fix [(v433 w),.i ob,.i kd,(v434 w),.i rr,(v435 w),(v436 w)]⟩)] [2,7,999] 74 [] tt ?_
      refine W.ret ?_
      exact endQ_ret (.agg [.i (readNum ((List.getD (splitB8 (64:Int) w) 0 default).extract 0 1).data.toList),.i ob,.i kd,.i (readNum (List.getD (splitB8 (61:Int) ((List.getD (splitB8 (64:Int) w) 0 default).extract 3 ((List.getD (splitB8 (64:Int) w) 0 default).size))) 0 default).data.toList),.i rr,.i (readNum (List.getD (splitB8 (45:Int) (List.getD (splitB8 (64:Int) w) 1 default)) 0 default).data.toList),.i (readNum (List.getD (splitB8 (45:Int) (List.getD (splitB8 (64:Int) w) 1 default)) 1 default).data.toList)]) (by kernel_rfl) (@cast (((.int .i64 (readNum ((List.getD (splitB8 (64:Int) w) 0 default).extract 0 1).data.toList):Value)=.int .i64 ((readS w.data.toList).proc))∧((.int .i64 ob:Value)=.int .i64 ((readS w.data.toList).obj))∧((.int .i64 kd:Value)=.int .i64 ((readS w.data.toList).kind))∧((.int .i64 (readNum (List.getD (splitB8 (61:Int) ((List.getD (splitB8 (64:Int) w) 0 default).extract 3 ((List.getD (splitB8 (64:Int) w) 0 default).size))) 0 default).data.toList):Value)=.int .i64 ((readS w.data.toList).arg))∧((.int .i64 rr:Value)=.int .i64 ((readS w.data.toList).ret))∧((.int .i64 (readNum (List.getD (splitB8 (45:Int) (List.getD (splitB8 (64:Int) w) 1 default)) 0 default).data.toList):Value)=.int .i64 ((readS w.data.toList).frm))∧((.int .i64 (readNum (List.getD (splitB8 (45:Int) (List.getD (splitB8 (64:Int) w) 1 default)) 1 default).data.toList):Value)=.int .i64 ((readS w.data.toList).to))∧Y) _ (by kernel_rfl) ⟨(congrArg (Value.int .i64) (by with_reducible assumption)),(congrArg (Value.int .i64) (by with_reducible assumption)),(congrArg (Value.int .i64) (by with_reducible assumption)),(congrArg (Value.int .i64) (by with_reducible assumption)),(congrArg (Value.int .i64) (by with_reducible assumption)),(congrArg (Value.int .i64) (by with_reducible assumption)),(congrArg (Value.int .i64) (by with_reducible assumption)),tt⟩)
theorem ent43 : Entr prog 43 := ⟨_,func43,rfl,by decide⟩
end Go.Proofs.Tryz

set_option linter.unusedSimpArgs false
set_option linter.unusedVariables false
namespace Go.Proofs.Tryz
open Go.Ab Go.RowKit
def fs87 : FnS := fnS [.o,.o,.o] [.int,.int,.int] (fun _ (n,low,high,_)=>(.b (within n low high),[],Y))
abbrev T87 : Tab := lk []
theorem tab87 : TabOK prog T87 := TabOK.nil
theorem ok87 : FnOK prog 87 fs87 := by
 refine FnOK.mk cok func87 rfl rfl rfl ?_
 rintro fl ⟨(n:Int),(low:Int),(high:Int),_⟩ hpre F hnt0 _
 have hnt : F.nt=15 := hnt0.trans ntmps87
 clear hpre
 refine W.to (⟨[(0,.i n),(1,.i low),(2,.i high)],[],[999]⟩) rfl ?_
 refine kE tab87 hnt [(0,.i n),(1,.i low),(2,.i high)] 2 [] tt ?_
 refine kE tab87 hnt [(6,.b ((decide (low≤n)) && (decide (n≤high))))] 714645310511 ((fun (Z1:Bool)=>([Z1=true→Y,Z1=true→Y,Z1=true→(((Z1=true)∧Y)∧(((Z1=true)∧Y)∧Y)),Z1=true→(Z1=true)∧Y,Z1=false→Y]:PL)) (decide (low≤n))) ⟨(fun _=>trivial),(fun _=>trivial),(fun hG=>⟨⟨hG,tt⟩,⟨hG,tt⟩,tt⟩),(fun hp=>⟨hp,tt⟩),(fun _=>trivial)⟩ ?_
 refine W.ret ?_
 exact eB (show ((decide (low≤n)) && (decide (n≤high)))=(within n low high) from (by first | rfl | simp_all))
theorem ent87 : Entr prog 87 := ⟨_,func87,rfl,by decide⟩
end Go.Proofs.Tryz

set_option linter.unusedSimpArgs false
set_option linter.unusedVariables false
namespace Go.Proofs.Tryz
open Go.Ab Go.RowKit
def fs61 : FnS := fnS [.o] [.call] (fun _ (c,_)=>(.b (isCall c),[],Y))
abbrev T61 : Tab := lk [(87,fs87)]
theorem tab61 : TabOK prog T61 := (TabOK.cons ok87 ent87 TabOK.nil)
theorem ok61 : FnOK prog 61 fs61 := by
 refine FnOK.mk cok func61 rfl rfl rfl ?_
 rintro fl ⟨(c:CallD),_⟩ hpre F hnt0 _
 have hnt : F.nt=39 := hnt0.trans ntmps61
 clear hpre
 refine W.to (⟨[(0,.agg [.i c.proc,.i c.obj,.i c.kind,.i c.arg,.i c.ret,.i c.frm,.i c.to])],[],[999]⟩) rfl ?_
 refine kS tab61 hnt [(1,.ptr 1 0)] [(1,⟨59,.fix [.i c.proc,.i c.obj,.i c.kind,.i c.arg,.i c.ret,.i c.frm,.i c.to]⟩)] [1,999] 20 [] tt ?_
 refine kE tab61 hnt [(2,.b (((((((within c.proc (0:Int) (2:Int)) && (within c.obj (0:Int) (1:Int))) && (within c.kind (0:Int) (2:Int))) && (within c.arg (0:Int) (3:Int))) && (within c.ret (-1:Int) (20:Int))) && (within c.frm (0:Int) (30:Int))) && (within c.to (c.frm+(1:Int)) (30:Int))))] 950678258846829612636836845069862311952362609186979 ((fun (Z1:Bool)=>((fun (Z2:Bool)=>((fun (Z3:Bool)=>((fun (Z4:Bool)=>((fun (Z5:Bool)=>((fun (Z6:Bool)=>([Z1=true→Y,Z1=true→((Z1=true)∧Y),Z1=true→(Y∧((((Z1=true)∧Y)∧(Y∧(Y∧Y)))∧Y)),Z1=true→(Z1=true)∧Y,Z1=false→Y,Z2=true→Y,Z2=true→((Z2=true)∧Y),Z2=true→(Y∧((((Z2=true)∧Y)∧(Y∧(Y∧Y)))∧Y)),Z2=true→(Z2=true)∧Y,Z2=false→Y,Z3=true→Y,Z3=true→((Z3=true)∧Y),Z3=true→(Y∧((((Z3=true)∧Y)∧(Y∧(Y∧Y)))∧Y)),Z3=true→(Z3=true)∧Y,Z3=false→Y,Z4=true→Y,Z4=true→((Z4=true)∧Y),Z4=true→(Y∧((((Z4=true)∧Y)∧(Y∧(Y∧Y)))∧Y)),Z4=true→(Z4=true)∧Y,Z4=false→Y,Z5=true→Y,Z5=true→((Z5=true)∧Y),Z5=true→(Y∧((((Z5=true)∧Y)∧(Y∧(Y∧Y)))∧Y)),Z5=true→(Z5=true)∧Y,Z5=false→Y,Z6=true→Y,Z6=true→((Z6=true)∧Y),Z6=true→Y,Z6=true→((Z6=true)∧Y),Z6=true→(((Z6=true)∧Y)∧(Y∧(Fits .i64 (c.frm+(1:Int))))),Z6=true→(Y∧((((Z6=true)∧Y)∧(((Z6=true)∧Y)∧(Y∧Y)))∧Y)),Z6=true→(Z6=true)∧Y,Z6=false→Y]:PL)) (Z5 && (within c.frm (0:Int) (30:Int))))) (Z4 && (within c.ret (-1:Int) (20:Int))))) (Z3 && (within c.arg (0:Int) (3:Int))))) (Z2 && (within c.kind (0:Int) (2:Int))))) (Z1 && (within c.obj (0:Int) (1:Int))))) (within c.proc (0:Int) (2:Int))) ⟨(fun _=>trivial),(fun hG=>⟨hG,tt⟩),(fun hG=>⟨tt,⟨⟨hG,tt⟩,tt,tt,tt⟩,tt⟩),(fun hp=>⟨hp,tt⟩),(fun _=>trivial),(fun _=>trivial),(fun hG=>⟨hG,tt⟩),(fun hG=>⟨tt,⟨⟨hG,tt⟩,tt,tt,tt⟩,tt⟩),(fun hp=>⟨hp,tt⟩),(fun _=>trivial),(fun _=>trivial),(fun hG=>⟨hG,tt⟩),(fun hG=>⟨tt,⟨⟨hG,tt⟩,tt,tt,tt⟩,tt⟩),(fun hp=>⟨hp,tt⟩),(fun _=>trivial),(fun _=>trivial),(fun hG=>⟨hG,tt⟩),(fun hG=>⟨tt,⟨⟨hG,tt⟩,tt,tt,tt⟩,tt⟩),(fun hp=>⟨hp,tt⟩),(fun _=>trivial),(fun _=>trivial),(fun hG=>⟨hG,tt⟩),(fun hG=>⟨tt,⟨⟨hG,tt⟩,tt,tt,tt⟩,tt⟩),(fun hp=>⟨hp,tt⟩),(fun _=>trivial),(fun _=>trivial),(fun hG=>⟨hG,tt⟩),(fun _=>trivial),(fun hG=>⟨hG,tt⟩),(fun hG=>⟨⟨hG,tt⟩,tt,(by have hh := hG; simp only [Bool.and_eq_true,inRange_iff] at hh; exact fits_i64 (by omega) (by omega))⟩),(fun hG=>⟨tt,⟨⟨hG,tt⟩,⟨hG,tt⟩,tt,tt⟩,tt⟩),(fun hp=>⟨hp,tt⟩),(fun _=>trivial)⟩ ?_
 refine W.ret ?_
 exact eB (show (((((((within c.proc (0:Int) (2:Int)) && (within c.obj (0:Int) (1:Int))) && (within c.kind (0:Int) (2:Int))) && (within c.arg (0:Int) (3:Int))) && (within c.ret (-1:Int) (20:Int))) && (within c.frm (0:Int) (30:Int))) && (within c.to (c.frm+(1:Int)) (30:Int)))=(isCall c) from (by rw [validCall_eq]))
theorem ent61 : Entr prog 61 := ⟨_,func61,rfl,by decide⟩
end Go.Proofs.Tryz

set_option linter.unusedSimpArgs false
set_option linter.unusedVariables false
namespace Go.Proofs.Tryz
open Go.Ab Go.RowKit
def fs39 : FnS := fnS [.s .calls] [.calls] (fun _ (h,_)=>(.b (validHistory h),[],Y))
abbrev T39 : Tab := lk [(61,fs61)]
theorem tab39 : TabOK prog T39 := (TabOK.cons ok61 ent61 TabOK.nil)
theorem ok39 : FnOK prog 39 fs39 := by
 refine FnOK.mk cok func39 rfl rfl rfl ?_
 rintro fl ⟨(h : List CallD),_⟩ hpre F hnt0 _
 have hnt : F.nt=112 := hnt0.trans ntmps39
 clear hpre
 refine W.to (⟨[(0,.sl (.calls h))],[],[999]⟩) rfl ?_
 refine W.lenOf 0 (.calls h) (by kernel_rfl) ?_
 intro hl_h; replace hl_h : List.length h≤9223372036854775807 := hl_h
 refine kE tab39 hnt [(0,.sl (.calls h))] 2 [] tt ?_
 refine W.seq ?_
 refine kE tab39 hnt [(0,.sl (.calls h)),(3,.i (0:Int))] 2 [] tt ?_
 refine W.block ?_
 refine W.loop (ι := Nat) (fun (i:Nat)=>(⟨[(0,.sl (.calls h)),(3,.i ((i:Nat):Int))],[],[999]⟩:St))
  (fun (i:Nat)=>(i≤h.length)∧(∀ j,j<i→(isCall (callAt h j) && allN j (fun k => !clash (callAt h j) (callAt h k)))=true))
  (fun (i:Nat)=>(h.length - i:Nat)) (0) ?_ ?_ ?_
 ·exact ⟨oi,(by exact upto_zero)⟩
 ·exact Sk
 ·rintro i hC0
  obtain ⟨hi,hA⟩ := hC0
  refine W.seq ?_
  refine kE tab39 hnt [(0,.sl (.calls h)),(3,.i ((i:Nat):Int)),(8,.b (decide (((i:Nat):Int)<(h.length:Int))))] 45380 [] tt ?_
  refine ifp (((i:Nat):Int)<(h.length:Int)) ?_ ?_
  ·intro h8
   refine W.skip (thenQ_normal ?_)
   refine W.seq ?_
   refine W.block ?_
   refine W.seq ?_
   refine kE tab39 hnt [(0,.sl (.calls h)),(3,.i ((i:Nat):Int)),(16,.b (!(isCall (h.getD i default))))] 63834847760 [0≤((i:Nat):Int),((i:Nat):Int)<(h.length:Int)] ⟨om,om⟩ ?_
   refine ifb (!(isCall (h.getD i default))) ?_ ?_
   ·intro h16
    refine kE tab39 hnt [(2,.b false)] 2 [] tt ?_
    refine W.ret (thenQ_ret (blockQ_ret (thenQ_ret (thenQ_ret (blockQ_ret (thenQ_ret ?_))))))
    exact eB (show false=(validHistory h) from (by unfold validHistory; symm; exact and_fr (allN_false (i := i) (by omega) (and_fl (not_f h16)))))
   ·intro n16
    refine W.skip (thenQ_normal ?_)
    refine kE tab39 hnt [(0,.sl (.calls h)),(3,.i ((i:Nat):Int)),(4,.i (0:Int))] 2 [] tt ?_
    refine W.block ?_
    refine W.loop (ι := Nat) (fun (k:Nat)=>(⟨[(0,.sl (.calls h)),(3,.i ((i:Nat):Int)),(4,.i ((k:Nat):Int))],[],[999]⟩:St))
     (fun (k:Nat)=>(k≤i)∧(∀ j,j<k→(!clash (callAt h i) (callAt h j))=true))
     (fun (k:Nat)=>(i - k:Nat)) (0) ?_ ?_ ?_
    ·exact ⟨oi,(by exact upto_zero)⟩
    ·exact Sk
    ·rintro k hC0
     obtain ⟨hk,hB⟩ := hC0
     refine W.seq ?_
     refine kE tab39 hnt [(0,.sl (.calls h)),(3,.i ((i:Nat):Int)),(4,.i ((k:Nat):Int)),(19,.b (decide (((k:Nat):Int)<((i:Nat):Int))))] 5042 [] tt ?_
     refine ifp (((k:Nat):Int)<((i:Nat):Int)) ?_ ?_
     ·intro h19
      refine W.skip (thenQ_normal ?_)
      refine W.seq ?_
      refine W.block ?_
      refine W.seq ?_
      refine kA tab39 hnt [(0,.sl (.calls h)),(3,.i ((i:Nat):Int)),(4,.i ((k:Nat):Int)),(71,.b ((((decide (((h.getD k default).frm)=((h.getD i default).frm))) || (decide (((h.getD k default).frm)=((h.getD i default).to)))) || (decide (((h.getD k default).to)=((h.getD i default).frm)))) || (decide (((h.getD k default).to)=((h.getD i default).to)))))] [] [999] 6252921964839575487961674410483554059821218007364638869142927 ((fun (Z1:Bool)=>((fun (Z2:Bool)=>((fun (Z3:Bool)=>([0≤((k:Nat):Int),((k:Nat):Int)<(h.length:Int),0≤((i:Nat):Int),((i:Nat):Int)<(h.length:Int),(!Z1)=true→Y,(!Z1)=true→Y,(!Z1)=true→((((!Z1)=true)∧Y)∧((((!Z1)=true)∧Y)∧((0≤((k:Nat):Int))∧(((k:Nat):Int)<(h.length:Int))))),(!Z1)=true→(((!Z1)=true)∧Y),(!Z1)=true→(((!Z1)=true)∧Y),(!Z1)=true→Y,(!Z1)=true→Y,(!Z1)=true→((((!Z1)=true)∧Y)∧((((!Z1)=true)∧Y)∧((0≤((i:Nat):Int))∧(((i:Nat):Int)<(h.length:Int))))),(!Z1)=true→(((!Z1)=true)∧Y),(!Z1)=true→(((!Z1)=true)∧Y),(!Z1)=true→((((!Z1)=true)∧Y)∧((((!Z1)=true)∧Y)∧Y)),Z1=true→Y,Z1=false→((!Z1)=true)∧Y,(!Z2)=true→Y,(!Z2)=true→Y,(!Z2)=true→((((!Z2)=true)∧Y)∧((((!Z2)=true)∧Y)∧((0≤((k:Nat):Int))∧(((k:Nat):Int)<(h.length:Int))))),(!Z2)=true→(((!Z2)=true)∧Y),(!Z2)=true→(((!Z2)=true)∧Y),(!Z2)=true→Y,(!Z2)=true→Y,(!Z2)=true→((((!Z2)=true)∧Y)∧((((!Z2)=true)∧Y)∧((0≤((i:Nat):Int))∧(((i:Nat):Int)<(h.length:Int))))),(!Z2)=true→(((!Z2)=true)∧Y),(!Z2)=true→(((!Z2)=true)∧Y),(!Z2)=true→((((!Z2)=true)∧Y)∧((((!Z2)=true)∧Y)∧Y)),Z2=true→Y,Z2=false→((!Z2)=true)∧Y,(!Z3)=true→Y,(!Z3)=true→Y,(!Z3)=true→((((!Z3)=true)∧Y)∧((((!Z3)=true)∧Y)∧((0≤((k:Nat):Int))∧(((k:Nat):Int)<(h.length:Int))))),(!Z3)=true→(((!Z3)=true)∧Y),(!Z3)=true→(((!Z3)=true)∧Y),(!Z3)=true→Y,(!Z3)=true→Y,(!Z3)=true→((((!Z3)=true)∧Y)∧((((!Z3)=true)∧Y)∧((0≤((i:Nat):Int))∧(((i:Nat):Int)<(h.length:Int))))),(!Z3)=true→(((!Z3)=true)∧Y),(!Z3)=true→(((!Z3)=true)∧Y),(!Z3)=true→((((!Z3)=true)∧Y)∧((((!Z3)=true)∧Y)∧Y)),Z3=true→Y,Z3=false→((!Z3)=true)∧Y]:PL)) (Z2 || (decide (((h.getD k default).to)=((h.getD i default).frm)))))) (Z1 || (decide (((h.getD k default).frm)=((h.getD i default).to)))))) (decide (((h.getD k default).frm)=((h.getD i default).frm)))) ⟨om,om,om,om,(fun _=>trivial),(fun _=>trivial),(fun hG=>⟨⟨hG,tt⟩,⟨hG,tt⟩,(by have hg0 : ¬ (((h.getD k default).frm)=((h.getD i default).frm)) := of_decide_eq_false (not_f hG); omega),(by have hg0 : ¬ (((h.getD k default).frm)=((h.getD i default).frm)) := of_decide_eq_false (not_f hG); omega)⟩),(fun hG=>⟨hG,tt⟩),(fun hG=>⟨hG,tt⟩),(fun _=>trivial),(fun _=>trivial),(fun hG=>⟨⟨hG,tt⟩,⟨hG,tt⟩,(by have hg0 : ¬ (((h.getD k default).frm)=((h.getD i default).frm)) := of_decide_eq_false (not_f hG); omega),(by have hg0 : ¬ (((h.getD k default).frm)=((h.getD i default).frm)) := of_decide_eq_false (not_f hG); omega)⟩),(fun hG=>⟨hG,tt⟩),(fun hG=>⟨hG,tt⟩),(fun hG=>⟨⟨hG,tt⟩,⟨hG,tt⟩,tt⟩),(fun _=>trivial),(fun hp=>⟨(not_t hp),tt⟩),(fun _=>trivial),(fun _=>trivial),(fun hG=>⟨⟨hG,tt⟩,⟨hG,tt⟩,(by have hg0 : ¬ (((h.getD k default).frm)=((h.getD i default).frm)) := of_decide_eq_false (or_l (not_f hG)); have hg1 : ¬ (((h.getD k default).frm)=((h.getD i default).to)) := of_decide_eq_false (or_r (not_f hG)); omega),(by have hg0 : ¬ (((h.getD k default).frm)=((h.getD i default).frm)) := of_decide_eq_false (or_l (not_f hG)); have hg1 : ¬ (((h.getD k default).frm)=((h.getD i default).to)) := of_decide_eq_false (or_r (not_f hG)); omega)⟩),(fun hG=>⟨hG,tt⟩),(fun hG=>⟨hG,tt⟩),(fun _=>trivial),(fun _=>trivial),(fun hG=>⟨⟨hG,tt⟩,⟨hG,tt⟩,(by have hg0 : ¬ (((h.getD k default).frm)=((h.getD i default).frm)) := of_decide_eq_false (or_l (not_f hG)); have hg1 : ¬ (((h.getD k default).frm)=((h.getD i default).to)) := of_decide_eq_false (or_r (not_f hG)); omega),(by have hg0 : ¬ (((h.getD k default).frm)=((h.getD i default).frm)) := of_decide_eq_false (or_l (not_f hG)); have hg1 : ¬ (((h.getD k default).frm)=((h.getD i default).to)) := of_decide_eq_false (or_r (not_f hG)); omega)⟩),(fun hG=>⟨hG,tt⟩),(fun hG=>⟨hG,tt⟩),(fun hG=>⟨⟨hG,tt⟩,⟨hG,tt⟩,tt⟩),(fun _=>trivial),(fun hp=>⟨(not_t hp),tt⟩),(fun _=>trivial),(fun _=>trivial),(fun hG=>⟨⟨hG,tt⟩,⟨hG,tt⟩,(by have hg0 : ¬ (((h.getD k default).frm)=((h.getD i default).frm)) := of_decide_eq_false (or_l (or_l (not_f hG))); have hg1 : ¬ (((h.getD k default).frm)=((h.getD i default).to)) := of_decide_eq_false (or_r (or_l (not_f hG))); have hg2 : ¬ (((h.getD k default).to)=((h.getD i default).frm)) := of_decide_eq_false (or_r (not_f hG)); omega),(by have hg0 : ¬ (((h.getD k default).frm)=((h.getD i default).frm)) := of_decide_eq_false (or_l (or_l (not_f hG))); have hg1 : ¬ (((h.getD k default).frm)=((h.getD i default).to)) := of_decide_eq_false (or_r (or_l (not_f hG))); have hg2 : ¬ (((h.getD k default).to)=((h.getD i default).frm)) := of_decide_eq_false (or_r (not_f hG)); omega)⟩),(fun hG=>⟨hG,tt⟩),(fun hG=>⟨hG,tt⟩),(fun _=>trivial),(fun _=>trivial),(fun hG=>⟨⟨hG,tt⟩,⟨hG,tt⟩,(by have hg0 : ¬ (((h.getD k default).frm)=((h.getD i default).frm)) := of_decide_eq_false (or_l (or_l (not_f hG))); have hg1 : ¬ (((h.getD k default).frm)=((h.getD i default).to)) := of_decide_eq_false (or_r (or_l (not_f hG))); have hg2 : ¬ (((h.getD k default).to)=((h.getD i default).frm)) := of_decide_eq_false (or_r (not_f hG)); omega),(by have hg0 : ¬ (((h.getD k default).frm)=((h.getD i default).frm)) := of_decide_eq_false (or_l (or_l (not_f hG))); have hg1 : ¬ (((h.getD k default).frm)=((h.getD i default).to)) := of_decide_eq_false (or_r (or_l (not_f hG))); have hg2 : ¬ (((h.getD k default).to)=((h.getD i default).frm)) := of_decide_eq_false (or_r (not_f hG)); omega)⟩),(fun hG=>⟨hG,tt⟩),(fun hG=>⟨hG,tt⟩),(fun hG=>⟨⟨hG,tt⟩,⟨hG,tt⟩,tt⟩),(fun _=>trivial),(fun hp=>⟨(not_t hp),tt⟩)⟩ ?_
      refine ifb ((((decide (((h.getD k default).frm)=((h.getD i default).frm))) || (decide (((h.getD k default).frm)=((h.getD i default).to)))) || (decide (((h.getD k default).to)=((h.getD i default).frm)))) || (decide (((h.getD k default).to)=((h.getD i default).to)))) ?_ ?_
      ·intro h71
       refine kE tab39 hnt [(2,.b false)] 2 [] tt ?_
       refine W.ret (thenQ_ret (blockQ_ret (thenQ_ret (thenQ_ret (blockQ_ret (blockQ_ret (thenQ_ret (thenQ_ret (blockQ_ret (thenQ_ret ?_))))))))))
       exact eB (show false=(validHistory h) from (by unfold validHistory; symm; exact and_fr (allN_false (i := i) (by omega) (and_fr (allN_false (i := k) (by omega) (clash_true1 h71))))))
      ·intro n71
       have n71_0 : ¬ (((h.getD k default).frm)=((h.getD i default).frm)) := of_decide_eq_false (or_l (or_l (or_l n71)))
       have n71_1 : ¬ (((h.getD k default).frm)=((h.getD i default).to)) := of_decide_eq_false (or_r (or_l (or_l n71)))
       have n71_2 : ¬ (((h.getD k default).to)=((h.getD i default).frm)) := of_decide_eq_false (or_r (or_l n71))
       have n71_3 : ¬ (((h.getD k default).to)=((h.getD i default).to)) := of_decide_eq_false (or_r n71)
       refine W.skip (thenQ_normal ?_)
       refine kA tab39 hnt [(0,.sl (.calls h)),(3,.i ((i:Nat):Int)),(4,.i ((k:Nat):Int)),(108,.b (((decide (((h.getD k default).proc)=((h.getD i default).proc))) && (decide (((h.getD i default).frm)<((h.getD k default).to)))) && (decide (((h.getD k default).frm)<((h.getD i default).to)))))] [] [999] 30370040230606345639864733959946572526506339820 ((fun (Z1:Bool)=>((fun (Z2:Bool)=>([0≤((k:Nat):Int),((k:Nat):Int)<(h.length:Int),0≤((i:Nat):Int),((i:Nat):Int)<(h.length:Int),Z1=true→Y,Z1=true→Y,Z1=true→(((Z1=true)∧Y)∧(((Z1=true)∧Y)∧((0≤((k:Nat):Int))∧(((k:Nat):Int)<(h.length:Int))))),Z1=true→((Z1=true)∧Y),Z1=true→((Z1=true)∧Y),Z1=true→Y,Z1=true→Y,Z1=true→(((Z1=true)∧Y)∧(((Z1=true)∧Y)∧((0≤((i:Nat):Int))∧(((i:Nat):Int)<(h.length:Int))))),Z1=true→((Z1=true)∧Y),Z1=true→((Z1=true)∧Y),Z1=true→(((Z1=true)∧Y)∧(((Z1=true)∧Y)∧Y)),Z1=true→(Z1=true)∧Y,Z1=false→Y,Z2=true→Y,Z2=true→Y,Z2=true→(((Z2=true)∧Y)∧(((Z2=true)∧Y)∧((0≤((i:Nat):Int))∧(((i:Nat):Int)<(h.length:Int))))),Z2=true→((Z2=true)∧Y),Z2=true→((Z2=true)∧Y),Z2=true→Y,Z2=true→Y,Z2=true→(((Z2=true)∧Y)∧(((Z2=true)∧Y)∧((0≤((k:Nat):Int))∧(((k:Nat):Int)<(h.length:Int))))),Z2=true→((Z2=true)∧Y),Z2=true→((Z2=true)∧Y),Z2=true→(((Z2=true)∧Y)∧(((Z2=true)∧Y)∧Y)),Z2=true→(Z2=true)∧Y,Z2=false→Y]:PL)) (Z1 && (decide (((h.getD i default).frm)<((h.getD k default).to)))))) (decide (((h.getD k default).proc)=((h.getD i default).proc)))) ⟨om,om,om,om,(fun _=>trivial),(fun _=>trivial),(fun hG=>⟨⟨hG,tt⟩,⟨hG,tt⟩,(by have hg0 : ((h.getD k default).proc)=((h.getD i default).proc) := of_decide_eq_true hG; omega),(by have hg0 : ((h.getD k default).proc)=((h.getD i default).proc) := of_decide_eq_true hG; omega)⟩),(fun hG=>⟨hG,tt⟩),(fun hG=>⟨hG,tt⟩),(fun _=>trivial),(fun _=>trivial),(fun hG=>⟨⟨hG,tt⟩,⟨hG,tt⟩,(by have hg0 : ((h.getD k default).proc)=((h.getD i default).proc) := of_decide_eq_true hG; omega),(by have hg0 : ((h.getD k default).proc)=((h.getD i default).proc) := of_decide_eq_true hG; omega)⟩),(fun hG=>⟨hG,tt⟩),(fun hG=>⟨hG,tt⟩),(fun hG=>⟨⟨hG,tt⟩,⟨hG,tt⟩,tt⟩),(fun hp=>⟨hp,tt⟩),(fun _=>trivial),(fun _=>trivial),(fun _=>trivial),(fun hG=>⟨⟨hG,tt⟩,⟨hG,tt⟩,(by have hg0 : ((h.getD k default).proc)=((h.getD i default).proc) := of_decide_eq_true (and_l hG); have hg1 : ((h.getD i default).frm)<((h.getD k default).to) := of_decide_eq_true (and_r hG); omega),(by have hg0 : ((h.getD k default).proc)=((h.getD i default).proc) := of_decide_eq_true (and_l hG); have hg1 : ((h.getD i default).frm)<((h.getD k default).to) := of_decide_eq_true (and_r hG); omega)⟩),(fun hG=>⟨hG,tt⟩),(fun hG=>⟨hG,tt⟩),(fun _=>trivial),(fun _=>trivial),(fun hG=>⟨⟨hG,tt⟩,⟨hG,tt⟩,(by have hg0 : ((h.getD k default).proc)=((h.getD i default).proc) := of_decide_eq_true (and_l hG); have hg1 : ((h.getD i default).frm)<((h.getD k default).to) := of_decide_eq_true (and_r hG); omega),(by have hg0 : ((h.getD k default).proc)=((h.getD i default).proc) := of_decide_eq_true (and_l hG); have hg1 : ((h.getD i default).frm)<((h.getD k default).to) := of_decide_eq_true (and_r hG); omega)⟩),(fun hG=>⟨hG,tt⟩),(fun hG=>⟨hG,tt⟩),(fun hG=>⟨⟨hG,tt⟩,⟨hG,tt⟩,tt⟩),(fun hp=>⟨hp,tt⟩),(fun _=>trivial)⟩ ?_
       refine ifb (((decide (((h.getD k default).proc)=((h.getD i default).proc))) && (decide (((h.getD i default).frm)<((h.getD k default).to)))) && (decide (((h.getD k default).frm)<((h.getD i default).to)))) ?_ ?_
       ·intro h108
        have h108_0 : ((h.getD k default).proc)=((h.getD i default).proc) := of_decide_eq_true (and_l (and_l h108))
        have h108_1 : ((h.getD i default).frm)<((h.getD k default).to) := of_decide_eq_true (and_r (and_l h108))
        have h108_2 : ((h.getD k default).frm)<((h.getD i default).to) := of_decide_eq_true (and_r h108)
        refine kE tab39 hnt [(2,.b false)] 2 [] tt ?_
        refine W.ret (blockQ_ret (thenQ_ret (thenQ_ret (blockQ_ret (blockQ_ret (thenQ_ret (thenQ_ret (blockQ_ret (thenQ_ret ?_)))))))))
        exact eB (show false=(validHistory h) from (by unfold validHistory; symm; exact and_fr (allN_false (i := i) (by omega) (and_fr (allN_false (i := k) (by omega) (clash_true2 h108))))))
       ·intro n108
        refine W.skip (blockQ_normal (thenQ_normal ?_))
        refine lE tab39 hnt [(0,.sl (.calls h)),(3,.i ((i:Nat):Int)),(4,.i (((k+1):Nat):Int))] 15869 [Fits .i64 (((k+1):Nat):Int)] fi ?_
        refine thenQ_normal ?_
        refine ⟨((k+1)),⟨oi,(by exact upto_succ hB (clash_false n71 n108))⟩,(show i - (k+1)<i - k from o2),?_⟩
        exact Sk
     ·intro n19
      refine W.exit (thenQ_exit (thenQ_exit (blockQ_hit ?_)))
      refine blockQ_normal (thenQ_normal ?_)
      refine lE tab39 hnt [(0,.sl (.calls h)),(3,.i (((i+1):Nat):Int))] 15869 [Fits .i64 (((i+1):Nat):Int)] fi ?_
      refine thenQ_normal ?_
      refine ⟨((i+1)),⟨oi,(by exact upto_succ hA (and_t (not_g n16) (allN_true (fun j hj=>hB j (by omega)))))⟩,(show h.length - (i+1)<h.length - i from o2),?_⟩
      exact Sk
  ·intro n8
   refine W.exit (thenQ_exit (thenQ_exit (blockQ_hit ?_)))
   refine thenQ_normal ?_
   refine kE tab39 hnt [(2,.b (decide ((h.length:Int)≤(6:Int))))] 123140 [] tt ?_
   refine W.ret ?_
   exact eB (show (decide ((h.length:Int)≤(6:Int)))=(validHistory h) from (by unfold validHistory; symm; rw [allN_true (fun j hj=>hA j (by omega)),Bool.and_true]; exact bool_ext (by simp only [decide_eq_true_eq]; omega)))
theorem ent39 : Entr prog 39 := ⟨_,func39,rfl,by decide⟩
end Go.Proofs.Tryz

set_option linter.unusedSimpArgs false
set_option linter.unusedVariables false
namespace Go.Proofs.Tryz
open Go.Ab Go.RowKit
def fs22 : FnS := fnS [.o] [.str] (fun _ (s,_)=>(.tup [.sl (.calls (outS s.data.toList)),.b (validHistory (outS s.data.toList))],[],(s.size≤1999999)))
abbrev T22 : Tab := lk [(21,fs21),(39,fs39),(43,fs43)]
theorem tab22 : TabOK prog T22 := (TabOK.cons ok21 ent21 (TabOK.cons ok39 ent39 (TabOK.cons ok43 ent43 TabOK.nil)))
abbrev v220:AV:=.own 7 (List.length ([] : List CallD))
abbrev v221 (s:ByteArray):AV:=.sl (.strs (splitB8 (32:Int) s))
theorem ok22 : FnOK prog 22 fs22 := by
 refine FnOK.mk cok func22 rfl rfl rfl ?_
 rintro fl ⟨(s:ByteArray),_⟩ hpre F hnt0 _
 have hnt : F.nt=29 := hnt0.trans ntmps22
 replace hpre : (s.size≤1999999) := hpre
 have hz := hpre
 refine W.to (⟨[(0,.v (.string s))],[],[999]⟩) rfl ?_
 have hp : ∀ i,(List.getD (splitB8 32 s) i default).size≤s.size := split8_piece 32 s
 have hsl := split8_len 32 s
 refine kE tab22 hnt [(0,.v (.string s))] 20 [] tt ?_
 refine kS tab22 hnt [(0,.v (.string s)),(4,v220)] [(7,⟨59,.row (.calls ([] : List CallD))⟩)] [7,999] 20 [] tt ?_ [7]
 refine W.seq ?_
 refine kE tab22 hnt [(0,.v (.string s)),(4,v220),(9,.b (!(eqS s nEmpty)))] 560 [] tt ?_
 refine ifb (!(eqS s nEmpty)) ?_ ?_
 ·intro h9
  refine kS tab22 hnt [(4,v220),(5,(v221 s))] [(7,⟨59,.row (.calls ([] : List CallD))⟩)] [11,7,999] 107927957 [0≤(32:Int)∧(32:Int)≤255,s.size≤2000000,(List.length (splitB8 (32:Int) s))=(List.length (splitB8 (32:Int) s))] ⟨om,(by omega),rfl⟩ ?_
  refine kE tab22 hnt [(4,v220),(5,(v221 s)),(6,.i (0:Int))] 2 [] tt ?_
  refine W.block ?_
  refine W.loop (ι := Nat × (List CallD)) (fun (x : Nat × (List CallD))=>match x with | (i,o)=>(⟨[(4,.own 7 o.length),(5,(v221 s)),(6,.i ((i:Nat):Int))],[(7,⟨59,.row (.calls o)⟩)],[7,999]⟩:St))
   (fun (x : Nat × (List CallD))=>match x with | (i,o)=>(i≤(splitB8 32 s).length)∧(o=readUpS (splitB8 32 s) i))
   (fun (x : Nat × (List CallD))=>match x with | (i,o)=>((splitB8 32 s).length - i:Nat)) (0,([] : List CallD)) ?_ ?_ ?_
  ·exact ⟨oi,(by rfl)⟩
  ·exact Sk
  ·rintro ⟨i,o⟩ hC0
   obtain ⟨hi,ho⟩ := hC0
   have hol : o.length=i := by rw [ho]; exact readUp_lenS hi
   have hpi := hp i
   refine W.seq ?_
   refine kE tab22 hnt [(4,.own 7 o.length),(5,(v221 s)),(6,.i ((i:Nat):Int)),(15,.b (decide (((i:Nat):Int)<(((List.length (splitB8 (32:Int) s)):Nat):Int))))] 45380 [] tt ?_
   refine ifp (((i:Nat):Int)<(((List.length (splitB8 (32:Int) s)):Nat):Int)) ?_ ?_
   ·intro h15
    refine W.skip (thenQ_normal ?_)
    refine W.seq ?_
    refine W.block ?_
    refine lS tab22 hnt [(4,.own 25 (List.length (o++([(readS (List.getD (splitB8 (32:Int) s) i default).data.toList)])))),(5,(v221 s)),(6,.i ((i:Nat):Int))] [(25,⟨59,.row (.calls (o++([(readS (List.getD (splitB8 (32:Int) s) i default).data.toList)])))⟩)] [25,24,7,999] 363789116852817377 [0≤((i:Nat):Int),((i:Nat):Int)<(((List.length (splitB8 (32:Int) s)):Nat):Int),(List.getD (splitB8 (32:Int) s) i default).size≤2000000,o.length=o.length,(o.length+(List.length ([(readS (List.getD (splitB8 (32:Int) s) i default).data.toList)]))) * 56≤140737488355328] ⟨om,om,(by omega),rfl,(by (try simp only [List.length_append,List.length_cons,List.length_nil,List.length_set]); omega)⟩ ?_ [25]
    refine blockQ_normal (thenQ_normal ?_)
    refine lE tab22 hnt [(4,.own 25 (List.length (o++([(readS (List.getD (splitB8 (32:Int) s) i default).data.toList)])))),(5,(v221 s)),(6,.i (((i+1):Nat):Int))] 15869 [Fits .i64 (((i+1):Nat):Int)] (by exact fits_i64 (by omega) (by omega)) ?_
    refine thenQ_normal ?_
    refine ⟨((i+1),(o++([(readS (List.getD (splitB8 (32:Int) s) i default).data.toList)]))),⟨oi,(by exact readUpS_next ho (by omega))⟩,(show (splitB8 32 s).length - (i+1)<(splitB8 32 s).length - i from o2),?_⟩
    exact Sub.of [(7,25)] (@cast (((((25:Nat)=25)∧((List.length (o++([(readS (List.getD (splitB8 (32:Int) s) i default).data.toList)])))=(List.length (o++([(readS (List.getD (splitB8 (32:Int) s) i default).data.toList)]))))∧((7:Nat) ∈ ([7,999] : List Nat)))∧(Sd (.strs (splitB8 (32:Int) s)))∧(Si (((i+1):Nat):Int))∧Y)∧((((59:Nat)=59)∧(Sd (.calls (o++([(readS (List.getD (splitB8 (32:Int) s) i default).data.toList)]))))∧((7:Nat) ∈ ([7,999] : List Nat)))∧Y)∧(true=true)∧(true=true)) _ (by kernel_rfl) ⟨⟨⟨rfl,rfl,(by decide)⟩,rfl,rfl,tt⟩,⟨⟨rfl,rfl,(by decide)⟩,tt⟩,rfl,rfl⟩)
   ·intro n15
    have hO := outS_some (s := s) (fun e=>Bool.false_ne_true ((not_f h9).symm.trans e)) ho (by omega)
    refine W.exit (thenQ_exit (thenQ_exit (blockQ_hit ?_)))
    refine thenQ_normal ?_
    refine kE tab22 hnt [(2,.own 7 o.length),(3,.b (validHistory o))] 95894057 [o.length=o.length] rfl ?_
    refine W.ret ?_
    exact endQ_ret (.tup [.own 7 o.length,.b (validHistory o)]) (by kernel_rfl) (@cast (((o.length=o.length)∧((.calls o:Dat)=.calls (outS s.data.toList))∧((7:Nat) ∉ ([] : List Nat)))∧((.bool (validHistory o):Value)=.bool (validHistory (outS s.data.toList)))∧Y) _ (by kernel_rfl) ⟨⟨rfl,(congrArg Dat.calls (by first | exact hO | (rw [hO]))),(by decide)⟩,(congrArg Value.bool (by first | exact hO | (rw [hO]))),tt⟩)
 ·intro n9
  have hO := outS_none (s := s) (not_g n9)
  refine W.skip (thenQ_normal ?_)
  refine kE tab22 hnt [(2,v220),(3,.b (validHistory ([] : List CallD)))] 95894057 [(List.length ([] : List CallD))=(List.length ([] : List CallD))] rfl ?_
  refine W.ret ?_
  exact endQ_ret (.tup [.own 7 (List.length ([] : List CallD)),.b (validHistory ([] : List CallD))]) (by kernel_rfl) (@cast ((((List.length ([] : List CallD))=(List.length ([] : List CallD)))∧((.calls ([] : List CallD):Dat)=.calls (outS s.data.toList))∧((7:Nat) ∉ ([] : List Nat)))∧((.bool (validHistory ([] : List CallD)):Value)=.bool (validHistory (outS s.data.toList)))∧Y) _ (by kernel_rfl) ⟨⟨rfl,(congrArg Dat.calls (by first | exact hO | (rw [hO]))),(by decide)⟩,(congrArg Value.bool (by first | exact hO | (rw [hO]))),tt⟩)
theorem ent22 : Entr prog 22 := ⟨_,func22,rfl,by decide⟩
end Go.Proofs.Tryz

set_option linter.unusedSimpArgs false
set_option linter.unusedVariables false
namespace Go.Proofs.Tryz
open Go.Ab Go.RowKit
def fs23 : FnS := fnS [.o] [.str] (fun _ (s,_)=>(.b (isObject s),[],Y))
abbrev T23 : Tab := lk []
theorem tab23 : TabOK prog T23 := TabOK.nil
theorem ok23 : FnOK prog 23 fs23 := by
 refine FnOK.mk cok func23 rfl rfl rfl ?_
 rintro fl ⟨(s:ByteArray),_⟩ hpre F hnt0 _
 have hnt : F.nt=25 := hnt0.trans ntmps23
 clear hpre
 refine W.to (⟨[(0,.v (.string s))],[],[999]⟩) rfl ?_
 refine kE tab23 hnt [(0,.v (.string s))] 2 [] tt ?_
 refine kE tab23 hnt [(2,.b ((((((eqS s nRegister) || (eqS s nQueue)) || (eqS s nStack)) || (eqS s nCounter)) || (eqS s nSet)) || (eqS s nMost)))] 703760493419878444639027684644512 ((fun (Z1:Bool)=>((fun (Z2:Bool)=>((fun (Z3:Bool)=>((fun (Z4:Bool)=>((fun (Z5:Bool)=>([(!Z1)=true→Y,(!Z1)=true→((((!Z1)=true)∧Y)∧(Y∧Y)),Z1=true→Y,Z1=false→((!Z1)=true)∧Y,(!Z2)=true→Y,(!Z2)=true→((((!Z2)=true)∧Y)∧(Y∧Y)),Z2=true→Y,Z2=false→((!Z2)=true)∧Y,(!Z3)=true→Y,(!Z3)=true→((((!Z3)=true)∧Y)∧(Y∧Y)),Z3=true→Y,Z3=false→((!Z3)=true)∧Y,(!Z4)=true→Y,(!Z4)=true→((((!Z4)=true)∧Y)∧(Y∧Y)),Z4=true→Y,Z4=false→((!Z4)=true)∧Y,(!Z5)=true→Y,(!Z5)=true→((((!Z5)=true)∧Y)∧(Y∧Y)),Z5=true→Y,Z5=false→((!Z5)=true)∧Y]:PL)) (Z4 || (eqS s nSet)))) (Z3 || (eqS s nCounter)))) (Z2 || (eqS s nStack)))) (Z1 || (eqS s nQueue)))) (eqS s nRegister)) ⟨(fun _=>trivial),(fun hG=>⟨⟨hG,tt⟩,tt,tt⟩),(fun _=>trivial),(fun hp=>⟨(not_t hp),tt⟩),(fun _=>trivial),(fun hG=>⟨⟨hG,tt⟩,tt,tt⟩),(fun _=>trivial),(fun hp=>⟨(not_t hp),tt⟩),(fun _=>trivial),(fun hG=>⟨⟨hG,tt⟩,tt,tt⟩),(fun _=>trivial),(fun hp=>⟨(not_t hp),tt⟩),(fun _=>trivial),(fun hG=>⟨⟨hG,tt⟩,tt,tt⟩),(fun _=>trivial),(fun hp=>⟨(not_t hp),tt⟩),(fun _=>trivial),(fun hG=>⟨⟨hG,tt⟩,tt,tt⟩),(fun _=>trivial),(fun hp=>⟨(not_t hp),tt⟩)⟩ ?_
 refine W.ret ?_
 exact eB (show ((((((eqS s nRegister) || (eqS s nQueue)) || (eqS s nStack)) || (eqS s nCounter)) || (eqS s nSet)) || (eqS s nMost))=(isObject s) from (by first | rfl | simp_all))
theorem ent23 : Entr prog 23 := ⟨_,func23,rfl,by decide⟩
end Go.Proofs.Tryz

set_option linter.unusedSimpArgs false
set_option linter.unusedVariables false
namespace Go.Proofs.Tryz
open Go.Ab Go.RowKit
def fs25 : FnS := fnS [.s .calls] [.calls] (fun _ (h,_)=>(.i (widthS h),[],Y))
abbrev T25 : Tab := lk []
theorem tab25 : TabOK prog T25 := TabOK.nil
theorem ok25 : FnOK prog 25 fs25 := by
 refine FnOK.mk cok func25 rfl rfl rfl ?_
 rintro fl ⟨(h : List CallD),_⟩ hpre F hnt0 _
 have hnt : F.nt=49 := hnt0.trans ntmps25
 clear hpre
 refine W.to (⟨[(0,.sl (.calls h))],[],[999]⟩) rfl ?_
 refine W.lenOf 0 (.calls h) (by kernel_rfl) ?_
 intro hl_h; replace hl_h : List.length h≤9223372036854775807 := hl_h
 refine kE tab25 hnt [(0,.sl (.calls h))] 2 [] tt ?_
 refine kE tab25 hnt [(0,.sl (.calls h)),(3,.i (0:Int))] 2 [] tt ?_
 refine W.seq ?_
 refine kE tab25 hnt [(0,.sl (.calls h)),(3,.i (0:Int)),(4,.i (0:Int))] 2 [] tt ?_
 refine W.block ?_
 refine W.loop (ι := Int × Nat) (fun (x : Int × Nat)=>match x with | (out,i)=>(⟨[(0,.sl (.calls h)),(3,.i out),(4,.i ((i:Nat):Int))],[],[999]⟩:St))
  (fun (x : Int × Nat)=>match x with | (out,i)=>(i≤h.length)∧(out=maxN i (fun jj=>openAt h (callAt h jj).frm)))
  (fun (x : Int × Nat)=>match x with | (out,i)=>(h.length - i:Nat)) ((0:Int),0) ?_ ?_ ?_
 ·exact ⟨oi,(by rfl)⟩
 ·exact Sk
 ·rintro ⟨out,i⟩ hC0
  obtain ⟨hi,ho⟩ := hC0
  refine W.seq ?_
  refine kE tab25 hnt [(0,.sl (.calls h)),(3,.i out),(4,.i ((i:Nat):Int)),(10,.b (decide (((i:Nat):Int)<(h.length:Int))))] 45380 [] tt ?_
  refine ifp (((i:Nat):Int)<(h.length:Int)) ?_ ?_
  ·intro h10
   refine W.skip (thenQ_normal ?_)
   refine W.seq ?_
   refine W.block ?_
   refine kE tab25 hnt [(0,.sl (.calls h)),(3,.i out),(4,.i ((i:Nat):Int)),(5,.i (0:Int))] 2 [] tt ?_
   refine W.seq ?_
   refine kE tab25 hnt [(0,.sl (.calls h)),(3,.i out),(4,.i ((i:Nat):Int)),(5,.i (0:Int)),(6,.i (0:Int))] 2 [] tt ?_
   refine W.block ?_
   refine W.loop (ι := Int × Nat) (fun (x : Int × Nat)=>match x with | (n,k)=>(⟨[(0,.sl (.calls h)),(3,.i out),(4,.i ((i:Nat):Int)),(5,.i n),(6,.i ((k:Nat):Int))],[],[999]⟩:St))
    (fun (x : Int × Nat)=>match x with | (n,k)=>(k≤h.length)∧(n=(((h.take k).countP (openP (callAt h i).frm):Nat):Int)))
    (fun (x : Int × Nat)=>match x with | (n,k)=>(h.length - k:Nat)) ((0:Int),0) ?_ ?_ ?_
   ·exact ⟨oi,(by rfl)⟩
   ·exact Sk
   ·rintro ⟨n,k⟩ hC0
    obtain ⟨hk,hn⟩ := hC0
    have hcb := take_count_le h k (openP (callAt h i).frm)
    refine W.seq ?_
    refine kE tab25 hnt [(0,.sl (.calls h)),(3,.i out),(4,.i ((i:Nat):Int)),(5,.i n),(6,.i ((k:Nat):Int)),(16,.b (decide (((k:Nat):Int)<(h.length:Int))))] 45380 [] tt ?_
    refine ifp (((k:Nat):Int)<(h.length:Int)) ?_ ?_
    ·intro h16
     refine W.skip (thenQ_normal ?_)
     refine W.seq ?_
     refine W.block ?_
     refine kA tab25 hnt [(0,.sl (.calls h)),(3,.i out),(4,.i ((i:Nat):Int)),(5,.i n),(6,.i ((k:Nat):Int)),(42,.b ((decide (((h.getD k default).frm)≤((h.getD i default).frm))) && (decide (((h.getD i default).frm)<((h.getD k default).to)))))] [] [999] 147505334113394400672816853452977 ((fun (Z1:Bool)=>([0≤((k:Nat):Int),((k:Nat):Int)<(h.length:Int),0≤((i:Nat):Int),((i:Nat):Int)<(h.length:Int),Z1=true→Y,Z1=true→Y,Z1=true→(((Z1=true)∧Y)∧(((Z1=true)∧Y)∧((0≤((i:Nat):Int))∧(((i:Nat):Int)<(h.length:Int))))),Z1=true→((Z1=true)∧Y),Z1=true→((Z1=true)∧Y),Z1=true→Y,Z1=true→Y,Z1=true→(((Z1=true)∧Y)∧(((Z1=true)∧Y)∧((0≤((k:Nat):Int))∧(((k:Nat):Int)<(h.length:Int))))),Z1=true→((Z1=true)∧Y),Z1=true→((Z1=true)∧Y),Z1=true→(((Z1=true)∧Y)∧(((Z1=true)∧Y)∧Y)),Z1=true→(Z1=true)∧Y,Z1=false→Y]:PL)) (decide (((h.getD k default).frm)≤((h.getD i default).frm)))) ⟨om,om,om,om,(fun _=>trivial),(fun _=>trivial),(fun hG=>⟨⟨hG,tt⟩,⟨hG,tt⟩,(by have hg0 : ((h.getD k default).frm)≤((h.getD i default).frm) := of_decide_eq_true hG; omega),(by have hg0 : ((h.getD k default).frm)≤((h.getD i default).frm) := of_decide_eq_true hG; omega)⟩),(fun hG=>⟨hG,tt⟩),(fun hG=>⟨hG,tt⟩),(fun _=>trivial),(fun _=>trivial),(fun hG=>⟨⟨hG,tt⟩,⟨hG,tt⟩,(by have hg0 : ((h.getD k default).frm)≤((h.getD i default).frm) := of_decide_eq_true hG; omega),(by have hg0 : ((h.getD k default).frm)≤((h.getD i default).frm) := of_decide_eq_true hG; omega)⟩),(fun hG=>⟨hG,tt⟩),(fun hG=>⟨hG,tt⟩),(fun hG=>⟨⟨hG,tt⟩,⟨hG,tt⟩,tt⟩),(fun hp=>⟨hp,tt⟩),(fun _=>trivial)⟩ ?_
     refine ifb ((decide (((h.getD k default).frm)≤((h.getD i default).frm))) && (decide (((h.getD i default).frm)<((h.getD k default).to)))) ?_ ?_
     ·intro h42
      have h42_0 : ((h.getD k default).frm)≤((h.getD i default).frm) := of_decide_eq_true (and_l h42)
      have h42_1 : ((h.getD i default).frm)<((h.getD k default).to) := of_decide_eq_true (and_r h42)
      refine lE tab25 hnt [(0,.sl (.calls h)),(3,.i out),(4,.i ((i:Nat):Int)),(5,.i (n+(1:Int))),(6,.i ((k:Nat):Int))] 15869 [Fits .i64 (n+(1:Int))] fi ?_
      refine blockQ_normal (thenQ_normal ?_)
      refine lE tab25 hnt [(0,.sl (.calls h)),(3,.i out),(4,.i ((i:Nat):Int)),(5,.i (n+(1:Int))),(6,.i (((k+1):Nat):Int))] 15869 [Fits .i64 (((k+1):Nat):Int)] fi ?_
      refine thenQ_normal ?_
      refine ⟨((n+(1:Int)),(k+1)),⟨oi,(by rw [take_count (openP (callAt h i).frm) (by omega),hn]; first | (rw [if_pos (show openP (callAt h i).frm (h.getD k default)=true from h42)]) | (rw [if_neg (by rw [show openP (callAt h i).frm (h.getD k default)=false from n42]; simp)]; omega))⟩,(show h.length - (k+1)<h.length - k from o2),?_⟩
      exact Sk
     ·intro n42
      refine W.skip (blockQ_normal (thenQ_normal ?_))
      refine lE tab25 hnt [(0,.sl (.calls h)),(3,.i out),(4,.i ((i:Nat):Int)),(5,.i n),(6,.i (((k+1):Nat):Int))] 15869 [Fits .i64 (((k+1):Nat):Int)] fi ?_
      refine thenQ_normal ?_
      refine ⟨(n,(k+1)),⟨oi,(by rw [take_count (openP (callAt h i).frm) (by omega),hn]; first | (rw [if_pos (show openP (callAt h i).frm (h.getD k default)=true from h42)]) | (rw [if_neg (by rw [show openP (callAt h i).frm (h.getD k default)=false from n42]; simp)]; omega))⟩,(show h.length - (k+1)<h.length - k from o2),?_⟩
      exact Sk
    ·intro n16
     refine W.exit (thenQ_exit (thenQ_exit (blockQ_hit ?_)))
     refine thenQ_normal ?_
     refine lE tab25 hnt [(0,.sl (.calls h)),(3,.i (max out n)),(4,.i ((i:Nat):Int))] 13790 [] tt ?_
     refine blockQ_normal (thenQ_normal ?_)
     refine lE tab25 hnt [(0,.sl (.calls h)),(3,.i (max out n)),(4,.i (((i+1):Nat):Int))] 15869 [Fits .i64 (((i+1):Nat):Int)] fi ?_
     refine thenQ_normal ?_
     refine ⟨((max out n),(i+1)),⟨oi,(by rw [ho,hn,show k=h.length by omega,List.take_length]; rfl)⟩,(show h.length - (i+1)<h.length - i from o2),?_⟩
     exact Sk
  ·intro n10
   refine W.exit (thenQ_exit (thenQ_exit (blockQ_hit ?_)))
   refine thenQ_normal ?_
   refine kE tab25 hnt [(2,.i out)] 20 [] tt ?_
   refine W.ret ?_
   exact eI (show out=(widthS h) from (by rw [ho,show i=h.length by omega]; rfl))
theorem ent25 : Entr prog 25 := ⟨_,func25,rfl,by decide⟩
end Go.Proofs.Tryz

set_option linter.unusedSimpArgs false
set_option linter.unusedVariables false
namespace Go.Proofs.Tryz
open Go.Ab Go.RowKit
def fs44 : FnS := fnS [.o,.s .calls] [.str,.calls] (fun _ (s,h,_)=>(.b (isObject s && validHistory h),[],Y))
abbrev T44 : Tab := lk [(23,fs23),(39,fs39)]
theorem tab44 : TabOK prog T44 := (TabOK.cons ok23 ent23 (TabOK.cons ok39 ent39 TabOK.nil))
theorem ok44 : FnOK prog 44 fs44 := by
 refine FnOK.mk cok func44 rfl rfl rfl ?_
 rintro fl ⟨(s:ByteArray),(h : List CallD),_⟩ hpre F hnt0 _
 have hnt : F.nt=11 := hnt0.trans ntmps44
 clear hpre
 refine W.to (⟨[(0,.v (.string s)),(1,.sl (.calls h))],[],[999]⟩) rfl ?_
 refine W.lenOf 1 (.calls h) (by kernel_rfl) ?_
 intro hl_h; replace hl_h : List.length h≤9223372036854775807 := hl_h
 refine kE tab44 hnt [(0,.v (.string s)),(1,.sl (.calls h))] 2 [] tt ?_
 refine kE tab44 hnt [(4,.b ((isObject s) && (validHistory h)))] 79404845690 ((fun (Z1:Bool)=>([Z1=true→Y,Z1=true→(Y∧((((Z1=true)∧Y)∧Y)∧Y)),Z1=true→(Z1=true)∧Y,Z1=false→Y]:PL)) (isObject s)) ⟨(fun _=>trivial),(fun hG=>⟨tt,⟨⟨hG,tt⟩,tt⟩,tt⟩),(fun hp=>⟨hp,tt⟩),(fun _=>trivial)⟩ ?_
 refine W.ret ?_
 exact eB (show ((isObject s) && (validHistory h))=(isObject s && validHistory h) from (by rfl))
theorem ent44 : Entr prog 44 := ⟨_,func44,rfl,by decide⟩
end Go.Proofs.Tryz

set_option linter.unusedSimpArgs false
set_option linter.unusedVariables false
namespace Go.Proofs.Tryz
open Go.Ab Go.RowKit
def fs67 : FnS := fnS [.o,.o] [.call,.call] (fun _ (a,b,_)=>(.b (isBefore a b),[],Y))
abbrev T67 : Tab := lk []
theorem tab67 : TabOK prog T67 := TabOK.nil
theorem ok67 : FnOK prog 67 fs67 := by
 refine FnOK.mk cok func67 rfl rfl rfl ?_
 rintro fl ⟨(a:CallD),(b:CallD),_⟩ hpre F hnt0 _
 have hnt : F.nt=10 := hnt0.trans ntmps67
 clear hpre
 refine W.to (⟨[(0,.agg [.i a.proc,.i a.obj,.i a.kind,.i a.arg,.i a.ret,.i a.frm,.i a.to]),(1,.agg [.i b.proc,.i b.obj,.i b.kind,.i b.arg,.i b.ret,.i b.frm,.i b.to])],[],[999]⟩) rfl ?_
 refine kS tab67 hnt [(2,.ptr 2 0),(3,.ptr 3 0)] [(2,⟨59,.fix [.i a.proc,.i a.obj,.i a.kind,.i a.arg,.i a.ret,.i a.frm,.i a.to]⟩),(3,⟨59,.fix [.i b.proc,.i b.obj,.i b.kind,.i b.arg,.i b.ret,.i b.frm,.i b.to]⟩)] [3,2,999] 182 [] tt ?_
 refine kE tab67 hnt [(4,.b (decide (a.to<b.frm)))] 9974360 [] tt ?_
 refine W.ret ?_
 exact eB (show (decide (a.to<b.frm))=(isBefore a b) from (by first | rfl | simp_all))
theorem ent67 : Entr prog 67 := ⟨_,func67,rfl,by decide⟩
end Go.Proofs.Tryz

set_option linter.unusedSimpArgs false
set_option linter.unusedVariables false
namespace Go.Proofs.Tryz
open Go.Ab Go.RowKit
def fs65 : FnS := fnS [.o] [.int] (fun _ (n,_)=>(.i (power n),[],(n≤60)))
abbrev T65 : Tab := lk []
theorem tab65 : TabOK prog T65 := TabOK.nil
theorem ok65 : FnOK prog 65 fs65 := by
 refine FnOK.mk cok func65 rfl rfl rfl ?_
 rintro fl ⟨(n:Int),_⟩ hpre F hnt0 _
 have hnt : F.nt=11 := hnt0.trans ntmps65
 replace hpre : (n≤60) := hpre
 have hn := hpre
 refine W.to (⟨[(0,.i n)],[],[999]⟩) rfl ?_
 refine kE tab65 hnt [(0,.i n)] 2 [] tt ?_
 refine kE tab65 hnt [(0,.i n),(3,.i (1:Int))] 2 [] tt ?_
 refine W.seq ?_
 refine W.block ?_
 refine W.loop (ι := Int × Int) (fun (x : Int × Int)=>match x with | (k,x)=>(⟨[(0,.i k),(3,.i x)],[],[999]⟩:St))
  (fun (x : Int × Int)=>match x with | (k,x)=>(k≤n)∧(x * power k=power n)∧(1≤x))
  (fun (x : Int × Int)=>match x with | (k,x)=>(k.toNat:Nat)) (n,(1:Int)) ?_ ?_ ?_
 ·exact ⟨oi,(by exact Int.one_mul _),oi⟩
 ·exact Sk
 ·rintro ⟨k,x⟩ hC0
  obtain ⟨hk,hx,hx0⟩ := hC0
  have hp := power_le (n := n) hn
  have hxp : x≤power n := power_factor hx hx0
  refine W.seq ?_
  refine kE tab65 hnt [(0,.i k),(3,.i x),(5,.b (decide ((0:Int)<k)))] 560 [] tt ?_
  refine ifp ((0:Int)<k) ?_ ?_
  ·intro h5
   refine W.skip (thenQ_normal ?_)
   refine W.seq ?_
   refine W.block ?_
   refine lE tab65 hnt [(0,.i k),(3,.i ((2:Int) * x))] 15869 [Fits .i64 ((2:Int) * x)] fi ?_
   refine blockQ_normal (thenQ_normal ?_)
   refine lE tab65 hnt [(0,.i (k - (1:Int))),(3,.i ((2:Int) * x))] 15869 [Fits .i64 (k - (1:Int))] fi ?_
   refine thenQ_normal ?_
   refine ⟨((k - (1:Int)),((2:Int) * x)),⟨oi,(by rw [← hx]; exact power_step h5),oi⟩,(show (k - (1:Int)).toNat<k.toNat from o2),?_⟩
   exact Sk
  ·intro n5
   refine W.exit (thenQ_exit (thenQ_exit (blockQ_hit ?_)))
   refine thenQ_normal ?_
   refine kE tab65 hnt [(2,.i x)] 20 [] tt ?_
   refine W.ret ?_
   exact eI (show x=(power n) from (by first | rfl | exact power_done hx n5))
theorem ent65 : Entr prog 65 := ⟨_,func65,rfl,by decide⟩
end Go.Proofs.Tryz

set_option linter.unusedSimpArgs false
set_option linter.unusedVariables false
namespace Go.Proofs.Tryz
open Go.Ab Go.RowKit
def fs46 : FnS := fnS [.s .calls] [.calls] (fun _ (h,_)=>(.sl (.ints (rowsOf h.length (aheadF h))),[],(h.length≤60)))
abbrev T46 : Tab := lk [(65,fs65),(67,fs67)]
theorem tab46 : TabOK prog T46 := (TabOK.cons ok65 ent65 (TabOK.cons ok67 ent67 TabOK.nil))
theorem ok46 : FnOK prog 46 fs46 := by
 refine FnOK.mk cok func46 rfl rfl rfl ?_
 rintro fl ⟨(h : List CallD),_⟩ hpre F hnt0 _
 have hnt : F.nt=38 := hnt0.trans ntmps46
 replace hpre : (h.length≤60) := hpre
 have hn := hpre
 refine W.to (⟨[(0,.sl (.calls h))],[],[999]⟩) rfl ?_
 refine W.lenOf 0 (.calls h) (by kernel_rfl) ?_
 intro hl_h; replace hl_h : List.length h≤9223372036854775807 := hl_h
 refine kE tab46 hnt [(0,.sl (.calls h))] 2 [] tt ?_
 refine kS tab46 hnt [(0,.sl (.calls h)),(3,.own 7 (List.length ([] : List Int)))] [(7,⟨3,.row (.ints ([] : List Int))⟩)] [7,999] 20 [] tt ?_ [7]
 refine W.seq ?_
 refine kE tab46 hnt [(0,.sl (.calls h)),(3,.own 7 (List.length ([] : List Int))),(4,.i (0:Int))] 2 [] tt ?_
 refine W.block ?_
 refine W.loop (ι := (List Int) × Nat) (fun (x : (List Int) × Nat)=>match x with | (o,i)=>(⟨[(0,.sl (.calls h)),(3,.own 7 o.length),(4,.i ((i:Nat):Int))],[(7,⟨3,.row (.ints o)⟩)],[7,999]⟩:St))
  (fun (x : (List Int) × Nat)=>match x with | (o,i)=>(i≤h.length)∧(o=(List.range i).map fun j=>mask h.length (aheadF h j)))
  (fun (x : (List Int) × Nat)=>match x with | (o,i)=>(h.length - i:Nat)) (([] : List Int),0) ?_ ?_ ?_
 ·exact ⟨oi,(by rfl)⟩
 ·exact Sk
 ·rintro ⟨o,i⟩ hC0
  obtain ⟨hi,ho⟩ := hC0
  have hol : o.length=i := by rw [ho]; simp
  refine W.seq ?_
  refine kE tab46 hnt [(0,.sl (.calls h)),(3,.own 7 o.length),(4,.i ((i:Nat):Int)),(11,.b (decide (((i:Nat):Int)<(h.length:Int))))] 45380 [] tt ?_
  refine ifp (((i:Nat):Int)<(h.length:Int)) ?_ ?_
  ·intro h11
   refine W.skip (thenQ_normal ?_)
   refine W.seq ?_
   refine W.block ?_
   refine kE tab46 hnt [(0,.sl (.calls h)),(3,.own 7 o.length),(4,.i ((i:Nat):Int)),(5,.i (0:Int))] 2 [] tt ?_
   refine W.seq ?_
   refine kE tab46 hnt [(0,.sl (.calls h)),(3,.own 7 o.length),(4,.i ((i:Nat):Int)),(5,.i (0:Int)),(6,.i (0:Int))] 2 [] tt ?_
   refine W.block ?_
   refine W.loop (ι := Int × Nat) (fun (x : Int × Nat)=>match x with | (r,k)=>(⟨[(0,.sl (.calls h)),(3,.own 7 o.length),(4,.i ((i:Nat):Int)),(5,.i r),(6,.i ((k:Nat):Int))],[(7,⟨3,.row (.ints o)⟩)],[7,999]⟩:St))
    (fun (x : Int × Nat)=>match x with | (r,k)=>(k≤h.length)∧(r=mask k (aheadF h i)))
    (fun (x : Int × Nat)=>match x with | (r,k)=>(h.length - k:Nat)) ((0:Int),0) ?_ ?_ ?_
   ·exact ⟨oi,(by rfl)⟩
   ·exact Sk
   ·rintro ⟨r,k⟩ hC0
    obtain ⟨hk,hr⟩ := hC0
    have hmb := mask_bnd k (aheadF h i) (by omega)
    refine W.seq ?_
    refine kE tab46 hnt [(0,.sl (.calls h)),(3,.own 7 o.length),(4,.i ((i:Nat):Int)),(5,.i r),(6,.i ((k:Nat):Int)),(17,.b (decide (((k:Nat):Int)<(h.length:Int))))] 45380 [] tt ?_
    refine ifp (((k:Nat):Int)<(h.length:Int)) ?_ ?_
    ·intro h17
     refine W.skip (thenQ_normal ?_)
     refine W.seq ?_
     refine W.block ?_
     refine kA tab46 hnt [(0,.sl (.calls h)),(3,.own 7 o.length),(4,.i ((i:Nat):Int)),(5,.i r),(6,.i ((k:Nat):Int)),(28,.b (isBefore (h.getD k default) (h.getD i default)))] [(7,⟨3,.row (.ints o)⟩)] [7,999] 38485190762477822 [0≤((k:Nat):Int),((k:Nat):Int)<(h.length:Int),0≤((i:Nat):Int),((i:Nat):Int)<(h.length:Int)] ⟨om,om,om,om⟩ ?_
     refine ifb (isBefore (h.getD k default) (h.getD i default)) ?_ ?_
     ·intro h28
      have hpw := power_le (n := (k:Int)) (by omega)
      have hpw0 := power_pos (k:Int)
      refine lE tab46 hnt [(0,.sl (.calls h)),(3,.own 7 o.length),(4,.i ((i:Nat):Int)),(5,.i (r+(power ((k:Nat):Int)))),(6,.i ((k:Nat):Int))] 937125794 [((k:Nat):Int)≤60,Fits .i64 (r+(power ((k:Nat):Int)))] ⟨om,fi⟩ ?_
      refine blockQ_normal (thenQ_normal ?_)
      refine lE tab46 hnt [(0,.sl (.calls h)),(3,.own 7 o.length),(4,.i ((i:Nat):Int)),(5,.i (r+(power ((k:Nat):Int)))),(6,.i (((k+1):Nat):Int))] 15869 [Fits .i64 (((k+1):Nat):Int)] fi ?_
      refine thenQ_normal ?_
      refine ⟨((r+(power ((k:Nat):Int))),(k+1)),⟨oi,(by first | (rw [hr]; exact (mask_skip (n28)).symm) | (rw [hr,mask_add (h28)]; rfl))⟩,(show h.length - (k+1)<h.length - k from o2),?_⟩
      exact Sk
     ·intro n28
      refine W.skip (blockQ_normal (thenQ_normal ?_))
      refine lE tab46 hnt [(0,.sl (.calls h)),(3,.own 7 o.length),(4,.i ((i:Nat):Int)),(5,.i r),(6,.i (((k+1):Nat):Int))] 15869 [Fits .i64 (((k+1):Nat):Int)] fi ?_
      refine thenQ_normal ?_
      refine ⟨(r,(k+1)),⟨oi,(by first | (rw [hr]; exact (mask_skip (n28)).symm) | (rw [hr,mask_add (h28)]; rfl))⟩,(show h.length - (k+1)<h.length - k from o2),?_⟩
      exact Sk
    ·intro n17
     refine W.exit (thenQ_exit (thenQ_exit (blockQ_hit ?_)))
     refine thenQ_normal ?_
     refine lS tab46 hnt [(0,.sl (.calls h)),(3,.own 36 (List.length (o++([r])))),(4,.i ((i:Nat):Int))] [(36,⟨3,.row (.ints (o++([r])))⟩)] [36,35,7,999] 104333690 [o.length=o.length,(o.length+(List.length ([r]))) * 8≤140737488355328] ⟨rfl,ow⟩ ?_ [36]
     refine blockQ_normal (thenQ_normal ?_)
     refine lE tab46 hnt [(0,.sl (.calls h)),(3,.own 36 (List.length (o++([r])))),(4,.i (((i+1):Nat):Int))] 15869 [Fits .i64 (((i+1):Nat):Int)] fi ?_
     refine thenQ_normal ?_
     refine ⟨((o++([r])),(i+1)),⟨oi,(by rw [ho]; exact rows_snoc _ _ _ _ (by rw [hr,show k=h.length by omega]))⟩,(show h.length - (i+1)<h.length - i from o2),?_⟩
     exact Sub.of [(7,36)] (@cast (((Sd (.calls h))∧(((36:Nat)=36)∧((List.length (o++([r])))=(List.length (o++([r]))))∧((7:Nat) ∈ ([7,999] : List Nat)))∧(Si (((i+1):Nat):Int))∧Y)∧((((3:Nat)=3)∧(Sd (.ints (o++([r]))))∧((7:Nat) ∈ ([7,999] : List Nat)))∧Y)∧(true=true)∧(true=true)) _ (by kernel_rfl) ⟨⟨rfl,⟨rfl,rfl,(by decide)⟩,rfl,tt⟩,⟨⟨rfl,rfl,(by decide)⟩,tt⟩,rfl,rfl⟩)
  ·intro n11
   refine W.exit (thenQ_exit (thenQ_exit (blockQ_hit ?_)))
   refine thenQ_normal ?_
   refine kE tab46 hnt [(2,.own 7 o.length)] 20 [] tt ?_
   refine W.ret ?_
   exact endQ_ret (.own 7 o.length) (by kernel_rfl) (@cast ((o.length=o.length)∧((.ints o:Dat)=.ints (rowsOf h.length (aheadF h)))∧((7:Nat) ∉ ([] : List Nat))) _ (by kernel_rfl) ⟨rfl,⟨(congrArg Dat.ints (by rw [ho,show i=h.length by omega]; rfl)),(by decide)⟩⟩)
theorem ent46 : Entr prog 46 := ⟨_,func46,rfl,by decide⟩
end Go.Proofs.Tryz

set_option linter.unusedSimpArgs false
set_option linter.unusedVariables false
namespace Go.Proofs.Tryz
open Go.Ab Go.RowKit
def fs88 : FnS := fnS [.s .ints,.o] [.ints,.int] (fun _ (l,n,_)=>(.b (hasInt l n),[],Y))
abbrev T88 : Tab := lk []
theorem tab88 : TabOK prog T88 := TabOK.nil
theorem ok88 : FnOK prog 88 fs88 := by
 refine FnOK.mk cok func88 rfl rfl rfl ?_
 rintro fl ⟨(l : List Int),(n:Int),_⟩ hpre F hnt0 _
 have hnt : F.nt=18 := hnt0.trans ntmps88
 clear hpre
 refine W.to (⟨[(0,.sl (.ints l)),(1,.i n)],[],[999]⟩) rfl ?_
 refine W.lenOf 0 (.ints l) (by kernel_rfl) ?_
 intro hl_l; replace hl_l : List.length l≤9223372036854775807 := hl_l
 refine kE tab88 hnt [(0,.sl (.ints l)),(1,.i n)] 2 [] tt ?_
 refine W.seq ?_
 refine kE tab88 hnt [(0,.sl (.ints l)),(1,.i n),(5,.i (0:Int))] 2 [] tt ?_
 refine W.block ?_
 refine W.loop (ι := Nat) (fun (i:Nat)=>(⟨[(0,.sl (.ints l)),(1,.i n),(5,.i ((i:Nat):Int))],[],[999]⟩:St))
  (fun (i:Nat)=>(i≤l.length)∧(∀ j,j<i→decide (l.getD j 0=n)=false))
  (fun (i:Nat)=>(l.length - i:Nat)) (0) ?_ ?_ ?_
 ·exact ⟨oi,(by exact upto_zero)⟩
 ·exact Sk
 ·rintro i hC0
  obtain ⟨hi,hA⟩ := hC0
  refine W.seq ?_
  refine kE tab88 hnt [(0,.sl (.ints l)),(1,.i n),(5,.i ((i:Nat):Int)),(9,.b (decide (((i:Nat):Int)<(l.length:Int))))] 45380 [] tt ?_
  refine ifp (((i:Nat):Int)<(l.length:Int)) ?_ ?_
  ·intro h9
   refine W.skip (thenQ_normal ?_)
   refine W.seq ?_
   refine W.block ?_
   refine kE tab88 hnt [(0,.sl (.ints l)),(1,.i n),(5,.i ((i:Nat):Int)),(17,.b (decide ((l.getD i 0)=n)))] 2679806126 [0≤((i:Nat):Int),((i:Nat):Int)<(l.length:Int)] ⟨om,om⟩ ?_
   refine ifp ((l.getD i 0)=n) ?_ ?_
   ·intro h17
    refine kE tab88 hnt [(4,.b true)] 2 [] tt ?_
    refine W.ret (blockQ_ret (thenQ_ret (thenQ_ret (blockQ_ret (thenQ_ret ?_)))))
    exact eB (show true=(hasInt l n) from (by unfold hasInt; symm; exact anyN_true (i := i) (by omega) (decide_eq_true h17)))
   ·intro n17
    refine W.skip (blockQ_normal (thenQ_normal ?_))
    refine lE tab88 hnt [(0,.sl (.ints l)),(1,.i n),(5,.i (((i+1):Nat):Int))] 15869 [Fits .i64 (((i+1):Nat):Int)] fi ?_
    refine thenQ_normal ?_
    refine ⟨((i+1)),⟨oi,(by exact upto_succ hA (decide_eq_false n17))⟩,(show l.length - (i+1)<l.length - i from o2),?_⟩
    exact Sk
  ·intro n9
   refine W.exit (thenQ_exit (thenQ_exit (blockQ_hit ?_)))
   refine thenQ_normal ?_
   refine kE tab88 hnt [(4,.b false)] 2 [] tt ?_
   refine W.ret ?_
   exact eB (show false=(hasInt l n) from (by unfold hasInt; symm; exact anyN_false (fun j hj=>hA j (by omega))))
theorem ent88 : Entr prog 88 := ⟨_,func88,rfl,by decide⟩
end Go.Proofs.Tryz
