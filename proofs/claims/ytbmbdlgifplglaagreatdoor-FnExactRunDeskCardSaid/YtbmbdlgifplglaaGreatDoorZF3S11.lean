import Derived.Test.YtbmbdlgifplglaaGreatDoorZF3S0
import Derived.Test.YtbmbdlgifplglaaGreatDoorZF3S1
import Derived.Test.YtbmbdlgifplglaaGreatDoorZF3S9
import Derived.Test.YtbmbdlgifplglaaGreatDoorZF3S10
import Derived.Test.YtbmbdlgifplglaaGreatDoorZF3S8
import Derived.Test.YtbmbdlgifplglaaGreatDoorZF3S2
set_option maxRecDepth 100000
set_option maxHeartbeats 1000000
set_option linter.unusedSimpArgs false
set_option linter.unusedVariables false
namespace Go.Proofs.Tryz
open Go.Ab Go.RowKit
abbrev T79 : Tab := lk [(81,fs81)]
theorem tab79 : TabOK prog T79 := (TabOK.cons ok81 ent81 TabOK.nil)
theorem ent79 : Entr prog 79 := ⟨_,func79,rfl,by decide⟩
theorem hokN79 : ∀ (nn:Nat) (s:ByteArray) (h : List CallD) (f : Nat→Nat→Bool) (rows : List Int) (o : List Int) (us:Int) (out : List (List Int)),((isObject s=true)∧(validHistory h=true)∧(rows=rowsOf h.length f)∧(headO h o)∧(us=mask h.length (hasN o))∧(out.length+6 ^ (h.length - o.length)≤100000))→(h.length - o.length)<nn→HOK prog 79 [901,902,903,904] [.ptr 901 0,.ep [.sl (.calls h)],.ep [.v (.string s)],.ptr 902 0,.ptr 903 0,.ep [.sl (.ints rows)],.ptr 904 0] [(811,⟨3,.row (.ints o)⟩),(812,⟨36,.row (.intss out)⟩),(901,⟨36,.fix [.own 811 o.length]⟩),(902,⟨48,.fix [.own 812 out.length]⟩),(903,⟨3,.fix [.i us]⟩),(904,⟨1,.fix [.fn 79 [.ptr 901 0,.ep [.sl (.calls h)],.ep [.v (.string s)],.ptr 902 0,.ptr 903 0,.ep [.sl (.ints rows)],.ptr 904 0]]⟩)] [901,902,903,904,811,812] (fun r s1 u1=>r=(.tup [])∧s1=([(811,⟨3,.row (.ints o)⟩),(812,⟨36,.row (.intss (out++ordersF s h f (h.length - o.length) o))⟩),(901,⟨36,.fix [.own 811 o.length]⟩),(902,⟨48,.fix [.own 812 (List.length (out++ordersF s h f (h.length - o.length) o))]⟩),(903,⟨3,.fix [.i us]⟩),(904,⟨1,.fix [.fn 79 [.ptr 901 0,.ep [.sl (.calls h)],.ep [.v (.string s)],.ptr 902 0,.ptr 903 0,.ep [.sl (.ints rows)],.ptr 904 0]]⟩)])∧u1=([901,902,903,904,811,812])) := by
 intro nn
 induction nn with
 | zero=>intro s h f rows o us out _ hmu; exact absurd hmu (Nat.not_lt_zero _)
 | succ nn ih =>
  intro s h f rows o us out hpre hmu
  obtain ⟨hs,hv,hr,ho,hu,hz⟩ := hpre
  refine HOK.of cok func79 rfl rfl rfl ?_
  intro F hnt0
  have hnt : F.nt=70 := hnt0.trans ntmps79
  refine W.to (⟨[(0,.ptr 901 0),(1,.ep [.sl (.calls h)]),(2,.ep [.v (.string s)]),(3,.ptr 902 0),(4,.ptr 903 0),(5,.ep [.sl (.ints rows)]),(6,.ptr 904 0)],[(811,⟨3,.row (.ints o)⟩),(812,⟨36,.row (.intss out)⟩),(901,⟨36,.fix [.own 811 o.length]⟩),(902,⟨48,.fix [.own 812 out.length]⟩),(903,⟨3,.fix [.i us]⟩),(904,⟨1,.fix [.fn 79 [.ptr 901 0,.ep [.sl (.calls h)],.ep [.v (.string s)],.ptr 902 0,.ptr 903 0,.ep [.sl (.ints rows)],.ptr 904 0]]⟩)],[901,902,903,904,811,812]⟩) rfl ?_
  have hv6 := (valid_iff.1 hv).1
  have hol := ho.2.2
  have hrl : rows.length=h.length := by rw [hr,rowsOf_len]
  refine W.seq ?_
  refine Kk cok tab79 hnt [] [0,1,2,3,4,5,6,14] (⟨[(0,.ptr 901 0),(1,.ep [.sl (.calls h)]),(2,.ep [.v (.string s)]),(3,.ptr 902 0),(4,.ptr 903 0),(5,.ep [.sl (.ints rows)]),(6,.ptr 904 0),(14,.b (decide ((o.length:Int)=(h.length:Int))))],[(811,⟨3,.row (.ints o)⟩),(812,⟨36,.row (.intss out)⟩),(901,⟨36,.fix [.own 811 o.length]⟩),(902,⟨48,.fix [.own 812 out.length]⟩),(903,⟨3,.fix [.i us]⟩),(904,⟨1,.fix [.fn 79 [.ptr 901 0,.ep [.sl (.calls h)],.ep [.v (.string s)],.ptr 902 0,.ptr 903 0,.ep [.sl (.ints rows)],.ptr 904 0]]⟩)],[901,902,903,904,811,812]⟩)
   (Y∧Y∧Y∧Y∧(Y∧Y∧Y)∧Y)
   ⟨tt,tt,tt,tt,⟨tt,tt,tt⟩,tt⟩ ?_
  refine W.ifP ((o.length:Int)=(h.length:Int)) (.b (decide ((o.length:Int)=(h.length:Int)))) (by kernel_rfl) rfl trivial ?_ ?_
  ·intro h14
   refine W.seq ?_
   refine W.seq (W.wi ?_)
   refine WI.runT cok tab79 hnt [] 3 3 (⟨[(0,.ptr 901 0),(1,.ep [.sl (.calls h)]),(2,.ep [.v (.string s)]),(3,.ptr 902 0),(4,.ptr 903 0),(5,.ep [.sl (.ints rows)]),(6,.ptr 904 0),(14,.b (decide ((o.length:Int)=(h.length:Int)))),(16,.v (.string s)),(17,.sl (.calls h)),(18,.own 811 o.length)],[(811,⟨3,.row (.ints o)⟩),(812,⟨36,.row (.intss out)⟩),(901,⟨36,.fix [.own 811 o.length]⟩),(902,⟨48,.fix [.own 812 out.length]⟩),(903,⟨3,.fix [.i us]⟩),(904,⟨1,.fix [.fn 79 [.ptr 901 0,.ep [.sl (.calls h)],.ep [.v (.string s)],.ptr 902 0,.ptr 903 0,.ep [.sl (.ints rows)],.ptr 904 0]]⟩)],[901,902,903,904,811,812]⟩)
    (Y∧Y∧Y∧Y) (by kernel_rfl) rfl
    ⟨tt,tt,tt,tt⟩ ?_
   refine WI.callH _ [.v (.string s),.sl (.calls h),.own 811 o.length] [] (.fn 80 []) _ _ [(911,811)] (hok80h s h o ⟨(by exact hs),(by exact hv),(by exact ho.1),(by omega)⟩) ent80h hnt rfl rfl (wanted_none rfl) (by kernel_rfl) (by kernel_rfl) trivial (by kernel_rfl) (by kernel_rfl) (by kernel_rfl) (@cast (((some ⟨3,.row (.ints o)⟩ : Option LB)=some ⟨3,.row (.ints o)⟩)∧(true=true)∧(Y)) _ (by kernel_rfl) ⟨rfl,rfl,tt⟩) (by kernel_rfl) rfl ?_
   rintro r s1 u1 ⟨rfl,rfl,rfl⟩
   refine ⟨[(911,811)],by kernel_rfl,WI.to (⟨[(0,.ptr 901 0),(1,.ep [.sl (.calls h)]),(2,.ep [.v (.string s)]),(3,.ptr 902 0),(4,.ptr 903 0),(5,.ep [.sl (.ints rows)]),(6,.ptr 904 0),(14,.b (decide ((o.length:Int)=(h.length:Int)))),(16,.v (.string s)),(17,.sl (.calls h)),(18,.own 811 o.length),(19,.tup [.agg [.sl (.ints ((playedR s h o).1.getD 0 [])),.sl (.ints ((playedR s h o).1.getD 1 []))],.b ((playedR s h o).2)])],[(811,⟨3,.row (.ints o)⟩),(812,⟨36,.row (.intss out)⟩),(901,⟨36,.fix [.own 811 o.length]⟩),(902,⟨48,.fix [.own 812 out.length]⟩),(903,⟨3,.fix [.i us]⟩),(904,⟨1,.fix [.fn 79 [.ptr 901 0,.ep [.sl (.calls h)],.ep [.v (.string s)],.ptr 902 0,.ptr 903 0,.ep [.sl (.ints rows)],.ptr 904 0]]⟩)],[901,902,903,904,811,812]⟩) 4 (by kernel_rfl) rfl ?_⟩
   refine WI.runT cok tab79 hnt [] 6 10 ((fun (Z1:Bool)=>(⟨[(0,.ptr 901 0),(1,.ep [.sl (.calls h)]),(2,.ep [.v (.string s)]),(3,.ptr 902 0),(4,.ptr 903 0),(5,.ep [.sl (.ints rows)]),(6,.ptr 904 0),(7,.ptr 7 0),(8,.b Z1),(14,.b (decide ((o.length:Int)=(h.length:Int)))),(15,.tup [.agg [.sl (.ints ((playedR s h o).1.getD 0 [])),.sl (.ints ((playedR s h o).1.getD 1 []))],.b Z1]),(16,.v (.string s)),(17,.sl (.calls h)),(18,.own 811 o.length),(19,.tup [.agg [.sl (.ints ((playedR s h o).1.getD 0 [])),.sl (.ints ((playedR s h o).1.getD 1 []))],.b Z1]),(20,.agg [.sl (.ints ((playedR s h o).1.getD 0 [])),.sl (.ints ((playedR s h o).1.getD 1 []))]),(21,.b Z1)],[(7,⟨85,.row (.intss ([((playedR s h o).1.getD 0 []),((playedR s h o).1.getD 1 [])]))⟩),(811,⟨3,.row (.ints o)⟩),(812,⟨36,.row (.intss out)⟩),(901,⟨36,.fix [.own 811 o.length]⟩),(902,⟨48,.fix [.own 812 out.length]⟩),(903,⟨3,.fix [.i us]⟩),(904,⟨1,.fix [.fn 79 [.ptr 901 0,.ep [.sl (.calls h)],.ep [.v (.string s)],.ptr 902 0,.ptr 903 0,.ep [.sl (.ints rows)],.ptr 904 0]]⟩)],[7,901,902,903,904,811,812]⟩:St)) ((playedR s h o).2))
    (Y∧Y∧Y∧Y∧(Y∧Y∧((List.length ([[],[]] : List (List Int)))=2))∧Y∧Y) (by kernel_rfl) rfl
    ⟨tt,tt,tt,tt,⟨tt,tt,(by first | rfl | assumption | omega)⟩,tt,tt⟩ ?_
   refine WI.nil rfl (thenQ_normal ?_)
   refine W.keepE [0,3,8] [(0,.ptr 901 0),(3,.ptr 902 0),(8,.b ((playedR s h o).2))] (by kernel_rfl) ?_
   refine W.to (⟨[(0,.ptr 901 0),(3,.ptr 902 0),(8,.b ((playedR s h o).2))],[(7,⟨85,.row (.intss ([((playedR s h o).1.getD 0 []),((playedR s h o).1.getD 1 [])]))⟩),(811,⟨3,.row (.ints o)⟩),(812,⟨36,.row (.intss out)⟩),(901,⟨36,.fix [.own 811 o.length]⟩),(902,⟨48,.fix [.own 812 out.length]⟩),(903,⟨3,.fix [.i us]⟩),(904,⟨1,.fix [.fn 79 [.ptr 901 0,.ep [.sl (.calls h)],.ep [.v (.string s)],.ptr 902 0,.ptr 903 0,.ep [.sl (.ints rows)],.ptr 904 0]]⟩)],[7,901,902,903,904,811,812]⟩) rfl ?_
   refine Kk cok tab79 hnt [] [0,3,22] (⟨[(0,.ptr 901 0),(3,.ptr 902 0),(22,.b ((playedR s h o).2))],[(7,⟨85,.row (.intss ([((playedR s h o).1.getD 0 []),((playedR s h o).1.getD 1 [])]))⟩),(811,⟨3,.row (.ints o)⟩),(812,⟨36,.row (.intss out)⟩),(901,⟨36,.fix [.own 811 o.length]⟩),(902,⟨48,.fix [.own 812 out.length]⟩),(903,⟨3,.fix [.i us]⟩),(904,⟨1,.fix [.fn 79 [.ptr 901 0,.ep [.sl (.calls h)],.ep [.v (.string s)],.ptr 902 0,.ptr 903 0,.ep [.sl (.ints rows)],.ptr 904 0]]⟩)],[7,901,902,903,904,811,812]⟩)
    (Y∧Y)
    ⟨tt,tt⟩ ?_
   refine W.if' ((playedR s h o).2) (.b ((playedR s h o).2)) (by kernel_rfl) rfl trivial ?_ ?_
   ·intro h22
    refine W.LA cok tab79 hnt [26,27] (⟨[(0,.ptr 901 0),(3,.ptr 902 0),(22,.b ((playedR s h o).2)),(23,.own 812 out.length),(24,.own 811 o.length),(25,.sl (.ints o)),(26,.own 26 (List.length ([o]))),(27,.own 27 (List.length (out++([o]))))],[(7,⟨85,.row (.intss ([((playedR s h o).1.getD 0 []),((playedR s h o).1.getD 1 [])]))⟩),(26,⟨36,.row (.intss ([o]))⟩),(27,⟨36,.row (.intss (out++([o])))⟩),(811,⟨3,.row (.ints o)⟩),(901,⟨36,.fix [.own 811 o.length]⟩),(902,⟨48,.fix [.own 27 (List.length (out++([o])))]⟩),(903,⟨3,.fix [.i us]⟩),(904,⟨1,.fix [.fn 79 [.ptr 901 0,.ep [.sl (.calls h)],.ep [.v (.string s)],.ptr 902 0,.ptr 903 0,.ep [.sl (.ints rows)],.ptr 904 0]]⟩)],[27,26,25,7,901,902,903,904,811,812]⟩)
     (Y∧Y∧((Y∧((Y∧(o.length=o.length))∧Y)∧(o.length * 8≤140737488355328))∧(o.length=o.length))∧(Y∧Y)∧((Y∧(out.length=out.length))∧(Y∧((List.length ([o]))=(List.length ([o]))))∧((out.length+(List.length ([o]))) * 24≤140737488355328))∧(Y∧Y)∧Y) (by kernel_rfl) (by kernel_rfl)
     ⟨tt,tt,⟨⟨tt,⟨⟨tt,rfl⟩,tt⟩,(by have hp1 := Nat.pow_pos (n := h.length - o.length) (show 0<6 by omega); (try simp only [List.length_cons,List.length_nil]); first | omega | (rw [hoo]; omega))⟩,rfl⟩,⟨tt,tt⟩,⟨⟨tt,rfl⟩,⟨tt,rfl⟩,(by have hp1 := Nat.pow_pos (n := h.length - o.length) (show 0<6 by omega); (try simp only [List.length_cons,List.length_nil]); first | omega | (rw [hoo]; omega))⟩,⟨tt,tt⟩,tt⟩ ?_
    refine thenQ_normal ?_
    refine W.ret (thenQ_ret ?_)
    exact endH_ret (.tup []) [(811,⟨3,.row (.ints o)⟩),(812,⟨36,.row (.intss (out++ordersF s h f (h.length - o.length) o))⟩),(901,⟨36,.fix [.own 811 o.length]⟩),(902,⟨48,.fix [.own 812 (List.length (out++ordersF s h f (h.length - o.length) o))]⟩),(903,⟨3,.fix [.i us]⟩),(904,⟨1,.fix [.fn 79 [.ptr 901 0,.ep [.sl (.calls h)],.ep [.v (.string s)],.ptr 902 0,.ptr 903 0,.ep [.sl (.ints rows)],.ptr 904 0]]⟩)] [901,902,903,904,811,812] ⟨rfl,rfl,rfl⟩ [(901,901),(902,902),(903,903),(904,904),(811,811),(812,27)] (.tup []) (by kernel_rfl) (@cast (Y∧((((3:Nat)=3)∧(Sd (.ints o))∧((811:Nat) ∈ ([901,902,903,904,811,812] : List Nat)))∧(((36:Nat)=36)∧((.intss (out++([o])):Dat)=.intss (out++ordersF s h f (h.length - o.length) o))∧((812:Nat) ∈ ([901,902,903,904,811,812] : List Nat)))∧(((36:Nat)=36)∧((((811:Nat)=811)∧(o.length=o.length)∧((811:Nat) ∈ ([901,902,903,904,811,812] : List Nat)))∧Y)∧((901:Nat) ∈ ([901,902,903,904,811,812] : List Nat)))∧(((48:Nat)=48)∧((((27:Nat)=27)∧((List.length (out++([o])))=(List.length (out++ordersF s h f (h.length - o.length) o)))∧((812:Nat) ∈ ([901,902,903,904,811,812] : List Nat)))∧Y)∧((902:Nat) ∈ ([901,902,903,904,811,812] : List Nat)))∧(((3:Nat)=3)∧((Si us)∧Y)∧((903:Nat) ∈ ([901,902,903,904,811,812] : List Nat)))∧(((1:Nat)=1)∧((((79:Nat)=79)∧(((901:Nat)=901)∧((0:Nat)=0)∧((901:Nat) ∈ ([901,902,903,904,811,812] : List Nat)))∧(((.ep [.sl (.calls h)] : AV)=.ep [.sl (.calls h)])∧(([] : List Nat)=[]))∧(((.ep [.v (.string s)] : AV)=.ep [.v (.string s)])∧(([] : List Nat)=[]))∧(((902:Nat)=902)∧((0:Nat)=0)∧((902:Nat) ∈ ([901,902,903,904,811,812] : List Nat)))∧(((903:Nat)=903)∧((0:Nat)=0)∧((903:Nat) ∈ ([901,902,903,904,811,812] : List Nat)))∧(((.ep [.sl (.ints rows)] : AV)=.ep [.sl (.ints rows)])∧(([] : List Nat)=[]))∧(((904:Nat)=904)∧((0:Nat)=0)∧((904:Nat) ∈ ([901,902,903,904,811,812] : List Nat)))∧Y)∧Y)∧((904:Nat) ∈ ([901,902,903,904,811,812] : List Nat)))∧Y)∧(true=true)∧(true=true)) _ (by kernel_rfl) ⟨tt,⟨⟨rfl,rfl,(by decide)⟩,⟨rfl,(congrArg Dat.intss (by rw [orders_yes h14 h22])),(by decide)⟩,⟨rfl,⟨⟨rfl,rfl,(by decide)⟩,tt⟩,(by decide)⟩,⟨rfl,⟨⟨rfl,(by first | rfl | exact congrArg List.length (by rw [orders_yes h14 h22]) | omega | assumption | simp | simp_all),(by decide)⟩,tt⟩,(by decide)⟩,⟨rfl,⟨rfl,tt⟩,(by decide)⟩,⟨rfl,⟨⟨rfl,⟨rfl,rfl,(by decide)⟩,⟨rfl,rfl⟩,⟨rfl,rfl⟩,⟨rfl,rfl,(by decide)⟩,⟨rfl,rfl,(by decide)⟩,⟨rfl,rfl⟩,⟨rfl,rfl,(by decide)⟩,tt⟩,tt⟩,(by decide)⟩,tt⟩,rfl,rfl⟩)
   ·intro n22
    refine W.skip (thenQ_normal ?_)
    refine W.ret (thenQ_ret ?_)
    exact endH_ret (.tup []) [(811,⟨3,.row (.ints o)⟩),(812,⟨36,.row (.intss (out++ordersF s h f (h.length - o.length) o))⟩),(901,⟨36,.fix [.own 811 o.length]⟩),(902,⟨48,.fix [.own 812 (List.length (out++ordersF s h f (h.length - o.length) o))]⟩),(903,⟨3,.fix [.i us]⟩),(904,⟨1,.fix [.fn 79 [.ptr 901 0,.ep [.sl (.calls h)],.ep [.v (.string s)],.ptr 902 0,.ptr 903 0,.ep [.sl (.ints rows)],.ptr 904 0]]⟩)] [901,902,903,904,811,812] ⟨rfl,rfl,rfl⟩ [(901,901),(902,902),(903,903),(904,904),(811,811),(812,812)] (.tup []) (by kernel_rfl) (@cast (Y∧((((3:Nat)=3)∧(Sd (.ints o))∧((811:Nat) ∈ ([901,902,903,904,811,812] : List Nat)))∧(((36:Nat)=36)∧((.intss out:Dat)=.intss (out++ordersF s h f (h.length - o.length) o))∧((812:Nat) ∈ ([901,902,903,904,811,812] : List Nat)))∧(((36:Nat)=36)∧((((811:Nat)=811)∧(o.length=o.length)∧((811:Nat) ∈ ([901,902,903,904,811,812] : List Nat)))∧Y)∧((901:Nat) ∈ ([901,902,903,904,811,812] : List Nat)))∧(((48:Nat)=48)∧((((812:Nat)=812)∧(out.length=(List.length (out++ordersF s h f (h.length - o.length) o)))∧((812:Nat) ∈ ([901,902,903,904,811,812] : List Nat)))∧Y)∧((902:Nat) ∈ ([901,902,903,904,811,812] : List Nat)))∧(((3:Nat)=3)∧((Si us)∧Y)∧((903:Nat) ∈ ([901,902,903,904,811,812] : List Nat)))∧(((1:Nat)=1)∧((((79:Nat)=79)∧(((901:Nat)=901)∧((0:Nat)=0)∧((901:Nat) ∈ ([901,902,903,904,811,812] : List Nat)))∧(((.ep [.sl (.calls h)] : AV)=.ep [.sl (.calls h)])∧(([] : List Nat)=[]))∧(((.ep [.v (.string s)] : AV)=.ep [.v (.string s)])∧(([] : List Nat)=[]))∧(((902:Nat)=902)∧((0:Nat)=0)∧((902:Nat) ∈ ([901,902,903,904,811,812] : List Nat)))∧(((903:Nat)=903)∧((0:Nat)=0)∧((903:Nat) ∈ ([901,902,903,904,811,812] : List Nat)))∧(((.ep [.sl (.ints rows)] : AV)=.ep [.sl (.ints rows)])∧(([] : List Nat)=[]))∧(((904:Nat)=904)∧((0:Nat)=0)∧((904:Nat) ∈ ([901,902,903,904,811,812] : List Nat)))∧Y)∧Y)∧((904:Nat) ∈ ([901,902,903,904,811,812] : List Nat)))∧Y)∧(true=true)∧(true=true)) _ (by kernel_rfl) ⟨tt,⟨⟨rfl,rfl,(by decide)⟩,⟨rfl,(congrArg Dat.intss (by rw [orders_no h14 n22,List.append_nil])),(by decide)⟩,⟨rfl,⟨⟨rfl,rfl,(by decide)⟩,tt⟩,(by decide)⟩,⟨rfl,⟨⟨rfl,(by first | rfl | exact congrArg List.length (by rw [orders_no h14 n22,List.append_nil]) | omega | assumption | simp | simp_all),(by decide)⟩,tt⟩,(by decide)⟩,⟨rfl,⟨rfl,tt⟩,(by decide)⟩,⟨rfl,⟨⟨rfl,⟨rfl,rfl,(by decide)⟩,⟨rfl,rfl⟩,⟨rfl,rfl⟩,⟨rfl,rfl,(by decide)⟩,⟨rfl,rfl,(by decide)⟩,⟨rfl,rfl⟩,⟨rfl,rfl,(by decide)⟩,tt⟩,tt⟩,(by decide)⟩,tt⟩,rfl,rfl⟩)
  ·intro n14
   refine W.skip (thenQ_normal ?_)
   refine Kk cok tab79 hnt [] [0,4,5,6,29,30] (⟨[(0,.ptr 901 0),(4,.ptr 903 0),(5,.ep [.sl (.ints rows)]),(6,.ptr 904 0),(29,.i (h.length:Int)),(30,.i (0:Int))],[(811,⟨3,.row (.ints o)⟩),(812,⟨36,.row (.intss out)⟩),(901,⟨36,.fix [.own 811 o.length]⟩),(902,⟨48,.fix [.own 812 out.length]⟩),(903,⟨3,.fix [.i us]⟩),(904,⟨1,.fix [.fn 79 [.ptr 901 0,.ep [.sl (.calls h)],.ep [.v (.string s)],.ptr 902 0,.ptr 903 0,.ep [.sl (.ints rows)],.ptr 904 0]]⟩)],[901,902,903,904,811,812]⟩)
    (Y∧Y∧Y∧Y)
    ⟨tt,tt,tt,tt⟩ ?_
   refine W.block ?_
   refine W.loop (ι := Nat × (List Int) × (List (List Int)) × Int) (fun (x : Nat × (List Int) × (List (List Int)) × Int)=>match x with | (k,oo,ou,uu)=>(⟨[(0,.ptr 901 0),(4,.ptr 903 0),(5,.ep [.sl (.ints rows)]),(6,.ptr 904 0),(29,.i (h.length:Int)),(30,.i ((k:Nat):Int))],[(811,⟨3,.row (.ints oo)⟩),(812,⟨36,.row (.intss ou)⟩),(901,⟨36,.fix [.own 811 oo.length]⟩),(902,⟨48,.fix [.own 812 ou.length]⟩),(903,⟨3,.fix [.i uu]⟩),(904,⟨1,.fix [.fn 79 [.ptr 901 0,.ep [.sl (.calls h)],.ep [.v (.string s)],.ptr 902 0,.ptr 903 0,.ep [.sl (.ints rows)],.ptr 904 0]]⟩)],[811,812,901,902,903,904]⟩:St))
    (fun (x : Nat × (List Int) × (List (List Int)) × Int)=>match x with | (k,oo,ou,uu)=>(k≤h.length)∧(oo=o)∧(uu=mask h.length (hasN o))∧(ou=out++ordersUp s h f (h.length - o.length - 1) o k))
    (fun (x : Nat × (List Int) × (List (List Int)) × Int)=>match x with | (k,oo,ou,uu)=>(h.length - k:Nat)) (0,o,out,us) ?_ ?_ ?_
   ·exact (show (0≤h.length)∧(o=o)∧(us=mask h.length (hasN o))∧(out=out++ordersUp s h f (h.length - o.length - 1) o 0) from ⟨(by first | assumption | omega | rfl | (intro _ hjj; omega) | (simp; done) | (simp; omega)),(by first | assumption | omega | rfl | (intro _ hjj; omega) | (simp; done) | (simp; omega)),(by first | assumption | omega | rfl | (intro _ hjj; omega) | (simp; done) | (simp; omega)),(by simp [ordersUp])⟩)
   ·exact Sub.of [] (@cast (((((901:Nat)=901)∧((0:Nat)=0)∧((901:Nat) ∈ ([811,812,901,902,903,904] : List Nat)))∧(((903:Nat)=903)∧((0:Nat)=0)∧((903:Nat) ∈ ([811,812,901,902,903,904] : List Nat)))∧(((.ep [.sl (.ints rows)] : AV)=.ep [.sl (.ints rows)])∧(([] : List Nat)=[]))∧(((904:Nat)=904)∧((0:Nat)=0)∧((904:Nat) ∈ ([811,812,901,902,903,904] : List Nat)))∧(Si (h.length:Int))∧((.int .i64 (0:Int):Value)=.int .i64 ((0:Nat):Int))∧Y)∧((((3:Nat)=3)∧(Sd (.ints o))∧((811:Nat) ∈ ([811,812,901,902,903,904] : List Nat)))∧(((36:Nat)=36)∧(Sd (.intss out))∧((812:Nat) ∈ ([811,812,901,902,903,904] : List Nat)))∧(((36:Nat)=36)∧((((811:Nat)=811)∧(o.length=o.length)∧((811:Nat) ∈ ([811,812,901,902,903,904] : List Nat)))∧Y)∧((901:Nat) ∈ ([811,812,901,902,903,904] : List Nat)))∧(((48:Nat)=48)∧((((812:Nat)=812)∧(out.length=out.length)∧((812:Nat) ∈ ([811,812,901,902,903,904] : List Nat)))∧Y)∧((902:Nat) ∈ ([811,812,901,902,903,904] : List Nat)))∧(((3:Nat)=3)∧((Si us)∧Y)∧((903:Nat) ∈ ([811,812,901,902,903,904] : List Nat)))∧(((1:Nat)=1)∧((((79:Nat)=79)∧(((901:Nat)=901)∧((0:Nat)=0)∧((901:Nat) ∈ ([811,812,901,902,903,904] : List Nat)))∧(((.ep [.sl (.calls h)] : AV)=.ep [.sl (.calls h)])∧(([] : List Nat)=[]))∧(((.ep [.v (.string s)] : AV)=.ep [.v (.string s)])∧(([] : List Nat)=[]))∧(((902:Nat)=902)∧((0:Nat)=0)∧((902:Nat) ∈ ([811,812,901,902,903,904] : List Nat)))∧(((903:Nat)=903)∧((0:Nat)=0)∧((903:Nat) ∈ ([811,812,901,902,903,904] : List Nat)))∧(((.ep [.sl (.ints rows)] : AV)=.ep [.sl (.ints rows)])∧(([] : List Nat)=[]))∧(((904:Nat)=904)∧((0:Nat)=0)∧((904:Nat) ∈ ([811,812,901,902,903,904] : List Nat)))∧Y)∧Y)∧((904:Nat) ∈ ([811,812,901,902,903,904] : List Nat)))∧Y)∧(true=true)∧(true=true)) _ (by kernel_rfl) ⟨⟨⟨rfl,rfl,(by decide)⟩,⟨rfl,rfl,(by decide)⟩,⟨rfl,rfl⟩,⟨rfl,rfl,(by decide)⟩,rfl,(congrArg (Value.int .i64) (by first | rfl | omega | assumption | simp | simp_all)),tt⟩,⟨⟨rfl,rfl,(by decide)⟩,⟨rfl,rfl,(by decide)⟩,⟨rfl,⟨⟨rfl,rfl,(by decide)⟩,tt⟩,(by decide)⟩,⟨rfl,⟨⟨rfl,rfl,(by decide)⟩,tt⟩,(by decide)⟩,⟨rfl,⟨rfl,tt⟩,(by decide)⟩,⟨rfl,⟨⟨rfl,⟨rfl,rfl,(by decide)⟩,⟨rfl,rfl⟩,⟨rfl,rfl⟩,⟨rfl,rfl,(by decide)⟩,⟨rfl,rfl,(by decide)⟩,⟨rfl,rfl⟩,⟨rfl,rfl,(by decide)⟩,tt⟩,tt⟩,(by decide)⟩,tt⟩,rfl,rfl⟩)
   ·rintro ⟨k,oo,ou,uu⟩ hC0
    have hC : (k≤h.length)∧(oo=o)∧(uu=mask h.length (hasN o))∧(ou=out++ordersUp s h f (h.length - o.length - 1) o k) := hC0
    clear hC0
    obtain ⟨hk,hoo,huu,hou⟩ := hC
    refine W.to (⟨[(0,.ptr 901 0),(4,.ptr 903 0),(5,.ep [.sl (.ints rows)]),(6,.ptr 904 0),(29,.i (h.length:Int)),(30,.i ((k:Nat):Int))],[(811,⟨3,.row (.ints oo)⟩),(812,⟨36,.row (.intss ou)⟩),(901,⟨36,.fix [.own 811 oo.length]⟩),(902,⟨48,.fix [.own 812 ou.length]⟩),(903,⟨3,.fix [.i uu]⟩),(904,⟨1,.fix [.fn 79 [.ptr 901 0,.ep [.sl (.calls h)],.ep [.v (.string s)],.ptr 902 0,.ptr 903 0,.ep [.sl (.ints rows)],.ptr 904 0]]⟩)],[811,812,901,902,903,904]⟩) rfl ?_
    refine Kk cok tab79 hnt [] [0,4,5,6,29,30,31] (⟨[(0,.ptr 901 0),(4,.ptr 903 0),(5,.ep [.sl (.ints rows)]),(6,.ptr 904 0),(29,.i (h.length:Int)),(30,.i ((k:Nat):Int)),(31,.b (decide (((k:Nat):Int)<(h.length:Int))))],[(811,⟨3,.row (.ints oo)⟩),(812,⟨36,.row (.intss ou)⟩),(901,⟨36,.fix [.own 811 oo.length]⟩),(902,⟨48,.fix [.own 812 ou.length]⟩),(903,⟨3,.fix [.i uu]⟩),(904,⟨1,.fix [.fn 79 [.ptr 901 0,.ep [.sl (.calls h)],.ep [.v (.string s)],.ptr 902 0,.ptr 903 0,.ep [.sl (.ints rows)],.ptr 904 0]]⟩)],[811,812,901,902,903,904]⟩)
     ((Y∧Y∧Y)∧Y)
     ⟨⟨tt,tt,tt⟩,tt⟩ ?_
    refine W.seq ?_
    refine W.ifP (((k:Nat):Int)<(h.length:Int)) (.b (decide (((k:Nat):Int)<(h.length:Int)))) (by kernel_rfl) rfl trivial ?_ ?_
    ·intro h31
     refine W.skip (thenQ_normal ?_)
     refine W.seq ?_
     refine W.block ?_
     refine Kk cok tab79 hnt [] [0,4,5,6,9,29,30] (⟨[(0,.ptr 901 0),(4,.ptr 903 0),(5,.ep [.sl (.ints rows)]),(6,.ptr 904 0),(9,.i ((k:Nat):Int)),(29,.i (h.length:Int)),(30,.i ((k:Nat):Int))],[(811,⟨3,.row (.ints oo)⟩),(812,⟨36,.row (.intss ou)⟩),(901,⟨36,.fix [.own 811 oo.length]⟩),(902,⟨48,.fix [.own 812 ou.length]⟩),(903,⟨3,.fix [.i uu]⟩),(904,⟨1,.fix [.fn 79 [.ptr 901 0,.ep [.sl (.calls h)],.ep [.v (.string s)],.ptr 902 0,.ptr 903 0,.ep [.sl (.ints rows)],.ptr 904 0]]⟩)],[811,812,901,902,903,904]⟩)
      (Y∧Y∧Y)
      ⟨tt,tt,tt⟩ ?_
     refine W.seq ?_
     refine W.KA cok tab79 hnt [] [0,4,5,6,9,29,30,47] (⟨[(0,.ptr 901 0),(4,.ptr 903 0),(5,.ep [.sl (.ints rows)]),(6,.ptr 904 0),(9,.i ((k:Nat):Int)),(29,.i (h.length:Int)),(30,.i ((k:Nat):Int)),(47,.b ((decide ((bitsI .and .i64 (shrI .i64 uu ((k:Nat):Int)) (1:Int))=(1:Int))) || (decide ((bitsI .andNot .i64 (rows.getD k 0) uu)≠(0:Int)))))],[(811,⟨3,.row (.ints oo)⟩),(812,⟨36,.row (.intss ou)⟩),(901,⟨36,.fix [.own 811 oo.length]⟩),(902,⟨48,.fix [.own 812 ou.length]⟩),(903,⟨3,.fix [.i uu]⟩),(904,⟨1,.fix [.fn 79 [.ptr 901 0,.ep [.sl (.calls h)],.ep [.v (.string s)],.ptr 902 0,.ptr 903 0,.ep [.sl (.ints rows)],.ptr 904 0]]⟩)],[811,812,901,902,903,904]⟩)
      ((fun (Z1:Bool)=>(Y∧(Y∧((Y∧(Fits .u64 ((k:Nat):Int)))∧((Y∧(Y∧(0≤((k:Nat):Int))))∧((Y∧(Y∧Y))∧((Y∧(Y∧Y))∧(Y∧(((!Z1)=true→Y)∧(((!Z1)=true→Y)∧(((!Z1)=true→((((!Z1)=true)∧Y)∧((((!Z1)=true)∧Y)∧((0≤((k:Nat):Int))∧(((k:Nat):Int)<(rows.length:Int))))))∧(((!Z1)=true→(((!Z1)=true)∧Y))∧(((!Z1)=true→Y)∧(((!Z1)=true→((((!Z1)=true)∧Y)∧((((!Z1)=true)∧Y)∧Y)))∧(((!Z1)=true→((((!Z1)=true)∧Y)∧(Y∧Y)))∧((Y∧((Z1=true→Y)∧(Z1=false→((!Z1)=true)∧Y)))∧Y)))))))))))))))) (decide ((bitsI .and .i64 (shrI .i64 uu ((k:Nat):Int)) (1:Int))=(1:Int)))) (by kernel_rfl) (by kernel_rfl)
      ⟨tt,tt,⟨tt,(by exact fits_u64 (by omega) (by omega))⟩,⟨tt,tt,(by omega)⟩,⟨tt,tt,tt⟩,⟨tt,tt,tt⟩,tt,(fun _=>trivial),(fun _=>trivial),(fun hG=>⟨⟨hG,tt⟩,⟨hG,tt⟩,(by have hg0 : ¬ ((bitsI .and .i64 (shrI .i64 uu ((k:Nat):Int)) (1:Int))=(1:Int)) := of_decide_eq_false (not_f hG); omega),(by have hg0 : ¬ ((bitsI .and .i64 (shrI .i64 uu ((k:Nat):Int)) (1:Int))=(1:Int)) := of_decide_eq_false (not_f hG); omega)⟩),(fun hG=>⟨hG,tt⟩),(fun _=>trivial),(fun hG=>⟨⟨hG,tt⟩,⟨hG,tt⟩,tt⟩),(fun hG=>⟨⟨hG,tt⟩,tt,tt⟩),⟨tt,(fun _=>trivial),(fun hp=>⟨(not_t hp),tt⟩)⟩,tt⟩ ?_
     refine W.if' ((decide ((bitsI .and .i64 (shrI .i64 uu ((k:Nat):Int)) (1:Int))=(1:Int))) || (decide ((bitsI .andNot .i64 (rows.getD k 0) uu)≠(0:Int)))) (.b ((decide ((bitsI .and .i64 (shrI .i64 uu ((k:Nat):Int)) (1:Int))=(1:Int))) || (decide ((bitsI .andNot .i64 (rows.getD k 0) uu)≠(0:Int))))) (by kernel_rfl) rfl trivial ?_ ?_
     ·intro h47
      have hfk : freeB f h.length o k=false := free_no (by omega) (by omega) (by rw [← hr,← huu]; exact h47)
      refine W.exit (thenQ_exit (blockQ_hit ?_))
      refine thenQ_normal ?_
      refine Lk cok tab79 hnt [] (⟨[(0,.ptr 901 0),(4,.ptr 903 0),(5,.ep [.sl (.ints rows)]),(6,.ptr 904 0),(9,.i ((k:Nat):Int)),(29,.i (h.length:Int)),(30,.i (((k+1):Nat):Int)),(47,.b ((decide ((bitsI .and .i64 (shrI .i64 uu ((k:Nat):Int)) (1:Int))=(1:Int))) || (decide ((bitsI .andNot .i64 (rows.getD k 0) uu)≠(0:Int))))),(69,.i (((k+1):Nat):Int))],[(811,⟨3,.row (.ints oo)⟩),(812,⟨36,.row (.intss ou)⟩),(901,⟨36,.fix [.own 811 oo.length]⟩),(902,⟨48,.fix [.own 812 ou.length]⟩),(903,⟨3,.fix [.i uu]⟩),(904,⟨1,.fix [.fn 79 [.ptr 901 0,.ep [.sl (.calls h)],.ep [.v (.string s)],.ptr 902 0,.ptr 903 0,.ep [.sl (.ints rows)],.ptr 904 0]]⟩)],[811,812,901,902,903,904]⟩)
       ((Y∧Y∧(Fits .i64 (((k+1):Nat):Int)))∧Y∧Y)
       ⟨⟨tt,tt,(by exact fits_i64 (by omega) (by omega))⟩,tt,tt⟩ ?_
      refine thenQ_normal ?_
      refine ⟨((k+1),oo,ou,uu),(show ((k+1)≤h.length)∧(oo=o)∧(uu=mask h.length (hasN o))∧(ou=out++ordersUp s h f (h.length - o.length - 1) o (k+1)) from ⟨(by first | assumption | omega | rfl | (intro _ hjj; omega) | (simp; done) | (simp; omega)),(by first | exact hoo | (rw [take_pop rfl]; exact hoo)),(by first | exact huu | (rw [huu,used_push (by omega) (by omega)]; exact used_pop (by omega) (by omega) (free_has hfk))),(by first | (rw [up_no hfk]; exact hou) | (rw [hoo]; exact up_step (oo := []) hfk hou))⟩),(show h.length - (k+1)<h.length - k from (by first | omega | (simp_all; omega))),?_⟩
      exact Sub.of [] (@cast (((((901:Nat)=901)∧((0:Nat)=0)∧((901:Nat) ∈ ([811,812,901,902,903,904] : List Nat)))∧(((903:Nat)=903)∧((0:Nat)=0)∧((903:Nat) ∈ ([811,812,901,902,903,904] : List Nat)))∧(((.ep [.sl (.ints rows)] : AV)=.ep [.sl (.ints rows)])∧(([] : List Nat)=[]))∧(((904:Nat)=904)∧((0:Nat)=0)∧((904:Nat) ∈ ([811,812,901,902,903,904] : List Nat)))∧(Si (h.length:Int))∧(Si (((k+1):Nat):Int))∧Y)∧((((3:Nat)=3)∧(Sd (.ints oo))∧((811:Nat) ∈ ([811,812,901,902,903,904] : List Nat)))∧(((36:Nat)=36)∧(Sd (.intss ou))∧((812:Nat) ∈ ([811,812,901,902,903,904] : List Nat)))∧(((36:Nat)=36)∧((((811:Nat)=811)∧(oo.length=oo.length)∧((811:Nat) ∈ ([811,812,901,902,903,904] : List Nat)))∧Y)∧((901:Nat) ∈ ([811,812,901,902,903,904] : List Nat)))∧(((48:Nat)=48)∧((((812:Nat)=812)∧(ou.length=ou.length)∧((812:Nat) ∈ ([811,812,901,902,903,904] : List Nat)))∧Y)∧((902:Nat) ∈ ([811,812,901,902,903,904] : List Nat)))∧(((3:Nat)=3)∧((Si uu)∧Y)∧((903:Nat) ∈ ([811,812,901,902,903,904] : List Nat)))∧(((1:Nat)=1)∧((((79:Nat)=79)∧(((901:Nat)=901)∧((0:Nat)=0)∧((901:Nat) ∈ ([811,812,901,902,903,904] : List Nat)))∧(((.ep [.sl (.calls h)] : AV)=.ep [.sl (.calls h)])∧(([] : List Nat)=[]))∧(((.ep [.v (.string s)] : AV)=.ep [.v (.string s)])∧(([] : List Nat)=[]))∧(((902:Nat)=902)∧((0:Nat)=0)∧((902:Nat) ∈ ([811,812,901,902,903,904] : List Nat)))∧(((903:Nat)=903)∧((0:Nat)=0)∧((903:Nat) ∈ ([811,812,901,902,903,904] : List Nat)))∧(((.ep [.sl (.ints rows)] : AV)=.ep [.sl (.ints rows)])∧(([] : List Nat)=[]))∧(((904:Nat)=904)∧((0:Nat)=0)∧((904:Nat) ∈ ([811,812,901,902,903,904] : List Nat)))∧Y)∧Y)∧((904:Nat) ∈ ([811,812,901,902,903,904] : List Nat)))∧Y)∧(true=true)∧(true=true)) _ (by kernel_rfl) ⟨⟨⟨rfl,rfl,(by decide)⟩,⟨rfl,rfl,(by decide)⟩,⟨rfl,rfl⟩,⟨rfl,rfl,(by decide)⟩,rfl,rfl,tt⟩,⟨⟨rfl,rfl,(by decide)⟩,⟨rfl,rfl,(by decide)⟩,⟨rfl,⟨⟨rfl,rfl,(by decide)⟩,tt⟩,(by decide)⟩,⟨rfl,⟨⟨rfl,rfl,(by decide)⟩,tt⟩,(by decide)⟩,⟨rfl,⟨rfl,tt⟩,(by decide)⟩,⟨rfl,⟨⟨rfl,⟨rfl,rfl,(by decide)⟩,⟨rfl,rfl⟩,⟨rfl,rfl⟩,⟨rfl,rfl,(by decide)⟩,⟨rfl,rfl,(by decide)⟩,⟨rfl,rfl⟩,⟨rfl,rfl,(by decide)⟩,tt⟩,tt⟩,(by decide)⟩,tt⟩,rfl,rfl⟩)
     ·intro n47
      have n47_0 : ¬ ((bitsI .and .i64 (shrI .i64 uu ((k:Nat):Int)) (1:Int))=(1:Int)) := of_decide_eq_false (or_l n47)
      have n47_1 : ¬ ((bitsI .andNot .i64 (rows.getD k 0) uu)≠(0:Int)) := of_decide_eq_false (or_r n47)
      have hfk : freeB f h.length o k=true := free_yes (by omega) (by omega) (by rw [← hr,← huu]; exact n47)
      refine W.skip (thenQ_normal ?_)
      refine W.KA cok tab79 hnt [51] [0,4,5,6,9,29,30] (⟨[(0,.ptr 901 0),(4,.ptr 903 0),(5,.ep [.sl (.ints rows)]),(6,.ptr 904 0),(9,.i ((k:Nat):Int)),(29,.i (h.length:Int)),(30,.i ((k:Nat):Int))],[(51,⟨3,.row (.ints (oo++([((k:Nat):Int)])))⟩),(812,⟨36,.row (.intss ou)⟩),(901,⟨36,.fix [.own 51 (List.length (oo++([((k:Nat):Int)])))]⟩),(902,⟨48,.fix [.own 812 ou.length]⟩),(903,⟨3,.fix [.i (bitsI .or .i64 uu (shlI .i64 (1:Int) ((k:Nat):Int)))]⟩),(904,⟨1,.fix [.fn 79 [.ptr 901 0,.ep [.sl (.calls h)],.ep [.v (.string s)],.ptr 902 0,.ptr 903 0,.ep [.sl (.ints rows)],.ptr 904 0]]⟩)],[51,50,811,812,901,902,903,904]⟩)
       (Y∧Y∧(Y∧Y)∧((Y∧(oo.length=oo.length))∧Y∧((oo.length+(List.length ([((k:Nat):Int)]))) * 8≤140737488355328))∧Y∧Y∧(Y∧(Fits .u64 ((k:Nat):Int)))∧(Y∧Y∧(0≤((k:Nat):Int))∧(Fits .i64 (shlI .i64 (1:Int) ((k:Nat):Int))))∧(Y∧Y∧Y)∧(Y∧Y)∧(Y∧Y)∧Y) (by kernel_rfl) (by kernel_rfl)
       ⟨tt,tt,⟨tt,tt⟩,⟨⟨tt,rfl⟩,tt,(by have hp1 := Nat.pow_pos (n := h.length - o.length) (show 0<6 by omega); (try simp only [List.length_cons,List.length_nil]); first | omega | (rw [hoo]; omega))⟩,tt,tt,⟨tt,(by exact fits_u64 (by omega) (by omega))⟩,⟨tt,tt,(by omega),(by exact fits_shl (by omega))⟩,⟨tt,tt,tt⟩,⟨tt,tt⟩,⟨tt,tt⟩,tt⟩ ?_
      refine W.seq (W.wi ?_)
      refine WI.runT cok tab79 hnt [] 1 1 (⟨[(0,.ptr 901 0),(4,.ptr 903 0),(5,.ep [.sl (.ints rows)]),(6,.ptr 904 0),(9,.i ((k:Nat):Int)),(29,.i (h.length:Int)),(30,.i ((k:Nat):Int)),(57,.fn 79 [.ptr 901 0,.ep [.sl (.calls h)],.ep [.v (.string s)],.ptr 902 0,.ptr 903 0,.ep [.sl (.ints rows)],.ptr 904 0])],[(51,⟨3,.row (.ints (oo++([((k:Nat):Int)])))⟩),(812,⟨36,.row (.intss ou)⟩),(901,⟨36,.fix [.own 51 (List.length (oo++([((k:Nat):Int)])))]⟩),(902,⟨48,.fix [.own 812 ou.length]⟩),(903,⟨3,.fix [.i (bitsI .or .i64 uu (shlI .i64 (1:Int) ((k:Nat):Int)))]⟩),(904,⟨1,.fix [.fn 79 [.ptr 901 0,.ep [.sl (.calls h)],.ep [.v (.string s)],.ptr 902 0,.ptr 903 0,.ep [.sl (.ints rows)],.ptr 904 0]]⟩)],[51,50,811,812,901,902,903,904]⟩)
       (Y∧Y) (by kernel_rfl) rfl
       ⟨tt,tt⟩ ?_
      refine WI.callH _ [] [.ptr 901 0,.ep [.sl (.calls h)],.ep [.v (.string s)],.ptr 902 0,.ptr 903 0,.ep [.sl (.ints rows)],.ptr 904 0] (.fn 79 [.ptr 901 0,.ep [.sl (.calls h)],.ep [.v (.string s)],.ptr 902 0,.ptr 903 0,.ep [.sl (.ints rows)],.ptr 904 0]) _ _ [(901,901),(811,51),(902,902),(812,812),(903,903),(904,904)] (ih s h f rows (oo++([((k:Nat):Int)])) (bitsI .or .i64 uu (shlI .i64 (1:Int) ((k:Nat):Int))) ou ⟨(by exact hs),(by exact hv),(by exact hr),(by rw [hoo]; exact headO_snoc ho (by omega) (free_has hfk) (by omega)),(by rw [huu,hoo]; exact used_push (by omega) (by omega)),(by rw [hoo,hou,show h.length - (o++[((k:Nat):Int)]).length=h.length - o.length - 1 by (simp; omega)]; exact ord_room hz hv6 (by omega) (by omega))⟩ (by rw [hoo]; simp; omega)) ent79 hnt rfl rfl (wanted_none rfl) (by kernel_rfl) (by kernel_rfl) trivial (by kernel_rfl) (by kernel_rfl) (by kernel_rfl) (@cast (((some ⟨3,.row (.ints (oo++([((k:Nat):Int)])))⟩ : Option LB)=some ⟨3,.row (.ints (oo++([((k:Nat):Int)])))⟩)∧(true=true)∧((some ⟨36,.row (.intss ou)⟩ : Option LB)=some ⟨36,.row (.intss ou)⟩)∧(true=true)∧((some ⟨36,.fix [.own 51 (List.length (oo++([((k:Nat):Int)])))]⟩ : Option LB)=some ⟨36,.fix [.own 51 (List.length (oo++([((k:Nat):Int)])))]⟩)∧(true=true)∧((some ⟨48,.fix [.own 812 ou.length]⟩ : Option LB)=some ⟨48,.fix [.own 812 ou.length]⟩)∧(true=true)∧((some ⟨3,.fix [.i (bitsI .or .i64 uu (shlI .i64 (1:Int) ((k:Nat):Int)))]⟩ : Option LB)=some ⟨3,.fix [.i (bitsI .or .i64 uu (shlI .i64 (1:Int) ((k:Nat):Int)))]⟩)∧(true=true)∧((some ⟨1,.fix [.fn 79 [.ptr 901 0,.ep [.sl (.calls h)],.ep [.v (.string s)],.ptr 902 0,.ptr 903 0,.ep [.sl (.ints rows)],.ptr 904 0]]⟩ : Option LB)=some ⟨1,.fix [.fn 79 [.ptr 901 0,.ep [.sl (.calls h)],.ep [.v (.string s)],.ptr 902 0,.ptr 903 0,.ep [.sl (.ints rows)],.ptr 904 0]]⟩)∧(true=true)∧(Y)) _ (by kernel_rfl) ⟨rfl,rfl,rfl,rfl,rfl,rfl,rfl,rfl,rfl,rfl,rfl,rfl,tt⟩) (by kernel_rfl) rfl ?_
      rintro r s1 u1 ⟨rfl,rfl,rfl⟩
      refine ⟨[(901,901),(902,902),(903,903),(904,904),(811,58),(812,1058)],by kernel_rfl,WI.to (⟨[(0,.ptr 901 0),(4,.ptr 903 0),(5,.ep [.sl (.ints rows)]),(6,.ptr 904 0),(9,.i ((k:Nat):Int)),(29,.i (h.length:Int)),(30,.i ((k:Nat):Int)),(57,.fn 79 [.ptr 901 0,.ep [.sl (.calls h)],.ep [.v (.string s)],.ptr 902 0,.ptr 903 0,.ep [.sl (.ints rows)],.ptr 904 0]),(58,.tup [])],[(58,⟨3,.row (.ints (oo++([((k:Nat):Int)])))⟩),(901,⟨36,.fix [.own 58 (List.length (oo++([((k:Nat):Int)])))]⟩),(902,⟨48,.fix [.own 1058 (List.length (ou++ordersF s h f (h.length - (oo++([((k:Nat):Int)])).length) (oo++([((k:Nat):Int)]))))]⟩),(903,⟨3,.fix [.i (bitsI .or .i64 uu (shlI .i64 (1:Int) ((k:Nat):Int)))]⟩),(904,⟨1,.fix [.fn 79 [.ptr 901 0,.ep [.sl (.calls h)],.ep [.v (.string s)],.ptr 902 0,.ptr 903 0,.ep [.sl (.ints rows)],.ptr 904 0]]⟩),(1058,⟨36,.row (.intss (ou++ordersF s h f (h.length - (oo++([((k:Nat):Int)])).length) (oo++([((k:Nat):Int)]))))⟩)],[1058,58,51,50,811,812,901,902,903,904]⟩) 2 (by kernel_rfl) rfl ?_⟩
      refine WI.nil rfl (thenQ_normal ?_)
      refine W.keepE [0,4,5,6,9,29,30] [(0,.ptr 901 0),(4,.ptr 903 0),(5,.ep [.sl (.ints rows)]),(6,.ptr 904 0),(9,.i ((k:Nat):Int)),(29,.i (h.length:Int)),(30,.i ((k:Nat):Int))] (by kernel_rfl) ?_
      refine W.to (⟨[(0,.ptr 901 0),(4,.ptr 903 0),(5,.ep [.sl (.ints rows)]),(6,.ptr 904 0),(9,.i ((k:Nat):Int)),(29,.i (h.length:Int)),(30,.i ((k:Nat):Int))],[(58,⟨3,.row (.ints (oo++([((k:Nat):Int)])))⟩),(901,⟨36,.fix [.own 58 (List.length (oo++([((k:Nat):Int)])))]⟩),(902,⟨48,.fix [.own 1058 (List.length (ou++ordersF s h f (h.length - (oo++([((k:Nat):Int)])).length) (oo++([((k:Nat):Int)]))))]⟩),(903,⟨3,.fix [.i (bitsI .or .i64 uu (shlI .i64 (1:Int) ((k:Nat):Int)))]⟩),(904,⟨1,.fix [.fn 79 [.ptr 901 0,.ep [.sl (.calls h)],.ep [.v (.string s)],.ptr 902 0,.ptr 903 0,.ep [.sl (.ints rows)],.ptr 904 0]]⟩),(1058,⟨36,.row (.intss (ou++ordersF s h f (h.length - (oo++([((k:Nat):Int)])).length) (oo++([((k:Nat):Int)]))))⟩)],[1058,58,51,50,811,812,901,902,903,904]⟩) rfl ?_
      refine W.LA cok tab79 hnt [] (⟨[(0,.ptr 901 0),(4,.ptr 903 0),(5,.ep [.sl (.ints rows)]),(6,.ptr 904 0),(9,.i ((k:Nat):Int)),(29,.i (h.length:Int)),(30,.i ((k:Nat):Int)),(59,.own 58 (List.length (oo++([((k:Nat):Int)])))),(60,.own 58 (List.length (oo++([((k:Nat):Int)])))),(61,.i (((List.length (oo++([((k:Nat):Int)]))):Nat):Int)),(62,.i ((((List.length (oo++([((k:Nat):Int)]))):Nat):Int) - (1:Int))),(63,.own 58 (Int.toNat ((((List.length (oo++([((k:Nat):Int)]))):Nat):Int) - (1:Int)))),(64,.i (bitsI .or .i64 uu (shlI .i64 (1:Int) ((k:Nat):Int)))),(65,.i ((k:Nat):Int)),(66,.v (.int .u64 ((k:Nat):Int))),(67,.i (shlI .i64 (1:Int) ((k:Nat):Int))),(68,.i (bitsI .andNot .i64 (bitsI .or .i64 uu (shlI .i64 (1:Int) ((k:Nat):Int))) (shlI .i64 (1:Int) ((k:Nat):Int))))],[(58,⟨3,.row (.ints (oo++([((k:Nat):Int)])))⟩),(901,⟨36,.fix [.own 58 (Int.toNat ((((List.length (oo++([((k:Nat):Int)]))):Nat):Int) - (1:Int)))]⟩),(902,⟨48,.fix [.own 1058 (List.length (ou++ordersF s h f (h.length - (oo++([((k:Nat):Int)])).length) (oo++([((k:Nat):Int)]))))]⟩),(903,⟨3,.fix [.i (bitsI .andNot .i64 (bitsI .or .i64 uu (shlI .i64 (1:Int) ((k:Nat):Int))) (shlI .i64 (1:Int) ((k:Nat):Int)))]⟩),(904,⟨1,.fix [.fn 79 [.ptr 901 0,.ep [.sl (.calls h)],.ep [.v (.string s)],.ptr 902 0,.ptr 903 0,.ep [.sl (.ints rows)],.ptr 904 0]]⟩),(1058,⟨36,.row (.intss (ou++ordersF s h f (h.length - (oo++([((k:Nat):Int)])).length) (oo++([((k:Nat):Int)]))))⟩)],[1058,58,51,50,811,812,901,902,903,904]⟩)
       (Y∧Y∧Y∧(Y∧Y∧(Fits .i64 ((((List.length (oo++([((k:Nat):Int)]))):Nat):Int) - (1:Int))))∧(Y∧Y∧(0≤((((List.length (oo++([((k:Nat):Int)]))):Nat):Int) - (1:Int)))∧(((((List.length (oo++([((k:Nat):Int)]))):Nat):Int) - (1:Int))≤(((List.length (oo++([((k:Nat):Int)]))):Nat):Int)))∧Y∧Y∧(Y∧(Fits .u64 ((k:Nat):Int)))∧(Y∧Y∧(0≤((k:Nat):Int))∧(Fits .i64 (shlI .i64 (1:Int) ((k:Nat):Int))))∧(Y∧Y∧Y)∧(Y∧Y)∧(Y∧Y)∧Y) (by kernel_rfl) (by kernel_rfl)
       ⟨tt,tt,tt,⟨tt,tt,(by rw [hoo]; exact fits_i64 (by first | (simp; done) | (simp; omega)) (by first | (simp; done) | (simp; omega)))⟩,⟨tt,tt,(by rw [hoo]; first | (simp; done) | (simp; omega) | omega),(by rw [hoo]; first | (simp; done) | (simp; omega) | omega)⟩,tt,tt,⟨tt,(by exact fits_u64 (by omega) (by omega))⟩,⟨tt,tt,(by omega),(by exact fits_shl (by omega))⟩,⟨tt,tt,tt⟩,⟨tt,tt⟩,⟨tt,tt⟩,tt⟩ ?_
      refine blockQ_normal (thenQ_normal ?_)
      refine W.cutRow 58 3 (.ints (oo++([((k:Nat):Int)]))) (.ints (List.take (Int.toNat ((((List.length (oo++([((k:Nat):Int)]))):Nat):Int) - (1:Int))) (oo++([((k:Nat):Int)])))) (Int.toNat ((((List.length (oo++([((k:Nat):Int)]))):Nat):Int) - (1:Int))) (⟨[(0,.ptr 901 0),(4,.ptr 903 0),(5,.ep [.sl (.ints rows)]),(6,.ptr 904 0),(9,.i ((k:Nat):Int)),(29,.i (h.length:Int)),(30,.i ((k:Nat):Int)),(59,.own 58 (List.length (oo++([((k:Nat):Int)])))),(60,.own 58 (List.length (oo++([((k:Nat):Int)])))),(61,.i (((List.length (oo++([((k:Nat):Int)]))):Nat):Int)),(62,.i ((((List.length (oo++([((k:Nat):Int)]))):Nat):Int) - (1:Int))),(63,.own 58 (Int.toNat ((((List.length (oo++([((k:Nat):Int)]))):Nat):Int) - (1:Int)))),(64,.i (bitsI .or .i64 uu (shlI .i64 (1:Int) ((k:Nat):Int)))),(65,.i ((k:Nat):Int)),(66,.v (.int .u64 ((k:Nat):Int))),(67,.i (shlI .i64 (1:Int) ((k:Nat):Int))),(68,.i (bitsI .andNot .i64 (bitsI .or .i64 uu (shlI .i64 (1:Int) ((k:Nat):Int))) (shlI .i64 (1:Int) ((k:Nat):Int))))],[(58,⟨3,.row (.ints (List.take (Int.toNat ((((List.length (oo++([((k:Nat):Int)]))):Nat):Int) - (1:Int))) (oo++([((k:Nat):Int)]))))⟩),(901,⟨36,.fix [.own 58 (Int.toNat ((((List.length (oo++([((k:Nat):Int)]))):Nat):Int) - (1:Int)))]⟩),(902,⟨48,.fix [.own 1058 (List.length (ou++ordersF s h f (h.length - (oo++([((k:Nat):Int)])).length) (oo++([((k:Nat):Int)]))))]⟩),(903,⟨3,.fix [.i (bitsI .andNot .i64 (bitsI .or .i64 uu (shlI .i64 (1:Int) ((k:Nat):Int))) (shlI .i64 (1:Int) ((k:Nat):Int)))]⟩),(904,⟨1,.fix [.fn 79 [.ptr 901 0,.ep [.sl (.calls h)],.ep [.v (.string s)],.ptr 902 0,.ptr 903 0,.ep [.sl (.ints rows)],.ptr 904 0]]⟩),(1058,⟨36,.row (.intss (ou++ordersF s h f (h.length - (oo++([((k:Nat):Int)])).length) (oo++([((k:Nat):Int)]))))⟩)],[1058,58,51,50,811,812,901,902,903,904]⟩) (by kernel_rfl) (by rfl) (show (Int.toNat ((((List.length (oo++([((k:Nat):Int)]))):Nat):Int) - (1:Int)))≤(List.length (oo++([((k:Nat):Int)]))) from (by rw [hoo]; first | (simp; done) | (simp; omega) | omega)) (by kernel_rfl) ?_
      refine Lk cok tab79 hnt [] (⟨[(0,.ptr 901 0),(4,.ptr 903 0),(5,.ep [.sl (.ints rows)]),(6,.ptr 904 0),(9,.i ((k:Nat):Int)),(29,.i (h.length:Int)),(30,.i (((k+1):Nat):Int)),(59,.own 58 (List.length (oo++([((k:Nat):Int)])))),(60,.own 58 (List.length (oo++([((k:Nat):Int)])))),(61,.i (((List.length (oo++([((k:Nat):Int)]))):Nat):Int)),(62,.i ((((List.length (oo++([((k:Nat):Int)]))):Nat):Int) - (1:Int))),(63,.own 58 (Int.toNat ((((List.length (oo++([((k:Nat):Int)]))):Nat):Int) - (1:Int)))),(64,.i (bitsI .or .i64 uu (shlI .i64 (1:Int) ((k:Nat):Int)))),(65,.i ((k:Nat):Int)),(66,.v (.int .u64 ((k:Nat):Int))),(67,.i (shlI .i64 (1:Int) ((k:Nat):Int))),(68,.i (bitsI .andNot .i64 (bitsI .or .i64 uu (shlI .i64 (1:Int) ((k:Nat):Int))) (shlI .i64 (1:Int) ((k:Nat):Int)))),(69,.i (((k+1):Nat):Int))],[(58,⟨3,.row (.ints (List.take (Int.toNat ((((List.length (oo++([((k:Nat):Int)]))):Nat):Int) - (1:Int))) (oo++([((k:Nat):Int)]))))⟩),(901,⟨36,.fix [.own 58 (Int.toNat ((((List.length (oo++([((k:Nat):Int)]))):Nat):Int) - (1:Int)))]⟩),(902,⟨48,.fix [.own 1058 (List.length (ou++ordersF s h f (h.length - (oo++([((k:Nat):Int)])).length) (oo++([((k:Nat):Int)]))))]⟩),(903,⟨3,.fix [.i (bitsI .andNot .i64 (bitsI .or .i64 uu (shlI .i64 (1:Int) ((k:Nat):Int))) (shlI .i64 (1:Int) ((k:Nat):Int)))]⟩),(904,⟨1,.fix [.fn 79 [.ptr 901 0,.ep [.sl (.calls h)],.ep [.v (.string s)],.ptr 902 0,.ptr 903 0,.ep [.sl (.ints rows)],.ptr 904 0]]⟩),(1058,⟨36,.row (.intss (ou++ordersF s h f (h.length - (oo++([((k:Nat):Int)])).length) (oo++([((k:Nat):Int)]))))⟩)],[1058,58,51,50,811,812,901,902,903,904]⟩)
       ((Y∧Y∧(Fits .i64 (((k+1):Nat):Int)))∧Y∧Y)
       ⟨⟨tt,tt,(by exact fits_i64 (by omega) (by omega))⟩,tt,tt⟩ ?_
      refine thenQ_normal ?_
      refine ⟨((k+1),(List.take (Int.toNat ((((List.length (oo++([((k:Nat):Int)]))):Nat):Int) - (1:Int))) (oo++([((k:Nat):Int)]))),(ou++ordersF s h f (h.length - (oo++([((k:Nat):Int)])).length) (oo++([((k:Nat):Int)]))),(bitsI .andNot .i64 (bitsI .or .i64 uu (shlI .i64 (1:Int) ((k:Nat):Int))) (shlI .i64 (1:Int) ((k:Nat):Int)))),(show ((k+1)≤h.length)∧((List.take (Int.toNat ((((List.length (oo++([((k:Nat):Int)]))):Nat):Int) - (1:Int))) (oo++([((k:Nat):Int)])))=o)∧((bitsI .andNot .i64 (bitsI .or .i64 uu (shlI .i64 (1:Int) ((k:Nat):Int))) (shlI .i64 (1:Int) ((k:Nat):Int)))=mask h.length (hasN o))∧((ou++ordersF s h f (h.length - (oo++([((k:Nat):Int)])).length) (oo++([((k:Nat):Int)])))=out++ordersUp s h f (h.length - o.length - 1) o (k+1)) from ⟨(by first | assumption | omega | rfl | (intro _ hjj; omega) | (simp; done) | (simp; omega)),(by first | exact hoo | (rw [take_pop rfl]; exact hoo)),(by first | exact huu | (rw [huu,used_push (by omega) (by omega)]; exact used_pop (by omega) (by omega) (free_has hfk))),(by first | (rw [up_no hfk]; exact hou) | (rw [hoo]; exact up_step (oo := []) hfk hou))⟩),(show h.length - (k+1)<h.length - k from (by first | omega | (simp_all; omega))),?_⟩
      exact Sub.of [(811,58),(812,1058)] (@cast (((((901:Nat)=901)∧((0:Nat)=0)∧((901:Nat) ∈ ([811,812,901,902,903,904] : List Nat)))∧(((903:Nat)=903)∧((0:Nat)=0)∧((903:Nat) ∈ ([811,812,901,902,903,904] : List Nat)))∧(((.ep [.sl (.ints rows)] : AV)=.ep [.sl (.ints rows)])∧(([] : List Nat)=[]))∧(((904:Nat)=904)∧((0:Nat)=0)∧((904:Nat) ∈ ([811,812,901,902,903,904] : List Nat)))∧(Si (h.length:Int))∧(Si (((k+1):Nat):Int))∧Y)∧((((3:Nat)=3)∧(Sd (.ints (List.take (Int.toNat ((((List.length (oo++([((k:Nat):Int)]))):Nat):Int) - (1:Int))) (oo++([((k:Nat):Int)])))))∧((811:Nat) ∈ ([811,812,901,902,903,904] : List Nat)))∧(((36:Nat)=36)∧(Sd (.intss (ou++ordersF s h f (h.length - (oo++([((k:Nat):Int)])).length) (oo++([((k:Nat):Int)])))))∧((812:Nat) ∈ ([811,812,901,902,903,904] : List Nat)))∧(((36:Nat)=36)∧((((58:Nat)=58)∧((Int.toNat ((((List.length (oo++([((k:Nat):Int)]))):Nat):Int) - (1:Int)))=(List.length (List.take (Int.toNat ((((List.length (oo++([((k:Nat):Int)]))):Nat):Int) - (1:Int))) (oo++([((k:Nat):Int)])))))∧((811:Nat) ∈ ([811,812,901,902,903,904] : List Nat)))∧Y)∧((901:Nat) ∈ ([811,812,901,902,903,904] : List Nat)))∧(((48:Nat)=48)∧((((1058:Nat)=1058)∧((List.length (ou++ordersF s h f (h.length - (oo++([((k:Nat):Int)])).length) (oo++([((k:Nat):Int)]))))=(List.length (ou++ordersF s h f (h.length - (oo++([((k:Nat):Int)])).length) (oo++([((k:Nat):Int)])))))∧((812:Nat) ∈ ([811,812,901,902,903,904] : List Nat)))∧Y)∧((902:Nat) ∈ ([811,812,901,902,903,904] : List Nat)))∧(((3:Nat)=3)∧((Si (bitsI .andNot .i64 (bitsI .or .i64 uu (shlI .i64 (1:Int) ((k:Nat):Int))) (shlI .i64 (1:Int) ((k:Nat):Int))))∧Y)∧((903:Nat) ∈ ([811,812,901,902,903,904] : List Nat)))∧(((1:Nat)=1)∧((((79:Nat)=79)∧(((901:Nat)=901)∧((0:Nat)=0)∧((901:Nat) ∈ ([811,812,901,902,903,904] : List Nat)))∧(((.ep [.sl (.calls h)] : AV)=.ep [.sl (.calls h)])∧(([] : List Nat)=[]))∧(((.ep [.v (.string s)] : AV)=.ep [.v (.string s)])∧(([] : List Nat)=[]))∧(((902:Nat)=902)∧((0:Nat)=0)∧((902:Nat) ∈ ([811,812,901,902,903,904] : List Nat)))∧(((903:Nat)=903)∧((0:Nat)=0)∧((903:Nat) ∈ ([811,812,901,902,903,904] : List Nat)))∧(((.ep [.sl (.ints rows)] : AV)=.ep [.sl (.ints rows)])∧(([] : List Nat)=[]))∧(((904:Nat)=904)∧((0:Nat)=0)∧((904:Nat) ∈ ([811,812,901,902,903,904] : List Nat)))∧Y)∧Y)∧((904:Nat) ∈ ([811,812,901,902,903,904] : List Nat)))∧Y)∧(true=true)∧(true=true)) _ (by kernel_rfl) ⟨⟨⟨rfl,rfl,(by decide)⟩,⟨rfl,rfl,(by decide)⟩,⟨rfl,rfl⟩,⟨rfl,rfl,(by decide)⟩,rfl,rfl,tt⟩,⟨⟨rfl,rfl,(by decide)⟩,⟨rfl,rfl,(by decide)⟩,⟨rfl,⟨⟨rfl,(by first | rfl | omega | assumption | (symm; assumption) | simp | simp_all),(by decide)⟩,tt⟩,(by decide)⟩,⟨rfl,⟨⟨rfl,rfl,(by decide)⟩,tt⟩,(by decide)⟩,⟨rfl,⟨rfl,tt⟩,(by decide)⟩,⟨rfl,⟨⟨rfl,⟨rfl,rfl,(by decide)⟩,⟨rfl,rfl⟩,⟨rfl,rfl⟩,⟨rfl,rfl,(by decide)⟩,⟨rfl,rfl,(by decide)⟩,⟨rfl,rfl⟩,⟨rfl,rfl,(by decide)⟩,tt⟩,tt⟩,(by decide)⟩,tt⟩,rfl,rfl⟩)
    ·intro n31
     refine W.exit (thenQ_exit (thenQ_exit (blockQ_hit ?_)))
     exact endH_norm (.tup []) [(811,⟨3,.row (.ints o)⟩),(812,⟨36,.row (.intss (out++ordersF s h f (h.length - o.length) o))⟩),(901,⟨36,.fix [.own 811 o.length]⟩),(902,⟨48,.fix [.own 812 (List.length (out++ordersF s h f (h.length - o.length) o))]⟩),(903,⟨3,.fix [.i us]⟩),(904,⟨1,.fix [.fn 79 [.ptr 901 0,.ep [.sl (.calls h)],.ep [.v (.string s)],.ptr 902 0,.ptr 903 0,.ep [.sl (.ints rows)],.ptr 904 0]]⟩)] [901,902,903,904,811,812] ⟨rfl,rfl,rfl⟩ [(901,901),(902,902),(903,903),(904,904),(811,811),(812,812)] (.tup []) (by kernel_rfl) (@cast (Y∧((((3:Nat)=3)∧((.ints oo:Dat)=.ints o)∧((811:Nat) ∈ ([901,902,903,904,811,812] : List Nat)))∧(((36:Nat)=36)∧((.intss ou:Dat)=.intss (out++ordersF s h f (h.length - o.length) o))∧((812:Nat) ∈ ([901,902,903,904,811,812] : List Nat)))∧(((36:Nat)=36)∧((((811:Nat)=811)∧(oo.length=o.length)∧((811:Nat) ∈ ([901,902,903,904,811,812] : List Nat)))∧Y)∧((901:Nat) ∈ ([901,902,903,904,811,812] : List Nat)))∧(((48:Nat)=48)∧((((812:Nat)=812)∧(ou.length=(List.length (out++ordersF s h f (h.length - o.length) o)))∧((812:Nat) ∈ ([901,902,903,904,811,812] : List Nat)))∧Y)∧((902:Nat) ∈ ([901,902,903,904,811,812] : List Nat)))∧(((3:Nat)=3)∧(((.int .i64 uu:Value)=.int .i64 us)∧Y)∧((903:Nat) ∈ ([901,902,903,904,811,812] : List Nat)))∧(((1:Nat)=1)∧((((79:Nat)=79)∧(((901:Nat)=901)∧((0:Nat)=0)∧((901:Nat) ∈ ([901,902,903,904,811,812] : List Nat)))∧(((.ep [.sl (.calls h)] : AV)=.ep [.sl (.calls h)])∧(([] : List Nat)=[]))∧(((.ep [.v (.string s)] : AV)=.ep [.v (.string s)])∧(([] : List Nat)=[]))∧(((902:Nat)=902)∧((0:Nat)=0)∧((902:Nat) ∈ ([901,902,903,904,811,812] : List Nat)))∧(((903:Nat)=903)∧((0:Nat)=0)∧((903:Nat) ∈ ([901,902,903,904,811,812] : List Nat)))∧(((.ep [.sl (.ints rows)] : AV)=.ep [.sl (.ints rows)])∧(([] : List Nat)=[]))∧(((904:Nat)=904)∧((0:Nat)=0)∧((904:Nat) ∈ ([901,902,903,904,811,812] : List Nat)))∧Y)∧Y)∧((904:Nat) ∈ ([901,902,903,904,811,812] : List Nat)))∧Y)∧(true=true)∧(true=true)) _ (by kernel_rfl) ⟨tt,⟨⟨rfl,(congrArg Dat.ints (by first | exact hoo | (rw [hou,orders_end (by omega),show k=h.length by omega]))),(by decide)⟩,⟨rfl,(congrArg Dat.intss (by first | exact hoo | (rw [hou,orders_end (by omega),show k=h.length by omega]))),(by decide)⟩,⟨rfl,⟨⟨rfl,(by first | rfl | exact congrArg List.length (by first | exact hoo | (rw [hou,orders_end (by omega),show k=h.length by omega])) | omega | assumption | simp | simp_all),(by decide)⟩,tt⟩,(by decide)⟩,⟨rfl,⟨⟨rfl,(by first | rfl | exact congrArg List.length (by first | exact hoo | (rw [hou,orders_end (by omega),show k=h.length by omega])) | omega | assumption | simp | simp_all),(by decide)⟩,tt⟩,(by decide)⟩,⟨rfl,⟨(congrArg (Value.int .i64) (by first | rfl | omega | assumption | (first | exact hoo | (rw [hou,orders_end (by omega),show k=h.length by omega]); done) | simp | simp_all)),tt⟩,(by decide)⟩,⟨rfl,⟨⟨rfl,⟨rfl,rfl,(by decide)⟩,⟨rfl,rfl⟩,⟨rfl,rfl⟩,⟨rfl,rfl,(by decide)⟩,⟨rfl,rfl,(by decide)⟩,⟨rfl,rfl⟩,⟨rfl,rfl,(by decide)⟩,tt⟩,tt⟩,(by decide)⟩,tt⟩,rfl,rfl⟩)
theorem hok79 (s:ByteArray) (h : List CallD) (f : Nat→Nat→Bool) (rows : List Int) (o : List Int) (us:Int) (out : List (List Int)) (hpre : (isObject s=true)∧(validHistory h=true)∧(rows=rowsOf h.length f)∧(headO h o)∧(us=mask h.length (hasN o))∧(out.length+6 ^ (h.length - o.length)≤100000)) : HOK prog 79 [901,902,903,904] [.ptr 901 0,.ep [.sl (.calls h)],.ep [.v (.string s)],.ptr 902 0,.ptr 903 0,.ep [.sl (.ints rows)],.ptr 904 0] [(811,⟨3,.row (.ints o)⟩),(812,⟨36,.row (.intss out)⟩),(901,⟨36,.fix [.own 811 o.length]⟩),(902,⟨48,.fix [.own 812 out.length]⟩),(903,⟨3,.fix [.i us]⟩),(904,⟨1,.fix [.fn 79 [.ptr 901 0,.ep [.sl (.calls h)],.ep [.v (.string s)],.ptr 902 0,.ptr 903 0,.ep [.sl (.ints rows)],.ptr 904 0]]⟩)] [901,902,903,904,811,812] (fun r s1 u1=>r=(.tup [])∧s1=([(811,⟨3,.row (.ints o)⟩),(812,⟨36,.row (.intss (out++ordersF s h f (h.length - o.length) o))⟩),(901,⟨36,.fix [.own 811 o.length]⟩),(902,⟨48,.fix [.own 812 (List.length (out++ordersF s h f (h.length - o.length) o))]⟩),(903,⟨3,.fix [.i us]⟩),(904,⟨1,.fix [.fn 79 [.ptr 901 0,.ep [.sl (.calls h)],.ep [.v (.string s)],.ptr 902 0,.ptr 903 0,.ep [.sl (.ints rows)],.ptr 904 0]]⟩)])∧u1=([901,902,903,904,811,812])) := hokN79 _ s h f rows o us out hpre (Nat.lt_succ_self _)
end Go.Proofs.Tryz

set_option linter.unusedSimpArgs false
set_option linter.unusedVariables false
namespace Go.Proofs.Tryz
open Go.Ab Go.RowKit
def fs56 : FnS := fnS [.o,.s .calls,.s .ints] [.str,.calls,.ints] (fun _ (s,h,rows,_)=>(.sl (.intss (ordersF s h (bitF rows) h.length [])),[],(isObject s=true)∧(validHistory h=true)∧(rows=rowsOf h.length (bitF rows))))
abbrev T56 : Tab := lk []
theorem tab56 : TabOK prog T56 := TabOK.nil
theorem ok56 : FnOK prog 56 fs56 := by
 refine FnOK.mk cok func56 rfl rfl rfl ?_
 rintro fl ⟨(s:ByteArray),(h : List CallD),(rows : List Int),_⟩ hpre F hnt0 _
 have hnt : F.nt=17 := hnt0.trans ntmps56
 replace hpre : (isObject s=true)∧(validHistory h=true)∧(rows=rowsOf h.length (bitF rows)) := hpre
 obtain ⟨hs,hv,hr⟩ := hpre
 refine W.to (⟨[(0,.v (.string s)),(1,.sl (.calls h)),(2,.sl (.ints rows))],[],[999]⟩) rfl ?_
 have hv6 := (valid_iff.1 hv).1
 refine W.lenOf 1 (.calls h) (by kernel_rfl) ?_
 intro hl_h; replace hl_h : List.length h≤9223372036854775807 := hl_h
 refine W.lenOf 2 (.ints rows) (by kernel_rfl) ?_
 intro hl_rows; replace hl_rows : List.length rows≤9223372036854775807 := hl_rows
 refine Kk cok tab56 hnt [] [3,4,5] (⟨[(3,.ptr 3 0),(4,.ptr 4 0),(5,.ptr 5 0)],[(3,⟨9,.fix [.v (.string s)]⟩),(4,⟨38,.fix [.sl (.calls h)]⟩),(5,⟨36,.fix [.sl (.ints rows)]⟩)],[5,4,3,999]⟩)
  (Y∧Y∧Y∧Y∧Y)
  ⟨tt,tt,tt,tt,tt⟩ ?_
 refine W.subS [] (⟨[(3,.ep [.v (.string s)]),(4,.ep [.sl (.calls h)]),(5,.ep [.sl (.ints rows)])],[],[999]⟩) (@cast ((((([.v (.string s)] : List AV)=[.v (.string s)])∧(([] : List Nat)=[])∧((3:Nat) ∉ ([] : List Nat)))∧((([.sl (.calls h)] : List AV)=[.sl (.calls h)])∧(([] : List Nat)=[])∧((4:Nat) ∉ ([] : List Nat)))∧((([.sl (.ints rows)] : List AV)=[.sl (.ints rows)])∧(([] : List Nat)=[])∧((5:Nat) ∉ ([] : List Nat)))∧Y)∧Y∧(true=true)∧(true=true)) _ (by kernel_rfl) ⟨⟨⟨rfl,rfl,(by decide)⟩,⟨rfl,rfl,(by decide)⟩,⟨rfl,rfl,(by decide)⟩,tt⟩,tt,rfl,rfl⟩) ?_
 refine Kk cok tab56 hnt [11] [3,4,5,7] (⟨[(3,.ep [.v (.string s)]),(4,.ep [.sl (.calls h)]),(5,.ep [.sl (.ints rows)]),(7,.ptr 7 0)],[(7,⟨48,.fix [.own 11 (List.length ([] : List (List Int)))]⟩),(11,⟨36,.row (.intss ([] : List (List Int)))⟩)],[7,11,999]⟩)
  (Y∧Y∧(Y∧Y)∧Y)
  ⟨tt,tt,⟨tt,tt⟩,tt⟩ ?_
 refine Kk cok tab56 hnt [12] [3,4,5,7,8,9] (⟨[(3,.ep [.v (.string s)]),(4,.ep [.sl (.calls h)]),(5,.ep [.sl (.ints rows)]),(7,.ptr 7 0),(8,.ptr 8 0),(9,.ptr 9 0)],[(7,⟨48,.fix [.own 11 (List.length ([] : List (List Int)))]⟩),(8,⟨36,.fix [.own 12 (List.length ([] : List Int))]⟩),(9,⟨3,.fix [.i (0:Int)]⟩),(11,⟨36,.row (.intss ([] : List (List Int)))⟩),(12,⟨3,.row (.ints ([] : List Int))⟩)],[9,8,12,7,11,999]⟩)
  (Y∧Y∧Y∧(Y∧Y)∧(Y∧Y)∧Y)
  ⟨tt,tt,tt,⟨tt,tt⟩,⟨tt,tt⟩,tt⟩ ?_
 refine Kk cok tab56 hnt [] [3,4,5,7,8,9,10] (⟨[(3,.ep [.v (.string s)]),(4,.ep [.sl (.calls h)]),(5,.ep [.sl (.ints rows)]),(7,.ptr 7 0),(8,.ptr 8 0),(9,.ptr 9 0),(10,.ptr 10 0)],[(7,⟨48,.fix [.own 11 (List.length ([] : List (List Int)))]⟩),(8,⟨36,.fix [.own 12 (List.length ([] : List Int))]⟩),(9,⟨3,.fix [.i (0:Int)]⟩),(10,⟨1,.fix [.v (.nilFunc)]⟩),(11,⟨36,.row (.intss ([] : List (List Int)))⟩),(12,⟨3,.row (.ints ([] : List Int))⟩)],[10,9,8,12,7,11,999]⟩)
  (Y∧Y)
  ⟨tt,tt⟩ ?_
 refine Kk cok tab56 hnt [] [7,10] (⟨[(7,.ptr 7 0),(10,.ptr 10 0)],[(7,⟨48,.fix [.own 11 (List.length ([] : List (List Int)))]⟩),(8,⟨36,.fix [.own 12 (List.length ([] : List Int))]⟩),(9,⟨3,.fix [.i (0:Int)]⟩),(10,⟨1,.fix [.fn 79 [.ptr 8 0,.ep [.sl (.calls h)],.ep [.v (.string s)],.ptr 7 0,.ptr 9 0,.ep [.sl (.ints rows)],.ptr 10 0]]⟩),(11,⟨36,.row (.intss ([] : List (List Int)))⟩),(12,⟨3,.row (.ints ([] : List Int))⟩)],[10,9,8,12,7,11,999]⟩)
  (Y∧(Y∧Y)∧Y)
  ⟨tt,⟨tt,tt⟩,tt⟩ ?_
 refine W.seq (W.wi ?_)
 refine WI.runT cok tab56 hnt [] 1 1 (⟨[(7,.ptr 7 0),(10,.ptr 10 0),(14,.fn 79 [.ptr 8 0,.ep [.sl (.calls h)],.ep [.v (.string s)],.ptr 7 0,.ptr 9 0,.ep [.sl (.ints rows)],.ptr 10 0])],[(7,⟨48,.fix [.own 11 (List.length ([] : List (List Int)))]⟩),(8,⟨36,.fix [.own 12 (List.length ([] : List Int))]⟩),(9,⟨3,.fix [.i (0:Int)]⟩),(10,⟨1,.fix [.fn 79 [.ptr 8 0,.ep [.sl (.calls h)],.ep [.v (.string s)],.ptr 7 0,.ptr 9 0,.ep [.sl (.ints rows)],.ptr 10 0]]⟩),(11,⟨36,.row (.intss ([] : List (List Int)))⟩),(12,⟨3,.row (.ints ([] : List Int))⟩)],[10,9,8,12,7,11,999]⟩)
  (Y∧Y) (by kernel_rfl) rfl
  ⟨tt,tt⟩ ?_
 refine WI.callH _ [] [.ptr 8 0,.ep [.sl (.calls h)],.ep [.v (.string s)],.ptr 7 0,.ptr 9 0,.ep [.sl (.ints rows)],.ptr 10 0] (.fn 79 [.ptr 8 0,.ep [.sl (.calls h)],.ep [.v (.string s)],.ptr 7 0,.ptr 9 0,.ep [.sl (.ints rows)],.ptr 10 0]) _ _ [(901,8),(811,12),(902,7),(812,11),(903,9),(904,10)] (hok79 s h (bitF rows) rows ([] : List Int) (0:Int) ([] : List (List Int)) ⟨(by exact hs),(by exact hv),(by exact hr),(by exact headO_nil h),(by exact (used_nil _).symm),(by have := pow6_le hv6; simp; omega)⟩) ent79 hnt rfl rfl (wanted_none rfl) (by kernel_rfl) (by kernel_rfl) trivial (by kernel_rfl) (by kernel_rfl) (by kernel_rfl) (@cast (((some ⟨3,.row (.ints ([] : List Int))⟩ : Option LB)=some ⟨3,.row (.ints ([] : List Int))⟩)∧(true=true)∧((some ⟨36,.row (.intss ([] : List (List Int)))⟩ : Option LB)=some ⟨36,.row (.intss ([] : List (List Int)))⟩)∧(true=true)∧((some ⟨36,.fix [.own 12 (List.length ([] : List Int))]⟩ : Option LB)=some ⟨36,.fix [.own 12 (List.length ([] : List Int))]⟩)∧(true=true)∧((some ⟨48,.fix [.own 11 (List.length ([] : List (List Int)))]⟩ : Option LB)=some ⟨48,.fix [.own 11 (List.length ([] : List (List Int)))]⟩)∧(true=true)∧((some ⟨3,.fix [.i (0:Int)]⟩ : Option LB)=some ⟨3,.fix [.i (0:Int)]⟩)∧(true=true)∧((some ⟨1,.fix [.fn 79 [.ptr 8 0,.ep [.sl (.calls h)],.ep [.v (.string s)],.ptr 7 0,.ptr 9 0,.ep [.sl (.ints rows)],.ptr 10 0]]⟩ : Option LB)=some ⟨1,.fix [.fn 79 [.ptr 8 0,.ep [.sl (.calls h)],.ep [.v (.string s)],.ptr 7 0,.ptr 9 0,.ep [.sl (.ints rows)],.ptr 10 0]]⟩)∧(true=true)∧(Y)) _ (by kernel_rfl) ⟨rfl,rfl,rfl,rfl,rfl,rfl,rfl,rfl,rfl,rfl,rfl,rfl,tt⟩) (by kernel_rfl) rfl ?_
 rintro r s1 u1 ⟨rfl,rfl,rfl⟩
 refine ⟨[(901,8),(902,7),(903,9),(904,10),(811,15),(812,1015)],by kernel_rfl,WI.to (⟨[(7,.ptr 7 0),(10,.ptr 10 0),(14,.fn 79 [.ptr 8 0,.ep [.sl (.calls h)],.ep [.v (.string s)],.ptr 7 0,.ptr 9 0,.ep [.sl (.ints rows)],.ptr 10 0]),(15,.tup [])],[(7,⟨48,.fix [.own 1015 (List.length (([] : List (List Int))++ordersF s h (bitF rows) (h.length - ([] : List Int).length) ([] : List Int)))]⟩),(8,⟨36,.fix [.own 15 (List.length ([] : List Int))]⟩),(9,⟨3,.fix [.i (0:Int)]⟩),(10,⟨1,.fix [.fn 79 [.ptr 8 0,.ep [.sl (.calls h)],.ep [.v (.string s)],.ptr 7 0,.ptr 9 0,.ep [.sl (.ints rows)],.ptr 10 0]]⟩),(15,⟨3,.row (.ints ([] : List Int))⟩),(1015,⟨36,.row (.intss (([] : List (List Int))++ordersF s h (bitF rows) (h.length - ([] : List Int).length) ([] : List Int)))⟩)],[1015,15,10,9,8,12,7,11,999]⟩) 2 (by kernel_rfl) rfl ?_⟩
 refine WI.nil rfl (thenQ_normal ?_)
 refine W.keepE [7] [(7,.ptr 7 0)] (by kernel_rfl) ?_
 refine W.to (⟨[(7,.ptr 7 0)],[(7,⟨48,.fix [.own 1015 (List.length (([] : List (List Int))++ordersF s h (bitF rows) (h.length - ([] : List Int).length) ([] : List Int)))]⟩),(8,⟨36,.fix [.own 15 (List.length ([] : List Int))]⟩),(9,⟨3,.fix [.i (0:Int)]⟩),(10,⟨1,.fix [.fn 79 [.ptr 8 0,.ep [.sl (.calls h)],.ep [.v (.string s)],.ptr 7 0,.ptr 9 0,.ep [.sl (.ints rows)],.ptr 10 0]]⟩),(15,⟨3,.row (.ints ([] : List Int))⟩),(1015,⟨36,.row (.intss (([] : List (List Int))++ordersF s h (bitF rows) (h.length - ([] : List Int).length) ([] : List Int)))⟩)],[1015,15,10,9,8,12,7,11,999]⟩) rfl ?_
 refine Kk cok tab56 hnt [] [6] (⟨[(6,.own 1015 (List.length (([] : List (List Int))++ordersF s h (bitF rows) (h.length - ([] : List Int).length) ([] : List Int))))],[(7,⟨48,.fix [.own 1015 (List.length (([] : List (List Int))++ordersF s h (bitF rows) (h.length - ([] : List Int).length) ([] : List Int)))]⟩),(8,⟨36,.fix [.own 15 (List.length ([] : List Int))]⟩),(9,⟨3,.fix [.i (0:Int)]⟩),(10,⟨1,.fix [.fn 79 [.ptr 8 0,.ep [.sl (.calls h)],.ep [.v (.string s)],.ptr 7 0,.ptr 9 0,.ep [.sl (.ints rows)],.ptr 10 0]]⟩),(15,⟨3,.row (.ints ([] : List Int))⟩),(1015,⟨36,.row (.intss (([] : List (List Int))++ordersF s h (bitF rows) (h.length - ([] : List Int).length) ([] : List Int)))⟩)],[1015,15,10,9,8,12,7,11,999]⟩)
  (Y∧Y∧Y)
  ⟨tt,tt,tt⟩ ?_
 refine W.ret ?_
 exact endQ_ret (.own 1015 (List.length (([] : List (List Int))++ordersF s h (bitF rows) (h.length - ([] : List Int).length) ([] : List Int)))) (by kernel_rfl) (@cast (((List.length (([] : List (List Int))++ordersF s h (bitF rows) (h.length - ([] : List Int).length) ([] : List Int)))=(List.length (([] : List (List Int))++ordersF s h (bitF rows) (h.length - ([] : List Int).length) ([] : List Int))))∧((.intss (([] : List (List Int))++ordersF s h (bitF rows) (h.length - ([] : List Int).length) ([] : List Int)):Dat)=.intss (ordersF s h (bitF rows) h.length []))∧((1015:Nat) ∉ ([] : List Nat))) _ (by kernel_rfl) ⟨rfl,⟨(congrArg Dat.intss (by simp)),(by decide)⟩⟩)
theorem ent56 : Entr prog 56 := ⟨_,func56,rfl,by decide⟩
end Go.Proofs.Tryz

set_option linter.unusedSimpArgs false
set_option linter.unusedVariables false
namespace Go.Proofs.Tryz
open Go.Ab Go.RowKit
def fs55 : FnS := fnS [.o,.s .calls] [.str,.calls] (fun _ (s,h,_)=>(.sl (.intss (ordersBy s h (ownF h))),[],Y))
abbrev T55 : Tab := lk [(32,fs32),(52,fs52),(56,fs56),(78,fs78)]
theorem tab55 : TabOK prog T55 := (TabOK.cons ok32 ent32 (TabOK.cons ok52 ent52 (TabOK.cons ok56 ent56 (TabOK.cons ok78 ent78 TabOK.nil))))
theorem ok55 : FnOK prog 55 fs55 := by
 refine FnOK.mk cok func55 rfl rfl rfl ?_
 rintro fl ⟨(s:ByteArray),(h : List CallD),_⟩ hpre F hnt0 _
 have hnt : F.nt=18 := hnt0.trans ntmps55
 clear hpre
 refine W.to (⟨[(0,.v (.string s)),(1,.sl (.calls h))],[],[999]⟩) rfl ?_
 refine W.lenOf 1 (.calls h) (by kernel_rfl) ?_
 intro hl_h; replace hl_h : List.length h≤9223372036854775807 := hl_h
 refine Kk cok tab55 hnt [] [0,1] (⟨[(0,.v (.string s)),(1,.sl (.calls h))],[],[999]⟩)
  (Y∧Y)
  ⟨tt,tt⟩ ?_
 refine W.seq ?_
 refine Kk cok tab55 hnt [] [0,1,12] (⟨[(0,.v (.string s)),(1,.sl (.calls h)),(12,.b ((!(isObject s)) || (!(validHistory h))))],[],[999]⟩)
  ((fun (Z1:Bool)=>(Y∧((Y∧((Y∧Y)∧Y))∧(Y∧(Y∧(((!Z1)=true→Y)∧(((!Z1)=true→(Y∧(((((!Z1)=true)∧Y)∧Y)∧Y)))∧(((!Z1)=true→(((!Z1)=true)∧Y))∧((Y∧((Z1=true→Y)∧(Z1=false→((!Z1)=true)∧Y)))∧Y))))))))) (!(isObject s)))
  ⟨tt,⟨tt,⟨tt,tt⟩,tt⟩,tt,tt,(fun _=>trivial),(fun hG=>⟨tt,⟨⟨hG,tt⟩,tt⟩,tt⟩),(fun hG=>⟨hG,tt⟩),⟨tt,(fun _=>trivial),(fun hp=>⟨(not_t hp),tt⟩)⟩,tt⟩ ?_
 refine W.if' ((!(isObject s)) || (!(validHistory h))) (.b ((!(isObject s)) || (!(validHistory h)))) (by kernel_rfl) rfl trivial ?_ ?_
 ·intro h12
  refine Kk cok tab55 hnt [] [4] (⟨[(4,.v (.slice none 0 0))],[],[999]⟩)
   (Y∧Y)
   ⟨tt,tt⟩ ?_
  refine W.ret (thenQ_ret ?_)
  exact endQ_ret (.v (.slice none 0 0)) (by kernel_rfl) (@cast (((Value.slice none 0 0:Value)=.slice none 0 0)∧((Dat.intss (ordersBy s h (ownF h))).len=0)) _ (by kernel_rfl) ⟨rfl,(by show List.length (ordersBy s h (ownF h))=0; first | exact (by_no' h12).symm | (rw [by_no' h12]; rfl))⟩)
 ·intro n12
  refine W.skip (thenQ_normal ?_)
  refine Kk cok tab55 hnt [] [4] (⟨[(4,.sl (.intss (ordersF s h (bitF (ownAhead h)) h.length [])))],[],[999]⟩)
   (Y∧Y∧Y∧(Y∧(Y∧Y)∧Y)∧(Y∧(Y∧Y∧Y∧Y)∧(isObject s=true)∧(validHistory h=true)∧((ownAhead h)=rowsOf h.length (bitF (ownAhead h))))∧Y∧Y)
   ⟨tt,tt,tt,⟨tt,⟨tt,tt⟩,tt⟩,⟨tt,⟨tt,tt,tt,tt⟩,(by exact and_l (by_yes' n12)),(by exact and_r (by_yes' n12)),(by exact own_rows (and_r (by_yes' n12)))⟩,tt,tt⟩ ?_
  refine W.ret ?_
  exact endQ_ret (.sl (.intss (ordersF s h (bitF (ownAhead h)) h.length []))) (by kernel_rfl) (@cast ((.intss (ordersF s h (bitF (ownAhead h)) h.length []):Dat)=.intss (ordersBy s h (ownF h))) _ (by kernel_rfl) (congrArg Dat.intss (by exact by_val (by_yes' n12) (own_eq (and_r (by_yes' n12))))))
theorem ent55 : Entr prog 55 := ⟨_,func55,rfl,by decide⟩
end Go.Proofs.Tryz

set_option linter.unusedSimpArgs false
set_option linter.unusedVariables false
namespace Go.Proofs.Tryz
open Go.Ab Go.RowKit
def fs34 : FnS := fnS [.o,.s .calls] [.str,.calls] (fun _ (s,h,_)=>(.b (explains s h (ownF h)),[],Y))
abbrev T34 : Tab := lk [(55,fs55)]
theorem tab34 : TabOK prog T34 := (TabOK.cons ok55 ent55 TabOK.nil)
theorem ok34 : FnOK prog 34 fs34 := by
 refine FnOK.mk cok func34 rfl rfl rfl ?_
 rintro fl ⟨(s:ByteArray),(h : List CallD),_⟩ hpre F hnt0 _
 have hnt : F.nt=10 := hnt0.trans ntmps34
 clear hpre
 refine W.to (⟨[(0,.v (.string s)),(1,.sl (.calls h))],[],[999]⟩) rfl ?_
 refine W.lenOf 1 (.calls h) (by kernel_rfl) ?_
 intro hl_h; replace hl_h : List.length h≤9223372036854775807 := hl_h
 refine Kk cok tab34 hnt [] [0,1] (⟨[(0,.v (.string s)),(1,.sl (.calls h))],[],[999]⟩)
  (Y∧Y)
  ⟨tt,tt⟩ ?_
 refine Kk cok tab34 hnt [] [4] (⟨[(4,.b (decide ((0:Int)<(((List.length (ordersBy s h (ownF h))):Nat):Int))))],[],[999]⟩)
  (Y∧Y∧(Y∧(Y∧Y∧Y)∧Y)∧Y∧(Y∧Y∧Y)∧Y∧Y)
  ⟨tt,tt,⟨tt,⟨tt,tt,tt⟩,tt⟩,tt,⟨tt,tt,tt⟩,tt,tt⟩ ?_
 refine W.ret ?_
 exact endQ_ret (.b (decide ((0:Int)<(((List.length (ordersBy s h (ownF h))):Nat):Int)))) (by kernel_rfl) (@cast ((.bool (decide ((0:Int)<(((List.length (ordersBy s h (ownF h))):Nat):Int))):Value)=.bool (explains s h (ownF h))) _ (by kernel_rfl) (congrArg Value.bool (by rfl)))
theorem ent34 : Entr prog 34 := ⟨_,func34,rfl,by decide⟩
end Go.Proofs.Tryz

set_option linter.unusedSimpArgs false
set_option linter.unusedVariables false
namespace Go.Proofs.Tryz
open Go.Ab Go.RowKit
def fs33 : FnS := fnS [.o] [.bool] (fun _ (b,_)=>(.v (.string (yesNoV b)),[],Y))
abbrev T33 : Tab := lk []
theorem tab33 : TabOK prog T33 := TabOK.nil
theorem ok33 : FnOK prog 33 fs33 := by
 refine FnOK.mk cok func33 rfl rfl rfl ?_
 rintro fl ⟨(b:Bool),_⟩ hpre F hnt0 _
 have hnt : F.nt=4 := hnt0.trans ntmps33
 clear hpre
 refine W.to (⟨[(0,.b b)],[],[999]⟩) rfl ?_
 refine Kk cok tab33 hnt [] [0] (⟨[(0,.b b)],[],[999]⟩)
  (Y∧Y)
  ⟨tt,tt⟩ ?_
 refine W.seq ?_
 refine Kk cok tab33 hnt [] [3] (⟨[(3,.b b)],[],[999]⟩)
  (Y∧Y)
  ⟨tt,tt⟩ ?_
 refine W.if' b (.b b) (by kernel_rfl) rfl trivial ?_ ?_
 ·intro h3
  refine Kk cok tab33 hnt [] [2] (⟨[(2,.v (.string (⟨#[121,101,115]⟩:ByteArray)))],[],[999]⟩)
   (Y∧Y)
   ⟨tt,tt⟩ ?_
  refine W.ret (thenQ_ret ?_)
  exact endQ_ret (.v (.string (⟨#[121,101,115]⟩:ByteArray))) (by kernel_rfl) (@cast (((.string (⟨#[121,101,115]⟩:ByteArray)):Value)=(.string (yesNoV b))) _ (by kernel_rfl) (congrArg Value.string (by rw [h3]; rfl)))
 ·intro n3
  refine W.skip (thenQ_normal ?_)
  refine Kk cok tab33 hnt [] [2] (⟨[(2,.v (.string (⟨#[110,111]⟩:ByteArray)))],[],[999]⟩)
   (Y∧Y)
   ⟨tt,tt⟩ ?_
  refine W.ret ?_
  exact endQ_ret (.v (.string (⟨#[110,111]⟩:ByteArray))) (by kernel_rfl) (@cast (((.string (⟨#[110,111]⟩:ByteArray)):Value)=(.string (yesNoV b))) _ (by kernel_rfl) (congrArg Value.string (by rw [n3]; rfl)))
theorem ent33 : Entr prog 33 := ⟨_,func33,rfl,by decide⟩
end Go.Proofs.Tryz

set_option linter.unusedSimpArgs false
set_option linter.unusedVariables false
namespace Go.Proofs.Tryz
open Go.Ab Go.RowKit
def fs59 : FnS := fnS [.s .calls,.o] [.calls,.int] (fun _ (h,time,_)=>(.i (openAt h time),[],Y))
abbrev T59 : Tab := lk []
theorem tab59 : TabOK prog T59 := TabOK.nil
theorem ok59 : FnOK prog 59 fs59 := by
 refine FnOK.mk cok func59 rfl rfl rfl ?_
 rintro fl ⟨(h : List CallD),(time:Int),_⟩ hpre F hnt0 _
 have hnt : F.nt=28 := hnt0.trans ntmps59
 clear hpre
 refine W.to (⟨[(0,.sl (.calls h)),(1,.i time)],[],[999]⟩) rfl ?_
 refine W.lenOf 0 (.calls h) (by kernel_rfl) ?_
 intro hl_h; replace hl_h : List.length h≤9223372036854775807 := hl_h
 refine Kk cok tab59 hnt [] [0,1] (⟨[(0,.sl (.calls h)),(1,.i time)],[],[999]⟩)
  (Y∧Y)
  ⟨tt,tt⟩ ?_
 refine Kk cok tab59 hnt [] [0,1,5] (⟨[(0,.sl (.calls h)),(1,.i time),(5,.i (0:Int))],[],[999]⟩)
  (Y∧Y)
  ⟨tt,tt⟩ ?_
 refine W.seq ?_
 refine Kk cok tab59 hnt [] [1,5,8,9,10] (⟨[(1,.i time),(5,.i (0:Int)),(8,.sl (.calls h)),(9,.i (h.length:Int)),(10,.i (0:Int))],[],[999]⟩)
  (Y∧Y∧Y∧Y)
  ⟨tt,tt,tt,tt⟩ ?_
 refine W.block ?_
 refine W.loop (ι := Int × Nat) (fun (x : Int × Nat)=>match x with | (cnt,k)=>(⟨[(1,.i time),(5,.i cnt),(8,.sl (.calls h)),(9,.i (h.length:Int)),(10,.i ((k:Nat):Int))],[],[999]⟩:St))
  (fun (x : Int × Nat)=>match x with | (cnt,k)=>(k≤h.length)∧(cnt=(((h.take k).countP (openP time):Nat):Int)))
  (fun (x : Int × Nat)=>match x with | (cnt,k)=>(h.length - k:Nat)) ((0:Int),0) ?_ ?_ ?_
 ·exact (show (0≤h.length)∧((0:Int)=(((h.take 0).countP (openP time):Nat):Int)) from ⟨(by first | assumption | omega | rfl | (intro _ hjj; omega) | (simp; done) | (simp; omega)),(by rfl)⟩)
 ·exact Sub.of [] (@cast (((Si time)∧(Si (0:Int))∧(Sd (.calls h))∧(Si (h.length:Int))∧((.int .i64 (0:Int):Value)=.int .i64 ((0:Nat):Int))∧Y)∧Y∧(true=true)∧(true=true)) _ (by kernel_rfl) ⟨⟨rfl,rfl,rfl,rfl,(congrArg (Value.int .i64) (by first | rfl | omega | assumption | simp | simp_all)),tt⟩,tt,rfl,rfl⟩)
 ·rintro ⟨cnt,k⟩ hC0
  have hC : (k≤h.length)∧(cnt=(((h.take k).countP (openP time):Nat):Int)) := hC0
  clear hC0
  obtain ⟨hk,hc⟩ := hC
  refine W.to (⟨[(1,.i time),(5,.i cnt),(8,.sl (.calls h)),(9,.i (h.length:Int)),(10,.i ((k:Nat):Int))],[],[999]⟩) rfl ?_
  have hcb := take_count_le h k (openP time)
  refine Kk cok tab59 hnt [] [1,5,8,9,10,11] (⟨[(1,.i time),(5,.i cnt),(8,.sl (.calls h)),(9,.i (h.length:Int)),(10,.i ((k:Nat):Int)),(11,.b (decide (((k:Nat):Int)<(h.length:Int))))],[],[999]⟩)
   ((Y∧Y∧Y)∧Y)
   ⟨⟨tt,tt,tt⟩,tt⟩ ?_
  refine W.seq ?_
  refine W.ifP (((k:Nat):Int)<(h.length:Int)) (.b (decide (((k:Nat):Int)<(h.length:Int)))) (by kernel_rfl) rfl trivial ?_ ?_
  ·intro h11
   refine W.skip (thenQ_normal ?_)
   refine W.seq ?_
   refine W.block ?_
   refine Kk cok tab59 hnt [] [1,5,7,8,9,10] (⟨[(1,.i time),(5,.i cnt),(7,.ptr 7 0),(8,.sl (.calls h)),(9,.i (h.length:Int)),(10,.i ((k:Nat):Int))],[(7,⟨59,.fix [.i ((h.getD k default).proc),.i ((h.getD k default).obj),.i ((h.getD k default).kind),.i ((h.getD k default).arg),.i ((h.getD k default).ret),.i ((h.getD k default).frm),.i ((h.getD k default).to)]⟩)],[7,999]⟩)
    ((Y∧Y∧(0≤((k:Nat):Int))∧(((k:Nat):Int)<(h.length:Int)))∧Y∧Y∧(Y∧Y)∧Y)
    ⟨⟨tt,tt,(by omega),(by omega)⟩,tt,tt,⟨tt,tt⟩,tt⟩ ?_
   refine Kk cok tab59 hnt [] [1,5,8,9,10,23] (⟨[(1,.i time),(5,.i cnt),(8,.sl (.calls h)),(9,.i (h.length:Int)),(10,.i ((k:Nat):Int)),(23,.b ((decide (((h.getD k default).frm)≤time)) && (decide (time<((h.getD k default).to)))))],[(7,⟨59,.fix [.i ((h.getD k default).proc),.i ((h.getD k default).obj),.i ((h.getD k default).kind),.i ((h.getD k default).arg),.i ((h.getD k default).ret),.i ((h.getD k default).frm),.i ((h.getD k default).to)]⟩)],[7,999]⟩)
    ((fun (Z1:Bool)=>(Y∧(Y∧(Y∧((Y∧(Y∧Y))∧(Y∧((Z1=true→Y)∧((Z1=true→Y)∧((Z1=true→((Z1=true)∧Y))∧((Z1=true→(((Z1=true)∧Y)∧(((Z1=true)∧Y)∧Y)))∧((Y∧((Z1=true→(Z1=true)∧Y)∧(Z1=false→Y)))∧Y))))))))))) (decide (((h.getD k default).frm)≤time)))
    ⟨tt,tt,tt,⟨tt,tt,tt⟩,tt,(fun _=>trivial),(fun _=>trivial),(fun hG=>⟨hG,tt⟩),(fun hG=>⟨⟨hG,tt⟩,⟨hG,tt⟩,tt⟩),⟨tt,(fun hp=>⟨hp,tt⟩),(fun _=>trivial)⟩,tt⟩ ?_
   refine W.if' ((decide (((h.getD k default).frm)≤time)) && (decide (time<((h.getD k default).to)))) (.b ((decide (((h.getD k default).frm)≤time)) && (decide (time<((h.getD k default).to))))) (by kernel_rfl) rfl trivial ?_ ?_
   ·intro h23
    have h23_0 : ((h.getD k default).frm)≤time := of_decide_eq_true (and_l h23)
    have h23_1 : time<((h.getD k default).to) := of_decide_eq_true (and_r h23)
    refine Lk cok tab59 hnt [] (⟨[(1,.i time),(5,.i (cnt+(1:Int))),(8,.sl (.calls h)),(9,.i (h.length:Int)),(10,.i ((k:Nat):Int)),(23,.b ((decide (((h.getD k default).frm)≤time)) && (decide (time<((h.getD k default).to))))),(24,.i cnt),(25,.i (cnt+(1:Int)))],[(7,⟨59,.fix [.i ((h.getD k default).proc),.i ((h.getD k default).obj),.i ((h.getD k default).kind),.i ((h.getD k default).arg),.i ((h.getD k default).ret),.i ((h.getD k default).frm),.i ((h.getD k default).to)]⟩)],[7,999]⟩)
     (Y∧(Y∧Y∧(Fits .i64 (cnt+(1:Int))))∧Y∧Y)
     ⟨tt,⟨tt,tt,(by exact fits_i64 (by omega) (by omega))⟩,tt,tt⟩ ?_
    refine blockQ_normal (thenQ_normal ?_)
    refine Lk cok tab59 hnt [] (⟨[(1,.i time),(5,.i (cnt+(1:Int))),(8,.sl (.calls h)),(9,.i (h.length:Int)),(10,.i (((k+1):Nat):Int)),(23,.b ((decide (((h.getD k default).frm)≤time)) && (decide (time<((h.getD k default).to))))),(24,.i cnt),(25,.i (cnt+(1:Int))),(26,.i (((k+1):Nat):Int))],[(7,⟨59,.fix [.i ((h.getD k default).proc),.i ((h.getD k default).obj),.i ((h.getD k default).kind),.i ((h.getD k default).arg),.i ((h.getD k default).ret),.i ((h.getD k default).frm),.i ((h.getD k default).to)]⟩)],[7,999]⟩)
     ((Y∧Y∧(Fits .i64 (((k+1):Nat):Int)))∧Y∧Y)
     ⟨⟨tt,tt,(by exact fits_i64 (by omega) (by omega))⟩,tt,tt⟩ ?_
    refine thenQ_normal ?_
    refine ⟨((cnt+(1:Int)),(k+1)),(show ((k+1)≤h.length)∧((cnt+(1:Int))=(((h.take (k+1)).countP (openP time):Nat):Int)) from ⟨(by first | assumption | omega | rfl | (intro _ hjj; omega) | (simp; done) | (simp; omega)),(by rw [take_count (openP time) (by omega),hc]; first | (rw [if_pos (show openP time (h.getD k default)=true from h23)]) | (rw [if_neg (by rw [show openP time (h.getD k default)=false from n23]; simp)]; omega))⟩),(show h.length - (k+1)<h.length - k from (by first | omega | (simp_all; omega))),?_⟩
    exact Sub.of [] (@cast (((Si time)∧(Si (cnt+(1:Int)))∧(Sd (.calls h))∧(Si (h.length:Int))∧(Si (((k+1):Nat):Int))∧Y)∧Y∧(true=true)∧(true=true)) _ (by kernel_rfl) ⟨⟨rfl,rfl,rfl,rfl,rfl,tt⟩,tt,rfl,rfl⟩)
   ·intro n23
    refine W.skip (blockQ_normal (thenQ_normal ?_))
    refine Lk cok tab59 hnt [] (⟨[(1,.i time),(5,.i cnt),(8,.sl (.calls h)),(9,.i (h.length:Int)),(10,.i (((k+1):Nat):Int)),(23,.b ((decide (((h.getD k default).frm)≤time)) && (decide (time<((h.getD k default).to))))),(26,.i (((k+1):Nat):Int))],[(7,⟨59,.fix [.i ((h.getD k default).proc),.i ((h.getD k default).obj),.i ((h.getD k default).kind),.i ((h.getD k default).arg),.i ((h.getD k default).ret),.i ((h.getD k default).frm),.i ((h.getD k default).to)]⟩)],[7,999]⟩)
     ((Y∧Y∧(Fits .i64 (((k+1):Nat):Int)))∧Y∧Y)
     ⟨⟨tt,tt,(by exact fits_i64 (by omega) (by omega))⟩,tt,tt⟩ ?_
    refine thenQ_normal ?_
    refine ⟨(cnt,(k+1)),(show ((k+1)≤h.length)∧(cnt=(((h.take (k+1)).countP (openP time):Nat):Int)) from ⟨(by first | assumption | omega | rfl | (intro _ hjj; omega) | (simp; done) | (simp; omega)),(by rw [take_count (openP time) (by omega),hc]; first | (rw [if_pos (show openP time (h.getD k default)=true from h23)]) | (rw [if_neg (by rw [show openP time (h.getD k default)=false from n23]; simp)]; omega))⟩),(show h.length - (k+1)<h.length - k from (by first | omega | (simp_all; omega))),?_⟩
    exact Sub.of [] (@cast (((Si time)∧(Si cnt)∧(Sd (.calls h))∧(Si (h.length:Int))∧(Si (((k+1):Nat):Int))∧Y)∧Y∧(true=true)∧(true=true)) _ (by kernel_rfl) ⟨⟨rfl,rfl,rfl,rfl,rfl,tt⟩,tt,rfl,rfl⟩)
  ·intro n11
   refine W.exit (thenQ_exit (thenQ_exit (blockQ_hit ?_)))
   refine thenQ_normal ?_
   refine Kk cok tab59 hnt [] [4] (⟨[(4,.i cnt)],[],[999]⟩)
    (Y∧Y∧Y)
    ⟨tt,tt,tt⟩ ?_
   refine W.ret ?_
   exact endQ_ret (.i cnt) (by kernel_rfl) (@cast ((.int .i64 cnt:Value)=.int .i64 (openAt h time)) _ (by kernel_rfl) (congrArg (Value.int .i64) (by rw [hc,show k=h.length by omega,List.take_length]; rfl)))
theorem ent59 : Entr prog 59 := ⟨_,func59,rfl,by decide⟩
end Go.Proofs.Tryz

set_option linter.unusedSimpArgs false
set_option linter.unusedVariables false
namespace Go.Proofs.Tryz
open Go.Ab Go.RowKit
def fs83 : FnS := fnS [.o,.o,.o] [.int,.int,(.ep .calls)] (fun _ (i,k,h,_)=>(.b (quietF h i.toNat k.toNat),[],(0≤i∧i<h.length)∧(0≤k∧k<h.length)∧(validHistory h=true)))
abbrev T83 : Tab := lk [(59,fs59)]
theorem tab83 : TabOK prog T83 := (TabOK.cons ok59 ent59 TabOK.nil)
theorem ok83 : FnOK prog 83 fs83 := by
 refine FnOK.mk cok func83 rfl rfl rfl ?_
 rintro fl ⟨(i:Int),(k:Int),(h : List CallD),_⟩ hpre F hnt0 _
 have hnt : F.nt=25 := hnt0.trans ntmps83
 replace hpre : (0≤i∧i<h.length)∧(0≤k∧k<h.length)∧(validHistory h=true) := hpre
 obtain ⟨hi,hk,hv⟩ := hpre
 refine W.to (⟨[(0,.i i),(1,.i k),(2,.ep [.sl (.calls h)])],[],[999]⟩) rfl ?_
 have hci := call_ok hv (i := i.toNat) (by omega)
 have hck := call_ok hv (i := k.toNat) (by omega)
 unfold callAt at hci hck
 refine Kk cok tab83 hnt [] [0,1,2] (⟨[(0,.i i),(1,.i k),(2,.ep [.sl (.calls h)])],[],[999]⟩)
  (Y∧Y)
  ⟨tt,tt⟩ ?_
 refine W.seq ?_
 refine Kk cok tab83 hnt [] [0,2,6] (⟨[(0,.i i),(2,.ep [.sl (.calls h)]),(6,.i ((h.getD (Int.toNat k) default).to))],[],[999]⟩)
  (Y∧Y∧(Y∧Y∧(0≤k)∧(k<(h.length:Int)))∧Y∧Y∧Y∧Y)
  ⟨tt,tt,⟨tt,tt,(by omega),(by omega)⟩,tt,tt,tt,tt⟩ ?_
 refine W.block ?_
 refine W.loop (ι := Int) (fun (t:Int)=>(⟨[(0,.i i),(2,.ep [.sl (.calls h)]),(6,.i t)],[],[999]⟩:St))
  (fun (t:Int)=>((h.getD k.toNat default).to≤t)∧(0≤t)∧(∀ j : Int,(h.getD k.toNat default).to≤j→j<t→¬ openAt h j=0))
  (fun (t:Int)=>((31 - t).toNat:Nat)) (((h.getD (Int.toNat k) default).to)) ?_ ?_ ?_
 ·exact (show ((h.getD k.toNat default).to≤((h.getD (Int.toNat k) default).to))∧(0≤((h.getD (Int.toNat k) default).to))∧(∀ j : Int,(h.getD k.toNat default).to≤j→j<((h.getD (Int.toNat k) default).to)→¬ openAt h j=0) from ⟨(by first | assumption | omega | rfl | (intro _ hjj; omega) | (simp; done) | (simp; omega)),(by first | assumption | omega | rfl | (intro _ hjj; omega) | (simp; done) | (simp; omega)),(by intro j h1 h2; omega)⟩)
 ·exact Sub.of [] (@cast (((Si i)∧(((.ep [.sl (.calls h)] : AV)=.ep [.sl (.calls h)])∧(([] : List Nat)=[]))∧(Si ((h.getD (Int.toNat k) default).to))∧Y)∧Y∧(true=true)∧(true=true)) _ (by kernel_rfl) ⟨⟨rfl,⟨rfl,rfl⟩,rfl,tt⟩,tt,rfl,rfl⟩)
 ·rintro t hC0
  have hC : ((h.getD k.toNat default).to≤t)∧(0≤t)∧(∀ j : Int,(h.getD k.toNat default).to≤j→j<t→¬ openAt h j=0) := hC0
  clear hC0
  obtain ⟨ht,ht0,hA⟩ := hC
  refine W.to (⟨[(0,.i i),(2,.ep [.sl (.calls h)]),(6,.i t)],[],[999]⟩) rfl ?_
  refine W.seq ?_
  refine Kk cok tab83 hnt [] [0,2,6,18] (⟨[(0,.i i),(2,.ep [.sl (.calls h)]),(6,.i t),(18,.b (decide (t<((h.getD (Int.toNat i) default).frm))))],[],[999]⟩)
   (Y∧Y∧Y∧(Y∧Y∧(0≤i)∧(i<(h.length:Int)))∧Y∧Y∧(Y∧Y∧Y)∧Y)
   ⟨tt,tt,tt,⟨tt,tt,(by omega),(by omega)⟩,tt,tt,⟨tt,tt,tt⟩,tt⟩ ?_
  refine W.ifP (t<((h.getD (Int.toNat i) default).frm)) (.b (decide (t<((h.getD (Int.toNat i) default).frm)))) (by kernel_rfl) rfl trivial ?_ ?_
  ·intro h18
   refine W.skip (thenQ_normal ?_)
   refine W.seq ?_
   refine W.block ?_
   refine Kk cok tab83 hnt [] [0,2,6,24] (⟨[(0,.i i),(2,.ep [.sl (.calls h)]),(6,.i t),(24,.b (decide ((openAt h t)=(0:Int))))],[],[999]⟩)
    (Y∧Y∧(Y∧(Y∧Y∧Y)∧Y)∧(Y∧Y∧Y)∧Y)
    ⟨tt,tt,⟨tt,⟨tt,tt,tt⟩,tt⟩,⟨tt,tt,tt⟩,tt⟩ ?_
   refine W.ifP ((openAt h t)=(0:Int)) (.b (decide ((openAt h t)=(0:Int)))) (by kernel_rfl) rfl trivial ?_ ?_
   ·intro h24
    refine Kk cok tab83 hnt [] [5] (⟨[(5,.b true)],[],[999]⟩)
     (Y∧Y)
     ⟨tt,tt⟩ ?_
    refine W.ret (blockQ_ret (thenQ_ret (thenQ_ret (blockQ_ret (thenQ_ret ?_)))))
    exact endQ_ret (.b true) (by kernel_rfl) (@cast ((.bool true:Value)=.bool (quietF h i.toNat k.toNat)) _ (by kernel_rfl) (congrArg Value.bool (by exact (quiet_yes ht0 (by omega) ht (by assumption) h24).symm)))
   ·intro n24
    refine W.skip (blockQ_normal (thenQ_normal ?_))
    refine Lk cok tab83 hnt [] (⟨[(0,.i i),(2,.ep [.sl (.calls h)]),(6,.i (t+(1:Int))),(19,.i t),(20,.i (t+(1:Int))),(24,.b (decide ((openAt h t)=(0:Int))))],[],[999]⟩)
     (Y∧(Y∧Y∧(Fits .i64 (t+(1:Int))))∧Y∧Y)
     ⟨tt,⟨tt,tt,(by exact fits_i64 (by omega) (by omega))⟩,tt,tt⟩ ?_
    refine thenQ_normal ?_
    refine ⟨((t+(1:Int))),(show ((h.getD k.toNat default).to≤(t+(1:Int)))∧(0≤(t+(1:Int)))∧(∀ j : Int,(h.getD k.toNat default).to≤j→j<(t+(1:Int))→¬ openAt h j=0) from ⟨(by first | assumption | omega | rfl | (intro _ hjj; omega) | (simp; done) | (simp; omega)),(by first | assumption | omega | rfl | (intro _ hjj; omega) | (simp; done) | (simp; omega)),(by intro j h1 h2; by_cases hj : j=t; (subst hj; exact n24); exact hA j h1 (by omega))⟩),(show (31 - (t+(1:Int))).toNat<(31 - t).toNat from (by first | omega | (simp_all; omega))),?_⟩
    exact Sub.of [] (@cast (((Si i)∧(((.ep [.sl (.calls h)] : AV)=.ep [.sl (.calls h)])∧(([] : List Nat)=[]))∧(Si (t+(1:Int)))∧Y)∧Y∧(true=true)∧(true=true)) _ (by kernel_rfl) ⟨⟨rfl,⟨rfl,rfl⟩,rfl,tt⟩,tt,rfl,rfl⟩)
  ·intro n18
   refine W.exit (thenQ_exit (thenQ_exit (blockQ_hit ?_)))
   refine thenQ_normal ?_
   refine Kk cok tab83 hnt [] [5] (⟨[(5,.b false)],[],[999]⟩)
    (Y∧Y)
    ⟨tt,tt⟩ ?_
   refine W.ret ?_
   exact endQ_ret (.b false) (by kernel_rfl) (@cast ((.bool false:Value)=.bool (quietF h i.toNat k.toNat)) _ (by kernel_rfl) (congrArg Value.bool (by exact (quiet_no n18 hA).symm)))
theorem ent83 : Entr prog 83 := ⟨_,func83,rfl,by decide⟩
end Go.Proofs.Tryz
