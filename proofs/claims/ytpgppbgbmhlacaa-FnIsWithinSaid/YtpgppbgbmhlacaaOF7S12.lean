import Derived.Test.YtpgppbgbmhlacaaOF7S0
import Derived.Test.YtpgppbgbmhlacaaOF7S5
import Derived.Test.YtpgppbgbmhlacaaOF7S7
import Derived.Test.YtpgppbgbmhlacaaOF7S9
import Derived.Test.YtpgppbgbmhlacaaOF7S11
import Derived.Test.YtpgppbgbmhlacaaOF7S1
import Derived.Test.YtpgppbgbmhlacaaOF7S4
import Derived.Test.YtpgppbgbmhlacaaOF7S6
import Derived.Test.YtpgppbgbmhlacaaOF7S3
set_option linter.unusedSimpArgs false
set_option linter.unusedVariables false
namespace Go.Proofs.Try
open Go.Ab Go.RowKit
def pre25 : List AV → List AV → Prop := preP [.bytes] [] (fun (code,_) _ => True)
def rel25 : RelS := relP [.bytes] [] (ι := CopyD × CopyD) (fun (code,_) _ (g,g2) => True) (fun (code,_) _ (g,g2) => (.tup [.agg (cC g),.agg (cC g2)],[],[]))
abbrev T25 : Tab := lk [(52,fs52),(53,fs53x),(54,fs54x)]
theorem tab25 : TabOK prog T25 := (TabOK.cons ok52 ent52 (TabOK.cons ok53x ent53x (TabOK.cons ok54x ent54x TabOK.nil)))
set_option maxRecDepth 100000 in
set_option maxHeartbeats 1000000 in
theorem rok25 : RelOK prog 25 none [.s .bytes] pre25 rel25 := by
 refine RelOK.mk cok func25 rfl rfl rfl ?_
 rintro ⟨(code : List UInt8),_⟩ _ hpre F hnt0
 have hnt : F.nt = 39 := hnt0.trans ntmps25
 clear hpre
 refine W.to (⟨[(0,.sl (.bytes code))],[],[998,999]⟩) rfl ?_
 refine Kk cok tab25 hnt [] [0,2,3] (⟨[(0,.sl (.bytes code)),(2,.ptr 2 0),(3,.ptr 3 0)],[(2,⟨26,.fix [.v (.slice none 0 0),.v (.slice none 0 0),.i (0 : Int),.i (0 : Int),.i (0 : Int),.v (.slice none 0 0)]⟩),(3,⟨26,.fix [.v (.slice none 0 0),.v (.slice none 0 0),.i (0 : Int),.i (0 : Int),.i (0 : Int),.v (.slice none 0 0)]⟩)],[3,2,998,999]⟩)
  (True ∧ True ∧ True)
  ⟨tt,tt,tt⟩ ?_
 refine W.seq (W.wi ?_)
 refine WI.runT cok tab25 hnt [] 1 1 (⟨[(0,.sl (.bytes code)),(2,.ptr 2 0),(3,.ptr 3 0),(9,.sl (.bytes code))],[(2,⟨26,.fix [.v (.slice none 0 0),.v (.slice none 0 0),.i (0 : Int),.i (0 : Int),.i (0 : Int),.v (.slice none 0 0)]⟩),(3,⟨26,.fix [.v (.slice none 0 0),.v (.slice none 0 0),.i (0 : Int),.i (0 : Int),.i (0 : Int),.v (.slice none 0 0)]⟩)],[3,2,998,999]⟩)
  (True ∧ True) (by kernel_rfl) rfl
  ⟨tt,tt⟩ ?_
 refine WI.call [.sl (.bytes code)] [] [.sl (.bytes code)] [.sl (.bytes code)] none (True) (True ∧ True) none rok35 ent35 hnt rfl rfl (wanted_none rfl) (by kernel_rfl) (by kernel_rfl) (by kernel_rfl) ⟨tt,tt,tt⟩
  (@cast (True) _ (by kernel_rfl) trivial) (Or.inl rfl) rfl ?_
 rintro r bl fx2 hR
 obtain ⟨l10,hq10,rfl,rfl,rfl⟩ := (@cast _ (∃ x : (List UInt8),(True) ∧ r = (.ptr 0 0) ∧ bl = ([⟨69,.fix [.sl (.bytes x),.i (0 : Int)]⟩]) ∧ fx2 = ([])) (by kernel_rfl) hR)
 clear hR
 replace hq10 : True := hq10
 refine ⟨by kernel_rfl,WI.to (⟨[(0,.sl (.bytes code)),(2,.ptr 2 0),(3,.ptr 3 0),(9,.sl (.bytes code)),(10,.ptr 10 0)],[(2,⟨26,.fix [.v (.slice none 0 0),.v (.slice none 0 0),.i (0 : Int),.i (0 : Int),.i (0 : Int),.v (.slice none 0 0)]⟩),(3,⟨26,.fix [.v (.slice none 0 0),.v (.slice none 0 0),.i (0 : Int),.i (0 : Int),.i (0 : Int),.v (.slice none 0 0)]⟩),(10,⟨69,.fix [.sl (.bytes l10),.i (0 : Int)]⟩)],[10,3,2,998,999]⟩) 2 (by kernel_rfl) rfl ?_⟩
 refine WI.runT cok tab25 hnt [] 1 3 (⟨[(0,.sl (.bytes code)),(2,.ptr 2 0),(3,.ptr 3 0),(4,.ptr 10 0),(9,.sl (.bytes code)),(10,.ptr 10 0)],[(2,⟨26,.fix [.v (.slice none 0 0),.v (.slice none 0 0),.i (0 : Int),.i (0 : Int),.i (0 : Int),.v (.slice none 0 0)]⟩),(3,⟨26,.fix [.v (.slice none 0 0),.v (.slice none 0 0),.i (0 : Int),.i (0 : Int),.i (0 : Int),.v (.slice none 0 0)]⟩),(10,⟨69,.fix [.sl (.bytes l10),.i (0 : Int)]⟩)],[10,3,2,998,999]⟩)
  (True ∧ True) (by kernel_rfl) rfl
  ⟨tt,tt⟩ ?_
 refine WI.nil rfl (thenQ_normal ?_)
 refine W.keepE [2,3,4] [(2,.ptr 2 0),(3,.ptr 3 0),(4,.ptr 10 0)] (by kernel_rfl) ?_
 refine W.to (⟨[(2,.ptr 2 0),(3,.ptr 3 0),(4,.ptr 10 0)],[(2,⟨26,.fix [.v (.slice none 0 0),.v (.slice none 0 0),.i (0 : Int),.i (0 : Int),.i (0 : Int),.v (.slice none 0 0)]⟩),(3,⟨26,.fix [.v (.slice none 0 0),.v (.slice none 0 0),.i (0 : Int),.i (0 : Int),.i (0 : Int),.v (.slice none 0 0)]⟩),(10,⟨69,.fix [.sl (.bytes l10),.i (0 : Int)]⟩)],[10,3,2,998,999]⟩) rfl ?_
 refine W.seq (W.wi ?_)
 refine WI.runT cok tab25 hnt [] 1 1 (⟨[(2,.ptr 2 0),(3,.ptr 3 0),(4,.ptr 10 0),(12,.ptr 10 0)],[(2,⟨26,.fix [.v (.slice none 0 0),.v (.slice none 0 0),.i (0 : Int),.i (0 : Int),.i (0 : Int),.v (.slice none 0 0)]⟩),(3,⟨26,.fix [.v (.slice none 0 0),.v (.slice none 0 0),.i (0 : Int),.i (0 : Int),.i (0 : Int),.v (.slice none 0 0)]⟩),(10,⟨69,.fix [.sl (.bytes l10),.i (0 : Int)]⟩)],[10,3,2,998,999]⟩)
  (True ∧ True) (by kernel_rfl) rfl
  ⟨tt,tt⟩ ?_
 refine WI.call [.ptr 10 0] [.sl (.bytes l10),.i (0 : Int)] [] [] (some (69,10)) (True) (True) none rok50 ent50 hnt rfl rfl (wanted_none rfl) (by kernel_rfl) (by kernel_rfl) (by kernel_rfl) ⟨tt,tt⟩
  (@cast (0 ≤ (0 : Int) ∧ (0 : Int) ≤ 800000) _ (by kernel_rfl) (by omega)) (Or.inl rfl) rfl ?_
 rintro r bl fx2 hR
 obtain ⟨⟨a13,b13,q13⟩,hq13,rfl,rfl,rfl⟩ := (@cast _ (∃ x : CopyD × CopyD × Int,((validCopy x.1 = true) ∧ (validCopy x.2.1 = true) ∧ ((0 : Int) ≤ x.2.2 ∧ x.2.2 ≤ (0 : Int) + 500)) ∧ r = (.tup [.agg (cC (x.1)),.agg (cC (x.2.1))]) ∧ bl = ([]) ∧ fx2 = ([.sl (.bytes l10),.i x.2.2])) (by kernel_rfl) hR)
 clear hR
 replace hq13 : (validCopy a13 = true) ∧ (validCopy b13 = true) ∧ ((0 : Int) ≤ q13 ∧ q13 ≤ (0 : Int) + 500) := hq13
 obtain ⟨hga13,hgb13,hq113⟩ := hq13
 refine ⟨by kernel_rfl,WI.to (⟨[(2,.ptr 2 0),(3,.ptr 3 0),(4,.ptr 10 0),(12,.ptr 10 0),(13,.tup [.agg (cC a13),.agg (cC b13)])],[(2,⟨26,.fix [.v (.slice none 0 0),.v (.slice none 0 0),.i (0 : Int),.i (0 : Int),.i (0 : Int),.v (.slice none 0 0)]⟩),(3,⟨26,.fix [.v (.slice none 0 0),.v (.slice none 0 0),.i (0 : Int),.i (0 : Int),.i (0 : Int),.v (.slice none 0 0)]⟩),(10,⟨69,.fix [.sl (.bytes l10),.i q13]⟩)],[13,10,3,2,998,999]⟩) 2 (by kernel_rfl) rfl ?_⟩
 refine WI.runT cok tab25 hnt [] 7 9 (⟨[(2,.ptr 2 0),(3,.ptr 3 0),(4,.ptr 10 0),(5,.ptr 5 0),(6,.ptr 6 0),(11,.tup [.agg (cC a13),.agg (cC b13)]),(12,.ptr 10 0),(13,.tup [.agg (cC a13),.agg (cC b13)]),(14,.agg (cC a13)),(15,.agg (cC b13))],[(2,⟨26,.fix [.v (.slice none 0 0),.v (.slice none 0 0),.i (0 : Int),.i (0 : Int),.i (0 : Int),.v (.slice none 0 0)]⟩),(3,⟨26,.fix [.v (.slice none 0 0),.v (.slice none 0 0),.i (0 : Int),.i (0 : Int),.i (0 : Int),.v (.slice none 0 0)]⟩),(5,⟨26,.fix (cC a13)⟩),(6,⟨26,.fix (cC b13)⟩),(10,⟨69,.fix [.sl (.bytes l10),.i q13]⟩)],[6,5,13,10,3,2,998,999]⟩)
  (True ∧ True ∧ True ∧ True ∧ True ∧ (True ∧ True) ∧ (True ∧ True) ∧ True) (by kernel_rfl) rfl
  ⟨tt,tt,tt,tt,tt,⟨tt,tt⟩,⟨tt,tt⟩,tt⟩ ?_
 refine WI.nil rfl (thenQ_normal ?_)
 refine W.keepE [2,3,4,5,6] [(2,.ptr 2 0),(3,.ptr 3 0),(4,.ptr 10 0),(5,.ptr 5 0),(6,.ptr 6 0)] (by kernel_rfl) ?_
 refine W.to (⟨[(2,.ptr 2 0),(3,.ptr 3 0),(4,.ptr 10 0),(5,.ptr 5 0),(6,.ptr 6 0)],[(2,⟨26,.fix [.v (.slice none 0 0),.v (.slice none 0 0),.i (0 : Int),.i (0 : Int),.i (0 : Int),.v (.slice none 0 0)]⟩),(3,⟨26,.fix [.v (.slice none 0 0),.v (.slice none 0 0),.i (0 : Int),.i (0 : Int),.i (0 : Int),.v (.slice none 0 0)]⟩),(5,⟨26,.fix (cC a13)⟩),(6,⟨26,.fix (cC b13)⟩),(10,⟨69,.fix [.sl (.bytes l10),.i q13]⟩)],[6,5,13,10,3,2,998,999]⟩) rfl ?_
 refine W.seq ?_
 refine W.seq (W.wi ?_)
 refine WI.runT cok tab25 hnt [] 1 1 (⟨[(2,.ptr 2 0),(3,.ptr 3 0),(4,.ptr 10 0),(5,.ptr 5 0),(6,.ptr 6 0),(16,.ptr 10 0)],[(2,⟨26,.fix [.v (.slice none 0 0),.v (.slice none 0 0),.i (0 : Int),.i (0 : Int),.i (0 : Int),.v (.slice none 0 0)]⟩),(3,⟨26,.fix [.v (.slice none 0 0),.v (.slice none 0 0),.i (0 : Int),.i (0 : Int),.i (0 : Int),.v (.slice none 0 0)]⟩),(5,⟨26,.fix (cC a13)⟩),(6,⟨26,.fix (cC b13)⟩),(10,⟨69,.fix [.sl (.bytes l10),.i q13]⟩)],[6,5,13,10,3,2,998,999]⟩)
  (True ∧ True) (by kernel_rfl) rfl
  ⟨tt,tt⟩ ?_
 refine WI.call [.ptr 10 0,.i (3 : Int)] [.sl (.bytes l10),.i q13] [.i (3 : Int)] [.i (3 : Int)] (some (69,10)) (True) (True ∧ True) none rok51 ent51 hnt rfl rfl (wanted_none rfl) (by kernel_rfl) (by kernel_rfl) (by kernel_rfl) ⟨tt,tt,tt⟩
  (@cast (0 ≤ q13 ∧ q13 ≤ 1000000) _ (by kernel_rfl) (by omega)) (Or.inl rfl) rfl ?_
 rintro r bl fx2 hR
 obtain ⟨⟨v17,q17⟩,hq17,rfl,rfl,rfl⟩ := (@cast _ (∃ x : Int × Int,((0 ≤ x.1 ∧ x.1 < max (3 : Int) 1) ∧ (x.2 = q13 + 1)) ∧ r = (.i x.1) ∧ bl = ([]) ∧ fx2 = ([.sl (.bytes l10),.i x.2])) (by kernel_rfl) hR)
 clear hR
 replace hq17 : (0 ≤ v17 ∧ v17 < max (3 : Int) 1) ∧ (q17 = q13 + 1) := hq17
 obtain ⟨hv17,hq117⟩ := hq17
 refine ⟨by kernel_rfl,WI.to (⟨[(2,.ptr 2 0),(3,.ptr 3 0),(4,.ptr 10 0),(5,.ptr 5 0),(6,.ptr 6 0),(16,.ptr 10 0),(17,.i v17)],[(2,⟨26,.fix [.v (.slice none 0 0),.v (.slice none 0 0),.i (0 : Int),.i (0 : Int),.i (0 : Int),.v (.slice none 0 0)]⟩),(3,⟨26,.fix [.v (.slice none 0 0),.v (.slice none 0 0),.i (0 : Int),.i (0 : Int),.i (0 : Int),.v (.slice none 0 0)]⟩),(5,⟨26,.fix (cC a13)⟩),(6,⟨26,.fix (cC b13)⟩),(10,⟨69,.fix [.sl (.bytes l10),.i q17]⟩)],[17,6,5,13,10,3,2,998,999]⟩) 2 (by kernel_rfl) rfl ?_⟩
 refine WI.nil rfl (thenQ_normal ?_)
 refine W.keepE [2,3,4,5,6,17] [(2,.ptr 2 0),(3,.ptr 3 0),(4,.ptr 10 0),(5,.ptr 5 0),(6,.ptr 6 0),(17,.i v17)] (by kernel_rfl) ?_
 refine W.to (⟨[(2,.ptr 2 0),(3,.ptr 3 0),(4,.ptr 10 0),(5,.ptr 5 0),(6,.ptr 6 0),(17,.i v17)],[(2,⟨26,.fix [.v (.slice none 0 0),.v (.slice none 0 0),.i (0 : Int),.i (0 : Int),.i (0 : Int),.v (.slice none 0 0)]⟩),(3,⟨26,.fix [.v (.slice none 0 0),.v (.slice none 0 0),.i (0 : Int),.i (0 : Int),.i (0 : Int),.v (.slice none 0 0)]⟩),(5,⟨26,.fix (cC a13)⟩),(6,⟨26,.fix (cC b13)⟩),(10,⟨69,.fix [.sl (.bytes l10),.i q17]⟩)],[17,6,5,13,10,3,2,998,999]⟩) rfl ?_
 refine W.block ?_
 refine Kk cok tab25 hnt [] [2,3,4,5,6,17,18] (⟨[(2,.ptr 2 0),(3,.ptr 3 0),(4,.ptr 10 0),(5,.ptr 5 0),(6,.ptr 6 0),(17,.i v17),(18,.b (decide (v17 = (0 : Int))))],[(2,⟨26,.fix [.v (.slice none 0 0),.v (.slice none 0 0),.i (0 : Int),.i (0 : Int),.i (0 : Int),.v (.slice none 0 0)]⟩),(3,⟨26,.fix [.v (.slice none 0 0),.v (.slice none 0 0),.i (0 : Int),.i (0 : Int),.i (0 : Int),.v (.slice none 0 0)]⟩),(5,⟨26,.fix (cC a13)⟩),(6,⟨26,.fix (cC b13)⟩),(10,⟨69,.fix [.sl (.bytes l10),.i q17]⟩)],[17,6,5,13,10,3,2,998,999]⟩)
  ((True ∧ True ∧ True) ∧ True ∧ True)
  ⟨⟨tt,tt,tt⟩,tt,tt⟩ ?_
 refine W.ifP (v17 = (0 : Int)) (.b (decide (v17 = (0 : Int)))) (by kernel_rfl) rfl trivial ?_ ?_
 ·intro h18
  refine Kk cok tab25 hnt [] [2,3,4,5,6,7,8] (⟨[(2,.ptr 2 0),(3,.ptr 3 0),(4,.ptr 10 0),(5,.ptr 5 0),(6,.ptr 6 0),(7,.ptr 7 0),(8,.b ((mergeC a13 b13).2))],[(2,⟨26,.fix [.v (.slice none 0 0),.v (.slice none 0 0),.i (0 : Int),.i (0 : Int),.i (0 : Int),.v (.slice none 0 0)]⟩),(3,⟨26,.fix [.v (.slice none 0 0),.v (.slice none 0 0),.i (0 : Int),.i (0 : Int),.i (0 : Int),.v (.slice none 0 0)]⟩),(5,⟨26,.fix (cC a13)⟩),(6,⟨26,.fix (cC b13)⟩),(7,⟨26,.fix (cC ((mergeC a13 b13).1))⟩),(10,⟨69,.fix [.sl (.bytes l10),.i q17]⟩)],[7,17,6,5,13,10,3,2,998,999]⟩)
   (True ∧ True ∧ (True ∧ ((True ∧ True ∧ True ∧ True ∧ True ∧ True ∧ True ∧ True) ∧ (True ∧ True ∧ True ∧ True ∧ True ∧ True ∧ True ∧ True) ∧ True) ∧ True) ∧ True ∧ True ∧ True ∧ True ∧ (True ∧ True) ∧ True ∧ True)
   ⟨tt,tt,⟨tt,⟨⟨tt,tt,tt,tt,tt,tt,tt,tt⟩,⟨tt,tt,tt,tt,tt,tt,tt,tt⟩,tt⟩,tt⟩,tt,tt,tt,tt,⟨tt,tt⟩,tt,tt⟩ ?_
  refine Kk cok tab25 hnt [] [2,3,4,5,6,7,26] (⟨[(2,.ptr 2 0),(3,.ptr 3 0),(4,.ptr 10 0),(5,.ptr 5 0),(6,.ptr 6 0),(7,.ptr 7 0),(26,.b ((mergeC a13 b13).2))],[(2,⟨26,.fix [.v (.slice none 0 0),.v (.slice none 0 0),.i (0 : Int),.i (0 : Int),.i (0 : Int),.v (.slice none 0 0)]⟩),(3,⟨26,.fix [.v (.slice none 0 0),.v (.slice none 0 0),.i (0 : Int),.i (0 : Int),.i (0 : Int),.v (.slice none 0 0)]⟩),(5,⟨26,.fix (cC a13)⟩),(6,⟨26,.fix (cC b13)⟩),(7,⟨26,.fix (cC ((mergeC a13 b13).1))⟩),(10,⟨69,.fix [.sl (.bytes l10),.i q17]⟩)],[7,17,6,5,13,10,3,2,998,999]⟩)
   (True ∧ True)
   ⟨tt,tt⟩ ?_
  refine W.if' ((mergeC a13 b13).2) (.b ((mergeC a13 b13).2)) (by kernel_rfl) rfl trivial ?_ ?_
  ·intro h26
   refine W.KA cok tab25 hnt [] [2,3] (⟨[(2,.ptr 2 0),(3,.ptr 3 0)],[(2,⟨26,.fix (cC a13)⟩),(3,⟨26,.fix (cC ((mergeC a13 b13).1))⟩),(5,⟨26,.fix (cC a13)⟩),(6,⟨26,.fix (cC b13)⟩),(7,⟨26,.fix (cC ((mergeC a13 b13).1))⟩),(10,⟨69,.fix [.sl (.bytes l10),.i q17]⟩)],[7,17,6,5,13,10,3,2,998,999]⟩)
    (True ∧ True ∧ (True ∧ True) ∧ (True ∧ True) ∧ True) (by kernel_rfl) (by kernel_rfl)
    ⟨tt,tt,⟨tt,tt⟩,⟨tt,tt⟩,tt⟩ ?_
   refine W.ret (blockQ_ret (thenQ_ret ?_))
   exact endP_ret (a13,((mergeC a13 b13).1)) (show True from trivial) [] (.tup [.agg (cC a13),.agg (cC ((mergeC a13 b13).1))]) (by kernel_rfl) (@cast (((Sc a13) ∧ (((.ints ((mergeC a13 b13).1.up) : Dat) = .ints (((mergeC a13 b13).1).up)) ∧ ((.ints ((mergeC a13 b13).1.down) : Dat) = .ints (((mergeC a13 b13).1).down)) ∧ ((.int .i64 ((mergeC a13 b13).1.value) : Value) = .int .i64 (((mergeC a13 b13).1).value)) ∧ ((.int .i64 ((mergeC a13 b13).1.time) : Value) = .int .i64 (((mergeC a13 b13).1).time)) ∧ ((.int .i64 ((mergeC a13 b13).1.proc) : Value) = .int .i64 (((mergeC a13 b13).1).proc)) ∧ ((.marks ((mergeC a13 b13).1.marks) : Dat) = .marks (((mergeC a13 b13).1).marks)) ∧ True) ∧ True) ∧ True ∧ (true = true) ∧ True ∧ (false = true → (0 : Nat) = 998)) _ (by kernel_rfl) ⟨⟨⟨rfl,rfl,rfl,rfl,rfl,rfl,tt⟩,⟨(congrArg Dat.ints (by first | rfl | omega | assumption | (symm; assumption) | simp | simp_all)),(congrArg Dat.ints (by first | rfl | omega | assumption | (symm; assumption) | simp | simp_all)),(congrArg (Value.int .i64) (by first | rfl | omega | assumption | simp | simp_all)),(congrArg (Value.int .i64) (by first | rfl | omega | assumption | simp | simp_all)),(congrArg (Value.int .i64) (by first | rfl | omega | assumption | simp | simp_all)),(congrArg Dat.marks (by first | rfl | omega | assumption | (symm; assumption) | simp | simp_all)),tt⟩,tt⟩,tt,rfl,tt,(fun h => by cases h)⟩)
  ·intro n26
   refine W.skip (blockQ_normal (thenQ_normal ?_))
   refine W.KA cok tab25 hnt [] [2,3] (⟨[(2,.ptr 2 0),(3,.ptr 3 0)],[(2,⟨26,.fix (cC ((bentV l10 q17 a13).1))⟩),(3,⟨26,.fix (cC b13)⟩),(5,⟨26,.fix (cC a13)⟩),(6,⟨26,.fix (cC b13)⟩),(7,⟨26,.fix (cC ((mergeC a13 b13).1))⟩),(10,⟨69,.fix [.sl (.bytes l10),.i ((bentV l10 q17 a13).2)]⟩)],[37,7,17,6,5,13,10,3,2,998,999]⟩)
    (True ∧ True ∧ (True ∧ True ∧ ((True ∧ True ∧ True ∧ True ∧ True ∧ True ∧ True ∧ True) ∧ True) ∧ (0 ≤ q17 ∧ q17 ≤ 900000) ∧ (validCopy a13 = true)) ∧ True ∧ (True ∧ True) ∧ (True ∧ True) ∧ True) (by kernel_rfl) (by kernel_rfl)
    ⟨tt,tt,⟨tt,tt,⟨⟨tt,tt,tt,tt,tt,tt,tt,tt⟩,tt⟩,(by omega),(by omega)⟩,tt,⟨tt,tt⟩,⟨tt,tt⟩,tt⟩ ?_
   refine W.ret ?_
   exact endP_ret (((bentV l10 q17 a13).1),b13) (show True from trivial) [] (.tup [.agg (cC ((bentV l10 q17 a13).1)),.agg (cC b13)]) (by kernel_rfl) (@cast (((((.ints ((bentV l10 q17 a13).1.up) : Dat) = .ints (((bentV l10 q17 a13).1).up)) ∧ ((.ints ((bentV l10 q17 a13).1.down) : Dat) = .ints (((bentV l10 q17 a13).1).down)) ∧ ((.int .i64 ((bentV l10 q17 a13).1.value) : Value) = .int .i64 (((bentV l10 q17 a13).1).value)) ∧ ((.int .i64 ((bentV l10 q17 a13).1.time) : Value) = .int .i64 (((bentV l10 q17 a13).1).time)) ∧ ((.int .i64 ((bentV l10 q17 a13).1.proc) : Value) = .int .i64 (((bentV l10 q17 a13).1).proc)) ∧ ((.marks ((bentV l10 q17 a13).1.marks) : Dat) = .marks (((bentV l10 q17 a13).1).marks)) ∧ True) ∧ (Sc b13) ∧ True) ∧ True ∧ (true = true) ∧ True ∧ (false = true → (0 : Nat) = 998)) _ (by kernel_rfl) ⟨⟨⟨(congrArg Dat.ints (by first | rfl | omega | assumption | (symm; assumption) | simp | simp_all)),(congrArg Dat.ints (by first | rfl | omega | assumption | (symm; assumption) | simp | simp_all)),(congrArg (Value.int .i64) (by first | rfl | omega | assumption | simp | simp_all)),(congrArg (Value.int .i64) (by first | rfl | omega | assumption | simp | simp_all)),(congrArg (Value.int .i64) (by first | rfl | omega | assumption | simp | simp_all)),(congrArg Dat.marks (by first | rfl | omega | assumption | (symm; assumption) | simp | simp_all)),tt⟩,⟨rfl,rfl,rfl,rfl,rfl,rfl,tt⟩,tt⟩,tt,rfl,tt,(fun h => by cases h)⟩)
 ·intro n18
  refine Kk cok tab25 hnt [] [2,3,4,5,6,29] (⟨[(2,.ptr 2 0),(3,.ptr 3 0),(4,.ptr 10 0),(5,.ptr 5 0),(6,.ptr 6 0),(29,.b (decide (v17 = (1 : Int))))],[(2,⟨26,.fix [.v (.slice none 0 0),.v (.slice none 0 0),.i (0 : Int),.i (0 : Int),.i (0 : Int),.v (.slice none 0 0)]⟩),(3,⟨26,.fix [.v (.slice none 0 0),.v (.slice none 0 0),.i (0 : Int),.i (0 : Int),.i (0 : Int),.v (.slice none 0 0)]⟩),(5,⟨26,.fix (cC a13)⟩),(6,⟨26,.fix (cC b13)⟩),(10,⟨69,.fix [.sl (.bytes l10),.i q17]⟩)],[17,6,5,13,10,3,2,998,999]⟩)
   ((True ∧ True ∧ True) ∧ True ∧ True)
   ⟨⟨tt,tt,tt⟩,tt,tt⟩ ?_
  refine W.ifP (v17 = (1 : Int)) (.b (decide (v17 = (1 : Int)))) (by kernel_rfl) rfl trivial ?_ ?_
  ·intro h29
   refine W.KA cok tab25 hnt [] [2,3] (⟨[(2,.ptr 2 0),(3,.ptr 3 0)],[(2,⟨26,.fix (cC a13)⟩),(3,⟨26,.fix (cC ((changeV l10 q17 a13 (0 : Int)).1))⟩),(5,⟨26,.fix (cC a13)⟩),(6,⟨26,.fix (cC b13)⟩),(10,⟨69,.fix [.sl (.bytes l10),.i ((changeV l10 q17 a13 (0 : Int)).2)]⟩)],[34,17,6,5,13,10,3,2,998,999]⟩)
    (True ∧ True ∧ True ∧ (True ∧ True ∧ ((True ∧ True ∧ True ∧ True ∧ True ∧ True ∧ True ∧ True) ∧ True ∧ True) ∧ (0 ≤ q17 ∧ q17 ≤ 900000) ∧ (validCopy a13 = true) ∧ 0 ≤ (0 : Int) ∧ (0 : Int) ≤ 2) ∧ (True ∧ True) ∧ (True ∧ True) ∧ True) (by kernel_rfl) (by kernel_rfl)
    ⟨tt,tt,tt,⟨tt,tt,⟨⟨tt,tt,tt,tt,tt,tt,tt,tt⟩,tt,tt⟩,(by omega),(by omega),(by omega)⟩,⟨tt,tt⟩,⟨tt,tt⟩,tt⟩ ?_
   refine W.ret (blockQ_ret (thenQ_ret ?_))
   exact endP_ret (a13,((changeV l10 q17 a13 (0 : Int)).1)) (show True from trivial) [] (.tup [.agg (cC a13),.agg (cC ((changeV l10 q17 a13 (0 : Int)).1))]) (by kernel_rfl) (@cast (((Sc a13) ∧ (((.ints ((changeV l10 q17 a13 (0 : Int)).1.up) : Dat) = .ints (((changeV l10 q17 a13 (0 : Int)).1).up)) ∧ ((.ints ((changeV l10 q17 a13 (0 : Int)).1.down) : Dat) = .ints (((changeV l10 q17 a13 (0 : Int)).1).down)) ∧ ((.int .i64 ((changeV l10 q17 a13 (0 : Int)).1.value) : Value) = .int .i64 (((changeV l10 q17 a13 (0 : Int)).1).value)) ∧ ((.int .i64 ((changeV l10 q17 a13 (0 : Int)).1.time) : Value) = .int .i64 (((changeV l10 q17 a13 (0 : Int)).1).time)) ∧ ((.int .i64 ((changeV l10 q17 a13 (0 : Int)).1.proc) : Value) = .int .i64 (((changeV l10 q17 a13 (0 : Int)).1).proc)) ∧ ((.marks ((changeV l10 q17 a13 (0 : Int)).1.marks) : Dat) = .marks (((changeV l10 q17 a13 (0 : Int)).1).marks)) ∧ True) ∧ True) ∧ True ∧ (true = true) ∧ True ∧ (false = true → (0 : Nat) = 998)) _ (by kernel_rfl) ⟨⟨⟨rfl,rfl,rfl,rfl,rfl,rfl,tt⟩,⟨(congrArg Dat.ints (by first | rfl | omega | assumption | (symm; assumption) | simp | simp_all)),(congrArg Dat.ints (by first | rfl | omega | assumption | (symm; assumption) | simp | simp_all)),(congrArg (Value.int .i64) (by first | rfl | omega | assumption | simp | simp_all)),(congrArg (Value.int .i64) (by first | rfl | omega | assumption | simp | simp_all)),(congrArg (Value.int .i64) (by first | rfl | omega | assumption | simp | simp_all)),(congrArg Dat.marks (by first | rfl | omega | assumption | (symm; assumption) | simp | simp_all)),tt⟩,tt⟩,tt,rfl,tt,(fun h => by cases h)⟩)
  ·intro n29
   refine W.skip (blockQ_normal (thenQ_normal ?_))
   refine W.KA cok tab25 hnt [] [2,3] (⟨[(2,.ptr 2 0),(3,.ptr 3 0)],[(2,⟨26,.fix (cC ((bentV l10 q17 a13).1))⟩),(3,⟨26,.fix (cC b13)⟩),(5,⟨26,.fix (cC a13)⟩),(6,⟨26,.fix (cC b13)⟩),(10,⟨69,.fix [.sl (.bytes l10),.i ((bentV l10 q17 a13).2)]⟩)],[37,17,6,5,13,10,3,2,998,999]⟩)
    (True ∧ True ∧ (True ∧ True ∧ ((True ∧ True ∧ True ∧ True ∧ True ∧ True ∧ True ∧ True) ∧ True) ∧ (0 ≤ q17 ∧ q17 ≤ 900000) ∧ (validCopy a13 = true)) ∧ True ∧ (True ∧ True) ∧ (True ∧ True) ∧ True) (by kernel_rfl) (by kernel_rfl)
    ⟨tt,tt,⟨tt,tt,⟨⟨tt,tt,tt,tt,tt,tt,tt,tt⟩,tt⟩,(by omega),(by omega)⟩,tt,⟨tt,tt⟩,⟨tt,tt⟩,tt⟩ ?_
   refine W.ret ?_
   exact endP_ret (((bentV l10 q17 a13).1),b13) (show True from trivial) [] (.tup [.agg (cC ((bentV l10 q17 a13).1)),.agg (cC b13)]) (by kernel_rfl) (@cast (((((.ints ((bentV l10 q17 a13).1.up) : Dat) = .ints (((bentV l10 q17 a13).1).up)) ∧ ((.ints ((bentV l10 q17 a13).1.down) : Dat) = .ints (((bentV l10 q17 a13).1).down)) ∧ ((.int .i64 ((bentV l10 q17 a13).1.value) : Value) = .int .i64 (((bentV l10 q17 a13).1).value)) ∧ ((.int .i64 ((bentV l10 q17 a13).1.time) : Value) = .int .i64 (((bentV l10 q17 a13).1).time)) ∧ ((.int .i64 ((bentV l10 q17 a13).1.proc) : Value) = .int .i64 (((bentV l10 q17 a13).1).proc)) ∧ ((.marks ((bentV l10 q17 a13).1.marks) : Dat) = .marks (((bentV l10 q17 a13).1).marks)) ∧ True) ∧ (Sc b13) ∧ True) ∧ True ∧ (true = true) ∧ True ∧ (false = true → (0 : Nat) = 998)) _ (by kernel_rfl) ⟨⟨⟨(congrArg Dat.ints (by first | rfl | omega | assumption | (symm; assumption) | simp | simp_all)),(congrArg Dat.ints (by first | rfl | omega | assumption | (symm; assumption) | simp | simp_all)),(congrArg (Value.int .i64) (by first | rfl | omega | assumption | simp | simp_all)),(congrArg (Value.int .i64) (by first | rfl | omega | assumption | simp | simp_all)),(congrArg (Value.int .i64) (by first | rfl | omega | assumption | simp | simp_all)),(congrArg Dat.marks (by first | rfl | omega | assumption | (symm; assumption) | simp | simp_all)),tt⟩,⟨rfl,rfl,rfl,rfl,rfl,rfl,tt⟩,tt⟩,tt,rfl,tt,(fun h => by cases h)⟩)
theorem ent25 : Entr prog 25 := ⟨_,func25,rfl,by decide⟩
end Go.Proofs.Try

set_option linter.unusedSimpArgs false
set_option linter.unusedVariables false
namespace Go.Proofs.Try
open Go.Ab Go.RowKit
def fs7 : FnS := fnS [.s .bytes] [.bytes] (fun _ (code,_) => (.b true,[],True))
abbrev T7 : Tab := lk [(12,fs12),(16,fs16),(21,fs21),(26,fs26),(27,fs27),(28,fs28)]
theorem tab7 : TabOK prog T7 := (TabOK.cons ok12 ent12 (TabOK.cons ok16 ent16 (TabOK.cons ok21 ent21 (TabOK.cons ok26 ent26 (TabOK.cons ok27 ent27 (TabOK.cons ok28 ent28 TabOK.nil))))))
set_option maxRecDepth 100000 in
set_option maxHeartbeats 1000000 in
theorem ok7 : FnOK prog 7 fs7 := by
 refine FnOK.mk cok func7 rfl rfl rfl ?_
 rintro fl ⟨(code : List UInt8),_⟩ hpre F hnt0 _
 have hnt : F.nt = 70 := hnt0.trans ntmps7
 clear hpre
 refine W.to (⟨[(0,.sl (.bytes code))],[],[999]⟩) rfl ?_
 refine W.lenOf 0 (.bytes code) (by kernel_rfl) ?_
 intro hl_code; replace hl_code : List.length code ≤ 9223372036854775807 := hl_code
 refine Kk cok tab7 hnt [] [0] (⟨[(0,.sl (.bytes code))],[],[999]⟩)
  (True ∧ True)
  ⟨tt,tt⟩ ?_
 refine W.seq ?_
 refine Kk cok tab7 hnt [] [0,11] (⟨[(0,.sl (.bytes code)),(11,.b (decide ((1048576 : Int) < (code.length : Int))))],[],[999]⟩)
  (True ∧ True ∧ (True ∧ True ∧ True) ∧ True)
  ⟨tt,tt,⟨tt,tt,tt⟩,tt⟩ ?_
 refine W.ifP ((1048576 : Int) < (code.length : Int)) (.b (decide ((1048576 : Int) < (code.length : Int)))) (by kernel_rfl) rfl trivial ?_ ?_
 ·intro h11
  refine Kk cok tab7 hnt [] [2] (⟨[(2,.b true)],[],[999]⟩)
   (True ∧ True)
   ⟨tt,tt⟩ ?_
  refine W.ret (thenQ_ret ?_)
  exact endQ_ret (.b true) (by kernel_rfl) (@cast (Sv (.bool true)) _ (by kernel_rfl) rfl)
 ·intro n11
  refine W.skip (thenQ_normal ?_)
  refine W.seq (W.wi ?_)
  refine WI.runT cok tab7 hnt [] 1 1 (⟨[(0,.sl (.bytes code)),(11,.b (decide ((1048576 : Int) < (code.length : Int)))),(13,.sl (.bytes code))],[],[999]⟩)
   (True ∧ True) (by kernel_rfl) rfl
   ⟨tt,tt⟩ ?_
  refine WI.call [.sl (.bytes code)] [] [.sl (.bytes code)] [.sl (.bytes code)] none (True) (True ∧ True) none rok25 ent25 hnt rfl rfl (wanted_none rfl) (by kernel_rfl) (by kernel_rfl) (by kernel_rfl) ⟨tt,tt,tt⟩
   (@cast (True) _ (by kernel_rfl) trivial) (Or.inl rfl) rfl ?_
  rintro r bl fx2 hR
  obtain ⟨⟨g14,g214⟩,hq14,rfl,rfl,rfl⟩ := (@cast _ (∃ x : CopyD × CopyD,(True) ∧ r = (.tup [.agg (cC (x.1)),.agg (cC (x.2))]) ∧ bl = ([]) ∧ fx2 = ([])) (by kernel_rfl) hR)
  clear hR
  replace hq14 : True := hq14
  refine ⟨by kernel_rfl,WI.to (⟨[(0,.sl (.bytes code)),(11,.b (decide ((1048576 : Int) < (code.length : Int)))),(13,.sl (.bytes code)),(14,.tup [.agg (cC g14),.agg (cC g214)])],[],[999]⟩) 2 (by kernel_rfl) rfl ?_⟩
  refine WI.runT cok tab7 hnt [] 7 9 (⟨[(0,.sl (.bytes code)),(3,.ptr 3 0),(4,.ptr 4 0),(11,.b (decide ((1048576 : Int) < (code.length : Int)))),(12,.tup [.agg (cC g14),.agg (cC g214)]),(13,.sl (.bytes code)),(14,.tup [.agg (cC g14),.agg (cC g214)]),(15,.agg (cC g14)),(16,.agg (cC g214))],[(3,⟨26,.fix (cC g14)⟩),(4,⟨26,.fix (cC g214)⟩)],[4,3,999]⟩)
   (True ∧ True ∧ True ∧ True ∧ True ∧ (True ∧ True) ∧ (True ∧ True) ∧ True) (by kernel_rfl) rfl
   ⟨tt,tt,tt,tt,tt,⟨tt,tt⟩,⟨tt,tt⟩,tt⟩ ?_
  refine WI.nil rfl (thenQ_normal ?_)
  refine W.keepE [3,4] [(3,.ptr 3 0),(4,.ptr 4 0)] (by kernel_rfl) ?_
  refine W.to (⟨[(3,.ptr 3 0),(4,.ptr 4 0)],[(3,⟨26,.fix (cC g14)⟩),(4,⟨26,.fix (cC g214)⟩)],[4,3,999]⟩) rfl ?_
  refine Kk cok tab7 hnt [] [3,4,5] (⟨[(3,.ptr 3 0),(4,.ptr 4 0),(5,.b (withinC g14 g214))],[(3,⟨26,.fix (cC g14)⟩),(4,⟨26,.fix (cC g214)⟩)],[4,3,999]⟩)
   (True ∧ True ∧ (True ∧ ((True ∧ True ∧ True ∧ True ∧ True ∧ True ∧ True ∧ True) ∧ (True ∧ True ∧ True ∧ True ∧ True ∧ True ∧ True ∧ True) ∧ True) ∧ True) ∧ True ∧ True)
   ⟨tt,tt,⟨tt,⟨⟨tt,tt,tt,tt,tt,tt,tt,tt⟩,⟨tt,tt,tt,tt,tt,tt,tt,tt⟩,tt⟩,tt⟩,tt,tt⟩ ?_
  refine W.seq ?_
  refine Kk cok tab7 hnt [] [3,4,5,34] (⟨[(3,.ptr 3 0),(4,.ptr 4 0),(5,.b (withinC g14 g214)),(34,.b ((((withinC g14 g214) != (withinC g14 g214)) || (!(validCopy g14))) || (!(validCopy g214))))],[(3,⟨26,.fix (cC g14)⟩),(4,⟨26,.fix (cC g214)⟩)],[4,3,999]⟩)
   ((fun (Z1:Bool)=>((fun (Z2:Bool)=>(True ∧ (True ∧ (True ∧ ((True ∧ (((True ∧ (True ∧ (True ∧ (True ∧ (True ∧ (True ∧ (True ∧ True))))))) ∧ ((True ∧ (True ∧ (True ∧ (True ∧ (True ∧ (True ∧ (True ∧ True))))))) ∧ True)) ∧ True)) ∧ ((True ∧ True) ∧ (True ∧ (((!Z1) = true → True) ∧ (((!Z1) = true → (True ∧ ((((((!Z1) = true) ∧ True) ∧ (True ∧ (True ∧ (True ∧ (True ∧ (True ∧ (True ∧ True))))))) ∧ True) ∧ True))) ∧ (((!Z1) = true → (((!Z1) = true) ∧ True)) ∧ ((True ∧ ((Z1 = true → True) ∧ (Z1 = false → ((!Z1) = true) ∧ True))) ∧ (True ∧ (((!Z2) = true → True) ∧ (((!Z2) = true → (True ∧ ((((((!Z2) = true) ∧ True) ∧ (True ∧ (True ∧ (True ∧ (True ∧ (True ∧ (True ∧ True))))))) ∧ True) ∧ True))) ∧ (((!Z2) = true → (((!Z2) = true) ∧ True)) ∧ ((True ∧ ((Z2 = true → True) ∧ (Z2 = false → ((!Z2) = true) ∧ True))) ∧ True)))))))))))))))) (Z1 || (!(validCopy g14))))) ((withinC g14 g214) != (withinC g14 g214)))
   ⟨tt,tt,tt,⟨tt,⟨⟨tt,tt,tt,tt,tt,tt,tt,tt⟩,⟨tt,tt,tt,tt,tt,tt,tt,tt⟩,tt⟩,tt⟩,⟨tt,tt⟩,tt,(fun _ => trivial),(fun hG => ⟨tt,⟨⟨⟨hG,tt⟩,tt,tt,tt,tt,tt,tt,tt⟩,tt⟩,tt⟩),(fun hG => ⟨hG,tt⟩),⟨tt,(fun _ => trivial),(fun hp => ⟨(not_t hp),tt⟩)⟩,tt,(fun _ => trivial),(fun hG => ⟨tt,⟨⟨⟨hG,tt⟩,tt,tt,tt,tt,tt,tt,tt⟩,tt⟩,tt⟩),(fun hG => ⟨hG,tt⟩),⟨tt,(fun _ => trivial),(fun hp => ⟨(not_t hp),tt⟩)⟩,tt⟩ ?_
  refine W.if' ((((withinC g14 g214) != (withinC g14 g214)) || (!(validCopy g14))) || (!(validCopy g214))) (.b ((((withinC g14 g214) != (withinC g14 g214)) || (!(validCopy g14))) || (!(validCopy g214)))) (by kernel_rfl) rfl trivial ?_ ?_
  ·intro h34
   refine Kk cok tab7 hnt [] [2] (⟨[(2,.b ((withinC g14 g214) == (withinC g14 g214)))],[(3,⟨26,.fix (cC g14)⟩),(4,⟨26,.fix (cC g214)⟩)],[4,3,999]⟩)
    (True ∧ True ∧ True ∧ (True ∧ ((True ∧ True ∧ True ∧ True ∧ True ∧ True ∧ True ∧ True) ∧ (True ∧ True ∧ True ∧ True ∧ True ∧ True ∧ True ∧ True) ∧ True) ∧ True) ∧ (True ∧ True) ∧ True ∧ True)
    ⟨tt,tt,tt,⟨tt,⟨⟨tt,tt,tt,tt,tt,tt,tt,tt⟩,⟨tt,tt,tt,tt,tt,tt,tt,tt⟩,tt⟩,tt⟩,⟨tt,tt⟩,tt,tt⟩ ?_
   refine W.ret (thenQ_ret ?_)
   exact endQ_ret (.b ((withinC g14 g214) == (withinC g14 g214))) (by kernel_rfl) (@cast ((.bool ((withinC g14 g214) == (withinC g14 g214)) : Value) = .bool true) _ (by kernel_rfl) (congrArg Value.bool (by simp)))
  ·intro n34
   refine W.skip (thenQ_normal ?_)
   refine Kk cok tab7 hnt [] [3,4,5,6] (⟨[(3,.ptr 3 0),(4,.ptr 4 0),(5,.b (withinC g14 g214)),(6,.b ((withinC g14 g214) && (withinC g214 g14)))],[(3,⟨26,.fix (cC g14)⟩),(4,⟨26,.fix (cC g214)⟩)],[4,3,999]⟩)
    ((fun (Z1:Bool)=>(True ∧ (True ∧ ((Z1 = true → True) ∧ ((Z1 = true → True) ∧ ((Z1 = true → (True ∧ (((((Z1 = true) ∧ True) ∧ (True ∧ (True ∧ (True ∧ (True ∧ (True ∧ (True ∧ True))))))) ∧ ((((Z1 = true) ∧ True) ∧ (True ∧ (True ∧ (True ∧ (True ∧ (True ∧ (True ∧ True))))))) ∧ True)) ∧ True))) ∧ ((True ∧ ((Z1 = true → (Z1 = true) ∧ True) ∧ (Z1 = false → True))) ∧ (True ∧ True)))))))) (withinC g14 g214))
    ⟨tt,tt,(fun _ => trivial),(fun _ => trivial),(fun hG => ⟨tt,⟨⟨⟨hG,tt⟩,tt,tt,tt,tt,tt,tt,tt⟩,⟨⟨hG,tt⟩,tt,tt,tt,tt,tt,tt,tt⟩,tt⟩,tt⟩),⟨tt,(fun hp => ⟨hp,tt⟩),(fun _ => trivial)⟩,tt,tt⟩ ?_
   refine W.KA cok tab7 hnt [] [3,4,5,6,7,8] (⟨[(3,.ptr 3 0),(4,.ptr 4 0),(5,.b (withinC g14 g214)),(6,.b ((withinC g14 g214) && (withinC g214 g14))),(7,.ptr 7 0),(8,.b ((mergeC g214 (takeOut g214 (1 : Int))).2))],[(3,⟨26,.fix (cC g14)⟩),(4,⟨26,.fix (cC g214)⟩),(7,⟨26,.fix [.own 50 (List.length ((mergeC g214 (takeOut g214 (1 : Int))).1.up)),.own 1050 (List.length ((mergeC g214 (takeOut g214 (1 : Int))).1.down)),.i ((mergeC g214 (takeOut g214 (1 : Int))).1.value),.i ((mergeC g214 (takeOut g214 (1 : Int))).1.time),.i ((mergeC g214 (takeOut g214 (1 : Int))).1.proc),.own 2050 (List.length ((mergeC g214 (takeOut g214 (1 : Int))).1.marks))]⟩),(49,⟨3,.row (.ints ((takeOut g214 (1 : Int)).up))⟩),(50,⟨3,.row (.ints ((mergeC g214 (takeOut g214 (1 : Int))).1.up))⟩),(1049,⟨3,.row (.ints ((takeOut g214 (1 : Int)).down))⟩),(1050,⟨3,.row (.ints ((mergeC g214 (takeOut g214 (1 : Int))).1.down))⟩),(2049,⟨52,.row (.marks ((takeOut g214 (1 : Int)).marks))⟩),(2050,⟨52,.row (.marks ((mergeC g214 (takeOut g214 (1 : Int))).1.marks))⟩)],[7,2050,1050,50,2049,1049,49,4,3,999]⟩)
    (True ∧ True ∧ (True ∧ ((True ∧ True ∧ True ∧ True ∧ True ∧ True ∧ True ∧ True) ∧ True ∧ True) ∧ True) ∧ (True ∧ ((True ∧ True ∧ True ∧ True ∧ True ∧ True ∧ True ∧ True) ∧ (True ∧ (True ∧ ((List.length ((takeOut g214 (1 : Int)).up)) = (List.length ((takeOut g214 (1 : Int)).up)))) ∧ (True ∧ ((List.length ((takeOut g214 (1 : Int)).down)) = (List.length ((takeOut g214 (1 : Int)).down)))) ∧ True ∧ True ∧ True ∧ (True ∧ ((List.length ((takeOut g214 (1 : Int)).marks)) = (List.length ((takeOut g214 (1 : Int)).marks)))) ∧ True) ∧ True) ∧ True) ∧ True ∧ True ∧ True ∧ True ∧ (True ∧ True) ∧ True ∧ True) (by kernel_rfl) (by kernel_rfl)
    ⟨tt,tt,⟨tt,⟨⟨tt,tt,tt,tt,tt,tt,tt,tt⟩,tt,tt⟩,tt⟩,⟨tt,⟨⟨tt,tt,tt,tt,tt,tt,tt,tt⟩,⟨tt,⟨tt,rfl⟩,⟨tt,rfl⟩,tt,tt,tt,⟨tt,rfl⟩,tt⟩,tt⟩,tt⟩,tt,tt,tt,tt,⟨tt,tt⟩,tt,tt⟩ ?_
   refine Kk cok tab7 hnt [] [2] (⟨[(2,.b (((((withinC g14 g214) && (withinC g214 g14)) == (sameC g14 g214)) && ((mergeC g214 (takeOut g214 (1 : Int))).2)) && ((!(withinC g14 g214)) || (withinC g14 (mergeC g214 (takeOut g214 (1 : Int))).1))))],[(3,⟨26,.fix (cC g14)⟩),(4,⟨26,.fix (cC g214)⟩),(7,⟨26,.fix [.own 50 (List.length ((mergeC g214 (takeOut g214 (1 : Int))).1.up)),.own 1050 (List.length ((mergeC g214 (takeOut g214 (1 : Int))).1.down)),.i ((mergeC g214 (takeOut g214 (1 : Int))).1.value),.i ((mergeC g214 (takeOut g214 (1 : Int))).1.time),.i ((mergeC g214 (takeOut g214 (1 : Int))).1.proc),.own 2050 (List.length ((mergeC g214 (takeOut g214 (1 : Int))).1.marks))]⟩),(49,⟨3,.row (.ints ((takeOut g214 (1 : Int)).up))⟩),(50,⟨3,.row (.ints ((mergeC g214 (takeOut g214 (1 : Int))).1.up))⟩),(1049,⟨3,.row (.ints ((takeOut g214 (1 : Int)).down))⟩),(1050,⟨3,.row (.ints ((mergeC g214 (takeOut g214 (1 : Int))).1.down))⟩),(2049,⟨52,.row (.marks ((takeOut g214 (1 : Int)).marks))⟩),(2050,⟨52,.row (.marks ((mergeC g214 (takeOut g214 (1 : Int))).1.marks))⟩)],[7,2050,1050,50,2049,1049,49,4,3,999]⟩)
    ((fun (Z1:Bool)=>((fun (Z2:Bool)=>((fun (Z3:Bool)=>((fun (Z4:Bool)=>(True ∧ (True ∧ (True ∧ ((True ∧ (((True ∧ (True ∧ (True ∧ (True ∧ (True ∧ (True ∧ (True ∧ True))))))) ∧ ((True ∧ (True ∧ (True ∧ (True ∧ (True ∧ (True ∧ (True ∧ True))))))) ∧ True)) ∧ True)) ∧ ((True ∧ True) ∧ (True ∧ ((Z2 = true → True) ∧ ((True ∧ ((Z2 = true → (Z2 = true) ∧ True) ∧ (Z2 = false → True))) ∧ (True ∧ ((Z3 = true → True) ∧ ((Z3 = true → ((Z3 = true) ∧ True)) ∧ ((Z3 = true → True) ∧ ((Z4 = true → True) ∧ ((Z4 = true → True) ∧ ((Z4 = true → (True ∧ (((((Z4 = true) ∧ True) ∧ (True ∧ (True ∧ (True ∧ (True ∧ (True ∧ (True ∧ True))))))) ∧ ((((Z4 = true) ∧ True) ∧ ((True ∧ ((List.length ((mergeC g214 (takeOut g214 (1 : Int))).1.up)) = (List.length ((mergeC g214 (takeOut g214 (1 : Int))).1.up)))) ∧ ((True ∧ ((List.length ((mergeC g214 (takeOut g214 (1 : Int))).1.down)) = (List.length ((mergeC g214 (takeOut g214 (1 : Int))).1.down)))) ∧ (True ∧ (True ∧ (True ∧ ((True ∧ ((List.length ((mergeC g214 (takeOut g214 (1 : Int))).1.marks)) = (List.length ((mergeC g214 (takeOut g214 (1 : Int))).1.marks)))) ∧ True))))))) ∧ True)) ∧ True))) ∧ ((Z3 = true → (((Z3 = true) ∧ ((Z3 = true) ∧ True)) ∧ ((Z1 = true → True) ∧ (Z1 = false → (Z4 = true) ∧ True)))) ∧ ((True ∧ ((Z3 = true → (Z3 = true) ∧ True) ∧ (Z3 = false → True))) ∧ (True ∧ True))))))))))))))))))) (Z3 && (Z3 && (!Z1))))) (Z2 && ((mergeC g214 (takeOut g214 (1 : Int))).2)))) (((withinC g14 g214) && (withinC g214 g14)) == (sameC g14 g214)))) (!(withinC g14 g214)))
    ⟨tt,tt,tt,⟨tt,⟨⟨tt,tt,tt,tt,tt,tt,tt,tt⟩,⟨tt,tt,tt,tt,tt,tt,tt,tt⟩,tt⟩,tt⟩,⟨tt,tt⟩,tt,(fun _ => trivial),⟨tt,(fun hp => ⟨hp,tt⟩),(fun _ => trivial)⟩,tt,(fun _ => trivial),(fun hG => ⟨hG,tt⟩),(fun _ => trivial),(fun _ => trivial),(fun _ => trivial),(fun hG => ⟨tt,⟨⟨⟨hG,tt⟩,tt,tt,tt,tt,tt,tt,tt⟩,⟨⟨hG,tt⟩,⟨tt,rfl⟩,⟨tt,rfl⟩,tt,tt,tt,⟨tt,rfl⟩,tt⟩,tt⟩,tt⟩),(fun hG => ⟨⟨hG,hG,tt⟩,(fun _ => trivial),(fun hp => ⟨(and_t hG (and_t hG (not_t hp))),tt⟩)⟩),⟨tt,(fun hp => ⟨hp,tt⟩),(fun _ => trivial)⟩,tt,tt⟩ ?_
   refine W.ret ?_
   exact endQ_ret (.b (((((withinC g14 g214) && (withinC g214 g14)) == (sameC g14 g214)) && ((mergeC g214 (takeOut g214 (1 : Int))).2)) && ((!(withinC g14 g214)) || (withinC g14 (mergeC g214 (takeOut g214 (1 : Int))).1)))) (by kernel_rfl) (@cast ((.bool (((((withinC g14 g214) && (withinC g214 g14)) == (sameC g14 g214)) && ((mergeC g214 (takeOut g214 (1 : Int))).2)) && ((!(withinC g14 g214)) || (withinC g14 (mergeC g214 (takeOut g214 (1 : Int))).1))) : Value) = .bool true) _ (by kernel_rfl) (congrArg Value.bool (by exact within_law (not_g (or_r (or_l n34))) (not_g (or_r n34)))))
end Go.Proofs.Try
