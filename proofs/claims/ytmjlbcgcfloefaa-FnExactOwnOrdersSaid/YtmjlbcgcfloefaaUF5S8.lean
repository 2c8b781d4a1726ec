import Derived.Test.YtmjlbcgcfloefaaUF5S0
import Derived.Test.YtmjlbcgcfloefaaUF5S1
import Derived.Test.YtmjlbcgcfloefaaUF5S3
import Derived.Test.YtmjlbcgcfloefaaUF5S4
import Derived.Test.YtmjlbcgcfloefaaUF5S5
import Derived.Test.YtmjlbcgcfloefaaUF5S7
set_option linter.unusedSimpArgs false
set_option linter.unusedVariables false
namespace Go.Proofs.Try
open Go.Ab Go.RowKit
def fs5 : FnS := fnS [.o,.s .calls] [.str,.calls] (fun _ (s,h,_) => (.b true,[],True))
abbrev T5 : Tab := lk [(6,fs6),(8,fs8),(12,fs12),(13,fs13),(18,fs18),(20,fs20),(21,fs21)]
theorem tab5 : TabOK prog T5 := (TabOK.cons ok6 ent6 (TabOK.cons ok8 ent8 (TabOK.cons ok12 ent12 (TabOK.cons ok13 ent13 (TabOK.cons ok18 ent18 (TabOK.cons ok20 ent20 (TabOK.cons ok21 ent21 TabOK.nil)))))))
set_option maxRecDepth 100000 in
set_option maxHeartbeats 1000000 in
theorem ok5 : FnOK prog 5 fs5 := by
 refine FnOK.mk cok func5 rfl rfl rfl ?_
 rintro fl ⟨(s : ByteArray),(h : List CallD),_⟩ hpre F hnt0 _
 have hnt : F.nt = 77 := hnt0.trans ntmps5
 clear hpre
 refine W.to (⟨[(0,.v (.string s)),(1,.sl (.calls h))],[],[999]⟩) rfl ?_
 refine W.lenOf 1 (.calls h) (by kernel_rfl) ?_
 intro hl_h; replace hl_h : List.length h ≤ 9223372036854775807 := hl_h
 refine Kk cok tab5 hnt [] [0,1] (⟨[(0,.v (.string s)),(1,.sl (.calls h))],[],[999]⟩)
  (True ∧ True)
  ⟨tt,tt⟩ ?_
 refine W.seq ?_
 refine Kk cok tab5 hnt [] [0,1,15] (⟨[(0,.v (.string s)),(1,.sl (.calls h)),(15,.b (decide ((1048576 : Int) < ((s.size : Nat) : Int))))],[],[999]⟩)
  (True ∧ True ∧ (True ∧ True ∧ True) ∧ True)
  ⟨tt,tt,⟨tt,tt,tt⟩,tt⟩ ?_
 refine W.ifP ((1048576 : Int) < ((s.size : Nat) : Int)) (.b (decide ((1048576 : Int) < ((s.size : Nat) : Int)))) (by kernel_rfl) rfl trivial ?_ ?_
 ·intro h15
  refine Kk cok tab5 hnt [] [4] (⟨[(4,.b true)],[],[999]⟩)
   (True ∧ True)
   ⟨tt,tt⟩ ?_
  refine W.ret (thenQ_ret ?_)
  exact endQ_ret (.b true) (by kernel_rfl) (@cast (Sv (.bool true)) _ (by kernel_rfl) rfl)
 ·intro n15
  refine W.skip (thenQ_normal ?_)
  refine Kk cok tab5 hnt [] [0,1,5] (⟨[(0,.v (.string s)),(1,.sl (.calls h)),(5,.i (1048576 : Int))],[],[999]⟩)
   (True ∧ True)
   ⟨tt,tt⟩ ?_
  refine Kk cok tab5 hnt [] [0,1,5] (⟨[(0,.v (.string s)),(1,.sl (.calls h)),(5,.i (szC h (1048576 : Int)))],[],[999]⟩)
   (True ∧ True ∧ (True ∧ (True ∧ True ∧ True) ∧ ((1048576 : Int) = 1048576)) ∧ True ∧ True)
   ⟨tt,tt,⟨tt,⟨tt,tt,tt⟩,(by omega)⟩,tt,tt⟩ ?_
  refine W.seq ?_
  refine Kk cok tab5 hnt [] [0,1,20] (⟨[(0,.v (.string s)),(1,.sl (.calls h)),(20,.b (decide ((szC h (1048576 : Int)) < (0 : Int))))],[],[999]⟩)
   (True ∧ (True ∧ True ∧ True) ∧ True)
   ⟨tt,⟨tt,tt,tt⟩,tt⟩ ?_
  refine W.ifP ((szC h (1048576 : Int)) < (0 : Int)) (.b (decide ((szC h (1048576 : Int)) < (0 : Int)))) (by kernel_rfl) rfl trivial ?_ ?_
  ·intro h20
   refine Kk cok tab5 hnt [] [4] (⟨[(4,.b true)],[],[999]⟩)
    (True ∧ True)
    ⟨tt,tt⟩ ?_
   refine W.ret (thenQ_ret ?_)
   exact endQ_ret (.b true) (by kernel_rfl) (@cast (Sv (.bool true)) _ (by kernel_rfl) rfl)
  ·intro n20
   have hn := sz_ok n20
   have htot : totSS (ordersBy s h (ownF h)) ≤ 1000000 := by_tot
   have hcnt : (ordersBy s h (ownF h)).length ≤ 46656 := by_count
   refine W.skip (thenQ_normal ?_)
   refine Kk cok tab5 hnt [] [0,1,6] (⟨[(0,.v (.string s)),(1,.sl (.calls h)),(6,.sl (.intss (ordersBy s h (ownF h))))],[],[23,999]⟩)
    (True ∧ True ∧ ((True ∧ (True ∧ True) ∧ (h.length ≤ 1048576)) ∧ (h.length = h.length)) ∧ (True ∧ (True ∧ True ∧ True) ∧ True) ∧ True ∧ True)
    ⟨tt,tt,⟨⟨tt,⟨tt,tt⟩,(by omega)⟩,rfl⟩,⟨tt,⟨tt,tt,tt⟩,tt⟩,tt,tt⟩ ?_
   refine Kk cok tab5 hnt [26] [0,1,6,7] (⟨[(0,.v (.string s)),(1,.sl (.calls h)),(6,.sl (.intss (ordersBy s h (ownF h)))),(7,.own 26 h.length)],[(26,⟨46,.row (.calls h)⟩)],[26,23,999]⟩)
    (True ∧ (True ∧ (True ∧ True) ∧ (h.length ≤ 1048576)) ∧ True ∧ True)
    ⟨tt,⟨tt,⟨tt,tt⟩,(by omega)⟩,tt,tt⟩ ?_
   refine W.seq (W.wi ?_)
   refine WI.runT cok tab5 hnt [] 2 2 (⟨[(0,.v (.string s)),(1,.sl (.calls h)),(6,.sl (.intss (ordersBy s h (ownF h)))),(7,.own 26 h.length),(27,.v (.string s)),(28,.own 26 h.length)],[(26,⟨46,.row (.calls h)⟩)],[26,23,999]⟩)
    (True ∧ True ∧ True) (by kernel_rfl) rfl
    ⟨tt,tt,tt⟩ ?_
   refine WI.callV [.o,.s .calls] [.v (.string s),.own 26 h.length] [.v (.string s),.sl (.calls h)] [26] (True ∧ ((True ∧ (h.length = h.length)) ∧ True)) 29 (List.length (ordersBy s h (ownF h))) 23 3 (ordersBy s h (ownF h)) (hok22g s h trivial) (by rintro r1 s1 u1 ⟨rfl,rfl,rfl⟩; exact ⟨rfl,rfl⟩) ent22g hnt rfl rfl (wanted_none rfl) (by kernel_rfl) rfl (by kernel_rfl) ⟨tt,⟨tt,rfl⟩,tt⟩ rfl (by kernel_rfl) ?_
   refine WI.to (⟨[(0,.v (.string s)),(1,.sl (.calls h)),(6,.sl (.intss (ordersBy s h (ownF h)))),(7,.own 26 h.length),(27,.v (.string s)),(28,.own 26 h.length),(29,.og 29 (List.length (ordersBy s h (ownF h))))],[(26,⟨46,.row (.calls h)⟩),(29,⟨23,.grp (ordersBy s h (ownF h)) 3 none⟩)],[29,26,23,999]⟩) 3 (by kernel_rfl) rfl ?_
   refine WI.runT cok tab5 hnt [] 1 4 (⟨[(0,.v (.string s)),(1,.sl (.calls h)),(6,.sl (.intss (ordersBy s h (ownF h)))),(7,.own 26 h.length),(8,.og 29 (List.length (ordersBy s h (ownF h)))),(27,.v (.string s)),(28,.own 26 h.length),(29,.og 29 (List.length (ordersBy s h (ownF h))))],[(26,⟨46,.row (.calls h)⟩),(29,⟨23,.grp (ordersBy s h (ownF h)) 3 none⟩)],[29,26,23,999]⟩)
    (True ∧ True) (by kernel_rfl) rfl
    ⟨tt,tt⟩ ?_
   refine WI.nil rfl (thenQ_normal ?_)
   refine W.keepE [0,1,6,7,8] [(0,.v (.string s)),(1,.sl (.calls h)),(6,.sl (.intss (ordersBy s h (ownF h)))),(7,.own 26 h.length),(8,.og 29 (List.length (ordersBy s h (ownF h))))] (by kernel_rfl) ?_
   refine W.to (⟨[(0,.v (.string s)),(1,.sl (.calls h)),(6,.sl (.intss (ordersBy s h (ownF h)))),(7,.own 26 h.length),(8,.og 29 (List.length (ordersBy s h (ownF h))))],[(26,⟨46,.row (.calls h)⟩),(29,⟨23,.grp (ordersBy s h (ownF h)) 3 none⟩)],[29,26,23,999]⟩) rfl ?_
   refine W.seq ?_
   refine Kk cok tab5 hnt [] [0,1,6,7,8,33] (⟨[(0,.v (.string s)),(1,.sl (.calls h)),(6,.sl (.intss (ordersBy s h (ownF h)))),(7,.own 26 h.length),(8,.og 29 (List.length (ordersBy s h (ownF h)))),(33,.b (!(decide ((ordersBy s h (ownF h)) = (ordersBy s h (ownF h))))))],[(26,⟨46,.row (.calls h)⟩),(29,⟨23,.grp (ordersBy s h (ownF h)) 3 none⟩)],[29,26,23,999]⟩)
    (True ∧ True ∧ (True ∧ ((True ∧ ((List.length (ordersBy s h (ownF h))) = (List.length (ordersBy s h (ownF h))))) ∧ True ∧ True) ∧ True) ∧ True ∧ True)
    ⟨tt,tt,⟨tt,⟨⟨tt,rfl⟩,tt,tt⟩,tt⟩,tt,tt⟩ ?_
   refine W.if' (!(decide ((ordersBy s h (ownF h)) = (ordersBy s h (ownF h))))) (.b (!(decide ((ordersBy s h (ownF h)) = (ordersBy s h (ownF h)))))) (by kernel_rfl) rfl trivial ?_ ?_
   ·intro h33
    refine Kk cok tab5 hnt [] [4] (⟨[(4,.b false)],[(26,⟨46,.row (.calls h)⟩),(29,⟨23,.grp (ordersBy s h (ownF h)) 3 none⟩)],[29,26,23,999]⟩)
     (True ∧ True)
     ⟨tt,tt⟩ ?_
    refine W.ret (thenQ_ret ?_)
    exact endQ_ret (.b false) (by kernel_rfl) (@cast ((.bool false : Value) = .bool true) _ (by kernel_rfl) (congrArg Value.bool (by exfalso; simp at h33)))
   ·intro n33
    refine W.skip (thenQ_normal ?_)
    refine W.seq ?_
    refine Kk cok tab5 hnt [] [0,1,6,7,8,38] (⟨[(0,.v (.string s)),(1,.sl (.calls h)),(6,.sl (.intss (ordersBy s h (ownF h)))),(7,.own 26 h.length),(8,.og 29 (List.length (ordersBy s h (ownF h)))),(38,.b (!(decide (h = h))))],[(26,⟨46,.row (.calls h)⟩),(29,⟨23,.grp (ordersBy s h (ownF h)) 3 none⟩)],[36,29,26,23,999]⟩)
     (True ∧ True ∧ ((True ∧ (True ∧ True) ∧ (h.length ≤ 1048576)) ∧ (h.length = h.length)) ∧ (True ∧ ((True ∧ (h.length = h.length)) ∧ True ∧ True) ∧ True) ∧ True ∧ True)
     ⟨tt,tt,⟨⟨tt,⟨tt,tt⟩,(by omega)⟩,rfl⟩,⟨tt,⟨⟨tt,rfl⟩,tt,tt⟩,tt⟩,tt,tt⟩ ?_
    refine W.if' (!(decide (h = h))) (.b (!(decide (h = h)))) (by kernel_rfl) rfl trivial ?_ ?_
    ·intro h38
     refine Kk cok tab5 hnt [] [4] (⟨[(4,.b false)],[(26,⟨46,.row (.calls h)⟩),(29,⟨23,.grp (ordersBy s h (ownF h)) 3 none⟩)],[36,29,26,23,999]⟩)
      (True ∧ True)
      ⟨tt,tt⟩ ?_
     refine W.ret (thenQ_ret ?_)
     exact endQ_ret (.b false) (by kernel_rfl) (@cast ((.bool false : Value) = .bool true) _ (by kernel_rfl) (congrArg Value.bool (by exfalso; simp at h38)))
    ·intro n38
     refine W.skip (thenQ_normal ?_)
     refine Kk cok tab5 hnt [] [0,1,6,7,8,9] (⟨[(0,.v (.string s)),(1,.sl (.calls h)),(6,.sl (.intss (ordersBy s h (ownF h)))),(7,.own 26 h.length),(8,.og 29 (List.length (ordersBy s h (ownF h)))),(9,.i (1 : Int))],[(26,⟨46,.row (.calls h)⟩),(29,⟨23,.grp (ordersBy s h (ownF h)) 3 none⟩)],[36,29,26,23,999]⟩)
      (True ∧ True)
      ⟨tt,tt⟩ ?_
     refine Kk cok tab5 hnt [] [0,1,6,8,9] (⟨[(0,.v (.string s)),(1,.sl (.calls h)),(6,.sl (.intss (ordersBy s h (ownF h)))),(8,.og 29 (List.length (ordersBy s h (ownF h)))),(9,.i ((1 : Int) + 7 * (h.length : Int)))],[(29,⟨23,.grp (ordersBy s h (ownF h)) 3 none⟩)],[36,29,26,23,999]⟩)
      (True ∧ True ∧ (True ∧ ((True ∧ (h.length = h.length)) ∧ True ∧ True) ∧ (h.length ≤ 2000000) ∧ 0 ≤ (1 : Int) ∧ (1 : Int) ≤ 1000000000) ∧ True ∧ True)
      ⟨tt,tt,⟨tt,⟨⟨tt,rfl⟩,tt,tt⟩,(by omega),(by omega)⟩,tt,tt⟩ ?_
     refine W.seq ?_
     refine Kk cok tab5 hnt [] [0,1,6,8,49] (⟨[(0,.v (.string s)),(1,.sl (.calls h)),(6,.sl (.intss (ordersBy s h (ownF h)))),(8,.og 29 (List.length (ordersBy s h (ownF h)))),(49,.b ((decide (((1 : Int) + 7 * (h.length : Int)) < (0 : Int))) || (!(decide ((ordersBy s h (ownF h)) = (ordersBy s h (ownF h)))))))],[(29,⟨23,.grp (ordersBy s h (ownF h)) 3 none⟩)],[36,29,26,23,999]⟩)
      ((fun (Z1:Bool)=>(True ∧ ((True ∧ (True ∧ True)) ∧ (True ∧ (((!Z1) = true → True) ∧ (((!Z1) = true → True) ∧ (((!Z1) = true → (True ∧ ((((((!Z1) = true) ∧ True) ∧ ((List.length (ordersBy s h (ownF h))) = (List.length (ordersBy s h (ownF h))))) ∧ ((((!Z1) = true) ∧ True) ∧ True)) ∧ True))) ∧ (((!Z1) = true → (((!Z1) = true) ∧ True)) ∧ ((True ∧ ((Z1 = true → True) ∧ (Z1 = false → ((!Z1) = true) ∧ True))) ∧ True))))))))) (decide (((1 : Int) + 7 * (h.length : Int)) < (0 : Int))))
      ⟨tt,⟨tt,tt,tt⟩,tt,(fun _ => trivial),(fun _ => trivial),(fun hG => ⟨tt,⟨⟨⟨hG,tt⟩,rfl⟩,⟨hG,tt⟩,tt⟩,tt⟩),(fun hG => ⟨hG,tt⟩),⟨tt,(fun _ => trivial),(fun hp => ⟨(not_t hp),tt⟩)⟩,tt⟩ ?_
     refine W.if' ((decide (((1 : Int) + 7 * (h.length : Int)) < (0 : Int))) || (!(decide ((ordersBy s h (ownF h)) = (ordersBy s h (ownF h)))))) (.b ((decide (((1 : Int) + 7 * (h.length : Int)) < (0 : Int))) || (!(decide ((ordersBy s h (ownF h)) = (ordersBy s h (ownF h))))))) (by kernel_rfl) rfl trivial ?_ ?_
     ·intro h49
      refine Kk cok tab5 hnt [] [4] (⟨[(4,.b false)],[(29,⟨23,.grp (ordersBy s h (ownF h)) 3 none⟩)],[36,29,26,23,999]⟩)
       (True ∧ True)
       ⟨tt,tt⟩ ?_
      refine W.ret (thenQ_ret ?_)
      exact endQ_ret (.b false) (by kernel_rfl) (@cast ((.bool false : Value) = .bool true) _ (by kernel_rfl) (congrArg Value.bool (by exfalso; simp at h49; omega)))
     ·intro n49
      have n49_0 : ¬ (((1 : Int) + 7 * (h.length : Int)) < (0 : Int)) := of_decide_eq_false (or_l n49)
      refine W.skip (thenQ_normal ?_)
      refine Kk cok tab5 hnt [] [0,1,6,8,10] (⟨[(0,.v (.string s)),(1,.sl (.calls h)),(6,.sl (.intss (ordersBy s h (ownF h)))),(8,.og 29 (List.length (ordersBy s h (ownF h)))),(10,.i (1 : Int))],[(29,⟨23,.grp (ordersBy s h (ownF h)) 3 none⟩)],[36,29,26,23,999]⟩)
       (True ∧ True)
       ⟨tt,tt⟩ ?_
      refine W.seq (W.wi ?_)
      refine WI.runT cok tab5 hnt [] 2 2 (⟨[(0,.v (.string s)),(1,.sl (.calls h)),(6,.sl (.intss (ordersBy s h (ownF h)))),(8,.og 29 (List.length (ordersBy s h (ownF h)))),(10,.i (1 : Int)),(50,.og 29 (List.length (ordersBy s h (ownF h)))),(51,.i (1 : Int))],[(29,⟨23,.grp (ordersBy s h (ownF h)) 3 none⟩)],[36,29,26,23,999]⟩)
       (True ∧ True ∧ True) (by kernel_rfl) rfl
       ⟨tt,tt,tt⟩ ?_
      refine WI.callH _ [.og 29 (List.length (ordersBy s h (ownF h))),.i (1 : Int)] [] (.fn 19 []) _ _ [(911,29)] (hok19 (ordersBy s h (ownF h)) (1 : Int) ⟨(by (try rw [totSS_mark]); omega),(by omega),(by omega)⟩) ent19 hnt rfl rfl (wanted_none rfl) (by kernel_rfl) (by kernel_rfl) trivial (by kernel_rfl) (by kernel_rfl) (by kernel_rfl) (@cast (((some ⟨23,.grp (ordersBy s h (ownF h)) 3 none⟩ : Option LB) = some ⟨23,.grp (ordersBy s h (ownF h)) 3 none⟩) ∧ (true = true) ∧ (True)) _ (by kernel_rfl) ⟨rfl,rfl,tt⟩) (by kernel_rfl) rfl ?_
      rintro r s1 u1 ⟨rfl,rfl,rfl⟩
      refine ⟨[(911,29)],by kernel_rfl,WI.to (⟨[(0,.v (.string s)),(1,.sl (.calls h)),(6,.sl (.intss (ordersBy s h (ownF h)))),(8,.og 29 (List.length (ordersBy s h (ownF h)))),(10,.i (1 : Int)),(50,.og 29 (List.length (ordersBy s h (ownF h)))),(51,.i (1 : Int)),(52,.i ((1 : Int) + ((totSS (ordersBy s h (ownF h)) : Nat) : Int)))],[(29,⟨23,.grp (markSS (ordersBy s h (ownF h)) (1 : Int)) 3 none⟩)],[36,29,26,23,999]⟩) 3 (by kernel_rfl) rfl ?_⟩
      refine WI.runT cok tab5 hnt [] 1 4 (⟨[(0,.v (.string s)),(1,.sl (.calls h)),(6,.sl (.intss (ordersBy s h (ownF h)))),(8,.og 29 (List.length (ordersBy s h (ownF h)))),(10,.i ((1 : Int) + ((totSS (ordersBy s h (ownF h)) : Nat) : Int))),(50,.og 29 (List.length (ordersBy s h (ownF h)))),(51,.i (1 : Int)),(52,.i ((1 : Int) + ((totSS (ordersBy s h (ownF h)) : Nat) : Int)))],[(29,⟨23,.grp (markSS (ordersBy s h (ownF h)) (1 : Int)) 3 none⟩)],[36,29,26,23,999]⟩)
       (True ∧ True) (by kernel_rfl) rfl
       ⟨tt,tt⟩ ?_
      refine WI.nil rfl (thenQ_normal ?_)
      refine W.keepE [0,1,6,8,10] [(0,.v (.string s)),(1,.sl (.calls h)),(6,.sl (.intss (ordersBy s h (ownF h)))),(8,.og 29 (List.length (ordersBy s h (ownF h)))),(10,.i ((1 : Int) + ((totSS (ordersBy s h (ownF h)) : Nat) : Int)))] (by kernel_rfl) ?_
      refine W.to (⟨[(0,.v (.string s)),(1,.sl (.calls h)),(6,.sl (.intss (ordersBy s h (ownF h)))),(8,.og 29 (List.length (ordersBy s h (ownF h)))),(10,.i ((1 : Int) + ((totSS (ordersBy s h (ownF h)) : Nat) : Int)))],[(29,⟨23,.grp (markSS (ordersBy s h (ownF h)) (1 : Int)) 3 none⟩)],[36,29,26,23,999]⟩) rfl ?_
      refine Kk cok tab5 hnt [] [0,1,6,8,10,11] (⟨[(0,.v (.string s)),(1,.sl (.calls h)),(6,.sl (.intss (ordersBy s h (ownF h)))),(8,.og 29 (List.length (ordersBy s h (ownF h)))),(10,.i ((1 : Int) + ((totSS (ordersBy s h (ownF h)) : Nat) : Int))),(11,.i (1 : Int))],[(29,⟨23,.grp (markSS (ordersBy s h (ownF h)) (1 : Int)) 3 none⟩)],[36,29,26,23,999]⟩)
       (True ∧ True)
       ⟨tt,tt⟩ ?_
      refine Kk cok tab5 hnt [] [0,1,6,8,10,11] (⟨[(0,.v (.string s)),(1,.sl (.calls h)),(6,.sl (.intss (ordersBy s h (ownF h)))),(8,.og 29 (List.length (ordersBy s h (ownF h)))),(10,.i ((1 : Int) + ((totSS (ordersBy s h (ownF h)) : Nat) : Int))),(11,.i (heldSS (markSS (ordersBy s h (ownF h)) (1 : Int)) (1 : Int)))],[(29,⟨23,.grp (markSS (ordersBy s h (ownF h)) (1 : Int)) 3 none⟩)],[36,29,26,23,999]⟩)
       (True ∧ True ∧ (True ∧ ((True ∧ ((List.length (ordersBy s h (ownF h))) = (List.length (markSS (ordersBy s h (ownF h)) (1 : Int))))) ∧ True ∧ True) ∧ (totSS (markSS (ordersBy s h (ownF h)) (1 : Int)) ≤ 1000000) ∧ 0 ≤ (1 : Int) ∧ (1 : Int) ≤ 1000) ∧ True ∧ True)
       ⟨tt,tt,⟨tt,⟨⟨tt,(by exact (markSS_len _ _).symm)⟩,tt,tt⟩,(by (try rw [totSS_mark]); omega),(by omega)⟩,tt,tt⟩ ?_
      refine W.seq ?_
      refine Kk cok tab5 hnt [] [0,1,6,8,10,11,57] (⟨[(0,.v (.string s)),(1,.sl (.calls h)),(6,.sl (.intss (ordersBy s h (ownF h)))),(8,.og 29 (List.length (ordersBy s h (ownF h)))),(10,.i ((1 : Int) + ((totSS (ordersBy s h (ownF h)) : Nat) : Int))),(11,.i (heldSS (markSS (ordersBy s h (ownF h)) (1 : Int)) (1 : Int))),(57,.b (decide ((heldSS (markSS (ordersBy s h (ownF h)) (1 : Int)) (1 : Int)) < (0 : Int))))],[(29,⟨23,.grp (markSS (ordersBy s h (ownF h)) (1 : Int)) 3 none⟩)],[36,29,26,23,999]⟩)
       (True ∧ (True ∧ True ∧ True) ∧ True)
       ⟨tt,⟨tt,tt,tt⟩,tt⟩ ?_
      refine W.ifP ((heldSS (markSS (ordersBy s h (ownF h)) (1 : Int)) (1 : Int)) < (0 : Int)) (.b (decide ((heldSS (markSS (ordersBy s h (ownF h)) (1 : Int)) (1 : Int)) < (0 : Int)))) (by kernel_rfl) rfl trivial ?_ ?_
      ·intro h57
       refine Kk cok tab5 hnt [] [4] (⟨[(4,.b false)],[(29,⟨23,.grp (markSS (ordersBy s h (ownF h)) (1 : Int)) 3 none⟩)],[36,29,26,23,999]⟩)
        (True ∧ True)
        ⟨tt,tt⟩ ?_
       refine W.ret (thenQ_ret ?_)
       exact endQ_ret (.b false) (by kernel_rfl) (@cast ((.bool false : Value) = .bool true) _ (by kernel_rfl) (congrArg Value.bool (by exfalso; rw [heldSS_mark _ _ (by omega)] at h57; omega)))
      ·intro n57
       refine W.skip (thenQ_normal ?_)
       refine W.seq ?_
       refine Kk cok tab5 hnt [] [0,1,6,8,10,60] (⟨[(0,.v (.string s)),(1,.sl (.calls h)),(6,.sl (.intss (ordersBy s h (ownF h)))),(8,.og 29 (List.length (ordersBy s h (ownF h)))),(10,.i ((1 : Int) + ((totSS (ordersBy s h (ownF h)) : Nat) : Int))),(60,.b (decide ((heldSS (markSS (ordersBy s h (ownF h)) (1 : Int)) (1 : Int)) ≠ ((1 : Int) + ((totSS (ordersBy s h (ownF h)) : Nat) : Int)))))],[(29,⟨23,.grp (markSS (ordersBy s h (ownF h)) (1 : Int)) 3 none⟩)],[36,29,26,23,999]⟩)
        (True ∧ True ∧ (True ∧ True ∧ True) ∧ True)
        ⟨tt,tt,⟨tt,tt,tt⟩,tt⟩ ?_
       refine W.ifP ((heldSS (markSS (ordersBy s h (ownF h)) (1 : Int)) (1 : Int)) ≠ ((1 : Int) + ((totSS (ordersBy s h (ownF h)) : Nat) : Int))) (.b (decide ((heldSS (markSS (ordersBy s h (ownF h)) (1 : Int)) (1 : Int)) ≠ ((1 : Int) + ((totSS (ordersBy s h (ownF h)) : Nat) : Int))))) (by kernel_rfl) rfl trivial ?_ ?_
       ·intro h60
        refine Kk cok tab5 hnt [] [4] (⟨[(4,.b false)],[(29,⟨23,.grp (markSS (ordersBy s h (ownF h)) (1 : Int)) 3 none⟩)],[36,29,26,23,999]⟩)
         (True ∧ True)
         ⟨tt,tt⟩ ?_
        refine W.ret (thenQ_ret ?_)
        exact endQ_ret (.b false) (by kernel_rfl) (@cast ((.bool false : Value) = .bool true) _ (by kernel_rfl) (congrArg Value.bool (by exfalso; rw [heldSS_mark _ _ (by omega)] at h60; omega)))
       ·intro n60
        refine W.skip (thenQ_normal ?_)
        refine W.seq (W.wi ?_)
        refine WI.runT cok tab5 hnt [] 3 3 (⟨[(0,.v (.string s)),(1,.sl (.calls h)),(6,.sl (.intss (ordersBy s h (ownF h)))),(8,.og 29 (List.length (ordersBy s h (ownF h)))),(10,.i ((1 : Int) + ((totSS (ordersBy s h (ownF h)) : Nat) : Int))),(60,.b (decide ((heldSS (markSS (ordersBy s h (ownF h)) (1 : Int)) (1 : Int)) ≠ ((1 : Int) + ((totSS (ordersBy s h (ownF h)) : Nat) : Int))))),(61,.v (.string s)),(62,.sl (.calls h)),(63,.sl (.calls h))],[(29,⟨23,.grp (markSS (ordersBy s h (ownF h)) (1 : Int)) 3 none⟩)],[63,36,29,26,23,999]⟩)
         (True ∧ True ∧ ((True ∧ (True ∧ True) ∧ (h.length ≤ 1048576)) ∧ (h.length = h.length)) ∧ True) (by kernel_rfl) rfl
         ⟨tt,tt,⟨⟨tt,⟨tt,tt⟩,(by omega)⟩,rfl⟩,tt⟩ ?_
        refine WI.callV [.o,.s .calls] [.v (.string s),.sl (.calls h)] [.v (.string s),.sl (.calls h)] [] (True ∧ (True ∧ True)) 64 (List.length (ordersBy s h (ownF h))) 23 3 (ordersBy s h (ownF h)) (hok22g s h trivial) (by rintro r1 s1 u1 ⟨rfl,rfl,rfl⟩; exact ⟨rfl,rfl⟩) ent22g hnt rfl rfl (wanted_none rfl) (by kernel_rfl) rfl (by kernel_rfl) ⟨tt,tt,tt⟩ rfl (by kernel_rfl) ?_
        refine WI.to (⟨[(0,.v (.string s)),(1,.sl (.calls h)),(6,.sl (.intss (ordersBy s h (ownF h)))),(8,.og 29 (List.length (ordersBy s h (ownF h)))),(10,.i ((1 : Int) + ((totSS (ordersBy s h (ownF h)) : Nat) : Int))),(60,.b (decide ((heldSS (markSS (ordersBy s h (ownF h)) (1 : Int)) (1 : Int)) ≠ ((1 : Int) + ((totSS (ordersBy s h (ownF h)) : Nat) : Int))))),(61,.v (.string s)),(62,.sl (.calls h)),(63,.sl (.calls h)),(64,.og 64 (List.length (ordersBy s h (ownF h))))],[(29,⟨23,.grp (markSS (ordersBy s h (ownF h)) (1 : Int)) 3 none⟩),(64,⟨23,.grp (ordersBy s h (ownF h)) 3 none⟩)],[64,63,36,29,26,23,999]⟩) 4 (by kernel_rfl) rfl ?_
        refine WI.runT cok tab5 hnt [] 1 5 (⟨[(0,.v (.string s)),(1,.sl (.calls h)),(6,.sl (.intss (ordersBy s h (ownF h)))),(8,.og 29 (List.length (ordersBy s h (ownF h)))),(10,.i ((1 : Int) + ((totSS (ordersBy s h (ownF h)) : Nat) : Int))),(12,.og 64 (List.length (ordersBy s h (ownF h)))),(60,.b (decide ((heldSS (markSS (ordersBy s h (ownF h)) (1 : Int)) (1 : Int)) ≠ ((1 : Int) + ((totSS (ordersBy s h (ownF h)) : Nat) : Int))))),(61,.v (.string s)),(62,.sl (.calls h)),(63,.sl (.calls h)),(64,.og 64 (List.length (ordersBy s h (ownF h))))],[(29,⟨23,.grp (markSS (ordersBy s h (ownF h)) (1 : Int)) 3 none⟩),(64,⟨23,.grp (ordersBy s h (ownF h)) 3 none⟩)],[64,63,36,29,26,23,999]⟩)
         (True ∧ True) (by kernel_rfl) rfl
         ⟨tt,tt⟩ ?_
        refine WI.nil rfl (thenQ_normal ?_)
        refine W.keepE [6,8,10,12] [(6,.sl (.intss (ordersBy s h (ownF h)))),(8,.og 29 (List.length (ordersBy s h (ownF h)))),(10,.i ((1 : Int) + ((totSS (ordersBy s h (ownF h)) : Nat) : Int))),(12,.og 64 (List.length (ordersBy s h (ownF h))))] (by kernel_rfl) ?_
        refine W.to (⟨[(6,.sl (.intss (ordersBy s h (ownF h)))),(8,.og 29 (List.length (ordersBy s h (ownF h)))),(10,.i ((1 : Int) + ((totSS (ordersBy s h (ownF h)) : Nat) : Int))),(12,.og 64 (List.length (ordersBy s h (ownF h))))],[(29,⟨23,.grp (markSS (ordersBy s h (ownF h)) (1 : Int)) 3 none⟩),(64,⟨23,.grp (ordersBy s h (ownF h)) 3 none⟩)],[64,63,36,29,26,23,999]⟩) rfl ?_
        refine W.seq ?_
        refine Kk cok tab5 hnt [] [8,10,68] (⟨[(8,.og 29 (List.length (ordersBy s h (ownF h)))),(10,.i ((1 : Int) + ((totSS (ordersBy s h (ownF h)) : Nat) : Int))),(68,.b (!(decide ((ordersBy s h (ownF h)) = (ordersBy s h (ownF h))))))],[(29,⟨23,.grp (markSS (ordersBy s h (ownF h)) (1 : Int)) 3 none⟩),(64,⟨23,.grp (ordersBy s h (ownF h)) 3 none⟩)],[64,63,36,29,26,23,999]⟩)
         (True ∧ True ∧ (True ∧ ((True ∧ ((List.length (ordersBy s h (ownF h))) = (List.length (ordersBy s h (ownF h))))) ∧ True ∧ True) ∧ True) ∧ True ∧ True)
         ⟨tt,tt,⟨tt,⟨⟨tt,rfl⟩,tt,tt⟩,tt⟩,tt,tt⟩ ?_
        refine W.if' (!(decide ((ordersBy s h (ownF h)) = (ordersBy s h (ownF h))))) (.b (!(decide ((ordersBy s h (ownF h)) = (ordersBy s h (ownF h)))))) (by kernel_rfl) rfl trivial ?_ ?_
        ·intro h68
         refine Kk cok tab5 hnt [] [4] (⟨[(4,.b false)],[(29,⟨23,.grp (markSS (ordersBy s h (ownF h)) (1 : Int)) 3 none⟩),(64,⟨23,.grp (ordersBy s h (ownF h)) 3 none⟩)],[64,63,36,29,26,23,999]⟩)
          (True ∧ True)
          ⟨tt,tt⟩ ?_
         refine W.ret (thenQ_ret ?_)
         exact endQ_ret (.b false) (by kernel_rfl) (@cast ((.bool false : Value) = .bool true) _ (by kernel_rfl) (congrArg Value.bool (by exfalso; simp at h68)))
        ·intro n68
         refine W.skip (thenQ_normal ?_)
         refine Kk cok tab5 hnt [] [8,10,11] (⟨[(8,.og 29 (List.length (ordersBy s h (ownF h)))),(10,.i ((1 : Int) + ((totSS (ordersBy s h (ownF h)) : Nat) : Int))),(11,.i (1 : Int))],[(29,⟨23,.grp (markSS (ordersBy s h (ownF h)) (1 : Int)) 3 none⟩),(64,⟨23,.grp (ordersBy s h (ownF h)) 3 none⟩)],[64,63,36,29,26,23,999]⟩)
          (True ∧ True)
          ⟨tt,tt⟩ ?_
         refine Kk cok tab5 hnt [] [10,11] (⟨[(10,.i ((1 : Int) + ((totSS (ordersBy s h (ownF h)) : Nat) : Int))),(11,.i (heldSS (markSS (ordersBy s h (ownF h)) (1 : Int)) (1 : Int)))],[(29,⟨23,.grp (markSS (ordersBy s h (ownF h)) (1 : Int)) 3 none⟩),(64,⟨23,.grp (ordersBy s h (ownF h)) 3 none⟩)],[64,63,36,29,26,23,999]⟩)
          (True ∧ True ∧ (True ∧ ((True ∧ ((List.length (ordersBy s h (ownF h))) = (List.length (markSS (ordersBy s h (ownF h)) (1 : Int))))) ∧ True ∧ True) ∧ (totSS (markSS (ordersBy s h (ownF h)) (1 : Int)) ≤ 1000000) ∧ 0 ≤ (1 : Int) ∧ (1 : Int) ≤ 1000) ∧ True ∧ True)
          ⟨tt,tt,⟨tt,⟨⟨tt,(by exact (markSS_len _ _).symm)⟩,tt,tt⟩,(by (try rw [totSS_mark]); omega),(by omega)⟩,tt,tt⟩ ?_
         refine W.seq ?_
         refine Kk cok tab5 hnt [] [10,11,73] (⟨[(10,.i ((1 : Int) + ((totSS (ordersBy s h (ownF h)) : Nat) : Int))),(11,.i (heldSS (markSS (ordersBy s h (ownF h)) (1 : Int)) (1 : Int))),(73,.b (decide ((heldSS (markSS (ordersBy s h (ownF h)) (1 : Int)) (1 : Int)) < (0 : Int))))],[(29,⟨23,.grp (markSS (ordersBy s h (ownF h)) (1 : Int)) 3 none⟩),(64,⟨23,.grp (ordersBy s h (ownF h)) 3 none⟩)],[64,63,36,29,26,23,999]⟩)
          (True ∧ (True ∧ True ∧ True) ∧ True)
          ⟨tt,⟨tt,tt,tt⟩,tt⟩ ?_
         refine W.ifP ((heldSS (markSS (ordersBy s h (ownF h)) (1 : Int)) (1 : Int)) < (0 : Int)) (.b (decide ((heldSS (markSS (ordersBy s h (ownF h)) (1 : Int)) (1 : Int)) < (0 : Int)))) (by kernel_rfl) rfl trivial ?_ ?_
         ·intro h73
          refine Kk cok tab5 hnt [] [4] (⟨[(4,.b false)],[(29,⟨23,.grp (markSS (ordersBy s h (ownF h)) (1 : Int)) 3 none⟩),(64,⟨23,.grp (ordersBy s h (ownF h)) 3 none⟩)],[64,63,36,29,26,23,999]⟩)
           (True ∧ True)
           ⟨tt,tt⟩ ?_
          refine W.ret (thenQ_ret ?_)
          exact endQ_ret (.b false) (by kernel_rfl) (@cast ((.bool false : Value) = .bool true) _ (by kernel_rfl) (congrArg Value.bool (by exfalso; rw [heldSS_mark _ _ (by omega)] at h73; omega)))
         ·intro n73
          refine W.skip (thenQ_normal ?_)
          refine W.seq ?_
          refine Kk cok tab5 hnt [] [76] (⟨[(76,.b (decide ((heldSS (markSS (ordersBy s h (ownF h)) (1 : Int)) (1 : Int)) ≠ ((1 : Int) + ((totSS (ordersBy s h (ownF h)) : Nat) : Int)))))],[(29,⟨23,.grp (markSS (ordersBy s h (ownF h)) (1 : Int)) 3 none⟩),(64,⟨23,.grp (ordersBy s h (ownF h)) 3 none⟩)],[64,63,36,29,26,23,999]⟩)
           (True ∧ True ∧ (True ∧ True ∧ True) ∧ True)
           ⟨tt,tt,⟨tt,tt,tt⟩,tt⟩ ?_
          refine W.ifP ((heldSS (markSS (ordersBy s h (ownF h)) (1 : Int)) (1 : Int)) ≠ ((1 : Int) + ((totSS (ordersBy s h (ownF h)) : Nat) : Int))) (.b (decide ((heldSS (markSS (ordersBy s h (ownF h)) (1 : Int)) (1 : Int)) ≠ ((1 : Int) + ((totSS (ordersBy s h (ownF h)) : Nat) : Int))))) (by kernel_rfl) rfl trivial ?_ ?_
          ·intro h76
           refine Kk cok tab5 hnt [] [4] (⟨[(4,.b false)],[(29,⟨23,.grp (markSS (ordersBy s h (ownF h)) (1 : Int)) 3 none⟩),(64,⟨23,.grp (ordersBy s h (ownF h)) 3 none⟩)],[64,63,36,29,26,23,999]⟩)
            (True ∧ True)
            ⟨tt,tt⟩ ?_
           refine W.ret (thenQ_ret ?_)
           exact endQ_ret (.b false) (by kernel_rfl) (@cast ((.bool false : Value) = .bool true) _ (by kernel_rfl) (congrArg Value.bool (by exfalso; rw [heldSS_mark _ _ (by omega)] at h76; omega)))
          ·intro n76
           refine W.skip (thenQ_normal ?_)
           refine Kk cok tab5 hnt [] [4] (⟨[(4,.b true)],[(29,⟨23,.grp (markSS (ordersBy s h (ownF h)) (1 : Int)) 3 none⟩),(64,⟨23,.grp (ordersBy s h (ownF h)) 3 none⟩)],[64,63,36,29,26,23,999]⟩)
            (True ∧ True)
            ⟨tt,tt⟩ ?_
           refine W.ret ?_
           exact endQ_ret (.b true) (by kernel_rfl) (@cast (Sv (.bool true)) _ (by kernel_rfl) rfl)
end Go.Proofs.Try
