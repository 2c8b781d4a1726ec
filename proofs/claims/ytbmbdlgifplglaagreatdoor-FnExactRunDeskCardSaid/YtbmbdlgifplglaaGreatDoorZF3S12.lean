import Derived.Test.YtbmbdlgifplglaaGreatDoorZF3S0
import Derived.Test.YtbmbdlgifplglaaGreatDoorZF3S11
import Derived.Test.YtbmbdlgifplglaaGreatDoorZF3S1
import Derived.Test.YtbmbdlgifplglaaGreatDoorZF3S8
import Derived.Test.YtbmbdlgifplglaaGreatDoorZF3S9
set_option maxRecDepth 100000
set_option maxHeartbeats 1000000
set_option linter.unusedSimpArgs false
set_option linter.unusedVariables false
namespace Go.Proofs.Tryz
open Go.Ab Go.RowKit
def fs82QuietAhead : FnS := fnS [.o,.o] [.int,(.fn1 83 (.ep .calls))] (fun _ (n,h,_)=>(.sl (.ints (rowsOf n.toNat (quietF h))),[],(0≤n∧n≤60∧n=h.length)∧(validHistory h=true)))
abbrev T82QuietAhead : Tab := lk [(83,fs83)]
theorem tab82QuietAhead : TabOK prog T82QuietAhead := (TabOK.cons ok83 ent83 TabOK.nil)
theorem ok82QuietAhead : FnOK prog 82 fs82QuietAhead := by
 refine FnOK.mk cok func82 rfl rfl rfl ?_
 rintro fl ⟨(n:Int),(h : List CallD),_⟩ hpre F hnt0 _
 have hnt : F.nt=35 := hnt0.trans ntmps82
 replace hpre : (0≤n∧n≤60∧n=h.length)∧(validHistory h=true) := hpre
 obtain ⟨hn,hv⟩ := hpre
 refine W.to (⟨[(0,.i n),(1,.fn 83 [.ep [.sl (.calls h)]])],[],[999]⟩) rfl ?_
 refine Kk cok tab82QuietAhead hnt [] [0,1] (⟨[(0,.i n),(1,.fn 83 [.ep [.sl (.calls h)]])],[],[999]⟩)
  (Y∧Y)
  ⟨tt,tt⟩ ?_
 refine Kk cok tab82QuietAhead hnt [9] [0,1,5] (⟨[(0,.i n),(1,.fn 83 [.ep [.sl (.calls h)]]),(5,.own 9 (List.length (List.replicate (Int.toNat n) (0:Int))))],[(9,⟨3,.row (.ints (List.replicate (Int.toNat n) (0:Int)))⟩)],[9,999]⟩)
  (Y∧(Y∧Y∧(n=n)∧(0≤n)∧(n * 8≤281474976710656))∧Y∧Y)
  ⟨tt,⟨tt,tt,rfl,(by omega),(by omega)⟩,tt,tt⟩ ?_
 refine W.seq ?_
 refine Kk cok tab82QuietAhead hnt [] [0,1,5,11,12] (⟨[(0,.i n),(1,.fn 83 [.ep [.sl (.calls h)]]),(5,.own 9 (List.length (List.replicate (Int.toNat n) (0:Int)))),(11,.i (((List.length (List.replicate (Int.toNat n) (0:Int))):Nat):Int)),(12,.i (0:Int))],[(9,⟨3,.row (.ints (List.replicate (Int.toNat n) (0:Int)))⟩)],[9,999]⟩)
  (Y∧Y∧Y∧Y)
  ⟨tt,tt,tt,tt⟩ ?_
 refine W.block ?_
 refine W.loop (ι := Nat × (List Int)) (fun (x : Nat × (List Int))=>match x with | (i,o)=>(⟨[(0,.i n),(1,.fn 83 [.ep [.sl (.calls h)]]),(5,.own 9 o.length),(11,.i (((List.length (List.replicate (Int.toNat n) (0:Int))):Nat):Int)),(12,.i ((i:Nat):Int))],[(9,⟨3,.row (.ints o)⟩)],[9,999]⟩:St))
  (fun (x : Nat × (List Int))=>match x with | (i,o)=>(i≤n.toNat)∧(o=partRows n.toNat (quietF h) i 0))
  (fun (x : Nat × (List Int))=>match x with | (i,o)=>(n.toNat - i:Nat)) (0,(List.replicate (Int.toNat n) (0:Int))) ?_ ?_ ?_
 ·exact (show (0≤n.toNat)∧((List.replicate (Int.toNat n) (0:Int))=partRows n.toNat (quietF h) 0 0) from ⟨(by first | assumption | omega | rfl | (intro _ hjj; omega) | (simp; done) | (simp; omega)),(by exact partRows_zero _ _)⟩)
 ·exact Sub.of [] (@cast (((Si n)∧(((83:Nat)=83)∧(((.ep [.sl (.calls h)] : AV)=.ep [.sl (.calls h)])∧(([] : List Nat)=[]))∧Y)∧(((9:Nat)=9)∧((List.length (List.replicate (Int.toNat n) (0:Int)))=(List.length (List.replicate (Int.toNat n) (0:Int))))∧((9:Nat) ∈ ([9,999] : List Nat)))∧(Si (((List.length (List.replicate (Int.toNat n) (0:Int))):Nat):Int))∧((.int .i64 (0:Int):Value)=.int .i64 ((0:Nat):Int))∧Y)∧((((3:Nat)=3)∧(Sd (.ints (List.replicate (Int.toNat n) (0:Int))))∧((9:Nat) ∈ ([9,999] : List Nat)))∧Y)∧(true=true)∧(true=true)) _ (by kernel_rfl) ⟨⟨rfl,⟨rfl,⟨rfl,rfl⟩,tt⟩,⟨rfl,rfl,(by decide)⟩,rfl,(congrArg (Value.int .i64) (by first | rfl | omega | assumption | simp | simp_all)),tt⟩,⟨⟨rfl,rfl,(by decide)⟩,tt⟩,rfl,rfl⟩)
 ·rintro ⟨i,o⟩ hC0
  have hC : (i≤n.toNat)∧(o=partRows n.toNat (quietF h) i 0) := hC0
  clear hC0
  obtain ⟨hi,ho⟩ := hC
  refine W.to (⟨[(0,.i n),(1,.fn 83 [.ep [.sl (.calls h)]]),(5,.own 9 o.length),(11,.i (((List.length (List.replicate (Int.toNat n) (0:Int))):Nat):Int)),(12,.i ((i:Nat):Int))],[(9,⟨3,.row (.ints o)⟩)],[9,999]⟩) rfl ?_
  have hol : o.length=n.toNat := by rw [ho]; exact partRows_len _ _ _ _
  refine Kk cok tab82QuietAhead hnt [] [0,1,5,11,12,13] (⟨[(0,.i n),(1,.fn 83 [.ep [.sl (.calls h)]]),(5,.own 9 o.length),(11,.i (((List.length (List.replicate (Int.toNat n) (0:Int))):Nat):Int)),(12,.i ((i:Nat):Int)),(13,.b (decide (((i:Nat):Int)<(((List.length (List.replicate (Int.toNat n) (0:Int))):Nat):Int))))],[(9,⟨3,.row (.ints o)⟩)],[9,999]⟩)
   ((Y∧Y∧Y)∧Y)
   ⟨⟨tt,tt,tt⟩,tt⟩ ?_
  refine W.seq ?_
  refine W.ifP (((i:Nat):Int)<(((List.length (List.replicate (Int.toNat n) (0:Int))):Nat):Int)) (.b (decide (((i:Nat):Int)<(((List.length (List.replicate (Int.toNat n) (0:Int))):Nat):Int)))) (by kernel_rfl) rfl trivial ?_ ?_
  ·intro h13
   have h13' := h13
   simp only [ln] at h13'
   refine W.skip (thenQ_normal ?_)
   refine W.seq ?_
   refine W.block ?_
   refine Kk cok tab82QuietAhead hnt [] [0,1,5,6,11,12] (⟨[(0,.i n),(1,.fn 83 [.ep [.sl (.calls h)]]),(5,.own 9 o.length),(6,.i ((i:Nat):Int)),(11,.i (((List.length (List.replicate (Int.toNat n) (0:Int))):Nat):Int)),(12,.i ((i:Nat):Int))],[(9,⟨3,.row (.ints o)⟩)],[9,999]⟩)
    (Y∧Y∧Y)
    ⟨tt,tt,tt⟩ ?_
   refine Kk cok tab82QuietAhead hnt [] [0,1,5,6,11,12,15,16] (⟨[(0,.i n),(1,.fn 83 [.ep [.sl (.calls h)]]),(5,.own 9 o.length),(6,.i ((i:Nat):Int)),(11,.i (((List.length (List.replicate (Int.toNat n) (0:Int))):Nat):Int)),(12,.i ((i:Nat):Int)),(15,.i n),(16,.i (0:Int))],[(9,⟨3,.row (.ints o)⟩)],[9,999]⟩)
    (Y∧Y∧Y)
    ⟨tt,tt,tt⟩ ?_
   refine W.block ?_
   refine W.loop (ι := Nat × (List Int)) (fun (x : Nat × (List Int))=>match x with | (k,x)=>(⟨[(0,.i n),(1,.fn 83 [.ep [.sl (.calls h)]]),(5,.own 9 o.length),(6,.i ((i:Nat):Int)),(11,.i (((List.length (List.replicate (Int.toNat n) (0:Int))):Nat):Int)),(12,.i ((i:Nat):Int)),(15,.i n),(16,.i ((k:Nat):Int))],[(9,⟨3,.row (.ints x)⟩)],[9,999]⟩:St))
    (fun (x : Nat × (List Int))=>match x with | (k,x)=>(k≤n.toNat)∧(x=partRows n.toNat (quietF h) i k))
    (fun (x : Nat × (List Int))=>match x with | (k,x)=>(n.toNat - k:Nat)) (0,o) ?_ ?_ ?_
   ·exact (show (0≤n.toNat)∧(o=partRows n.toNat (quietF h) i 0) from ⟨(by first | assumption | omega | rfl | (intro _ hjj; omega) | (simp; done) | (simp; omega)),(by exact ho)⟩)
   ·exact Sub.of [] (@cast (((Si n)∧(((83:Nat)=83)∧(((.ep [.sl (.calls h)] : AV)=.ep [.sl (.calls h)])∧(([] : List Nat)=[]))∧Y)∧(((9:Nat)=9)∧(o.length=o.length)∧((9:Nat) ∈ ([9,999] : List Nat)))∧(Si ((i:Nat):Int))∧(Si (((List.length (List.replicate (Int.toNat n) (0:Int))):Nat):Int))∧(Si ((i:Nat):Int))∧(Si n)∧((.int .i64 (0:Int):Value)=.int .i64 ((0:Nat):Int))∧Y)∧((((3:Nat)=3)∧(Sd (.ints o))∧((9:Nat) ∈ ([9,999] : List Nat)))∧Y)∧(true=true)∧(true=true)) _ (by kernel_rfl) ⟨⟨rfl,⟨rfl,⟨rfl,rfl⟩,tt⟩,⟨rfl,rfl,(by decide)⟩,rfl,rfl,rfl,rfl,(congrArg (Value.int .i64) (by first | rfl | omega | assumption | simp | simp_all)),tt⟩,⟨⟨rfl,rfl,(by decide)⟩,tt⟩,rfl,rfl⟩)
   ·rintro ⟨k,x⟩ hC0
    have hC : (k≤n.toNat)∧(x=partRows n.toNat (quietF h) i k) := hC0
    clear hC0
    obtain ⟨hk,hx⟩ := hC
    refine W.to (⟨[(0,.i n),(1,.fn 83 [.ep [.sl (.calls h)]]),(5,.own 9 o.length),(6,.i ((i:Nat):Int)),(11,.i (((List.length (List.replicate (Int.toNat n) (0:Int))):Nat):Int)),(12,.i ((i:Nat):Int)),(15,.i n),(16,.i ((k:Nat):Int))],[(9,⟨3,.row (.ints x)⟩)],[9,999]⟩) rfl ?_
    have hxl : x.length=n.toNat := by rw [hx]; exact partRows_len _ _ _ _
    refine Kk cok tab82QuietAhead hnt [] [0,1,5,6,11,12,15,16,17] (⟨[(0,.i n),(1,.fn 83 [.ep [.sl (.calls h)]]),(5,.own 9 o.length),(6,.i ((i:Nat):Int)),(11,.i (((List.length (List.replicate (Int.toNat n) (0:Int))):Nat):Int)),(12,.i ((i:Nat):Int)),(15,.i n),(16,.i ((k:Nat):Int)),(17,.b (decide (((k:Nat):Int)<n)))],[(9,⟨3,.row (.ints x)⟩)],[9,999]⟩)
     ((Y∧Y∧Y)∧Y)
     ⟨⟨tt,tt,tt⟩,tt⟩ ?_
    refine W.seq ?_
    refine W.ifP (((k:Nat):Int)<n) (.b (decide (((k:Nat):Int)<n))) (by kernel_rfl) rfl trivial ?_ ?_
    ·intro h17
     refine W.skip (thenQ_normal ?_)
     refine W.seq ?_
     refine W.block ?_
     refine Kk cok tab82QuietAhead hnt [] [0,1,5,6,7,11,12,15,16] (⟨[(0,.i n),(1,.fn 83 [.ep [.sl (.calls h)]]),(5,.own 9 o.length),(6,.i ((i:Nat):Int)),(7,.i ((k:Nat):Int)),(11,.i (((List.length (List.replicate (Int.toNat n) (0:Int))):Nat):Int)),(12,.i ((i:Nat):Int)),(15,.i n),(16,.i ((k:Nat):Int))],[(9,⟨3,.row (.ints x)⟩)],[9,999]⟩)
      (Y∧Y∧Y)
      ⟨tt,tt,tt⟩ ?_
     refine Kk cok tab82QuietAhead hnt [] [0,1,5,6,7,11,12,15,16,22] (⟨[(0,.i n),(1,.fn 83 [.ep [.sl (.calls h)]]),(5,.own 9 o.length),(6,.i ((i:Nat):Int)),(7,.i ((k:Nat):Int)),(11,.i (((List.length (List.replicate (Int.toNat n) (0:Int))):Nat):Int)),(12,.i ((i:Nat):Int)),(15,.i n),(16,.i ((k:Nat):Int)),(22,.b (quietF h ((i:Nat):Int).toNat ((k:Nat):Int).toNat))],[(9,⟨3,.row (.ints x)⟩)],[9,999]⟩)
      (Y∧Y∧Y∧(Y∧(Y∧Y∧Y∧Y)∧(0≤((i:Nat):Int)∧((i:Nat):Int)<h.length)∧(0≤((k:Nat):Int)∧((k:Nat):Int)<h.length)∧(validHistory h=true))∧Y)
      ⟨tt,tt,tt,⟨tt,⟨tt,tt,tt,tt⟩,(by omega),(by omega),(by omega)⟩,tt⟩ ?_
     refine W.if' (quietF h ((i:Nat):Int).toNat ((k:Nat):Int).toNat) (.b (quietF h ((i:Nat):Int).toNat ((k:Nat):Int).toNat)) (by kernel_rfl) rfl trivial ?_ ?_
     ·intro h22
      refine Lk cok tab82QuietAhead hnt [] (⟨[(0,.i n),(1,.fn 83 [.ep [.sl (.calls h)]]),(5,.own 9 o.length),(6,.i ((i:Nat):Int)),(7,.i ((k:Nat):Int)),(11,.i (((List.length (List.replicate (Int.toNat n) (0:Int))):Nat):Int)),(12,.i ((i:Nat):Int)),(15,.i n),(16,.i ((k:Nat):Int)),(22,.b (quietF h ((i:Nat):Int).toNat ((k:Nat):Int).toNat)),(23,.own 9 o.length),(24,.i ((i:Nat):Int)),(25,.pel 9 1 i 0),(26,.i (x.getD i 0)),(27,.i ((k:Nat):Int)),(28,.v (.int .u64 ((k:Nat):Int))),(29,.i (shlI .i64 (1:Int) ((k:Nat):Int))),(30,.i (bitsI .or .i64 (x.getD i 0) (shlI .i64 (1:Int) ((k:Nat):Int)))),(31,.pel 9 1 i 0)],[(9,⟨3,.row (.ints (List.set x i (bitsI .or .i64 (x.getD i 0) (shlI .i64 (1:Int) ((k:Nat):Int)))))⟩)],[9,999]⟩)
       (Y∧Y∧(Y∧Y∧(0≤((i:Nat):Int))∧(((i:Nat):Int)<(o.length:Int)))∧(Y∧(i<x.length))∧Y∧(Y∧(Fits .u64 ((k:Nat):Int)))∧(Y∧Y∧(0≤((k:Nat):Int))∧(Fits .i64 (shlI .i64 (1:Int) ((k:Nat):Int))))∧(Y∧Y∧Y)∧(Y∧Y∧(0≤((i:Nat):Int))∧(((i:Nat):Int)<(o.length:Int)))∧(Y∧Y∧(i<x.length))∧Y)
       ⟨tt,tt,⟨tt,tt,(by omega),(by omega)⟩,⟨tt,(by omega)⟩,tt,⟨tt,(by exact fits_u64 (by omega) (by omega))⟩,⟨tt,tt,(by omega),(by exact fits_shl (by omega))⟩,⟨tt,tt,tt⟩,⟨tt,tt,(by omega),(by omega)⟩,⟨tt,tt,(by omega)⟩,tt⟩ ?_
      refine blockQ_normal (thenQ_normal ?_)
      refine Lk cok tab82QuietAhead hnt [] (⟨[(0,.i n),(1,.fn 83 [.ep [.sl (.calls h)]]),(5,.own 9 o.length),(6,.i ((i:Nat):Int)),(7,.i ((k:Nat):Int)),(11,.i (((List.length (List.replicate (Int.toNat n) (0:Int))):Nat):Int)),(12,.i ((i:Nat):Int)),(15,.i n),(16,.i (((k+1):Nat):Int)),(22,.b (quietF h ((i:Nat):Int).toNat ((k:Nat):Int).toNat)),(23,.own 9 o.length),(24,.i ((i:Nat):Int)),(25,.pel 9 1 i 0),(26,.i (x.getD i 0)),(27,.i ((k:Nat):Int)),(28,.v (.int .u64 ((k:Nat):Int))),(29,.i (shlI .i64 (1:Int) ((k:Nat):Int))),(30,.i (bitsI .or .i64 (x.getD i 0) (shlI .i64 (1:Int) ((k:Nat):Int)))),(31,.pel 9 1 i 0),(32,.i (((k+1):Nat):Int))],[(9,⟨3,.row (.ints (List.set x i (bitsI .or .i64 (x.getD i 0) (shlI .i64 (1:Int) ((k:Nat):Int)))))⟩)],[9,999]⟩)
       ((Y∧Y∧(Fits .i64 (((k+1):Nat):Int)))∧Y∧Y)
       ⟨⟨tt,tt,(by exact fits_i64 (by omega) (by omega))⟩,tt,tt⟩ ?_
      refine thenQ_normal ?_
      refine ⟨((k+1),(List.set x i (bitsI .or .i64 (x.getD i 0) (shlI .i64 (1:Int) ((k:Nat):Int))))),(show ((k+1)≤n.toNat)∧((List.set x i (bitsI .or .i64 (x.getD i 0) (shlI .i64 (1:Int) ((k:Nat):Int))))=partRows n.toNat (quietF h) i (k+1)) from ⟨(by first | assumption | omega | rfl | (intro _ hjj; omega) | (simp; done) | (simp; omega)),(by first | (rw [hx]; exact partRows_skip n22) | (rw [hx]; exact partRows_set (by omega) (by rw [partRows_get _ (by omega)]; exact mask_or _ (by omega) h22)))⟩),(show n.toNat - (k+1)<n.toNat - k from (by first | omega | (simp_all; omega))),?_⟩
      exact Sub.of [] (@cast (((Si n)∧(((83:Nat)=83)∧(((.ep [.sl (.calls h)] : AV)=.ep [.sl (.calls h)])∧(([] : List Nat)=[]))∧Y)∧(((9:Nat)=9)∧(o.length=o.length)∧((9:Nat) ∈ ([9,999] : List Nat)))∧(Si ((i:Nat):Int))∧(Si (((List.length (List.replicate (Int.toNat n) (0:Int))):Nat):Int))∧(Si ((i:Nat):Int))∧(Si n)∧(Si (((k+1):Nat):Int))∧Y)∧((((3:Nat)=3)∧(Sd (.ints (List.set x i (bitsI .or .i64 (x.getD i 0) (shlI .i64 (1:Int) ((k:Nat):Int))))))∧((9:Nat) ∈ ([9,999] : List Nat)))∧Y)∧(true=true)∧(true=true)) _ (by kernel_rfl) ⟨⟨rfl,⟨rfl,⟨rfl,rfl⟩,tt⟩,⟨rfl,rfl,(by decide)⟩,rfl,rfl,rfl,rfl,rfl,tt⟩,⟨⟨rfl,rfl,(by decide)⟩,tt⟩,rfl,rfl⟩)
     ·intro n22
      refine W.skip (blockQ_normal (thenQ_normal ?_))
      refine Lk cok tab82QuietAhead hnt [] (⟨[(0,.i n),(1,.fn 83 [.ep [.sl (.calls h)]]),(5,.own 9 o.length),(6,.i ((i:Nat):Int)),(7,.i ((k:Nat):Int)),(11,.i (((List.length (List.replicate (Int.toNat n) (0:Int))):Nat):Int)),(12,.i ((i:Nat):Int)),(15,.i n),(16,.i (((k+1):Nat):Int)),(22,.b (quietF h ((i:Nat):Int).toNat ((k:Nat):Int).toNat)),(32,.i (((k+1):Nat):Int))],[(9,⟨3,.row (.ints x)⟩)],[9,999]⟩)
       ((Y∧Y∧(Fits .i64 (((k+1):Nat):Int)))∧Y∧Y)
       ⟨⟨tt,tt,(by exact fits_i64 (by omega) (by omega))⟩,tt,tt⟩ ?_
      refine thenQ_normal ?_
      refine ⟨((k+1),x),(show ((k+1)≤n.toNat)∧(x=partRows n.toNat (quietF h) i (k+1)) from ⟨(by first | assumption | omega | rfl | (intro _ hjj; omega) | (simp; done) | (simp; omega)),(by first | (rw [hx]; exact partRows_skip n22) | (rw [hx]; exact partRows_set (by omega) (by rw [partRows_get _ (by omega)]; exact mask_or _ (by omega) h22)))⟩),(show n.toNat - (k+1)<n.toNat - k from (by first | omega | (simp_all; omega))),?_⟩
      exact Sub.of [] (@cast (((Si n)∧(((83:Nat)=83)∧(((.ep [.sl (.calls h)] : AV)=.ep [.sl (.calls h)])∧(([] : List Nat)=[]))∧Y)∧(((9:Nat)=9)∧(o.length=o.length)∧((9:Nat) ∈ ([9,999] : List Nat)))∧(Si ((i:Nat):Int))∧(Si (((List.length (List.replicate (Int.toNat n) (0:Int))):Nat):Int))∧(Si ((i:Nat):Int))∧(Si n)∧(Si (((k+1):Nat):Int))∧Y)∧((((3:Nat)=3)∧(Sd (.ints x))∧((9:Nat) ∈ ([9,999] : List Nat)))∧Y)∧(true=true)∧(true=true)) _ (by kernel_rfl) ⟨⟨rfl,⟨rfl,⟨rfl,rfl⟩,tt⟩,⟨rfl,rfl,(by decide)⟩,rfl,rfl,rfl,rfl,rfl,tt⟩,⟨⟨rfl,rfl,(by decide)⟩,tt⟩,rfl,rfl⟩)
    ·intro n17
     refine W.exit (thenQ_exit (thenQ_exit (blockQ_hit ?_)))
     refine blockQ_normal (thenQ_normal ?_)
     refine Lk cok tab82QuietAhead hnt [] (⟨[(0,.i n),(1,.fn 83 [.ep [.sl (.calls h)]]),(5,.own 9 o.length),(6,.i ((i:Nat):Int)),(11,.i (((List.length (List.replicate (Int.toNat n) (0:Int))):Nat):Int)),(12,.i (((i+1):Nat):Int)),(15,.i n),(16,.i ((k:Nat):Int)),(17,.b (decide (((k:Nat):Int)<n))),(33,.i (((i+1):Nat):Int))],[(9,⟨3,.row (.ints x)⟩)],[9,999]⟩)
      ((Y∧Y∧(Fits .i64 (((i+1):Nat):Int)))∧Y∧Y)
      ⟨⟨tt,tt,(by exact fits_i64 (by omega) (by omega))⟩,tt,tt⟩ ?_
     refine thenQ_normal ?_
     refine ⟨((i+1),x),(show ((i+1)≤n.toNat)∧(x=partRows n.toNat (quietF h) (i+1) 0) from ⟨(by first | assumption | omega | rfl | (intro _ hjj; omega) | (simp; done) | (simp; omega)),(by rw [hx,← partRows_next]; congr 1; omega)⟩),(show n.toNat - (i+1)<n.toNat - i from (by first | omega | (simp_all; omega))),?_⟩
     exact Sub.of [] (@cast (((Si n)∧(((83:Nat)=83)∧(((.ep [.sl (.calls h)] : AV)=.ep [.sl (.calls h)])∧(([] : List Nat)=[]))∧Y)∧(((9:Nat)=9)∧(o.length=x.length)∧((9:Nat) ∈ ([9,999] : List Nat)))∧(Si (((List.length (List.replicate (Int.toNat n) (0:Int))):Nat):Int))∧(Si (((i+1):Nat):Int))∧Y)∧((((3:Nat)=3)∧(Sd (.ints x))∧((9:Nat) ∈ ([9,999] : List Nat)))∧Y)∧(true=true)∧(true=true)) _ (by kernel_rfl) ⟨⟨rfl,⟨rfl,⟨rfl,rfl⟩,tt⟩,⟨rfl,(by first | rfl | omega | assumption | (symm; assumption) | simp | simp_all),(by decide)⟩,rfl,rfl,tt⟩,⟨⟨rfl,rfl,(by decide)⟩,tt⟩,rfl,rfl⟩)
  ·intro n13
   have n13' := n13
   simp only [ln] at n13'
   refine W.exit (thenQ_exit (thenQ_exit (blockQ_hit ?_)))
   refine thenQ_normal ?_
   refine Kk cok tab82QuietAhead hnt [] [4] (⟨[(4,.own 9 o.length)],[(9,⟨3,.row (.ints o)⟩)],[9,999]⟩)
    (Y∧Y∧Y)
    ⟨tt,tt,tt⟩ ?_
   refine W.subS [] (⟨[(4,.sl (.ints o))],[],[999]⟩) (@cast ((((o.length=o.length)∧(Sd (.ints o))∧((9:Nat) ∉ ([] : List Nat)))∧Y)∧Y∧(true=true)∧(true=true)) _ (by kernel_rfl) ⟨⟨⟨rfl,rfl,(by decide)⟩,tt⟩,tt,rfl,rfl⟩) ?_
   refine W.ret ?_
   exact endQ_ret (.sl (.ints o)) (by kernel_rfl) (@cast ((.ints o:Dat)=.ints (rowsOf n.toNat (quietF h))) _ (by kernel_rfl) (congrArg Dat.ints (by rw [ho,← partRows_end]; congr 1; omega)))
theorem ent82QuietAhead : Entr prog 82 := ⟨_,func82,rfl,by decide⟩
end Go.Proofs.Tryz

set_option linter.unusedSimpArgs false
set_option linter.unusedVariables false
namespace Go.Proofs.Tryz
open Go.Ab Go.RowKit
def fs57 : FnS := fnS [.s .calls] [.calls] (fun _ (h,_)=>(.sl (.ints (quietAhead h)),[],Y))
abbrev T57 : Tab := lk [(52,fs52),(82,fs82QuietAhead)]
theorem tab57 : TabOK prog T57 := (TabOK.cons ok52 ent52 (TabOK.cons ok82QuietAhead ent82QuietAhead TabOK.nil))
theorem ok57 : FnOK prog 57 fs57 := by
 refine FnOK.mk cok func57 rfl rfl rfl ?_
 rintro fl ⟨(h : List CallD),_⟩ hpre F hnt0 _
 have hnt : F.nt=10 := hnt0.trans ntmps57
 clear hpre
 refine W.to (⟨[(0,.sl (.calls h))],[],[999]⟩) rfl ?_
 refine W.lenOf 0 (.calls h) (by kernel_rfl) ?_
 intro hl_h; replace hl_h : List.length h≤9223372036854775807 := hl_h
 refine Kk cok tab57 hnt [] [1] (⟨[(1,.ptr 1 0)],[(1,⟨38,.fix [.sl (.calls h)]⟩)],[1,999]⟩)
  (Y∧Y∧Y)
  ⟨tt,tt,tt⟩ ?_
 refine W.subS [] (⟨[(1,.ep [.sl (.calls h)])],[],[999]⟩) (@cast ((((([.sl (.calls h)] : List AV)=[.sl (.calls h)])∧(([] : List Nat)=[])∧((1:Nat) ∉ ([] : List Nat)))∧Y)∧Y∧(true=true)∧(true=true)) _ (by kernel_rfl) ⟨⟨⟨rfl,rfl,(by decide)⟩,tt⟩,tt,rfl,rfl⟩) ?_
 refine W.seq ?_
 refine Kk cok tab57 hnt [] [1,5] (⟨[(1,.ep [.sl (.calls h)]),(5,.b (!(validHistory h)))],[],[999]⟩)
  (Y∧(Y∧(Y∧Y)∧Y)∧Y∧Y)
  ⟨tt,⟨tt,⟨tt,tt⟩,tt⟩,tt,tt⟩ ?_
 refine W.if' (!(validHistory h)) (.b (!(validHistory h))) (by kernel_rfl) rfl trivial ?_ ?_
 ·intro h5
  refine Kk cok tab57 hnt [] [2] (⟨[(2,.v (.slice none 0 0))],[],[999]⟩)
   (Y∧Y)
   ⟨tt,tt⟩ ?_
  refine W.ret (thenQ_ret ?_)
  exact endQ_ret (.v (.slice none 0 0)) (by kernel_rfl) (@cast (((Value.slice none 0 0:Value)=.slice none 0 0)∧((Dat.ints (quietAhead h)).len=0)) _ (by kernel_rfl) ⟨rfl,(by show List.length (quietAhead h)=0; unfold quietAhead; rw [not_f h5]; rfl)⟩)
 ·intro n5
  refine W.skip (thenQ_normal ?_)
  refine Kk cok tab57 hnt [] [2] (⟨[(2,.sl (.ints (rowsOf (h.length:Int).toNat (quietF h))))],[],[999]⟩)
   (Y∧Y∧Y∧(Y∧(Y∧Y∧Y)∧(0≤(h.length:Int)∧(h.length:Int)≤60∧(h.length:Int)=h.length)∧(validHistory h=true))∧Y∧Y)
   ⟨tt,tt,tt,⟨tt,⟨tt,tt,tt⟩,(by have hv := (valid_iff.1 (not_g n5)).1; omega),(by exact not_g n5)⟩,tt,tt⟩ ?_
  refine W.ret ?_
  exact endQ_ret (.sl (.ints (rowsOf (h.length:Int).toNat (quietF h)))) (by kernel_rfl) (@cast ((.ints (rowsOf (h.length:Int).toNat (quietF h)):Dat)=.ints (quietAhead h)) _ (by kernel_rfl) (congrArg Dat.ints (by unfold quietAhead; rw [not_g n5]; rfl)))
theorem ent57 : Entr prog 57 := ⟨_,func57,rfl,by decide⟩
end Go.Proofs.Tryz

set_option linter.unusedSimpArgs false
set_option linter.unusedVariables false
namespace Go.Proofs.Tryz
open Go.Ab Go.RowKit
def fs35 : FnS := fnS [.o,.s .calls] [.str,.calls] (fun _ (s,h,_)=>(.b (explains s h (quietF h)),[],Y))
abbrev T35 : Tab := lk [(32,fs32),(52,fs52),(56,fs56),(57,fs57)]
theorem tab35 : TabOK prog T35 := (TabOK.cons ok32 ent32 (TabOK.cons ok52 ent52 (TabOK.cons ok56 ent56 (TabOK.cons ok57 ent57 TabOK.nil))))
theorem ok35 : FnOK prog 35 fs35 := by
 refine FnOK.mk cok func35 rfl rfl rfl ?_
 rintro fl ⟨(s:ByteArray),(h : List CallD),_⟩ hpre F hnt0 _
 have hnt : F.nt=20 := hnt0.trans ntmps35
 clear hpre
 refine W.to (⟨[(0,.v (.string s)),(1,.sl (.calls h))],[],[999]⟩) rfl ?_
 refine W.lenOf 1 (.calls h) (by kernel_rfl) ?_
 intro hl_h; replace hl_h : List.length h≤9223372036854775807 := hl_h
 refine Kk cok tab35 hnt [] [0,1] (⟨[(0,.v (.string s)),(1,.sl (.calls h))],[],[999]⟩)
  (Y∧Y)
  ⟨tt,tt⟩ ?_
 refine Kk cok tab35 hnt [] [4] (⟨[(4,.b (((isObject s) && (validHistory h)) && (decide ((0:Int)<(((List.length (ordersF s h (bitF (quietAhead h)) h.length [])):Nat):Int)))))],[],[999]⟩)
  ((fun (Z1:Bool)=>((fun (Z2:Bool)=>(Y∧((Y∧((Y∧Y)∧Y))∧(Y∧((Z1=true→Y)∧((Z1=true→(Y∧((((Z1=true)∧Y)∧Y)∧Y)))∧((Y∧((Z1=true→(Z1=true)∧Y)∧(Z1=false→Y)))∧(Y∧((Z2=true→Y)∧((Z2=true→Y)∧((Z2=true→Y)∧((Z2=true→(Y∧((((Z2=true)∧Y)∧Y)∧Y)))∧((Z2=true→(Y∧((((Z2=true)∧Y)∧(((Z2=true)∧Y)∧(((Z2=true)∧Y)∧Y)))∧((isObject s=true)∧((validHistory h=true)∧((quietAhead h)=rowsOf h.length (bitF (quietAhead h))))))))∧((Z2=true→((Z2=true)∧Y))∧((Z2=true→(((Z2=true)∧Y)∧(Y∧Y)))∧((Y∧((Z2=true→(Z2=true)∧Y)∧(Z2=false→Y)))∧(Y∧Y))))))))))))))))) (Z1 && (validHistory h)))) (isObject s))
  ⟨tt,⟨tt,⟨tt,tt⟩,tt⟩,tt,(fun _=>trivial),(fun hG=>⟨tt,⟨⟨hG,tt⟩,tt⟩,tt⟩),⟨tt,(fun hp=>⟨hp,tt⟩),(fun _=>trivial)⟩,tt,(fun _=>trivial),(fun _=>trivial),(fun _=>trivial),(fun hG=>⟨tt,⟨⟨hG,tt⟩,tt⟩,tt⟩),(fun hG=>⟨tt,⟨⟨hG,tt⟩,⟨hG,tt⟩,⟨hG,tt⟩,tt⟩,(by exact and_l hG),(by exact and_r hG),(by exact quiet_rows (and_r hG))⟩),(fun hG=>⟨hG,tt⟩),(fun hG=>⟨⟨hG,tt⟩,tt,tt⟩),⟨tt,(fun hp=>⟨hp,tt⟩),(fun _=>trivial)⟩,tt,tt⟩ ?_
 refine W.ret ?_
 exact endQ_ret (.b (((isObject s) && (validHistory h)) && (decide ((0:Int)<(((List.length (ordersF s h (bitF (quietAhead h)) h.length [])):Nat):Int))))) (by kernel_rfl) (@cast ((.bool (((isObject s) && (validHistory h)) && (decide ((0:Int)<(((List.length (ordersF s h (bitF (quietAhead h)) h.length [])):Nat):Int)))):Value)=.bool (explains s h (quietF h))) _ (by kernel_rfl) (congrArg Value.bool (by exact by_gt quiet_eq)))
theorem ent35 : Entr prog 35 := ⟨_,func35,rfl,by decide⟩
end Go.Proofs.Tryz

set_option linter.unusedSimpArgs false
set_option linter.unusedVariables false
namespace Go.Proofs.Tryz
open Go.Ab Go.RowKit
def fs37 : FnS := fnS [.s .calls] [.calls] (fun _ (h,_)=>(.i (widthOf h),[],Y))
abbrev T37 : Tab := lk [(52,fs52),(59,fs59)]
theorem tab37 : TabOK prog T37 := (TabOK.cons ok52 ent52 (TabOK.cons ok59 ent59 TabOK.nil))
theorem ok37 : FnOK prog 37 fs37 := by
 refine FnOK.mk cok func37 rfl rfl rfl ?_
 rintro fl ⟨(h : List CallD),_⟩ hpre F hnt0 _
 have hnt : F.nt=18 := hnt0.trans ntmps37
 clear hpre
 refine W.to (⟨[(0,.sl (.calls h))],[],[999]⟩) rfl ?_
 refine W.lenOf 0 (.calls h) (by kernel_rfl) ?_
 intro hl_h; replace hl_h : List.length h≤9223372036854775807 := hl_h
 refine Kk cok tab37 hnt [] [0] (⟨[(0,.sl (.calls h))],[],[999]⟩)
  (Y∧Y)
  ⟨tt,tt⟩ ?_
 refine W.seq ?_
 refine Kk cok tab37 hnt [] [0,7] (⟨[(0,.sl (.calls h)),(7,.b (!(validHistory h)))],[],[999]⟩)
  (Y∧(Y∧(Y∧Y)∧Y)∧Y∧Y)
  ⟨tt,⟨tt,⟨tt,tt⟩,tt⟩,tt,tt⟩ ?_
 refine W.if' (!(validHistory h)) (.b (!(validHistory h))) (by kernel_rfl) rfl trivial ?_ ?_
 ·intro h7
  refine Kk cok tab37 hnt [] [2] (⟨[(2,.i (-1:Int))],[],[999]⟩)
   (Y∧Y)
   ⟨tt,tt⟩ ?_
  refine W.ret (thenQ_ret ?_)
  exact endQ_ret (.i (-1:Int)) (by kernel_rfl) (@cast ((.int .i64 (-1:Int):Value)=.int .i64 (widthOf h)) _ (by kernel_rfl) (congrArg (Value.int .i64) (by unfold widthOf; rw [not_f h7]; rfl)))
 ·intro n7
  refine W.skip (thenQ_normal ?_)
  refine Kk cok tab37 hnt [] [0,3] (⟨[(0,.sl (.calls h)),(3,.i (0:Int))],[],[999]⟩)
   (Y∧Y)
   ⟨tt,tt⟩ ?_
  refine W.seq ?_
  refine Kk cok tab37 hnt [] [0,3,8] (⟨[(0,.sl (.calls h)),(3,.i (0:Int)),(8,.i (0:Int))],[],[999]⟩)
   (Y∧Y)
   ⟨tt,tt⟩ ?_
  refine W.block ?_
  refine W.loop (ι := Int × Nat) (fun (x : Int × Nat)=>match x with | (most,t)=>(⟨[(0,.sl (.calls h)),(3,.i most),(8,.i ((t:Nat):Int))],[],[999]⟩:St))
   (fun (x : Int × Nat)=>match x with | (most,t)=>(t≤31)∧(most=maxN t (fun tt=>openAt h ((tt:Nat):Int))))
   (fun (x : Int × Nat)=>match x with | (most,t)=>(31 - t:Nat)) ((0:Int),0) ?_ ?_ ?_
  ·exact (show (0≤31)∧((0:Int)=maxN 0 (fun tt=>openAt h ((tt:Nat):Int))) from ⟨(by first | assumption | omega | rfl | (intro _ hjj; omega) | (simp; done) | (simp; omega)),(by rfl)⟩)
  ·exact Sub.of [] (@cast (((Sd (.calls h))∧(Si (0:Int))∧((.int .i64 (0:Int):Value)=.int .i64 ((0:Nat):Int))∧Y)∧Y∧(true=true)∧(true=true)) _ (by kernel_rfl) ⟨⟨rfl,rfl,(congrArg (Value.int .i64) (by first | rfl | omega | assumption | simp | simp_all)),tt⟩,tt,rfl,rfl⟩)
  ·rintro ⟨most,t⟩ hC0
   have hC : (t≤31)∧(most=maxN t (fun tt=>openAt h ((tt:Nat):Int))) := hC0
   clear hC0
   obtain ⟨ht,hm⟩ := hC
   refine W.to (⟨[(0,.sl (.calls h)),(3,.i most),(8,.i ((t:Nat):Int))],[],[999]⟩) rfl ?_
   refine Kk cok tab37 hnt [] [0,3,8,9] (⟨[(0,.sl (.calls h)),(3,.i most),(8,.i ((t:Nat):Int)),(9,.b (decide (((t:Nat):Int)<(31:Int))))],[],[999]⟩)
    ((Y∧Y∧Y)∧Y)
    ⟨⟨tt,tt,tt⟩,tt⟩ ?_
   refine W.seq ?_
   refine W.ifP (((t:Nat):Int)<(31:Int)) (.b (decide (((t:Nat):Int)<(31:Int)))) (by kernel_rfl) rfl trivial ?_ ?_
   ·intro h9
    refine W.skip (thenQ_normal ?_)
    refine W.seq ?_
    refine W.block ?_
    refine Kk cok tab37 hnt [] [0,3,4,8] (⟨[(0,.sl (.calls h)),(3,.i most),(4,.i ((t:Nat):Int)),(8,.i ((t:Nat):Int))],[],[999]⟩)
     (Y∧Y∧Y)
     ⟨tt,tt,tt⟩ ?_
    refine Lk cok tab37 hnt [] (⟨[(0,.sl (.calls h)),(3,.i (max most (openAt h ((t:Nat):Int)))),(4,.i ((t:Nat):Int)),(8,.i ((t:Nat):Int)),(11,.i most),(12,.sl (.calls h)),(13,.i ((t:Nat):Int)),(14,.i (openAt h ((t:Nat):Int))),(15,.i (max most (openAt h ((t:Nat):Int))))],[],[999]⟩)
     (Y∧Y∧Y∧(Y∧(Y∧Y∧Y)∧Y)∧(Y∧Y)∧Y∧Y)
     ⟨tt,tt,tt,⟨tt,⟨tt,tt,tt⟩,tt⟩,⟨tt,tt⟩,tt,tt⟩ ?_
    refine blockQ_normal (thenQ_normal ?_)
    refine Lk cok tab37 hnt [] (⟨[(0,.sl (.calls h)),(3,.i (max most (openAt h ((t:Nat):Int)))),(4,.i ((t:Nat):Int)),(8,.i (((t+1):Nat):Int)),(11,.i most),(12,.sl (.calls h)),(13,.i ((t:Nat):Int)),(14,.i (openAt h ((t:Nat):Int))),(15,.i (max most (openAt h ((t:Nat):Int)))),(16,.i (((t+1):Nat):Int))],[],[999]⟩)
     ((Y∧Y∧(Fits .i64 (((t+1):Nat):Int)))∧Y∧Y)
     ⟨⟨tt,tt,(by exact fits_i64 (by omega) (by omega))⟩,tt,tt⟩ ?_
    refine thenQ_normal ?_
    refine ⟨((max most (openAt h ((t:Nat):Int))),(t+1)),(show ((t+1)≤31)∧((max most (openAt h ((t:Nat):Int)))=maxN (t+1) (fun tt=>openAt h ((tt:Nat):Int))) from ⟨(by first | assumption | omega | rfl | (intro _ hjj; omega) | (simp; done) | (simp; omega)),(by rw [hm]; rfl)⟩),(show 31 - (t+1)<31 - t from (by first | omega | (simp_all; omega))),?_⟩
    exact Sub.of [] (@cast (((Sd (.calls h))∧(Si (max most (openAt h ((t:Nat):Int))))∧(Si (((t+1):Nat):Int))∧Y)∧Y∧(true=true)∧(true=true)) _ (by kernel_rfl) ⟨⟨rfl,rfl,rfl,tt⟩,tt,rfl,rfl⟩)
   ·intro n9
    refine W.exit (thenQ_exit (thenQ_exit (blockQ_hit ?_)))
    refine thenQ_normal ?_
    refine Kk cok tab37 hnt [] [2] (⟨[(2,.i most)],[],[999]⟩)
     (Y∧Y∧Y)
     ⟨tt,tt,tt⟩ ?_
    refine W.ret ?_
    exact endQ_ret (.i most) (by kernel_rfl) (@cast ((.int .i64 most:Value)=.int .i64 (widthOf h)) _ (by kernel_rfl) (congrArg (Value.int .i64) (by unfold widthOf; rw [not_g n7,hm,show t=31 by omega]; rfl)))
theorem ent37 : Entr prog 37 := ⟨_,func37,rfl,by decide⟩
end Go.Proofs.Tryz

set_option linter.unusedSimpArgs false
set_option linter.unusedVariables false
namespace Go.Proofs.Tryz
open Go.Ab Go.RowKit
def fs85 : FnS := fnS [.o,.o,.o] [.int,.int,(.ep .calls)] (fun _ (i,k,h,_)=>(.b (aheadF h i.toNat k.toNat),[],(0≤i∧i<h.length)∧(0≤k∧k<h.length)))
abbrev T85 : Tab := lk [(86,fs86)]
theorem tab85 : TabOK prog T85 := (TabOK.cons ok86 ent86 TabOK.nil)
theorem ok85 : FnOK prog 85 fs85 := by
 refine FnOK.mk cok func85 rfl rfl rfl ?_
 rintro fl ⟨(i:Int),(k:Int),(h : List CallD),_⟩ hpre F hnt0 _
 have hnt : F.nt=15 := hnt0.trans ntmps85
 replace hpre : (0≤i∧i<h.length)∧(0≤k∧k<h.length) := hpre
 obtain ⟨hi,hk⟩ := hpre
 refine W.to (⟨[(0,.i i),(1,.i k),(2,.ep [.sl (.calls h)])],[],[999]⟩) rfl ?_
 refine Kk cok tab85 hnt [] [0,1,2] (⟨[(0,.i i),(1,.i k),(2,.ep [.sl (.calls h)])],[],[999]⟩)
  (Y∧Y)
  ⟨tt,tt⟩ ?_
 refine W.KA cok tab85 hnt [] [5] (⟨[(5,.b (isBefore (h.getD (Int.toNat k) default) (h.getD (Int.toNat i) default)))],[],[999]⟩)
  (Y∧Y∧(Y∧Y∧(0≤k)∧(k<(h.length:Int)))∧Y∧Y∧Y∧(Y∧Y∧(0≤i)∧(i<(h.length:Int)))∧Y∧(Y∧(Y∧Y∧Y)∧Y)∧Y∧Y) (by kernel_rfl) (by kernel_rfl)
  ⟨tt,tt,⟨tt,tt,(by omega),(by omega)⟩,tt,tt,tt,⟨tt,tt,(by omega),(by omega)⟩,tt,⟨tt,⟨tt,tt,tt⟩,tt⟩,tt,tt⟩ ?_
 refine W.ret ?_
 exact endQ_ret (.b (isBefore (h.getD (Int.toNat k) default) (h.getD (Int.toNat i) default))) (by kernel_rfl) (@cast ((.bool (isBefore (h.getD (Int.toNat k) default) (h.getD (Int.toNat i) default)):Value)=.bool (aheadF h i.toNat k.toNat)) _ (by kernel_rfl) (congrArg Value.bool (by first | rfl | simp_all)))
theorem ent85 : Entr prog 85 := ⟨_,func85,rfl,by decide⟩
end Go.Proofs.Tryz

set_option linter.unusedSimpArgs false
set_option linter.unusedVariables false
namespace Go.Proofs.Tryz
open Go.Ab Go.RowKit
def fs82AheadOf : FnS := fnS [.o,.o] [.int,(.fn1 85 (.ep .calls))] (fun _ (n,h,_)=>(.sl (.ints (rowsOf n.toNat (aheadF h))),[],(0≤n∧n≤60∧n=h.length)))
abbrev T82AheadOf : Tab := lk [(85,fs85)]
theorem tab82AheadOf : TabOK prog T82AheadOf := (TabOK.cons ok85 ent85 TabOK.nil)
theorem ok82AheadOf : FnOK prog 82 fs82AheadOf := by
 refine FnOK.mk cok func82 rfl rfl rfl ?_
 rintro fl ⟨(n:Int),(h : List CallD),_⟩ hpre F hnt0 _
 have hnt : F.nt=35 := hnt0.trans ntmps82
 replace hpre : (0≤n∧n≤60∧n=h.length) := hpre
 have hn := hpre
 refine W.to (⟨[(0,.i n),(1,.fn 85 [.ep [.sl (.calls h)]])],[],[999]⟩) rfl ?_
 refine Kk cok tab82AheadOf hnt [] [0,1] (⟨[(0,.i n),(1,.fn 85 [.ep [.sl (.calls h)]])],[],[999]⟩)
  (Y∧Y)
  ⟨tt,tt⟩ ?_
 refine Kk cok tab82AheadOf hnt [9] [0,1,5] (⟨[(0,.i n),(1,.fn 85 [.ep [.sl (.calls h)]]),(5,.own 9 (List.length (List.replicate (Int.toNat n) (0:Int))))],[(9,⟨3,.row (.ints (List.replicate (Int.toNat n) (0:Int)))⟩)],[9,999]⟩)
  (Y∧(Y∧Y∧(n=n)∧(0≤n)∧(n * 8≤281474976710656))∧Y∧Y)
  ⟨tt,⟨tt,tt,rfl,(by omega),(by omega)⟩,tt,tt⟩ ?_
 refine W.seq ?_
 refine Kk cok tab82AheadOf hnt [] [0,1,5,11,12] (⟨[(0,.i n),(1,.fn 85 [.ep [.sl (.calls h)]]),(5,.own 9 (List.length (List.replicate (Int.toNat n) (0:Int)))),(11,.i (((List.length (List.replicate (Int.toNat n) (0:Int))):Nat):Int)),(12,.i (0:Int))],[(9,⟨3,.row (.ints (List.replicate (Int.toNat n) (0:Int)))⟩)],[9,999]⟩)
  (Y∧Y∧Y∧Y)
  ⟨tt,tt,tt,tt⟩ ?_
 refine W.block ?_
 refine W.loop (ι := Nat × (List Int)) (fun (x : Nat × (List Int))=>match x with | (i,o)=>(⟨[(0,.i n),(1,.fn 85 [.ep [.sl (.calls h)]]),(5,.own 9 o.length),(11,.i (((List.length (List.replicate (Int.toNat n) (0:Int))):Nat):Int)),(12,.i ((i:Nat):Int))],[(9,⟨3,.row (.ints o)⟩)],[9,999]⟩:St))
  (fun (x : Nat × (List Int))=>match x with | (i,o)=>(i≤n.toNat)∧(o=partRows n.toNat (aheadF h) i 0))
  (fun (x : Nat × (List Int))=>match x with | (i,o)=>(n.toNat - i:Nat)) (0,(List.replicate (Int.toNat n) (0:Int))) ?_ ?_ ?_
 ·exact (show (0≤n.toNat)∧((List.replicate (Int.toNat n) (0:Int))=partRows n.toNat (aheadF h) 0 0) from ⟨(by first | assumption | omega | rfl | (intro _ hjj; omega) | (simp; done) | (simp; omega)),(by exact partRows_zero _ _)⟩)
 ·exact Sub.of [] (@cast (((Si n)∧(((85:Nat)=85)∧(((.ep [.sl (.calls h)] : AV)=.ep [.sl (.calls h)])∧(([] : List Nat)=[]))∧Y)∧(((9:Nat)=9)∧((List.length (List.replicate (Int.toNat n) (0:Int)))=(List.length (List.replicate (Int.toNat n) (0:Int))))∧((9:Nat) ∈ ([9,999] : List Nat)))∧(Si (((List.length (List.replicate (Int.toNat n) (0:Int))):Nat):Int))∧((.int .i64 (0:Int):Value)=.int .i64 ((0:Nat):Int))∧Y)∧((((3:Nat)=3)∧(Sd (.ints (List.replicate (Int.toNat n) (0:Int))))∧((9:Nat) ∈ ([9,999] : List Nat)))∧Y)∧(true=true)∧(true=true)) _ (by kernel_rfl) ⟨⟨rfl,⟨rfl,⟨rfl,rfl⟩,tt⟩,⟨rfl,rfl,(by decide)⟩,rfl,(congrArg (Value.int .i64) (by first | rfl | omega | assumption | simp | simp_all)),tt⟩,⟨⟨rfl,rfl,(by decide)⟩,tt⟩,rfl,rfl⟩)
 ·rintro ⟨i,o⟩ hC0
  have hC : (i≤n.toNat)∧(o=partRows n.toNat (aheadF h) i 0) := hC0
  clear hC0
  obtain ⟨hi,ho⟩ := hC
  refine W.to (⟨[(0,.i n),(1,.fn 85 [.ep [.sl (.calls h)]]),(5,.own 9 o.length),(11,.i (((List.length (List.replicate (Int.toNat n) (0:Int))):Nat):Int)),(12,.i ((i:Nat):Int))],[(9,⟨3,.row (.ints o)⟩)],[9,999]⟩) rfl ?_
  have hol : o.length=n.toNat := by rw [ho]; exact partRows_len _ _ _ _
  refine Kk cok tab82AheadOf hnt [] [0,1,5,11,12,13] (⟨[(0,.i n),(1,.fn 85 [.ep [.sl (.calls h)]]),(5,.own 9 o.length),(11,.i (((List.length (List.replicate (Int.toNat n) (0:Int))):Nat):Int)),(12,.i ((i:Nat):Int)),(13,.b (decide (((i:Nat):Int)<(((List.length (List.replicate (Int.toNat n) (0:Int))):Nat):Int))))],[(9,⟨3,.row (.ints o)⟩)],[9,999]⟩)
   ((Y∧Y∧Y)∧Y)
   ⟨⟨tt,tt,tt⟩,tt⟩ ?_
  refine W.seq ?_
  refine W.ifP (((i:Nat):Int)<(((List.length (List.replicate (Int.toNat n) (0:Int))):Nat):Int)) (.b (decide (((i:Nat):Int)<(((List.length (List.replicate (Int.toNat n) (0:Int))):Nat):Int)))) (by kernel_rfl) rfl trivial ?_ ?_
  ·intro h13
   have h13' := h13
   simp only [ln] at h13'
   refine W.skip (thenQ_normal ?_)
   refine W.seq ?_
   refine W.block ?_
   refine Kk cok tab82AheadOf hnt [] [0,1,5,6,11,12] (⟨[(0,.i n),(1,.fn 85 [.ep [.sl (.calls h)]]),(5,.own 9 o.length),(6,.i ((i:Nat):Int)),(11,.i (((List.length (List.replicate (Int.toNat n) (0:Int))):Nat):Int)),(12,.i ((i:Nat):Int))],[(9,⟨3,.row (.ints o)⟩)],[9,999]⟩)
    (Y∧Y∧Y)
    ⟨tt,tt,tt⟩ ?_
   refine Kk cok tab82AheadOf hnt [] [0,1,5,6,11,12,15,16] (⟨[(0,.i n),(1,.fn 85 [.ep [.sl (.calls h)]]),(5,.own 9 o.length),(6,.i ((i:Nat):Int)),(11,.i (((List.length (List.replicate (Int.toNat n) (0:Int))):Nat):Int)),(12,.i ((i:Nat):Int)),(15,.i n),(16,.i (0:Int))],[(9,⟨3,.row (.ints o)⟩)],[9,999]⟩)
    (Y∧Y∧Y)
    ⟨tt,tt,tt⟩ ?_
   refine W.block ?_
   refine W.loop (ι := Nat × (List Int)) (fun (x : Nat × (List Int))=>match x with | (k,x)=>(⟨[(0,.i n),(1,.fn 85 [.ep [.sl (.calls h)]]),(5,.own 9 o.length),(6,.i ((i:Nat):Int)),(11,.i (((List.length (List.replicate (Int.toNat n) (0:Int))):Nat):Int)),(12,.i ((i:Nat):Int)),(15,.i n),(16,.i ((k:Nat):Int))],[(9,⟨3,.row (.ints x)⟩)],[9,999]⟩:St))
    (fun (x : Nat × (List Int))=>match x with | (k,x)=>(k≤n.toNat)∧(x=partRows n.toNat (aheadF h) i k))
    (fun (x : Nat × (List Int))=>match x with | (k,x)=>(n.toNat - k:Nat)) (0,o) ?_ ?_ ?_
   ·exact (show (0≤n.toNat)∧(o=partRows n.toNat (aheadF h) i 0) from ⟨(by first | assumption | omega | rfl | (intro _ hjj; omega) | (simp; done) | (simp; omega)),(by exact ho)⟩)
   ·exact Sub.of [] (@cast (((Si n)∧(((85:Nat)=85)∧(((.ep [.sl (.calls h)] : AV)=.ep [.sl (.calls h)])∧(([] : List Nat)=[]))∧Y)∧(((9:Nat)=9)∧(o.length=o.length)∧((9:Nat) ∈ ([9,999] : List Nat)))∧(Si ((i:Nat):Int))∧(Si (((List.length (List.replicate (Int.toNat n) (0:Int))):Nat):Int))∧(Si ((i:Nat):Int))∧(Si n)∧((.int .i64 (0:Int):Value)=.int .i64 ((0:Nat):Int))∧Y)∧((((3:Nat)=3)∧(Sd (.ints o))∧((9:Nat) ∈ ([9,999] : List Nat)))∧Y)∧(true=true)∧(true=true)) _ (by kernel_rfl) ⟨⟨rfl,⟨rfl,⟨rfl,rfl⟩,tt⟩,⟨rfl,rfl,(by decide)⟩,rfl,rfl,rfl,rfl,(congrArg (Value.int .i64) (by first | rfl | omega | assumption | simp | simp_all)),tt⟩,⟨⟨rfl,rfl,(by decide)⟩,tt⟩,rfl,rfl⟩)
   ·rintro ⟨k,x⟩ hC0
    have hC : (k≤n.toNat)∧(x=partRows n.toNat (aheadF h) i k) := hC0
    clear hC0
    obtain ⟨hk,hx⟩ := hC
    refine W.to (⟨[(0,.i n),(1,.fn 85 [.ep [.sl (.calls h)]]),(5,.own 9 o.length),(6,.i ((i:Nat):Int)),(11,.i (((List.length (List.replicate (Int.toNat n) (0:Int))):Nat):Int)),(12,.i ((i:Nat):Int)),(15,.i n),(16,.i ((k:Nat):Int))],[(9,⟨3,.row (.ints x)⟩)],[9,999]⟩) rfl ?_
    have hxl : x.length=n.toNat := by rw [hx]; exact partRows_len _ _ _ _
    refine Kk cok tab82AheadOf hnt [] [0,1,5,6,11,12,15,16,17] (⟨[(0,.i n),(1,.fn 85 [.ep [.sl (.calls h)]]),(5,.own 9 o.length),(6,.i ((i:Nat):Int)),(11,.i (((List.length (List.replicate (Int.toNat n) (0:Int))):Nat):Int)),(12,.i ((i:Nat):Int)),(15,.i n),(16,.i ((k:Nat):Int)),(17,.b (decide (((k:Nat):Int)<n)))],[(9,⟨3,.row (.ints x)⟩)],[9,999]⟩)
     ((Y∧Y∧Y)∧Y)
     ⟨⟨tt,tt,tt⟩,tt⟩ ?_
    refine W.seq ?_
    refine W.ifP (((k:Nat):Int)<n) (.b (decide (((k:Nat):Int)<n))) (by kernel_rfl) rfl trivial ?_ ?_
    ·intro h17
     refine W.skip (thenQ_normal ?_)
     refine W.seq ?_
     refine W.block ?_
     refine Kk cok tab82AheadOf hnt [] [0,1,5,6,7,11,12,15,16] (⟨[(0,.i n),(1,.fn 85 [.ep [.sl (.calls h)]]),(5,.own 9 o.length),(6,.i ((i:Nat):Int)),(7,.i ((k:Nat):Int)),(11,.i (((List.length (List.replicate (Int.toNat n) (0:Int))):Nat):Int)),(12,.i ((i:Nat):Int)),(15,.i n),(16,.i ((k:Nat):Int))],[(9,⟨3,.row (.ints x)⟩)],[9,999]⟩)
      (Y∧Y∧Y)
      ⟨tt,tt,tt⟩ ?_
     refine Kk cok tab82AheadOf hnt [] [0,1,5,6,7,11,12,15,16,22] (⟨[(0,.i n),(1,.fn 85 [.ep [.sl (.calls h)]]),(5,.own 9 o.length),(6,.i ((i:Nat):Int)),(7,.i ((k:Nat):Int)),(11,.i (((List.length (List.replicate (Int.toNat n) (0:Int))):Nat):Int)),(12,.i ((i:Nat):Int)),(15,.i n),(16,.i ((k:Nat):Int)),(22,.b (aheadF h ((i:Nat):Int).toNat ((k:Nat):Int).toNat))],[(9,⟨3,.row (.ints x)⟩)],[9,999]⟩)
      (Y∧Y∧Y∧(Y∧(Y∧Y∧Y∧Y)∧(0≤((i:Nat):Int)∧((i:Nat):Int)<h.length)∧0≤((k:Nat):Int)∧((k:Nat):Int)<h.length)∧Y)
      ⟨tt,tt,tt,⟨tt,⟨tt,tt,tt,tt⟩,(by omega),(by omega)⟩,tt⟩ ?_
     refine W.if' (aheadF h ((i:Nat):Int).toNat ((k:Nat):Int).toNat) (.b (aheadF h ((i:Nat):Int).toNat ((k:Nat):Int).toNat)) (by kernel_rfl) rfl trivial ?_ ?_
     ·intro h22
      refine Lk cok tab82AheadOf hnt [] (⟨[(0,.i n),(1,.fn 85 [.ep [.sl (.calls h)]]),(5,.own 9 o.length),(6,.i ((i:Nat):Int)),(7,.i ((k:Nat):Int)),(11,.i (((List.length (List.replicate (Int.toNat n) (0:Int))):Nat):Int)),(12,.i ((i:Nat):Int)),(15,.i n),(16,.i ((k:Nat):Int)),(22,.b (aheadF h ((i:Nat):Int).toNat ((k:Nat):Int).toNat)),(23,.own 9 o.length),(24,.i ((i:Nat):Int)),(25,.pel 9 1 i 0),(26,.i (x.getD i 0)),(27,.i ((k:Nat):Int)),(28,.v (.int .u64 ((k:Nat):Int))),(29,.i (shlI .i64 (1:Int) ((k:Nat):Int))),(30,.i (bitsI .or .i64 (x.getD i 0) (shlI .i64 (1:Int) ((k:Nat):Int)))),(31,.pel 9 1 i 0)],[(9,⟨3,.row (.ints (List.set x i (bitsI .or .i64 (x.getD i 0) (shlI .i64 (1:Int) ((k:Nat):Int)))))⟩)],[9,999]⟩)
       (Y∧Y∧(Y∧Y∧(0≤((i:Nat):Int))∧(((i:Nat):Int)<(o.length:Int)))∧(Y∧(i<x.length))∧Y∧(Y∧(Fits .u64 ((k:Nat):Int)))∧(Y∧Y∧(0≤((k:Nat):Int))∧(Fits .i64 (shlI .i64 (1:Int) ((k:Nat):Int))))∧(Y∧Y∧Y)∧(Y∧Y∧(0≤((i:Nat):Int))∧(((i:Nat):Int)<(o.length:Int)))∧(Y∧Y∧(i<x.length))∧Y)
       ⟨tt,tt,⟨tt,tt,(by omega),(by omega)⟩,⟨tt,(by omega)⟩,tt,⟨tt,(by exact fits_u64 (by omega) (by omega))⟩,⟨tt,tt,(by omega),(by exact fits_shl (by omega))⟩,⟨tt,tt,tt⟩,⟨tt,tt,(by omega),(by omega)⟩,⟨tt,tt,(by omega)⟩,tt⟩ ?_
      refine blockQ_normal (thenQ_normal ?_)
      refine Lk cok tab82AheadOf hnt [] (⟨[(0,.i n),(1,.fn 85 [.ep [.sl (.calls h)]]),(5,.own 9 o.length),(6,.i ((i:Nat):Int)),(7,.i ((k:Nat):Int)),(11,.i (((List.length (List.replicate (Int.toNat n) (0:Int))):Nat):Int)),(12,.i ((i:Nat):Int)),(15,.i n),(16,.i (((k+1):Nat):Int)),(22,.b (aheadF h ((i:Nat):Int).toNat ((k:Nat):Int).toNat)),(23,.own 9 o.length),(24,.i ((i:Nat):Int)),(25,.pel 9 1 i 0),(26,.i (x.getD i 0)),(27,.i ((k:Nat):Int)),(28,.v (.int .u64 ((k:Nat):Int))),(29,.i (shlI .i64 (1:Int) ((k:Nat):Int))),(30,.i (bitsI .or .i64 (x.getD i 0) (shlI .i64 (1:Int) ((k:Nat):Int)))),(31,.pel 9 1 i 0),(32,.i (((k+1):Nat):Int))],[(9,⟨3,.row (.ints (List.set x i (bitsI .or .i64 (x.getD i 0) (shlI .i64 (1:Int) ((k:Nat):Int)))))⟩)],[9,999]⟩)
       ((Y∧Y∧(Fits .i64 (((k+1):Nat):Int)))∧Y∧Y)
       ⟨⟨tt,tt,(by exact fits_i64 (by omega) (by omega))⟩,tt,tt⟩ ?_
      refine thenQ_normal ?_
      refine ⟨((k+1),(List.set x i (bitsI .or .i64 (x.getD i 0) (shlI .i64 (1:Int) ((k:Nat):Int))))),(show ((k+1)≤n.toNat)∧((List.set x i (bitsI .or .i64 (x.getD i 0) (shlI .i64 (1:Int) ((k:Nat):Int))))=partRows n.toNat (aheadF h) i (k+1)) from ⟨(by first | assumption | omega | rfl | (intro _ hjj; omega) | (simp; done) | (simp; omega)),(by first | (rw [hx]; exact partRows_skip n22) | (rw [hx]; exact partRows_set (by omega) (by rw [partRows_get _ (by omega)]; exact mask_or _ (by omega) h22)))⟩),(show n.toNat - (k+1)<n.toNat - k from (by first | omega | (simp_all; omega))),?_⟩
      exact Sub.of [] (@cast (((Si n)∧(((85:Nat)=85)∧(((.ep [.sl (.calls h)] : AV)=.ep [.sl (.calls h)])∧(([] : List Nat)=[]))∧Y)∧(((9:Nat)=9)∧(o.length=o.length)∧((9:Nat) ∈ ([9,999] : List Nat)))∧(Si ((i:Nat):Int))∧(Si (((List.length (List.replicate (Int.toNat n) (0:Int))):Nat):Int))∧(Si ((i:Nat):Int))∧(Si n)∧(Si (((k+1):Nat):Int))∧Y)∧((((3:Nat)=3)∧(Sd (.ints (List.set x i (bitsI .or .i64 (x.getD i 0) (shlI .i64 (1:Int) ((k:Nat):Int))))))∧((9:Nat) ∈ ([9,999] : List Nat)))∧Y)∧(true=true)∧(true=true)) _ (by kernel_rfl) ⟨⟨rfl,⟨rfl,⟨rfl,rfl⟩,tt⟩,⟨rfl,rfl,(by decide)⟩,rfl,rfl,rfl,rfl,rfl,tt⟩,⟨⟨rfl,rfl,(by decide)⟩,tt⟩,rfl,rfl⟩)
     ·intro n22
      refine W.skip (blockQ_normal (thenQ_normal ?_))
      refine Lk cok tab82AheadOf hnt [] (⟨[(0,.i n),(1,.fn 85 [.ep [.sl (.calls h)]]),(5,.own 9 o.length),(6,.i ((i:Nat):Int)),(7,.i ((k:Nat):Int)),(11,.i (((List.length (List.replicate (Int.toNat n) (0:Int))):Nat):Int)),(12,.i ((i:Nat):Int)),(15,.i n),(16,.i (((k+1):Nat):Int)),(22,.b (aheadF h ((i:Nat):Int).toNat ((k:Nat):Int).toNat)),(32,.i (((k+1):Nat):Int))],[(9,⟨3,.row (.ints x)⟩)],[9,999]⟩)
       ((Y∧Y∧(Fits .i64 (((k+1):Nat):Int)))∧Y∧Y)
       ⟨⟨tt,tt,(by exact fits_i64 (by omega) (by omega))⟩,tt,tt⟩ ?_
      refine thenQ_normal ?_
      refine ⟨((k+1),x),(show ((k+1)≤n.toNat)∧(x=partRows n.toNat (aheadF h) i (k+1)) from ⟨(by first | assumption | omega | rfl | (intro _ hjj; omega) | (simp; done) | (simp; omega)),(by first | (rw [hx]; exact partRows_skip n22) | (rw [hx]; exact partRows_set (by omega) (by rw [partRows_get _ (by omega)]; exact mask_or _ (by omega) h22)))⟩),(show n.toNat - (k+1)<n.toNat - k from (by first | omega | (simp_all; omega))),?_⟩
      exact Sub.of [] (@cast (((Si n)∧(((85:Nat)=85)∧(((.ep [.sl (.calls h)] : AV)=.ep [.sl (.calls h)])∧(([] : List Nat)=[]))∧Y)∧(((9:Nat)=9)∧(o.length=o.length)∧((9:Nat) ∈ ([9,999] : List Nat)))∧(Si ((i:Nat):Int))∧(Si (((List.length (List.replicate (Int.toNat n) (0:Int))):Nat):Int))∧(Si ((i:Nat):Int))∧(Si n)∧(Si (((k+1):Nat):Int))∧Y)∧((((3:Nat)=3)∧(Sd (.ints x))∧((9:Nat) ∈ ([9,999] : List Nat)))∧Y)∧(true=true)∧(true=true)) _ (by kernel_rfl) ⟨⟨rfl,⟨rfl,⟨rfl,rfl⟩,tt⟩,⟨rfl,rfl,(by decide)⟩,rfl,rfl,rfl,rfl,rfl,tt⟩,⟨⟨rfl,rfl,(by decide)⟩,tt⟩,rfl,rfl⟩)
    ·intro n17
     refine W.exit (thenQ_exit (thenQ_exit (blockQ_hit ?_)))
     refine blockQ_normal (thenQ_normal ?_)
     refine Lk cok tab82AheadOf hnt [] (⟨[(0,.i n),(1,.fn 85 [.ep [.sl (.calls h)]]),(5,.own 9 o.length),(6,.i ((i:Nat):Int)),(11,.i (((List.length (List.replicate (Int.toNat n) (0:Int))):Nat):Int)),(12,.i (((i+1):Nat):Int)),(15,.i n),(16,.i ((k:Nat):Int)),(17,.b (decide (((k:Nat):Int)<n))),(33,.i (((i+1):Nat):Int))],[(9,⟨3,.row (.ints x)⟩)],[9,999]⟩)
      ((Y∧Y∧(Fits .i64 (((i+1):Nat):Int)))∧Y∧Y)
      ⟨⟨tt,tt,(by exact fits_i64 (by omega) (by omega))⟩,tt,tt⟩ ?_
     refine thenQ_normal ?_
     refine ⟨((i+1),x),(show ((i+1)≤n.toNat)∧(x=partRows n.toNat (aheadF h) (i+1) 0) from ⟨(by first | assumption | omega | rfl | (intro _ hjj; omega) | (simp; done) | (simp; omega)),(by rw [hx,← partRows_next]; congr 1; omega)⟩),(show n.toNat - (i+1)<n.toNat - i from (by first | omega | (simp_all; omega))),?_⟩
     exact Sub.of [] (@cast (((Si n)∧(((85:Nat)=85)∧(((.ep [.sl (.calls h)] : AV)=.ep [.sl (.calls h)])∧(([] : List Nat)=[]))∧Y)∧(((9:Nat)=9)∧(o.length=x.length)∧((9:Nat) ∈ ([9,999] : List Nat)))∧(Si (((List.length (List.replicate (Int.toNat n) (0:Int))):Nat):Int))∧(Si (((i+1):Nat):Int))∧Y)∧((((3:Nat)=3)∧(Sd (.ints x))∧((9:Nat) ∈ ([9,999] : List Nat)))∧Y)∧(true=true)∧(true=true)) _ (by kernel_rfl) ⟨⟨rfl,⟨rfl,⟨rfl,rfl⟩,tt⟩,⟨rfl,(by first | rfl | omega | assumption | (symm; assumption) | simp | simp_all),(by decide)⟩,rfl,rfl,tt⟩,⟨⟨rfl,rfl,(by decide)⟩,tt⟩,rfl,rfl⟩)
  ·intro n13
   have n13' := n13
   simp only [ln] at n13'
   refine W.exit (thenQ_exit (thenQ_exit (blockQ_hit ?_)))
   refine thenQ_normal ?_
   refine Kk cok tab82AheadOf hnt [] [4] (⟨[(4,.own 9 o.length)],[(9,⟨3,.row (.ints o)⟩)],[9,999]⟩)
    (Y∧Y∧Y)
    ⟨tt,tt,tt⟩ ?_
   refine W.subS [] (⟨[(4,.sl (.ints o))],[],[999]⟩) (@cast ((((o.length=o.length)∧(Sd (.ints o))∧((9:Nat) ∉ ([] : List Nat)))∧Y)∧Y∧(true=true)∧(true=true)) _ (by kernel_rfl) ⟨⟨⟨rfl,rfl,(by decide)⟩,tt⟩,tt,rfl,rfl⟩) ?_
   refine W.ret ?_
   exact endQ_ret (.sl (.ints o)) (by kernel_rfl) (@cast ((.ints o:Dat)=.ints (rowsOf n.toNat (aheadF h))) _ (by kernel_rfl) (congrArg Dat.ints (by rw [ho,← partRows_end]; congr 1; omega)))
theorem ent82AheadOf : Entr prog 82 := ⟨_,func82,rfl,by decide⟩
end Go.Proofs.Tryz

set_option linter.unusedSimpArgs false
set_option linter.unusedVariables false
namespace Go.Proofs.Tryz
open Go.Ab Go.RowKit
def fs60 : FnS := fnS [.s .calls] [.calls] (fun _ (h,_)=>(.sl (.ints (aheadOf h)),[],Y))
abbrev T60 : Tab := lk [(52,fs52),(82,fs82AheadOf)]
theorem tab60 : TabOK prog T60 := (TabOK.cons ok52 ent52 (TabOK.cons ok82AheadOf ent82AheadOf TabOK.nil))
theorem ok60 : FnOK prog 60 fs60 := by
 refine FnOK.mk cok func60 rfl rfl rfl ?_
 rintro fl ⟨(h : List CallD),_⟩ hpre F hnt0 _
 have hnt : F.nt=10 := hnt0.trans ntmps60
 clear hpre
 refine W.to (⟨[(0,.sl (.calls h))],[],[999]⟩) rfl ?_
 refine W.lenOf 0 (.calls h) (by kernel_rfl) ?_
 intro hl_h; replace hl_h : List.length h≤9223372036854775807 := hl_h
 refine Kk cok tab60 hnt [] [1] (⟨[(1,.ptr 1 0)],[(1,⟨38,.fix [.sl (.calls h)]⟩)],[1,999]⟩)
  (Y∧Y∧Y)
  ⟨tt,tt,tt⟩ ?_
 refine W.subS [] (⟨[(1,.ep [.sl (.calls h)])],[],[999]⟩) (@cast ((((([.sl (.calls h)] : List AV)=[.sl (.calls h)])∧(([] : List Nat)=[])∧((1:Nat) ∉ ([] : List Nat)))∧Y)∧Y∧(true=true)∧(true=true)) _ (by kernel_rfl) ⟨⟨⟨rfl,rfl,(by decide)⟩,tt⟩,tt,rfl,rfl⟩) ?_
 refine W.seq ?_
 refine Kk cok tab60 hnt [] [1,5] (⟨[(1,.ep [.sl (.calls h)]),(5,.b (!(validHistory h)))],[],[999]⟩)
  (Y∧(Y∧(Y∧Y)∧Y)∧Y∧Y)
  ⟨tt,⟨tt,⟨tt,tt⟩,tt⟩,tt,tt⟩ ?_
 refine W.if' (!(validHistory h)) (.b (!(validHistory h))) (by kernel_rfl) rfl trivial ?_ ?_
 ·intro h5
  refine Kk cok tab60 hnt [] [2] (⟨[(2,.v (.slice none 0 0))],[],[999]⟩)
   (Y∧Y)
   ⟨tt,tt⟩ ?_
  refine W.ret (thenQ_ret ?_)
  exact endQ_ret (.v (.slice none 0 0)) (by kernel_rfl) (@cast (((Value.slice none 0 0:Value)=.slice none 0 0)∧((Dat.ints (aheadOf h)).len=0)) _ (by kernel_rfl) ⟨rfl,(by show List.length (aheadOf h)=0; unfold aheadOf; rw [not_f h5]; rfl)⟩)
 ·intro n5
  refine W.skip (thenQ_normal ?_)
  refine Kk cok tab60 hnt [] [2] (⟨[(2,.sl (.ints (rowsOf (h.length:Int).toNat (aheadF h))))],[],[999]⟩)
   (Y∧Y∧Y∧(Y∧(Y∧Y∧Y)∧0≤(h.length:Int)∧(h.length:Int)≤60∧(h.length:Int)=h.length)∧Y∧Y)
   ⟨tt,tt,tt,⟨tt,⟨tt,tt,tt⟩,(by have hv := (valid_iff.1 (not_g n5)).1; omega)⟩,tt,tt⟩ ?_
  refine W.ret ?_
  exact endQ_ret (.sl (.ints (rowsOf (h.length:Int).toNat (aheadF h)))) (by kernel_rfl) (@cast ((.ints (rowsOf (h.length:Int).toNat (aheadF h)):Dat)=.ints (aheadOf h)) _ (by kernel_rfl) (congrArg Dat.ints (by unfold aheadOf; rw [not_g n5]; rfl)))
theorem ent60 : Entr prog 60 := ⟨_,func60,rfl,by decide⟩
end Go.Proofs.Tryz

set_option linter.unusedSimpArgs false
set_option linter.unusedVariables false
namespace Go.Proofs.Tryz
open Go.Ab Go.RowKit
def fs38 : FnS := fnS [.o,.s .calls] [.str,.calls] (fun _ (s,h,_)=>(.sl (.intss (ordersBy s h (aheadF h))),[],Y))
abbrev T38 : Tab := lk [(32,fs32),(52,fs52),(56,fs56),(60,fs60)]
theorem tab38 : TabOK prog T38 := (TabOK.cons ok32 ent32 (TabOK.cons ok52 ent52 (TabOK.cons ok56 ent56 (TabOK.cons ok60 ent60 TabOK.nil))))
theorem ok38 : FnOK prog 38 fs38 := by
 refine FnOK.mk cok func38 rfl rfl rfl ?_
 rintro fl ⟨(s:ByteArray),(h : List CallD),_⟩ hpre F hnt0 _
 have hnt : F.nt=18 := hnt0.trans ntmps38
 clear hpre
 refine W.to (⟨[(0,.v (.string s)),(1,.sl (.calls h))],[],[999]⟩) rfl ?_
 refine W.lenOf 1 (.calls h) (by kernel_rfl) ?_
 intro hl_h; replace hl_h : List.length h≤9223372036854775807 := hl_h
 refine Kk cok tab38 hnt [] [0,1] (⟨[(0,.v (.string s)),(1,.sl (.calls h))],[],[999]⟩)
  (Y∧Y)
  ⟨tt,tt⟩ ?_
 refine W.seq ?_
 refine Kk cok tab38 hnt [] [0,1,12] (⟨[(0,.v (.string s)),(1,.sl (.calls h)),(12,.b ((!(isObject s)) || (!(validHistory h))))],[],[999]⟩)
  ((fun (Z1:Bool)=>(Y∧((Y∧((Y∧Y)∧Y))∧(Y∧(Y∧(((!Z1)=true→Y)∧(((!Z1)=true→(Y∧(((((!Z1)=true)∧Y)∧Y)∧Y)))∧(((!Z1)=true→(((!Z1)=true)∧Y))∧((Y∧((Z1=true→Y)∧(Z1=false→((!Z1)=true)∧Y)))∧Y))))))))) (!(isObject s)))
  ⟨tt,⟨tt,⟨tt,tt⟩,tt⟩,tt,tt,(fun _=>trivial),(fun hG=>⟨tt,⟨⟨hG,tt⟩,tt⟩,tt⟩),(fun hG=>⟨hG,tt⟩),⟨tt,(fun _=>trivial),(fun hp=>⟨(not_t hp),tt⟩)⟩,tt⟩ ?_
 refine W.if' ((!(isObject s)) || (!(validHistory h))) (.b ((!(isObject s)) || (!(validHistory h)))) (by kernel_rfl) rfl trivial ?_ ?_
 ·intro h12
  refine Kk cok tab38 hnt [] [4] (⟨[(4,.v (.slice none 0 0))],[],[999]⟩)
   (Y∧Y)
   ⟨tt,tt⟩ ?_
  refine W.ret (thenQ_ret ?_)
  exact endQ_ret (.v (.slice none 0 0)) (by kernel_rfl) (@cast (((Value.slice none 0 0:Value)=.slice none 0 0)∧((Dat.intss (ordersBy s h (aheadF h))).len=0)) _ (by kernel_rfl) ⟨rfl,(by show List.length (ordersBy s h (aheadF h))=0; first | exact (by_no' h12).symm | (rw [by_no' h12]; rfl))⟩)
 ·intro n12
  refine W.skip (thenQ_normal ?_)
  refine Kk cok tab38 hnt [] [4] (⟨[(4,.sl (.intss (ordersF s h (bitF (aheadOf h)) h.length [])))],[],[999]⟩)
   (Y∧Y∧Y∧(Y∧(Y∧Y)∧Y)∧(Y∧(Y∧Y∧Y∧Y)∧(isObject s=true)∧(validHistory h=true)∧((aheadOf h)=rowsOf h.length (bitF (aheadOf h))))∧Y∧Y)
   ⟨tt,tt,tt,⟨tt,⟨tt,tt⟩,tt⟩,⟨tt,⟨tt,tt,tt,tt⟩,(by exact and_l (by_yes' n12)),(by exact and_r (by_yes' n12)),(by exact ahead_rows (and_r (by_yes' n12)))⟩,tt,tt⟩ ?_
  refine W.ret ?_
  exact endQ_ret (.sl (.intss (ordersF s h (bitF (aheadOf h)) h.length []))) (by kernel_rfl) (@cast ((.intss (ordersF s h (bitF (aheadOf h)) h.length []):Dat)=.intss (ordersBy s h (aheadF h))) _ (by kernel_rfl) (congrArg Dat.intss (by exact by_val (by_yes' n12) (ahead_eq (and_r (by_yes' n12))))))
theorem ent38 : Entr prog 38 := ⟨_,func38,rfl,by decide⟩
end Go.Proofs.Tryz
