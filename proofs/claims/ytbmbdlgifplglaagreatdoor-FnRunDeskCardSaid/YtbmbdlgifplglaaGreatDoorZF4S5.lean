import Derived.Test.YtbmbdlgifplglaaGreatDoorZF4S0
import Derived.Test.YtbmbdlgifplglaaGreatDoorZF4S1
import Derived.Test.YtbmbdlgifplglaaGreatDoorZF4S3
import Derived.Test.YtbmbdlgifplglaaGreatDoorZF4S4
import Derived.Test.YtbmbdlgifplglaaGreatDoorZF4S2
set_option maxRecDepth 100000
set_option maxHeartbeats 1000000
set_option linter.unusedSimpArgs false
set_option linter.unusedVariables false
namespace Go.Proofs.Tryz
open Go.Ab Go.RowKit
def fs35 : FnS := fnS [.o,.s .calls] [.str,.calls] (fun _ (s,h,_)=>(.b (explains s h (quietF h)),[],Y))
abbrev T35 : Tab := lk [(32,fs32),(52,fs52),(56,fs56),(57,fs57)]
theorem tab35 : TabOK prog T35 := (TabOK.cons ok32 ent32 (TabOK.cons ok52 ent52 (TabOK.cons ok56 ent56 (TabOK.cons ok57 ent57 TabOK.nil))))
theorem ok35 : FnOK prog 35 fs35 := by
 refine FnOK.mk cok func35 rfl rfl rfl ?_
 rintro fl ⟨(s:ByteArray),(h : List CallD),_⟩ hpre F hnt0 _
 have hnt : F.nt=20 := hnt0.trans ntmps35
 clear hpre
 refine W.to (⟨[(0,.v (.string s)),(1,.sl (.calls h))],[],[999]⟩) rfl ?_
 refine W.lenOf 1 (.calls h) (by kernel_rfl) ?_
 intro hl_h; replace hl_h : List.length h≤9223372036854775807 := hl_h
 refine kE tab35 hnt [(0,.v (.string s)),(1,.sl (.calls h))] 2 [] tt ?_
 refine kE tab35 hnt [(4,.b (((isObject s) && (validHistory h)) && (decide ((0:Int)<(((List.length (ordersF s h (bitF (quietAhead h)) h.length [])):Nat):Int)))))] 2491814849615429417561 ((fun (Z1:Bool)=>((fun (Z2:Bool)=>([Z1=true→Y,Z1=true→(Y∧((((Z1=true)∧Y)∧Y)∧Y)),Z1=true→(Z1=true)∧Y,Z1=false→Y,Z2=true→Y,Z2=true→Y,Z2=true→Y,Z2=true→(Y∧((((Z2=true)∧Y)∧Y)∧Y)),Z2=true→(Y∧((((Z2=true)∧Y)∧(((Z2=true)∧Y)∧(((Z2=true)∧Y)∧Y)))∧((isObject s=true)∧((validHistory h=true)∧((quietAhead h)=rowsOf h.length (bitF (quietAhead h))))))),Z2=true→((Z2=true)∧Y),Z2=true→(((Z2=true)∧Y)∧(Y∧Y)),Z2=true→(Z2=true)∧Y,Z2=false→Y]:PL)) (Z1 && (validHistory h)))) (isObject s)) ⟨(fun _=>trivial),(fun hG=>⟨tt,⟨⟨hG,tt⟩,tt⟩,tt⟩),(fun hp=>⟨hp,tt⟩),(fun _=>trivial),(fun _=>trivial),(fun _=>trivial),(fun _=>trivial),(fun hG=>⟨tt,⟨⟨hG,tt⟩,tt⟩,tt⟩),(fun hG=>⟨tt,⟨⟨hG,tt⟩,⟨hG,tt⟩,⟨hG,tt⟩,tt⟩,(by exact and_l hG),(by exact and_r hG),(by exact quiet_rows (and_r hG))⟩),(fun hG=>⟨hG,tt⟩),(fun hG=>⟨⟨hG,tt⟩,tt,tt⟩),(fun hp=>⟨hp,tt⟩),(fun _=>trivial)⟩ ?_
 refine W.ret ?_
 exact eB (show (((isObject s) && (validHistory h)) && (decide ((0:Int)<(((List.length (ordersF s h (bitF (quietAhead h)) h.length [])):Nat):Int))))=(explains s h (quietF h)) from (by exact by_gt quiet_eq))
theorem ent35 : Entr prog 35 := ⟨_,func35,rfl,by decide⟩
end Go.Proofs.Tryz

set_option linter.unusedSimpArgs false
set_option linter.unusedVariables false
namespace Go.Proofs.Tryz
open Go.Ab Go.RowKit
def fs37 : FnS := fnS [.s .calls] [.calls] (fun _ (h,_)=>(.i (widthOf h),[],Y))
abbrev T37 : Tab := lk [(52,fs52),(59,fs59)]
theorem tab37 : TabOK prog T37 := (TabOK.cons ok52 ent52 (TabOK.cons ok59 ent59 TabOK.nil))
theorem ok37 : FnOK prog 37 fs37 := by
 refine FnOK.mk cok func37 rfl rfl rfl ?_
 rintro fl ⟨(h : List CallD),_⟩ hpre F hnt0 _
 have hnt : F.nt=18 := hnt0.trans ntmps37
 clear hpre
 refine W.to (⟨[(0,.sl (.calls h))],[],[999]⟩) rfl ?_
 refine W.lenOf 0 (.calls h) (by kernel_rfl) ?_
 intro hl_h; replace hl_h : List.length h≤9223372036854775807 := hl_h
 refine kE tab37 hnt [(0,.sl (.calls h))] 2 [] tt ?_
 refine W.seq ?_
 refine kE tab37 hnt [(0,.sl (.calls h)),(7,.b (!(validHistory h)))] 120116 [] tt ?_
 refine ifb (!(validHistory h)) ?_ ?_
 ·intro h7
  refine kE tab37 hnt [(2,.i (-1:Int))] 2 [] tt ?_
  refine W.ret (thenQ_ret ?_)
  exact eI (show (-1:Int)=(widthOf h) from (by unfold widthOf; rw [not_f h7]; rfl))
 ·intro n7
  refine W.skip (thenQ_normal ?_)
  refine kE tab37 hnt [(0,.sl (.calls h)),(3,.i (0:Int))] 2 [] tt ?_
  refine W.seq ?_
  refine kE tab37 hnt [(0,.sl (.calls h)),(3,.i (0:Int)),(8,.i (0:Int))] 2 [] tt ?_
  refine W.block ?_
  refine W.loop (ι := Int × Nat) (fun (x : Int × Nat)=>match x with | (most,t)=>(⟨[(0,.sl (.calls h)),(3,.i most),(8,.i ((t:Nat):Int))],[],[999]⟩:St))
   (fun (x : Int × Nat)=>match x with | (most,t)=>(t≤31)∧(most=maxN t (fun tt=>openAt h ((tt:Nat):Int))))
   (fun (x : Int × Nat)=>match x with | (most,t)=>(31 - t:Nat)) ((0:Int),0) ?_ ?_ ?_
  ·exact ⟨oi,(by rfl)⟩
  ·exact Sk
  ·rintro ⟨most,t⟩ hC0
   obtain ⟨ht,hm⟩ := hC0
   refine kE tab37 hnt [(0,.sl (.calls h)),(3,.i most),(8,.i ((t:Nat):Int)),(9,.b (decide (((t:Nat):Int)<(31:Int))))] 62 [] tt ?_
   refine W.seq ?_
   refine ifp (((t:Nat):Int)<(31:Int)) ?_ ?_
   ·intro h9
    refine W.skip (thenQ_normal ?_)
    refine W.seq ?_
    refine W.block ?_
    refine kE tab37 hnt [(0,.sl (.calls h)),(3,.i most),(4,.i ((t:Nat):Int)),(8,.i ((t:Nat):Int))] 20 [] tt ?_
    refine lE tab37 hnt [(0,.sl (.calls h)),(3,.i (max most (openAt h ((t:Nat):Int)))),(8,.i ((t:Nat):Int))] 7319168930 [] tt ?_
    refine blockQ_normal (thenQ_normal ?_)
    refine lE tab37 hnt [(0,.sl (.calls h)),(3,.i (max most (openAt h ((t:Nat):Int)))),(8,.i (((t+1):Nat):Int))] 1763 [Fits .i64 (((t+1):Nat):Int)] fi ?_
    refine thenQ_normal ?_
    refine ⟨((max most (openAt h ((t:Nat):Int))),(t+1)),⟨oi,(by rw [hm]; rfl)⟩,(show 31 - (t+1)<31 - t from o2),?_⟩
    exact Sk
   ·intro n9
    refine W.exit (thenQ_exit (thenQ_exit (blockQ_hit ?_)))
    refine thenQ_normal ?_
    refine kE tab37 hnt [(2,.i most)] 20 [] tt ?_
    refine W.ret ?_
    exact eI (show most=(widthOf h) from (by unfold widthOf; rw [not_g n7,hm,show t=31 by omega]; rfl))
theorem ent37 : Entr prog 37 := ⟨_,func37,rfl,by decide⟩
end Go.Proofs.Tryz

set_option linter.unusedSimpArgs false
set_option linter.unusedVariables false
namespace Go.Proofs.Tryz
open Go.Ab Go.RowKit
def fs85 : FnS := fnS [.o,.o,.o] [.int,.int,(.ep .calls)] (fun _ (i,k,h,_)=>(.b (aheadF h i.toNat k.toNat),[],(0≤i∧i<h.length)∧(0≤k∧k<h.length)))
abbrev T85 : Tab := lk [(86,fs86)]
theorem tab85 : TabOK prog T85 := (TabOK.cons ok86 ent86 TabOK.nil)
theorem ok85 : FnOK prog 85 fs85 := by
 refine FnOK.mk cok func85 rfl rfl rfl ?_
 rintro fl ⟨(i:Int),(k:Int),(h : List CallD),_⟩ hpre F hnt0 _
 have hnt : F.nt=15 := hnt0.trans ntmps85
 replace hpre : (0≤i∧i<h.length)∧(0≤k∧k<h.length) := hpre
 obtain ⟨hi,hk⟩ := hpre
 refine W.to (⟨[(0,.i i),(1,.i k),(2,.ep [.sl (.calls h)])],[],[999]⟩) rfl ?_
 refine kE tab85 hnt [(0,.i i),(1,.i k),(2,.ep [.sl (.calls h)])] 2 [] tt ?_
 refine kA tab85 hnt [(5,.b (isBefore (h.getD (Int.toNat k) default) (h.getD (Int.toNat i) default)))] [] [999] 2740188626108462000 [0≤k,k<(h.length:Int),0≤i,i<(h.length:Int)] ⟨om,om,om,om⟩ ?_
 refine W.ret ?_
 exact eB (show (isBefore (h.getD (Int.toNat k) default) (h.getD (Int.toNat i) default))=(aheadF h i.toNat k.toNat) from (by first | rfl | simp_all))
theorem ent85 : Entr prog 85 := ⟨_,func85,rfl,by decide⟩
end Go.Proofs.Tryz

set_option linter.unusedSimpArgs false
set_option linter.unusedVariables false
namespace Go.Proofs.Tryz
open Go.Ab Go.RowKit
def fs82AheadOf : FnS := fnS [.o,.o] [.int,(.fn1 85 (.ep .calls))] (fun _ (n,h,_)=>(.sl (.ints (rowsOf n.toNat (aheadF h))),[],(0≤n∧n≤60∧n=h.length)))
abbrev T82AheadOf : Tab := lk [(85,fs85)]
theorem tab82AheadOf : TabOK prog T82AheadOf := (TabOK.cons ok85 ent85 TabOK.nil)
abbrev v82AheadOf0 (h:List CallD):AV:=.fn 85 [.ep [.sl (.calls h)]]
abbrev v82AheadOf1 (n:Int):AV:=.i (((List.length (List.replicate (Int.toNat n) (0:Int))):Nat):Int)
theorem ok82AheadOf : FnOK prog 82 fs82AheadOf := by
 refine FnOK.mk cok func82 rfl rfl rfl ?_
 rintro fl ⟨(n:Int),(h : List CallD),_⟩ hpre F hnt0 _
 have hnt : F.nt=35 := hnt0.trans ntmps82
 replace hpre : (0≤n∧n≤60∧n=h.length) := hpre
 have hn := hpre
 refine W.to (⟨[(0,.i n),(1,(v82AheadOf0 h))],[],[999]⟩) rfl ?_
 refine kE tab82AheadOf hnt [(0,.i n),(1,(v82AheadOf0 h))] 2 [] tt ?_
 refine kS tab82AheadOf hnt [(0,.i n),(1,(v82AheadOf0 h)),(5,.own 9 (List.length (List.replicate (Int.toNat n) (0:Int))))] [(9,⟨3,.row (.ints (List.replicate (Int.toNat n) (0:Int)))⟩)] [9,999] 1349939 [n=n,0≤n,n * 8≤281474976710656] ⟨rfl,om,om⟩ ?_ [9]
 refine W.seq ?_
 refine kE tab82AheadOf hnt [(0,.i n),(1,(v82AheadOf0 h)),(5,.own 9 (List.length (List.replicate (Int.toNat n) (0:Int)))),(11,(v82AheadOf1 n)),(12,.i (0:Int))] 182 [] tt ?_
 refine W.block ?_
 refine W.loop (ι := Nat × (List Int)) (fun (x : Nat × (List Int))=>match x with | (i,o)=>(⟨[(0,.i n),(1,(v82AheadOf0 h)),(5,.own 9 o.length),(11,(v82AheadOf1 n)),(12,.i ((i:Nat):Int))],[(9,⟨3,.row (.ints o)⟩)],[9,999]⟩:St))
  (fun (x : Nat × (List Int))=>match x with | (i,o)=>(i≤n.toNat)∧(o=partRows n.toNat (aheadF h) i 0))
  (fun (x : Nat × (List Int))=>match x with | (i,o)=>(n.toNat - i:Nat)) (0,(List.replicate (Int.toNat n) (0:Int))) ?_ ?_ ?_
 ·exact ⟨oi,(by exact partRows_zero _ _)⟩
 ·exact Sk
 ·rintro ⟨i,o⟩ hC0
  obtain ⟨hi,ho⟩ := hC0
  have hol : o.length=n.toNat := by rw [ho]; exact partRows_len _ _ _ _
  refine kE tab82AheadOf hnt [(0,.i n),(1,(v82AheadOf0 h)),(5,.own 9 o.length),(11,(v82AheadOf1 n)),(12,.i ((i:Nat):Int)),(13,.b (decide (((i:Nat):Int)<(((List.length (List.replicate (Int.toNat n) (0:Int))):Nat):Int))))] 62 [] tt ?_
  refine W.seq ?_
  refine ifp (((i:Nat):Int)<(((List.length (List.replicate (Int.toNat n) (0:Int))):Nat):Int)) ?_ ?_
  ·intro h13
   have h13' := h13
   simp only [ln] at h13'
   refine W.skip (thenQ_normal ?_)
   refine W.seq ?_
   refine W.block ?_
   refine kE tab82AheadOf hnt [(0,.i n),(1,(v82AheadOf0 h)),(5,.own 9 o.length),(6,.i ((i:Nat):Int)),(11,(v82AheadOf1 n)),(12,.i ((i:Nat):Int))] 20 [] tt ?_
   refine kE tab82AheadOf hnt [(0,.i n),(1,(v82AheadOf0 h)),(5,.own 9 o.length),(6,.i ((i:Nat):Int)),(11,(v82AheadOf1 n)),(12,.i ((i:Nat):Int)),(15,.i n),(16,.i (0:Int))] 20 [] tt ?_
   refine W.block ?_
   refine W.loop (ι := Nat × (List Int)) (fun (x : Nat × (List Int))=>match x with | (k,x)=>(⟨[(0,.i n),(1,(v82AheadOf0 h)),(5,.own 9 o.length),(6,.i ((i:Nat):Int)),(11,(v82AheadOf1 n)),(12,.i ((i:Nat):Int)),(15,.i n),(16,.i ((k:Nat):Int))],[(9,⟨3,.row (.ints x)⟩)],[9,999]⟩:St))
    (fun (x : Nat × (List Int))=>match x with | (k,x)=>(k≤n.toNat)∧(x=partRows n.toNat (aheadF h) i k))
    (fun (x : Nat × (List Int))=>match x with | (k,x)=>(n.toNat - k:Nat)) (0,o) ?_ ?_ ?_
   ·exact ⟨oi,(by exact ho)⟩
   ·exact Sk
   ·rintro ⟨k,x⟩ hC0
    obtain ⟨hk,hx⟩ := hC0
    have hxl : x.length=n.toNat := by rw [hx]; exact partRows_len _ _ _ _
    refine kE tab82AheadOf hnt [(0,.i n),(1,(v82AheadOf0 h)),(5,.own 9 o.length),(6,.i ((i:Nat):Int)),(11,(v82AheadOf1 n)),(12,.i ((i:Nat):Int)),(15,.i n),(16,.i ((k:Nat):Int)),(17,.b (decide (((k:Nat):Int)<n)))] 62 [] tt ?_
    refine W.seq ?_
    refine ifp (((k:Nat):Int)<n) ?_ ?_
    ·intro h17
     refine W.skip (thenQ_normal ?_)
     refine W.seq ?_
     refine W.block ?_
     refine kE tab82AheadOf hnt [(0,.i n),(1,(v82AheadOf0 h)),(5,.own 9 o.length),(6,.i ((i:Nat):Int)),(7,.i ((k:Nat):Int)),(11,(v82AheadOf1 n)),(12,.i ((i:Nat):Int)),(15,.i n),(16,.i ((k:Nat):Int))] 20 [] tt ?_
     refine kE tab82AheadOf hnt [(0,.i n),(1,(v82AheadOf0 h)),(5,.own 9 o.length),(6,.i ((i:Nat):Int)),(7,.i ((k:Nat):Int)),(11,(v82AheadOf1 n)),(12,.i ((i:Nat):Int)),(15,.i n),(16,.i ((k:Nat):Int)),(22,.b (aheadF h ((i:Nat):Int).toNat ((k:Nat):Int).toNat))] 1818754580 [0≤((i:Nat):Int)∧((i:Nat):Int)<h.length,0≤((k:Nat):Int)∧((k:Nat):Int)<h.length] ⟨om,om⟩ ?_
     refine ifb (aheadF h ((i:Nat):Int).toNat ((k:Nat):Int).toNat) ?_ ?_
     ·intro h22
      refine lS tab82AheadOf hnt [(0,.i n),(1,(v82AheadOf0 h)),(5,.own 9 o.length),(6,.i ((i:Nat):Int)),(11,(v82AheadOf1 n)),(12,.i ((i:Nat):Int)),(15,.i n),(16,.i ((k:Nat):Int))] [(9,⟨3,.row (.ints (List.set x i (bitsI .or .i64 (x.getD i 0) (shlI .i64 (1:Int) ((k:Nat):Int)))))⟩)] [9,999] 300875065856638076029259 [0≤((i:Nat):Int),((i:Nat):Int)<(o.length:Int),i<x.length,Fits .u64 ((k:Nat):Int),0≤((k:Nat):Int),Fits .i64 (shlI .i64 (1:Int) ((k:Nat):Int)),0≤((i:Nat):Int),((i:Nat):Int)<(o.length:Int),i<x.length] ⟨om,om,om,(by exact fits_u64 (by omega) (by omega)),om,(by exact fits_shl (by omega)),om,om,om⟩ ?_
      refine blockQ_normal (thenQ_normal ?_)
      refine lE tab82AheadOf hnt [(0,.i n),(1,(v82AheadOf0 h)),(5,.own 9 o.length),(6,.i ((i:Nat):Int)),(11,(v82AheadOf1 n)),(12,.i ((i:Nat):Int)),(15,.i n),(16,.i (((k+1):Nat):Int))] 1763 [Fits .i64 (((k+1):Nat):Int)] fi ?_
      refine thenQ_normal ?_
      refine ⟨((k+1),(List.set x i (bitsI .or .i64 (x.getD i 0) (shlI .i64 (1:Int) ((k:Nat):Int))))),⟨oi,(by first | (rw [hx]; exact partRows_skip n22) | (rw [hx]; exact partRows_set (by omega) (by rw [partRows_get _ (by omega)]; exact mask_or _ (by omega) h22)))⟩,(show n.toNat - (k+1)<n.toNat - k from o2),?_⟩
      exact Sk
     ·intro n22
      refine W.skip (blockQ_normal (thenQ_normal ?_))
      refine lE tab82AheadOf hnt [(0,.i n),(1,(v82AheadOf0 h)),(5,.own 9 o.length),(6,.i ((i:Nat):Int)),(11,(v82AheadOf1 n)),(12,.i ((i:Nat):Int)),(15,.i n),(16,.i (((k+1):Nat):Int))] 1763 [Fits .i64 (((k+1):Nat):Int)] fi ?_
      refine thenQ_normal ?_
      refine ⟨((k+1),x),⟨oi,(by first | (rw [hx]; exact partRows_skip n22) | (rw [hx]; exact partRows_set (by omega) (by rw [partRows_get _ (by omega)]; exact mask_or _ (by omega) h22)))⟩,(show n.toNat - (k+1)<n.toNat - k from o2),?_⟩
      exact Sk
    ·intro n17
     refine W.exit (thenQ_exit (thenQ_exit (blockQ_hit ?_)))
     refine blockQ_normal (thenQ_normal ?_)
     refine lE tab82AheadOf hnt [(0,.i n),(1,(v82AheadOf0 h)),(5,.own 9 o.length),(11,(v82AheadOf1 n)),(12,.i (((i+1):Nat):Int))] 1763 [Fits .i64 (((i+1):Nat):Int)] fi ?_
     refine thenQ_normal ?_
     refine ⟨((i+1),x),⟨oi,(by rw [hx,← partRows_next]; congr 1; omega)⟩,(show n.toNat - (i+1)<n.toNat - i from o2),?_⟩
     exact Sub.of [] (@cast (((Si n)∧(((85:Nat)=85)∧(((.ep [.sl (.calls h)] : AV)=.ep [.sl (.calls h)])∧(([] : List Nat)=[]))∧Y)∧(((9:Nat)=9)∧(o.length=x.length)∧((9:Nat) ∈ ([9,999] : List Nat)))∧(Si (((List.length (List.replicate (Int.toNat n) (0:Int))):Nat):Int))∧(Si (((i+1):Nat):Int))∧Y)∧((((3:Nat)=3)∧(Sd (.ints x))∧((9:Nat) ∈ ([9,999] : List Nat)))∧Y)∧(true=true)∧(true=true)) _ (by kernel_rfl) ⟨⟨rfl,⟨rfl,⟨rfl,rfl⟩,tt⟩,⟨rfl,(by first | rfl | omega | assumption | (symm; assumption) | simp | simp_all),(by decide)⟩,rfl,rfl,tt⟩,⟨⟨rfl,rfl,(by decide)⟩,tt⟩,rfl,rfl⟩)
  ·intro n13
   have n13' := n13
   simp only [ln] at n13'
   refine W.exit (thenQ_exit (thenQ_exit (blockQ_hit ?_)))
   refine thenQ_normal ?_
   refine kE tab82AheadOf hnt [(4,.own 9 o.length)] 20 [] tt ?_
   refine W.subS [] (⟨[(4,.sl (.ints o))],[],[999]⟩) (@cast ((((o.length=o.length)∧(Sd (.ints o))∧((9:Nat) ∉ ([] : List Nat)))∧Y)∧Y∧(true=true)∧(true=true)) _ (by kernel_rfl) ⟨⟨⟨rfl,rfl,(by decide)⟩,tt⟩,tt,rfl,rfl⟩) ?_
   refine W.ret ?_
   exact endQ_ret (.sl (.ints o)) (by kernel_rfl) (@cast ((.ints o:Dat)=.ints (rowsOf n.toNat (aheadF h))) _ (by kernel_rfl) (congrArg Dat.ints (by rw [ho,← partRows_end]; congr 1; omega)))
theorem ent82AheadOf : Entr prog 82 := ⟨_,func82,rfl,by decide⟩
end Go.Proofs.Tryz

set_option linter.unusedSimpArgs false
set_option linter.unusedVariables false
namespace Go.Proofs.Tryz
open Go.Ab Go.RowKit
def fs60 : FnS := fnS [.s .calls] [.calls] (fun _ (h,_)=>(.sl (.ints (aheadOf h)),[],Y))
abbrev T60 : Tab := lk [(52,fs52),(82,fs82AheadOf)]
theorem tab60 : TabOK prog T60 := (TabOK.cons ok52 ent52 (TabOK.cons ok82AheadOf ent82AheadOf TabOK.nil))
theorem ok60 : FnOK prog 60 fs60 := by
 refine FnOK.mk cok func60 rfl rfl rfl ?_
 rintro fl ⟨(h : List CallD),_⟩ hpre F hnt0 _
 have hnt : F.nt=10 := hnt0.trans ntmps60
 clear hpre
 refine W.to (⟨[(0,.sl (.calls h))],[],[999]⟩) rfl ?_
 refine W.lenOf 0 (.calls h) (by kernel_rfl) ?_
 intro hl_h; replace hl_h : List.length h≤9223372036854775807 := hl_h
 refine kS tab60 hnt [(1,.ptr 1 0)] [(1,⟨38,.fix [.sl (.calls h)]⟩)] [1,999] 20 [] tt ?_
 refine W.subS [] (⟨[(1,.ep [.sl (.calls h)])],[],[999]⟩) (@cast ((((([.sl (.calls h)] : List AV)=[.sl (.calls h)])∧(([] : List Nat)=[])∧((1:Nat) ∉ ([] : List Nat)))∧Y)∧Y∧(true=true)∧(true=true)) _ (by kernel_rfl) ⟨⟨⟨rfl,rfl,(by decide)⟩,tt⟩,tt,rfl,rfl⟩) ?_
 refine W.seq ?_
 refine kE tab60 hnt [(1,.ep [.sl (.calls h)]),(5,.b (!(validHistory h)))] 120116 [] tt ?_
 refine ifb (!(validHistory h)) ?_ ?_
 ·intro h5
  refine kE tab60 hnt [(2,.v (.slice none 0 0))] 2 [] tt ?_
  refine W.ret (thenQ_ret ?_)
  exact endQ_ret (.v (.slice none 0 0)) (by kernel_rfl) (@cast (((Value.slice none 0 0:Value)=.slice none 0 0)∧((Dat.ints (aheadOf h)).len=0)) _ (by kernel_rfl) ⟨rfl,(by show List.length (aheadOf h)=0; unfold aheadOf; rw [not_f h5]; rfl)⟩)
 ·intro n5
  refine W.skip (thenQ_normal ?_)
  refine kE tab60 hnt [(2,.sl (.ints (rowsOf (h.length:Int).toNat (aheadF h))))] 101668709 [0≤(h.length:Int)∧(h.length:Int)≤60∧(h.length:Int)=h.length] (by have hv := (valid_iff.1 (not_g n5)).1; omega) ?_
  refine W.ret ?_
  exact endQ_ret (.sl (.ints (rowsOf (h.length:Int).toNat (aheadF h)))) (by kernel_rfl) (@cast ((.ints (rowsOf (h.length:Int).toNat (aheadF h)):Dat)=.ints (aheadOf h)) _ (by kernel_rfl) (congrArg Dat.ints (by unfold aheadOf; rw [not_g n5]; rfl)))
theorem ent60 : Entr prog 60 := ⟨_,func60,rfl,by decide⟩
end Go.Proofs.Tryz

set_option linter.unusedSimpArgs false
set_option linter.unusedVariables false
namespace Go.Proofs.Tryz
open Go.Ab Go.RowKit
def fs38 : FnS := fnS [.o,.s .calls] [.str,.calls] (fun _ (s,h,_)=>(.sl (.intss (ordersBy s h (aheadF h))),[],Y))
abbrev T38 : Tab := lk [(32,fs32),(52,fs52),(56,fs56),(60,fs60)]
theorem tab38 : TabOK prog T38 := (TabOK.cons ok32 ent32 (TabOK.cons ok52 ent52 (TabOK.cons ok56 ent56 (TabOK.cons ok60 ent60 TabOK.nil))))
theorem ok38 : FnOK prog 38 fs38 := by
 refine FnOK.mk cok func38 rfl rfl rfl ?_
 rintro fl ⟨(s:ByteArray),(h : List CallD),_⟩ hpre F hnt0 _
 have hnt : F.nt=18 := hnt0.trans ntmps38
 clear hpre
 refine W.to (⟨[(0,.v (.string s)),(1,.sl (.calls h))],[],[999]⟩) rfl ?_
 refine W.lenOf 1 (.calls h) (by kernel_rfl) ?_
 intro hl_h; replace hl_h : List.length h≤9223372036854775807 := hl_h
 refine kE tab38 hnt [(0,.v (.string s)),(1,.sl (.calls h))] 2 [] tt ?_
 refine W.seq ?_
 refine kE tab38 hnt [(0,.v (.string s)),(1,.sl (.calls h)),(12,.b ((!(isObject s)) || (!(validHistory h))))] 1348076212679 ((fun (Z1:Bool)=>([(!Z1)=true→Y,(!Z1)=true→(Y∧(((((!Z1)=true)∧Y)∧Y)∧Y)),(!Z1)=true→(((!Z1)=true)∧Y),Z1=true→Y,Z1=false→((!Z1)=true)∧Y]:PL)) (!(isObject s))) ⟨(fun _=>trivial),(fun hG=>⟨tt,⟨⟨hG,tt⟩,tt⟩,tt⟩),(fun hG=>⟨hG,tt⟩),(fun _=>trivial),(fun hp=>⟨(not_t hp),tt⟩)⟩ ?_
 refine ifb ((!(isObject s)) || (!(validHistory h))) ?_ ?_
 ·intro h12
  refine kE tab38 hnt [(4,.v (.slice none 0 0))] 2 [] tt ?_
  refine W.ret (thenQ_ret ?_)
  exact endQ_ret (.v (.slice none 0 0)) (by kernel_rfl) (@cast (((Value.slice none 0 0:Value)=.slice none 0 0)∧((Dat.intss (ordersBy s h (aheadF h))).len=0)) _ (by kernel_rfl) ⟨rfl,(by show List.length (ordersBy s h (aheadF h))=0; first | exact (by_no' h12).symm | (rw [by_no' h12]; rfl))⟩)
 ·intro n12
  refine W.skip (thenQ_normal ?_)
  refine kE tab38 hnt [(4,.sl (.intss (ordersF s h (bitF (aheadOf h)) h.length [])))] 522847879262885 [isObject s=true,validHistory h=true,(aheadOf h)=rowsOf h.length (bitF (aheadOf h))] ⟨(by exact and_l (by_yes' n12)),(by exact and_r (by_yes' n12)),(by exact ahead_rows (and_r (by_yes' n12)))⟩ ?_
  refine W.ret ?_
  exact endQ_ret (.sl (.intss (ordersF s h (bitF (aheadOf h)) h.length []))) (by kernel_rfl) (@cast ((.intss (ordersF s h (bitF (aheadOf h)) h.length []):Dat)=.intss (ordersBy s h (aheadF h))) _ (by kernel_rfl) (congrArg Dat.intss (by exact by_val (by_yes' n12) (ahead_eq (and_r (by_yes' n12))))))
theorem ent38 : Entr prog 38 := ⟨_,func38,rfl,by decide⟩
end Go.Proofs.Tryz

set_option linter.unusedSimpArgs false
set_option linter.unusedVariables false
namespace Go.Proofs.Tryz
open Go.Ab Go.RowKit
def fs13 : FnS := fnS [.o] [.str] (fun _ (l,_)=>(.v (.string (deskV l)),[],(l.size≤1100000)))
abbrev T13 : Tab := lk [(29,fs29),(30,fs30),(31,fs31),(32,fs32),(33,fs33),(34,fs34),(35,fs35),(36,fs36),(37,fs37),(38,fs38)]
theorem tab13 : TabOK prog T13 := (TabOK.cons ok29 ent29 (TabOK.cons ok30 ent30 (TabOK.cons ok31 ent31 (TabOK.cons ok32 ent32 (TabOK.cons ok33 ent33 (TabOK.cons ok34 ent34 (TabOK.cons ok35 ent35 (TabOK.cons ok36 ent36 (TabOK.cons ok37 ent37 (TabOK.cons ok38 ent38 TabOK.nil))))))))))
abbrev v130 (l:ByteArray):AV:=.sl (.strs (splitNB (⟨#[32]⟩:ByteArray) (3:Int) l))
abbrev v131 (l:ByteArray):AV:=.v (.string (List.getD (splitNB (⟨#[32]⟩:ByteArray) (3:Int) l) 1 default))
abbrev v132 (l:ByteArray):AV:=.b ((parseI (List.getD (splitNB (⟨#[32]⟩:ByteArray) (3:Int) l) 2 default).data.toList).2)
abbrev v133 (l:ByteArray):AV:=.sl (.calls ((parseI (List.getD (splitNB (⟨#[32]⟩:ByteArray) (3:Int) l) 2 default).data.toList).1))
abbrev v134 (l:ByteArray):AV:=.v (.string (List.getD (splitNB (⟨#[32]⟩:ByteArray) (3:Int) l) 0 default))
abbrev v135 (l:ByteArray):AV:=.sl (.intss (ordersBy (List.getD (splitNB (⟨#[32]⟩:ByteArray) (3:Int) l) 1 default) ((parseI (List.getD (splitNB (⟨#[32]⟩:ByteArray) (3:Int) l) 2 default).data.toList).1) (aheadF ((parseI (List.getD (splitNB (⟨#[32]⟩:ByteArray) (3:Int) l) 2 default).data.toList).1))))
abbrev v136:AV:=.v (.string (⟨#[121,101,115]⟩:ByteArray))
abbrev v137 (l:ByteArray):AV:=.sl (.ints (List.getD (ordersBy (List.getD (splitNB (⟨#[32]⟩:ByteArray) (3:Int) l) 1 default) ((parseI (List.getD (splitNB (⟨#[32]⟩:ByteArray) (3:Int) l) 2 default).data.toList).1) (aheadF ((parseI (List.getD (splitNB (⟨#[32]⟩:ByteArray) (3:Int) l) 2 default).data.toList).1))) 0 []))
abbrev v138 (l:ByteArray):AV:=.i (((List.length (List.getD (ordersBy (List.getD (splitNB (⟨#[32]⟩:ByteArray) (3:Int) l) 1 default) ((parseI (List.getD (splitNB (⟨#[32]⟩:ByteArray) (3:Int) l) 2 default).data.toList).1) (aheadF ((parseI (List.getD (splitNB (⟨#[32]⟩:ByteArray) (3:Int) l) 2 default).data.toList).1))) 0 [])):Nat):Int)
abbrev v139 (o:ByteArray) (l:ByteArray) (i:Nat):AV:=.v (.string (o++((⟨#[32]⟩:ByteArray)++(numB (List.getD (List.getD (ordersBy (List.getD (splitNB (⟨#[32]⟩:ByteArray) (3:Int) l) 1 default) ((parseI (List.getD (splitNB (⟨#[32]⟩:ByteArray) (3:Int) l) 2 default).data.toList).1) (aheadF ((parseI (List.getD (splitNB (⟨#[32]⟩:ByteArray) (3:Int) l) 2 default).data.toList).1))) 0 []) i 0)))))
theorem ok13 : FnOK prog 13 fs13 := by
 refine FnOK.mk cok func13 rfl rfl rfl ?_
 rintro fl ⟨(l:ByteArray),_⟩ hpre F hnt0 _
 have hnt : F.nt=98 := hnt0.trans ntmps13
 replace hpre : (l.size≤1100000) := hpre
 have hz := hpre
 refine W.to (⟨[(0,.v (.string l))],[],[999]⟩) rfl ?_
 have hpw : ∀ i,(List.getD (splitNB (⟨#[32]⟩:ByteArray) 3 l) i default).size≤l.size := splitN_psz (⟨#[32]⟩:ByteArray) l 3
 have hp2 := hpw 2
 refine kE tab13 hnt [(0,.v (.string l))] 2 [] tt ?_
 refine kS tab13 hnt [(3,(v130 l))] [] [12,999] 8762798936 [(⟨#[32]⟩:ByteArray).size=1,1≤(3:Int)∧(3:Int)≤1000,l.size≤2000000,(List.length (splitNB (⟨#[32]⟩:ByteArray) (3:Int) l))=(List.length (splitNB (⟨#[32]⟩:ByteArray) (3:Int) l))] ⟨(by rfl),(by first | omega | (have h9 := hrow.2 i; omega)),(by (try simp only [ByteArray.size_append,ByteArray.size_extract,sz1,sz2,sz3]); omega),rfl⟩ ?_
 refine W.seq ?_
 refine kS tab13 hnt [(3,(v130 l)),(23,.b ((decide ((((List.length (splitNB (⟨#[32]⟩:ByteArray) (3:Int) l)):Nat):Int)<(3:Int))) || (!(hasS ([(⟨#[108,105,110,101,97,114]⟩:ByteArray),(⟨#[111,119,110]⟩:ByteArray),(⟨#[113,117,105,101,116]⟩:ByteArray),(⟨#[119,105,100,116,104]⟩:ByteArray)]) (List.getD (splitNB (⟨#[32]⟩:ByteArray) (3:Int) l) 0 default)))))] [] [17,12,999] 109194319332956 ((fun (Z1:Bool)=>([(!Z1)=true→(Y∧(Y∧(Y∧(Y∧Y)))),(!Z1)=true→Y,(!Z1)=true→((((!Z1)=true)∧Y)∧(Y∧((0≤(0:Int))∧((0:Int)<(((List.length (splitNB (⟨#[32]⟩:ByteArray) (3:Int) l)):Nat):Int))))),(!Z1)=true→(((!Z1)=true)∧Y),(!Z1)=true→(Y∧(((((!Z1)=true)∧Y)∧((((!Z1)=true)∧Y)∧Y))∧Y)),(!Z1)=true→(((!Z1)=true)∧Y),Z1=true→Y,Z1=false→((!Z1)=true)∧Y]:PL)) (decide ((((List.length (splitNB (⟨#[32]⟩:ByteArray) (3:Int) l)):Nat):Int)<(3:Int)))) ⟨(fun _=>⟨tt,tt,tt,tt,tt⟩),(fun _=>trivial),(fun hG=>⟨⟨hG,tt⟩,tt,(by have hg0 : ¬ ((((List.length (splitNB (⟨#[32]⟩:ByteArray) (3:Int) l)):Nat):Int)<(3:Int)) := of_decide_eq_false (not_f hG); first | omega | (have h9 := hrow.2 i; omega)),(by have hg0 : ¬ ((((List.length (splitNB (⟨#[32]⟩:ByteArray) (3:Int) l)):Nat):Int)<(3:Int)) := of_decide_eq_false (not_f hG); first | omega | (have h9 := hrow.2 i; omega))⟩),(fun hG=>⟨hG,tt⟩),(fun hG=>⟨tt,⟨⟨hG,tt⟩,⟨hG,tt⟩,tt⟩,tt⟩),(fun hG=>⟨hG,tt⟩),(fun _=>trivial),(fun hp=>⟨(not_t hp),tt⟩)⟩ ?_
 refine ifb ((decide ((((List.length (splitNB (⟨#[32]⟩:ByteArray) (3:Int) l)):Nat):Int)<(3:Int))) || (!(hasS ([(⟨#[108,105,110,101,97,114]⟩:ByteArray),(⟨#[111,119,110]⟩:ByteArray),(⟨#[113,117,105,101,116]⟩:ByteArray),(⟨#[119,105,100,116,104]⟩:ByteArray)]) (List.getD (splitNB (⟨#[32]⟩:ByteArray) (3:Int) l) 0 default)))) ?_ ?_
 ·intro h23
  have hE : tWhat=deskV l := by
   rcases Classical.em ((splitB8 32 l).length<3) with h9 | h9
   ·exact dk_short (by omega)
   ·refine dk_kind ?_
    rw [← dk_w0 h9,← has_kind]
    have e1 : decide ((((splitNB (⟨#[32]⟩:ByteArray) 3 l).length:Nat):Int)<3)=false := decide_eq_false (by have := dk_len l; omega)
    have h8 := h23
    rw [e1,Bool.false_or] at h8; exact not_f h8
  refine kE tab13 hnt [(2,.v (.string (⟨#[119,104,97,116]⟩:ByteArray)))] 2 [] tt ?_
  refine W.ret (thenQ_ret ?_)
  exact eT (show (⟨#[119,104,97,116]⟩:ByteArray)=(deskV l) from (by first | exact hE | exact hE.symm))
 ·intro n23
  have n23_0 : ¬ ((((List.length (splitNB (⟨#[32]⟩:ByteArray) (3:Int) l)):Nat):Int)<(3:Int)) := of_decide_eq_false (or_l n23)
  have hW : ¬ (((splitNB (⟨#[32]⟩:ByteArray) 3 l).length:Nat):Int)<3 := of_decide_eq_false (or_l n23)
  have hL : ¬ (splitB8 32 l).length<3 := fun e=>hW (by have := dk_len l; omega)
  have hk : kindD (dW l 0)=true := by rw [← dk_w0 hL,← has_kind]; exact not_g (or_r n23)
  have hO := dk_on (l := l) (by omega) hk
  rw [← dk_w0 hL,← dk_w1 hL,← dk_w2 hL,← parse_eq] at hO
  refine W.skip (thenQ_normal ?_)
  refine kE tab13 hnt [(3,(v130 l)),(4,(v131 l))] 1212158 [0≤(1:Int),(1:Int)<(((List.length (splitNB (⟨#[32]⟩:ByteArray) (3:Int) l)):Nat):Int)] ⟨(by first | omega | (have h9 := hrow.2 i; omega)),(by first | omega | (have h9 := hrow.2 i; omega))⟩ ?_
  refine kS tab13 hnt [(3,(v130 l)),(4,(v131 l)),(5,.own 31 (List.length ((parseI (List.getD (splitNB (⟨#[32]⟩:ByteArray) (3:Int) l) 2 default).data.toList).1))),(6,(v132 l))] [(31,⟨59,.row (.calls ((parseI (List.getD (splitNB (⟨#[32]⟩:ByteArray) (3:Int) l) 2 default).data.toList).1))⟩)] [31,17,12,999] 51473192781089 [0≤(2:Int),(2:Int)<(((List.length (splitNB (⟨#[32]⟩:ByteArray) (3:Int) l)):Nat):Int),(List.getD (splitNB (⟨#[32]⟩:ByteArray) (3:Int) l) 2 default).size≤1999999] ⟨(by first | omega | (have h9 := hrow.2 i; omega)),(by first | omega | (have h9 := hrow.2 i; omega)),(by (try simp only [ByteArray.size_append,ByteArray.size_extract,sz1,sz2,sz3]); omega)⟩ ?_
  refine W.subS [] (⟨[(3,(v130 l)),(4,(v131 l)),(5,(v133 l)),(6,(v132 l))],[],[999]⟩) (@cast (((Sd (.strs (splitNB (⟨#[32]⟩:ByteArray) (3:Int) l)))∧(((.string (List.getD (splitNB (⟨#[32]⟩:ByteArray) (3:Int) l) 1 default)):Value)=(.string (List.getD (splitNB (⟨#[32]⟩:ByteArray) (3:Int) l) 1 default)))∧(((List.length ((parseI (List.getD (splitNB (⟨#[32]⟩:ByteArray) (3:Int) l) 2 default).data.toList).1))=(List.length ((parseI (List.getD (splitNB (⟨#[32]⟩:ByteArray) (3:Int) l) 2 default).data.toList).1)))∧(Sd (.calls ((parseI (List.getD (splitNB (⟨#[32]⟩:ByteArray) (3:Int) l) 2 default).data.toList).1)))∧((31:Nat) ∉ ([] : List Nat)))∧(Sv (.bool ((parseI (List.getD (splitNB (⟨#[32]⟩:ByteArray) (3:Int) l) 2 default).data.toList).2)))∧Y)∧Y∧(true=true)∧(true=true)) _ (by kernel_rfl) ⟨⟨rfl,rfl,⟨rfl,rfl,(by decide)⟩,rfl,tt⟩,tt,rfl,rfl⟩) ?_
  refine W.seq ?_
  refine kE tab13 hnt [(3,(v130 l)),(4,(v131 l)),(5,(v133 l)),(56,.b (((!((parseI (List.getD (splitNB (⟨#[32]⟩:ByteArray) (3:Int) l) 2 default).data.toList).2)) || ((eqS (List.getD (splitNB (⟨#[32]⟩:ByteArray) (3:Int) l) 0 default) (⟨#[119,105,100,116,104]⟩:ByteArray)) && (!(eqS (List.getD (splitNB (⟨#[32]⟩:ByteArray) (3:Int) l) 1 default) (⟨#[97,108,108]⟩:ByteArray))))) || ((!(eqS (List.getD (splitNB (⟨#[32]⟩:ByteArray) (3:Int) l) 0 default) (⟨#[119,105,100,116,104]⟩:ByteArray))) && (!(isObject (List.getD (splitNB (⟨#[32]⟩:ByteArray) (3:Int) l) 1 default))))))] 30839701054525038455443769 ((fun (Z1:Bool)=>((fun (Z2:Bool)=>((fun (Z3:Bool)=>((fun (Z4:Bool)=>((fun (Z5:Bool)=>([(!Z1)=true→Y,(!Z1)=true→((((!Z1)=true)∧Y)∧(Y∧((0≤(0:Int))∧((0:Int)<(((List.length (splitNB (⟨#[32]⟩:ByteArray) (3:Int) l)):Nat):Int))))),(!Z1)=true→(((!Z1)=true)∧Y),(!Z1)=true→((((!Z1)=true)∧Y)∧(Y∧Y)),(!Z1)=true→Y,Z3=true→Y,Z3=true→(((Z3=true)∧Y)∧(Y∧Y)),(!Z1)=true→((((!Z1)=true)∧(((!Z1)=true)∧Y))∧((Z2=true→(Z3=true)∧Y)∧(Z2=false→Y))),Z1=true→Y,Z1=false→((!Z1)=true)∧Y,(!Z4)=true→Y,(!Z4)=true→((((!Z4)=true)∧Y)∧(Y∧((0≤(0:Int))∧((0:Int)<(((List.length (splitNB (⟨#[32]⟩:ByteArray) (3:Int) l)):Nat):Int))))),(!Z4)=true→(((!Z4)=true)∧Y),(!Z4)=true→((((!Z4)=true)∧Y)∧(Y∧Y)),(!Z4)=true→Y,Z5=true→Y,Z5=true→(Y∧((((Z5=true)∧Y)∧Y)∧Y)),Z5=true→((Z5=true)∧Y),(!Z4)=true→((((!Z4)=true)∧(((!Z4)=true)∧Y))∧(((!Z2)=true→(Z5=true)∧Y)∧((!Z2)=false→Y))),Z4=true→Y,Z4=false→((!Z4)=true)∧Y]:PL)) ((!Z4) && ((!Z4) && (!Z2))))) (Z1 || (Z2 && (!(eqS (List.getD (splitNB (⟨#[32]⟩:ByteArray) (3:Int) l) 1 default) (⟨#[97,108,108]⟩:ByteArray))))))) ((!Z1) && ((!Z1) && Z2)))) (eqS (List.getD (splitNB (⟨#[32]⟩:ByteArray) (3:Int) l) 0 default) (⟨#[119,105,100,116,104]⟩:ByteArray)))) (!((parseI (List.getD (splitNB (⟨#[32]⟩:ByteArray) (3:Int) l) 2 default).data.toList).2))) ⟨(fun _=>trivial),(fun hG=>⟨⟨hG,tt⟩,tt,(by first | omega | (have h9 := hrow.2 i; omega)),(by first | omega | (have h9 := hrow.2 i; omega))⟩),(fun hG=>⟨hG,tt⟩),(fun hG=>⟨⟨hG,tt⟩,tt,tt⟩),(fun _=>trivial),(fun _=>trivial),(fun hG=>⟨⟨hG,tt⟩,tt,tt⟩),(fun hG=>⟨⟨hG,hG,tt⟩,(fun hp=>⟨(and_t hG (and_t hG hp)),tt⟩),(fun _=>trivial)⟩),(fun _=>trivial),(fun hp=>⟨(not_t hp),tt⟩),(fun _=>trivial),(fun hG=>⟨⟨hG,tt⟩,tt,(by first | omega | (have h9 := hrow.2 i; omega)),(by first | omega | (have h9 := hrow.2 i; omega))⟩),(fun hG=>⟨hG,tt⟩),(fun hG=>⟨⟨hG,tt⟩,tt,tt⟩),(fun _=>trivial),(fun _=>trivial),(fun hG=>⟨tt,⟨⟨hG,tt⟩,tt⟩,tt⟩),(fun hG=>⟨hG,tt⟩),(fun hG=>⟨⟨hG,hG,tt⟩,(fun hp=>⟨(and_t hG (and_t hG hp)),tt⟩),(fun _=>trivial)⟩),(fun _=>trivial),(fun hp=>⟨(not_t hp),tt⟩)⟩ ?_
  refine ifb (((!((parseI (List.getD (splitNB (⟨#[32]⟩:ByteArray) (3:Int) l) 2 default).data.toList).2)) || ((eqS (List.getD (splitNB (⟨#[32]⟩:ByteArray) (3:Int) l) 0 default) (⟨#[119,105,100,116,104]⟩:ByteArray)) && (!(eqS (List.getD (splitNB (⟨#[32]⟩:ByteArray) (3:Int) l) 1 default) (⟨#[97,108,108]⟩:ByteArray))))) || ((!(eqS (List.getD (splitNB (⟨#[32]⟩:ByteArray) (3:Int) l) 0 default) (⟨#[119,105,100,116,104]⟩:ByteArray))) && (!(isObject (List.getD (splitNB (⟨#[32]⟩:ByteArray) (3:Int) l) 1 default))))) ?_ ?_
  ·intro h56
   have hE : tWrong=deskV l := by rw [hO,show wrongD _ _ _=true from h56]; rfl
   refine kE tab13 hnt [(2,.v (.string (⟨#[119,114,111,110,103]⟩:ByteArray)))] 2 [] tt ?_
   refine W.ret (thenQ_ret ?_)
   exact eT (show (⟨#[119,114,111,110,103]⟩:ByteArray)=(deskV l) from (by first | exact hE | exact hE.symm))
  ·intro n56
   have hE : deskV l=coreD (List.getD (splitNB (⟨#[32]⟩:ByteArray) 3 l) 0 default) (List.getD (splitNB (⟨#[32]⟩:ByteArray) 3 l) 1 default) (parseI (List.getD (splitNB (⟨#[32]⟩:ByteArray) 3 l) 2 default).data.toList).1 := by rw [hO,show wrongD _ _ _=false from n56]; rfl
   have hv : validHistory (parseI (List.getD (splitNB (⟨#[32]⟩:ByteArray) 3 l) 2 default).data.toList).1=true := parse_valid (not_g (or_l (or_l n56)))
   have hwb := wid_bnd hv
   have hwe := wid_eq hv
   have hrow := by_row (s := (List.getD (splitNB (⟨#[32]⟩:ByteArray) 3 l) 1 default)) (f := aheadF (parseI (List.getD (splitNB (⟨#[32]⟩:ByteArray) 3 l) 2 default).data.toList).1) hv
   refine W.skip (thenQ_normal ?_)
   refine W.seq ?_
   refine kE tab13 hnt [(4,(v131 l)),(5,(v133 l)),(59,(v134 l))] 149276 [0≤(0:Int),(0:Int)<(((List.length (splitNB (⟨#[32]⟩:ByteArray) (3:Int) l)):Nat):Int)] ⟨(by first | omega | (have h9 := hrow.2 i; omega)),(by first | omega | (have h9 := hrow.2 i; omega))⟩ ?_
   refine W.block ?_
   refine kE tab13 hnt [(4,(v131 l)),(5,(v133 l)),(59,(v134 l)),(60,.b (eqS (List.getD (splitNB (⟨#[32]⟩:ByteArray) (3:Int) l) 0 default) (⟨#[111,119,110]⟩:ByteArray)))] 1520 [] tt ?_
   refine ifb (eqS (List.getD (splitNB (⟨#[32]⟩:ByteArray) (3:Int) l) 0 default) (⟨#[111,119,110]⟩:ByteArray)) ?_ ?_
   ·intro h60
    rw [core_own h60] at hE
    refine kE tab13 hnt [(2,.v (.string (yesNoV (explains (List.getD (splitNB (⟨#[32]⟩:ByteArray) (3:Int) l) 1 default) ((parseI (List.getD (splitNB (⟨#[32]⟩:ByteArray) (3:Int) l) 2 default).data.toList).1) (ownF ((parseI (List.getD (splitNB (⟨#[32]⟩:ByteArray) (3:Int) l) 2 default).data.toList).1))))))] 63833640536 [] tt ?_
    refine W.ret (blockQ_ret (thenQ_ret ?_))
    exact eT (show (yesNoV (explains (List.getD (splitNB (⟨#[32]⟩:ByteArray) (3:Int) l) 1 default) ((parseI (List.getD (splitNB (⟨#[32]⟩:ByteArray) (3:Int) l) 2 default).data.toList).1) (ownF ((parseI (List.getD (splitNB (⟨#[32]⟩:ByteArray) (3:Int) l) 2 default).data.toList).1))))=(deskV l) from (by first | exact hE | exact hE.symm))
   ·intro n60
    refine kE tab13 hnt [(4,(v131 l)),(5,(v133 l)),(59,(v134 l)),(66,.b (eqS (List.getD (splitNB (⟨#[32]⟩:ByteArray) (3:Int) l) 0 default) (⟨#[113,117,105,101,116]⟩:ByteArray)))] 1520 [] tt ?_
    refine ifb (eqS (List.getD (splitNB (⟨#[32]⟩:ByteArray) (3:Int) l) 0 default) (⟨#[113,117,105,101,116]⟩:ByteArray)) ?_ ?_
    ·intro h66
     rw [core_qui h66] at hE
     refine kE tab13 hnt [(2,.v (.string (yesNoV (explains (List.getD (splitNB (⟨#[32]⟩:ByteArray) (3:Int) l) 1 default) ((parseI (List.getD (splitNB (⟨#[32]⟩:ByteArray) (3:Int) l) 2 default).data.toList).1) (quietF ((parseI (List.getD (splitNB (⟨#[32]⟩:ByteArray) (3:Int) l) 2 default).data.toList).1))))))] 63833640536 [] tt ?_
     refine W.ret (blockQ_ret (thenQ_ret ?_))
     exact eT (show (yesNoV (explains (List.getD (splitNB (⟨#[32]⟩:ByteArray) (3:Int) l) 1 default) ((parseI (List.getD (splitNB (⟨#[32]⟩:ByteArray) (3:Int) l) 2 default).data.toList).1) (quietF ((parseI (List.getD (splitNB (⟨#[32]⟩:ByteArray) (3:Int) l) 2 default).data.toList).1))))=(deskV l) from (by first | exact hE | exact hE.symm))
    ·intro n66
     refine kE tab13 hnt [(4,(v131 l)),(5,(v133 l)),(72,.b (eqS (List.getD (splitNB (⟨#[32]⟩:ByteArray) (3:Int) l) 0 default) (⟨#[119,105,100,116,104]⟩:ByteArray)))] 1520 [] tt ?_
     refine ifb (eqS (List.getD (splitNB (⟨#[32]⟩:ByteArray) (3:Int) l) 0 default) (⟨#[119,105,100,116,104]⟩:ByteArray)) ?_ ?_
     ·intro h72
      rw [core_wid h72,← hwe] at hE
      refine kE tab13 hnt [(2,.v (.string (numB (widthOf ((parseI (List.getD (splitNB (⟨#[32]⟩:ByteArray) (3:Int) l) 2 default).data.toList).1)))))] 8794760078 [-9223372036854775808≤(widthOf ((parseI (List.getD (splitNB (⟨#[32]⟩:ByteArray) (3:Int) l) 2 default).data.toList).1)),(widthOf ((parseI (List.getD (splitNB (⟨#[32]⟩:ByteArray) (3:Int) l) 2 default).data.toList).1))≤9223372036854775807] ⟨(by omega),(by omega)⟩ ?_
      refine W.ret (blockQ_ret (thenQ_ret ?_))
      exact eT (show (numB (widthOf ((parseI (List.getD (splitNB (⟨#[32]⟩:ByteArray) (3:Int) l) 2 default).data.toList).1)))=(deskV l) from (by first | exact hE | exact hE.symm))
     ·intro n72
      rw [core_lin n60 n66 n72] at hE
      refine W.skip (blockQ_normal (thenQ_normal ?_))
      refine kE tab13 hnt [(7,(v135 l))] 9702200 [] tt ?_
      refine W.seq ?_
      refine kE tab13 hnt [(7,(v135 l)),(82,.b (decide ((((List.length (ordersBy (List.getD (splitNB (⟨#[32]⟩:ByteArray) (3:Int) l) 1 default) ((parseI (List.getD (splitNB (⟨#[32]⟩:ByteArray) (3:Int) l) 2 default).data.toList).1) (aheadF ((parseI (List.getD (splitNB (⟨#[32]⟩:ByteArray) (3:Int) l) 2 default).data.toList).1)))):Nat):Int)=(0:Int))))] 5042 [] tt ?_
      refine ifp ((((List.length (ordersBy (List.getD (splitNB (⟨#[32]⟩:ByteArray) (3:Int) l) 1 default) ((parseI (List.getD (splitNB (⟨#[32]⟩:ByteArray) (3:Int) l) 2 default).data.toList).1) (aheadF ((parseI (List.getD (splitNB (⟨#[32]⟩:ByteArray) (3:Int) l) 2 default).data.toList).1)))):Nat):Int)=(0:Int)) ?_ ?_
      ·intro h82
       rw [decide_eq_true (p := _=0) (by omega),cond_true] at hE
       refine kE tab13 hnt [(2,.v (.string (⟨#[110,111]⟩:ByteArray)))] 2 [] tt ?_
       refine W.ret (thenQ_ret ?_)
       exact eT (show (⟨#[110,111]⟩:ByteArray)=(deskV l) from (by first | exact hE | exact hE.symm))
      ·intro n82
       rw [decide_eq_false (p := _=0) (by omega),cond_false] at hE
       refine W.skip (thenQ_normal ?_)
       refine kE tab13 hnt [(7,(v135 l)),(8,v136)] 2 [] tt ?_
       refine W.seq ?_
       refine kE tab13 hnt [(8,v136),(85,(v137 l)),(86,(v138 l)),(87,.i (0:Int))] 10778096 [0≤(0:Int),(0:Int)<(((List.length (ordersBy (List.getD (splitNB (⟨#[32]⟩:ByteArray) (3:Int) l) 1 default) ((parseI (List.getD (splitNB (⟨#[32]⟩:ByteArray) (3:Int) l) 2 default).data.toList).1) (aheadF ((parseI (List.getD (splitNB (⟨#[32]⟩:ByteArray) (3:Int) l) 2 default).data.toList).1)))):Nat):Int)] ⟨(by first | omega | (have h9 := hrow.2 i; omega)),(by first | omega | (have h9 := hrow.2 i; omega))⟩ ?_
       refine W.block ?_
       refine W.loop (ι := Nat × ByteArray) (fun (x : Nat × ByteArray)=>match x with | (i,o)=>(⟨[(8,.v (.string o)),(85,(v137 l)),(86,(v138 l)),(87,.i ((i:Nat):Int))],[],[999]⟩:St))
        (fun (x : Nat × ByteArray)=>match x with | (i,o)=>(i≤(List.getD (ordersBy (List.getD (splitNB (⟨#[32]⟩:ByteArray) 3 l) 1 default) (parseI (List.getD (splitNB (⟨#[32]⟩:ByteArray) 3 l) 2 default).data.toList).1 (aheadF (parseI (List.getD (splitNB (⟨#[32]⟩:ByteArray) 3 l) 2 default).data.toList).1)) 0 []).length)∧(o=numsUp (List.getD (ordersBy (List.getD (splitNB (⟨#[32]⟩:ByteArray) 3 l) 1 default) (parseI (List.getD (splitNB (⟨#[32]⟩:ByteArray) 3 l) 2 default).data.toList).1 (aheadF (parseI (List.getD (splitNB (⟨#[32]⟩:ByteArray) 3 l) 2 default).data.toList).1)) 0 []) i))
        (fun (x : Nat × ByteArray)=>match x with | (i,o)=>((List.getD (ordersBy (List.getD (splitNB (⟨#[32]⟩:ByteArray) 3 l) 1 default) (parseI (List.getD (splitNB (⟨#[32]⟩:ByteArray) 3 l) 2 default).data.toList).1 (aheadF (parseI (List.getD (splitNB (⟨#[32]⟩:ByteArray) 3 l) 2 default).data.toList).1)) 0 []).length - i:Nat)) (0,(⟨#[121,101,115]⟩:ByteArray)) ?_ ?_ ?_
       ·exact ⟨oi,(by rfl)⟩
       ·exact Sk
       ·rintro ⟨i,o⟩ hC0
        obtain ⟨hi,ho⟩ := hC0
        have hri := hrow.2 i
        have hos : o.size≤3+3 * i := by rw [ho]; exact nums_size hrow.2 i
        have hns := numB_small (n := (List.getD (ordersBy (List.getD (splitNB (⟨#[32]⟩:ByteArray) 3 l) 1 default) (parseI (List.getD (splitNB (⟨#[32]⟩:ByteArray) 3 l) 2 default).data.toList).1 (aheadF (parseI (List.getD (splitNB (⟨#[32]⟩:ByteArray) 3 l) 2 default).data.toList).1)) 0 []).getD i 0) (by omega) (by omega)
        refine kE tab13 hnt [(8,.v (.string o)),(85,(v137 l)),(86,(v138 l)),(87,.i ((i:Nat):Int)),(88,.b (decide (((i:Nat):Int)<(((List.length (List.getD (ordersBy (List.getD (splitNB (⟨#[32]⟩:ByteArray) (3:Int) l) 1 default) ((parseI (List.getD (splitNB (⟨#[32]⟩:ByteArray) (3:Int) l) 2 default).data.toList).1) (aheadF ((parseI (List.getD (splitNB (⟨#[32]⟩:ByteArray) (3:Int) l) 2 default).data.toList).1))) 0 [])):Nat):Int))))] 62 [] tt ?_
        refine W.seq ?_
        refine ifp (((i:Nat):Int)<(((List.length (List.getD (ordersBy (List.getD (splitNB (⟨#[32]⟩:ByteArray) (3:Int) l) 1 default) ((parseI (List.getD (splitNB (⟨#[32]⟩:ByteArray) (3:Int) l) 2 default).data.toList).1) (aheadF ((parseI (List.getD (splitNB (⟨#[32]⟩:ByteArray) (3:Int) l) 2 default).data.toList).1))) 0 [])):Nat):Int)) ?_ ?_
        ·intro h88
         refine W.skip (thenQ_normal ?_)
         refine W.seq ?_
         refine W.block ?_
         refine kE tab13 hnt [(8,.v (.string o)),(10,.i (List.getD (List.getD (ordersBy (List.getD (splitNB (⟨#[32]⟩:ByteArray) (3:Int) l) 1 default) ((parseI (List.getD (splitNB (⟨#[32]⟩:ByteArray) (3:Int) l) 2 default).data.toList).1) (aheadF ((parseI (List.getD (splitNB (⟨#[32]⟩:ByteArray) (3:Int) l) 2 default).data.toList).1))) 0 []) i 0)),(85,(v137 l)),(86,(v138 l)),(87,.i ((i:Nat):Int))] 134684 [0≤((i:Nat):Int),((i:Nat):Int)<(((List.length (List.getD (ordersBy (List.getD (splitNB (⟨#[32]⟩:ByteArray) (3:Int) l) 1 default) ((parseI (List.getD (splitNB (⟨#[32]⟩:ByteArray) (3:Int) l) 2 default).data.toList).1) (aheadF ((parseI (List.getD (splitNB (⟨#[32]⟩:ByteArray) (3:Int) l) 2 default).data.toList).1))) 0 [])):Nat):Int)] ⟨(by first | omega | (have h9 := hrow.2 i; omega)),(by first | omega | (have h9 := hrow.2 i; omega))⟩ ?_
         refine lE tab13 hnt [(8,(v139 o l i)),(85,(v137 l)),(86,(v138 l)),(87,.i ((i:Nat):Int))] 6148662202730 [-9223372036854775808≤(List.getD (List.getD (ordersBy (List.getD (splitNB (⟨#[32]⟩:ByteArray) (3:Int) l) 1 default) ((parseI (List.getD (splitNB (⟨#[32]⟩:ByteArray) (3:Int) l) 2 default).data.toList).1) (aheadF ((parseI (List.getD (splitNB (⟨#[32]⟩:ByteArray) (3:Int) l) 2 default).data.toList).1))) 0 []) i 0),(List.getD (List.getD (ordersBy (List.getD (splitNB (⟨#[32]⟩:ByteArray) (3:Int) l) 1 default) ((parseI (List.getD (splitNB (⟨#[32]⟩:ByteArray) (3:Int) l) 2 default).data.toList).1) (aheadF ((parseI (List.getD (splitNB (⟨#[32]⟩:ByteArray) (3:Int) l) 2 default).data.toList).1))) 0 []) i 0)≤9223372036854775807,(⟨#[32]⟩:ByteArray).size+(numB (List.getD (List.getD (ordersBy (List.getD (splitNB (⟨#[32]⟩:ByteArray) (3:Int) l) 1 default) ((parseI (List.getD (splitNB (⟨#[32]⟩:ByteArray) (3:Int) l) 2 default).data.toList).1) (aheadF ((parseI (List.getD (splitNB (⟨#[32]⟩:ByteArray) (3:Int) l) 2 default).data.toList).1))) 0 []) i 0)).size≤9223372036854775807,o.size+((⟨#[32]⟩:ByteArray)++(numB (List.getD (List.getD (ordersBy (List.getD (splitNB (⟨#[32]⟩:ByteArray) (3:Int) l) 1 default) ((parseI (List.getD (splitNB (⟨#[32]⟩:ByteArray) (3:Int) l) 2 default).data.toList).1) (aheadF ((parseI (List.getD (splitNB (⟨#[32]⟩:ByteArray) (3:Int) l) 2 default).data.toList).1))) 0 []) i 0))).size≤9223372036854775807] ⟨(by first | omega | (have h9 := hrow.2 i; omega)),(by first | omega | (have h9 := hrow.2 i; omega)),(by (try simp only [ByteArray.size_append,ByteArray.size_extract,sz1,sz2,sz3]); omega),(by (try simp only [ByteArray.size_append,ByteArray.size_extract,sz1,sz2,sz3]); omega)⟩ ?_
         refine blockQ_normal (thenQ_normal ?_)
         refine lE tab13 hnt [(8,(v139 o l i)),(85,(v137 l)),(86,(v138 l)),(87,.i (((i+1):Nat):Int))] 1763 [Fits .i64 (((i+1):Nat):Int)] (by exact fits_i64 (by omega) (by omega)) ?_
         refine thenQ_normal ?_
         refine ⟨((i+1),(o++((⟨#[32]⟩:ByteArray)++(numB (List.getD (List.getD (ordersBy (List.getD (splitNB (⟨#[32]⟩:ByteArray) (3:Int) l) 1 default) ((parseI (List.getD (splitNB (⟨#[32]⟩:ByteArray) (3:Int) l) 2 default).data.toList).1) (aheadF ((parseI (List.getD (splitNB (⟨#[32]⟩:ByteArray) (3:Int) l) 2 default).data.toList).1))) 0 []) i 0))))),⟨oi,(by rw [ho]; rfl)⟩,(show (List.getD (ordersBy (List.getD (splitNB (⟨#[32]⟩:ByteArray) 3 l) 1 default) (parseI (List.getD (splitNB (⟨#[32]⟩:ByteArray) 3 l) 2 default).data.toList).1 (aheadF (parseI (List.getD (splitNB (⟨#[32]⟩:ByteArray) 3 l) 2 default).data.toList).1)) 0 []).length - (i+1)<(List.getD (ordersBy (List.getD (splitNB (⟨#[32]⟩:ByteArray) 3 l) 1 default) (parseI (List.getD (splitNB (⟨#[32]⟩:ByteArray) 3 l) 2 default).data.toList).1 (aheadF (parseI (List.getD (splitNB (⟨#[32]⟩:ByteArray) 3 l) 2 default).data.toList).1)) 0 []).length - i from o2),?_⟩
         exact Sk
        ·intro n88
         refine W.exit (thenQ_exit (thenQ_exit (blockQ_hit ?_)))
         refine thenQ_normal ?_
         refine kE tab13 hnt [(2,.v (.string o))] 20 [] tt ?_
         refine W.ret ?_
         exact eT (show o=(deskV l) from (by rw [hE,ho,show i=(List.getD (ordersBy (List.getD (splitNB (⟨#[32]⟩:ByteArray) 3 l) 1 default) (parseI (List.getD (splitNB (⟨#[32]⟩:ByteArray) 3 l) 2 default).data.toList).1 (aheadF (parseI (List.getD (splitNB (⟨#[32]⟩:ByteArray) 3 l) 2 default).data.toList).1)) 0 []).length by omega]))
theorem ent13 : Entr prog 13 := ⟨_,func13,rfl,by decide⟩
end Go.Proofs.Tryz

set_option linter.unusedSimpArgs false
set_option linter.unusedVariables false
namespace Go.Proofs.Tryz
open Go.Ab Go.RowKit
def fs8 : FnS := fnS [.s .strs] [.strs] (fun _ (xs,_)=>(.v (.string (runV xs)),[],(∀ i,(xs.getD i default).size≤1100000)))
abbrev T8 : Tab := lk [(13,fs13)]
theorem tab8 : TabOK prog T8 := (TabOK.cons ok13 ent13 TabOK.nil)
abbrev v80 (xs:List ByteArray):AV:=.i (xs.length:Int)
theorem ok8 : FnOK prog 8 fs8 := by
 refine FnOK.mk cok func8 rfl rfl rfl ?_
 rintro fl ⟨(xs : List ByteArray),_⟩ hpre F hnt0 _
 have hnt : F.nt=22 := hnt0.trans ntmps8
 replace hpre : (∀ i,(xs.getD i default).size≤1100000) := hpre
 have hz := hpre
 refine W.to (⟨[(0,.sl (.strs xs))],[],[999]⟩) rfl ?_
 refine W.lenOf 0 (.strs xs) (by kernel_rfl) ?_
 intro hl_xs; replace hl_xs : List.length xs≤9223372036854775807 := hl_xs
 refine kE tab8 hnt [(0,.sl (.strs xs))] 2 [] tt ?_
 refine W.seq ?_
 refine kE tab8 hnt [(0,.sl (.strs xs)),(8,.b (decide ((20:Int)<(xs.length:Int))))] 5042 [] tt ?_
 refine ifp ((20:Int)<(xs.length:Int)) ?_ ?_
 ·intro h8
  refine kE tab8 hnt [(2,.v (.string nEmpty))] 2 [] tt ?_
  refine W.ret (thenQ_ret ?_)
  exact eT (show nEmpty=(runV xs) from (by exact run_none h8))
 ·intro n8
  refine W.skip (thenQ_normal ?_)
  refine kE tab8 hnt [(0,.sl (.strs xs)),(3,.v (.string nEmpty))] 2 [] tt ?_
  refine W.seq ?_
  refine kE tab8 hnt [(3,.v (.string nEmpty)),(9,.sl (.strs xs)),(10,(v80 xs)),(11,.i (0:Int))] 182 [] tt ?_
  refine W.block ?_
  refine W.loop (ι := Nat × ByteArray) (fun (x : Nat × ByteArray)=>match x with | (i,o)=>(⟨[(3,.v (.string o)),(9,.sl (.strs xs)),(10,(v80 xs)),(11,.i ((i:Nat):Int))],[],[999]⟩:St))
   (fun (x : Nat × ByteArray)=>match x with | (i,o)=>(i≤xs.length)∧(o=runUp xs i))
   (fun (x : Nat × ByteArray)=>match x with | (i,o)=>(xs.length - i:Nat)) (0,nEmpty) ?_ ?_ ?_
  ·exact ⟨oi,(by rfl)⟩
  ·exact Sk
  ·rintro ⟨i,o⟩ hC0
   obtain ⟨hi,ho⟩ := hC0
   have hos : o.size≤31 * i := by rw [ho]; exact run_size xs i
   have hds := desk_size (xs.getD i default)
   refine kE tab8 hnt [(3,.v (.string o)),(9,.sl (.strs xs)),(10,(v80 xs)),(11,.i ((i:Nat):Int)),(12,.b (decide (((i:Nat):Int)<(xs.length:Int))))] 62 [] tt ?_
   refine W.seq ?_
   refine ifp (((i:Nat):Int)<(xs.length:Int)) ?_ ?_
   ·intro h12
    refine W.skip (thenQ_normal ?_)
    refine W.seq ?_
    refine W.block ?_
    refine kE tab8 hnt [(3,.v (.string o)),(5,.v (.string (xs.getD i default))),(9,.sl (.strs xs)),(10,(v80 xs)),(11,.i ((i:Nat):Int))] 134684 [0≤((i:Nat):Int),((i:Nat):Int)<(xs.length:Int)] ⟨om,om⟩ ?_
    refine lE tab8 hnt [(3,.v (.string (o++((deskV (xs.getD i default))++(⟨#[10]⟩:ByteArray))))),(9,.sl (.strs xs)),(10,(v80 xs)),(11,.i ((i:Nat):Int))] 683184606923 [(xs.getD i default).size≤1100000,(deskV (xs.getD i default)).size+(⟨#[10]⟩:ByteArray).size≤9223372036854775807,o.size+((deskV (xs.getD i default))++(⟨#[10]⟩:ByteArray)).size≤9223372036854775807] ⟨(by exact hz _),(by (try simp only [ByteArray.size_append,ByteArray.size_extract,sz1,sz2,sz3]); omega),(by (try simp only [ByteArray.size_append,ByteArray.size_extract,sz1,sz2,sz3]); omega)⟩ ?_
    refine blockQ_normal (thenQ_normal ?_)
    refine lE tab8 hnt [(3,.v (.string (o++((deskV (xs.getD i default))++(⟨#[10]⟩:ByteArray))))),(9,.sl (.strs xs)),(10,(v80 xs)),(11,.i (((i+1):Nat):Int))] 1763 [Fits .i64 (((i+1):Nat):Int)] fi ?_
    refine thenQ_normal ?_
    refine ⟨((i+1),(o++((deskV (xs.getD i default))++(⟨#[10]⟩:ByteArray)))),⟨oi,(by rw [ho]; rfl)⟩,(show xs.length - (i+1)<xs.length - i from o2),?_⟩
    exact Sk
   ·intro n12
    refine W.exit (thenQ_exit (thenQ_exit (blockQ_hit ?_)))
    refine thenQ_normal ?_
    refine kE tab8 hnt [(2,.v (.string o))] 20 [] tt ?_
    refine W.ret ?_
    exact eT (show o=(runV xs) from (by exact run_all n8 ho hi n12))
theorem ent8 : Entr prog 8 := ⟨_,func8,rfl,by decide⟩
end Go.Proofs.Tryz

set_option linter.unusedSimpArgs false
set_option linter.unusedVariables false
namespace Go.Proofs.Tryz
open Go.Ab Go.RowKit
def fs21 : FnS := fnS [.o,.o] [.str,.u8] (fun _ (s,c,_)=>(.own 0 (List.length (splitB8 c s)),[(9,.strs (splitB8 c s))],(0≤c∧c≤255)∧(s.size≤2000000)))
abbrev T21 : Tab := lk []
theorem tab21 : TabOK prog T21 := TabOK.nil
abbrev v210:AV:=.own 8 (List.length ([] : List ByteArray))
abbrev v211 (i:Nat):AV:=.i (((i+1):Nat):Int)
theorem ok21 : FnOK prog 21 fs21 := by
 refine FnOK.mk cok func21 rfl rfl rfl ?_
 rintro fl ⟨(s:ByteArray),(c:Int),_⟩ hpre F hnt0 _
 have hnt : F.nt=35 := hnt0.trans ntmps21
 replace hpre : (0≤c∧c≤255)∧(s.size≤2000000) := hpre
 obtain ⟨hc,hz⟩ := hpre
 refine W.to (⟨[(0,.v (.string s)),(1,.v (.int .u8 c))],[],[999]⟩) rfl ?_
 refine kE tab21 hnt [(0,.v (.string s)),(1,.v (.int .u8 c))] 2 [] tt ?_
 refine kS tab21 hnt [(0,.v (.string s)),(1,.v (.int .u8 c)),(5,v210)] [(8,⟨9,.row (.strs ([] : List ByteArray))⟩)] [8,999] 20 [] tt ?_ [8]
 refine kE tab21 hnt [(0,.v (.string s)),(1,.v (.int .u8 c)),(5,v210),(6,.i (0:Int))] 2 [] tt ?_
 refine W.seq ?_
 refine kE tab21 hnt [(0,.v (.string s)),(1,.v (.int .u8 c)),(5,v210),(6,.i (0:Int)),(7,.i (0:Int))] 2 [] tt ?_
 refine W.block ?_
 refine W.loop (ι := (List ByteArray) × Nat × Nat) (fun (x : (List ByteArray) × Nat × Nat)=>match x with | (o,f,i)=>(⟨[(0,.v (.string s)),(1,.v (.int .u8 c)),(5,.own 8 o.length),(6,.i ((f:Nat):Int)),(7,.i ((i:Nat):Int))],[(8,⟨9,.row (.strs o)⟩)],[8,999]⟩:St))
  (fun (x : (List ByteArray) × Nat × Nat)=>match x with | (o,f,i)=>(i≤s.size)∧(f≤i)∧(SpI c s o f i)∧(o.length≤i))
  (fun (x : (List ByteArray) × Nat × Nat)=>match x with | (o,f,i)=>(s.size - i:Nat)) (([] : List ByteArray),0,0) ?_ ?_ ?_
 ·exact ⟨oi,oi,(by exact spl_init _ _),(by exact Nat.zero_le _)⟩
 ·exact Sk
 ·rintro ⟨o,f,i⟩ hC0
  obtain ⟨hi,hf,ho,hol⟩ := hC0
  refine W.seq ?_
  refine kE tab21 hnt [(0,.v (.string s)),(1,.v (.int .u8 c)),(5,.own 8 o.length),(6,.i ((f:Nat):Int)),(7,.i ((i:Nat):Int)),(12,.b (decide (((i:Nat):Int)<((s.size:Nat):Int))))] 45380 [] tt ?_
  refine ifp (((i:Nat):Int)<((s.size:Nat):Int)) ?_ ?_
  ·intro h12
   refine W.skip (thenQ_normal ?_)
   refine W.seq ?_
   refine W.block ?_
   refine kE tab21 hnt [(0,.v (.string s)),(1,.v (.int .u8 c)),(5,.own 8 o.length),(6,.i ((f:Nat):Int)),(7,.i ((i:Nat):Int)),(19,.b (decide ((((UInt8.toNat (List.getD s.data.toList i 0)):Nat):Int)=c)))] 297887564 [0≤((i:Nat):Int),((i:Nat):Int)<((s.size:Nat):Int)] ⟨om,om⟩ ?_
   refine ifp ((((UInt8.toNat (List.getD s.data.toList i 0)):Nat):Int)=c) ?_ ?_
   ·intro h19
    refine kS tab21 hnt [(0,.v (.string s)),(1,.v (.int .u8 c)),(5,.own 26 (List.length (o++([s.extract f i])))),(7,.i ((i:Nat):Int))] [(26,⟨9,.row (.strs (o++([s.extract f i])))⟩)] [26,25,8,999] 4491224266699955 [0≤((f:Nat):Int),((f:Nat):Int)≤((i:Nat):Int),((i:Nat):Int)≤((s.size:Nat):Int),o.length=o.length,(o.length+(List.length ([s.extract f i]))) * 16≤140737488355328] ⟨om,om,om,rfl,(by (try simp only [List.length_append,List.length_cons,List.length_nil,List.length_set]); omega)⟩ ?_ [26]
    refine lE tab21 hnt [(0,.v (.string s)),(1,.v (.int .u8 c)),(5,.own 26 (List.length (o++([s.extract f i])))),(6,(v211 i)),(7,.i ((i:Nat):Int))] 15869 [Fits .i64 (((i+1):Nat):Int)] (by exact fits_i64 (by omega) (by omega)) ?_
    refine blockQ_normal (thenQ_normal ?_)
    refine lE tab21 hnt [(0,.v (.string s)),(1,.v (.int .u8 c)),(5,.own 26 (List.length (o++([s.extract f i])))),(6,(v211 i)),(7,(v211 i))] 15869 [Fits .i64 (((i+1):Nat):Int)] (by exact fits_i64 (by omega) (by omega)) ?_
    refine thenQ_normal ?_
    refine ⟨((o++([s.extract f i])),(i+1),(i+1)),⟨oi,oi,(by first | exact spl_yes ho hf (by omega) hc h19 | exact spl_no ho hf (by omega) hc n19),(by first | omega | (simp only [List.length_append,List.length_cons,List.length_nil]; omega))⟩,(show s.size - (i+1)<s.size - i from o2),?_⟩
    exact Sub.of [(8,26)] (@cast (((((.string s):Value)=(.string s))∧(Sv (.int .u8 c))∧(((26:Nat)=26)∧((List.length (o++([s.extract f i])))=(List.length (o++([s.extract f i]))))∧((8:Nat) ∈ ([8,999] : List Nat)))∧(Si (((i+1):Nat):Int))∧(Si (((i+1):Nat):Int))∧Y)∧((((9:Nat)=9)∧(Sd (.strs (o++([s.extract f i]))))∧((8:Nat) ∈ ([8,999] : List Nat)))∧Y)∧(true=true)∧(true=true)) _ (by kernel_rfl) ⟨⟨rfl,rfl,⟨rfl,rfl,(by decide)⟩,rfl,rfl,tt⟩,⟨⟨rfl,rfl,(by decide)⟩,tt⟩,rfl,rfl⟩)
   ·intro n19
    refine W.skip (blockQ_normal (thenQ_normal ?_))
    refine lE tab21 hnt [(0,.v (.string s)),(1,.v (.int .u8 c)),(5,.own 8 o.length),(6,.i ((f:Nat):Int)),(7,(v211 i))] 15869 [Fits .i64 (((i+1):Nat):Int)] (by exact fits_i64 (by omega) (by omega)) ?_
    refine thenQ_normal ?_
    refine ⟨(o,f,(i+1)),⟨oi,oi,(by first | exact spl_yes ho hf (by omega) hc h19 | exact spl_no ho hf (by omega) hc n19),(by first | omega | (simp only [List.length_append,List.length_cons,List.length_nil]; omega))⟩,(show s.size - (i+1)<s.size - i from o2),?_⟩
    exact Sk
  ·intro n12
   refine W.exit (thenQ_exit (thenQ_exit (blockQ_hit ?_)))
   refine thenQ_normal ?_
   refine kS tab21 hnt [(4,.own 34 (List.length (o++([s.extract f s.size]))))] [(34,⟨9,.row (.strs (o++([s.extract f s.size])))⟩)] [34,33,8,999] 499024918522217 [0≤((f:Nat):Int),((f:Nat):Int)≤((s.size:Nat):Int),((s.size:Nat):Int)≤((s.size:Nat):Int),o.length=o.length,(o.length+(List.length ([s.extract f s.size]))) * 16≤140737488355328] ⟨om,om,om,rfl,(by (try simp only [List.length_append,List.length_cons,List.length_nil,List.length_set]); omega)⟩ ?_ [34]
   refine W.ret ?_
   exact endQ_rows [(0,34)] (.own 34 (List.length (o++([s.extract f s.size])))) (by kernel_rfl) (@cast (((34:Nat)=34)∧((List.length (o++([s.extract f s.size])))=(List.length (splitB8 c s)))∧((0:Nat) ∈ ([0] : List Nat))) _ (by kernel_rfl) ⟨rfl,(by first | rfl | omega | assumption | (symm; assumption) | (exact congrArg List.length (by exact spl_end ho (by omega))) | (exact spl_end ho (by omega); done) | simp | simp_all),(by decide)⟩) (@cast ((((9:Nat)=9)∧((.strs (o++([s.extract f s.size])):Dat)=.strs (splitB8 c s))∧((0:Nat) ∈ ([0] : List Nat)))∧Y) _ (by kernel_rfl) ⟨⟨rfl,(congrArg Dat.strs (by exact spl_end ho (by omega))),(by decide)⟩,tt⟩) (by kernel_rfl)
theorem ent21 : Entr prog 21 := ⟨_,func21,rfl,by decide⟩
end Go.Proofs.Tryz

set_option linter.unusedSimpArgs false
set_option linter.unusedVariables false
namespace Go.Proofs.Tryz
open Go.Ab Go.RowKit
def out24 : Bool→ATy [.int]→AV × List (TypeId × Dat) × Prop := fun _ (n,_)=>(.v (.string (numB n)),[],(-1000000≤n∧n≤1000000))
def mu24 : ATy [.int]→Nat := fun (n,_)=>(max (2 * n) (1 - 2 * n)).toNat
def fs24 : FnS := fnS [.o] [.int] out24
abbrev fsN24 (n:Nat) : FnS := fnS [.o] [.int] (lim out24 mu24 n)
theorem ent24 : Entr prog 24 := ⟨_,func24,rfl,by decide⟩
abbrev T24 (nn:Nat) : Tab := lk [(24,fsN24 nn)]
theorem tab24 {nn : Nat} (ih : FnOK prog 24 (fsN24 nn)) : TabOK prog (T24 nn) := (TabOK.cons ih ent24 TabOK.nil)
theorem okS24 (nn:Nat) (ih : FnOK prog 24 (fsN24 nn)) : FnOK prog 24 (fsN24 (nn+1)) := by
 refine FnOK.mk cok func24 rfl rfl rfl ?_
 rintro fl ⟨(n:Int),_⟩ hpre F hnt0 _
 have hnt : F.nt=22 := hnt0.trans ntmps24
 obtain ⟨hpre,hmu⟩ := hpre
 replace hmu : (max (2 * n) (1 - 2 * n)).toNat<nn+1 := hmu
 replace hpre : (-1000000≤n∧n≤1000000) := hpre
 have hn := hpre
 refine W.to (⟨[(0,.i n)],[],[999]⟩) rfl ?_
 have hd1 : 0≤n→Int.tdiv n 10=n / 10 := fun h=>Int.tdiv_eq_ediv_of_nonneg h
 have hd2 : 0≤n→Int.tmod n 10=n % 10 := fun h=>Int.tmod_eq_emod_of_nonneg h
 have sn := numB_size (0 - n)
 have sd := numB_size (Int.tdiv n 10)
 have sm := numB_size (Int.tmod n 10)
 refine kE (tab24 ih) hnt [(0,.i n)] 2 [] trivial ?_
 refine W.seq ?_
 refine kE (tab24 ih) hnt [(0,.i n),(4,.b (decide (n<(0:Int))))] 560 [] trivial ?_
 refine ifp (n<(0:Int)) ?_ ?_
 ·intro h4
  refine kE (tab24 ih) hnt [(2,.v (.string ((⟨#[45]⟩:ByteArray)++(numB (0 - n)))))] 75913853258 [Fits .i64 (0 - n),-1000000≤(0 - n)∧(0 - n)≤1000000,(max (2 * (0 - n)) (1 - 2 * (0 - n))).toNat<nn,(⟨#[45]⟩:ByteArray).size+(numB (0 - n)).size≤9223372036854775807] ⟨fi,om,om,(by (try simp only [ByteArray.size_append,ByteArray.size_extract,sz1,sz2,sz3,sz10]); omega)⟩ ?_
  refine W.ret (thenQ_ret ?_)
  exact eT (show ((⟨#[45]⟩:ByteArray)++(numB (0 - n)))=(numB n) from (by exact numB_neg h4))
 ·intro n4
  refine W.skip (thenQ_normal ?_)
  refine W.seq ?_
  refine kE (tab24 ih) hnt [(0,.i n),(10,.b (decide (n<(10:Int))))] 560 [] trivial ?_
  refine ifp (n<(10:Int)) ?_ ?_
  ·intro h10
   refine kE (tab24 ih) hnt [(2,.v (.string ((⟨#[48,49,50,51,52,53,54,55,56,57]⟩:ByteArray).extract (Int.toNat n) (Int.toNat (n+(1:Int))))))] 79711864148 [Fits .i64 (n+(1:Int)),0≤n,n≤(n+(1:Int)),(n+(1:Int))≤((((⟨#[48,49,50,51,52,53,54,55,56,57]⟩:ByteArray).size):Nat):Int)] ⟨fi,om,om,(by (try simp only [ByteArray.size_append,ByteArray.size_extract,sz1,sz2,sz3,sz10]); omega)⟩ ?_
   refine W.ret (thenQ_ret ?_)
   exact eT (show ((⟨#[48,49,50,51,52,53,54,55,56,57]⟩:ByteArray).extract (Int.toNat n) (Int.toNat (n+(1:Int))))=(numB n) from (by exact numB_one n4 h10))
  ·intro n10
   refine W.skip (thenQ_normal ?_)
   refine kE (tab24 ih) hnt [(2,.v (.string ((numB (Int.tdiv n (10:Int)))++(numB (Int.tmod n (10:Int))))))] 2382257153870398930052 [(10:Int)≠0,Fits .i64 (Int.tdiv n (10:Int)),-1000000≤(Int.tdiv n (10:Int))∧(Int.tdiv n (10:Int))≤1000000,(max (2 * (Int.tdiv n (10:Int))) (1 - 2 * (Int.tdiv n (10:Int)))).toNat<nn,(10:Int)≠0,-1000000≤(Int.tmod n (10:Int))∧(Int.tmod n (10:Int))≤1000000,(max (2 * (Int.tmod n (10:Int))) (1 - 2 * (Int.tmod n (10:Int)))).toNat<nn,(numB (Int.tdiv n (10:Int))).size+(numB (Int.tmod n (10:Int))).size≤9223372036854775807] ⟨(by decide),(by rw [hd1 (by omega)]; exact fits_i64 (by omega) (by omega)),(by have h8 := hd1 (by omega); omega),(by have h8 := hd1 (by omega); omega),(by decide),(by have h8 := hd2 (by omega); omega),(by have h8 := hd2 (by omega); omega),(by (try simp only [ByteArray.size_append,ByteArray.size_extract,sz1,sz2,sz3,sz10]); omega)⟩ ?_
   refine W.ret ?_
   exact eT (show ((numB (Int.tdiv n (10:Int)))++(numB (Int.tmod n (10:Int))))=(numB n) from (by exact numB_two n4 n10))
theorem ok24 : FnOK prog 24 fs24 := FnOK.rec' okS24
end Go.Proofs.Tryz

set_option linter.unusedSimpArgs false
set_option linter.unusedVariables false
namespace Go.Proofs.Tryz
open Go.Ab Go.RowKit
def fs63 : FnS := fnS [.o] [.str] (fun _ (s,_)=>(.i (readNum s.data.toList),[],(s.size≤2000000)))
abbrev T63 : Tab := lk [(24,fs24)]
theorem tab63 : TabOK prog T63 := (TabOK.cons ok24 ent24 TabOK.nil)
abbrev v630 (n:Int) (s:ByteArray) (i:Nat):AV:=.i (((10:Int) * n)+((((UInt8.toNat (List.getD s.data.toList i 0)):Nat):Int) - (48:Int)))
theorem ok63 : FnOK prog 63 fs63 := by
 refine FnOK.mk cok func63 rfl rfl rfl ?_
 rintro fl ⟨(s:ByteArray),_⟩ hpre F hnt0 _
 have hnt : F.nt=42 := hnt0.trans ntmps63
 replace hpre : (s.size≤2000000) := hpre
 have hz := hpre
 refine W.to (⟨[(0,.v (.string s))],[],[999]⟩) rfl ?_
 have hu : ∀ i : Nat,((UInt8.toNat (List.getD s.data.toList i 0):Nat):Int)≤255 := fun i=>by have := (List.getD s.data.toList i 0).toNat_lt; omega
 refine kE tab63 hnt [(0,.v (.string s))] 2 [] tt ?_
 refine kE tab63 hnt [(0,.v (.string s)),(3,.i (0:Int))] 2 [] tt ?_
 refine W.seq ?_
 refine kE tab63 hnt [(0,.v (.string s)),(3,.i (0:Int)),(4,.i (0:Int))] 2 [] tt ?_
 refine W.block ?_
 refine W.loop (ι := Nat × Int) (fun (x : Nat × Int)=>match x with | (i,n)=>(⟨[(0,.v (.string s)),(3,.i n),(4,.i ((i:Nat):Int))],[],[999]⟩:St))
  (fun (x : Nat × Int)=>match x with | (i,n)=>(i≤s.size)∧(0≤n∧n≤100000)∧(rnLoop s.data.toList 0=rnLoop (s.data.toList.drop i) n.toNat))
  (fun (x : Nat × Int)=>match x with | (i,n)=>(s.size - i:Nat)) (0,(0:Int)) ?_ ?_ ?_
 ·exact ⟨oi,(by omega),(by rfl)⟩
 ·exact Sk
 ·rintro ⟨i,n⟩ hC0
  obtain ⟨hi,hn,hr⟩ := hC0
  have hu1 := hu i
  refine W.seq ?_
  refine kE tab63 hnt [(0,.v (.string s)),(3,.i n),(4,.i ((i:Nat):Int)),(8,.b (decide (((i:Nat):Int)<((s.size:Nat):Int))))] 45380 [] tt ?_
  refine ifp (((i:Nat):Int)<((s.size:Nat):Int)) ?_ ?_
  ·intro h8
   refine W.skip (thenQ_normal ?_)
   refine W.seq ?_
   refine W.block ?_
   refine W.seq ?_
   refine kE tab63 hnt [(0,.v (.string s)),(3,.i n),(4,.i ((i:Nat):Int)),(24,.b (((decide ((((UInt8.toNat (List.getD s.data.toList i 0)):Nat):Int)<(48:Int))) || (decide ((57:Int)<(((UInt8.toNat (List.getD s.data.toList i 0)):Nat):Int)))) || (decide ((1000:Int)<n))))] 4700405798062735536344 ((fun (Z1:Bool)=>((fun (Z2:Bool)=>([0≤((i:Nat):Int),((i:Nat):Int)<((s.size:Nat):Int),(!Z1)=true→Y,(!Z1)=true→Y,(!Z1)=true→((((!Z1)=true)∧Y)∧((((!Z1)=true)∧Y)∧((0≤((i:Nat):Int))∧(((i:Nat):Int)<((s.size:Nat):Int))))),(!Z1)=true→((((!Z1)=true)∧Y)∧(Y∧Y)),Z1=true→Y,Z1=false→((!Z1)=true)∧Y,(!Z2)=true→Y,(!Z2)=true→((((!Z2)=true)∧Y)∧(Y∧Y)),Z2=true→Y,Z2=false→((!Z2)=true)∧Y]:PL)) (Z1 || (decide ((57:Int)<(((UInt8.toNat (List.getD s.data.toList i 0)):Nat):Int)))))) (decide ((((UInt8.toNat (List.getD s.data.toList i 0)):Nat):Int)<(48:Int)))) ⟨om,om,(fun _=>trivial),(fun _=>trivial),(fun hG=>⟨⟨hG,tt⟩,⟨hG,tt⟩,(by have hg0 : ¬ ((((UInt8.toNat (List.getD s.data.toList i 0)):Nat):Int)<(48:Int)) := of_decide_eq_false (not_f hG); omega),(by have hg0 : ¬ ((((UInt8.toNat (List.getD s.data.toList i 0)):Nat):Int)<(48:Int)) := of_decide_eq_false (not_f hG); omega)⟩),(fun hG=>⟨⟨hG,tt⟩,tt,tt⟩),(fun _=>trivial),(fun hp=>⟨(not_t hp),tt⟩),(fun _=>trivial),(fun hG=>⟨⟨hG,tt⟩,tt,tt⟩),(fun _=>trivial),(fun hp=>⟨(not_t hp),tt⟩)⟩ ?_
   refine ifb (((decide ((((UInt8.toNat (List.getD s.data.toList i 0)):Nat):Int)<(48:Int))) || (decide ((57:Int)<(((UInt8.toNat (List.getD s.data.toList i 0)):Nat):Int)))) || (decide ((1000:Int)<n))) ?_ ?_
   ·intro h24
    refine kE tab63 hnt [(2,.i (-2:Int))] 2 [] tt ?_
    refine W.ret (thenQ_ret (blockQ_ret (thenQ_ret (thenQ_ret (blockQ_ret (thenQ_ret ?_))))))
    exact eI (show (-2:Int)=(readNum s.data.toList) from (by exact rn_bad (by rw [← sz]; omega) hn.1 h24 hr))
   ·intro n24
    have n24_0 : ¬ ((((UInt8.toNat (List.getD s.data.toList i 0)):Nat):Int)<(48:Int)) := of_decide_eq_false (or_l (or_l n24))
    have n24_1 : ¬ ((57:Int)<(((UInt8.toNat (List.getD s.data.toList i 0)):Nat):Int)) := of_decide_eq_false (or_r (or_l n24))
    have n24_2 : ¬ ((1000:Int)<n) := of_decide_eq_false (or_r n24)
    have h9 := rn_small n24
    refine W.skip (thenQ_normal ?_)
    refine lE tab63 hnt [(0,.v (.string s)),(3,(v630 n s i)),(4,.i ((i:Nat):Int))] 363076096497145598 [Fits .i64 ((10:Int) * n),0≤((i:Nat):Int),((i:Nat):Int)<((s.size:Nat):Int),Fits .u8 ((((UInt8.toNat (List.getD s.data.toList i 0)):Nat):Int) - (48:Int)),Fits .i64 ((((UInt8.toNat (List.getD s.data.toList i 0)):Nat):Int) - (48:Int)),Fits .i64 (((10:Int) * n)+((((UInt8.toNat (List.getD s.data.toList i 0)):Nat):Int) - (48:Int)))] ⟨(by exact fits_i64 (by omega) (by omega)),om,om,(by exact fits_u8 (by omega) (by omega)),(by exact fits_i64 (by omega) (by omega)),(by exact fits_i64 (by omega) (by omega))⟩ ?_
    refine blockQ_normal (thenQ_normal ?_)
    refine lE tab63 hnt [(0,.v (.string s)),(3,(v630 n s i)),(4,.i (((i+1):Nat):Int))] 15869 [Fits .i64 (((i+1):Nat):Int)] (by exact fits_i64 (by omega) (by omega)) ?_
    refine thenQ_normal ?_
    refine ⟨((i+1),(((10:Int) * n)+((((UInt8.toNat (List.getD s.data.toList i 0)):Nat):Int) - (48:Int)))),⟨oi,(by have h9 := rn_small n24; omega),(by exact rn_step (by rw [← sz]; omega) hn.1 n24 hr)⟩,(show s.size - (i+1)<s.size - i from o2),?_⟩
    exact Sk
  ·intro n8
   refine W.exit (thenQ_exit (thenQ_exit (blockQ_hit ?_)))
   refine thenQ_normal ?_
   refine W.seq ?_
   refine kE tab63 hnt [(3,.i n),(40,.b ((eqS s nEmpty) || (!(eqS (numB n) s))))] 149786423336 ((fun (Z1:Bool)=>([(!Z1)=true→Y,(!Z1)=true→(Y∧(((((!Z1)=true)∧Y)∧Y)∧(-1000000≤n∧n≤1000000))),(!Z1)=true→Y,(!Z1)=true→((((!Z1)=true)∧Y)∧((((!Z1)=true)∧Y)∧Y)),Z1=true→Y,Z1=false→((!Z1)=true)∧Y]:PL)) (eqS s nEmpty)) ⟨(fun _=>trivial),(fun hG=>⟨tt,⟨⟨hG,tt⟩,tt⟩,om⟩),(fun _=>trivial),(fun hG=>⟨⟨hG,tt⟩,⟨hG,tt⟩,tt⟩),(fun _=>trivial),(fun hp=>⟨(not_t hp),tt⟩)⟩ ?_
   refine ifb ((eqS s nEmpty) || (!(eqS (numB n) s))) ?_ ?_
   ·intro h40
    refine kE tab63 hnt [(2,.i (-2:Int))] 2 [] tt ?_
    refine W.ret (thenQ_ret ?_)
    exact eI (show (-2:Int)=(readNum s.data.toList) from (by rw [rn_end (by omega) hn.1 hr h40]; rfl))
   ·intro n40
    refine W.skip (thenQ_normal ?_)
    refine kE tab63 hnt [(2,.i n)] 20 [] tt ?_
    refine W.ret ?_
    exact eI (show n=(readNum s.data.toList) from (by rw [rn_end (by omega) hn.1 hr n40]; rfl))
theorem ent63 : Entr prog 63 := ⟨_,func63,rfl,by decide⟩
end Go.Proofs.Tryz
