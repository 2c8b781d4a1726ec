import Derived.Test.YtjcapebfkgoicaaDoorTF6S0
set_option linter.unusedSimpArgs false
set_option linter.unusedVariables false
namespace Go.Ab
end Go.Ab
namespace Go.Ab
end Go.Ab
namespace Go.Ab
end Go.Ab
namespace Go.Ab
end Go.Ab

set_option linter.unusedSimpArgs false
set_option linter.unusedVariables false
namespace Go.Ab
end Go.Ab
namespace Go.Ab
end Go.Ab
namespace Go.Ab
section
variable {s : ByteArray} {h : List CallD} {f : Nat → Nat → Bool} {o : List Int}
end
end Go.Ab
namespace Go.Ab
end Go.Ab
namespace Go.Ab
section
variable {s : ByteArray} {h : List CallD} {f : Nat → Nat → Bool} {o : List Int}
end
end Go.Ab

set_option linter.unusedSimpArgs false
set_option linter.unusedVariables false
namespace Go.Ab
section
variable {s : ByteArray} {h : List CallD} {f g : Nat → Nat → Bool} {rows : List Int}
end
end Go.Ab
namespace Go.Ab
end Go.Ab
namespace Go.Ab
end Go.Ab

set_option linter.unusedSimpArgs false
set_option linter.unusedVariables false
namespace Go.Ab
theorem calls_ext {a b : List CallD} (hl : a.length = b.length) (h : ∀ j,j < a.length → a.getD j default = b.getD j default) : a = b := by
 apply List.ext_getElem hl
 intro i h1 h2
 have := h i h1
 rw [List.getD_eq_getElem?_getD,List.getElem?_eq_getElem h1,List.getD_eq_getElem?_getD,List.getElem?_eq_getElem h2] at this
 exact this
theorem call_ext {a b : CallD} (h1 : a.proc = b.proc) (h2 : a.obj = b.obj) (h3 : a.kind = b.kind) (h4 : a.arg = b.arg) (h5 : a.ret = b.ret) (h6 : a.frm = b.frm) (h7 : a.to = b.to) : a = b := by
 cases a; cases b; simp_all
end Go.Ab

set_option linter.unusedSimpArgs false
set_option linter.unusedVariables false
namespace Go.Ab
end Go.Ab

set_option linter.unusedSimpArgs false
set_option linter.unusedVariables false
namespace Go.Ab
end Go.Ab

set_option linter.unusedSimpArgs false
set_option linter.unusedVariables false
namespace Go.Ab
theorem getD_set_self {α : Type} {l : List α} {i : Nat} {x d : α} (hi : i < l.length) : (l.set i x).getD i d = x := by
 rw [List.getD_eq_getElem?_getD,List.getElem?_set_self hi]; rfl
end Go.Ab

set_option linter.unusedSimpArgs false
set_option linter.unusedVariables false
namespace Go.Ab
theorem u8_back (b : UInt8) : (Int.toNat ((b.toNat : Nat) : Int)).toUInt8 = b := by simp
theorem splitN_piece {c : UInt8} : ∀ {n : Nat} {s p : List UInt8},p ∈ splitNL c n s → p.length ≤ s.length
 | 0,s,p,h => by simp [splitNL] at h
 | 1,s,p,h => by simp [splitNL] at h; simp [h]
 | n + 2,s,p,h => by
  simp only [splitNL] at h
  split at h
  ·have hl := cutL_len c s
   rcases List.mem_cons.1 h with rfl | h
   ·exact hl.1
   ·have := splitN_piece h; omega
  ·simp at h; simp [h]
theorem splitN_psz (sep s : ByteArray) (n : Int) (i : Nat) : ((splitNB sep n s).getD i default).size ≤ s.size := by
 unfold splitNB
 by_cases hi : i < (splitNL (sepc sep) n.toNat s.data.toList).length
 ·rw [List.getD_eq_getElem?_getD,List.getElem?_map,List.getElem?_eq_getElem hi]
  simp only [Option.map_some,Option.getD_some]
  rw [ba_size,sz]
  exact splitN_piece (List.getElem_mem hi)
 ·rw [List.getD_eq_getElem?_getD,List.getElem?_map,List.getElem?_eq_none (by omega)]
  exact Nat.zero_le _
theorem rn_small {b c d : Prop} [Decidable b] [Decidable c] [Decidable d] (h : ((decide b || decide c) || decide d) = false) : ¬ b ∧ ¬ c ∧ ¬ d := by simpa [and_assoc] using h
abbrev rsX (w : ByteArray) : ByteArray := List.getD (splitB8 64 w) 0 default
abbrev rsT (w : ByteArray) : ByteArray := List.getD (splitB8 64 w) 1 default
abbrev rsF (w : ByteArray) : List ByteArray := splitB8 45 (rsT w)
abbrev rsV (w : ByteArray) : List ByteArray := splitB8 61 ((rsX w).extract 3 (rsX w).size)
theorem list2 {α : Type} {l : List α} (h : l.length = 2) : ∃ a b,l = [a,b] := by
 match l,h with
 | [a,b],_ => exact ⟨a,b,rfl⟩
theorem len2 (c : Int) (s : ByteArray) : (splitB8 c s).length = (splitL c.toNat.toUInt8 s.data.toList).length := by unfold splitB8; simp
theorem rs_short {w : ByteArray} (h : ¬ ((splitB8 64 w).length = 2 ∧ 3 ≤ (rsX w).size)) : readS w.data.toList = badC := by
 unfold readS
 split
 ·rename_i x y z v t he
  exfalso; apply h
  have e : splitB8 64 w = [BA (x :: y :: z :: v),BA t] := by
   unfold splitB8; rw [show (Int.toNat 64).toUInt8 = 64 from rfl,he]; rfl
  unfold rsX
  rw [e]
  refine ⟨rfl,?_⟩
  show 3 ≤ (BA (x :: y :: z :: v)).size
  rw [ba_size]; simp
 ·rfl
theorem rs_shape {w : ByteArray} (h1 : (splitB8 64 w).length = 2) (h2 : 3 ≤ (rsX w).size) : ∃ x y z v t,splitL 64 w.data.toList = [x :: y :: z :: v,t] ∧ rsX w = BA (x :: y :: z :: v) ∧ rsT w = BA t := by
 obtain ⟨a,t,he⟩ := list2 (by rw [len2] at h1; exact h1)
 have e : splitB8 64 w = [BA a,BA t] := by
  unfold splitB8; rw [he]; rfl
 have e1 : rsX w = BA a := by unfold rsX; rw [e]; rfl
 have e2 : rsT w = BA t := by unfold rsT; rw [e]; rfl
 rw [e1,ba_size] at h2
 match a,h2 with
 | x :: y :: z :: v,_ => exact ⟨x,y,z,v,t,he,e1,e2⟩
 | [],h => simp at h
 | [_],h => simp at h
 | [_,_],h => simp at h
def rsVal (w : ByteArray) : CallD :=
 match objV ((rsX w).data.toList.getD 1 0),kindV ((rsX w).data.toList.getD 2 0) with
 | some o,some k => ⟨readNum ((rsX w).extract 0 1).data.toList,o,k,readNum (List.getD (rsV w) 0 default).data.toList,
   if List.getD (rsV w) 1 default = (⟨#[45,49]⟩ : ByteArray) then -1 else readNum (List.getD (rsV w) 1 default).data.toList,readNum (List.getD (rsF w) 0 default).data.toList,readNum (List.getD (rsF w) 1 default).data.toList⟩
 | _,_ => badC
theorem rs_parts {w : ByteArray} (h1 : (splitB8 64 w).length = 2) (h2 : 3 ≤ (rsX w).size) (h : ¬ ((rsF w).length = 2 ∧ (rsV w).length = 2)) : readS w.data.toList = badC := by
 obtain ⟨x,y,z,v,t,he,e1,e2⟩ := rs_shape h1 h2
 have ef : rsF w = (splitL 45 t).map BA := by unfold rsF; rw [e2]; rfl
 have ev : rsV w = (splitL 61 v).map BA := by unfold rsV; rw [e1,ba_extract,ba_size,List.take_length]; rfl
 unfold readS
 rw [he]
 simp only
 split
 ·rename_i f g a r hf ha
  exfalso; apply h
  rw [ef,ev,hf,ha]; exact ⟨rfl,rfl⟩
 ·rfl
theorem rs_main {w : ByteArray} (h1 : (splitB8 64 w).length = 2) (h2 : 3 ≤ (rsX w).size) (h3 : (rsF w).length = 2) (h4 : (rsV w).length = 2) : readS w.data.toList = rsVal w := by
 obtain ⟨x,y,z,v,t,he,e1,e2⟩ := rs_shape h1 h2
 have ef : rsF w = (splitL 45 t).map BA := by unfold rsF; rw [e2]; rfl
 have ev : rsV w = (splitL 61 v).map BA := by unfold rsV; rw [e1,ba_extract,ba_size,List.take_length]; rfl
 obtain ⟨f,g,hf⟩ := list2 (l := splitL 45 t) (by rw [ef,List.length_map] at h3; exact h3)
 obtain ⟨a,r,ha⟩ := list2 (l := splitL 61 v) (by rw [ev,List.length_map] at h4; exact h4)
 rw [hf] at ef
 rw [ha] at ev
 have er : (List.getD (rsV w) 1 default = (⟨#[45,49]⟩ : ByteArray)) ↔ r = [45,49] := by
  rw [ev]
  show BA r = BA [45,49] ↔ _
  exact ⟨ba_inj,fun e => by rw [e]⟩
 have eo : (rsX w).data.toList.getD 1 0 = y := by rw [e1]; rfl
 have ek : (rsX w).data.toList.getD 2 0 = z := by rw [e1]; rfl
 have ex : ((rsX w).extract 0 1).data.toList = [x] := by rw [e1,ba_extract]; rfl
 unfold readS rsVal
 rw [he,eo,ek,ex]
 simp only [hf,ha]
 rw [ev,ef] at *
 simp only [er]
 rfl
theorem ov0 {b : UInt8} (h : ((b.toNat : Nat) : Int) = 120) : objV b = some 0 := by
 have : b = 120 := (byte_eq (c := 120) (by decide) (by decide)).1 h
 rw [this]; rfl
theorem ov1 {b : UInt8} (h : ((b.toNat : Nat) : Int) = 121) : objV b = some 1 := by
 have : b = 121 := (byte_eq (c := 121) (by decide) (by decide)).1 h
 rw [this]; rfl
theorem ovn {b : UInt8} (h : ¬ ((b.toNat : Nat) : Int) = 120) (h' : ¬ ((b.toNat : Nat) : Int) = 121) : objV b = none := by
 unfold objV
 rw [if_neg (fun e => h (by rw [e]; rfl)),if_neg (fun e => h' (by rw [e]; rfl))]
theorem kv0 {b : UInt8} (h : ((b.toNat : Nat) : Int) = 112) : kindV b = some 0 := by
 have : b = 112 := (byte_eq (c := 112) (by decide) (by decide)).1 h
 rw [this]; rfl
theorem kv1 {b : UInt8} (h : ((b.toNat : Nat) : Int) = 116) : kindV b = some 1 := by
 have : b = 116 := (byte_eq (c := 116) (by decide) (by decide)).1 h
 rw [this]; rfl
theorem kv2 {b : UInt8} (h : ((b.toNat : Nat) : Int) = 108) : kindV b = some 2 := by
 have : b = 108 := (byte_eq (c := 108) (by decide) (by decide)).1 h
 rw [this]; rfl
theorem kvn {b : UInt8} (h : ¬ ((b.toNat : Nat) : Int) = 112) (h' : ¬ ((b.toNat : Nat) : Int) = 116) (h2 : ¬ ((b.toNat : Nat) : Int) = 108) : kindV b = none := by
 unfold kindV
 rw [if_neg (fun e => h (by rw [e]; rfl)),if_neg (fun e => h' (by rw [e]; rfl)),if_neg (fun e => h2 (by rw [e]; rfl))]
theorem rv_obj {w : ByteArray} (h : objV ((rsX w).data.toList.getD 1 0) = none) : badC = rsVal w := by unfold rsVal; rw [h]
theorem rv_kind {w : ByteArray} (h : kindV ((rsX w).data.toList.getD 2 0) = none) : badC = rsVal w := by
 unfold rsVal; rw [h]
 cases objV ((rsX w).data.toList.getD 1 0) <;> rfl
theorem rv_neg {w : ByteArray} {o k : Int} (ho : objV ((rsX w).data.toList.getD 1 0) = some o) (hk : kindV ((rsX w).data.toList.getD 2 0) = some k) (hr : eqS (List.getD (rsV w) 1 default) (⟨#[45,49]⟩ : ByteArray) = true) :
  (⟨readNum ((rsX w).extract 0 1).data.toList,o,k,readNum (List.getD (rsV w) 0 default).data.toList,-1,readNum (List.getD (rsF w) 0 default).data.toList,readNum (List.getD (rsF w) 1 default).data.toList⟩ : CallD) = rsVal w := by
 unfold rsVal; rw [ho,hk]
 simp only
 rw [if_pos (eqB_iff.1 hr)]
theorem rv_pos {w : ByteArray} {o k : Int} (ho : objV ((rsX w).data.toList.getD 1 0) = some o) (hk : kindV ((rsX w).data.toList.getD 2 0) = some k) (hr : ¬ eqS (List.getD (rsV w) 1 default) (⟨#[45,49]⟩ : ByteArray) = true) :
  (⟨readNum ((rsX w).extract 0 1).data.toList,o,k,readNum (List.getD (rsV w) 0 default).data.toList,readNum (List.getD (rsV w) 1 default).data.toList,readNum (List.getD (rsF w) 0 default).data.toList,readNum (List.getD (rsF w) 1 default).data.toList⟩ : CallD) = rsVal w := by
 unfold rsVal; rw [ho,hk]
 simp only
 rw [if_neg (fun e => hr (eqB_iff.2 e))]
theorem cd_eta (a b c d e f g : Int) (x : CallD) (h : (⟨a,b,c,d,e,f,g⟩ : CallD) = x) : a = x.proc ∧ b = x.obj ∧ c = x.kind ∧ d = x.arg ∧ e = x.ret ∧ f = x.frm ∧ g = x.to := by subst h; exact ⟨rfl,rfl,rfl,rfl,rfl,rfl,rfl⟩
theorem setc_upd {xs S : List CallD} {i : Nat} (hi : i < xs.length) (y : CallD) (F : CallD → CallD) (hS : S = xs.set i y) : S.set i (F (S.getD i default)) = xs.set i (F y) := by
 subst hS; rw [getD_set_self hi,List.set_set]
theorem setc7 {xs : List CallD} {i : Nat} (hi : i < xs.length) (a b c d e f g : Int) :
  (((((((xs).set i { (xs).getD i default with proc := a }).set i { ((xs).set i { (xs).getD i default with proc := a }).getD i default with obj := b }).set i { (((xs).set i { (xs).getD i default with proc := a }).set i { ((xs).set i { (xs).getD i default with proc := a }).getD i default with obj := b }).getD i default with kind := c }).set i { ((((xs).set i { (xs).getD i default with proc := a }).set i { ((xs).set i { (xs).getD i default with proc := a }).getD i default with obj := b }).set i { (((xs).set i { (xs).getD i default with proc := a }).set i { ((xs).set i { (xs).getD i default with proc := a }).getD i default with obj := b }).getD i default with kind := c }).getD i default with arg := d }).set i { (((((xs).set i { (xs).getD i default with proc := a }).set i { ((xs).set i { (xs).getD i default with proc := a }).getD i default with obj := b }).set i { (((xs).set i { (xs).getD i default with proc := a }).set i { ((xs).set i { (xs).getD i default with proc := a }).getD i default with obj := b }).getD i default with kind := c }).set i { ((((xs).set i { (xs).getD i default with proc := a }).set i { ((xs).set i { (xs).getD i default with proc := a }).getD i default with obj := b }).set i { (((xs).set i { (xs).getD i default with proc := a }).set i { ((xs).set i { (xs).getD i default with proc := a }).getD i default with obj := b }).getD i default with kind := c }).getD i default with arg := d }).getD i default with ret := e }).set i { ((((((xs).set i { (xs).getD i default with proc := a }).set i { ((xs).set i { (xs).getD i default with proc := a }).getD i default with obj := b }).set i { (((xs).set i { (xs).getD i default with proc := a }).set i { ((xs).set i { (xs).getD i default with proc := a }).getD i default with obj := b }).getD i default with kind := c }).set i { ((((xs).set i { (xs).getD i default with proc := a }).set i { ((xs).set i { (xs).getD i default with proc := a }).getD i default with obj := b }).set i { (((xs).set i { (xs).getD i default with proc := a }).set i { ((xs).set i { (xs).getD i default with proc := a }).getD i default with obj := b }).getD i default with kind := c }).getD i default with arg := d }).set i { (((((xs).set i { (xs).getD i default with proc := a }).set i { ((xs).set i { (xs).getD i default with proc := a }).getD i default with obj := b }).set i { (((xs).set i { (xs).getD i default with proc := a }).set i { ((xs).set i { (xs).getD i default with proc := a }).getD i default with obj := b }).getD i default with kind := c }).set i { ((((xs).set i { (xs).getD i default with proc := a }).set i { ((xs).set i { (xs).getD i default with proc := a }).getD i default with obj := b }).set i { (((xs).set i { (xs).getD i default with proc := a }).set i { ((xs).set i { (xs).getD i default with proc := a }).getD i default with obj := b }).getD i default with kind := c }).getD i default with arg := d }).getD i default with ret := e }).getD i default with frm := f }).set i { (((((((xs).set i { (xs).getD i default with proc := a }).set i { ((xs).set i { (xs).getD i default with proc := a }).getD i default with obj := b }).set i { (((xs).set i { (xs).getD i default with proc := a }).set i { ((xs).set i { (xs).getD i default with proc := a }).getD i default with obj := b }).getD i default with kind := c }).set i { ((((xs).set i { (xs).getD i default with proc := a }).set i { ((xs).set i { (xs).getD i default with proc := a }).getD i default with obj := b }).set i { (((xs).set i { (xs).getD i default with proc := a }).set i { ((xs).set i { (xs).getD i default with proc := a }).getD i default with obj := b }).getD i default with kind := c }).getD i default with arg := d }).set i { (((((xs).set i { (xs).getD i default with proc := a }).set i { ((xs).set i { (xs).getD i default with proc := a }).getD i default with obj := b }).set i { (((xs).set i { (xs).getD i default with proc := a }).set i { ((xs).set i { (xs).getD i default with proc := a }).getD i default with obj := b }).getD i default with kind := c }).set i { ((((xs).set i { (xs).getD i default with proc := a }).set i { ((xs).set i { (xs).getD i default with proc := a }).getD i default with obj := b }).set i { (((xs).set i { (xs).getD i default with proc := a }).set i { ((xs).set i { (xs).getD i default with proc := a }).getD i default with obj := b }).getD i default with kind := c }).getD i default with arg := d }).getD i default with ret := e }).set i { ((((((xs).set i { (xs).getD i default with proc := a }).set i { ((xs).set i { (xs).getD i default with proc := a }).getD i default with obj := b }).set i { (((xs).set i { (xs).getD i default with proc := a }).set i { ((xs).set i { (xs).getD i default with proc := a }).getD i default with obj := b }).getD i default with kind := c }).set i { ((((xs).set i { (xs).getD i default with proc := a }).set i { ((xs).set i { (xs).getD i default with proc := a }).getD i default with obj := b }).set i { (((xs).set i { (xs).getD i default with proc := a }).set i { ((xs).set i { (xs).getD i default with proc := a }).getD i default with obj := b }).getD i default with kind := c }).getD i default with arg := d }).set i { (((((xs).set i { (xs).getD i default with proc := a }).set i { ((xs).set i { (xs).getD i default with proc := a }).getD i default with obj := b }).set i { (((xs).set i { (xs).getD i default with proc := a }).set i { ((xs).set i { (xs).getD i default with proc := a }).getD i default with obj := b }).getD i default with kind := c }).set i { ((((xs).set i { (xs).getD i default with proc := a }).set i { ((xs).set i { (xs).getD i default with proc := a }).getD i default with obj := b }).set i { (((xs).set i { (xs).getD i default with proc := a }).set i { ((xs).set i { (xs).getD i default with proc := a }).getD i default with obj := b }).getD i default with kind := c }).getD i default with arg := d }).getD i default with ret := e }).getD i default with frm := f }).getD i default with to := g }
   = xs.set i ⟨a,b,c,d,e,f,g⟩ :=
 setc_upd hi _ (fun m => { m with to := g }) (setc_upd hi _ (fun m => { m with frm := f }) (setc_upd hi _ (fun m => { m with ret := e }) (setc_upd hi _ (fun m => { m with arg := d }) (setc_upd hi _ (fun m => { m with kind := c }) (setc_upd hi _ (fun m => { m with obj := b }) (rfl))))))
def mkCUp (l : List CallD) (k : Int) : Nat → List CallD
 | 0 => l
 | i + 1 => (mkCUp l k i).set i ⟨k + 7 * ((i : Nat) : Int),k + 7 * ((i : Nat) : Int) + 1,k + 7 * ((i : Nat) : Int) + 2,k + 7 * ((i : Nat) : Int) + 3,k + 7 * ((i : Nat) : Int) + 4,k + 7 * ((i : Nat) : Int) + 5,k + 7 * ((i : Nat) : Int) + 6⟩
theorem mkCUp_len (l : List CallD) (k : Int) : ∀ i,(mkCUp l k i).length = l.length
 | 0 => rfl
 | i + 1 => by unfold mkCUp; rw [List.length_set]; exact mkCUp_len l k i
def markC (l : List CallD) (k : Int) : List CallD := mkCUp l k l.length
theorem markC_len (l : List CallD) (k : Int) : (markC l k).length = l.length := mkCUp_len l k l.length
theorem mkCUp_get (l : List CallD) (k : Int) : ∀ (i : Nat),i ≤ l.length → ∀ j,j < i → (mkCUp l k i).getD j default = ⟨k + 7 * ((j : Nat) : Int),k + 7 * ((j : Nat) : Int) + 1,k + 7 * ((j : Nat) : Int) + 2,k + 7 * ((j : Nat) : Int) + 3,k + 7 * ((j : Nat) : Int) + 4,k + 7 * ((j : Nat) : Int) + 5,k + 7 * ((j : Nat) : Int) + 6⟩
 | 0,_,j,hj => by omega
 | i + 1,hi,j,hj => by
  unfold mkCUp
  by_cases e : j = i
  ·subst e
   rw [getD_set_self (by rw [mkCUp_len]; omega)]
  ·rw [List.getD_eq_getElem?_getD,List.getElem?_set_ne (by omega),← List.getD_eq_getElem?_getD]
   exact mkCUp_get l k i (by omega) j (by omega)
theorem markC_step {l xs : List CallD} {k x : Int} {i : Nat} {y : CallD} (hx : xs = mkCUp l k i) (hi : i < l.length) (hk : x = k + 7 * ((i : Nat) : Int)) (hy : y = ⟨x,x + 1,x + 1 + 1,x + 1 + 1 + 1,x + 1 + 1 + 1 + 1,x + 1 + 1 + 1 + 1 + 1,x + 1 + 1 + 1 + 1 + 1 + 1⟩) : xs.set i y = mkCUp l k (i + 1) := by
 subst hx hk hy
 show _ = (mkCUp l k i).set i _
 congr 1
 rw [CallD.mk.injEq]
 omega
theorem markC_all {l xs : List CallD} {k : Int} {i : Nat} (hx : xs = mkCUp l k i) (hi : i ≤ l.length) (hn : ¬ ((i : Nat) : Int) < ((l.length : Nat) : Int)) : xs = markC l k := by
 have : i = l.length := by omega
 subst this; exact hx
def heldCAt (l : List CallD) (k : Int) (j : Nat) : Bool :=
 decide (l.getD j default = ⟨k + 7 * ((j : Nat) : Int),k + 7 * ((j : Nat) : Int) + 1,k + 7 * ((j : Nat) : Int) + 2,k + 7 * ((j : Nat) : Int) + 3,k + 7 * ((j : Nat) : Int) + 4,k + 7 * ((j : Nat) : Int) + 5,k + 7 * ((j : Nat) : Int) + 6⟩)
def heldC (l : List CallD) (k : Int) : Int := bif allN l.length (heldCAt l k) then k + 7 * ((l.length : Nat) : Int) else -1
theorem heldC_mark (l : List CallD) (k : Int) : heldC (markC l k) k = k + 7 * ((l.length : Nat) : Int) := by
 unfold heldC
 rw [allN_true,markC_len]
 ·rfl
 ·intro j hj
  rw [markC_len] at hj
  unfold heldCAt markC
  rw [mkCUp_get l k _ (Nat.le_refl _) j hj]
  exact decide_eq_true rfl
theorem heldC_no {l : List CallD} {k : Int} {i : Nat} (hi : i < l.length) (h : heldCAt l k i = false) : -1 = heldC l k := by
 unfold heldC
 rw [allN_false hi h]; rfl
theorem heldC_yes {l : List CallD} {k x : Int} {i : Nat} (hA : ∀ j,j < i → heldCAt l k j = true) (hi : i ≤ l.length) (hx : x = k + 7 * ((i : Nat) : Int)) (hn : ¬ ((i : Nat) : Int) < ((l.length : Nat) : Int)) : x = heldC l k := by
 unfold heldC
 have : i = l.length := by omega
 subst this
 rw [allN_true hA,hx]; rfl
theorem heldC_bad {l : List CallD} {k x : Int} {i : Nat} (hx : x = k + 7 * ((i : Nat) : Int)) (h : (l.getD i default).proc ≠ x ∨ (l.getD i default).obj ≠ x + 1 ∨ (l.getD i default).kind ≠ x + 1 + 1 ∨ (l.getD i default).arg ≠ x + 1 + 1 + 1 ∨ (l.getD i default).ret ≠ x + 1 + 1 + 1 + 1 ∨ (l.getD i default).frm ≠ x + 1 + 1 + 1 + 1 + 1 ∨ (l.getD i default).to ≠ x + 1 + 1 + 1 + 1 + 1 + 1) : heldCAt l k i = false := by
 unfold heldCAt
 refine decide_eq_false fun e => ?_
 rw [e] at h
 simp only at h
 omega
theorem heldC_good {l : List CallD} {k x : Int} {i : Nat} (hx : x = k + 7 * ((i : Nat) : Int)) (h1 : ¬ (l.getD i default).proc ≠ x) (h2 : ¬ (l.getD i default).obj ≠ x + 1) (h3 : ¬ (l.getD i default).kind ≠ x + 1 + 1) (h4 : ¬ (l.getD i default).arg ≠ x + 1 + 1 + 1) (h5 : ¬ (l.getD i default).ret ≠ x + 1 + 1 + 1 + 1) (h6 : ¬ (l.getD i default).frm ≠ x + 1 + 1 + 1 + 1 + 1) (h7 : ¬ (l.getD i default).to ≠ x + 1 + 1 + 1 + 1 + 1 + 1) : heldCAt l k i = true := by
 unfold heldCAt
 refine decide_eq_true ?_
 exact call_ext (by simp only; omega) (by simp only; omega) (by simp only; omega) (by simp only; omega) (by simp only; omega) (by simp only; omega) (by simp only; omega)
theorem parse_len (s : List UInt8) : (parseI s).1.length ≤ 6 := by
 rw [parse_eq]
 unfold parseS
 split
 ·rename_i h; exact valid_len h
 ·exact Nat.zero_le _
end Go.Ab

set_option linter.unusedSimpArgs false
set_option linter.unusedVariables false
namespace Go.Proofs.Tryd
open Go.Ab Go.RowKit
def fs53 : FnS := fnS [.o,.o] [.str,.u8] (fun _ (s,c,_) => (.own 0 (List.length (splitB8 c s)),[(9,.strs (splitB8 c s))],(0 ≤ c ∧ c ≤ 255) ∧ (s.size ≤ 2000000)))
abbrev T53 : Tab := lk []
theorem tab53 : TabOK prog T53 := TabOK.nil
set_option maxRecDepth 100000 in
set_option maxHeartbeats 1000000 in
theorem ok53 : FnOK prog 53 fs53 := by
 refine FnOK.mk cok func53 rfl rfl rfl ?_
 rintro fl ⟨(s : ByteArray),(c : Int),_⟩ hpre F hnt0 _
 have hnt : F.nt = 35 := hnt0.trans ntmps53
 replace hpre : (0 ≤ c ∧ c ≤ 255) ∧ (s.size ≤ 2000000) := hpre
 obtain ⟨hc,hz⟩ := hpre
 refine W.to (⟨[(0,.v (.string s)),(1,.v (.int .u8 c))],[],[999]⟩) rfl ?_
 refine Kk cok tab53 hnt [] [0,1] (⟨[(0,.v (.string s)),(1,.v (.int .u8 c))],[],[999]⟩)
  (True ∧ True)
  ⟨tt,tt⟩ ?_
 refine Kk cok tab53 hnt [8] [0,1,5] (⟨[(0,.v (.string s)),(1,.v (.int .u8 c)),(5,.own 8 (List.length ([] : List ByteArray)))],[(8,⟨9,.row (.strs ([] : List ByteArray))⟩)],[8,999]⟩)
  (True ∧ True ∧ True)
  ⟨tt,tt,tt⟩ ?_
 refine Kk cok tab53 hnt [] [0,1,5,6] (⟨[(0,.v (.string s)),(1,.v (.int .u8 c)),(5,.own 8 (List.length ([] : List ByteArray))),(6,.i (0 : Int))],[(8,⟨9,.row (.strs ([] : List ByteArray))⟩)],[8,999]⟩)
  (True ∧ True)
  ⟨tt,tt⟩ ?_
 refine W.seq ?_
 refine Kk cok tab53 hnt [] [0,1,5,6,7] (⟨[(0,.v (.string s)),(1,.v (.int .u8 c)),(5,.own 8 (List.length ([] : List ByteArray))),(6,.i (0 : Int)),(7,.i (0 : Int))],[(8,⟨9,.row (.strs ([] : List ByteArray))⟩)],[8,999]⟩)
  (True ∧ True)
  ⟨tt,tt⟩ ?_
 refine W.block ?_
 refine W.loop (ι := (List ByteArray) × Nat × Nat) (fun (x : (List ByteArray) × Nat × Nat) => match x with | (o,f,i) => (⟨[(0,.v (.string s)),(1,.v (.int .u8 c)),(5,.own 8 o.length),(6,.i ((f : Nat) : Int)),(7,.i ((i : Nat) : Int))],[(8,⟨9,.row (.strs o)⟩)],[8,999]⟩ : St))
  (fun (x : (List ByteArray) × Nat × Nat) => match x with | (o,f,i) => (i ≤ s.size) ∧ (f ≤ i) ∧ (SpI c s o f i) ∧ (o.length ≤ i))
  (fun (x : (List ByteArray) × Nat × Nat) => match x with | (o,f,i) => (s.size - i : Nat)) (([] : List ByteArray),0,0) ?_ ?_ ?_
 ·exact (show (0 ≤ s.size) ∧ (0 ≤ 0) ∧ (SpI c s ([] : List ByteArray) 0 0) ∧ (([] : List ByteArray).length ≤ 0) from ⟨(by first | assumption | omega | rfl | (intro _ hjj; omega) | (simp; done) | (simp; omega)),(by first | assumption | omega | rfl | (intro _ hjj; omega) | (simp; done) | (simp; omega)),(by exact spl_init _ _),(by exact Nat.zero_le _)⟩)
 ·exact Sub.of [] (@cast (((((.string s) : Value) = (.string s)) ∧ (Sv (.int .u8 c)) ∧ (((8 : Nat) = 8) ∧ ((List.length ([] : List ByteArray)) = (List.length ([] : List ByteArray))) ∧ ((8 : Nat) ∈ ([8,999] : List Nat))) ∧ ((.int .i64 (0 : Int) : Value) = .int .i64 ((0 : Nat) : Int)) ∧ ((.int .i64 (0 : Int) : Value) = .int .i64 ((0 : Nat) : Int)) ∧ True) ∧ ((((9 : Nat) = 9) ∧ (Sd (.strs ([] : List ByteArray))) ∧ ((8 : Nat) ∈ ([8,999] : List Nat))) ∧ True) ∧ (true = true) ∧ (true = true)) _ (by kernel_rfl) ⟨⟨rfl,rfl,⟨rfl,rfl,(by decide)⟩,(congrArg (Value.int .i64) (by first | rfl | omega | assumption | simp | simp_all)),(congrArg (Value.int .i64) (by first | rfl | omega | assumption | simp | simp_all)),tt⟩,⟨⟨rfl,rfl,(by decide)⟩,tt⟩,rfl,rfl⟩)
 ·rintro ⟨o,f,i⟩ hC0
  have hC : (i ≤ s.size) ∧ (f ≤ i) ∧ (SpI c s o f i) ∧ (o.length ≤ i) := hC0
  clear hC0
  obtain ⟨hi,hf,ho,hol⟩ := hC
  refine W.to (⟨[(0,.v (.string s)),(1,.v (.int .u8 c)),(5,.own 8 o.length),(6,.i ((f : Nat) : Int)),(7,.i ((i : Nat) : Int))],[(8,⟨9,.row (.strs o)⟩)],[8,999]⟩) rfl ?_
  refine W.seq ?_
  refine Kk cok tab53 hnt [] [0,1,5,6,7,12] (⟨[(0,.v (.string s)),(1,.v (.int .u8 c)),(5,.own 8 o.length),(6,.i ((f : Nat) : Int)),(7,.i ((i : Nat) : Int)),(12,.b (decide (((i : Nat) : Int) < ((s.size : Nat) : Int))))],[(8,⟨9,.row (.strs o)⟩)],[8,999]⟩)
   (True ∧ True ∧ True ∧ (True ∧ True ∧ True) ∧ True)
   ⟨tt,tt,tt,⟨tt,tt,tt⟩,tt⟩ ?_
  refine W.ifP (((i : Nat) : Int) < ((s.size : Nat) : Int)) (.b (decide (((i : Nat) : Int) < ((s.size : Nat) : Int)))) (by kernel_rfl) rfl trivial ?_ ?_
  ·intro h12
   refine W.skip (thenQ_normal ?_)
   refine W.seq ?_
   refine W.block ?_
   refine Kk cok tab53 hnt [] [0,1,5,6,7,19] (⟨[(0,.v (.string s)),(1,.v (.int .u8 c)),(5,.own 8 o.length),(6,.i ((f : Nat) : Int)),(7,.i ((i : Nat) : Int)),(19,.b (decide ((((UInt8.toNat (List.getD s.data.toList i 0)) : Nat) : Int) = c)))],[(8,⟨9,.row (.strs o)⟩)],[8,999]⟩)
    (True ∧ True ∧ (True ∧ True ∧ (0 ≤ ((i : Nat) : Int)) ∧ (((i : Nat) : Int) < ((s.size : Nat) : Int))) ∧ True ∧ (True ∧ True ∧ True) ∧ True)
    ⟨tt,tt,⟨tt,tt,(by omega),(by omega)⟩,tt,⟨tt,tt,tt⟩,tt⟩ ?_
   refine W.ifP ((((UInt8.toNat (List.getD s.data.toList i 0)) : Nat) : Int) = c) (.b (decide ((((UInt8.toNat (List.getD s.data.toList i 0)) : Nat) : Int) = c))) (by kernel_rfl) rfl trivial ?_ ?_
   ·intro h19
    refine Kk cok tab53 hnt [26] [0,1,5,7] (⟨[(0,.v (.string s)),(1,.v (.int .u8 c)),(5,.own 26 (List.length (o ++ ([s.extract f i])))),(7,.i ((i : Nat) : Int))],[(26,⟨9,.row (.strs (o ++ ([s.extract f i])))⟩)],[26,25,8,999]⟩)
     (True ∧ True ∧ True ∧ True ∧ (True ∧ True ∧ True ∧ (0 ≤ ((f : Nat) : Int)) ∧ (((f : Nat) : Int) ≤ ((i : Nat) : Int)) ∧ (((i : Nat) : Int) ≤ ((s.size : Nat) : Int))) ∧ (True ∧ True) ∧ ((True ∧ (o.length = o.length)) ∧ True ∧ ((o.length + (List.length ([s.extract f i]))) * 16 ≤ 140737488355328)) ∧ True ∧ True)
     ⟨tt,tt,tt,tt,⟨tt,tt,tt,(by omega),(by omega),(by omega)⟩,⟨tt,tt⟩,⟨⟨tt,rfl⟩,tt,(by (try simp only [List.length_append,List.length_cons,List.length_nil,List.length_set]); omega)⟩,tt,tt⟩ ?_
    refine Lk cok tab53 hnt [] (⟨[(0,.v (.string s)),(1,.v (.int .u8 c)),(5,.own 26 (List.length (o ++ ([s.extract f i])))),(6,.i (((i + 1) : Nat) : Int)),(7,.i ((i : Nat) : Int)),(27,.i ((i : Nat) : Int)),(28,.i (((i + 1) : Nat) : Int))],[(26,⟨9,.row (.strs (o ++ ([s.extract f i])))⟩)],[26,25,8,999]⟩)
     (True ∧ (True ∧ True ∧ (Fits .i64 (((i + 1) : Nat) : Int))) ∧ True ∧ True)
     ⟨tt,⟨tt,tt,(by exact fits_i64 (by omega) (by omega))⟩,tt,tt⟩ ?_
    refine blockQ_normal (thenQ_normal ?_)
    refine Lk cok tab53 hnt [] (⟨[(0,.v (.string s)),(1,.v (.int .u8 c)),(5,.own 26 (List.length (o ++ ([s.extract f i])))),(6,.i (((i + 1) : Nat) : Int)),(7,.i (((i + 1) : Nat) : Int)),(13,.i ((i : Nat) : Int)),(14,.i (((i + 1) : Nat) : Int)),(27,.i ((i : Nat) : Int)),(28,.i (((i + 1) : Nat) : Int))],[(26,⟨9,.row (.strs (o ++ ([s.extract f i])))⟩)],[26,25,8,999]⟩)
     (True ∧ (True ∧ True ∧ (Fits .i64 (((i + 1) : Nat) : Int))) ∧ True ∧ True)
     ⟨tt,⟨tt,tt,(by exact fits_i64 (by omega) (by omega))⟩,tt,tt⟩ ?_
    refine thenQ_normal ?_
    refine ⟨((o ++ ([s.extract f i])),(i + 1),(i + 1)),(show ((i + 1) ≤ s.size) ∧ ((i + 1) ≤ (i + 1)) ∧ (SpI c s (o ++ ([s.extract f i])) (i + 1) (i + 1)) ∧ ((o ++ ([s.extract f i])).length ≤ (i + 1)) from ⟨(by first | assumption | omega | rfl | (intro _ hjj; omega) | (simp; done) | (simp; omega)),(by first | assumption | omega | rfl | (intro _ hjj; omega) | (simp; done) | (simp; omega)),(by first | exact spl_yes ho hf (by omega) hc h19 | exact spl_no ho hf (by omega) hc n19),(by first | omega | (simp only [List.length_append,List.length_cons,List.length_nil]; omega))⟩),(show s.size - (i + 1) < s.size - i from (by first | omega | (simp_all; omega))),?_⟩
    exact Sub.of [(8,26)] (@cast (((((.string s) : Value) = (.string s)) ∧ (Sv (.int .u8 c)) ∧ (((26 : Nat) = 26) ∧ ((List.length (o ++ ([s.extract f i]))) = (List.length (o ++ ([s.extract f i])))) ∧ ((8 : Nat) ∈ ([8,999] : List Nat))) ∧ (Si (((i + 1) : Nat) : Int)) ∧ (Si (((i + 1) : Nat) : Int)) ∧ True) ∧ ((((9 : Nat) = 9) ∧ (Sd (.strs (o ++ ([s.extract f i])))) ∧ ((8 : Nat) ∈ ([8,999] : List Nat))) ∧ True) ∧ (true = true) ∧ (true = true)) _ (by kernel_rfl) ⟨⟨rfl,rfl,⟨rfl,rfl,(by decide)⟩,rfl,rfl,tt⟩,⟨⟨rfl,rfl,(by decide)⟩,tt⟩,rfl,rfl⟩)
   ·intro n19
    refine W.skip (blockQ_normal (thenQ_normal ?_))
    refine Lk cok tab53 hnt [] (⟨[(0,.v (.string s)),(1,.v (.int .u8 c)),(5,.own 8 o.length),(6,.i ((f : Nat) : Int)),(7,.i (((i + 1) : Nat) : Int)),(13,.i ((i : Nat) : Int)),(14,.i (((i + 1) : Nat) : Int)),(19,.b (decide ((((UInt8.toNat (List.getD s.data.toList i 0)) : Nat) : Int) = c)))],[(8,⟨9,.row (.strs o)⟩)],[8,999]⟩)
     (True ∧ (True ∧ True ∧ (Fits .i64 (((i + 1) : Nat) : Int))) ∧ True ∧ True)
     ⟨tt,⟨tt,tt,(by exact fits_i64 (by omega) (by omega))⟩,tt,tt⟩ ?_
    refine thenQ_normal ?_
    refine ⟨(o,f,(i + 1)),(show ((i + 1) ≤ s.size) ∧ (f ≤ (i + 1)) ∧ (SpI c s o f (i + 1)) ∧ (o.length ≤ (i + 1)) from ⟨(by first | assumption | omega | rfl | (intro _ hjj; omega) | (simp; done) | (simp; omega)),(by first | assumption | omega | rfl | (intro _ hjj; omega) | (simp; done) | (simp; omega)),(by first | exact spl_yes ho hf (by omega) hc h19 | exact spl_no ho hf (by omega) hc n19),(by first | omega | (simp only [List.length_append,List.length_cons,List.length_nil]; omega))⟩),(show s.size - (i + 1) < s.size - i from (by first | omega | (simp_all; omega))),?_⟩
    exact Sub.of [] (@cast (((((.string s) : Value) = (.string s)) ∧ (Sv (.int .u8 c)) ∧ (((8 : Nat) = 8) ∧ (o.length = o.length) ∧ ((8 : Nat) ∈ ([8,999] : List Nat))) ∧ (Si ((f : Nat) : Int)) ∧ (Si (((i + 1) : Nat) : Int)) ∧ True) ∧ ((((9 : Nat) = 9) ∧ (Sd (.strs o)) ∧ ((8 : Nat) ∈ ([8,999] : List Nat))) ∧ True) ∧ (true = true) ∧ (true = true)) _ (by kernel_rfl) ⟨⟨rfl,rfl,⟨rfl,rfl,(by decide)⟩,rfl,rfl,tt⟩,⟨⟨rfl,rfl,(by decide)⟩,tt⟩,rfl,rfl⟩)
  ·intro n12
   refine W.exit (thenQ_exit (thenQ_exit (blockQ_hit ?_)))
   refine thenQ_normal ?_
   refine Kk cok tab53 hnt [34] [4] (⟨[(4,.own 34 (List.length (o ++ ([s.extract f s.size]))))],[(34,⟨9,.row (.strs (o ++ ([s.extract f s.size])))⟩)],[34,33,8,999]⟩)
    (True ∧ True ∧ True ∧ (True ∧ True ∧ True ∧ (0 ≤ ((f : Nat) : Int)) ∧ (((f : Nat) : Int) ≤ ((s.size : Nat) : Int)) ∧ (((s.size : Nat) : Int) ≤ ((s.size : Nat) : Int))) ∧ (True ∧ True) ∧ ((True ∧ (o.length = o.length)) ∧ True ∧ ((o.length + (List.length ([s.extract f s.size]))) * 16 ≤ 140737488355328)) ∧ True ∧ True)
    ⟨tt,tt,tt,⟨tt,tt,tt,(by omega),(by omega),(by omega)⟩,⟨tt,tt⟩,⟨⟨tt,rfl⟩,tt,(by (try simp only [List.length_append,List.length_cons,List.length_nil,List.length_set]); omega)⟩,tt,tt⟩ ?_
   refine W.ret ?_
   exact endQ_rows [(0,34)] (.own 34 (List.length (o ++ ([s.extract f s.size])))) (by kernel_rfl) (@cast (((34 : Nat) = 34) ∧ ((List.length (o ++ ([s.extract f s.size]))) = (List.length (splitB8 c s))) ∧ ((0 : Nat) ∈ ([0] : List Nat))) _ (by kernel_rfl) ⟨rfl,(by first | rfl | omega | assumption | (symm; assumption) | (exact congrArg List.length (by exact spl_end ho (by omega))) | (exact spl_end ho (by omega); done) | simp | simp_all),(by decide)⟩) (@cast ((((9 : Nat) = 9) ∧ ((.strs (o ++ ([s.extract f s.size])) : Dat) = .strs (splitB8 c s)) ∧ ((0 : Nat) ∈ ([0] : List Nat))) ∧ True) _ (by kernel_rfl) ⟨⟨rfl,(congrArg Dat.strs (by exact spl_end ho (by omega))),(by decide)⟩,tt⟩) (by kernel_rfl)
theorem ent53 : Entr prog 53 := ⟨_,func53,rfl,by decide⟩
end Go.Proofs.Tryd

set_option linter.unusedSimpArgs false
set_option linter.unusedVariables false
namespace Go.Proofs.Tryd
open Go.Ab Go.RowKit
def out38 : Bool → ATy [.int] → AV × List (TypeId × Dat) × Prop := fun _ (n,_) => (.v (.string (numB n)),[],(-1000000 ≤ n ∧ n ≤ 1000000))
def mu38 : ATy [.int] → Nat := fun (n,_) => (max (2 * n) (1 - 2 * n)).toNat
def fs38 : FnS := fnS [.o] [.int] out38
abbrev fsN38 (n : Nat) : FnS := fnS [.o] [.int] (lim out38 mu38 n)
theorem ent38 : Entr prog 38 := ⟨_,func38,rfl,by decide⟩
abbrev T38 (nn : Nat) : Tab := lk [(38,fsN38 nn)]
theorem tab38 {nn : Nat} (ih : FnOK prog 38 (fsN38 nn)) : TabOK prog (T38 nn) := (TabOK.cons ih ent38 TabOK.nil)
set_option maxRecDepth 100000 in
set_option maxHeartbeats 1000000 in
theorem okS38 (nn : Nat) (ih : FnOK prog 38 (fsN38 nn)) : FnOK prog 38 (fsN38 (nn + 1)) := by
 refine FnOK.mk cok func38 rfl rfl rfl ?_
 rintro fl ⟨(n : Int),_⟩ hpre F hnt0 _
 have hnt : F.nt = 22 := hnt0.trans ntmps38
 obtain ⟨hpre,hmu⟩ := hpre
 replace hmu : (max (2 * n) (1 - 2 * n)).toNat < nn + 1 := hmu
 replace hpre : (-1000000 ≤ n ∧ n ≤ 1000000) := hpre
 have hn := hpre
 refine W.to (⟨[(0,.i n)],[],[999]⟩) rfl ?_
 have hd1 : 0 ≤ n → Int.tdiv n 10 = n / 10 := fun h => Int.tdiv_eq_ediv_of_nonneg h
 have hd2 : 0 ≤ n → Int.tmod n 10 = n % 10 := fun h => Int.tmod_eq_emod_of_nonneg h
 have sn := numB_size (0 - n)
 have sd := numB_size (Int.tdiv n 10)
 have sm := numB_size (Int.tmod n 10)
 refine Kk cok (tab38 ih) hnt [] [0] (⟨[(0,.i n)],[],[999]⟩)
  (True ∧ True)
  ⟨tt,tt⟩ ?_
 refine W.seq ?_
 refine Kk cok (tab38 ih) hnt [] [0,4] (⟨[(0,.i n),(4,.b (decide (n < (0 : Int))))],[],[999]⟩)
  (True ∧ (True ∧ True ∧ True) ∧ True)
  ⟨tt,⟨tt,tt,tt⟩,tt⟩ ?_
 refine W.ifP (n < (0 : Int)) (.b (decide (n < (0 : Int)))) (by kernel_rfl) rfl trivial ?_ ?_
 ·intro h4
  refine Kk cok (tab38 ih) hnt [] [2] (⟨[(2,.v (.string ((⟨#[45]⟩ : ByteArray) ++ (numB (0 - n)))))],[],[999]⟩)
   (True ∧ (True ∧ (Fits .i64 (0 - n))) ∧ (True ∧ (True ∧ True) ∧ (-1000000 ≤ (0 - n) ∧ (0 - n) ≤ 1000000) ∧ ((max (2 * (0 - n)) (1 - 2 * (0 - n))).toNat < nn)) ∧ (True ∧ True ∧ ((⟨#[45]⟩ : ByteArray).size + (numB (0 - n)).size ≤ 9223372036854775807)) ∧ True ∧ True)
   ⟨tt,⟨tt,(by exact fits_i64 (by omega) (by omega))⟩,⟨tt,⟨tt,tt⟩,(by omega),(by omega)⟩,⟨tt,tt,(by (try simp only [ByteArray.size_append,ByteArray.size_extract,sz1,sz2,sz3,sz10]); omega)⟩,tt,tt⟩ ?_
  refine W.ret (thenQ_ret ?_)
  exact endQ_ret (.v (.string ((⟨#[45]⟩ : ByteArray) ++ (numB (0 - n))))) (by kernel_rfl) (@cast (((.string ((⟨#[45]⟩ : ByteArray) ++ (numB (0 - n)))) : Value) = (.string (numB n))) _ (by kernel_rfl) (congrArg Value.string (by exact numB_neg h4)))
 ·intro n4
  refine W.skip (thenQ_normal ?_)
  refine W.seq ?_
  refine Kk cok (tab38 ih) hnt [] [0,10] (⟨[(0,.i n),(10,.b (decide (n < (10 : Int))))],[],[999]⟩)
   (True ∧ (True ∧ True ∧ True) ∧ True)
   ⟨tt,⟨tt,tt,tt⟩,tt⟩ ?_
  refine W.ifP (n < (10 : Int)) (.b (decide (n < (10 : Int)))) (by kernel_rfl) rfl trivial ?_ ?_
  ·intro h10
   refine Kk cok (tab38 ih) hnt [] [2] (⟨[(2,.v (.string ((⟨#[48,49,50,51,52,53,54,55,56,57]⟩ : ByteArray).extract (Int.toNat n) (Int.toNat (n + (1 : Int))))))],[],[999]⟩)
    (True ∧ True ∧ (True ∧ True ∧ (Fits .i64 (n + (1 : Int)))) ∧ (True ∧ True ∧ True ∧ (0 ≤ n) ∧ (n ≤ (n + (1 : Int))) ∧ ((n + (1 : Int)) ≤ ((((⟨#[48,49,50,51,52,53,54,55,56,57]⟩ : ByteArray).size) : Nat) : Int))) ∧ True ∧ True)
    ⟨tt,tt,⟨tt,tt,(by exact fits_i64 (by omega) (by omega))⟩,⟨tt,tt,tt,(by omega),(by omega),(by (try simp only [ByteArray.size_append,ByteArray.size_extract,sz1,sz2,sz3,sz10]); omega)⟩,tt,tt⟩ ?_
   refine W.ret (thenQ_ret ?_)
   exact endQ_ret (.v (.string ((⟨#[48,49,50,51,52,53,54,55,56,57]⟩ : ByteArray).extract (Int.toNat n) (Int.toNat (n + (1 : Int)))))) (by kernel_rfl) (@cast (((.string ((⟨#[48,49,50,51,52,53,54,55,56,57]⟩ : ByteArray).extract (Int.toNat n) (Int.toNat (n + (1 : Int))))) : Value) = (.string (numB n))) _ (by kernel_rfl) (congrArg Value.string (by exact numB_one n4 h10)))
  ·intro n10
   refine W.skip (thenQ_normal ?_)
   refine Kk cok (tab38 ih) hnt [] [2] (⟨[(2,.v (.string ((numB (Int.tdiv n (10 : Int))) ++ (numB (Int.tmod n (10 : Int))))))],[],[999]⟩)
    (True ∧ (True ∧ True ∧ ((10 : Int) ≠ 0) ∧ (Fits .i64 (Int.tdiv n (10 : Int)))) ∧ (True ∧ (True ∧ True) ∧ (-1000000 ≤ (Int.tdiv n (10 : Int)) ∧ (Int.tdiv n (10 : Int)) ≤ 1000000) ∧ ((max (2 * (Int.tdiv n (10 : Int))) (1 - 2 * (Int.tdiv n (10 : Int)))).toNat < nn)) ∧ True ∧ (True ∧ True ∧ ((10 : Int) ≠ 0)) ∧ (True ∧ (True ∧ True) ∧ (-1000000 ≤ (Int.tmod n (10 : Int)) ∧ (Int.tmod n (10 : Int)) ≤ 1000000) ∧ ((max (2 * (Int.tmod n (10 : Int))) (1 - 2 * (Int.tmod n (10 : Int)))).toNat < nn)) ∧ (True ∧ True ∧ ((numB (Int.tdiv n (10 : Int))).size + (numB (Int.tmod n (10 : Int))).size ≤ 9223372036854775807)) ∧ True ∧ True)
    ⟨tt,⟨tt,tt,(by decide),(by rw [hd1 (by omega)]; exact fits_i64 (by omega) (by omega))⟩,⟨tt,⟨tt,tt⟩,(by have h8 := hd1 (by omega); omega),(by have h8 := hd1 (by omega); omega)⟩,tt,⟨tt,tt,(by decide)⟩,⟨tt,⟨tt,tt⟩,(by have h8 := hd2 (by omega); omega),(by have h8 := hd2 (by omega); omega)⟩,⟨tt,tt,(by (try simp only [ByteArray.size_append,ByteArray.size_extract,sz1,sz2,sz3,sz10]); omega)⟩,tt,tt⟩ ?_
   refine W.ret ?_
   exact endQ_ret (.v (.string ((numB (Int.tdiv n (10 : Int))) ++ (numB (Int.tmod n (10 : Int)))))) (by kernel_rfl) (@cast (((.string ((numB (Int.tdiv n (10 : Int))) ++ (numB (Int.tmod n (10 : Int))))) : Value) = (.string (numB n))) _ (by kernel_rfl) (congrArg Value.string (by exact numB_two n4 n10)))
theorem ok38 : FnOK prog 38 fs38 := FnOK.rec' okS38
end Go.Proofs.Tryd

set_option linter.unusedSimpArgs false
set_option linter.unusedVariables false
namespace Go.Proofs.Tryd
open Go.Ab Go.RowKit
def fs69 : FnS := fnS [.o] [.str] (fun _ (s,_) => (.i (readNum s.data.toList),[],(s.size ≤ 2000000)))
abbrev T69 : Tab := lk [(38,fs38)]
theorem tab69 : TabOK prog T69 := (TabOK.cons ok38 ent38 TabOK.nil)
set_option maxRecDepth 100000 in
set_option maxHeartbeats 1000000 in
theorem ok69 : FnOK prog 69 fs69 := by
 refine FnOK.mk cok func69 rfl rfl rfl ?_
 rintro fl ⟨(s : ByteArray),_⟩ hpre F hnt0 _
 have hnt : F.nt = 42 := hnt0.trans ntmps69
 replace hpre : (s.size ≤ 2000000) := hpre
 have hz := hpre
 refine W.to (⟨[(0,.v (.string s))],[],[999]⟩) rfl ?_
 have hu : ∀ i : Nat,((UInt8.toNat (List.getD s.data.toList i 0) : Nat) : Int) ≤ 255 := fun i => by have := (List.getD s.data.toList i 0).toNat_lt; omega
 refine Kk cok tab69 hnt [] [0] (⟨[(0,.v (.string s))],[],[999]⟩)
  (True ∧ True)
  ⟨tt,tt⟩ ?_
 refine Kk cok tab69 hnt [] [0,3] (⟨[(0,.v (.string s)),(3,.i (0 : Int))],[],[999]⟩)
  (True ∧ True)
  ⟨tt,tt⟩ ?_
 refine W.seq ?_
 refine Kk cok tab69 hnt [] [0,3,4] (⟨[(0,.v (.string s)),(3,.i (0 : Int)),(4,.i (0 : Int))],[],[999]⟩)
  (True ∧ True)
  ⟨tt,tt⟩ ?_
 refine W.block ?_
 refine W.loop (ι := Nat × Int) (fun (x : Nat × Int) => match x with | (i,n) => (⟨[(0,.v (.string s)),(3,.i n),(4,.i ((i : Nat) : Int))],[],[999]⟩ : St))
  (fun (x : Nat × Int) => match x with | (i,n) => (i ≤ s.size) ∧ (0 ≤ n ∧ n ≤ 100000) ∧ (rnLoop s.data.toList 0 = rnLoop (s.data.toList.drop i) n.toNat))
  (fun (x : Nat × Int) => match x with | (i,n) => (s.size - i : Nat)) (0,(0 : Int)) ?_ ?_ ?_
 ·exact (show (0 ≤ s.size) ∧ (0 ≤ (0 : Int) ∧ (0 : Int) ≤ 100000) ∧ (rnLoop s.data.toList 0 = rnLoop (s.data.toList.drop 0) (0 : Int).toNat) from ⟨(by first | assumption | omega | rfl | (intro _ hjj; omega) | (simp; done) | (simp; omega)),(by omega),(by rfl)⟩)
 ·exact Sub.of [] (@cast (((((.string s) : Value) = (.string s)) ∧ (Si (0 : Int)) ∧ ((.int .i64 (0 : Int) : Value) = .int .i64 ((0 : Nat) : Int)) ∧ True) ∧ True ∧ (true = true) ∧ (true = true)) _ (by kernel_rfl) ⟨⟨rfl,rfl,(congrArg (Value.int .i64) (by first | rfl | omega | assumption | simp | simp_all)),tt⟩,tt,rfl,rfl⟩)
 ·rintro ⟨i,n⟩ hC0
  have hC : (i ≤ s.size) ∧ (0 ≤ n ∧ n ≤ 100000) ∧ (rnLoop s.data.toList 0 = rnLoop (s.data.toList.drop i) n.toNat) := hC0
  clear hC0
  obtain ⟨hi,hn,hr⟩ := hC
  refine W.to (⟨[(0,.v (.string s)),(3,.i n),(4,.i ((i : Nat) : Int))],[],[999]⟩) rfl ?_
  have hu1 := hu i
  refine W.seq ?_
  refine Kk cok tab69 hnt [] [0,3,4,8] (⟨[(0,.v (.string s)),(3,.i n),(4,.i ((i : Nat) : Int)),(8,.b (decide (((i : Nat) : Int) < ((s.size : Nat) : Int))))],[],[999]⟩)
   (True ∧ True ∧ True ∧ (True ∧ True ∧ True) ∧ True)
   ⟨tt,tt,tt,⟨tt,tt,tt⟩,tt⟩ ?_
  refine W.ifP (((i : Nat) : Int) < ((s.size : Nat) : Int)) (.b (decide (((i : Nat) : Int) < ((s.size : Nat) : Int)))) (by kernel_rfl) rfl trivial ?_ ?_
  ·intro h8
   refine W.skip (thenQ_normal ?_)
   refine W.seq ?_
   refine W.block ?_
   refine W.seq ?_
   refine Kk cok tab69 hnt [] [0,3,4,24] (⟨[(0,.v (.string s)),(3,.i n),(4,.i ((i : Nat) : Int)),(24,.b (((decide ((((UInt8.toNat (List.getD s.data.toList i 0)) : Nat) : Int) < (48 : Int))) || (decide ((57 : Int) < (((UInt8.toNat (List.getD s.data.toList i 0)) : Nat) : Int)))) || (decide ((1000 : Int) < n))))],[],[999]⟩)
    ((fun (Z1:Bool)=>((fun (Z2:Bool)=>(True ∧ (True ∧ ((True ∧ (True ∧ ((0 ≤ ((i : Nat) : Int)) ∧ (((i : Nat) : Int) < ((s.size : Nat) : Int))))) ∧ ((True ∧ (True ∧ True)) ∧ (True ∧ (((!Z1) = true → True) ∧ (((!Z1) = true → True) ∧ (((!Z1) = true → ((((!Z1) = true) ∧ True) ∧ ((((!Z1) = true) ∧ True) ∧ ((0 ≤ ((i : Nat) : Int)) ∧ (((i : Nat) : Int) < ((s.size : Nat) : Int)))))) ∧ (((!Z1) = true → ((((!Z1) = true) ∧ True) ∧ (True ∧ True))) ∧ ((True ∧ ((Z1 = true → True) ∧ (Z1 = false → ((!Z1) = true) ∧ True))) ∧ (True ∧ (((!Z2) = true → True) ∧ (((!Z2) = true → ((((!Z2) = true) ∧ True) ∧ (True ∧ True))) ∧ ((True ∧ ((Z2 = true → True) ∧ (Z2 = false → ((!Z2) = true) ∧ True))) ∧ True))))))))))))))) (Z1 || (decide ((57 : Int) < (((UInt8.toNat (List.getD s.data.toList i 0)) : Nat) : Int)))))) (decide ((((UInt8.toNat (List.getD s.data.toList i 0)) : Nat) : Int) < (48 : Int))))
    ⟨tt,tt,⟨tt,tt,(by omega),(by omega)⟩,⟨tt,tt,tt⟩,tt,(fun _ => trivial),(fun _ => trivial),(fun hG => ⟨⟨hG,tt⟩,⟨hG,tt⟩,(by have hg0 : ¬ ((((UInt8.toNat (List.getD s.data.toList i 0)) : Nat) : Int) < (48 : Int)) := of_decide_eq_false (not_f hG); omega),(by have hg0 : ¬ ((((UInt8.toNat (List.getD s.data.toList i 0)) : Nat) : Int) < (48 : Int)) := of_decide_eq_false (not_f hG); omega)⟩),(fun hG => ⟨⟨hG,tt⟩,tt,tt⟩),⟨tt,(fun _ => trivial),(fun hp => ⟨(not_t hp),tt⟩)⟩,tt,(fun _ => trivial),(fun hG => ⟨⟨hG,tt⟩,tt,tt⟩),⟨tt,(fun _ => trivial),(fun hp => ⟨(not_t hp),tt⟩)⟩,tt⟩ ?_
   refine W.if' (((decide ((((UInt8.toNat (List.getD s.data.toList i 0)) : Nat) : Int) < (48 : Int))) || (decide ((57 : Int) < (((UInt8.toNat (List.getD s.data.toList i 0)) : Nat) : Int)))) || (decide ((1000 : Int) < n))) (.b (((decide ((((UInt8.toNat (List.getD s.data.toList i 0)) : Nat) : Int) < (48 : Int))) || (decide ((57 : Int) < (((UInt8.toNat (List.getD s.data.toList i 0)) : Nat) : Int)))) || (decide ((1000 : Int) < n)))) (by kernel_rfl) rfl trivial ?_ ?_
   ·intro h24
    refine Kk cok tab69 hnt [] [2] (⟨[(2,.i (-2 : Int))],[],[999]⟩)
     (True ∧ True)
     ⟨tt,tt⟩ ?_
    refine W.ret (thenQ_ret (blockQ_ret (thenQ_ret (thenQ_ret (blockQ_ret (thenQ_ret ?_))))))
    exact endQ_ret (.i (-2 : Int)) (by kernel_rfl) (@cast ((.int .i64 (-2 : Int) : Value) = .int .i64 (readNum s.data.toList)) _ (by kernel_rfl) (congrArg (Value.int .i64) (by exact rn_bad (by rw [← sz]; omega) hn.1 h24 hr)))
   ·intro n24
    have n24_0 : ¬ ((((UInt8.toNat (List.getD s.data.toList i 0)) : Nat) : Int) < (48 : Int)) := of_decide_eq_false (or_l (or_l n24))
    have n24_1 : ¬ ((57 : Int) < (((UInt8.toNat (List.getD s.data.toList i 0)) : Nat) : Int)) := of_decide_eq_false (or_r (or_l n24))
    have n24_2 : ¬ ((1000 : Int) < n) := of_decide_eq_false (or_r n24)
    have h9 := rn_small n24
    refine W.skip (thenQ_normal ?_)
    refine Lk cok tab69 hnt [] (⟨[(0,.v (.string s)),(3,.i (((10 : Int) * n) + ((((UInt8.toNat (List.getD s.data.toList i 0)) : Nat) : Int) - (48 : Int)))),(4,.i ((i : Nat) : Int)),(24,.b (((decide ((((UInt8.toNat (List.getD s.data.toList i 0)) : Nat) : Int) < (48 : Int))) || (decide ((57 : Int) < (((UInt8.toNat (List.getD s.data.toList i 0)) : Nat) : Int)))) || (decide ((1000 : Int) < n)))),(25,.i n),(26,.i ((10 : Int) * n)),(27,.v (.string s)),(28,.i ((i : Nat) : Int)),(29,.v (.int .u8 (((UInt8.toNat (List.getD s.data.toList i 0)) : Nat) : Int))),(30,.v (.int .u8 ((((UInt8.toNat (List.getD s.data.toList i 0)) : Nat) : Int) - (48 : Int)))),(31,.i ((((UInt8.toNat (List.getD s.data.toList i 0)) : Nat) : Int) - (48 : Int))),(32,.i (((10 : Int) * n) + ((((UInt8.toNat (List.getD s.data.toList i 0)) : Nat) : Int) - (48 : Int))))],[],[999]⟩)
     (True ∧ (True ∧ True ∧ (Fits .i64 ((10 : Int) * n))) ∧ True ∧ True ∧ (True ∧ True ∧ (0 ≤ ((i : Nat) : Int)) ∧ (((i : Nat) : Int) < ((s.size : Nat) : Int))) ∧ (True ∧ True ∧ (Fits .u8 ((((UInt8.toNat (List.getD s.data.toList i 0)) : Nat) : Int) - (48 : Int)))) ∧ (True ∧ (Fits .i64 ((((UInt8.toNat (List.getD s.data.toList i 0)) : Nat) : Int) - (48 : Int)))) ∧ (True ∧ True ∧ (Fits .i64 (((10 : Int) * n) + ((((UInt8.toNat (List.getD s.data.toList i 0)) : Nat) : Int) - (48 : Int))))) ∧ True ∧ True)
     ⟨tt,⟨tt,tt,(by exact fits_i64 (by omega) (by omega))⟩,tt,tt,⟨tt,tt,(by omega),(by omega)⟩,⟨tt,tt,(by exact fits_u8 (by omega) (by omega))⟩,⟨tt,(by exact fits_i64 (by omega) (by omega))⟩,⟨tt,tt,(by exact fits_i64 (by omega) (by omega))⟩,tt,tt⟩ ?_
    refine blockQ_normal (thenQ_normal ?_)
    refine Lk cok tab69 hnt [] (⟨[(0,.v (.string s)),(3,.i (((10 : Int) * n) + ((((UInt8.toNat (List.getD s.data.toList i 0)) : Nat) : Int) - (48 : Int)))),(4,.i (((i + 1) : Nat) : Int)),(9,.i ((i : Nat) : Int)),(10,.i (((i + 1) : Nat) : Int)),(24,.b (((decide ((((UInt8.toNat (List.getD s.data.toList i 0)) : Nat) : Int) < (48 : Int))) || (decide ((57 : Int) < (((UInt8.toNat (List.getD s.data.toList i 0)) : Nat) : Int)))) || (decide ((1000 : Int) < n)))),(25,.i n),(26,.i ((10 : Int) * n)),(27,.v (.string s)),(28,.i ((i : Nat) : Int)),(29,.v (.int .u8 (((UInt8.toNat (List.getD s.data.toList i 0)) : Nat) : Int))),(30,.v (.int .u8 ((((UInt8.toNat (List.getD s.data.toList i 0)) : Nat) : Int) - (48 : Int)))),(31,.i ((((UInt8.toNat (List.getD s.data.toList i 0)) : Nat) : Int) - (48 : Int))),(32,.i (((10 : Int) * n) + ((((UInt8.toNat (List.getD s.data.toList i 0)) : Nat) : Int) - (48 : Int))))],[],[999]⟩)
     (True ∧ (True ∧ True ∧ (Fits .i64 (((i + 1) : Nat) : Int))) ∧ True ∧ True)
     ⟨tt,⟨tt,tt,(by exact fits_i64 (by omega) (by omega))⟩,tt,tt⟩ ?_
    refine thenQ_normal ?_
    refine ⟨((i + 1),(((10 : Int) * n) + ((((UInt8.toNat (List.getD s.data.toList i 0)) : Nat) : Int) - (48 : Int)))),(show ((i + 1) ≤ s.size) ∧ (0 ≤ (((10 : Int) * n) + ((((UInt8.toNat (List.getD s.data.toList i 0)) : Nat) : Int) - (48 : Int))) ∧ (((10 : Int) * n) + ((((UInt8.toNat (List.getD s.data.toList i 0)) : Nat) : Int) - (48 : Int))) ≤ 100000) ∧ (rnLoop s.data.toList 0 = rnLoop (s.data.toList.drop (i + 1)) (((10 : Int) * n) + ((((UInt8.toNat (List.getD s.data.toList i 0)) : Nat) : Int) - (48 : Int))).toNat) from ⟨(by first | assumption | omega | rfl | (intro _ hjj; omega) | (simp; done) | (simp; omega)),(by have h9 := rn_small n24; omega),(by exact rn_step (by rw [← sz]; omega) hn.1 n24 hr)⟩),(show s.size - (i + 1) < s.size - i from (by first | omega | (simp_all; omega))),?_⟩
    exact Sub.of [] (@cast (((((.string s) : Value) = (.string s)) ∧ (Si (((10 : Int) * n) + ((((UInt8.toNat (List.getD s.data.toList i 0)) : Nat) : Int) - (48 : Int)))) ∧ (Si (((i + 1) : Nat) : Int)) ∧ True) ∧ True ∧ (true = true) ∧ (true = true)) _ (by kernel_rfl) ⟨⟨rfl,rfl,rfl,tt⟩,tt,rfl,rfl⟩)
  ·intro n8
   refine W.exit (thenQ_exit (thenQ_exit (blockQ_hit ?_)))
   refine thenQ_normal ?_
   refine W.seq ?_
   refine Kk cok tab69 hnt [] [3,40] (⟨[(3,.i n),(40,.b ((eqS s nEmpty) || (!(eqS (numB n) s))))],[],[999]⟩)
    ((fun (Z1:Bool)=>(True ∧ ((True ∧ (True ∧ True)) ∧ (True ∧ (((!Z1) = true → True) ∧ (((!Z1) = true → (True ∧ (((((!Z1) = true) ∧ True) ∧ True) ∧ (-1000000 ≤ n ∧ n ≤ 1000000)))) ∧ (((!Z1) = true → True) ∧ (((!Z1) = true → ((((!Z1) = true) ∧ True) ∧ ((((!Z1) = true) ∧ True) ∧ True))) ∧ ((True ∧ ((Z1 = true → True) ∧ (Z1 = false → ((!Z1) = true) ∧ True))) ∧ True))))))))) (eqS s nEmpty))
    ⟨tt,⟨tt,tt,tt⟩,tt,(fun _ => trivial),(fun hG => ⟨tt,⟨⟨hG,tt⟩,tt⟩,(by omega)⟩),(fun _ => trivial),(fun hG => ⟨⟨hG,tt⟩,⟨hG,tt⟩,tt⟩),⟨tt,(fun _ => trivial),(fun hp => ⟨(not_t hp),tt⟩)⟩,tt⟩ ?_
   refine W.if' ((eqS s nEmpty) || (!(eqS (numB n) s))) (.b ((eqS s nEmpty) || (!(eqS (numB n) s)))) (by kernel_rfl) rfl trivial ?_ ?_
   ·intro h40
    refine Kk cok tab69 hnt [] [2] (⟨[(2,.i (-2 : Int))],[],[999]⟩)
     (True ∧ True)
     ⟨tt,tt⟩ ?_
    refine W.ret (thenQ_ret ?_)
    exact endQ_ret (.i (-2 : Int)) (by kernel_rfl) (@cast ((.int .i64 (-2 : Int) : Value) = .int .i64 (readNum s.data.toList)) _ (by kernel_rfl) (congrArg (Value.int .i64) (by rw [rn_end (by omega) hn.1 hr h40]; rfl)))
   ·intro n40
    refine W.skip (thenQ_normal ?_)
    refine Kk cok tab69 hnt [] [2] (⟨[(2,.i n)],[],[999]⟩)
     (True ∧ True ∧ True)
     ⟨tt,tt,tt⟩ ?_
    refine W.ret ?_
    exact endQ_ret (.i n) (by kernel_rfl) (@cast ((.int .i64 n : Value) = .int .i64 (readNum s.data.toList)) _ (by kernel_rfl) (congrArg (Value.int .i64) (by rw [rn_end (by omega) hn.1 hr n40]; rfl)))
theorem ent69 : Entr prog 69 := ⟨_,func69,rfl,by decide⟩
end Go.Proofs.Tryd
