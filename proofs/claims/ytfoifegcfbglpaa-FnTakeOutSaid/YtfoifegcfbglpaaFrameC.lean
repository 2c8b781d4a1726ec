import Derived.Test.YtfoifegcfbglpaaFrameB
import Derived.ProofKit
import Derived.SizedLaws
namespace Go.Ab
open Go.RowKit Go.ChangeShapes Go.WideShapes Go.ChangeAt
abbrev lawS : FnS := fnS [.s .bytes] [.bytes] (fun _ (_, _) => (.v (.bool true), [], True))
theorem flat_bytes {W : World} {a : Addr} {len cap : Nat} {zs : List Int} (hl : len ≤ cap) (hm : cap ≤ maxLen) (hz : zs.length = cap) (hcell : ∀ i, i < zs.length → W.cell? (a.add i) = some (.int .u8 (zs.getD i 0)))
  (hw : ∀ n ∈ zs, (Lit.int .u8 n).wf = true) :
  SlRep W (fun b => b < W.heap.size) (.bytes ((zs.take len).map fun z => UInt8.ofNat z.toNat)) (.slice (some a) len cap) := by
 have hlen : ((zs.take len).map fun z => UInt8.ofNat z.toNat).length = len := by rw [List.length_map, List.length_take]; omega
 refine ⟨some a, cap, by rw [hlen], by rw [hlen]; exact hl, hm, ?_⟩
 rw [hlen]
 rcases Nat.eq_zero_or_pos len with h0 | h0
 ·exact .inl h0
 ·refine .inr ⟨a, rfl, ?_, ?_⟩
  ·have h1 := hcell 0 (by omega)
   unfold World.cell? at h1
   rw [block_add] at h1
   cases hb : W.heap[a.block]? with
   | none => rw [hb] at h1; simp at h1
   | some o => exact (Array.getElem?_eq_some_iff.1 hb).1
  ·intro k j u hk hu
   have hk' : k < zs.length := by omega
   have hwk := hw _ (getD_mem' zs hk')
   have hr : 0 ≤ zs.getD k 0 ∧ zs.getD k 0 ≤ 255 := by
    simp only [Lit.wf, Bool.and_eq_true, decide_eq_true_eq] at hwk
    have e1 : IntKind.u8.min = 0 := rfl
    have e2 : IntKind.u8.max = 255 := rfl
    omega
   simp only [Dat.flat, Dat.elem, List.map_cons, List.map_nil, AV.val] at hu
   cases j with
   | succ j => simp at hu
   | zero =>
    simp only [List.getElem?_cons_zero, Option.some.injEq] at hu
    subst hu
    rw [Nat.mul_one, Nat.add_zero, hcell k hk']
    have e : ((zs.take len).map fun z => UInt8.ofNat z.toNat).getD k default = UInt8.ofNat (zs.getD k 0).toNat := by
     simp [List.getD_eq_getElem?_getD, hk, hk']
    rw [e]
    have e3 : ((UInt8.ofNat (zs.getD k 0).toNat).toNat : Int) = zs.getD k 0 := by
     rw [UInt8.toNat_ofNat']; omega
    rw [e3]
where
 getD_mem' (l : List Int) {i : Nat} (h : i < l.length) : l.getD i 0 ∈ l := by
  rw [List.getD_eq_getElem?_getD, List.getElem?_eq_getElem h]; exact List.getElem_mem h
theorem law_calls {P : Program} {f : FuncId} (hok : FnOK P f lawS) {W : World} {l : List UInt8} {v : Value} (h : SlRep W (fun b => b < W.heap.size) (.bytes l) v) :
  Calls P f #[v] W fun e W' => e = .returned (.bool true) ∧ Below W.heap.size W W' := by
 have h1 := hok false [.sl (.bytes l)] (.v (.bool true)) [] True rfl trivial W (fun b => b < W.heap.size) [v] none (fun _ h => h) ⟨by simpa [Rep] using h, rfl⟩
 refine Calls.mono h1 ?_
 rintro e W' ⟨y, β', rfl, hp⟩
 have hr := hp.rep
 simp only [Rep] at hr
 subst hr
 exact ⟨rfl, hp.os, hp.tape, hp.output, hp.size, fun k hk => hp.keep k hk (by simp)⟩
theorem law_bytes {P : Program} {f : FuncId} {tb tu : TypeId} (ht : P.underlying tb = some (.slice tu)) (he : P.underlying tu = some (.int .u8)) (hc : P.cellsOf tu = 1) (hok : FnOK P f lawS)
  {H : Type} {enc : TypeId × Value → H} {W : World} {base : Nat} {v : Value} {d : DataW H} {p : List MemPlace} (hval : Value.okWide P W .any base tb v) (h0 : DataW.Trod enc P W 0 (fun _ => true) true tb v d p) :
  Calls P f #[v] W fun e W' => e = .returned (.bool true) ∧ Below W.heap.size W W' := by
 obtain ⟨a0, len, cap, rfl⟩ := okWide_slice ht hval
 obtain ⟨fuel, hf⟩ := h0
 rcases open_ints ht he hc hf with ⟨hcs, _⟩ | ⟨a, len', cap', zs, hcs, _, hl, hm, hz, _, hcell, hwz⟩
 ·simp [Value.cells] at hcs
  obtain ⟨rfl, rfl, rfl⟩ := hcs
  exact law_calls (l := []) hok (sl_of_nil rfl)
 ·simp [Value.cells] at hcs
  obtain ⟨rfl, rfl, rfl⟩ := hcs
  simp only [if_true] at hz
  exact law_calls hok (flat_bytes hl hm hz hcell hwz)
end Go.Ab
