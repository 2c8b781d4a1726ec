import Derived.Test.YtggcajkjoaichaaIF6S0
import Derived.Test.YtggcajkjoaichaaIF6S5
set_option linter.unusedSimpArgs false
set_option linter.unusedVariables false
namespace Go.Proofs.Try
open Go.Ab Go.RowKit
def fs59 : FnS := fnS [.s .calls] [.calls] (fun _ (h, _) => (.sl (.ints (rowsOf h.length (quietF h))), [], (validHistory h = true)))
abbrev T59 : Tab := lk [(77, fs77)]
theorem tab59 : TabOK prog T59 := (TabOK.cons ok77 ent77 TabOK.nil)
set_option maxRecDepth 100000 in
set_option maxHeartbeats 1000000 in
theorem ok59 : FnOK prog 59 fs59 := by
 refine FnOK.mk cok func59 rfl rfl rfl ?_
 rintro fl ⟨(h : List CallD), _⟩ hpre F hnt0 _
 have hnt : F.nt = 84 := hnt0.trans ntmps59
 replace hpre : (validHistory h = true) := hpre
 have hv := hpre
 refine W.to (⟨[(0, .sl (.calls h))], [], [999]⟩) rfl ?_
 have hv6 := (valid_iff.1 hv).1
 refine W.lenOf 0 (.calls h) (by kernel_rfl) ?_
 intro hl_h; replace hl_h : List.length h ≤ 9223372036854775807 := hl_h
 refine W.K cok tab59 hnt [] [0] (⟨[(0, .sl (.calls h))], [], [999]⟩)
  (True ∧ True) (by kernel_rfl)
  ⟨tt, tt⟩ ?_
 refine W.K cok tab59 hnt [11] [0, 3] (⟨[(0, .sl (.calls h)), (3, .own 11 (List.length (List.replicate h.length (0 : Int))))], [(11, ⟨3, .row (.ints (List.replicate h.length (0 : Int)))⟩)], [11, 999]⟩)
  (True ∧ True ∧ (True ∧ True ∧ ((h.length : Int) = (h.length : Int)) ∧ (0 ≤ (h.length : Int)) ∧ ((h.length : Int) * 8 ≤ 281474976710656)) ∧ True ∧ True) (by kernel_rfl)
  ⟨tt, tt, ⟨tt, tt, rfl, (by omega), (by omega)⟩, tt, tt⟩ ?_
 refine W.seq ?_
 refine W.K cok tab59 hnt [] [0, 3, 4] (⟨[(0, .sl (.calls h)), (3, .own 11 (List.length (List.replicate h.length (0 : Int)))), (4, .i (0 : Int))], [(11, ⟨3, .row (.ints (List.replicate h.length (0 : Int)))⟩)], [11, 999]⟩)
  (True ∧ True) (by kernel_rfl)
  ⟨tt, tt⟩ ?_
 refine W.block ?_
 refine W.loop (ι := (List Int) × Nat) (fun (x : (List Int) × Nat) => match x with | (o, t) => (⟨[(0, .sl (.calls h)), (3, .own 11 o.length), (4, .i ((t : Nat) : Int))], [(11, ⟨3, .row (.ints o)⟩)], [11, 999]⟩ : St))
  (fun (x : (List Int) × Nat) => match x with | (o, t) => (t ≤ 31) ∧ (o = rowsOf h.length (quietT h t)))
  (fun (x : (List Int) × Nat) => match x with | (o, t) => (31 - t : Nat)) ((List.replicate h.length (0 : Int)), 0) ?_ ?_ ?_
 ·exact (show (0 ≤ 31) ∧ ((List.replicate h.length (0 : Int)) = rowsOf h.length (quietT h 0)) from ⟨(by first | assumption | omega | rfl | (intro _ hjj; omega) | (simp; done) | (simp; omega)), (by exact rows_zero _ _)⟩)
 ·exact Sub.of [] (@cast ((((.calls h : Dat) = .calls h) ∧ ((((11 : Nat) = 11) ∧ (((List.length (List.replicate h.length (0 : Int))) = (List.length (List.replicate h.length (0 : Int)))) ∧ ((11 : Nat) ∈ ([11, 999] : List Nat)))) ∧ (((.int .i64 (0 : Int) : Value) = .int .i64 ((0 : Nat) : Int)) ∧ True))) ∧ (((((3 : Nat) = 3) ∧ (((.ints (List.replicate h.length (0 : Int)) : Dat) = .ints (List.replicate h.length (0 : Int))) ∧ ((11 : Nat) ∈ ([11, 999] : List Nat)))) ∧ True) ∧ ((true = true) ∧ (true = true)))) _ (by kernel_rfl) ⟨⟨rfl, ⟨rfl, rfl, (by decide)⟩, (congrArg (Value.int .i64) (by first | rfl | omega | assumption | simp | simp_all)), tt⟩, ⟨⟨rfl, rfl, (by decide)⟩, tt⟩, rfl, rfl⟩)
 ·rintro ⟨o, t⟩ hC0
  have hC : (t ≤ 31) ∧ (o = rowsOf h.length (quietT h t)) := hC0
  clear hC0
  obtain ⟨ht, ho⟩ := hC
  refine W.to (⟨[(0, .sl (.calls h)), (3, .own 11 o.length), (4, .i ((t : Nat) : Int))], [(11, ⟨3, .row (.ints o)⟩)], [11, 999]⟩) rfl ?_
  have hol : o.length = h.length := by rw [ho, rowsOf_len]
  refine W.seq ?_
  refine W.K cok tab59 hnt [] [0, 3, 4, 13] (⟨[(0, .sl (.calls h)), (3, .own 11 o.length), (4, .i ((t : Nat) : Int)), (13, .b (decide (((t : Nat) : Int) ≤ (30 : Int))))], [(11, ⟨3, .row (.ints o)⟩)], [11, 999]⟩)
   (True ∧ (True ∧ True ∧ True) ∧ True) (by kernel_rfl)
   ⟨tt, ⟨tt, tt, tt⟩, tt⟩ ?_
  refine W.ifP (((t : Nat) : Int) ≤ (30 : Int)) (.b (decide (((t : Nat) : Int) ≤ (30 : Int)))) (by kernel_rfl) rfl trivial ?_ ?_
  ·intro h13
   refine W.skip (thenQ_normal ?_)
   refine W.seq ?_
   refine W.block ?_
   refine W.K cok tab59 hnt [] [0, 3, 4, 5] (⟨[(0, .sl (.calls h)), (3, .own 11 o.length), (4, .i ((t : Nat) : Int)), (5, .b false)], [(11, ⟨3, .row (.ints o)⟩)], [11, 999]⟩)
    (True ∧ True) (by kernel_rfl)
    ⟨tt, tt⟩ ?_
   refine W.seq ?_
   refine W.K cok tab59 hnt [] [0, 3, 4, 5, 6] (⟨[(0, .sl (.calls h)), (3, .own 11 o.length), (4, .i ((t : Nat) : Int)), (5, .b false), (6, .i (0 : Int))], [(11, ⟨3, .row (.ints o)⟩)], [11, 999]⟩)
    (True ∧ True) (by kernel_rfl)
    ⟨tt, tt⟩ ?_
   refine W.block ?_
   refine W.loop (ι := Bool × Nat) (fun (x : Bool × Nat) => match x with | (opn, j) => (⟨[(0, .sl (.calls h)), (3, .own 11 o.length), (4, .i ((t : Nat) : Int)), (5, .b opn), (6, .i ((j : Nat) : Int))], [(11, ⟨3, .row (.ints o)⟩)], [11, 999]⟩ : St))
    (fun (x : Bool × Nat) => match x with | (opn, j) => (j ≤ h.length) ∧ (opn = openB h ((t : Nat) : Int) j))
    (fun (x : Bool × Nat) => match x with | (opn, j) => (h.length - j : Nat)) (false, 0) ?_ ?_ ?_
   ·exact (show (0 ≤ h.length) ∧ (false = openB h ((t : Nat) : Int) 0) from ⟨(by first | assumption | omega | rfl | (intro _ hjj; omega) | (simp; done) | (simp; omega)), (by rfl)⟩)
   ·exact Sub.of [] (@cast ((((.calls h : Dat) = .calls h) ∧ ((((11 : Nat) = 11) ∧ ((o.length = o.length) ∧ ((11 : Nat) ∈ ([11, 999] : List Nat)))) ∧ (((.int .i64 ((t : Nat) : Int) : Value) = .int .i64 ((t : Nat) : Int)) ∧ (((.bool false : Value) = .bool false) ∧ (((.int .i64 (0 : Int) : Value) = .int .i64 ((0 : Nat) : Int)) ∧ True))))) ∧ (((((3 : Nat) = 3) ∧ (((.ints o : Dat) = .ints o) ∧ ((11 : Nat) ∈ ([11, 999] : List Nat)))) ∧ True) ∧ ((true = true) ∧ (true = true)))) _ (by kernel_rfl) ⟨⟨rfl, ⟨rfl, rfl, (by decide)⟩, rfl, rfl, (congrArg (Value.int .i64) (by first | rfl | omega | assumption | simp | simp_all)), tt⟩, ⟨⟨rfl, rfl, (by decide)⟩, tt⟩, rfl, rfl⟩)
   ·rintro ⟨opn, j⟩ hC0
    have hC : (j ≤ h.length) ∧ (opn = openB h ((t : Nat) : Int) j) := hC0
    clear hC0
    obtain ⟨hj, hop⟩ := hC
    refine W.to (⟨[(0, .sl (.calls h)), (3, .own 11 o.length), (4, .i ((t : Nat) : Int)), (5, .b opn), (6, .i ((j : Nat) : Int))], [(11, ⟨3, .row (.ints o)⟩)], [11, 999]⟩) rfl ?_
    refine W.seq ?_
    refine W.K cok tab59 hnt [] [0, 3, 4, 5, 6, 19] (⟨[(0, .sl (.calls h)), (3, .own 11 o.length), (4, .i ((t : Nat) : Int)), (5, .b opn), (6, .i ((j : Nat) : Int)), (19, .b (decide (((j : Nat) : Int) < (h.length : Int))))], [(11, ⟨3, .row (.ints o)⟩)], [11, 999]⟩)
     (True ∧ True ∧ True ∧ (True ∧ True ∧ True) ∧ True) (by kernel_rfl)
     ⟨tt, tt, tt, ⟨tt, tt, tt⟩, tt⟩ ?_
    refine W.ifP (((j : Nat) : Int) < (h.length : Int)) (.b (decide (((j : Nat) : Int) < (h.length : Int)))) (by kernel_rfl) rfl trivial ?_ ?_
    ·intro h19
     refine W.skip (thenQ_normal ?_)
     refine W.seq ?_
     refine W.block ?_
     refine W.L cok tab59 hnt [] (⟨[(0, .sl (.calls h)), (3, .own 11 o.length), (4, .i ((t : Nat) : Int)), (5, .b (opn || ((decide (((List.getD h j default).frm) ≤ ((t : Nat) : Int))) && (decide (((t : Nat) : Int) < ((List.getD h j default).to)))))), (6, .i ((j : Nat) : Int)), (19, .b (decide (((j : Nat) : Int) < (h.length : Int)))), (22, .b opn), (23, .b opn), (24, .g (!opn) (.sl (.calls h))), (25, .g (!opn) (.i ((j : Nat) : Int))), (26, .g (!opn) (.ep [.i ((List.getD h j default).proc), .i ((List.getD h j default).obj), .i ((List.getD h j default).kind), .i ((List.getD h j default).arg), .i ((List.getD h j default).ret), .i ((List.getD h j default).frm), .i ((List.getD h j default).to)])), (27, .g (!opn) (.ep [.i ((List.getD h j default).frm), .i ((List.getD h j default).to)])), (28, .g (!opn) (.i ((List.getD h j default).frm))), (29, .g (!opn) (.i ((t : Nat) : Int))), (30, .g (!opn) (.b (decide (((List.getD h j default).frm) ≤ ((t : Nat) : Int))))), (31, .g (!opn) (.g (!opn) (.b (decide (((List.getD h j default).frm) ≤ ((t : Nat) : Int)))))), (32, .g ((!opn) && ((!opn) && (decide (((List.getD h j default).frm) ≤ ((t : Nat) : Int))))) (.i ((t : Nat) : Int))), (33, .g ((!opn) && ((!opn) && (decide (((List.getD h j default).frm) ≤ ((t : Nat) : Int))))) (.sl (.calls h))), (34, .g ((!opn) && ((!opn) && (decide (((List.getD h j default).frm) ≤ ((t : Nat) : Int))))) (.i ((j : Nat) : Int))), (35, .g ((!opn) && ((!opn) && (decide (((List.getD h j default).frm) ≤ ((t : Nat) : Int))))) (.ep [.i ((List.getD h j default).proc), .i ((List.getD h j default).obj), .i ((List.getD h j default).kind), .i ((List.getD h j default).arg), .i ((List.getD h j default).ret), .i ((List.getD h j default).frm), .i ((List.getD h j default).to)])), (36, .g ((!opn) && ((!opn) && (decide (((List.getD h j default).frm) ≤ ((t : Nat) : Int))))) (.ep [.i ((List.getD h j default).to)])), (37, .g ((!opn) && ((!opn) && (decide (((List.getD h j default).frm) ≤ ((t : Nat) : Int))))) (.i ((List.getD h j default).to))), (38, .g ((!opn) && ((!opn) && (decide (((List.getD h j default).frm) ≤ ((t : Nat) : Int))))) (.b (decide (((t : Nat) : Int) < ((List.getD h j default).to))))), (39, .g (!opn) (.b ((decide (((List.getD h j default).frm) ≤ ((t : Nat) : Int))) && (decide (((t : Nat) : Int) < ((List.getD h j default).to)))))), (40, .b (opn || ((decide (((List.getD h j default).frm) ≤ ((t : Nat) : Int))) && (decide (((t : Nat) : Int) < ((List.getD h j default).to))))))], [(11, ⟨3, .row (.ints o)⟩)], [11, 999]⟩)
      (True ∧ True ∧ ((!opn) = true → True) ∧ ((!opn) = true → True) ∧ ((!opn) = true → ((((!opn) = true) ∧ True) ∧ (((!opn) = true) ∧ True) ∧ (0 ≤ ((j : Nat) : Int)) ∧ (((j : Nat) : Int) < (h.length : Int)))) ∧ ((!opn) = true → (((!opn) = true) ∧ True)) ∧ ((!opn) = true → (((!opn) = true) ∧ True)) ∧ ((!opn) = true → True) ∧ ((!opn) = true → ((((!opn) = true) ∧ True) ∧ (((!opn) = true) ∧ True) ∧ True)) ∧ ((!opn) = true → True) ∧ (((!opn) && ((!opn) && (decide (((List.getD h j default).frm) ≤ ((t : Nat) : Int))))) = true → True) ∧ (((!opn) && ((!opn) && (decide (((List.getD h j default).frm) ≤ ((t : Nat) : Int))))) = true → True) ∧ (((!opn) && ((!opn) && (decide (((List.getD h j default).frm) ≤ ((t : Nat) : Int))))) = true → True) ∧ (((!opn) && ((!opn) && (decide (((List.getD h j default).frm) ≤ ((t : Nat) : Int))))) = true → (((((!opn) && ((!opn) && (decide (((List.getD h j default).frm) ≤ ((t : Nat) : Int))))) = true) ∧ True) ∧ ((((!opn) && ((!opn) && (decide (((List.getD h j default).frm) ≤ ((t : Nat) : Int))))) = true) ∧ True) ∧ (0 ≤ ((j : Nat) : Int)) ∧ (((j : Nat) : Int) < (h.length : Int)))) ∧ (((!opn) && ((!opn) && (decide (((List.getD h j default).frm) ≤ ((t : Nat) : Int))))) = true → ((((!opn) && ((!opn) && (decide (((List.getD h j default).frm) ≤ ((t : Nat) : Int))))) = true) ∧ True)) ∧ (((!opn) && ((!opn) && (decide (((List.getD h j default).frm) ≤ ((t : Nat) : Int))))) = true → ((((!opn) && ((!opn) && (decide (((List.getD h j default).frm) ≤ ((t : Nat) : Int))))) = true) ∧ True)) ∧ (((!opn) && ((!opn) && (decide (((List.getD h j default).frm) ≤ ((t : Nat) : Int))))) = true → (((((!opn) && ((!opn) && (decide (((List.getD h j default).frm) ≤ ((t : Nat) : Int))))) = true) ∧ True) ∧ ((((!opn) && ((!opn) && (decide (((List.getD h j default).frm) ≤ ((t : Nat) : Int))))) = true) ∧ True) ∧ True)) ∧ ((!opn) = true → ((((!opn) = true) ∧ ((!opn) = true) ∧ True) ∧ ((decide (((List.getD h j default).frm) ≤ ((t : Nat) : Int))) = true → (((!opn) && ((!opn) && (decide (((List.getD h j default).frm) ≤ ((t : Nat) : Int))))) = true) ∧ True) ∧ ((decide (((List.getD h j default).frm) ≤ ((t : Nat) : Int))) = false → True))) ∧ (True ∧ (opn = true → True) ∧ (opn = false → ((!opn) = true) ∧ True)) ∧ True ∧ True) (by kernel_rfl)
      ⟨tt, tt, (fun _ => trivial), (fun _ => trivial), (fun hG => ⟨⟨hG, tt⟩, ⟨hG, tt⟩, (by omega), (by omega)⟩), (fun hG => ⟨hG, tt⟩), (fun hG => ⟨hG, tt⟩), (fun _ => trivial), (fun hG => ⟨⟨hG, tt⟩, ⟨hG, tt⟩, tt⟩), (fun _ => trivial), (fun _ => trivial), (fun _ => trivial), (fun _ => trivial), (fun hG => ⟨⟨hG, tt⟩, ⟨hG, tt⟩, (by have hg0 : ((List.getD h j default).frm) ≤ ((t : Nat) : Int) := of_decide_eq_true (and_r (and_r hG)); omega), (by have hg0 : ((List.getD h j default).frm) ≤ ((t : Nat) : Int) := of_decide_eq_true (and_r (and_r hG)); omega)⟩), (fun hG => ⟨hG, tt⟩), (fun hG => ⟨hG, tt⟩), (fun hG => ⟨⟨hG, tt⟩, ⟨hG, tt⟩, tt⟩), (fun hG => ⟨⟨hG, hG, tt⟩, (fun hp => ⟨(and_t hG (and_t hG hp)), tt⟩), (fun _ => trivial)⟩), ⟨tt, (fun _ => trivial), (fun hp => ⟨(not_t hp), tt⟩)⟩, tt, tt⟩ ?_
     refine blockQ_normal (thenQ_normal ?_)
     refine W.L cok tab59 hnt [] (⟨[(0, .sl (.calls h)), (3, .own 11 o.length), (4, .i ((t : Nat) : Int)), (5, .b (opn || ((decide (((List.getD h j default).frm) ≤ ((t : Nat) : Int))) && (decide (((t : Nat) : Int) < ((List.getD h j default).to)))))), (6, .i (((j + 1) : Nat) : Int)), (19, .b (decide (((j : Nat) : Int) < (h.length : Int)))), (20, .i ((j : Nat) : Int)), (21, .i (((j + 1) : Nat) : Int)), (22, .b opn), (23, .b opn), (24, .g (!opn) (.sl (.calls h))), (25, .g (!opn) (.i ((j : Nat) : Int))), (26, .g (!opn) (.ep [.i ((List.getD h j default).proc), .i ((List.getD h j default).obj), .i ((List.getD h j default).kind), .i ((List.getD h j default).arg), .i ((List.getD h j default).ret), .i ((List.getD h j default).frm), .i ((List.getD h j default).to)])), (27, .g (!opn) (.ep [.i ((List.getD h j default).frm), .i ((List.getD h j default).to)])), (28, .g (!opn) (.i ((List.getD h j default).frm))), (29, .g (!opn) (.i ((t : Nat) : Int))), (30, .g (!opn) (.b (decide (((List.getD h j default).frm) ≤ ((t : Nat) : Int))))), (31, .g (!opn) (.g (!opn) (.b (decide (((List.getD h j default).frm) ≤ ((t : Nat) : Int)))))), (32, .g ((!opn) && ((!opn) && (decide (((List.getD h j default).frm) ≤ ((t : Nat) : Int))))) (.i ((t : Nat) : Int))), (33, .g ((!opn) && ((!opn) && (decide (((List.getD h j default).frm) ≤ ((t : Nat) : Int))))) (.sl (.calls h))), (34, .g ((!opn) && ((!opn) && (decide (((List.getD h j default).frm) ≤ ((t : Nat) : Int))))) (.i ((j : Nat) : Int))), (35, .g ((!opn) && ((!opn) && (decide (((List.getD h j default).frm) ≤ ((t : Nat) : Int))))) (.ep [.i ((List.getD h j default).proc), .i ((List.getD h j default).obj), .i ((List.getD h j default).kind), .i ((List.getD h j default).arg), .i ((List.getD h j default).ret), .i ((List.getD h j default).frm), .i ((List.getD h j default).to)])), (36, .g ((!opn) && ((!opn) && (decide (((List.getD h j default).frm) ≤ ((t : Nat) : Int))))) (.ep [.i ((List.getD h j default).to)])), (37, .g ((!opn) && ((!opn) && (decide (((List.getD h j default).frm) ≤ ((t : Nat) : Int))))) (.i ((List.getD h j default).to))), (38, .g ((!opn) && ((!opn) && (decide (((List.getD h j default).frm) ≤ ((t : Nat) : Int))))) (.b (decide (((t : Nat) : Int) < ((List.getD h j default).to))))), (39, .g (!opn) (.b ((decide (((List.getD h j default).frm) ≤ ((t : Nat) : Int))) && (decide (((t : Nat) : Int) < ((List.getD h j default).to)))))), (40, .b (opn || ((decide (((List.getD h j default).frm) ≤ ((t : Nat) : Int))) && (decide (((t : Nat) : Int) < ((List.getD h j default).to))))))], [(11, ⟨3, .row (.ints o)⟩)], [11, 999]⟩)
      (True ∧ (True ∧ True ∧ (Fits .i64 (((j + 1) : Nat) : Int))) ∧ True ∧ True) (by kernel_rfl)
      ⟨tt, ⟨tt, tt, (by exact fits_i64 (by omega) (by omega))⟩, tt, tt⟩ ?_
     refine thenQ_normal ?_
     refine ⟨((opn || ((decide (((List.getD h j default).frm) ≤ ((t : Nat) : Int))) && (decide (((t : Nat) : Int) < ((List.getD h j default).to))))), (j + 1)), (show ((j + 1) ≤ h.length) ∧ ((opn || ((decide (((List.getD h j default).frm) ≤ ((t : Nat) : Int))) && (decide (((t : Nat) : Int) < ((List.getD h j default).to))))) = openB h ((t : Nat) : Int) (j + 1)) from ⟨(by first | assumption | omega | rfl | (intro _ hjj; omega) | (simp; done) | (simp; omega)), (by rw [hop]; exact openB_succ rfl)⟩), (show h.length - (j + 1) < h.length - j from (by first | omega | (simp_all; omega))), ?_⟩
     exact Sub.of [] (@cast ((((.calls h : Dat) = .calls h) ∧ ((((11 : Nat) = 11) ∧ ((o.length = o.length) ∧ ((11 : Nat) ∈ ([11, 999] : List Nat)))) ∧ (((.int .i64 ((t : Nat) : Int) : Value) = .int .i64 ((t : Nat) : Int)) ∧ (((.bool (opn || ((decide (((List.getD h j default).frm) ≤ ((t : Nat) : Int))) && (decide (((t : Nat) : Int) < ((List.getD h j default).to))))) : Value) = .bool (opn || ((decide (((List.getD h j default).frm) ≤ ((t : Nat) : Int))) && (decide (((t : Nat) : Int) < ((List.getD h j default).to)))))) ∧ (((.int .i64 (((j + 1) : Nat) : Int) : Value) = .int .i64 (((j + 1) : Nat) : Int)) ∧ True))))) ∧ (((((3 : Nat) = 3) ∧ (((.ints o : Dat) = .ints o) ∧ ((11 : Nat) ∈ ([11, 999] : List Nat)))) ∧ True) ∧ ((true = true) ∧ (true = true)))) _ (by kernel_rfl) ⟨⟨rfl, ⟨rfl, rfl, (by decide)⟩, rfl, rfl, rfl, tt⟩, ⟨⟨rfl, rfl, (by decide)⟩, tt⟩, rfl, rfl⟩)
    ·intro n19
     refine W.exit (thenQ_exit (thenQ_exit (blockQ_hit ?_)))
     refine thenQ_normal ?_
     refine W.K cok tab59 hnt [] [0, 3, 4, 5, 7] (⟨[(0, .sl (.calls h)), (3, .own 11 o.length), (4, .i ((t : Nat) : Int)), (5, .b opn), (7, .i (0 : Int))], [(11, ⟨3, .row (.ints o)⟩)], [11, 999]⟩)
      (True ∧ True) (by kernel_rfl)
      ⟨tt, tt⟩ ?_
     refine W.block ?_
     refine W.loop (ι := (List Int) × Nat) (fun (x : (List Int) × Nat) => match x with | (x, i) => (⟨[(0, .sl (.calls h)), (3, .own 11 x.length), (4, .i ((t : Nat) : Int)), (5, .b opn), (7, .i ((i : Nat) : Int))], [(11, ⟨3, .row (.ints x)⟩)], [11, 999]⟩ : St))
      (fun (x : (List Int) × Nat) => match x with | (x, i) => (i ≤ h.length) ∧ (x = rowsOf h.length (mixF (quietT h t) (quietT h (t + 1)) i 0)))
      (fun (x : (List Int) × Nat) => match x with | (x, i) => (h.length - i : Nat)) (o, 0) ?_ ?_ ?_
     ·exact (show (0 ≤ h.length) ∧ (o = rowsOf h.length (mixF (quietT h t) (quietT h (t + 1)) 0 0)) from ⟨(by first | assumption | omega | rfl | (intro _ hjj; omega) | (simp; done) | (simp; omega)), (by rw [ho]; exact mix_start)⟩)
     ·exact Sub.of [] (@cast ((((.calls h : Dat) = .calls h) ∧ ((((11 : Nat) = 11) ∧ ((o.length = o.length) ∧ ((11 : Nat) ∈ ([11, 999] : List Nat)))) ∧ (((.int .i64 ((t : Nat) : Int) : Value) = .int .i64 ((t : Nat) : Int)) ∧ (((.bool opn : Value) = .bool opn) ∧ (((.int .i64 (0 : Int) : Value) = .int .i64 ((0 : Nat) : Int)) ∧ True))))) ∧ (((((3 : Nat) = 3) ∧ (((.ints o : Dat) = .ints o) ∧ ((11 : Nat) ∈ ([11, 999] : List Nat)))) ∧ True) ∧ ((true = true) ∧ (true = true)))) _ (by kernel_rfl) ⟨⟨rfl, ⟨rfl, rfl, (by decide)⟩, rfl, rfl, (congrArg (Value.int .i64) (by first | rfl | omega | assumption | simp | simp_all)), tt⟩, ⟨⟨rfl, rfl, (by decide)⟩, tt⟩, rfl, rfl⟩)
     ·rintro ⟨x, i⟩ hC0
      have hC : (i ≤ h.length) ∧ (x = rowsOf h.length (mixF (quietT h t) (quietT h (t + 1)) i 0)) := hC0
      clear hC0
      obtain ⟨hi, hx⟩ := hC
      refine W.to (⟨[(0, .sl (.calls h)), (3, .own 11 x.length), (4, .i ((t : Nat) : Int)), (5, .b opn), (7, .i ((i : Nat) : Int))], [(11, ⟨3, .row (.ints x)⟩)], [11, 999]⟩) rfl ?_
      have hxl : x.length = h.length := by rw [hx, rowsOf_len]
      refine W.seq ?_
      refine W.K cok tab59 hnt [] [0, 3, 4, 5, 7, 48] (⟨[(0, .sl (.calls h)), (3, .own 11 x.length), (4, .i ((t : Nat) : Int)), (5, .b opn), (7, .i ((i : Nat) : Int)), (48, .b ((decide (((i : Nat) : Int) < (h.length : Int))) && (!opn)))], [(11, ⟨3, .row (.ints x)⟩)], [11, 999]⟩)
       (True ∧ True ∧ True ∧ (True ∧ True ∧ True) ∧ True ∧ ((decide (((i : Nat) : Int) < (h.length : Int))) = true → True) ∧ ((decide (((i : Nat) : Int) < (h.length : Int))) = true → (((decide (((i : Nat) : Int) < (h.length : Int))) = true) ∧ True)) ∧ (True ∧ ((decide (((i : Nat) : Int) < (h.length : Int))) = true → ((decide (((i : Nat) : Int) < (h.length : Int))) = true) ∧ True) ∧ ((decide (((i : Nat) : Int) < (h.length : Int))) = false → True)) ∧ True) (by kernel_rfl)
       ⟨tt, tt, tt, ⟨tt, tt, tt⟩, tt, (fun _ => trivial), (fun hG => ⟨hG, tt⟩), ⟨tt, (fun hp => ⟨hp, tt⟩), (fun _ => trivial)⟩, tt⟩ ?_
      refine W.if' ((decide (((i : Nat) : Int) < (h.length : Int))) && (!opn)) (.b ((decide (((i : Nat) : Int) < (h.length : Int))) && (!opn))) (by kernel_rfl) rfl trivial ?_ ?_
      ·intro h48
       have h48_0 : ((i : Nat) : Int) < (h.length : Int) := of_decide_eq_true (and_l h48)
       refine W.skip (thenQ_normal ?_)
       refine W.seq ?_
       refine W.block ?_
       refine W.K cok tab59 hnt [] [0, 3, 4, 5, 7, 8] (⟨[(0, .sl (.calls h)), (3, .own 11 x.length), (4, .i ((t : Nat) : Int)), (5, .b opn), (7, .i ((i : Nat) : Int)), (8, .i (0 : Int))], [(11, ⟨3, .row (.ints x)⟩)], [11, 999]⟩)
        (True ∧ True) (by kernel_rfl)
        ⟨tt, tt⟩ ?_
       refine W.block ?_
       refine W.loop (ι := (List Int) × Nat) (fun (x : (List Int) × Nat) => match x with | (y, k) => (⟨[(0, .sl (.calls h)), (3, .own 11 y.length), (4, .i ((t : Nat) : Int)), (5, .b opn), (7, .i ((i : Nat) : Int)), (8, .i ((k : Nat) : Int))], [(11, ⟨3, .row (.ints y)⟩)], [11, 999]⟩ : St))
        (fun (x : (List Int) × Nat) => match x with | (y, k) => (k ≤ h.length) ∧ (y = rowsOf h.length (mixF (quietT h t) (quietT h (t + 1)) i k)))
        (fun (x : (List Int) × Nat) => match x with | (y, k) => (h.length - k : Nat)) (x, 0) ?_ ?_ ?_
       ·exact (show (0 ≤ h.length) ∧ (x = rowsOf h.length (mixF (quietT h t) (quietT h (t + 1)) i 0)) from ⟨(by first | assumption | omega | rfl | (intro _ hjj; omega) | (simp; done) | (simp; omega)), (by exact hx)⟩)
       ·exact Sub.of [] (@cast ((((.calls h : Dat) = .calls h) ∧ ((((11 : Nat) = 11) ∧ ((x.length = x.length) ∧ ((11 : Nat) ∈ ([11, 999] : List Nat)))) ∧ (((.int .i64 ((t : Nat) : Int) : Value) = .int .i64 ((t : Nat) : Int)) ∧ (((.bool opn : Value) = .bool opn) ∧ (((.int .i64 ((i : Nat) : Int) : Value) = .int .i64 ((i : Nat) : Int)) ∧ (((.int .i64 (0 : Int) : Value) = .int .i64 ((0 : Nat) : Int)) ∧ True)))))) ∧ (((((3 : Nat) = 3) ∧ (((.ints x : Dat) = .ints x) ∧ ((11 : Nat) ∈ ([11, 999] : List Nat)))) ∧ True) ∧ ((true = true) ∧ (true = true)))) _ (by kernel_rfl) ⟨⟨rfl, ⟨rfl, rfl, (by decide)⟩, rfl, rfl, rfl, (congrArg (Value.int .i64) (by first | rfl | omega | assumption | simp | simp_all)), tt⟩, ⟨⟨rfl, rfl, (by decide)⟩, tt⟩, rfl, rfl⟩)
       ·rintro ⟨y, k⟩ hC0
        have hC : (k ≤ h.length) ∧ (y = rowsOf h.length (mixF (quietT h t) (quietT h (t + 1)) i k)) := hC0
        clear hC0
        obtain ⟨hk, hy⟩ := hC
        refine W.to (⟨[(0, .sl (.calls h)), (3, .own 11 y.length), (4, .i ((t : Nat) : Int)), (5, .b opn), (7, .i ((i : Nat) : Int)), (8, .i ((k : Nat) : Int))], [(11, ⟨3, .row (.ints y)⟩)], [11, 999]⟩) rfl ?_
        have hyl : y.length = h.length := by rw [hy, rowsOf_len]
        have hob : openB h ((t : Nat) : Int) h.length = false := by rw [show j = h.length by omega] at hop; rw [← hop]; exact not_f (and_r h48)
        refine W.seq ?_
        refine W.K cok tab59 hnt [] [0, 3, 4, 5, 7, 8, 54] (⟨[(0, .sl (.calls h)), (3, .own 11 y.length), (4, .i ((t : Nat) : Int)), (5, .b opn), (7, .i ((i : Nat) : Int)), (8, .i ((k : Nat) : Int)), (54, .b (decide (((k : Nat) : Int) < (h.length : Int))))], [(11, ⟨3, .row (.ints y)⟩)], [11, 999]⟩)
         (True ∧ True ∧ True ∧ (True ∧ True ∧ True) ∧ True) (by kernel_rfl)
         ⟨tt, tt, tt, ⟨tt, tt, tt⟩, tt⟩ ?_
        refine W.ifP (((k : Nat) : Int) < (h.length : Int)) (.b (decide (((k : Nat) : Int) < (h.length : Int)))) (by kernel_rfl) rfl trivial ?_ ?_
        ·intro h54
         refine W.skip (thenQ_normal ?_)
         refine W.seq ?_
         refine W.block ?_
         refine W.K cok tab59 hnt [] [0, 3, 4, 5, 7, 8, 72] (⟨[(0, .sl (.calls h)), (3, .own 11 y.length), (4, .i ((t : Nat) : Int)), (5, .b opn), (7, .i ((i : Nat) : Int)), (8, .i ((k : Nat) : Int)), (72, .b ((decide (((List.getD h k default).to) ≤ ((t : Nat) : Int))) && (decide (((t : Nat) : Int) < ((List.getD h i default).frm)))))], [(11, ⟨3, .row (.ints y)⟩)], [11, 999]⟩)
          (True ∧ True ∧ (True ∧ True ∧ (0 ≤ ((k : Nat) : Int)) ∧ (((k : Nat) : Int) < (h.length : Int))) ∧ True ∧ True ∧ True ∧ (True ∧ True ∧ True) ∧ True ∧ ((decide (((List.getD h k default).to) ≤ ((t : Nat) : Int))) = true → True) ∧ ((decide (((List.getD h k default).to) ≤ ((t : Nat) : Int))) = true → True) ∧ ((decide (((List.getD h k default).to) ≤ ((t : Nat) : Int))) = true → True) ∧ ((decide (((List.getD h k default).to) ≤ ((t : Nat) : Int))) = true → ((((decide (((List.getD h k default).to) ≤ ((t : Nat) : Int))) = true) ∧ True) ∧ (((decide (((List.getD h k default).to) ≤ ((t : Nat) : Int))) = true) ∧ True) ∧ (0 ≤ ((i : Nat) : Int)) ∧ (((i : Nat) : Int) < (h.length : Int)))) ∧ ((decide (((List.getD h k default).to) ≤ ((t : Nat) : Int))) = true → (((decide (((List.getD h k default).to) ≤ ((t : Nat) : Int))) = true) ∧ True)) ∧ ((decide (((List.getD h k default).to) ≤ ((t : Nat) : Int))) = true → (((decide (((List.getD h k default).to) ≤ ((t : Nat) : Int))) = true) ∧ True)) ∧ ((decide (((List.getD h k default).to) ≤ ((t : Nat) : Int))) = true → ((((decide (((List.getD h k default).to) ≤ ((t : Nat) : Int))) = true) ∧ True) ∧ (((decide (((List.getD h k default).to) ≤ ((t : Nat) : Int))) = true) ∧ True) ∧ True)) ∧ (True ∧ ((decide (((List.getD h k default).to) ≤ ((t : Nat) : Int))) = true → ((decide (((List.getD h k default).to) ≤ ((t : Nat) : Int))) = true) ∧ True) ∧ ((decide (((List.getD h k default).to) ≤ ((t : Nat) : Int))) = false → True)) ∧ True) (by kernel_rfl)
          ⟨tt, tt, ⟨tt, tt, (by omega), (by omega)⟩, tt, tt, tt, ⟨tt, tt, tt⟩, tt, (fun _ => trivial), (fun _ => trivial), (fun _ => trivial), (fun hG => ⟨⟨hG, tt⟩, ⟨hG, tt⟩, (by have hg0 : ((List.getD h k default).to) ≤ ((t : Nat) : Int) := of_decide_eq_true hG; omega), (by have hg0 : ((List.getD h k default).to) ≤ ((t : Nat) : Int) := of_decide_eq_true hG; omega)⟩), (fun hG => ⟨hG, tt⟩), (fun hG => ⟨hG, tt⟩), (fun hG => ⟨⟨hG, tt⟩, ⟨hG, tt⟩, tt⟩), ⟨tt, (fun hp => ⟨hp, tt⟩), (fun _ => trivial)⟩, tt⟩ ?_
         refine W.if' ((decide (((List.getD h k default).to) ≤ ((t : Nat) : Int))) && (decide (((t : Nat) : Int) < ((List.getD h i default).frm)))) (.b ((decide (((List.getD h k default).to) ≤ ((t : Nat) : Int))) && (decide (((t : Nat) : Int) < ((List.getD h i default).frm))))) (by kernel_rfl) rfl trivial ?_ ?_
         ·intro h72
          have h72_0 : ((List.getD h k default).to) ≤ ((t : Nat) : Int) := of_decide_eq_true (and_l h72)
          have h72_1 : ((t : Nat) : Int) < ((List.getD h i default).frm) := of_decide_eq_true (and_r h72)
          refine W.LA cok tab59 hnt [] (⟨[(0, .sl (.calls h)), (3, .own 11 y.length), (4, .i ((t : Nat) : Int)), (5, .b opn), (7, .i ((i : Nat) : Int)), (8, .i ((k : Nat) : Int)), (72, .b ((decide (((List.getD h k default).to) ≤ ((t : Nat) : Int))) && (decide (((t : Nat) : Int) < ((List.getD h i default).frm))))), (73, .own 11 y.length), (74, .i ((i : Nat) : Int)), (75, .own 11 y.length), (76, .i ((i : Nat) : Int)), (77, .pel 11 1 i 0), (78, .i (List.getD y i 0)), (79, .i ((k : Nat) : Int)), (80, .i (power ((k : Nat) : Int))), (81, .i (bitsI .or .i64 (List.getD y i 0) (power ((k : Nat) : Int)))), (82, .pel 11 1 i 0)], [(11, ⟨3, .row (.ints (List.set y i (bitsI .or .i64 (List.getD y i 0) (power ((k : Nat) : Int)))))⟩)], [11, 999]⟩)
           (True ∧ True ∧ True ∧ True ∧ (True ∧ True ∧ (0 ≤ ((i : Nat) : Int)) ∧ (((i : Nat) : Int) < (y.length : Int))) ∧ (True ∧ (i < y.length)) ∧ True ∧ (True ∧ (True ∧ True) ∧ (((k : Nat) : Int) ≤ 60)) ∧ (True ∧ True ∧ True) ∧ (True ∧ True ∧ (0 ≤ ((i : Nat) : Int)) ∧ (((i : Nat) : Int) < (y.length : Int))) ∧ (True ∧ True ∧ (i < y.length)) ∧ True) (by kernel_rfl) (by kernel_rfl)
           ⟨tt, tt, tt, tt, ⟨tt, tt, (by omega), (by omega)⟩, ⟨tt, (by omega)⟩, tt, ⟨tt, ⟨tt, tt⟩, (by omega)⟩, ⟨tt, tt, tt⟩, ⟨tt, tt, (by omega), (by omega)⟩, ⟨tt, tt, (by omega)⟩, tt⟩ ?_
          refine blockQ_normal (thenQ_normal ?_)
          refine W.L cok tab59 hnt [] (⟨[(0, .sl (.calls h)), (3, .own 11 y.length), (4, .i ((t : Nat) : Int)), (5, .b opn), (7, .i ((i : Nat) : Int)), (8, .i (((k + 1) : Nat) : Int)), (55, .i ((k : Nat) : Int)), (56, .i (((k + 1) : Nat) : Int)), (72, .b ((decide (((List.getD h k default).to) ≤ ((t : Nat) : Int))) && (decide (((t : Nat) : Int) < ((List.getD h i default).frm))))), (73, .own 11 y.length), (74, .i ((i : Nat) : Int)), (75, .own 11 y.length), (76, .i ((i : Nat) : Int)), (77, .pel 11 1 i 0), (78, .i (List.getD y i 0)), (79, .i ((k : Nat) : Int)), (80, .i (power ((k : Nat) : Int))), (81, .i (bitsI .or .i64 (List.getD y i 0) (power ((k : Nat) : Int)))), (82, .pel 11 1 i 0)], [(11, ⟨3, .row (.ints (List.set y i (bitsI .or .i64 (List.getD y i 0) (power ((k : Nat) : Int)))))⟩)], [11, 999]⟩)
           (True ∧ (True ∧ True ∧ (Fits .i64 (((k + 1) : Nat) : Int))) ∧ True ∧ True) (by kernel_rfl)
           ⟨tt, ⟨tt, tt, (by exact fits_i64 (by omega) (by omega))⟩, tt, tt⟩ ?_
          refine thenQ_normal ?_
          refine ⟨((List.set y i (bitsI .or .i64 (List.getD y i 0) (power ((k : Nat) : Int)))), (k + 1)), (show ((k + 1) ≤ h.length) ∧ ((List.set y i (bitsI .or .i64 (List.getD y i 0) (power ((k : Nat) : Int)))) = rowsOf h.length (mixF (quietT h t) (quietT h (t + 1)) i (k + 1))) from ⟨(by first | assumption | omega | rfl | (intro _ hjj; omega) | (simp; done) | (simp; omega)), (by first | (rw [hy]; exact mix_skip (qt_no n72)) | (rw [hy]; exact mix_set (by omega) (by omega) (by omega) (qt_yes hob h72)))⟩), (show h.length - (k + 1) < h.length - k from (by first | omega | (simp_all; omega))), ?_⟩
          exact Sub.of [] (@cast ((((.calls h : Dat) = .calls h) ∧ ((((11 : Nat) = 11) ∧ ((y.length = (List.length (List.set y i (bitsI .or .i64 (List.getD y i 0) (power ((k : Nat) : Int)))))) ∧ ((11 : Nat) ∈ ([11, 999] : List Nat)))) ∧ (((.int .i64 ((t : Nat) : Int) : Value) = .int .i64 ((t : Nat) : Int)) ∧ (((.bool opn : Value) = .bool opn) ∧ (((.int .i64 ((i : Nat) : Int) : Value) = .int .i64 ((i : Nat) : Int)) ∧ (((.int .i64 (((k + 1) : Nat) : Int) : Value) = .int .i64 (((k + 1) : Nat) : Int)) ∧ True)))))) ∧ (((((3 : Nat) = 3) ∧ (((.ints (List.set y i (bitsI .or .i64 (List.getD y i 0) (power ((k : Nat) : Int)))) : Dat) = .ints (List.set y i (bitsI .or .i64 (List.getD y i 0) (power ((k : Nat) : Int))))) ∧ ((11 : Nat) ∈ ([11, 999] : List Nat)))) ∧ True) ∧ ((true = true) ∧ (true = true)))) _ (by kernel_rfl) ⟨⟨rfl, ⟨rfl, (by first | rfl | omega | assumption | (symm; assumption) | simp | simp_all), (by decide)⟩, rfl, rfl, rfl, rfl, tt⟩, ⟨⟨rfl, rfl, (by decide)⟩, tt⟩, rfl, rfl⟩)
         ·intro n72
          refine W.skip (blockQ_normal (thenQ_normal ?_))
          refine W.L cok tab59 hnt [] (⟨[(0, .sl (.calls h)), (3, .own 11 y.length), (4, .i ((t : Nat) : Int)), (5, .b opn), (7, .i ((i : Nat) : Int)), (8, .i (((k + 1) : Nat) : Int)), (55, .i ((k : Nat) : Int)), (56, .i (((k + 1) : Nat) : Int)), (72, .b ((decide (((List.getD h k default).to) ≤ ((t : Nat) : Int))) && (decide (((t : Nat) : Int) < ((List.getD h i default).frm)))))], [(11, ⟨3, .row (.ints y)⟩)], [11, 999]⟩)
           (True ∧ (True ∧ True ∧ (Fits .i64 (((k + 1) : Nat) : Int))) ∧ True ∧ True) (by kernel_rfl)
           ⟨tt, ⟨tt, tt, (by exact fits_i64 (by omega) (by omega))⟩, tt, tt⟩ ?_
          refine thenQ_normal ?_
          refine ⟨(y, (k + 1)), (show ((k + 1) ≤ h.length) ∧ (y = rowsOf h.length (mixF (quietT h t) (quietT h (t + 1)) i (k + 1))) from ⟨(by first | assumption | omega | rfl | (intro _ hjj; omega) | (simp; done) | (simp; omega)), (by first | (rw [hy]; exact mix_skip (qt_no n72)) | (rw [hy]; exact mix_set (by omega) (by omega) (by omega) (qt_yes hob h72)))⟩), (show h.length - (k + 1) < h.length - k from (by first | omega | (simp_all; omega))), ?_⟩
          exact Sub.of [] (@cast ((((.calls h : Dat) = .calls h) ∧ ((((11 : Nat) = 11) ∧ ((y.length = y.length) ∧ ((11 : Nat) ∈ ([11, 999] : List Nat)))) ∧ (((.int .i64 ((t : Nat) : Int) : Value) = .int .i64 ((t : Nat) : Int)) ∧ (((.bool opn : Value) = .bool opn) ∧ (((.int .i64 ((i : Nat) : Int) : Value) = .int .i64 ((i : Nat) : Int)) ∧ (((.int .i64 (((k + 1) : Nat) : Int) : Value) = .int .i64 (((k + 1) : Nat) : Int)) ∧ True)))))) ∧ (((((3 : Nat) = 3) ∧ (((.ints y : Dat) = .ints y) ∧ ((11 : Nat) ∈ ([11, 999] : List Nat)))) ∧ True) ∧ ((true = true) ∧ (true = true)))) _ (by kernel_rfl) ⟨⟨rfl, ⟨rfl, rfl, (by decide)⟩, rfl, rfl, rfl, rfl, tt⟩, ⟨⟨rfl, rfl, (by decide)⟩, tt⟩, rfl, rfl⟩)
        ·intro n54
         refine W.exit (thenQ_exit (thenQ_exit (blockQ_hit ?_)))
         refine blockQ_normal (thenQ_normal ?_)
         refine W.L cok tab59 hnt [] (⟨[(0, .sl (.calls h)), (3, .own 11 y.length), (4, .i ((t : Nat) : Int)), (5, .b opn), (7, .i (((i + 1) : Nat) : Int)), (8, .i ((k : Nat) : Int)), (49, .i ((i : Nat) : Int)), (50, .i (((i + 1) : Nat) : Int)), (54, .b (decide (((k : Nat) : Int) < (h.length : Int))))], [(11, ⟨3, .row (.ints y)⟩)], [11, 999]⟩)
          (True ∧ (True ∧ True ∧ (Fits .i64 (((i + 1) : Nat) : Int))) ∧ True ∧ True) (by kernel_rfl)
          ⟨tt, ⟨tt, tt, (by exact fits_i64 (by omega) (by omega))⟩, tt, tt⟩ ?_
         refine thenQ_normal ?_
         refine ⟨(y, (i + 1)), (show ((i + 1) ≤ h.length) ∧ (y = rowsOf h.length (mixF (quietT h t) (quietT h (t + 1)) (i + 1) 0)) from ⟨(by first | assumption | omega | rfl | (intro _ hjj; omega) | (simp; done) | (simp; omega)), (by rw [hy, show k = h.length by omega]; exact mix_next)⟩), (show h.length - (i + 1) < h.length - i from (by first | omega | (simp_all; omega))), ?_⟩
         exact Sub.of [] (@cast ((((.calls h : Dat) = .calls h) ∧ ((((11 : Nat) = 11) ∧ ((y.length = y.length) ∧ ((11 : Nat) ∈ ([11, 999] : List Nat)))) ∧ (((.int .i64 ((t : Nat) : Int) : Value) = .int .i64 ((t : Nat) : Int)) ∧ (((.bool opn : Value) = .bool opn) ∧ (((.int .i64 (((i + 1) : Nat) : Int) : Value) = .int .i64 (((i + 1) : Nat) : Int)) ∧ True))))) ∧ (((((3 : Nat) = 3) ∧ (((.ints y : Dat) = .ints y) ∧ ((11 : Nat) ∈ ([11, 999] : List Nat)))) ∧ True) ∧ ((true = true) ∧ (true = true)))) _ (by kernel_rfl) ⟨⟨rfl, ⟨rfl, rfl, (by decide)⟩, rfl, rfl, rfl, tt⟩, ⟨⟨rfl, rfl, (by decide)⟩, tt⟩, rfl, rfl⟩)
      ·intro n48
       refine W.exit (thenQ_exit (thenQ_exit (blockQ_hit ?_)))
       refine blockQ_normal (thenQ_normal ?_)
       refine W.L cok tab59 hnt [] (⟨[(0, .sl (.calls h)), (3, .own 11 x.length), (4, .i (((t + 1) : Nat) : Int)), (5, .b opn), (7, .i ((i : Nat) : Int)), (14, .i ((t : Nat) : Int)), (15, .i (((t + 1) : Nat) : Int)), (48, .b ((decide (((i : Nat) : Int) < (h.length : Int))) && (!opn)))], [(11, ⟨3, .row (.ints x)⟩)], [11, 999]⟩)
        (True ∧ (True ∧ True ∧ (Fits .i64 (((t + 1) : Nat) : Int))) ∧ True ∧ True) (by kernel_rfl)
        ⟨tt, ⟨tt, tt, (by exact fits_i64 (by omega) (by omega))⟩, tt, tt⟩ ?_
       refine thenQ_normal ?_
       refine ⟨(x, (t + 1)), (show ((t + 1) ≤ 31) ∧ (x = rowsOf h.length (quietT h (t + 1))) from ⟨(by first | assumption | omega | rfl | (intro _ hjj; omega) | (simp; done) | (simp; omega)), (by rw [hx]; exact mix_out (by rw [show j = h.length by omega] at hop; rw [← hop]; exact n48))⟩), (show 31 - (t + 1) < 31 - t from (by first | omega | (simp_all; omega))), ?_⟩
       exact Sub.of [] (@cast ((((.calls h : Dat) = .calls h) ∧ ((((11 : Nat) = 11) ∧ ((x.length = x.length) ∧ ((11 : Nat) ∈ ([11, 999] : List Nat)))) ∧ (((.int .i64 (((t + 1) : Nat) : Int) : Value) = .int .i64 (((t + 1) : Nat) : Int)) ∧ True))) ∧ (((((3 : Nat) = 3) ∧ (((.ints x : Dat) = .ints x) ∧ ((11 : Nat) ∈ ([11, 999] : List Nat)))) ∧ True) ∧ ((true = true) ∧ (true = true)))) _ (by kernel_rfl) ⟨⟨rfl, ⟨rfl, rfl, (by decide)⟩, rfl, tt⟩, ⟨⟨rfl, rfl, (by decide)⟩, tt⟩, rfl, rfl⟩)
  ·intro n13
   refine W.exit (thenQ_exit (thenQ_exit (blockQ_hit ?_)))
   refine thenQ_normal ?_
   refine W.K cok tab59 hnt [] [2] (⟨[(2, .own 11 o.length)], [(11, ⟨3, .row (.ints o)⟩)], [11, 999]⟩)
    (True ∧ True ∧ True) (by kernel_rfl)
    ⟨tt, tt, tt⟩ ?_
   refine W.subS [] (⟨[(2, .sl (.ints o))], [], [999]⟩) (@cast ((((o.length = o.length) ∧ (((.ints o : Dat) = .ints o) ∧ ((11 : Nat) ∉ ([] : List Nat)))) ∧ True) ∧ (True ∧ ((true = true) ∧ (true = true)))) _ (by kernel_rfl) ⟨⟨⟨rfl, rfl, (by decide)⟩, tt⟩, tt, rfl, rfl⟩) ?_
   refine W.ret ?_
   exact endQ_ret (.sl (.ints o)) (by kernel_rfl) (@cast ((.ints o : Dat) = .ints (rowsOf h.length (quietF h))) _ (by kernel_rfl) (congrArg Dat.ints (by rw [ho]; exact quiet_fin (by omega))))
theorem ent59 : Entr prog 59 := ⟨_, func59, rfl, by decide⟩
end Go.Proofs.Try

set_option linter.unusedSimpArgs false
set_option linter.unusedVariables false
namespace Go.Proofs.Try
open Go.Ab Go.RowKit
def fs72 : FnS := fnS [.s .ints, .o] [.ints, .int] (fun _ (l, n, _) => (.b (hasInt l n), [], True))
abbrev T72 : Tab := lk []
theorem tab72 : TabOK prog T72 := TabOK.nil
set_option maxRecDepth 100000 in
set_option maxHeartbeats 1000000 in
theorem ok72 : FnOK prog 72 fs72 := by
 refine FnOK.mk cok func72 rfl rfl rfl ?_
 rintro fl ⟨(l : List Int), (n : Int), _⟩ hpre F hnt0 _
 have hnt : F.nt = 18 := hnt0.trans ntmps72
 clear hpre
 refine W.to (⟨[(0, .sl (.ints l)), (1, .i n)], [], [999]⟩) rfl ?_
 refine W.lenOf 0 (.ints l) (by kernel_rfl) ?_
 intro hl_l; replace hl_l : List.length l ≤ 9223372036854775807 := hl_l
 refine W.K cok tab72 hnt [] [0, 1] (⟨[(0, .sl (.ints l)), (1, .i n)], [], [999]⟩)
  (True ∧ True) (by kernel_rfl)
  ⟨tt, tt⟩ ?_
 refine W.seq ?_
 refine W.K cok tab72 hnt [] [0, 1, 5] (⟨[(0, .sl (.ints l)), (1, .i n), (5, .i (0 : Int))], [], [999]⟩)
  (True ∧ True) (by kernel_rfl)
  ⟨tt, tt⟩ ?_
 refine W.block ?_
 refine W.loop (ι := Nat) (fun (i : Nat) => (⟨[(0, .sl (.ints l)), (1, .i n), (5, .i ((i : Nat) : Int))], [], [999]⟩ : St))
  (fun (i : Nat) => (i ≤ l.length) ∧ (∀ j, j < i → decide (l.getD j 0 = n) = false))
  (fun (i : Nat) => (l.length - i : Nat)) (0) ?_ ?_ ?_
 ·exact (show (0 ≤ l.length) ∧ (∀ j, j < 0 → decide (l.getD j 0 = n) = false) from ⟨(by first | assumption | omega | rfl | (intro _ hjj; omega) | (simp; done) | (simp; omega)), (by exact upto_zero)⟩)
 ·exact Sub.of [] (@cast ((((.ints l : Dat) = .ints l) ∧ (((.int .i64 n : Value) = .int .i64 n) ∧ (((.int .i64 (0 : Int) : Value) = .int .i64 ((0 : Nat) : Int)) ∧ True))) ∧ (True ∧ ((true = true) ∧ (true = true)))) _ (by kernel_rfl) ⟨⟨rfl, rfl, (congrArg (Value.int .i64) (by first | rfl | omega | assumption | simp | simp_all)), tt⟩, tt, rfl, rfl⟩)
 ·rintro i hC0
  have hC : (i ≤ l.length) ∧ (∀ j, j < i → decide (l.getD j 0 = n) = false) := hC0
  clear hC0
  obtain ⟨hi, hA⟩ := hC
  refine W.to (⟨[(0, .sl (.ints l)), (1, .i n), (5, .i ((i : Nat) : Int))], [], [999]⟩) rfl ?_
  refine W.seq ?_
  refine W.K cok tab72 hnt [] [0, 1, 5, 9] (⟨[(0, .sl (.ints l)), (1, .i n), (5, .i ((i : Nat) : Int)), (9, .b (decide (((i : Nat) : Int) < (l.length : Int))))], [], [999]⟩)
   (True ∧ True ∧ True ∧ (True ∧ True ∧ True) ∧ True) (by kernel_rfl)
   ⟨tt, tt, tt, ⟨tt, tt, tt⟩, tt⟩ ?_
  refine W.ifP (((i : Nat) : Int) < (l.length : Int)) (.b (decide (((i : Nat) : Int) < (l.length : Int)))) (by kernel_rfl) rfl trivial ?_ ?_
  ·intro h9
   refine W.skip (thenQ_normal ?_)
   refine W.seq ?_
   refine W.block ?_
   refine W.K cok tab72 hnt [] [0, 1, 5, 17] (⟨[(0, .sl (.ints l)), (1, .i n), (5, .i ((i : Nat) : Int)), (17, .b (decide ((List.getD l i 0) = n)))], [], [999]⟩)
    (True ∧ True ∧ (True ∧ True ∧ (0 ≤ ((i : Nat) : Int)) ∧ (((i : Nat) : Int) < (l.length : Int))) ∧ True ∧ True ∧ (True ∧ True ∧ True) ∧ True) (by kernel_rfl)
    ⟨tt, tt, ⟨tt, tt, (by omega), (by omega)⟩, tt, tt, ⟨tt, tt, tt⟩, tt⟩ ?_
   refine W.ifP ((List.getD l i 0) = n) (.b (decide ((List.getD l i 0) = n))) (by kernel_rfl) rfl trivial ?_ ?_
   ·intro h17
    refine W.K cok tab72 hnt [] [4] (⟨[(4, .b true)], [], [999]⟩)
     (True ∧ True) (by kernel_rfl)
     ⟨tt, tt⟩ ?_
    refine W.ret (blockQ_ret (thenQ_ret (thenQ_ret (blockQ_ret (thenQ_ret ?_)))))
    exact endQ_ret (.b true) (by kernel_rfl) (@cast ((.bool true : Value) = .bool (hasInt l n)) _ (by kernel_rfl) (congrArg Value.bool (by unfold hasInt; symm; exact anyN_true (i := i) (by omega) (decide_eq_true h17))))
   ·intro n17
    refine W.skip (blockQ_normal (thenQ_normal ?_))
    refine W.L cok tab72 hnt [] (⟨[(0, .sl (.ints l)), (1, .i n), (5, .i (((i + 1) : Nat) : Int)), (10, .i ((i : Nat) : Int)), (11, .i (((i + 1) : Nat) : Int)), (17, .b (decide ((List.getD l i 0) = n)))], [], [999]⟩)
     (True ∧ (True ∧ True ∧ (Fits .i64 (((i + 1) : Nat) : Int))) ∧ True ∧ True) (by kernel_rfl)
     ⟨tt, ⟨tt, tt, (by exact fits_i64 (by omega) (by omega))⟩, tt, tt⟩ ?_
    refine thenQ_normal ?_
    refine ⟨((i + 1)), (show ((i + 1) ≤ l.length) ∧ (∀ j, j < (i + 1) → decide (l.getD j 0 = n) = false) from ⟨(by first | assumption | omega | rfl | (intro _ hjj; omega) | (simp; done) | (simp; omega)), (by exact upto_succ hA (decide_eq_false n17))⟩), (show l.length - (i + 1) < l.length - i from (by first | omega | (simp_all; omega))), ?_⟩
    exact Sub.of [] (@cast ((((.ints l : Dat) = .ints l) ∧ (((.int .i64 n : Value) = .int .i64 n) ∧ (((.int .i64 (((i + 1) : Nat) : Int) : Value) = .int .i64 (((i + 1) : Nat) : Int)) ∧ True))) ∧ (True ∧ ((true = true) ∧ (true = true)))) _ (by kernel_rfl) ⟨⟨rfl, rfl, rfl, tt⟩, tt, rfl, rfl⟩)
  ·intro n9
   refine W.exit (thenQ_exit (thenQ_exit (blockQ_hit ?_)))
   refine thenQ_normal ?_
   refine W.K cok tab72 hnt [] [4] (⟨[(4, .b false)], [], [999]⟩)
    (True ∧ True) (by kernel_rfl)
    ⟨tt, tt⟩ ?_
   refine W.ret ?_
   exact endQ_ret (.b false) (by kernel_rfl) (@cast ((.bool false : Value) = .bool (hasInt l n)) _ (by kernel_rfl) (congrArg Value.bool (by unfold hasInt; symm; exact anyN_false (fun j hj => hA j (by omega)))))
theorem ent72 : Entr prog 72 := ⟨_, func72, rfl, by decide⟩
end Go.Proofs.Try
