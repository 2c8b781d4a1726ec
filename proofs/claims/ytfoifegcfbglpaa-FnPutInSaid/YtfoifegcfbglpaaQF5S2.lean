import Derived.Test.YtfoifegcfbglpaaQF5S0
import Derived.Test.YtfoifegcfbglpaaFrameB
import Derived.Test.YtfoifegcfbglpaaQF5S1
set_option linter.unusedSimpArgs false
set_option linter.unusedVariables false
namespace Go.Proofs.Try
open Go.Ab Go.RowKit Go.Shelf Go.Proofs Go.Lib
set_option maxHeartbeats 4000000 in
set_option maxRecDepth 100000 in
theorem ins_room (g gv i n : Nat) (l : List MarkD) (m : MarkD) (w : World) (c cv : Nat) (cur curv : Array Value) (R Rv : List Value) (hn : l.length = n) (hi : i < n) (hroom : n + 1 ≤ c) (hc63 : c ≤ maxLen) (hl : n ≤ 1000) (hvb : gv ≠ g)
  (hg : w.heap[g]? = some (.cells cur 33 (0,0))) (hsz : cur.size = c * 4) (hR : cur.toList = flatV l ++ R) (hgv : w.heap[gv]? = some (.cells curv 33 (0,0))) (hRv : curv.toList = flatV [m] ++ Rv) :
  Calls prog 30 #[.slice (some ⟨g,0,none⟩) n c,.int .i64 i,.slice (some ⟨gv,0,none⟩) 1 cv] w (InsR w 33 (some g) (flatV (insM l i m)) n) := by
 have hm63 : maxLen = 9223372036854775807 := by decide
 have hc64 : c ≤ 9223372036854775807 := by omega
 have hz1 : ¬ ((1 : Int) = 0) := by omega
 have hz2 : ¬ ((i : Int) = (n : Int)) := by omega
 have hin : i ≤ n := by omega
 have hw1 : IntKind.i64.wrap ((i : Int) + (1 : Int)) = (i : Int) + (1 : Int) := by rw [IntKind.wrap_i64]; omega
 have hov : ∀ lb cb,(callFunc 52 #[.slice (some ⟨gv,0,none⟩) 1 cv,.slice (some ⟨g,(i + 1) * 4,none⟩) lb cb]).run prog w = .ok (.value (.bool false)) w := fun lb cb => by
  rw [run_callFunc_extern func52 (by kernel_rfl) (by kernel_rfl) (by kernel_rfl) (e := Extern.SlicesOverlaps.overlaps #[24,24] #[4]) (by kernel_rfl),
   Lib.run_overlaps_apart w 24 4 33 underlying24 4 sizeOf33 ⟨gv,0,none⟩ ⟨g,(i + 1) * 4,none⟩ 1 cv lb cb hvb 33 33 curv.size cur.size (by unfold World.shape?; simp [hgv]) (by unfold World.shape?; simp [hg]) (by rw [hsz]; omega) (by unfold World.frozen?; simp [hgv]) (by unfold World.frozen?; simp [hgv])]
  rfl
 have hRl : 4 ≤ R.length := by
  have := congrArg List.length hR
  rw [List.length_append,flatV_len,Array.length_toList,hsz] at this
  omega
 have hX1 : (flatV (l.take i)).length = i * 4 := by rw [flatV_len,List.length_take]; congr 1; omega
 have hX2 : (flatV (l.drop i)).length = (n - i) * 4 := by rw [flatV_len,List.length_drop,hn]
 have hcur : cur.toList = (flatV (l.take i) ++ flatV (l.drop i)) ++ R := by rw [hR,← flat_split]
 obtain ⟨Y,R',hc1,hY,hR'⟩ := ins_cells1 hX1 hX2 hi hRl hcur
 obtain ⟨cur1,hcur1⟩ : ∃ cur1 : Array Value,cur1 = (cur.toList.take ((i + 1) * 4) ++ flatV (l.drop i) ++ cur.toList.drop ((i + 1) * 4 + (flatV (l.drop i)).length)).toArray := ⟨_,rfl⟩
 have hcur1' : cur1.toList = flatV (l.take i) ++ Y ++ (flatV (l.drop i) ++ R') := by rw [hcur1,← hc1]
 obtain ⟨W1,hW1⟩ : ∃ W1,W1 = w.drew.setRow g cur1 := ⟨_,rfl⟩
 have hcell : ∀ (j : Nat) (v : Value),(flatV (l.drop i))[j]? = some v → w.drew.cell? ((⟨g,i * 4,none⟩ : Addr).add j) = some v := fun j v hj => by
  rw [Addr.add_lit]
  unfold World.cell?
  simp only [World.drew,hg]
  rw [if_neg (by simp),← Array.getElem?_toList,hcur,List.append_assoc,List.getElem?_append_right (by omega),hX1,show i * 4 + j - i * 4 = j by omega,List.getElem?_append_left (List.getElem?_eq_some_iff.1 hj).1]
  exact hj
 have hcp1 : ∀ ty dc sc dl sl,Nat.min sl dl = n - i → (Builtin.copy_ #[24,24] ty #[.slice (some ⟨g,(i + 1) * 4,none⟩) dl dc,.slice (some ⟨g,i * 4,none⟩) sl sc]).run prog w.drew = .ok (goInt (Nat.min sl dl)) W1 := fun ty dc sc dl sl hmin => by
  rw [hW1,hcur1]
  exact run_copy_at w.drew 24 24 ty 33 _ g ((i + 1) * 4) dl dc ⟨g,i * 4,none⟩ sl sc cur 33 (flatV (l.drop i)) underlying24 rfl hg (by rw [hmin,hX2]; rfl) hcell (by have := congrArg List.length hcur; simp only [List.length_append,Array.length_toList] at this; omega) flatV_one
 have h1g : W1.heap[g]? = some (.cells cur1 33 (0,0)) := by rw [hW1]; exact row_g (w := w.drew) hg
 have h1v : W1.heap[gv]? = some (.cells curv 33 (0,0)) := by rw [hW1,row_b hvb]; exact hgv
 have hV4 : (flatV [m]).length = 4 := by rw [flatV_len]; rfl
 have hcellv : ∀ (j : Nat) (v : Value),(flatV [m])[j]? = some v → W1.cell? ((⟨gv,0,none⟩ : Addr).add j) = some v := fun j v hj => by
  rw [Addr.add_lit]
  unfold World.cell?
  simp only [h1v]
  rw [if_neg (by simp),← Array.getElem?_toList,hRv,Nat.zero_add,List.getElem?_append_left (List.getElem?_eq_some_iff.1 hj).1]
  exact hj
 obtain ⟨cur2,hcur2⟩ : ∃ cur2 : Array Value,cur2 = (cur1.toList.take (i * 4) ++ flatV [m] ++ cur1.toList.drop (i * 4 + (flatV [m]).length)).toArray := ⟨_,rfl⟩
 have hcur2' : cur2.toList = flatV (insM l i m) ++ R' := by
  rw [hcur2,ins_cells2 hX1 hY hV4 hcur1']
  show flatV (l.take i) ++ flatV [m] ++ (flatV (l.drop i) ++ R') = _
  rw [← List.append_assoc,flat_ins]; rfl
 have hs1 : cur1.size = c * 4 := by
  have := congrArg List.length hcur1'
  simp only [List.length_append,Array.length_toList] at this
  rw [this,← hsz]
  have h9 := hR'
  simp only [Array.length_toList] at h9
  omega
 have hs2 : cur2.size = c * 4 := by
  have := congrArg List.length hcur2'
  rw [Array.length_toList,List.length_append,flatV_len,insM_len (by omega)] at this
  have h9 := hR'
  simp only [Array.length_toList] at h9
  omega
 have hcp2 : ∀ ty dc dl,Nat.min 1 dl = 1 → (Builtin.copy_ #[24,24] ty #[.slice (some ⟨g,i * 4,none⟩) dl dc,.slice (some ⟨gv,0,none⟩) 1 cv]).run prog W1 = .ok (goInt (Nat.min 1 dl)) (W1.setRow g cur2) := fun ty dc dl hmin => by
  rw [hcur2]
  exact run_copy_at W1 24 24 ty 33 _ g (i * 4) dl dc ⟨gv,0,none⟩ 1 cv cur1 33 (flatV [m]) underlying24 rfl h1g (by rw [hmin,hV4]; rfl) hcellv (by rw [hV4,hs1]; omega) flatV_one
 have hfin : InsR w 33 (some g) (flatV (insM l i m)) n (.returned (.slice (some ⟨g,0,none⟩) (n + 1) c)) (W1.setRow g cur2) := by
  refine ⟨g,c,cur2,rfl,row_g h1g,⟨R',hcur2'⟩,hroom,hc63,hs2,by rw [hW1]; rfl,by rw [hW1]; rfl,by rw [hW1]; rfl,by rw [row_size,hW1,row_size]; exact Nat.le_refl _,fun b hb hne => ?_,.inl rfl⟩
  have hbg : b ≠ g := fun e => hne (by rw [e])
  rw [row_b hbg,hW1,row_b hbg]; rfl
 have hm1 : Nat.min (n + 1 - i) (n - i) = n - i := by simp only [Nat.min_def]; split <;> omega
 have hm2 : Nat.min 1 (n + 1 - i) = 1 := by simp only [Nat.min_def]; split <;> omega
 have hb1 : (0 : Int) ≤ (i : Int) + (1 : Int) := by omega
 have htn : ((i : Int) + (1 : Int)).toNat = i + 1 := by omega
 have hb2 : ¬ (c = i + 1) := by omega
 have hb3 : (i : Int) ≤ (n : Int) + (1 : Int) := by omega
 have hb4 : ¬ (c = i) := by omega
 clear hcur1 hcur2 hW1 hcellv hcell hc1 hR'
 go_enter func30,ntmps30
 go_wp2_with (simp only [hov])
 go_region_law (refine step_copy_runI rfl _ _ 24 24 rfl _ _ (by simp [Act.eval,Act.put]) (by simp [Act.eval,Act.put]) (hcp1 _ _ _ _ _ hm1) ?_)
 go_wp2_with (at_builtin; refine wpList_copy_runI _ rfl _ _ 24 24 rfl _ _ rfl rfl (hcp2 _ _ _ hm2) ?_)
 go_ret
 exact hfin
set_option maxHeartbeats 4000000 in
set_option maxRecDepth 100000 in
theorem ins_end (g gv n : Nat) (l : List MarkD) (m : MarkD) (w : World) (c cv : Nat) (cur curv : Array Value) (R Rv : List Value) (hn : l.length = n) (hroom : n + 1 ≤ c) (hc63 : c ≤ maxLen) (hl : n ≤ 1000) (hvb : gv ≠ g)
  (hg : w.heap[g]? = some (.cells cur 33 (0,0))) (hsz : cur.size = c * 4) (hR : cur.toList = flatV l ++ R) (hgv : w.heap[gv]? = some (.cells curv 33 (0,0))) (hRv : curv.toList = flatV [m] ++ Rv) :
  Calls prog 30 #[.slice (some ⟨g,0,none⟩) n c,.int .i64 n,.slice (some ⟨gv,0,none⟩) 1 cv] w (InsR w 33 (some g) (flatV (insM l n m)) n) := by
 have hm63 : maxLen = 9223372036854775807 := by decide
 have hc64 : c ≤ 9223372036854775807 := by omega
 have hz1 : ¬ ((1 : Int) = 0) := by omega
 have hX : (flatV l).length = n * 4 := by rw [flatV_len,hn]
 have hV4 : (flatV [m]).length = 4 := by rw [flatV_len]; rfl
 have hRl : 4 ≤ R.length := by
  have := congrArg List.length hR
  rw [List.length_append,hX,Array.length_toList,hsz] at this
  omega
 have hcellv : ∀ (j : Nat) (v : Value),(flatV [m])[j]? = some v → w.cell? ((⟨gv,0,none⟩ : Addr).add j) = some v := fun j v hj => by
  rw [Addr.add_lit]
  unfold World.cell?
  simp only [hgv]
  rw [if_neg (by simp),← Array.getElem?_toList,hRv,Nat.zero_add,List.getElem?_append_left (List.getElem?_eq_some_iff.1 hj).1]
  exact hj
 have hsrc : Src prog 4 24 (.slice (some ⟨gv,0,none⟩) 1 cv) 1 (flatV [m]) w := Src.ofSlice w underlying24 ⟨gv,0,none⟩ 1 cv (flatV [m]) hV4 hcellv flatV_one
 obtain ⟨cur2,hcur2⟩ : ∃ cur2 : Array Value,cur2 = (cur.toList.take (n * 4) ++ flatV [m] ++ cur.toList.drop (n * 4 + (flatV [m]).length)).toArray := ⟨_,rfl⟩
 have hcur2' : cur2.toList = flatV (insM l n m) ++ R.drop 4 := by
  rw [hcur2]
  show cur.toList.take (n * 4) ++ flatV [m] ++ cur.toList.drop (n * 4 + (flatV [m]).length) = _
  have e1 : cur.toList.take (n * 4) = flatV l := by rw [hR,← hX]; simp
  have e2 : cur.toList.drop (n * 4 + (flatV [m]).length) = R.drop 4 := by rw [hR,hV4,← hX,List.drop_length_add_append]
  rw [e1,e2]
  unfold insM
  rw [show l.take n = l from List.take_of_length_le (by omega),show l.drop n = [] from List.drop_eq_nil_of_le (by omega),flatV_app]
 have hs2 : cur2.size = c * 4 := by
  have h1 := congrArg List.length hcur2'
  have h2 := congrArg List.length hR
  rw [Array.length_toList,List.length_append,flatV_len,insM_len (by omega),List.length_drop] at h1
  rw [Array.length_toList,List.length_append,hX] at h2
  omega
 have hrun : ∀ ty,(Builtin.append_ #[24,24] ty #[.slice (some ⟨g,0,none⟩) n c,.slice (some ⟨gv,0,none⟩) 1 cv]).run prog w = .ok (.slice (some ⟨g,0,none⟩) (n + 1) c) (w.setRow g cur2) := fun ty => by
  rw [hcur2]
  exact run_append_row w 24 24 ty 33 _ underlying24 rfl g n c _ 1 (flatV [m]) hsrc hroom cur 33 hg (by rw [hV4,hsz]; show n * 4 + 4 ≤ c * 4; omega)
 have hfin : InsR w 33 (some g) (flatV (insM l n m)) n (.returned (.slice (some ⟨g,0,none⟩) (n + 1) c)) (w.setRow g cur2) := by
  refine ⟨g,c,cur2,rfl,row_g hg,⟨_,hcur2'⟩,hroom,hc63,hs2,rfl,rfl,rfl,by rw [row_size]; exact Nat.le_refl _,fun b hb hne => row_b (fun e => hne (by rw [e])),.inl rfl⟩
 clear hcur2 hsrc hcellv
 go_enter func30,ntmps30
 go_wp2_with (at_builtin; refine Lib.wpList_append_run _ rfl _ _ _ _ rfl _ _ rfl rfl _ _ (hrun _) ?_)
 go_ret
 exact hfin
set_option maxHeartbeats 4000000 in
set_option maxRecDepth 100000 in
theorem ins_end_grow (base : Option Addr) (go : Option Nat) (gv n : Nat) (l : List MarkD) (m : MarkD) (w : World) (c cv : Nat) (curv : Array Value) (Rv : List Value) (hn : l.length = n) (hnc : n ≤ c) (hroom : c < n + 1) (hl : n ≤ 1000) (hnil : base = none → n = 0 ∧ c = 0) (hsp : ∀ a,base = some a → a.off = 0 ∧ a.spot = none)
  (hold : (Builtin.firstCells 4 n (.slice base n c)).run prog w.drew = .ok (flatV l).toArray w.drew) (hgv : w.heap[gv]? = some (.cells curv 33 (0,0))) (hRv : curv.toList = flatV [m] ++ Rv) :
  Calls prog 30 #[.slice base n c,.int .i64 n,.slice (some ⟨gv,0,none⟩) 1 cv] w (InsR w 33 go (flatV (insM l n m)) n) := by
 have hm63 : maxLen = 9223372036854775807 := by decide
 have hz1 : ¬ ((1 : Int) = 0) := by omega
 have hX : (flatV l).length = n * 4 := by rw [flatV_len,hn]
 have hV4 : (flatV [m]).length = 4 := by rw [flatV_len]; rfl
 have hcellv : ∀ (j : Nat) (v : Value),(flatV [m])[j]? = some v → w.cell? ((⟨gv,0,none⟩ : Addr).add j) = some v := fun j v hj => by
  rw [Addr.add_lit]
  unfold World.cell?
  simp only [hgv]
  rw [if_neg (by simp),← Array.getElem?_toList,hRv,Nat.zero_add,List.getElem?_append_left (List.getElem?_eq_some_iff.1 hj).1]
  exact hj
 have hsrc : Src prog 4 24 (.slice (some ⟨gv,0,none⟩) 1 cv) 1 (flatV [m]) w := Src.ofSlice w underlying24 ⟨gv,0,none⟩ 1 cv (flatV [m]) hV4 hcellv flatV_one
 obtain ⟨G,hG⟩ : ∃ G,G = grownCap w (n + 1) c 33 := ⟨_,rfl⟩
 have hG1 : n + 1 ≤ G := by rw [hG]; exact grownCap_ge w _ _ _
 have hG2 : G ≤ maxLen := by rw [hG]; exact grownCap_le_maxLen w _ _ _ (by omega)
 obtain ⟨cur2,hcur2⟩ : ∃ cur2 : Array Value,cur2 = ((flatV l ++ flatV [m]).toArray ++ Builtin.zeroCells (Value.agg #[.int .i64 0,.int .i64 0,.int .i64 0,.bool false]).cells (G - (n + 1))) := ⟨_,rfl⟩
 have hcur2' : ∃ R,cur2.toList = flatV (insM l n m) ++ R := ⟨(Builtin.zeroCells (Value.agg #[.int .i64 0,.int .i64 0,.int .i64 0,.bool false]).cells (G - (n + 1))).toList,by
  rw [hcur2,Array.toList_append]
  show (flatV l ++ flatV [m]) ++ _ = _
  unfold insM
  rw [show l.take n = l from List.take_of_length_le (by omega),show l.drop n = [] from List.drop_eq_nil_of_le (by omega),flatV_app]⟩
 have hs2 : cur2.size = G * 4 := by
  rw [hcur2,Array.size_append,size_zeroCells]
  show (flatV l ++ flatV [m]).length + (G - (n + 1)) * 4 = G * 4
  rw [List.length_append,hX,hV4]; omega
 have hrun : ∀ ty,(Builtin.append_ #[24,24] ty #[.slice base n c,.slice (some ⟨gv,0,none⟩) 1 cv]).run prog w = .ok (.slice (some ⟨w.heap.size,0,none⟩) (n + 1) G) (w.drew.alloc (.cells cur2 33)) := fun ty => by
  rw [hcur2,hG]
  exact run_append_grow_src w 24 24 ty 33 _ _ underlying24 rfl rfl base n c (flatV l) hold _ 1 (flatV [m]) hsrc hroom (by omega) (growslice_fits hroom (by show (n + 1) * 32 ≤ _; omega))
 have hfin : InsR w 33 go (flatV (insM l n m)) n (.returned (.slice (some ⟨w.heap.size,0,none⟩) (n + 1) G)) (w.drew.alloc (.cells cur2 33)) := by
  refine ⟨w.heap.size,G,cur2,rfl,alloc_new,hcur2',hG1,hG2,hs2,rfl,rfl,rfl,by rw [alloc_size]; omega,fun b hb _ => alloc_old hb,.inr (Nat.le_refl _)⟩
 have hcn : c = n := by omega
 clear hcur2 hsrc hcellv hold hG
 subst hcn
 cases base with
 | none =>
  have h0 := (hnil rfl).1
  subst h0
  go_enter func30,ntmps30
  go_wp2_with (at_builtin; refine Lib.wpList_append_run _ rfl _ _ _ _ rfl _ _ rfl rfl _ _ (hrun _) ?_)
  go_ret
  exact hfin
 | some a =>
  obtain ⟨ab,ao,asp⟩ := a
  obtain ⟨rfl,rfl⟩ := hsp _ rfl
  go_enter func30,ntmps30
  go_wp2_with (at_builtin; refine Lib.wpList_append_run _ rfl _ _ _ _ rfl _ _ rfl rfl _ _ (hrun _) ?_)
  all_goals (go_ret; exact hfin)
set_option maxHeartbeats 4000000 in
set_option maxRecDepth 100000 in
theorem ins_grow (g gv i n : Nat) (l : List MarkD) (m : MarkD) (w : World) (c cv : Nat) (cur curv : Array Value) (R Rv : List Value) (hn : l.length = n) (hi : i < n) (hnc : n ≤ c) (hroom : c < n + 1) (hl : n ≤ 1000) (hvb : gv ≠ g)
  (hg : w.heap[g]? = some (.cells cur 33 (0,0))) (hR : cur.toList = flatV l ++ R) (hgv : w.heap[gv]? = some (.cells curv 33 (0,0))) (hRv : curv.toList = flatV [m] ++ Rv) :
  Calls prog 30 #[.slice (some ⟨g,0,none⟩) n c,.int .i64 i,.slice (some ⟨gv,0,none⟩) 1 cv] w (InsR w 33 (some g) (flatV (insM l i m)) n) := by
 have hm63 : maxLen = 9223372036854775807 := by decide
 have hz1 : ¬ ((1 : Int) = 0) := by omega
 have hz2 : ¬ ((i : Int) = (n : Int)) := by omega
 have hz3 : (c : Int) < (n : Int) + (1 : Int) := by omega
 have hin : i ≤ n := by omega
 have hgw := heap_lt hg
 have hvw := heap_lt hgv
 have hkk : (n : Int) + (1 : Int) - (i : Int) = ((n + 1 - i : Nat) : Int) := by omega
 have hik : i + (n + 1 - i) = n + 1 := by omega
 have hX1 : (flatV (l.take i)).length = i * 4 := by rw [flatV_len,List.length_take]; congr 1; omega
 have hX2 : (flatV (l.drop i)).length = (n - i) * 4 := by rw [flatV_len,List.length_drop,hn]
 have hV4 : (flatV [m]).length = 4 := by rw [flatV_len]; rfl
 have hcur : cur.toList = flatV (l.take i) ++ (flatV (l.drop i) ++ R) := by rw [hR,flat_split l i,List.append_assoc]
 have hold : (Builtin.firstCells 4 i (.slice (some ⟨g,0,none⟩) i c)).run prog w.drew = .ok (flatV (l.take i)).toArray w.drew :=
  run_firstCells_some w.drew 4 i ⟨g,0,none⟩ i c (flatV (l.take i)) hX1 (fun j v hj => by
   rw [Addr.add_lit]
   unfold World.cell?
   simp only [World.drew,hg]
   rw [if_neg (by simp),← Array.getElem?_toList,hcur,Nat.zero_add,List.getElem?_append_left (List.getElem?_eq_some_iff.1 hj).1]
   exact hj)
 obtain ⟨G,hG⟩ : ∃ G,G = grownCap w (n + 1) c 33 := ⟨_,rfl⟩
 have hG1 : n + 1 ≤ G := by rw [hG]; exact grownCap_ge w _ _ _
 have hG2 : G ≤ maxLen := by rw [hG]; exact grownCap_le_maxLen w _ _ _ (by omega)
 obtain ⟨ROW,hROW⟩ : ∃ ROW : Array Value,ROW = (flatV (l.take i)).toArray ++ Builtin.zeroCells (Value.agg #[.int .i64 0,.int .i64 0,.int .i64 0,.bool false]).cells (n + 1 - i) ++ Builtin.zeroCells (Value.agg #[.int .i64 0,.int .i64 0,.int .i64 0,.bool false]).cells (G - (n + 1)) := ⟨_,rfl⟩
 have hrz : ∀ ty,(Builtin.append_ #[24,3] ty #[.slice (some ⟨g,0,none⟩) i c,.int .i64 ((n : Int) + (1 : Int) - (i : Int))]).run prog w = .ok (.slice (some ⟨w.heap.size,0,none⟩) (n + 1) G) (w.drew.alloc (.cells ROW 33)) := fun ty => by
  have h := Lib.run_append_grow_zeros w 24 3 ty 33 _ _ .i64 .i64 underlying24 underlying3 rfl rfl (some ⟨g,0,none⟩) i c (flatV (l.take i)) hold (n + 1 - i) (by omega) (by decide) (by omega) (by omega) (by show (n + 1 - i) * 32 ≤ _; omega) (by rw [hik]; exact growslice_fits hroom (by show (n + 1) * 32 ≤ _; omega))
  rw [hik] at h
  rw [hkk,hROW,hG]
  exact h
 have hRs : ROW.size = G * 4 := by
  rw [hROW,Array.size_append,Array.size_append,size_zeroCells,size_zeroCells]
  show (flatV (l.take i)).length + (n + 1 - i) * 4 + (G - (n + 1)) * 4 = G * 4
  rw [hX1]; omega
 have hRl : ∃ Z,ROW.toList = flatV (l.take i) ++ Z ∧ Z.length + i * 4 = G * 4 := by
  refine ⟨(Builtin.zeroCells (Value.agg #[.int .i64 0,.int .i64 0,.int .i64 0,.bool false]).cells (n + 1 - i) ++ Builtin.zeroCells (Value.agg #[.int .i64 0,.int .i64 0,.int .i64 0,.bool false]).cells (G - (n + 1))).toList,by rw [hROW]; simp [Array.toList_append],?_⟩
  rw [Array.length_toList,Array.size_append,size_zeroCells,size_zeroCells]
  show (n + 1 - i) * 4 + (G - (n + 1)) * 4 + i * 4 = G * 4
  omega
 obtain ⟨Z,hZ,hZl⟩ := hRl
 obtain ⟨W1,hW1⟩ : ∃ W1,W1 = w.drew.alloc (.cells ROW 33) := ⟨_,rfl⟩
 rw [← hW1] at hrz
 have h1n : W1.heap[w.heap.size]? = some (.cells ROW 33 (0,0)) := by rw [hW1]; exact alloc_new
 have h1g : W1.heap[g]? = some (.cells cur 33 (0,0)) := by rw [hW1,alloc_old hgw]; exact hg
 have h1v : W1.heap[gv]? = some (.cells curv 33 (0,0)) := by rw [hW1,alloc_old hvw]; exact hgv
 -- the first copy
 obtain ⟨cur1,hcur1⟩ : ∃ cur1 : Array Value,cur1 = (ROW.toList.take (i * 4) ++ flatV [m] ++ ROW.toList.drop (i * 4 + (flatV [m]).length)).toArray := ⟨_,rfl⟩
 have hcur1' : cur1.toList = (flatV (l.take i) ++ flatV [m]) ++ Z.drop 4 := by
  rw [hcur1]
  show ROW.toList.take (i * 4) ++ flatV [m] ++ ROW.toList.drop (i * 4 + (flatV [m]).length) = _
  have e1 : ROW.toList.take (i * 4) = flatV (l.take i) := by rw [hZ,← hX1]; simp
  have e2 : ROW.toList.drop (i * 4 + (flatV [m]).length) = Z.drop 4 := by rw [hZ,hV4,← hX1,List.drop_length_add_append]
  rw [e1,e2]
 have hcpA : ∀ (W : World),W.heap = W1.heap → ∀ ty dc dl,Nat.min 1 dl = 1 → (Builtin.copy_ #[24,24] ty #[.slice (some ⟨w.heap.size,i * 4,none⟩) dl dc,.slice (some ⟨gv,0,none⟩) 1 cv]).run prog W = .ok (goInt (Nat.min 1 dl)) (W.setRow w.heap.size cur1) := fun W hW ty dc dl hmin => by
  rw [hcur1]
  exact run_copy_at W 24 24 ty 33 _ w.heap.size (i * 4) dl dc ⟨gv,0,none⟩ 1 cv ROW 33 (flatV [m]) underlying24 rfl (by rw [hW]; exact h1n) (by rw [hmin,hV4]; rfl) (fun j v hj => by
   rw [Addr.add_lit]
   unfold World.cell?
   simp only [hW,h1v]
   rw [if_neg (by simp),← Array.getElem?_toList,hRv,Nat.zero_add,List.getElem?_append_left (List.getElem?_eq_some_iff.1 hj).1]
   exact hj) (by rw [hV4,hRs]; omega) flatV_one
 obtain ⟨H2,hH2⟩ : ∃ H2,H2 = (W1.setRow w.heap.size cur1).heap := ⟨_,rfl⟩
 have hset : ∀ W : World,W.heap = W1.heap → (W.setRow w.heap.size cur1).heap = H2 := fun W hW => by rw [hH2]; unfold World.setRow; rw [hW]
 have h2n : H2[w.heap.size]? = some (.cells cur1 33 (0,0)) := by rw [hH2]; exact row_g h1n
 have h2g : H2[g]? = some (.cells cur 33 (0,0)) := by rw [hH2,row_b (by omega)]; exact h1g
 have h2b : ∀ b,b < w.heap.size → H2[b]? = w.heap[b]? := fun b hb => by rw [hH2,row_b (by omega),hW1,alloc_old hb]
 have h2s : H2.size = w.heap.size + 1 := by rw [hH2,row_size,hW1,alloc_size]
 obtain ⟨cur2,hcur2⟩ : ∃ cur2 : Array Value,cur2 = (cur1.toList.take ((i + 1) * 4) ++ flatV (l.drop i) ++ cur1.toList.drop ((i + 1) * 4 + (flatV (l.drop i)).length)).toArray := ⟨_,rfl⟩
 have hX1V : (flatV (l.take i) ++ flatV [m]).length = (i + 1) * 4 := by rw [List.length_append,hX1,hV4]; omega
 have hs1 : cur1.size = G * 4 := by
  have := congrArg List.length hcur1'
  rw [Array.length_toList,List.length_append,hX1V,List.length_drop] at this
  omega
 have hcur2' : ∃ R,cur2.toList = flatV (insM l i m) ++ R := by
  refine ⟨cur1.toList.drop ((i + 1) * 4 + (flatV (l.drop i)).length),?_⟩
  rw [hcur2]
  show cur1.toList.take ((i + 1) * 4) ++ flatV (l.drop i) ++ _ = _
  have e1 : cur1.toList.take ((i + 1) * 4) = flatV (l.take i) ++ flatV [m] := by rw [hcur1',← hX1V,List.take_append,List.take_of_length_le (Nat.le_refl _),Nat.sub_self,List.take_zero,List.append_nil]
  rw [e1,flat_ins]; rfl
 have hs2 : cur2.size = G * 4 := by
  rw [hcur2]
  show (cur1.toList.take ((i + 1) * 4) ++ flatV (l.drop i) ++ cur1.toList.drop ((i + 1) * 4 + (flatV (l.drop i)).length)).length = _
  simp only [List.length_append,List.length_take,List.length_drop,Array.length_toList,hs1,hX2]
  omega
 have hcpB : ∀ (W : World),W.heap = H2 → ∀ ty dc sc dl sl,Nat.min sl dl = n - i → (Builtin.copy_ #[24,24] ty #[.slice (some ⟨w.heap.size,(i + 1) * 4,none⟩) dl dc,.slice (some ⟨g,i * 4,none⟩) sl sc]).run prog W = .ok (goInt (Nat.min sl dl)) (W.setRow w.heap.size cur2) := fun W hW ty dc sc dl sl hmin => by
  rw [hcur2]
  exact run_copy_at W 24 24 ty 33 _ w.heap.size ((i + 1) * 4) dl dc ⟨g,i * 4,none⟩ sl sc cur1 33 (flatV (l.drop i)) underlying24 rfl (by rw [hW]; exact h2n) (by rw [hmin,hX2]; rfl) (fun j v hj => by
   rw [Addr.add_lit]
   unfold World.cell?
   simp only [hW,h2g]
   rw [if_neg (by simp),← Array.getElem?_toList,hcur,List.getElem?_append_right (by omega),hX1,show i * 4 + j - i * 4 = j by omega,List.getElem?_append_left (List.getElem?_eq_some_iff.1 hj).1]
   exact hj) (by rw [hX2,hs1]; omega) flatV_one
 have hfin : ∀ W : World,W.heap = H2 → W.os = w.os → W.tape = w.tape → W.output = w.output → InsR w 33 (some g) (flatV (insM l i m)) n (.returned (.slice (some ⟨w.heap.size,0,none⟩) (n + 1) G)) (W.setRow w.heap.size cur2) := fun W hW e1 e2 e3 => by
  refine ⟨w.heap.size,G,cur2,rfl,row_g (by rw [hW]; exact h2n),hcur2',hG1,hG2,hs2,e1,e2,e3,by rw [row_size,hW,h2s]; omega,fun b hb hne => by rw [row_b (by omega),hW]; exact h2b b hb,.inr (Nat.le_refl _)⟩
 have hm1 : Nat.min 1 (n + 1 - i) = 1 := by simp only [Nat.min_def]; split <;> omega
 have hm2 : Nat.min (n - i) (n - i) = n - i := by simp only [Nat.min_def]; split <;> omega
 have hw1 : IntKind.i64.wrap ((i : Int) + (1 : Int)) = (i : Int) + (1 : Int) := by rw [IntKind.wrap_i64]; omega
 have hb1 : (0 : Int) ≤ (i : Int) + (1 : Int) := by omega
 have htn : ((i : Int) + (1 : Int)).toNat = i + 1 := by omega
 have hb3 : (i : Int) ≤ (n : Int) := by omega
 have hGi : ¬ (G = i) := by omega
 have hGim : ¬ (G = i + 1) := by omega
 have hci : ¬ (c = i) := by omega
 clear hkk hik hold hROW hG hRs hcur1 hcur2 hZ hZl hcur1' hs1
 go_enter func30,ntmps30
 go_wp2_with (first
  | (at_builtin; refine Lib.wpList_append_run _ rfl _ _ _ _ rfl _ _ rfl rfl _ _ (hrz _) ?_)
  | (at_builtin; refine wpList_copy_runI _ rfl _ _ 24 24 rfl _ _ rfl rfl (hcpA _ rfl _ _ _ hm1) ?_))
 have g0 : ((w.alloc (.cells ROW 33)).drew.setRow w.heap.size cur1).heap = H2 := hset _ (by rw [hW1]; rfl)
 have g1 : ((w.alloc (.cells ROW 33)).drew.setRow w.heap.size cur1).os = w.os := rfl
 have g2 : ((w.alloc (.cells ROW 33)).drew.setRow w.heap.size cur1).tape = w.tape := rfl
 have g3 : ((w.alloc (.cells ROW 33)).drew.setRow w.heap.size cur1).output = w.output := rfl
 clear hcpA hset h1n h1g h1v hW1 hrz hH2
 generalize (w.alloc (.cells ROW 33)).drew.setRow w.heap.size cur1 = W2 at g0 g1 g2 g3 ⊢
 have hcpB2 := hcpB W2.drew g0
 have hfin2 := hfin W2.drew g0 g1 g2 g3
 clear hcpB hfin g0 g1 g2 g3 h2n h2g h2b h2s
 go_region_law (refine step_copy_runI rfl _ _ 24 24 rfl _ _ (by simp [Act.eval,Act.put]) (by simp [Act.eval,Act.put]) (hcpB2 _ _ _ _ _ hm2) ?_)
 go_wp2
 go_ret
 exact hfin2
theorem hok30 : ∀ (l : List MarkD) (i : Int) (m : MarkD),((0 ≤ i ∧ i ≤ ((List.length l : Nat) : Int)) ∧ (List.length l ≤ 1000)) →
  HOK prog 30 [] [.own 911 l.length,.i i,.own 912 1] [(911,⟨33,.row (.marks l)⟩),(912,⟨33,.row (.marks [m])⟩)] [911,912] (fun r s1 u1 => r = (.own 914 (List.length (insM l (Int.toNat i) m))) ∧ s1 = [(914,⟨33,.row (.marks (insM l (Int.toNat i) m))⟩)] ∧ u1 = [914]) := by
 rintro l i m ⟨⟨hi0,hi1⟩,hl⟩ w T β vals hT hdom hloc hinj hargs
 obtain ⟨k,rfl⟩ : ∃ k : Nat,i = ((k : Nat) : Int) := ⟨i.toNat,by omega⟩
 have hk : k ≤ l.length := by omega
 have l1 := hloc 911 _ rfl
 have l2 := hloc 912 _ rfl
 simp only [LocOK,CellsOK] at l1 l2
 match vals,hargs with
 | [y0,y1,y2],h =>
  simp only [RepL,Rep,OwnRep] at h
  obtain ⟨h0,rfl,h2,_⟩ := h
  rcases l2 with ⟨_,hz⟩ | ⟨gv,cv,curv,bv,hcv,hlv,hcapv,hszv,hrv⟩
  ·simp [Dat.len] at hz
  rcases h2 with ⟨e1,_⟩ | ⟨gv',cv',e1,_,rfl⟩
  ·rw [bv] at e1; cases e1
  rw [bv] at e1
  simp only [Option.some.injEq,Bl.blk.injEq] at e1
  obtain ⟨rfl,rfl⟩ := e1
  obtain ⟨Rv,hRv⟩ := row_flat hrv (by have h9 : curv.size = cv * 4 := hszv; have h8 : 1 ≤ cv := hlv; simp only [List.length_cons,List.length_nil]; omega)
  rcases l1 with ⟨b1,hz⟩ | ⟨g,c,cur,b1,hc,hlen,hcap,hsz,hr⟩
  ·have hl0 : l.length = 0 := hz
   rcases h0 with ⟨_,e2,rfl⟩ | ⟨g',c',e1,_⟩
   ·have hk0 : k = 0 := by omega
    subst hk0
    have hnil : l = [] := List.length_eq_zero_iff.1 hl0
    subst hnil
    exact (ins_end_grow none none gv 0 [] m w 0 cv curv Rv rfl (Nat.le_refl _) (by omega) (by omega) (fun _ => ⟨rfl,rfl⟩) (fun a h => by cases h) (run_firstCells_none w.drew 4 0 0 0) hcv hRv).mono fun e w' h => ins_post h rfl (fun b h => by cases h)
   ·rw [b1] at e1; cases e1
  ·rcases h0 with ⟨e1,_⟩ | ⟨g',c',e1,_,rfl⟩
   ·rw [b1] at e1; cases e1
   rw [b1] at e1
   simp only [Option.some.injEq,Bl.blk.injEq] at e1
   obtain ⟨rfl,rfl⟩ := e1
   have hlen' : l.length ≤ c := hlen
   have hsz' : cur.size = c * 4 := hsz
   obtain ⟨R,hR⟩ := row_flat hr (by omega)
   have hne : gv ≠ g := fun e => by
    subst e
    have := hinj 911 912 _ _ gv c cv rfl rfl b1 bv
    omega
   have hlive : ∀ b,some g = some b → Live β (lk [(911,(⟨33,.row (.marks l)⟩ : LB)),(912,⟨33,.row (.marks [m])⟩)]) b := fun b hb => by
    cases hb
    exact ⟨911,_,c,rfl,b1⟩
   have hcl : (insM l k m).length = l.length + 1 := insM_len hk
   by_cases hkl : k < l.length
   ·by_cases hroom : l.length + 1 ≤ c
    ·exact (ins_room g gv k l.length l m w c cv cur curv R Rv rfl hkl hroom hcap hl hne hc hsz' hR hcv hRv).mono fun e w' h => ins_post h hcl hlive
    ·exact (ins_grow g gv k l.length l m w c cv cur curv R Rv rfl hkl hlen' (by omega) hl hne hc hR hcv hRv).mono fun e w' h => ins_post h hcl hlive
   ·have hke : k = l.length := by omega
    subst hke
    by_cases hroom : l.length + 1 ≤ c
    ·exact (ins_end g gv l.length l m w c cv cur curv R Rv rfl hroom hcap hl hne hc hsz' hR hcv hRv).mono fun e w' h => ins_post h hcl hlive
    ·refine (ins_end_grow (some ⟨g,0,none⟩) (some g) gv l.length l m w c cv curv Rv rfl hlen' (by omega) hl (fun h => by cases h) (fun a h => by cases h; exact ⟨rfl,rfl⟩) ?_ hcv hRv).mono fun e w' h => ins_post h hcl hlive
     exact run_firstCells_some w.drew 4 l.length ⟨g,0,none⟩ l.length c (flatV l) (flatV_len l) (fun j v hj => by
      rw [Addr.add_lit]
      unfold World.cell?
      simp only [World.drew,hc]
      rw [if_neg (by simp),← Array.getElem?_toList,hR,Nat.zero_add,List.getElem?_append_left (List.getElem?_eq_some_iff.1 hj).1]
      exact hj)
theorem ent30 : Entr prog 30 := ⟨_,func30,rfl,by decide⟩
end Go.Proofs.Try

set_option linter.unusedSimpArgs false
set_option linter.unusedVariables false
namespace Go.Proofs.Try
open Go.Ab Go.RowKit
abbrev T31y : Tab := lk [(13,fs13)]
theorem tab31y : TabOK prog T31y := (TabOK.cons ok13 ent13 TabOK.nil)
theorem ent31y : Entr prog 31 := ⟨_,func31,rfl,by decide⟩
set_option maxRecDepth 100000 in
set_option maxHeartbeats 1000000 in
theorem hok31y : ∀ (cu : List Int) (cd : List Int) (cv : Int) (ct : Int) (cp : Int) (cm : List MarkD),((validCopy (⟨cu,cd,cv,ct,cp,cm⟩ : CopyD) = true)) → HOK prog 31 [911,912,913] [.agg [.own 911 cu.length,.own 912 cd.length,.i cv,.i ct,.i cp,.own 913 cm.length]] [(911,⟨3,.row (.ints cu)⟩),(912,⟨3,.row (.ints cd)⟩),(913,⟨33,.row (.marks cm)⟩)] [911,912,913] (fun r s1 u1 => r = (.tup [.agg [.own 911 cu.length,.own 912 cd.length,.i cv,.i ct,.i cp,.own 913 cm.length],.b true]) ∧ s1 = ([(911,⟨3,.row (.ints cu)⟩),(912,⟨3,.row (.ints cd)⟩),(913,⟨33,.row (.marks cm)⟩)]) ∧ u1 = ([911,912,913])) := by
 intro cu cd cv ct cp cm hpre
 have hV := hpre
 refine HOK.of cok func31 rfl rfl rfl ?_
 intro F hnt0
 have hnt : F.nt = 9 := hnt0.trans ntmps31
 refine W.to (⟨[(0,.agg [.own 911 cu.length,.own 912 cd.length,.i cv,.i ct,.i cp,.own 913 cm.length])],[(911,⟨3,.row (.ints cu)⟩),(912,⟨3,.row (.ints cd)⟩),(913,⟨33,.row (.marks cm)⟩)],[911,912,913]⟩) rfl ?_
 refine Kk cok tab31y hnt [] [1,2] (⟨[(1,.ptr 1 0),(2,.ptr 2 0)],[(1,⟨26,.fix [.own 911 cu.length,.own 912 cd.length,.i cv,.i ct,.i cp,.own 913 cm.length]⟩),(2,⟨26,.fix [.v (.slice none 0 0),.v (.slice none 0 0),.i (0 : Int),.i (0 : Int),.i (0 : Int),.v (.slice none 0 0)]⟩),(911,⟨3,.row (.ints cu)⟩),(912,⟨3,.row (.ints cd)⟩),(913,⟨33,.row (.marks cm)⟩)],[2,1,911,912,913]⟩)
  (True ∧ True ∧ True ∧ True)
  ⟨tt,tt,tt,tt⟩ ?_
 refine W.seq ?_
 refine Kk cok tab31y hnt [] [1,2,6] (⟨[(1,.ptr 1 0),(2,.ptr 2 0),(6,.b (!(validCopy ⟨cu,cd,cv,ct,cp,cm⟩)))],[(1,⟨26,.fix [.own 911 cu.length,.own 912 cd.length,.i cv,.i ct,.i cp,.own 913 cm.length]⟩),(2,⟨26,.fix [.v (.slice none 0 0),.v (.slice none 0 0),.i (0 : Int),.i (0 : Int),.i (0 : Int),.v (.slice none 0 0)]⟩),(911,⟨3,.row (.ints cu)⟩),(912,⟨3,.row (.ints cd)⟩),(913,⟨33,.row (.marks cm)⟩)],[2,1,911,912,913]⟩)
  (True ∧ (True ∧ ((True ∧ (True ∧ (cu.length = cu.length)) ∧ (True ∧ (cd.length = cd.length)) ∧ True ∧ True ∧ True ∧ (True ∧ (cm.length = cm.length)) ∧ True) ∧ True) ∧ True) ∧ True ∧ True)
  ⟨tt,⟨tt,⟨⟨tt,⟨tt,rfl⟩,⟨tt,rfl⟩,tt,tt,tt,⟨tt,rfl⟩,tt⟩,tt⟩,tt⟩,tt,tt⟩ ?_
 refine W.if' (!(validCopy ⟨cu,cd,cv,ct,cp,cm⟩)) (.b (!(validCopy ⟨cu,cd,cv,ct,cp,cm⟩))) (by kernel_rfl) rfl trivial ?_ ?_
 ·intro h6
  exact (show False from (by rw [hV] at h6; cases h6)).elim
 ·intro n6
  refine W.skip (thenQ_normal ?_)
  refine Kk cok tab31y hnt [] [2,3] (⟨[(2,.ptr 2 0),(3,.b true)],[(1,⟨26,.fix [.own 911 cu.length,.own 912 cd.length,.i cv,.i ct,.i cp,.own 913 cm.length]⟩),(2,⟨26,.fix [.own 911 cu.length,.own 912 cd.length,.i cv,.i ct,.i cp,.own 913 cm.length]⟩),(911,⟨3,.row (.ints cu)⟩),(912,⟨3,.row (.ints cd)⟩),(913,⟨33,.row (.marks cm)⟩)],[2,1,911,912,913]⟩)
   (True ∧ (True ∧ True) ∧ True ∧ True)
   ⟨tt,⟨tt,tt⟩,tt,tt⟩ ?_
  refine W.ret ?_
  exact endH_ret (.tup [.agg [.own 911 cu.length,.own 912 cd.length,.i cv,.i ct,.i cp,.own 913 cm.length],.b true]) [(911,⟨3,.row (.ints cu)⟩),(912,⟨3,.row (.ints cd)⟩),(913,⟨33,.row (.marks cm)⟩)] [911,912,913] ⟨rfl,rfl,rfl⟩ [(911,911),(912,912),(913,913)] (.tup [.agg [.own 911 cu.length,.own 912 cd.length,.i cv,.i ct,.i cp,.own 913 cm.length],.b true]) (by kernel_rfl) (@cast ((((((911 : Nat) = 911) ∧ (cu.length = cu.length) ∧ ((911 : Nat) ∈ ([911,912,913] : List Nat))) ∧ (((912 : Nat) = 912) ∧ (cd.length = cd.length) ∧ ((912 : Nat) ∈ ([911,912,913] : List Nat))) ∧ (Si cv) ∧ (Si ct) ∧ (Si cp) ∧ (((913 : Nat) = 913) ∧ (cm.length = cm.length) ∧ ((913 : Nat) ∈ ([911,912,913] : List Nat))) ∧ True) ∧ (Sv (.bool true)) ∧ True) ∧ ((((3 : Nat) = 3) ∧ (Sd (.ints cu)) ∧ ((911 : Nat) ∈ ([911,912,913] : List Nat))) ∧ (((3 : Nat) = 3) ∧ (Sd (.ints cd)) ∧ ((912 : Nat) ∈ ([911,912,913] : List Nat))) ∧ (((33 : Nat) = 33) ∧ (Sd (.marks cm)) ∧ ((913 : Nat) ∈ ([911,912,913] : List Nat))) ∧ True) ∧ (true = true) ∧ (true = true)) _ (by kernel_rfl) ⟨⟨⟨⟨rfl,rfl,(by decide)⟩,⟨rfl,rfl,(by decide)⟩,rfl,rfl,rfl,⟨rfl,rfl,(by decide)⟩,tt⟩,rfl,tt⟩,⟨⟨rfl,rfl,(by decide)⟩,⟨rfl,rfl,(by decide)⟩,⟨rfl,rfl,(by decide)⟩,tt⟩,rfl,rfl⟩)
end Go.Proofs.Try

set_option linter.unusedSimpArgs false
set_option linter.unusedVariables false
namespace Go.Proofs.Try
open Go.Ab Go.RowKit
abbrev T31n : Tab := lk [(13,fs13)]
theorem tab31n : TabOK prog T31n := (TabOK.cons ok13 ent13 TabOK.nil)
theorem ent31n : Entr prog 31 := ⟨_,func31,rfl,by decide⟩
set_option maxRecDepth 100000 in
set_option maxHeartbeats 1000000 in
theorem hok31n : ∀ (cu : List Int) (cd : List Int) (cv : Int) (ct : Int) (cp : Int) (cm : List MarkD),((validCopy (⟨cu,cd,cv,ct,cp,cm⟩ : CopyD) = false)) → HOK prog 31 [911,912,913] [.agg [.own 911 cu.length,.own 912 cd.length,.i cv,.i ct,.i cp,.own 913 cm.length]] [(911,⟨3,.row (.ints cu)⟩),(912,⟨3,.row (.ints cd)⟩),(913,⟨33,.row (.marks cm)⟩)] [911,912,913] (fun r s1 u1 => r = (.tup [.agg [.v (.slice none 0 0),.v (.slice none 0 0),.i (0 : Int),.i (0 : Int),.i (0 : Int),.v (.slice none 0 0)],.b false]) ∧ s1 = ([(911,⟨3,.row (.ints cu)⟩),(912,⟨3,.row (.ints cd)⟩),(913,⟨33,.row (.marks cm)⟩)]) ∧ u1 = ([911,912,913])) := by
 intro cu cd cv ct cp cm hpre
 have hV := hpre
 refine HOK.of cok func31 rfl rfl rfl ?_
 intro F hnt0
 have hnt : F.nt = 9 := hnt0.trans ntmps31
 refine W.to (⟨[(0,.agg [.own 911 cu.length,.own 912 cd.length,.i cv,.i ct,.i cp,.own 913 cm.length])],[(911,⟨3,.row (.ints cu)⟩),(912,⟨3,.row (.ints cd)⟩),(913,⟨33,.row (.marks cm)⟩)],[911,912,913]⟩) rfl ?_
 refine Kk cok tab31n hnt [] [1,2] (⟨[(1,.ptr 1 0),(2,.ptr 2 0)],[(1,⟨26,.fix [.own 911 cu.length,.own 912 cd.length,.i cv,.i ct,.i cp,.own 913 cm.length]⟩),(2,⟨26,.fix [.v (.slice none 0 0),.v (.slice none 0 0),.i (0 : Int),.i (0 : Int),.i (0 : Int),.v (.slice none 0 0)]⟩),(911,⟨3,.row (.ints cu)⟩),(912,⟨3,.row (.ints cd)⟩),(913,⟨33,.row (.marks cm)⟩)],[2,1,911,912,913]⟩)
  (True ∧ True ∧ True ∧ True)
  ⟨tt,tt,tt,tt⟩ ?_
 refine W.seq ?_
 refine Kk cok tab31n hnt [] [1,2,6] (⟨[(1,.ptr 1 0),(2,.ptr 2 0),(6,.b (!(validCopy ⟨cu,cd,cv,ct,cp,cm⟩)))],[(1,⟨26,.fix [.own 911 cu.length,.own 912 cd.length,.i cv,.i ct,.i cp,.own 913 cm.length]⟩),(2,⟨26,.fix [.v (.slice none 0 0),.v (.slice none 0 0),.i (0 : Int),.i (0 : Int),.i (0 : Int),.v (.slice none 0 0)]⟩),(911,⟨3,.row (.ints cu)⟩),(912,⟨3,.row (.ints cd)⟩),(913,⟨33,.row (.marks cm)⟩)],[2,1,911,912,913]⟩)
  (True ∧ (True ∧ ((True ∧ (True ∧ (cu.length = cu.length)) ∧ (True ∧ (cd.length = cd.length)) ∧ True ∧ True ∧ True ∧ (True ∧ (cm.length = cm.length)) ∧ True) ∧ True) ∧ True) ∧ True ∧ True)
  ⟨tt,⟨tt,⟨⟨tt,⟨tt,rfl⟩,⟨tt,rfl⟩,tt,tt,tt,⟨tt,rfl⟩,tt⟩,tt⟩,tt⟩,tt,tt⟩ ?_
 refine W.if' (!(validCopy ⟨cu,cd,cv,ct,cp,cm⟩)) (.b (!(validCopy ⟨cu,cd,cv,ct,cp,cm⟩))) (by kernel_rfl) rfl trivial ?_ ?_
 ·intro h6
  refine Kk cok tab31n hnt [] [2,3] (⟨[(2,.ptr 2 0),(3,.b false)],[(1,⟨26,.fix [.own 911 cu.length,.own 912 cd.length,.i cv,.i ct,.i cp,.own 913 cm.length]⟩),(2,⟨26,.fix [.v (.slice none 0 0),.v (.slice none 0 0),.i (0 : Int),.i (0 : Int),.i (0 : Int),.v (.slice none 0 0)]⟩),(911,⟨3,.row (.ints cu)⟩),(912,⟨3,.row (.ints cd)⟩),(913,⟨33,.row (.marks cm)⟩)],[2,1,911,912,913]⟩)
   (True ∧ (True ∧ True) ∧ True ∧ True)
   ⟨tt,⟨tt,tt⟩,tt,tt⟩ ?_
  refine W.ret (thenQ_ret ?_)
  exact endH_ret (.tup [.agg [.v (.slice none 0 0),.v (.slice none 0 0),.i (0 : Int),.i (0 : Int),.i (0 : Int),.v (.slice none 0 0)],.b false]) [(911,⟨3,.row (.ints cu)⟩),(912,⟨3,.row (.ints cd)⟩),(913,⟨33,.row (.marks cm)⟩)] [911,912,913] ⟨rfl,rfl,rfl⟩ [(911,911),(912,912),(913,913)] (.tup [.agg [.v (.slice none 0 0),.v (.slice none 0 0),.i (0 : Int),.i (0 : Int),.i (0 : Int),.v (.slice none 0 0)],.b false]) (by kernel_rfl) (@cast (((((Value.slice none 0 0 : Value) = .slice none 0 0) ∧ ((Value.slice none 0 0 : Value) = .slice none 0 0) ∧ (Si (0 : Int)) ∧ (Si (0 : Int)) ∧ (Si (0 : Int)) ∧ ((Value.slice none 0 0 : Value) = .slice none 0 0) ∧ True) ∧ (Sv (.bool false)) ∧ True) ∧ ((((3 : Nat) = 3) ∧ (Sd (.ints cu)) ∧ ((911 : Nat) ∈ ([911,912,913] : List Nat))) ∧ (((3 : Nat) = 3) ∧ (Sd (.ints cd)) ∧ ((912 : Nat) ∈ ([911,912,913] : List Nat))) ∧ (((33 : Nat) = 33) ∧ (Sd (.marks cm)) ∧ ((913 : Nat) ∈ ([911,912,913] : List Nat))) ∧ True) ∧ (true = true) ∧ (true = true)) _ (by kernel_rfl) ⟨⟨⟨rfl,rfl,rfl,rfl,rfl,rfl,tt⟩,rfl,tt⟩,⟨⟨rfl,rfl,(by decide)⟩,⟨rfl,rfl,(by decide)⟩,⟨rfl,rfl,(by decide)⟩,tt⟩,rfl,rfl⟩)
 ·intro n6
  exact (show False from (by rw [hV] at n6; cases n6)).elim
end Go.Proofs.Try
