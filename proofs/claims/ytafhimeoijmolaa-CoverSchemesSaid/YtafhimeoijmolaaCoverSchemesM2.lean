/- Texts of this claim, one behind the other: G83, G32, G33, G34, G35, G36, G37, R9, X129, X28, X31. -/
import Derived.Deep.RegionWith
import Derived.Deep.QuietTactic
import Derived.BigQuiet
import Derived.Test.YtafhimeoijmolaaCoverSchemesM1
/- Written by wip/genprint.py: Lean functions with the Go functions' answers, and their contracts. -/
namespace Go.Proofs.Ytafhimeoijmolaa.G
open Go.RowKit Go.Proofs.YtafhimeoijmolaaW.PrintWords Go.Proofs.YtafhimeoijmolaaW.PrintLast Go.Proofs.YtafhimeoijmolaaW.PrintMore
attribute [local go_sem] max2_int min2_int max_two min_two max_three min_three max_four min_four   -- for this text's walks alone
set_option linter.unusedVariables false
set_option linter.unusedSimpArgs false

/-! ### headendref03_LabelsOf: function 83 -/
mutual
def headendref03_LabelsOf.l0 : Nat → List (S47) → List Int → Int → Option ((List (S47)))
  | 0, _, _, _ => none
  | k + 1, x5, x6, x7 => if x7 < (x6.length : Int) then (if 0 ≤ x7 then (if x5.length < 8796093022208 then (headendref03_LabelsOf.l0 k (x5 ++ [(⟨rd x6 x7, 0⟩ : S47)]) x6 (wrap64 (x7 + 1))) else (none)) else (none)) else (some x5)
def headendref03_LabelsOf.l1 : Nat → List (S47) → List Int → Int → Int → Int → Int → Int → Int → Int → Option ((List (S47)))
  | 0, _, _, _, _, _, _, _, _, _ => none
  | k + 1, x5, x6, x8, x334000, x334001, x334002, x334003, x334004, x334005 => if x8 < (x6.length : Int) then (headendref03_LabelsOf.l2 k x5 x6 x8 (wrap64 (x8 + 1)) x334000 x334001 x334002 x334003 x334004 x334005) else (some x5)
def headendref03_LabelsOf.l2 : Nat → List (S47) → List Int → Int → Int → Int → Int → Int → Int → Int → Int → Option ((List (S47)))
  | 0, _, _, _, _, _, _, _, _, _, _ => none
  | k + 1, x5, x6, x8, x9, x334000, x334001, x334002, x334003, x334004, x334005 => if x9 < (x6.length : Int) then (if 0 ≤ x8 then (if x8 < (x6.length : Int) then (if 0 ≤ x9 then ((headendref03_IsSubset.f k x334000 x334001 x334002 x334003 x334004 x334005 (rd x6 x8) (Go.bits .xor .i64 (rd x6 x9) 1)).bind fun t348 => (if t348 = true then (if x5.length < 8796093022208 then (headendref03_LabelsOf.l2 k (x5 ++ [(⟨rd x6 x8, Go.bits .xor .i64 (rd x6 x9) 1⟩ : S47)]) x6 x8 (wrap64 (x9 + 1)) x334000 x334001 x334002 x334003 x334004 x334005) else (none)) else (headendref03_LabelsOf.l2 k x5 x6 x8 (wrap64 (x9 + 1)) x334000 x334001 x334002 x334003 x334004 x334005))) else (none)) else (none)) else (none)) else (headendref03_LabelsOf.l1 k x5 x6 (wrap64 (x8 + 1)) x334000 x334001 x334002 x334003 x334004 x334005)
end
def headendref03_LabelsOf.f (k : Nat) (a0_0 : Int) (a0_1 : Int) (a0_2 : Int) (a0_3 : Int) (a0_4 : Int) (a0_5 : Int) (a1 : Int) : Option ((List (S47))) := (headendref03_Receivers.f k a0_1).bind fun t334 => ((headendref03_Path.f k 1 (wrap64 (t334 + a1))).bind fun t335 => (if a0_0 = 1 then (headendref03_LabelsOf.l0 k ([] : List (S47)) t335 0) else (if ([] : List (S47)).length < 8796093022208 then (headendref03_LabelsOf.l1 k (([] : List (S47)) ++ [(⟨1, 0⟩ : S47)]) t335 0 a0_0 a0_1 a0_2 a0_3 a0_4 a0_5) else (none))))
theorem headendref03_LabelsOf.mono_l : ∀ k, (∀ y0 y1 y2, LeO (headendref03_LabelsOf.l0 k y0 y1 y2) (headendref03_LabelsOf.l0 (k + 1) y0 y1 y2)) ∧ (∀ y0 y1 y2 y3 y4 y5 y6 y7 y8, LeO (headendref03_LabelsOf.l1 k y0 y1 y2 y3 y4 y5 y6 y7 y8) (headendref03_LabelsOf.l1 (k + 1) y0 y1 y2 y3 y4 y5 y6 y7 y8)) ∧ (∀ y0 y1 y2 y3 y4 y5 y6 y7 y8 y9, LeO (headendref03_LabelsOf.l2 k y0 y1 y2 y3 y4 y5 y6 y7 y8 y9) (headendref03_LabelsOf.l2 (k + 1) y0 y1 y2 y3 y4 y5 y6 y7 y8 y9))
  | 0 => ⟨fun _ _ _ r h => by simp [headendref03_LabelsOf.l0] at h, fun _ _ _ _ _ _ _ _ _ r h => by simp [headendref03_LabelsOf.l1] at h, fun _ _ _ _ _ _ _ _ _ _ r h => by simp [headendref03_LabelsOf.l2] at h⟩
  | k + 1 => by
    obtain ⟨ih0, ih1, ih2⟩ := headendref03_LabelsOf.mono_l k
    refine ⟨?_, ?_, ?_⟩
    · intro y0 y1 y2
      unfold headendref03_LabelsOf.l0
      repeat' first
      | (with_reducible exact ih0 _ _ _)
      | (with_reducible exact ih1 _ _ _ _ _ _ _ _ _)
      | (with_reducible exact ih2 _ _ _ _ _ _ _ _ _ _)
      | (with_reducible exact headendref03_IsSubset.mono _ _ _ _ _ _ _ _ _)
      | (with_reducible exact headendref03_Path.mono _ _ _)
      | (with_reducible exact headendref03_Receivers.mono _ _)
      | (with_reducible exact LeO.refl _)
      | (with_reducible exact LeO.none _)
      | (with_reducible refine LeO.ite ?_ ?_)
      | (with_reducible refine LeO.bind ?_ (fun _ => ?_))
      | exact ih0 _ _ _
      | exact ih1 _ _ _ _ _ _ _ _ _
      | exact ih2 _ _ _ _ _ _ _ _ _ _
      | exact headendref03_IsSubset.mono _ _ _ _ _ _ _ _ _
      | exact headendref03_Path.mono _ _ _
      | exact headendref03_Receivers.mono _ _
      | exact LeO.none _
      | refine LeO.ite ?_ ?_
      | refine LeO.bind ?_ (fun _ => ?_)
    · intro y0 y1 y2 y3 y4 y5 y6 y7 y8
      unfold headendref03_LabelsOf.l1
      repeat' first
      | (with_reducible exact ih0 _ _ _)
      | (with_reducible exact ih1 _ _ _ _ _ _ _ _ _)
      | (with_reducible exact ih2 _ _ _ _ _ _ _ _ _ _)
      | (with_reducible exact headendref03_IsSubset.mono _ _ _ _ _ _ _ _ _)
      | (with_reducible exact headendref03_Path.mono _ _ _)
      | (with_reducible exact headendref03_Receivers.mono _ _)
      | (with_reducible exact LeO.refl _)
      | (with_reducible exact LeO.none _)
      | (with_reducible refine LeO.ite ?_ ?_)
      | (with_reducible refine LeO.bind ?_ (fun _ => ?_))
      | exact ih0 _ _ _
      | exact ih1 _ _ _ _ _ _ _ _ _
      | exact ih2 _ _ _ _ _ _ _ _ _ _
      | exact headendref03_IsSubset.mono _ _ _ _ _ _ _ _ _
      | exact headendref03_Path.mono _ _ _
      | exact headendref03_Receivers.mono _ _
      | exact LeO.none _
      | refine LeO.ite ?_ ?_
      | refine LeO.bind ?_ (fun _ => ?_)
    · intro y0 y1 y2 y3 y4 y5 y6 y7 y8 y9
      unfold headendref03_LabelsOf.l2
      repeat' first
      | (with_reducible exact ih0 _ _ _)
      | (with_reducible exact ih1 _ _ _ _ _ _ _ _ _)
      | (with_reducible exact ih2 _ _ _ _ _ _ _ _ _ _)
      | (with_reducible exact headendref03_IsSubset.mono _ _ _ _ _ _ _ _ _)
      | (with_reducible exact headendref03_Path.mono _ _ _)
      | (with_reducible exact headendref03_Receivers.mono _ _)
      | (with_reducible exact LeO.refl _)
      | (with_reducible exact LeO.none _)
      | (with_reducible refine LeO.ite ?_ ?_)
      | (with_reducible refine LeO.bind ?_ (fun _ => ?_))
      | exact ih0 _ _ _
      | exact ih1 _ _ _ _ _ _ _ _ _
      | exact ih2 _ _ _ _ _ _ _ _ _ _
      | exact headendref03_IsSubset.mono _ _ _ _ _ _ _ _ _
      | exact headendref03_Path.mono _ _ _
      | exact headendref03_Receivers.mono _ _
      | exact LeO.none _
      | refine LeO.ite ?_ ?_
      | refine LeO.bind ?_ (fun _ => ?_)
theorem headendref03_LabelsOf.mono : ∀ a0 a1 a2 a3 a4 a5 a6 k, LeO (headendref03_LabelsOf.f k a0 a1 a2 a3 a4 a5 a6) (headendref03_LabelsOf.f (k + 1) a0 a1 a2 a3 a4 a5 a6) := by
  intro a0 a1 a2 a3 a4 a5 a6 k
  obtain ⟨ih0, ih1, ih2⟩ := headendref03_LabelsOf.mono_l k
  unfold headendref03_LabelsOf.f
  repeat' first
      | (with_reducible exact ih0 _ _ _)
      | (with_reducible exact ih1 _ _ _ _ _ _ _ _ _)
      | (with_reducible exact ih2 _ _ _ _ _ _ _ _ _ _)
      | (with_reducible exact headendref03_IsSubset.mono _ _ _ _ _ _ _ _ _)
      | (with_reducible exact headendref03_Path.mono _ _ _)
      | (with_reducible exact headendref03_Receivers.mono _ _)
      | (with_reducible exact LeO.refl _)
      | (with_reducible exact LeO.none _)
      | (with_reducible refine LeO.ite ?_ ?_)
      | (with_reducible refine LeO.bind ?_ (fun _ => ?_))
      | exact ih0 _ _ _
      | exact ih1 _ _ _ _ _ _ _ _ _
      | exact ih2 _ _ _ _ _ _ _ _ _ _
      | exact headendref03_IsSubset.mono _ _ _ _ _ _ _ _ _
      | exact headendref03_Path.mono _ _ _
      | exact headendref03_Receivers.mono _ _
      | exact LeO.none _
      | refine LeO.ite ?_ ?_
      | refine LeO.bind ?_ (fun _ => ?_)
def headendref03_LabelsOf.T16 : Bool × List (List Nat × List Nat) := (true, [([], []), ([], []), ([0, 1], [0, 1]), ([2], [2]), ([], []), ([], []), ([4, 5], [4, 5]), ([6], [6]), ([7], [7]), ([3, 8], [3, 8]), ([], []), ([10, 9, 0, 1, 2, 3, 4, 5, 6, 7, 8, 9, 10], [9, 10])])
def headendref03_LabelsOf.B16 : List Nat := [0, 0, 3, 7, 0, 0, 48, 112, 240, 511, 0, 2047]
theorem headendref03_LabelsOf.tab16 : rtab .any (opsOf Try.f83 16) = headendref03_LabelsOf.T16 := by kernel_rfl
theorem headendref03_LabelsOf.bits16 : waitsOk headendref03_LabelsOf.T16.2 headendref03_LabelsOf.B16 = true := by kernel_rfl
set_option maxHeartbeats 8000000 in
set_option maxRecDepth 100000 in
theorem headendref03_LabelsOf.calls (k : Nat) (a0_0 : Int) (a0_1 : Int) (a0_2 : Int) (a0_3 : Int) (a0_4 : Int) (a0_5 : Int) (a1 : Int) (r : List (S47)) (w : World) (h : headendref03_LabelsOf.f k a0_0 a0_1 a0_2 a0_3 a0_4 a0_5 a1 = some r) :
    Calls Try.prog 83 #[.agg #[.int .u8 a0_0, .int .i64 a0_1, .int .i64 a0_2, .int .u64 a0_3, .int .u64 a0_4, .int .u64 a0_5], .int .i64 a1] w fun e w' => ∃ v0_ : Value, e = .returned (v0_) ∧ Kd.R k47 47 w' w.heap.size (fun _ => True) v0_ r ∧ Below w.heap.size w w' := by
  have hu45 := Try.underlying45
  have hu47 := Try.underlying47
  have HB := Aside0.mk (Below.refl w.heap.size w)
  have H : ((headendref03_Receivers.f k a0_1).bind fun t334 => ((headendref03_Path.f k 1 (wrap64 (t334 + a1))).bind fun t335 => (if a0_0 = 1 then (headendref03_LabelsOf.l0 k ([] : List (S47)) t335 0) else (if ([] : List (S47)).length < 8796093022208 then (headendref03_LabelsOf.l1 k (([] : List (S47)) ++ [(⟨1, 0⟩ : S47)]) t335 0 a0_0 a0_1 a0_2 a0_3 a0_4 a0_5) else (none))))) = some r := h
  clear h
  replace H := Option.bind_eq_some_iff.mp H
  obtain ⟨t334, A30, H⟩ := H
  replace H : ((headendref03_Path.f k 1 (wrap64 (t334 + a1))).bind fun t335 => (if a0_0 = 1 then (headendref03_LabelsOf.l0 k ([] : List (S47)) t335 0) else (if ([] : List (S47)).length < 8796093022208 then (headendref03_LabelsOf.l1 k (([] : List (S47)) ++ [(⟨1, 0⟩ : S47)]) t335 0 a0_0 a0_1 a0_2 a0_3 a0_4 a0_5) else (none)))) = some r := H
  have A3 := Aside0.mk A30
  clear A30
  replace H := Option.bind_eq_some_iff.mp H
  obtain ⟨t335, A40, H⟩ := H
  replace H : (if a0_0 = 1 then (headendref03_LabelsOf.l0 k ([] : List (S47)) t335 0) else (if ([] : List (S47)).length < 8796093022208 then (headendref03_LabelsOf.l1 k (([] : List (S47)) ++ [(⟨1, 0⟩ : S47)]) t335 0 a0_0 a0_1 a0_2 a0_3 a0_4 a0_5) else (none))) = some r := H
  have A4 := Aside0.mk A40
  clear A40
  by_cases c5 : a0_0 = 1
  · rw [if_pos c5] at H
    have c5b0 : (a0_0 == 1) = true := beq_iff_eq.mpr c5
    have c5b1 : (a0_0 != 1) = false := bne_eq_false_iff_eq.mpr c5
    clear c5
    have H' := Aside0.mk H
    clear H
    go_enter Try.func83, Try.ntmps83
    go_wp2_with (first | ((with_reducible refine gate_dst (N := 2) rfl ?_); refine box_event ?hg (N := 2) ?hd (cs := #[.int .u8 a0_0, .int .i64 a0_1, .int .i64 a0_2, .int .u64 a0_3, .int .u64 a0_4, .int .u64 a0_5]) (t := 45) ?hr ?_; (case hd => rfl); (case hg => rfl); (case hr => first | (go_simp; done) | (go_simp; rfl)); intro gb333 hg w6 hbox hb; have n0_ := Aside0.mk (below_step (by repeat (first | (with_reducible first | exact HB.out | apply below_alloc | apply pw_below_drewN | apply below_drew1) | exact HB.out)) hb); have n1_ := Aside0.mk (hbox); have n2_ := Aside0.mk ((by rw [hg]; exact (below_size (by repeat (first | (with_reducible first | exact HB.out | apply below_alloc | apply pw_below_drewN | apply below_drew1) | exact HB.out))) : w.heap.size ≤ gb333)); have n3_ := Aside0.mk ((by rw [hg]; exact (below_size (by repeat (first | (with_reducible first | exact HB.out | apply below_alloc | apply pw_below_drewN | apply below_drew1) | exact HB.out))) : w.heap.size ≤ gb333)); clear HB; have HB := n0_; have BK333 := n1_; have GW333 := n2_; have GE333 := n3_; clear n0_ n1_ n2_ n3_; clear hb hbox hg; have hcz7_0 : w6.cell? ⟨gb333, 0, none⟩ = some (.int .u8 a0_0) := (blk_cell BK333.out 0).trans rfl; have hcz7_1 : w6.cell? ⟨gb333, 1, none⟩ = some (.int .i64 a0_1) := (blk_cell BK333.out 1).trans rfl; have hcz7_2 : w6.cell? ⟨gb333, 2, none⟩ = some (.int .i64 a0_2) := (blk_cell BK333.out 2).trans rfl; have hcz7_3 : w6.cell? ⟨gb333, 3, none⟩ = some (.int .u64 a0_3) := (blk_cell BK333.out 3).trans rfl; have hcz7_4 : w6.cell? ⟨gb333, 4, none⟩ = some (.int .u64 a0_4) := (blk_cell BK333.out 4).trans rfl; have hcz7_5 : w6.cell? ⟨gb333, 5, none⟩ = some (.int .u64 a0_5) := (blk_cell BK333.out 5).trans rfl; have hfz7_0 := blk_frozen BK333.out 0; have hfz7_1 := blk_frozen BK333.out 1; have hfz7_2 := blk_frozen BK333.out 2; have hfz7_3 := blk_frozen BK333.out 3; have hfz7_4 := blk_frozen BK333.out 4; have hfz7_5 := blk_frozen BK333.out 5) | ((with_reducible refine gate_callee (f := 118) rfl ?_); refine goesL_ (some 13) rfl rfl Try.func118 (by kernel_rfl) rfl #[.int .i64 a0_1] rfl (by (try simp only [List.map_toArray, List.map_cons, List.map_nil]); first | done | rfl | (simp only [List.length_drop, List.length_take]; rfl)) ?_; (with_reducible refine (headendref03_Receivers.calls k a0_1 t334 _ A3.out).mono ?_); rintro e w' ⟨rfl, ⟨nd, rfl⟩⟩; refine ⟨_, rfl, ?_⟩) | ((with_reducible refine gate_callee (f := 114) rfl ?_); refine goesL_ (some 16) rfl rfl Try.func114 (by kernel_rfl) rfl #[.int .i64 1, .int .i64 (wrap64 (t334 + a1))] rfl (by (try simp only [List.map_toArray, List.map_cons, List.map_nil]); first | done | rfl | (simp only [List.length_drop, List.length_take]; rfl)) ?_; (with_reducible refine (headendref03_Path.calls k 1 (wrap64 (t334 + a1)) t335 _ A4.out).mono ?_); rintro e w8 ⟨v336, rfl, ho0, hb⟩; refine ⟨_, rfl, ?_⟩; have n0_ := Aside0.mk (Kd.R_lower ho0 (below_size (by repeat (first | (with_reducible first | exact HB.out | apply below_alloc | apply pw_below_drewN | apply below_drew1 | refine below_set ?_ GE333.out) | exact HB.out)))); have n1_ := Aside0.mk (blk_below (g := gb333) (o := .cells #[.int .u8 a0_0, .int .i64 a0_1, .int .i64 a0_2, .int .u64 a0_3, .int .u64 a0_4, .int .u64 a0_5] 45 (0, 0)) (by (with_reducible repeat (first | refine blk_drewN ?_ _ | refine blk_drew ?_ | refine blk_alloc ?_ _)); exact BK333.out) hb); have n2_ := Aside0.mk (below_step (by repeat (first | (with_reducible first | exact HB.out | apply below_alloc | apply pw_below_drewN | apply below_drew1 | refine below_set ?_ GE333.out) | exact HB.out)) hb); clear BK333; clear HB; have HO337 := n0_; have BK333 := n1_; have HB := n2_; clear n0_ n1_ n2_; (try clear hb); (try clear hb2); (try clear hk); (try clear hi); (try clear ho0); have hcz9_0 : w8.cell? ⟨gb333, 0, none⟩ = some (.int .u8 a0_0) := (blk_cell BK333.out 0).trans rfl; have hcz9_1 : w8.cell? ⟨gb333, 1, none⟩ = some (.int .i64 a0_1) := (blk_cell BK333.out 1).trans rfl; have hcz9_2 : w8.cell? ⟨gb333, 2, none⟩ = some (.int .i64 a0_2) := (blk_cell BK333.out 2).trans rfl; have hcz9_3 : w8.cell? ⟨gb333, 3, none⟩ = some (.int .u64 a0_3) := (blk_cell BK333.out 3).trans rfl; have hcz9_4 : w8.cell? ⟨gb333, 4, none⟩ = some (.int .u64 a0_4) := (blk_cell BK333.out 4).trans rfl; have hcz9_5 : w8.cell? ⟨gb333, 5, none⟩ = some (.int .u64 a0_5) := (blk_cell BK333.out 5).trans rfl; have hfz9_0 := blk_frozen BK333.out 0; have hfz9_1 := blk_frozen BK333.out 1; have hfz9_2 := blk_frozen BK333.out 2; have hfz9_3 := blk_frozen BK333.out 3; have hfz9_4 := blk_frozen BK333.out 4; have hfz9_5 := blk_frozen BK333.out 5))
    go_loopg [5, 7] k (fun kq v5 v7 w' => ∃ (x5_1 : List (S47)) (x7_1 : Int), v7 = .int .i64 x7_1 ∧ Aside0 (headendref03_LabelsOf.l0 kq x5_1 t335 x7_1 = some r) ∧ Aside0 (kq ≤ k) ∧ Aside0 (Kd.R k47 47 w' w.heap.size (fun _ => True) v5 x5_1) ∧ Aside0 (Kd.R (Kd.int .i64) 3 w' w.heap.size (fun _ => True) v336 t335) ∧ Aside0 (w'.heap[gb333]? = some (.cells #[.int .u8 a0_0, .int .i64 a0_1, .int .i64 a0_2, .int .u64 a0_3, .int .u64 a0_4, .int .u64 a0_5] 45 (0, 0))) ∧ Aside0 (Below w.heap.size w w'))
    case atStart => exact ⟨(([] : List (S47))), (0), (by first | rfl | (simp; done) | (simp [*]; done)), H', ⟨Nat.le_refl _⟩, ⟨by first | exact Kd.R_nil _ _ _ _ _ | exact Kd.N_nil _ _ _ _ _ | exact Kd.V_nil _ _ _ _ _ | exact Kd.Q_nil _ _ _ _ _ | exact Kd.S_nil _ _ _ _ _⟩, ⟨by (with_reducible repeat (first | apply Kd.R_alloc | apply Kd.R_drewN | apply Kd.R_drew)); exact HO337.out⟩, ⟨by (with_reducible repeat (first | refine blk_drewN ?_ _ | refine blk_drew ?_ | refine blk_alloc ?_ _)); exact BK333.out⟩, ⟨by repeat (first | (with_reducible first | exact HB.out | apply below_alloc | apply pw_below_drewN | apply below_drew1 | refine below_set ?_ GE333.out) | exact HB.out)⟩⟩
    case round =>
      clear H'
      try clear c1
      try clear p2
      try clear c5
      try clear c5b0
      try clear c5b1
      try clear p6
      try clear c8
      try clear hcz7_0
      try clear hcz7_1
      try clear hcz7_2
      try clear hcz7_3
      try clear hcz7_4
      try clear hcz7_5
      try clear hcz9_0
      try clear hcz9_1
      try clear hcz9_2
      try clear hcz9_3
      try clear hcz9_4
      try clear hcz9_5
      try clear hfz7_0
      try clear hfz7_1
      try clear hfz7_2
      try clear hfz7_3
      try clear hfz7_4
      try clear hfz7_5
      try clear hfz9_0
      try clear hfz9_1
      try clear hfz9_2
      try clear hfz9_3
      try clear hfz9_4
      try clear hfz9_5
      obtain ⟨x5_1, x7_1, rfl, HA, HK1, HO_5, HO_6, BK333, HB⟩ := hrel
      cases gk with
      | zero => exact absurd HA.out (by simp [headendref03_LabelsOf.l0])
      | succ k1 =>
        have H := HA.out
        clear HA
        simp only [headendref03_LabelsOf.l0] at H
        by_cases c10 : x7_1 < (t335.length : Int)
        · rw [if_pos c10] at H
          have c10b0 : decide (x7_1 < (t335.length : Int)) = true := decide_eq_true c10
          clear c10
          by_cases c11 : 0 ≤ x7_1
          · rw [if_pos c11] at H
            have c11b0 : decide (0 ≤ x7_1) = true := decide_eq_true c11
            clear c11
            by_cases c12 : x5_1.length < 8796093022208
            · rw [if_pos c12] at H
              have LMc12 := Aside0.mk c12
              clear c12
              obtain ⟨y339, hy339⟩ : ∃ y_ : List (S47), y_ = (x5_1 ++ [(⟨rd t335 x7_1, 0⟩ : S47)]) := ⟨_, rfl⟩
              replace H : (headendref03_LabelsOf.l0 k1 y339 t335 (wrap64 (x7_1 + 1))) = some r := by first | (rw [hy339]; with_reducible exact H) | (have H2_ := (Option.bind_some _ _).symm.trans H; rw [hy339]; with_reducible exact H2_) | (have H2_ := (Option.bind_some _ _).symm.trans H; with_reducible exact H2_) | with_reducible exact H | (rw [hy339]; exact H) | exact H
              have Ny339 := Aside0.mk hy339
              clear hy339
              have H' := Aside0.mk H
              clear H
              obtain ⟨Ao13, co13, eo13⟩ := Kd.R_slice HO_6.out
              subst eo13
              have p338 : 0 ≤ (x7_1 : Int) := of_decide_eq_true (by first | (with_reducible assumption) | assumption)
              have q338 : x7_1 < (t335.length : Int) := of_decide_eq_true (by first | (with_reducible assumption) | assumption)
              obtain ⟨ad338, e338, hx338_0⟩ := Kd.at_int (Kd.R_reads' HO_6.out).2.2 x7_1 p338 q338
              cases e338
              replace p338 := eq_true p338
              replace q338 := eq_true q338
              go_wp2_with (first | ((with_reducible refine gate_builtin (b := .append) (xs := #[.tmp 26, .tmp 32]) rfl ?_); at_builtin; refine Kd.R_append k47 (w0 := w) w.heap.size rfl (.tmp 26) (.tmp 32) 48 47 (.agg #[(.int .i64 0), (.int .i64 0)]) 16 rfl Try.underlying48 info47 rfl (by decide) (by omega) u5 x5_1 (⟨rd t335 x7_1, 0⟩ : S47) [.int .i64 (rd t335 x7_1), .int .i64 0] (fun _ => True) (fun _ => False) rfl rfl ?aP (fun _ hk => hk.elim) ?aF ?aO ?aB ?aS ?aL ?_; (case aP => exact k47_mkM _ _ _ (⟨rd t335 x7_1, 0⟩ : S47)); (case aB => exact (by repeat (first | (with_reducible first | exact HB.out | apply below_alloc | apply pw_below_drewN | apply below_drew1 | refine below_set ?_ GE333.out) | exact HB.out))); (case aF => exact (fun _ _ => trivial)); (case aO => exact (by (with_reducible repeat (first | apply Kd.R_alloc | apply Kd.R_drewN | apply Kd.R_drew)); exact HO_5.out)); (case aS => exact (below_size (by repeat (first | (with_reducible first | exact HB.out | apply below_alloc | apply pw_below_drewN | apply below_drew1 | refine below_set ?_ GE333.out) | exact HB.out)))); (case aL => have := LMc12.out; omega); intro v340 w14 ho hb hg hat; rw [← Ny339.out] at ho; have n0_ := Aside0.mk (Kd.R_over' (by (with_reducible repeat (first | apply Kd.R_alloc | apply Kd.R_drewN | apply Kd.R_drew)); exact HO_6.out) (Kd.R_typed (by (with_reducible repeat (first | apply Kd.R_alloc | apply Kd.R_drewN | apply Kd.R_drew)); exact HO_5.out)) (by decide) hg); have n1_ := Aside0.mk (blk_grown (g := gb333) (o := .cells #[.int .u8 a0_0, .int .i64 a0_1, .int .i64 a0_2, .int .u64 a0_3, .int .u64 a0_4, .int .u64 a0_5] 45 (0, 0)) (by (with_reducible repeat (first | refine blk_drewN ?_ _ | refine blk_drew ?_ | refine blk_alloc ?_ _)); exact BK333.out) hg (Kd.R_ne HO_5.out BK333.out (by decide))); have n2_ := Aside0.mk (hb); have n3_ := Aside0.mk (ho); clear HO_6; clear BK333; clear HB; clear HO_5; have HO_6 := n0_; have BK333 := n1_; have HB := n2_; have HO341 := n3_; clear n0_ n1_ n2_ n3_; clear ho hb hg hat))
              go_roundg k1
              case measure => have := HK1.out; omega
              case rel => exact ⟨(y339), (wrap64 (x7_1 + 1)), (by first | rfl | (simp; done) | (simp [*]; done)), H', ⟨by have := HK1.out; omega⟩, ⟨by (with_reducible repeat (first | apply Kd.R_alloc | apply Kd.R_drewN | apply Kd.R_drew)); exact HO341.out⟩, ⟨by (with_reducible repeat (first | apply Kd.R_alloc | apply Kd.R_drewN | apply Kd.R_drew)); exact HO_6.out⟩, ⟨by (with_reducible repeat (first | refine blk_drewN ?_ _ | refine blk_drew ?_ | refine blk_alloc ?_ _)); exact BK333.out⟩, ⟨by repeat (first | (with_reducible first | exact HB.out | apply below_alloc | apply pw_below_drewN | apply below_drew1 | refine below_set ?_ GE333.out) | exact HB.out)⟩⟩
            · rw [if_neg c12] at H
              exact absurd H (by simp)
          · rw [if_neg c11] at H
            exact absurd H (by simp)
        · rw [if_neg c10] at H
          have c10b0 : decide (x7_1 < (t335.length : Int)) = false := decide_eq_false c10
          clear c10
          obtain rfl := Option.some.inj H
          obtain ⟨Ao15, co15, eo15⟩ := Kd.R_slice HO_6.out
          subst eo15
          go_wp2
          go_ret
          exact ⟨_, by first | rfl | (simp [errW_none, errW_some] <;> rfl) | (simp [*, errW_none, errW_some] <;> rfl), by (with_reducible repeat (first | apply Kd.R_alloc | apply Kd.R_drewN | apply Kd.R_drew)); exact HO_5.out, by repeat (first | (with_reducible first | exact HB.out | apply below_alloc | apply pw_below_drewN | apply below_drew1 | refine below_set ?_ GE333.out) | exact HB.out)⟩
  · rw [if_neg c5] at H
    have c5b0 : (a0_0 == 1) = false := beq_eq_false_iff_ne.mpr c5
    have c5b1 : (a0_0 != 1) = true := bne_iff_ne.mpr c5
    by_cases c16 : ([] : List (S47)).length < 8796093022208
    · rw [if_pos c16] at H
      have LMc16 := Aside0.mk c16
      clear c16
      obtain ⟨y342, hy342⟩ : ∃ y_ : List (S47), y_ = (([] : List (S47)) ++ [(⟨1, 0⟩ : S47)]) := ⟨_, rfl⟩
      replace H : (headendref03_LabelsOf.l1 k y342 t335 0 a0_0 a0_1 a0_2 a0_3 a0_4 a0_5) = some r := by first | (rw [hy342]; with_reducible exact H) | (have H2_ := (Option.bind_some _ _).symm.trans H; rw [hy342]; with_reducible exact H2_) | (have H2_ := (Option.bind_some _ _).symm.trans H; with_reducible exact H2_) | with_reducible exact H | (rw [hy342]; exact H) | exact H
      have Ny342 := Aside0.mk hy342
      clear hy342
      have H' := Aside0.mk H
      clear H
      go_enter Try.func83, Try.ntmps83
      go_wp2_with (first | ((with_reducible refine gate_dst (N := 2) rfl ?_); refine box_event ?hg (N := 2) ?hd (cs := #[.int .u8 a0_0, .int .i64 a0_1, .int .i64 a0_2, .int .u64 a0_3, .int .u64 a0_4, .int .u64 a0_5]) (t := 45) ?hr ?_; (case hd => rfl); (case hg => rfl); (case hr => first | (go_simp; done) | (go_simp; rfl)); intro gb333 hg w17 hbox hb; have n0_ := Aside0.mk (below_step (by repeat (first | (with_reducible first | exact HB.out | apply below_alloc | apply pw_below_drewN | apply below_drew1) | exact HB.out)) hb); have n1_ := Aside0.mk (hbox); have n2_ := Aside0.mk ((by rw [hg]; exact (below_size (by repeat (first | (with_reducible first | exact HB.out | apply below_alloc | apply pw_below_drewN | apply below_drew1) | exact HB.out))) : w.heap.size ≤ gb333)); have n3_ := Aside0.mk ((by rw [hg]; exact (below_size (by repeat (first | (with_reducible first | exact HB.out | apply below_alloc | apply pw_below_drewN | apply below_drew1) | exact HB.out))) : w.heap.size ≤ gb333)); clear HB; have HB := n0_; have BK333 := n1_; have GW333 := n2_; have GE333 := n3_; clear n0_ n1_ n2_ n3_; clear hb hbox hg; have hcz18_0 : w17.cell? ⟨gb333, 0, none⟩ = some (.int .u8 a0_0) := (blk_cell BK333.out 0).trans rfl; have hcz18_1 : w17.cell? ⟨gb333, 1, none⟩ = some (.int .i64 a0_1) := (blk_cell BK333.out 1).trans rfl; have hcz18_2 : w17.cell? ⟨gb333, 2, none⟩ = some (.int .i64 a0_2) := (blk_cell BK333.out 2).trans rfl; have hcz18_3 : w17.cell? ⟨gb333, 3, none⟩ = some (.int .u64 a0_3) := (blk_cell BK333.out 3).trans rfl; have hcz18_4 : w17.cell? ⟨gb333, 4, none⟩ = some (.int .u64 a0_4) := (blk_cell BK333.out 4).trans rfl; have hcz18_5 : w17.cell? ⟨gb333, 5, none⟩ = some (.int .u64 a0_5) := (blk_cell BK333.out 5).trans rfl; have hfz18_0 := blk_frozen BK333.out 0; have hfz18_1 := blk_frozen BK333.out 1; have hfz18_2 := blk_frozen BK333.out 2; have hfz18_3 := blk_frozen BK333.out 3; have hfz18_4 := blk_frozen BK333.out 4; have hfz18_5 := blk_frozen BK333.out 5) | ((with_reducible refine gate_callee (f := 118) rfl ?_); refine goesL_ (some 13) rfl rfl Try.func118 (by kernel_rfl) rfl #[.int .i64 a0_1] rfl (by (try simp only [List.map_toArray, List.map_cons, List.map_nil]); first | done | rfl | (simp only [List.length_drop, List.length_take]; rfl)) ?_; (with_reducible refine (headendref03_Receivers.calls k a0_1 t334 _ A3.out).mono ?_); rintro e w' ⟨rfl, ⟨nd, rfl⟩⟩; refine ⟨_, rfl, ?_⟩) | ((with_reducible refine gate_callee (f := 114) rfl ?_); refine goesL_ (some 16) rfl rfl Try.func114 (by kernel_rfl) rfl #[.int .i64 1, .int .i64 (wrap64 (t334 + a1))] rfl (by (try simp only [List.map_toArray, List.map_cons, List.map_nil]); first | done | rfl | (simp only [List.length_drop, List.length_take]; rfl)) ?_; (with_reducible refine (headendref03_Path.calls k 1 (wrap64 (t334 + a1)) t335 _ A4.out).mono ?_); rintro e w19 ⟨v336, rfl, ho0, hb⟩; refine ⟨_, rfl, ?_⟩; have n0_ := Aside0.mk (Kd.R_lower ho0 (below_size (by repeat (first | (with_reducible first | exact HB.out | apply below_alloc | apply pw_below_drewN | apply below_drew1 | refine below_set ?_ GE333.out) | exact HB.out)))); have n1_ := Aside0.mk (blk_below (g := gb333) (o := .cells #[.int .u8 a0_0, .int .i64 a0_1, .int .i64 a0_2, .int .u64 a0_3, .int .u64 a0_4, .int .u64 a0_5] 45 (0, 0)) (by (with_reducible repeat (first | refine blk_drewN ?_ _ | refine blk_drew ?_ | refine blk_alloc ?_ _)); exact BK333.out) hb); have n2_ := Aside0.mk (below_step (by repeat (first | (with_reducible first | exact HB.out | apply below_alloc | apply pw_below_drewN | apply below_drew1 | refine below_set ?_ GE333.out) | exact HB.out)) hb); clear BK333; clear HB; have HO337 := n0_; have BK333 := n1_; have HB := n2_; clear n0_ n1_ n2_; (try clear hb); (try clear hb2); (try clear hk); (try clear hi); (try clear ho0); have hcz20_0 : w19.cell? ⟨gb333, 0, none⟩ = some (.int .u8 a0_0) := (blk_cell BK333.out 0).trans rfl; have hcz20_1 : w19.cell? ⟨gb333, 1, none⟩ = some (.int .i64 a0_1) := (blk_cell BK333.out 1).trans rfl; have hcz20_2 : w19.cell? ⟨gb333, 2, none⟩ = some (.int .i64 a0_2) := (blk_cell BK333.out 2).trans rfl; have hcz20_3 : w19.cell? ⟨gb333, 3, none⟩ = some (.int .u64 a0_3) := (blk_cell BK333.out 3).trans rfl; have hcz20_4 : w19.cell? ⟨gb333, 4, none⟩ = some (.int .u64 a0_4) := (blk_cell BK333.out 4).trans rfl; have hcz20_5 : w19.cell? ⟨gb333, 5, none⟩ = some (.int .u64 a0_5) := (blk_cell BK333.out 5).trans rfl; have hfz20_0 := blk_frozen BK333.out 0; have hfz20_1 := blk_frozen BK333.out 1; have hfz20_2 := blk_frozen BK333.out 2; have hfz20_3 := blk_frozen BK333.out 3; have hfz20_4 := blk_frozen BK333.out 4; have hfz20_5 := blk_frozen BK333.out 5) | ((with_reducible refine gate_builtin (b := .append) (xs := #[.tmp 35, .tmp 37]) rfl ?_); at_builtin; refine Kd.R_append k47 (w0 := w) w.heap.size rfl (.tmp 35) (.tmp 37) 48 47 (.agg #[(.int .i64 0), (.int .i64 0)]) 16 rfl Try.underlying48 info47 rfl (by decide) (by omega) (.slice none 0 0) ([] : List (S47)) (⟨1, 0⟩ : S47) [.int .i64 1, .int .i64 0] (fun _ => True) (fun _ => False) rfl rfl ?aP (fun _ hk => hk.elim) ?aF ?aO ?aB ?aS ?aL ?_; (case aP => exact k47_mkM _ _ _ (⟨1, 0⟩ : S47)); (case aB => exact (by repeat (first | (with_reducible first | exact HB.out | apply below_alloc | apply pw_below_drewN | apply below_drew1 | refine below_set ?_ GE333.out) | exact HB.out))); (case aF => exact (fun _ _ => trivial)); (case aO => exact ((Kd.R_nil _ _ _ _ (fun _ => True)))); (case aS => exact (below_size (by repeat (first | (with_reducible first | exact HB.out | apply below_alloc | apply pw_below_drewN | apply below_drew1 | refine below_set ?_ GE333.out) | exact HB.out)))); (case aL => have := LMc16.out; omega); intro v343 w21 ho hb hg hat; rw [← Ny342.out] at ho; have n0_ := Aside0.mk (blk_grown (g := gb333) (o := .cells #[.int .u8 a0_0, .int .i64 a0_1, .int .i64 a0_2, .int .u64 a0_3, .int .u64 a0_4, .int .u64 a0_5] 45 (0, 0)) (by (with_reducible repeat (first | refine blk_drewN ?_ _ | refine blk_drew ?_ | refine blk_alloc ?_ _)); exact BK333.out) hg (by simp [Value.ownBlock])); have n1_ := Aside0.mk (Kd.R_grown (by (with_reducible repeat (first | apply Kd.R_alloc | apply Kd.R_drewN | apply Kd.R_drew)); exact HO337.out) hg (fun _ _ => by simp [Value.ownBlock])); have n2_ := Aside0.mk (hb); have n3_ := Aside0.mk (ho); clear BK333; clear HO337; clear HB; have BK333 := n0_; have HO337 := n1_; have HB := n2_; have HO344 := n3_; clear n0_ n1_ n2_ n3_; clear ho hb hg hat))
      go_loopg [5, 8] k (fun kq v5 v8 w' => ∃ (x5_1 : List (S47)) (x8_1 : Int), v8 = .int .i64 x8_1 ∧ Aside0 (headendref03_LabelsOf.l1 kq x5_1 t335 x8_1 a0_0 a0_1 a0_2 a0_3 a0_4 a0_5 = some r) ∧ Aside0 (kq ≤ k) ∧ Aside0 (Kd.R k47 47 w' w.heap.size (fun _ => True) v5 x5_1) ∧ Aside0 (Kd.R (Kd.int .i64) 3 w' w.heap.size (fun _ => True) v336 t335) ∧ Aside0 (w'.heap[gb333]? = some (.cells #[.int .u8 a0_0, .int .i64 a0_1, .int .i64 a0_2, .int .u64 a0_3, .int .u64 a0_4, .int .u64 a0_5] 45 (0, 0))) ∧ Aside0 (Below w.heap.size w w'))
      case atStart => exact ⟨(y342), (0), (by first | rfl | (simp; done) | (simp [*]; done)), H', ⟨Nat.le_refl _⟩, ⟨by (with_reducible repeat (first | apply Kd.R_alloc | apply Kd.R_drewN | apply Kd.R_drew)); exact HO344.out⟩, ⟨by (with_reducible repeat (first | apply Kd.R_alloc | apply Kd.R_drewN | apply Kd.R_drew)); exact HO337.out⟩, ⟨by (with_reducible repeat (first | refine blk_drewN ?_ _ | refine blk_drew ?_ | refine blk_alloc ?_ _)); exact BK333.out⟩, ⟨by repeat (first | (with_reducible first | exact HB.out | apply below_alloc | apply pw_below_drewN | apply below_drew1 | refine below_set ?_ GE333.out) | exact HB.out)⟩⟩
      case round =>
        clear H'
        try clear c1
        try clear p2
        try clear p3
        try clear q3
        try clear hx3
        try clear c5
        try clear c5b0
        try clear c5b1
        try clear p6
        try clear c8
        try clear c10
        try clear c10b0
        try clear c11
        try clear c11b0
        try clear c12
        try clear c16
        try clear hcz18_0
        try clear hcz18_1
        try clear hcz18_2
        try clear hcz18_3
        try clear hcz18_4
        try clear hcz18_5
        try clear hcz20_0
        try clear hcz20_1
        try clear hcz20_2
        try clear hcz20_3
        try clear hcz20_4
        try clear hcz20_5
        try clear hcz7_0
        try clear hcz7_1
        try clear hcz7_2
        try clear hcz7_3
        try clear hcz7_4
        try clear hcz7_5
        try clear hcz9_0
        try clear hcz9_1
        try clear hcz9_2
        try clear hcz9_3
        try clear hcz9_4
        try clear hcz9_5
        try clear hfz18_0
        try clear hfz18_1
        try clear hfz18_2
        try clear hfz18_3
        try clear hfz18_4
        try clear hfz18_5
        try clear hfz20_0
        try clear hfz20_1
        try clear hfz20_2
        try clear hfz20_3
        try clear hfz20_4
        try clear hfz20_5
        try clear hfz7_0
        try clear hfz7_1
        try clear hfz7_2
        try clear hfz7_3
        try clear hfz7_4
        try clear hfz7_5
        try clear hfz9_0
        try clear hfz9_1
        try clear hfz9_2
        try clear hfz9_3
        try clear hfz9_4
        try clear hfz9_5
        try clear hx338_0
        try clear p2
        try clear p338
        try clear p6
        try clear q338
        obtain ⟨x5_1, x8_1, rfl, HA, HK1, HO_5, HO_6, BK333, HB⟩ := hrel
        cases gk with
        | zero => exact absurd HA.out (by simp [headendref03_LabelsOf.l1])
        | succ k1 =>
          have H := HA.out
          clear HA
          simp only [headendref03_LabelsOf.l1] at H
          by_cases c22 : x8_1 < (t335.length : Int)
          · rw [if_pos c22] at H
            have c22b0 : decide (x8_1 < (t335.length : Int)) = true := decide_eq_true c22
            clear c22
            have H' := Aside0.mk H
            clear H
            obtain ⟨Ao23, co23, eo23⟩ := Kd.R_slice HO_6.out
            subst eo23
            go_wp2
            go_loopg [5, 9] k1 (fun kq v5 v9 w' => ∃ (x5_2 : List (S47)) (x9_2 : Int), v9 = .int .i64 x9_2 ∧ Aside0 (headendref03_LabelsOf.l2 kq x5_2 t335 x8_1 x9_2 a0_0 a0_1 a0_2 a0_3 a0_4 a0_5 = some r) ∧ Aside0 (kq ≤ k1) ∧ Aside0 (Kd.R k47 47 w' w.heap.size (fun _ => True) v5 x5_2) ∧ Aside0 (Kd.R (Kd.int .i64) 3 w' w.heap.size (fun _ => True) (.slice Ao23 t335.length co23) t335) ∧ Aside0 (w'.heap[gb333]? = some (.cells #[.int .u8 a0_0, .int .i64 a0_1, .int .i64 a0_2, .int .u64 a0_3, .int .u64 a0_4, .int .u64 a0_5] 45 (0, 0))) ∧ Aside0 (Below w.heap.size w w'))
            case atStart => exact ⟨(x5_1), (wrap64 (x8_1 + 1)), (by first | rfl | (simp; done) | (simp [*]; done)), H', ⟨Nat.le_refl _⟩, ⟨by (with_reducible repeat (first | apply Kd.R_alloc | apply Kd.R_drewN | apply Kd.R_drew)); exact HO_5.out⟩, ⟨by (with_reducible repeat (first | apply Kd.R_alloc | apply Kd.R_drewN | apply Kd.R_drew)); exact HO_6.out⟩, ⟨by (with_reducible repeat (first | refine blk_drewN ?_ _ | refine blk_drew ?_ | refine blk_alloc ?_ _)); exact BK333.out⟩, ⟨by repeat (first | (with_reducible first | exact HB.out | apply below_alloc | apply pw_below_drewN | apply below_drew1 | refine below_set ?_ GE333.out) | exact HB.out)⟩⟩
            case round =>
              clear H'
              try clear c1
              try clear c2
              try clear p2
              try clear p3
              try clear q3
              try clear hx3
              try clear c5
              try clear c5b0
              try clear c5b1
              try clear p6
              try clear c8
              try clear c10
              try clear c10b0
              try clear c11
              try clear c11b0
              try clear c12
              try clear c16
              try clear c22
              try clear c22b0
              try clear hcz18_0
              try clear hcz18_1
              try clear hcz18_2
              try clear hcz18_3
              try clear hcz18_4
              try clear hcz18_5
              try clear hcz20_0
              try clear hcz20_1
              try clear hcz20_2
              try clear hcz20_3
              try clear hcz20_4
              try clear hcz20_5
              try clear hcz7_0
              try clear hcz7_1
              try clear hcz7_2
              try clear hcz7_3
              try clear hcz7_4
              try clear hcz7_5
              try clear hcz9_0
              try clear hcz9_1
              try clear hcz9_2
              try clear hcz9_3
              try clear hcz9_4
              try clear hcz9_5
              try clear hfz18_0
              try clear hfz18_1
              try clear hfz18_2
              try clear hfz18_3
              try clear hfz18_4
              try clear hfz18_5
              try clear hfz20_0
              try clear hfz20_1
              try clear hfz20_2
              try clear hfz20_3
              try clear hfz20_4
              try clear hfz20_5
              try clear hfz7_0
              try clear hfz7_1
              try clear hfz7_2
              try clear hfz7_3
              try clear hfz7_4
              try clear hfz7_5
              try clear hfz9_0
              try clear hfz9_1
              try clear hfz9_2
              try clear hfz9_3
              try clear hfz9_4
              try clear hfz9_5
              try clear hx338_0
              try clear p2
              try clear p3
              try clear p338
              try clear p6
              try clear q3
              try clear q338
              obtain ⟨x5_2, x9_2, rfl, HA, HK2, HO_5, HO_6, BK333, HB⟩ := hrel
              cases gk with
              | zero => exact absurd HA.out (by simp [headendref03_LabelsOf.l2])
              | succ k2 =>
                have H := HA.out
                clear HA
                simp only [headendref03_LabelsOf.l2] at H
                by_cases c24 : x9_2 < (t335.length : Int)
                · rw [if_pos c24] at H
                  have c24b0 : decide (x9_2 < (t335.length : Int)) = true := decide_eq_true c24
                  clear c24
                  by_cases c25 : 0 ≤ x8_1
                  · rw [if_pos c25] at H
                    have c25b0 : decide (0 ≤ x8_1) = true := decide_eq_true c25
                    clear c25
                    by_cases c26 : x8_1 < (t335.length : Int)
                    · rw [if_pos c26] at H
                      have c26b0 : decide (x8_1 < (t335.length : Int)) = true := decide_eq_true c26
                      clear c26
                      by_cases c27 : 0 ≤ x9_2
                      · rw [if_pos c27] at H
                        have c27b0 : decide (0 ≤ x9_2) = true := decide_eq_true c27
                        clear c27
                        replace H := Option.bind_eq_some_iff.mp H
                        obtain ⟨t348, A280, H⟩ := H
                        replace H : (if t348 = true then (if x5_2.length < 8796093022208 then (headendref03_LabelsOf.l2 k2 (x5_2 ++ [(⟨rd t335 x8_1, Go.bits .xor .i64 (rd t335 x9_2) 1⟩ : S47)]) t335 x8_1 (wrap64 (x9_2 + 1)) a0_0 a0_1 a0_2 a0_3 a0_4 a0_5) else (none)) else (headendref03_LabelsOf.l2 k2 x5_2 t335 x8_1 (wrap64 (x9_2 + 1)) a0_0 a0_1 a0_2 a0_3 a0_4 a0_5)) = some r := H
                        have A28 := Aside0.mk A280
                        clear A280
                        by_cases c29 : t348 = true
                        · subst c29
                          have H1 : (if x5_2.length < 8796093022208 then (headendref03_LabelsOf.l2 k2 (x5_2 ++ [(⟨rd t335 x8_1, Go.bits .xor .i64 (rd t335 x9_2) 1⟩ : S47)]) t335 x8_1 (wrap64 (x9_2 + 1)) a0_0 a0_1 a0_2 a0_3 a0_4 a0_5) else (none)) = some r := by rw [if_pos rfl] at H; exact H
                          clear H
                          have H := H1
                          clear H1
                          by_cases c30 : x5_2.length < 8796093022208
                          · rw [if_pos c30] at H
                            have LMc30 := Aside0.mk c30
                            clear c30
                            obtain ⟨y349, hy349⟩ : ∃ y_ : List (S47), y_ = (x5_2 ++ [(⟨rd t335 x8_1, Go.bits .xor .i64 (rd t335 x9_2) 1⟩ : S47)]) := ⟨_, rfl⟩
                            replace H : (headendref03_LabelsOf.l2 k2 y349 t335 x8_1 (wrap64 (x9_2 + 1)) a0_0 a0_1 a0_2 a0_3 a0_4 a0_5) = some r := by first | (rw [hy349]; with_reducible exact H) | (have H2_ := (Option.bind_some _ _).symm.trans H; rw [hy349]; with_reducible exact H2_) | (have H2_ := (Option.bind_some _ _).symm.trans H; with_reducible exact H2_) | with_reducible exact H | (rw [hy349]; exact H) | exact H
                            have Ny349 := Aside0.mk hy349
                            clear hy349
                            have H' := Aside0.mk H
                            clear H
                            try go_wp2
                            have n0_ := Aside0.mk (Kd.R_drew HO_5.out)
                            have n1_ := Aside0.mk (Kd.R_drew HO_6.out)
                            have n2_ := Aside0.mk (blk_drew BK333.out)
                            have n3_ := Aside0.mk (below_drew1 HB.out)
                            clear HO_5
                            clear HO_6
                            clear BK333
                            clear HB
                            have HO_5 := n0_
                            have HO_6 := n1_
                            have BK333 := n2_
                            have HB := n3_
                            clear n0_ n1_ n2_ n3_
                            have p345 : 0 ≤ (x8_1 : Int) := of_decide_eq_true (by first | (with_reducible assumption) | assumption)
                            have q345 : x8_1 < (t335.length : Int) := of_decide_eq_true (by first | (with_reducible assumption) | assumption)
                            obtain ⟨ad345, e345, hx345_0⟩ := Kd.at_int (Kd.R_reads' HO_6.out).2.2 x8_1 p345 q345
                            cases e345
                            replace p345 := eq_true p345
                            replace q345 := eq_true q345
                            have p346 : 0 ≤ (x9_2 : Int) := of_decide_eq_true (by first | (with_reducible assumption) | assumption)
                            have q346 : x9_2 < (t335.length : Int) := of_decide_eq_true (by first | (with_reducible assumption) | assumption)
                            obtain ⟨ad346, e346, hx346_0⟩ := Kd.at_int (Kd.R_reads' HO_6.out).2.2 x9_2 p346 q346
                            obtain rfl : ad345 = ad346 := (by injection e346)
                            replace p346 := eq_true p346
                            replace q346 := eq_true q346
                            refine start_ (n := 12) (S := fun w' => w'.cell? (ad345.add (x8_1).toNat) = some (.int .i64 (rd t335 x8_1)) ∧ w'.cell? (ad345.add (x9_2).toNat) = some (.int .i64 (rd t335 x9_2))) (ds := []) #[false, false, false, false, false, false, false, false, false, false, false, false] (by kernel_rfl) rfl rfl ⟨hx345_0, hx346_0⟩ (fun hHeld => ?_); refine with_tabW headendref03_LabelsOf.tab16 headendref03_LabelsOf.bits16 (fun HT_ HW_ => ?_)
                            generalize wr.drew = w31 at HO_5 HO_6 BK333 HB hx345_0 hx346_0 hHeld ⊢
                            refine pure_ (i := 0) (N := some 53) (v := ?_) (a' := ?_) #[true, false, false, false, false, false, false, false, false, false, false, false] rfl rfl (any_of HT_.out (by kernel_rfl)) (fun _ _ _ h => h) (Or.inl ⟨by rfl, ?_⟩) ?_ ?_
                            rotate_left
                            · intro w'
                              go_simp
                              with_reducible rfl
                            rotate_left
                            · simp only [Act.put, List.setIfInBounds_toArray, List.set_cons_zero, List.set_cons_succ, i64_w, i32_w]
                              rfl
                            refine pure_ (i := 1) (N := some 54) (v := ?_) (a' := ?_) #[true, true, false, false, false, false, false, false, false, false, false, false] rfl rfl (any_of HT_.out (by kernel_rfl)) (fun _ _ _ h => h) (Or.inl ⟨by rfl, ?_⟩) ?_ ?_
                            rotate_left
                            · intro w'
                              go_simp
                              with_reducible rfl
                            rotate_left
                            · simp only [Act.put, List.setIfInBounds_toArray, List.set_cons_zero, List.set_cons_succ, i64_w, i32_w]
                              rfl
                            refine pure_ (i := 2) (N := some 55) (v := ?_) (a' := ?_) #[true, true, true, false, false, false, false, false, false, false, false, false] rfl rfl (any_of HT_.out (by kernel_rfl)) (fun _ _ _ h => h) (Or.inl ⟨by rfl, ?_⟩) ?_ ?_
                            rotate_left
                            · intro w'
                              go_simp
                              with_reducible rfl
                            rotate_left
                            · simp only [Act.put, List.setIfInBounds_toArray, List.set_cons_zero, List.set_cons_succ, i64_w, i32_w]
                              rfl
                            refine pure_ (i := 4) (N := some 57) (v := ?_) (a' := ?_) #[true, true, true, false, true, false, false, false, false, false, false, false] rfl rfl (any_of HT_.out (by kernel_rfl)) (fun _ _ _ h => h) (Or.inl ⟨by rfl, ?_⟩) ?_ ?_
                            rotate_left
                            · intro w'
                              go_simp
                              with_reducible rfl
                            rotate_left
                            · simp only [Act.put, List.setIfInBounds_toArray, List.set_cons_zero, List.set_cons_succ, i64_w, i32_w]
                              rfl
                            refine pure_ (i := 5) (N := some 58) (v := ?_) (a' := ?_) #[true, true, true, false, true, true, false, false, false, false, false, false] rfl rfl (any_of HT_.out (by kernel_rfl)) (fun _ _ _ h => h) (Or.inl ⟨by rfl, ?_⟩) ?_ ?_
                            rotate_left
                            · intro w'
                              go_simp
                              with_reducible rfl
                            rotate_left
                            · simp only [Act.put, List.setIfInBounds_toArray, List.set_cons_zero, List.set_cons_succ, i64_w, i32_w]
                              rfl
                            refine pure_ (i := 6) (N := some 59) (v := ?_) (a' := ?_) #[true, true, true, false, true, true, true, false, false, false, false, false] rfl rfl (any_of HT_.out (by kernel_rfl)) (fun _ _ _ h => h) (Or.inl ⟨by rfl, ?_⟩) ?_ ?_
                            rotate_left
                            · intro w'
                              go_simp
                              with_reducible rfl
                            rotate_left
                            · simp only [Act.put, List.setIfInBounds_toArray, List.set_cons_zero, List.set_cons_succ, i64_w, i32_w]
                              rfl
                            refine take_ (i := 3) (N := some 56) (v := ?_) (a' := ?_) #[true, true, true, true, true, true, true, false, false, false, false, false] rfl rfl (take_ofW HT_.out HW_.out (by kernel_rfl)) (fun _ _ _ h => h) (Or.inl ⟨by rfl, ?_⟩) hHeld ?_ ?_
                            rotate_left
                            · rintro w' ⟨s0, s1⟩
                              go_simp
                              with_reducible rfl
                            rotate_left
                            · simp only [Act.put, List.setIfInBounds_toArray, List.set_cons_zero, List.set_cons_succ, i64_w, i32_w]
                              rfl
                            refine take_ (i := 7) (N := some 60) (v := ?_) (a' := ?_) #[true, true, true, true, true, true, true, true, false, false, false, false] rfl rfl (take_ofW HT_.out HW_.out (by kernel_rfl)) (fun _ _ _ h => h) (Or.inl ⟨by rfl, ?_⟩) hHeld ?_ ?_
                            rotate_left
                            · rintro w' ⟨s0, s1⟩
                              go_simp
                              with_reducible rfl
                            rotate_left
                            · simp only [Act.put, List.setIfInBounds_toArray, List.set_cons_zero, List.set_cons_succ, i64_w, i32_w]
                              rfl
                            refine pure_ (i := 8) (N := some 61) (v := ?_) (a' := ?_) #[true, true, true, true, true, true, true, true, true, false, false, false] rfl rfl (any_of HT_.out (by kernel_rfl)) (fun _ _ _ h => h) (Or.inl ⟨by rfl, ?_⟩) ?_ ?_
                            rotate_left
                            · intro w'
                              go_simp
                              with_reducible rfl
                            rotate_left
                            · simp only [Act.put, List.setIfInBounds_toArray, List.set_cons_zero, List.set_cons_succ, i64_w, i32_w]
                              rfl
                            refine pure_ (i := 9) (N := some 62) (v := ?_) (a' := ?_) #[true, true, true, true, true, true, true, true, true, true, false, false] rfl rfl (any_of HT_.out (by kernel_rfl)) (fun _ _ _ h => h) (Or.inl ⟨by rfl, ?_⟩) ?_ ?_
                            rotate_left
                            · intro w'
                              go_simp
                              with_reducible rfl
                            rotate_left
                            · simp only [Act.put, List.setIfInBounds_toArray, List.set_cons_zero, List.set_cons_succ, i64_w, i32_w]
                              rfl
                            refine one_ (i := 10) (N := some 10) #[true, true, true, true, true, true, true, true, true, true, true, false] rfl rfl (one_of HT_.out (by kernel_rfl)) (by decide) (fun K hK => ?_)
                            refine box_step ?hg (N := 10) ?hd (cs := #[.int .i64 0, .int .i64 0]) (t := 47) ?hr ?_; (case hd => rfl); (case hg => rfl); (case hr => first | (go_simp; done) | (go_simp; rfl))
                            intro gb347 hg w32 hbox hb
                            have HS0_ := (hb.cell (World.block_lt_of_cell? _ _ (hHeld.1))).trans (hHeld.1)
                            have HS1_ := (hb.cell (World.block_lt_of_cell? _ _ (hHeld.2))).trans (hHeld.2)
                            have n0_ := Aside0.mk (Kd.R_below (Kd.R_elderB (by (with_reducible repeat (first | apply Kd.R_alloc | apply Kd.R_drewN | apply Kd.R_drew)); exact HO_5.out) gb347 (Nat.le_of_eq hg.symm)) hb)
                            have n1_ := Aside0.mk (Kd.R_below (by (with_reducible repeat (first | apply Kd.R_alloc | apply Kd.R_drewN | apply Kd.R_drew)); exact HO_6.out) hb)
                            have n2_ := Aside0.mk (blk_below (g := gb333) (o := .cells #[.int .u8 a0_0, .int .i64 a0_1, .int .i64 a0_2, .int .u64 a0_3, .int .u64 a0_4, .int .u64 a0_5] 45 (0, 0)) (by (with_reducible repeat (first | refine blk_drewN ?_ _ | refine blk_drew ?_ | refine blk_alloc ?_ _)); exact BK333.out) hb)
                            have n3_ := Aside0.mk (below_step (by repeat (first | (with_reducible first | exact HB.out | apply below_alloc | apply pw_below_drewN | apply below_drew1 | refine below_set ?_ GE333.out) | exact HB.out)) hb)
                            have n4_ := Aside0.mk (hbox)
                            have n5_ := Aside0.mk ((by rw [hg]; exact (below_size (by repeat (first | (with_reducible first | exact HB.out | apply below_alloc | apply pw_below_drewN | apply below_drew1 | refine below_set ?_ GE333.out) | exact HB.out))) : w.heap.size ≤ gb347))
                            have n6_ := Aside0.mk ((by rw [hg]; exact (below_size (by repeat (first | (with_reducible first | exact HB.out | apply below_alloc | apply pw_below_drewN | apply below_drew1 | refine below_set ?_ GE333.out) | exact HB.out))) : w.heap.size ≤ gb347))
                            have n7_ := Aside0.mk ((by rw [hg]; exact Nat.ne_of_lt (blk_lt (g := gb333) (o := .cells #[.int .u8 a0_0, .int .i64 a0_1, .int .i64 a0_2, .int .u64 a0_3, .int .u64 a0_4, .int .u64 a0_5] 45 (0, 0)) (by (with_reducible repeat (first | refine blk_drewN ?_ _ | refine blk_drew ?_ | refine blk_alloc ?_ _)); exact BK333.out)) : gb333 ≠ gb347))
                            have n8_ := Aside0.mk ((by rw [hg]; exact Nat.ne_of_gt (blk_lt (g := gb333) (o := .cells #[.int .u8 a0_0, .int .i64 a0_1, .int .i64 a0_2, .int .u64 a0_3, .int .u64 a0_4, .int .u64 a0_5] 45 (0, 0)) (by (with_reducible repeat (first | refine blk_drewN ?_ _ | refine blk_drew ?_ | refine blk_alloc ?_ _)); exact BK333.out)) : gb347 ≠ gb333))
                            clear HO_5
                            clear HO_6
                            clear BK333
                            clear HB
                            have HO_5 := n0_
                            have HO_6 := n1_
                            have BK333 := n2_
                            have HB := n3_
                            have BK347 := n4_
                            have GW347 := n5_
                            have GE347 := n6_
                            have NB333_347 := n7_
                            have NB347_333 := n8_
                            clear n0_ n1_ n2_ n3_ n4_ n5_ n6_ n7_ n8_
                            clear hb hbox hg
                            refine hK.out _ _ ⟨HS0_, HS1_⟩ (fun hHeld => ?_)
                            clear hK K
                            refine norm_ (a' := ?_) ?_ ?_
                            rotate_left
                            · show Act.put _ (some 10) _ = _
                              simp only [Act.put, List.setIfInBounds_toArray, List.set_cons_zero, List.set_cons_succ, i64_w, i32_w]
                              rfl
                            refine one_ (i := 11) (N := none) #[true, true, true, true, true, true, true, true, true, true, true, true] rfl rfl (one_of HT_.out (by kernel_rfl)) (by decide) (fun K hK => ?_)
                            have hs33 : w32.cell? ⟨gb347, 0, none⟩ = some (.int .i64 0) := (blk_cell BK347.out 0).trans rfl
                            have hfs33 := blk_frozen BK347.out 0
                            have hns33_0 := NB333_347.out
                            have hms33_0 := NB347_333.out
                            have hs34 : w32.cell? ⟨gb347, 1, none⟩ = some (.int .i64 0) := (blk_cell BK347.out 1).trans rfl
                            have hfs34 := blk_frozen BK347.out 1
                            have hns34_0 := NB333_347.out
                            have hms34_0 := NB347_333.out
                            refine skip_ (w1 := ?_) (by rfl) rfl ?_ ?_
                            rotate_left
                            · go_simp
                              rfl
                            refine hK.out _ _ ⟨((cell_far (p := ⟨gb347, _, none⟩) (by first | exact Kd.own_blk (Kd.R_ne HO_6.out BK347.out (by decide)) | (rw [add_block]; exact Kd.own_blk (Kd.R_ne HO_6.out BK347.out (by decide))) | (show (Addr.add _ _).block ≠ _; rw [add_block]; exact Kd.own_blk (Kd.R_ne HO_6.out BK347.out (by decide))) | (dsimp only; exact Kd.own_blk (Kd.R_ne HO_6.out BK347.out (by decide)))) _).trans (((cell_far (p := ⟨gb347, _, none⟩) (by first | exact Kd.own_blk (Kd.R_ne HO_6.out BK347.out (by decide)) | (rw [add_block]; exact Kd.own_blk (Kd.R_ne HO_6.out BK347.out (by decide))) | (show (Addr.add _ _).block ≠ _; rw [add_block]; exact Kd.own_blk (Kd.R_ne HO_6.out BK347.out (by decide))) | (dsimp only; exact Kd.own_blk (Kd.R_ne HO_6.out BK347.out (by decide)))) _).trans (hHeld.1)))), ((cell_far (p := ⟨gb347, _, none⟩) (by first | exact Kd.own_blk (Kd.R_ne HO_6.out BK347.out (by decide)) | (rw [add_block]; exact Kd.own_blk (Kd.R_ne HO_6.out BK347.out (by decide))) | (show (Addr.add _ _).block ≠ _; rw [add_block]; exact Kd.own_blk (Kd.R_ne HO_6.out BK347.out (by decide))) | (dsimp only; exact Kd.own_blk (Kd.R_ne HO_6.out BK347.out (by decide)))) _).trans (((cell_far (p := ⟨gb347, _, none⟩) (by first | exact Kd.own_blk (Kd.R_ne HO_6.out BK347.out (by decide)) | (rw [add_block]; exact Kd.own_blk (Kd.R_ne HO_6.out BK347.out (by decide))) | (show (Addr.add _ _).block ≠ _; rw [add_block]; exact Kd.own_blk (Kd.R_ne HO_6.out BK347.out (by decide))) | (dsimp only; exact Kd.own_blk (Kd.R_ne HO_6.out BK347.out (by decide)))) _).trans (hHeld.2))))⟩ (fun hHeld => ?_)
                            clear hK K
                            refine done_ (done_of HT_.out (by kernel_rfl)) ?_
                            have hnb35 := NB333_347.out
                            have hnc35 := NB347_333.out
                            have hcz36_0 : w32.cell? ⟨gb333, 0, none⟩ = some (.int .u8 a0_0) := (blk_cell BK333.out 0).trans rfl
                            have hcz36_1 : w32.cell? ⟨gb333, 1, none⟩ = some (.int .i64 a0_1) := (blk_cell BK333.out 1).trans rfl
                            have hcz36_2 : w32.cell? ⟨gb333, 2, none⟩ = some (.int .i64 a0_2) := (blk_cell BK333.out 2).trans rfl
                            have hcz36_3 : w32.cell? ⟨gb333, 3, none⟩ = some (.int .u64 a0_3) := (blk_cell BK333.out 3).trans rfl
                            have hcz36_4 : w32.cell? ⟨gb333, 4, none⟩ = some (.int .u64 a0_4) := (blk_cell BK333.out 4).trans rfl
                            have hcz36_5 : w32.cell? ⟨gb333, 5, none⟩ = some (.int .u64 a0_5) := (blk_cell BK333.out 5).trans rfl
                            have hfz36_0 := blk_frozen BK333.out 0
                            have hfz36_1 := blk_frozen BK333.out 1
                            have hfz36_2 := blk_frozen BK333.out 2
                            have hfz36_3 := blk_frozen BK333.out 3
                            have hfz36_4 := blk_frozen BK333.out 4
                            have hfz36_5 := blk_frozen BK333.out 5
                            have hcz37_0 : w32.cell? ⟨gb347, 0, none⟩ = some (.int .i64 0) := (blk_cell BK347.out 0).trans rfl
                            have hcz37_1 : w32.cell? ⟨gb347, 1, none⟩ = some (.int .i64 0) := (blk_cell BK347.out 1).trans rfl
                            have hfz37_0 := blk_frozen BK347.out 0
                            have hfz37_1 := blk_frozen BK347.out 1
                            try go_wp2_with (first | ((with_reducible refine gate_callee (f := 64) rfl ?_); refine goesL_ (some 65) rfl rfl Try.func64 (by kernel_rfl) rfl #[.agg #[.int .u8 a0_0, .int .i64 a0_1, .int .i64 a0_2, .int .u64 a0_3, .int .u64 a0_4, .int .u64 a0_5], .agg #[.int .i64 (rd t335 x8_1), .int .i64 (Go.bits .xor .i64 (rd t335 x9_2) 1)]] rfl (by (try simp only [List.map_toArray, List.map_cons, List.map_nil]); first | done | rfl | (simp only [List.length_drop, List.length_take]; rfl)) ?_; (with_reducible refine (headendref03_IsSubset.calls k2 a0_0 a0_1 a0_2 a0_3 a0_4 a0_5 (rd t335 x8_1) (Go.bits .xor .i64 (rd t335 x9_2) 1) true _ A28.out).mono ?_); rintro e w38 ⟨rfl, hb⟩; refine ⟨_, rfl, ?_⟩; have n0_ := Aside0.mk (Kd.R_below (by (with_reducible repeat (first | apply Kd.R_alloc | apply Kd.R_drewN | apply Kd.R_drew)); exact (Kd.R_mono (Kd.R_far (p := ⟨gb347, 1, none⟩) (Kd.R_far (p := ⟨gb347, 0, none⟩) (Kd.R_mono HO_5.out (fun k_ hk => (⟨hk, hk.2⟩ : _ ∧ k_ ≠ gb347))) (fun _ hk => hk.2) (.int .i64 (rd t335 x8_1))) (fun _ hk => hk.2) (.int .i64 (Go.bits .xor .i64 (rd t335 x9_2) 1))) (fun _ h_ => h_.1))) hb); have n1_ := Aside0.mk (Kd.R_below (by (with_reducible repeat (first | apply Kd.R_alloc | apply Kd.R_drewN | apply Kd.R_drew)); exact (Kd.R_mono (Kd.R_far (p := ⟨gb347, 1, none⟩) (Kd.R_far (p := ⟨gb347, 0, none⟩) (Kd.R_types HO_6.out BK347.out (by decide)) (fun _ hk => hk.2) (.int .i64 (rd t335 x8_1))) (fun _ hk => hk.2) (.int .i64 (Go.bits .xor .i64 (rd t335 x9_2) 1))) (fun _ h_ => h_.1))) hb); have n2_ := Aside0.mk (blk_below (g := gb333) (o := .cells #[.int .u8 a0_0, .int .i64 a0_1, .int .i64 a0_2, .int .u64 a0_3, .int .u64 a0_4, .int .u64 a0_5] 45 (0, 0)) (by (with_reducible repeat (first | refine blk_drewN ?_ _ | refine blk_drew ?_ | refine blk_alloc ?_ _)); refine blk_far ?_ NB333_347.out _; (with_reducible repeat (first | refine blk_drewN ?_ _ | refine blk_drew ?_ | refine blk_alloc ?_ _)); refine blk_far ?_ NB333_347.out _; (with_reducible repeat (first | refine blk_drewN ?_ _ | refine blk_drew ?_ | refine blk_alloc ?_ _)); exact BK333.out) hb); have n3_ := Aside0.mk (blk_below (g := gb347) (o := .cells #[.int .i64 (rd t335 x8_1), .int .i64 (Go.bits .xor .i64 (rd t335 x9_2) 1)] 47 (0, 0)) (by (with_reducible repeat (first | refine blk_drewN ?_ _ | refine blk_drew ?_ | refine blk_alloc ?_ _)); refine blk_put (cs := #[.int .i64 (rd t335 x8_1), .int .i64 0]) ?_ 1 _ rfl; (with_reducible repeat (first | refine blk_drewN ?_ _ | refine blk_drew ?_ | refine blk_alloc ?_ _)); refine blk_put (cs := #[.int .i64 0, .int .i64 0]) ?_ 0 _ rfl; (with_reducible repeat (first | refine blk_drewN ?_ _ | refine blk_drew ?_ | refine blk_alloc ?_ _)); exact BK347.out) hb); have n4_ := Aside0.mk (below_step (by repeat (first | (with_reducible first | exact HB.out | apply below_alloc | apply pw_below_drewN | apply below_drew1 | refine below_set ?_ GE333.out | refine below_set ?_ GE347.out) | exact HB.out)) hb); clear HO_5; clear HO_6; clear BK333; clear BK347; clear HB; have HO_5 := n0_; have HO_6 := n1_; have BK333 := n2_; have BK347 := n3_; have HB := n4_; clear n0_ n1_ n2_ n3_ n4_; (try clear hb); (try clear hb2); (try clear hk); (try clear hi); have hcz39_0 : w38.cell? ⟨gb347, 0, none⟩ = some (.int .i64 (rd t335 x8_1)) := (blk_cell BK347.out 0).trans rfl; have hcz39_1 : w38.cell? ⟨gb347, 1, none⟩ = some (.int .i64 (Go.bits .xor .i64 (rd t335 x9_2) 1)) := (blk_cell BK347.out 1).trans rfl; have hfz39_0 := blk_frozen BK347.out 0; have hfz39_1 := blk_frozen BK347.out 1) | ((with_reducible refine gate_builtin (b := .append) (xs := #[.tmp 66, .tmp 68]) rfl ?_); at_builtin; refine Kd.R_append k47 (w0 := w) w.heap.size rfl (.tmp 66) (.tmp 68) 48 47 (.agg #[(.int .i64 0), (.int .i64 0)]) 16 rfl Try.underlying48 info47 rfl (by decide) (by omega) u5 x5_2 (⟨rd t335 x8_1, Go.bits .xor .i64 (rd t335 x9_2) 1⟩ : S47) [.int .i64 (rd t335 x8_1), .int .i64 (Go.bits .xor .i64 (rd t335 x9_2) 1)] (fun k_ => k_ ≠ gb347) (fun _ => False) rfl rfl ?aP (fun _ hk => hk.elim) ?aF ?aO ?aB ?aS ?aL ?_; (case aP => exact k47_mkM _ _ _ (⟨rd t335 x8_1, Go.bits .xor .i64 (rd t335 x9_2) 1⟩ : S47)); (case aB => exact (by repeat (first | (with_reducible first | exact HB.out | apply below_alloc | apply pw_below_drewN | apply below_drew1 | refine below_set ?_ GE333.out | refine below_set ?_ GE347.out) | exact HB.out))); (case aF => exact (fun k_ hk => Kd.freshB (g := gb347) (o := .cells #[.int .i64 (rd t335 x8_1), .int .i64 (Go.bits .xor .i64 (rd t335 x9_2) 1)] 47 (0, 0)) (by (with_reducible repeat (first | refine blk_drewN ?_ _ | refine blk_drew ?_ | refine blk_alloc ?_ _)); exact BK347.out) k_ hk)); (case aO => exact (by (with_reducible repeat (first | apply Kd.R_alloc | apply Kd.R_drewN | apply Kd.R_drew)); exact Kd.R_mono HO_5.out (fun _ hk => hk.2))); (case aS => exact (below_size (by repeat (first | (with_reducible first | exact HB.out | apply below_alloc | apply pw_below_drewN | apply below_drew1 | refine below_set ?_ GE333.out | refine below_set ?_ GE347.out) | exact HB.out)))); (case aL => have := LMc30.out; omega); intro v350 w40 ho hb hg hat; rw [← Ny349.out] at ho; have n0_ := Aside0.mk (Kd.R_over' (by (with_reducible repeat (first | apply Kd.R_alloc | apply Kd.R_drewN | apply Kd.R_drew)); exact HO_6.out) (Kd.R_typed (by (with_reducible repeat (first | apply Kd.R_alloc | apply Kd.R_drewN | apply Kd.R_drew)); exact HO_5.out)) (by decide) hg); have n1_ := Aside0.mk (blk_grown (g := gb333) (o := .cells #[.int .u8 a0_0, .int .i64 a0_1, .int .i64 a0_2, .int .u64 a0_3, .int .u64 a0_4, .int .u64 a0_5] 45 (0, 0)) (by (with_reducible repeat (first | refine blk_drewN ?_ _ | refine blk_drew ?_ | refine blk_alloc ?_ _)); exact BK333.out) hg (Kd.R_ne HO_5.out BK333.out (by decide))); have n2_ := Aside0.mk (blk_grown (g := gb347) (o := .cells #[.int .i64 (rd t335 x8_1), .int .i64 (Go.bits .xor .i64 (rd t335 x9_2) 1)] 47 (0, 0)) (by (with_reducible repeat (first | refine blk_drewN ?_ _ | refine blk_drew ?_ | refine blk_alloc ?_ _)); exact BK347.out) hg (Kd.R_away HO_5.out (fun _ hk => hk.2))); have n3_ := Aside0.mk (hb); have n4_ := Aside0.mk (ho); clear HO_6; clear BK333; clear BK347; clear HB; clear HO_5; have HO_6 := n0_; have BK333 := n1_; have BK347 := n2_; have HB := n3_; have HO351 := n4_; clear n0_ n1_ n2_ n3_ n4_; clear ho hb hg hat))
                            go_roundg k2
                            case measure => have := HK1.out; have := HK2.out; omega
                            case rel => exact ⟨(y349), (wrap64 (x9_2 + 1)), (by first | rfl | (simp; done) | (simp [*]; done)), H', ⟨by have := HK1.out; have := HK2.out; omega⟩, ⟨by (with_reducible repeat (first | apply Kd.R_alloc | apply Kd.R_drewN | apply Kd.R_drew)); exact Kd.R_mono HO351.out (fun _ hk => trivial)⟩, ⟨by (with_reducible repeat (first | apply Kd.R_alloc | apply Kd.R_drewN | apply Kd.R_drew)); exact HO_6.out⟩, ⟨by (with_reducible repeat (first | refine blk_drewN ?_ _ | refine blk_drew ?_ | refine blk_alloc ?_ _)); exact BK333.out⟩, ⟨by repeat (first | (with_reducible first | exact HB.out | apply below_alloc | apply pw_below_drewN | apply below_drew1 | refine below_set ?_ GE333.out | refine below_set ?_ GE347.out) | exact HB.out)⟩⟩
                          · rw [if_neg c30] at H
                            exact absurd H (by simp)
                        · replace c29 := Bool.eq_false_iff.mpr c29
                          subst c29
                          have H1 : (headendref03_LabelsOf.l2 k2 x5_2 t335 x8_1 (wrap64 (x9_2 + 1)) a0_0 a0_1 a0_2 a0_3 a0_4 a0_5) = some r := by rw [if_neg (show ¬ (false = true) by decide)] at H; exact H
                          clear H
                          have H := H1
                          clear H1
                          have H' := Aside0.mk H
                          clear H
                          try go_wp2
                          have n0_ := Aside0.mk (Kd.R_drew HO_5.out)
                          have n1_ := Aside0.mk (Kd.R_drew HO_6.out)
                          have n2_ := Aside0.mk (blk_drew BK333.out)
                          have n3_ := Aside0.mk (below_drew1 HB.out)
                          clear HO_5
                          clear HO_6
                          clear BK333
                          clear HB
                          have HO_5 := n0_
                          have HO_6 := n1_
                          have BK333 := n2_
                          have HB := n3_
                          clear n0_ n1_ n2_ n3_
                          have p345 : 0 ≤ (x8_1 : Int) := of_decide_eq_true (by first | (with_reducible assumption) | assumption)
                          have q345 : x8_1 < (t335.length : Int) := of_decide_eq_true (by first | (with_reducible assumption) | assumption)
                          obtain ⟨ad345, e345, hx345_0⟩ := Kd.at_int (Kd.R_reads' HO_6.out).2.2 x8_1 p345 q345
                          cases e345
                          replace p345 := eq_true p345
                          replace q345 := eq_true q345
                          have p346 : 0 ≤ (x9_2 : Int) := of_decide_eq_true (by first | (with_reducible assumption) | assumption)
                          have q346 : x9_2 < (t335.length : Int) := of_decide_eq_true (by first | (with_reducible assumption) | assumption)
                          obtain ⟨ad346, e346, hx346_0⟩ := Kd.at_int (Kd.R_reads' HO_6.out).2.2 x9_2 p346 q346
                          obtain rfl : ad345 = ad346 := (by injection e346)
                          replace p346 := eq_true p346
                          replace q346 := eq_true q346
                          refine start_ (n := 12) (S := fun w' => w'.cell? (ad345.add (x8_1).toNat) = some (.int .i64 (rd t335 x8_1)) ∧ w'.cell? (ad345.add (x9_2).toNat) = some (.int .i64 (rd t335 x9_2))) (ds := []) #[false, false, false, false, false, false, false, false, false, false, false, false] (by kernel_rfl) rfl rfl ⟨hx345_0, hx346_0⟩ (fun hHeld => ?_); refine with_tabW headendref03_LabelsOf.tab16 headendref03_LabelsOf.bits16 (fun HT_ HW_ => ?_)
                          generalize wr.drew = w41 at HO_5 HO_6 BK333 HB hx345_0 hx346_0 hHeld ⊢
                          refine pure_ (i := 0) (N := some 53) (v := ?_) (a' := ?_) #[true, false, false, false, false, false, false, false, false, false, false, false] rfl rfl (any_of HT_.out (by kernel_rfl)) (fun _ _ _ h => h) (Or.inl ⟨by rfl, ?_⟩) ?_ ?_
                          rotate_left
                          · intro w'
                            go_simp
                            with_reducible rfl
                          rotate_left
                          · simp only [Act.put, List.setIfInBounds_toArray, List.set_cons_zero, List.set_cons_succ, i64_w, i32_w]
                            rfl
                          refine pure_ (i := 1) (N := some 54) (v := ?_) (a' := ?_) #[true, true, false, false, false, false, false, false, false, false, false, false] rfl rfl (any_of HT_.out (by kernel_rfl)) (fun _ _ _ h => h) (Or.inl ⟨by rfl, ?_⟩) ?_ ?_
                          rotate_left
                          · intro w'
                            go_simp
                            with_reducible rfl
                          rotate_left
                          · simp only [Act.put, List.setIfInBounds_toArray, List.set_cons_zero, List.set_cons_succ, i64_w, i32_w]
                            rfl
                          refine pure_ (i := 2) (N := some 55) (v := ?_) (a' := ?_) #[true, true, true, false, false, false, false, false, false, false, false, false] rfl rfl (any_of HT_.out (by kernel_rfl)) (fun _ _ _ h => h) (Or.inl ⟨by rfl, ?_⟩) ?_ ?_
                          rotate_left
                          · intro w'
                            go_simp
                            with_reducible rfl
                          rotate_left
                          · simp only [Act.put, List.setIfInBounds_toArray, List.set_cons_zero, List.set_cons_succ, i64_w, i32_w]
                            rfl
                          refine pure_ (i := 4) (N := some 57) (v := ?_) (a' := ?_) #[true, true, true, false, true, false, false, false, false, false, false, false] rfl rfl (any_of HT_.out (by kernel_rfl)) (fun _ _ _ h => h) (Or.inl ⟨by rfl, ?_⟩) ?_ ?_
                          rotate_left
                          · intro w'
                            go_simp
                            with_reducible rfl
                          rotate_left
                          · simp only [Act.put, List.setIfInBounds_toArray, List.set_cons_zero, List.set_cons_succ, i64_w, i32_w]
                            rfl
                          refine pure_ (i := 5) (N := some 58) (v := ?_) (a' := ?_) #[true, true, true, false, true, true, false, false, false, false, false, false] rfl rfl (any_of HT_.out (by kernel_rfl)) (fun _ _ _ h => h) (Or.inl ⟨by rfl, ?_⟩) ?_ ?_
                          rotate_left
                          · intro w'
                            go_simp
                            with_reducible rfl
                          rotate_left
                          · simp only [Act.put, List.setIfInBounds_toArray, List.set_cons_zero, List.set_cons_succ, i64_w, i32_w]
                            rfl
                          refine pure_ (i := 6) (N := some 59) (v := ?_) (a' := ?_) #[true, true, true, false, true, true, true, false, false, false, false, false] rfl rfl (any_of HT_.out (by kernel_rfl)) (fun _ _ _ h => h) (Or.inl ⟨by rfl, ?_⟩) ?_ ?_
                          rotate_left
                          · intro w'
                            go_simp
                            with_reducible rfl
                          rotate_left
                          · simp only [Act.put, List.setIfInBounds_toArray, List.set_cons_zero, List.set_cons_succ, i64_w, i32_w]
                            rfl
                          refine take_ (i := 3) (N := some 56) (v := ?_) (a' := ?_) #[true, true, true, true, true, true, true, false, false, false, false, false] rfl rfl (take_ofW HT_.out HW_.out (by kernel_rfl)) (fun _ _ _ h => h) (Or.inl ⟨by rfl, ?_⟩) hHeld ?_ ?_
                          rotate_left
                          · rintro w' ⟨s0, s1⟩
                            go_simp
                            with_reducible rfl
                          rotate_left
                          · simp only [Act.put, List.setIfInBounds_toArray, List.set_cons_zero, List.set_cons_succ, i64_w, i32_w]
                            rfl
                          refine take_ (i := 7) (N := some 60) (v := ?_) (a' := ?_) #[true, true, true, true, true, true, true, true, false, false, false, false] rfl rfl (take_ofW HT_.out HW_.out (by kernel_rfl)) (fun _ _ _ h => h) (Or.inl ⟨by rfl, ?_⟩) hHeld ?_ ?_
                          rotate_left
                          · rintro w' ⟨s0, s1⟩
                            go_simp
                            with_reducible rfl
                          rotate_left
                          · simp only [Act.put, List.setIfInBounds_toArray, List.set_cons_zero, List.set_cons_succ, i64_w, i32_w]
                            rfl
                          refine pure_ (i := 8) (N := some 61) (v := ?_) (a' := ?_) #[true, true, true, true, true, true, true, true, true, false, false, false] rfl rfl (any_of HT_.out (by kernel_rfl)) (fun _ _ _ h => h) (Or.inl ⟨by rfl, ?_⟩) ?_ ?_
                          rotate_left
                          · intro w'
                            go_simp
                            with_reducible rfl
                          rotate_left
                          · simp only [Act.put, List.setIfInBounds_toArray, List.set_cons_zero, List.set_cons_succ, i64_w, i32_w]
                            rfl
                          refine pure_ (i := 9) (N := some 62) (v := ?_) (a' := ?_) #[true, true, true, true, true, true, true, true, true, true, false, false] rfl rfl (any_of HT_.out (by kernel_rfl)) (fun _ _ _ h => h) (Or.inl ⟨by rfl, ?_⟩) ?_ ?_
                          rotate_left
                          · intro w'
                            go_simp
                            with_reducible rfl
                          rotate_left
                          · simp only [Act.put, List.setIfInBounds_toArray, List.set_cons_zero, List.set_cons_succ, i64_w, i32_w]
                            rfl
                          refine one_ (i := 10) (N := some 10) #[true, true, true, true, true, true, true, true, true, true, true, false] rfl rfl (one_of HT_.out (by kernel_rfl)) (by decide) (fun K hK => ?_)
                          refine box_step ?hg (N := 10) ?hd (cs := #[.int .i64 0, .int .i64 0]) (t := 47) ?hr ?_; (case hd => rfl); (case hg => rfl); (case hr => first | (go_simp; done) | (go_simp; rfl))
                          intro gb347 hg w42 hbox hb
                          have HS0_ := (hb.cell (World.block_lt_of_cell? _ _ (hHeld.1))).trans (hHeld.1)
                          have HS1_ := (hb.cell (World.block_lt_of_cell? _ _ (hHeld.2))).trans (hHeld.2)
                          have n0_ := Aside0.mk (Kd.R_below (Kd.R_elderB (by (with_reducible repeat (first | apply Kd.R_alloc | apply Kd.R_drewN | apply Kd.R_drew)); exact HO_5.out) gb347 (Nat.le_of_eq hg.symm)) hb)
                          have n1_ := Aside0.mk (Kd.R_below (by (with_reducible repeat (first | apply Kd.R_alloc | apply Kd.R_drewN | apply Kd.R_drew)); exact HO_6.out) hb)
                          have n2_ := Aside0.mk (blk_below (g := gb333) (o := .cells #[.int .u8 a0_0, .int .i64 a0_1, .int .i64 a0_2, .int .u64 a0_3, .int .u64 a0_4, .int .u64 a0_5] 45 (0, 0)) (by (with_reducible repeat (first | refine blk_drewN ?_ _ | refine blk_drew ?_ | refine blk_alloc ?_ _)); exact BK333.out) hb)
                          have n3_ := Aside0.mk (below_step (by repeat (first | (with_reducible first | exact HB.out | apply below_alloc | apply pw_below_drewN | apply below_drew1 | refine below_set ?_ GE333.out) | exact HB.out)) hb)
                          have n4_ := Aside0.mk (hbox)
                          have n5_ := Aside0.mk ((by rw [hg]; exact (below_size (by repeat (first | (with_reducible first | exact HB.out | apply below_alloc | apply pw_below_drewN | apply below_drew1 | refine below_set ?_ GE333.out) | exact HB.out))) : w.heap.size ≤ gb347))
                          have n6_ := Aside0.mk ((by rw [hg]; exact (below_size (by repeat (first | (with_reducible first | exact HB.out | apply below_alloc | apply pw_below_drewN | apply below_drew1 | refine below_set ?_ GE333.out) | exact HB.out))) : w.heap.size ≤ gb347))
                          have n7_ := Aside0.mk ((by rw [hg]; exact Nat.ne_of_lt (blk_lt (g := gb333) (o := .cells #[.int .u8 a0_0, .int .i64 a0_1, .int .i64 a0_2, .int .u64 a0_3, .int .u64 a0_4, .int .u64 a0_5] 45 (0, 0)) (by (with_reducible repeat (first | refine blk_drewN ?_ _ | refine blk_drew ?_ | refine blk_alloc ?_ _)); exact BK333.out)) : gb333 ≠ gb347))
                          have n8_ := Aside0.mk ((by rw [hg]; exact Nat.ne_of_gt (blk_lt (g := gb333) (o := .cells #[.int .u8 a0_0, .int .i64 a0_1, .int .i64 a0_2, .int .u64 a0_3, .int .u64 a0_4, .int .u64 a0_5] 45 (0, 0)) (by (with_reducible repeat (first | refine blk_drewN ?_ _ | refine blk_drew ?_ | refine blk_alloc ?_ _)); exact BK333.out)) : gb347 ≠ gb333))
                          clear HO_5
                          clear HO_6
                          clear BK333
                          clear HB
                          have HO_5 := n0_
                          have HO_6 := n1_
                          have BK333 := n2_
                          have HB := n3_
                          have BK347 := n4_
                          have GW347 := n5_
                          have GE347 := n6_
                          have NB333_347 := n7_
                          have NB347_333 := n8_
                          clear n0_ n1_ n2_ n3_ n4_ n5_ n6_ n7_ n8_
                          clear hb hbox hg
                          refine hK.out _ _ ⟨HS0_, HS1_⟩ (fun hHeld => ?_)
                          clear hK K
                          refine norm_ (a' := ?_) ?_ ?_
                          rotate_left
                          · show Act.put _ (some 10) _ = _
                            simp only [Act.put, List.setIfInBounds_toArray, List.set_cons_zero, List.set_cons_succ, i64_w, i32_w]
                            rfl
                          refine one_ (i := 11) (N := none) #[true, true, true, true, true, true, true, true, true, true, true, true] rfl rfl (one_of HT_.out (by kernel_rfl)) (by decide) (fun K hK => ?_)
                          have hs43 : w42.cell? ⟨gb347, 0, none⟩ = some (.int .i64 0) := (blk_cell BK347.out 0).trans rfl
                          have hfs43 := blk_frozen BK347.out 0
                          have hns43_0 := NB333_347.out
                          have hms43_0 := NB347_333.out
                          have hs44 : w42.cell? ⟨gb347, 1, none⟩ = some (.int .i64 0) := (blk_cell BK347.out 1).trans rfl
                          have hfs44 := blk_frozen BK347.out 1
                          have hns44_0 := NB333_347.out
                          have hms44_0 := NB347_333.out
                          refine skip_ (w1 := ?_) (by rfl) rfl ?_ ?_
                          rotate_left
                          · go_simp
                            rfl
                          refine hK.out _ _ ⟨((cell_far (p := ⟨gb347, _, none⟩) (by first | exact Kd.own_blk (Kd.R_ne HO_6.out BK347.out (by decide)) | (rw [add_block]; exact Kd.own_blk (Kd.R_ne HO_6.out BK347.out (by decide))) | (show (Addr.add _ _).block ≠ _; rw [add_block]; exact Kd.own_blk (Kd.R_ne HO_6.out BK347.out (by decide))) | (dsimp only; exact Kd.own_blk (Kd.R_ne HO_6.out BK347.out (by decide)))) _).trans (((cell_far (p := ⟨gb347, _, none⟩) (by first | exact Kd.own_blk (Kd.R_ne HO_6.out BK347.out (by decide)) | (rw [add_block]; exact Kd.own_blk (Kd.R_ne HO_6.out BK347.out (by decide))) | (show (Addr.add _ _).block ≠ _; rw [add_block]; exact Kd.own_blk (Kd.R_ne HO_6.out BK347.out (by decide))) | (dsimp only; exact Kd.own_blk (Kd.R_ne HO_6.out BK347.out (by decide)))) _).trans (hHeld.1)))), ((cell_far (p := ⟨gb347, _, none⟩) (by first | exact Kd.own_blk (Kd.R_ne HO_6.out BK347.out (by decide)) | (rw [add_block]; exact Kd.own_blk (Kd.R_ne HO_6.out BK347.out (by decide))) | (show (Addr.add _ _).block ≠ _; rw [add_block]; exact Kd.own_blk (Kd.R_ne HO_6.out BK347.out (by decide))) | (dsimp only; exact Kd.own_blk (Kd.R_ne HO_6.out BK347.out (by decide)))) _).trans (((cell_far (p := ⟨gb347, _, none⟩) (by first | exact Kd.own_blk (Kd.R_ne HO_6.out BK347.out (by decide)) | (rw [add_block]; exact Kd.own_blk (Kd.R_ne HO_6.out BK347.out (by decide))) | (show (Addr.add _ _).block ≠ _; rw [add_block]; exact Kd.own_blk (Kd.R_ne HO_6.out BK347.out (by decide))) | (dsimp only; exact Kd.own_blk (Kd.R_ne HO_6.out BK347.out (by decide)))) _).trans (hHeld.2))))⟩ (fun hHeld => ?_)
                          clear hK K
                          refine done_ (done_of HT_.out (by kernel_rfl)) ?_
                          have hnb45 := NB333_347.out
                          have hnc45 := NB347_333.out
                          have hcz46_0 : w42.cell? ⟨gb333, 0, none⟩ = some (.int .u8 a0_0) := (blk_cell BK333.out 0).trans rfl
                          have hcz46_1 : w42.cell? ⟨gb333, 1, none⟩ = some (.int .i64 a0_1) := (blk_cell BK333.out 1).trans rfl
                          have hcz46_2 : w42.cell? ⟨gb333, 2, none⟩ = some (.int .i64 a0_2) := (blk_cell BK333.out 2).trans rfl
                          have hcz46_3 : w42.cell? ⟨gb333, 3, none⟩ = some (.int .u64 a0_3) := (blk_cell BK333.out 3).trans rfl
                          have hcz46_4 : w42.cell? ⟨gb333, 4, none⟩ = some (.int .u64 a0_4) := (blk_cell BK333.out 4).trans rfl
                          have hcz46_5 : w42.cell? ⟨gb333, 5, none⟩ = some (.int .u64 a0_5) := (blk_cell BK333.out 5).trans rfl
                          have hfz46_0 := blk_frozen BK333.out 0
                          have hfz46_1 := blk_frozen BK333.out 1
                          have hfz46_2 := blk_frozen BK333.out 2
                          have hfz46_3 := blk_frozen BK333.out 3
                          have hfz46_4 := blk_frozen BK333.out 4
                          have hfz46_5 := blk_frozen BK333.out 5
                          have hcz47_0 : w42.cell? ⟨gb347, 0, none⟩ = some (.int .i64 0) := (blk_cell BK347.out 0).trans rfl
                          have hcz47_1 : w42.cell? ⟨gb347, 1, none⟩ = some (.int .i64 0) := (blk_cell BK347.out 1).trans rfl
                          have hfz47_0 := blk_frozen BK347.out 0
                          have hfz47_1 := blk_frozen BK347.out 1
                          try go_wp2_with (first | ((with_reducible refine gate_callee (f := 64) rfl ?_); refine goesL_ (some 65) rfl rfl Try.func64 (by kernel_rfl) rfl #[.agg #[.int .u8 a0_0, .int .i64 a0_1, .int .i64 a0_2, .int .u64 a0_3, .int .u64 a0_4, .int .u64 a0_5], .agg #[.int .i64 (rd t335 x8_1), .int .i64 (Go.bits .xor .i64 (rd t335 x9_2) 1)]] rfl (by (try simp only [List.map_toArray, List.map_cons, List.map_nil]); first | done | rfl | (simp only [List.length_drop, List.length_take]; rfl)) ?_; (with_reducible refine (headendref03_IsSubset.calls k2 a0_0 a0_1 a0_2 a0_3 a0_4 a0_5 (rd t335 x8_1) (Go.bits .xor .i64 (rd t335 x9_2) 1) false _ A28.out).mono ?_); rintro e w48 ⟨rfl, hb⟩; refine ⟨_, rfl, ?_⟩; have n0_ := Aside0.mk (Kd.R_below (by (with_reducible repeat (first | apply Kd.R_alloc | apply Kd.R_drewN | apply Kd.R_drew)); exact (Kd.R_mono (Kd.R_far (p := ⟨gb347, 1, none⟩) (Kd.R_far (p := ⟨gb347, 0, none⟩) (Kd.R_mono HO_5.out (fun k_ hk => (⟨hk, hk.2⟩ : _ ∧ k_ ≠ gb347))) (fun _ hk => hk.2) (.int .i64 (rd t335 x8_1))) (fun _ hk => hk.2) (.int .i64 (Go.bits .xor .i64 (rd t335 x9_2) 1))) (fun _ h_ => h_.1))) hb); have n1_ := Aside0.mk (Kd.R_below (by (with_reducible repeat (first | apply Kd.R_alloc | apply Kd.R_drewN | apply Kd.R_drew)); exact (Kd.R_mono (Kd.R_far (p := ⟨gb347, 1, none⟩) (Kd.R_far (p := ⟨gb347, 0, none⟩) (Kd.R_types HO_6.out BK347.out (by decide)) (fun _ hk => hk.2) (.int .i64 (rd t335 x8_1))) (fun _ hk => hk.2) (.int .i64 (Go.bits .xor .i64 (rd t335 x9_2) 1))) (fun _ h_ => h_.1))) hb); have n2_ := Aside0.mk (blk_below (g := gb333) (o := .cells #[.int .u8 a0_0, .int .i64 a0_1, .int .i64 a0_2, .int .u64 a0_3, .int .u64 a0_4, .int .u64 a0_5] 45 (0, 0)) (by (with_reducible repeat (first | refine blk_drewN ?_ _ | refine blk_drew ?_ | refine blk_alloc ?_ _)); refine blk_far ?_ NB333_347.out _; (with_reducible repeat (first | refine blk_drewN ?_ _ | refine blk_drew ?_ | refine blk_alloc ?_ _)); refine blk_far ?_ NB333_347.out _; (with_reducible repeat (first | refine blk_drewN ?_ _ | refine blk_drew ?_ | refine blk_alloc ?_ _)); exact BK333.out) hb); have n3_ := Aside0.mk (blk_below (g := gb347) (o := .cells #[.int .i64 (rd t335 x8_1), .int .i64 (Go.bits .xor .i64 (rd t335 x9_2) 1)] 47 (0, 0)) (by (with_reducible repeat (first | refine blk_drewN ?_ _ | refine blk_drew ?_ | refine blk_alloc ?_ _)); refine blk_put (cs := #[.int .i64 (rd t335 x8_1), .int .i64 0]) ?_ 1 _ rfl; (with_reducible repeat (first | refine blk_drewN ?_ _ | refine blk_drew ?_ | refine blk_alloc ?_ _)); refine blk_put (cs := #[.int .i64 0, .int .i64 0]) ?_ 0 _ rfl; (with_reducible repeat (first | refine blk_drewN ?_ _ | refine blk_drew ?_ | refine blk_alloc ?_ _)); exact BK347.out) hb); have n4_ := Aside0.mk (below_step (by repeat (first | (with_reducible first | exact HB.out | apply below_alloc | apply pw_below_drewN | apply below_drew1 | refine below_set ?_ GE333.out | refine below_set ?_ GE347.out) | exact HB.out)) hb); clear HO_5; clear HO_6; clear BK333; clear BK347; clear HB; have HO_5 := n0_; have HO_6 := n1_; have BK333 := n2_; have BK347 := n3_; have HB := n4_; clear n0_ n1_ n2_ n3_ n4_; (try clear hb); (try clear hb2); (try clear hk); (try clear hi)))
                          go_roundg k2
                          case measure => have := HK1.out; have := HK2.out; omega
                          case rel => exact ⟨(x5_2), (wrap64 (x9_2 + 1)), (by first | rfl | (simp; done) | (simp [*]; done)), H', ⟨by have := HK1.out; have := HK2.out; omega⟩, ⟨by (with_reducible repeat (first | apply Kd.R_alloc | apply Kd.R_drewN | apply Kd.R_drew)); exact Kd.R_mono HO_5.out (fun _ hk => trivial)⟩, ⟨by (with_reducible repeat (first | apply Kd.R_alloc | apply Kd.R_drewN | apply Kd.R_drew)); exact HO_6.out⟩, ⟨by (with_reducible repeat (first | refine blk_drewN ?_ _ | refine blk_drew ?_ | refine blk_alloc ?_ _)); exact BK333.out⟩, ⟨by repeat (first | (with_reducible first | exact HB.out | apply below_alloc | apply pw_below_drewN | apply below_drew1 | refine below_set ?_ GE333.out | refine below_set ?_ GE347.out) | exact HB.out)⟩⟩
                      · rw [if_neg c27] at H
                        exact absurd H (by simp)
                    · rw [if_neg c26] at H
                      exact absurd H (by simp)
                  · rw [if_neg c25] at H
                    exact absurd H (by simp)
                · rw [if_neg c24] at H
                  have c24b0 : decide (x9_2 < (t335.length : Int)) = false := decide_eq_false c24
                  clear c24
                  have H' := Aside0.mk H
                  clear H
                  go_wp2
                  go_roundg k2
                  case measure => have := HK1.out; have := HK2.out; omega
                  case rel => exact ⟨(x5_2), (wrap64 (x8_1 + 1)), (by first | rfl | (simp; done) | (simp [*]; done)), H', ⟨by have := HK1.out; have := HK2.out; omega⟩, ⟨by (with_reducible repeat (first | apply Kd.R_alloc | apply Kd.R_drewN | apply Kd.R_drew)); exact HO_5.out⟩, ⟨by (with_reducible repeat (first | apply Kd.R_alloc | apply Kd.R_drewN | apply Kd.R_drew)); exact HO_6.out⟩, ⟨by (with_reducible repeat (first | refine blk_drewN ?_ _ | refine blk_drew ?_ | refine blk_alloc ?_ _)); exact BK333.out⟩, ⟨by repeat (first | (with_reducible first | exact HB.out | apply below_alloc | apply pw_below_drewN | apply below_drew1 | refine below_set ?_ GE333.out) | exact HB.out)⟩⟩
          · rw [if_neg c22] at H
            have c22b0 : decide (x8_1 < (t335.length : Int)) = false := decide_eq_false c22
            clear c22
            obtain rfl := Option.some.inj H
            obtain ⟨Ao49, co49, eo49⟩ := Kd.R_slice HO_6.out
            subst eo49
            go_wp2
            go_ret
            exact ⟨_, by first | rfl | (simp [errW_none, errW_some] <;> rfl) | (simp [*, errW_none, errW_some] <;> rfl), by (with_reducible repeat (first | apply Kd.R_alloc | apply Kd.R_drewN | apply Kd.R_drew)); exact HO_5.out, by repeat (first | (with_reducible first | exact HB.out | apply below_alloc | apply pw_below_drewN | apply below_drew1 | refine below_set ?_ GE333.out) | exact HB.out)⟩
    · rw [if_neg c16] at H
      exact absurd H (by simp)

end Go.Proofs.Ytafhimeoijmolaa.G

/- Written by wip/genprint.py: Lean functions with the Go functions' answers, and their contracts. -/
namespace Go.Proofs.Ytafhimeoijmolaa.G
open Go.RowKit Go.Proofs.YtafhimeoijmolaaW.PrintWords Go.Proofs.YtafhimeoijmolaaW.PrintLast Go.Proofs.YtafhimeoijmolaaW.PrintMore
attribute [local go_sem] max2_int min2_int max_two min_two max_three min_three max_four min_four   -- for this text's walks alone
set_option linter.unusedVariables false
set_option linter.unusedSimpArgs false

/-! ### headendref03_Storage: function 32 -/
def headendref03_Storage.f (k : Nat) (a0_0 : Int) (a0_1 : Int) (a0_2 : Int) (a0_3 : Int) (a0_4 : Int) (a0_5 : Int) : Option (Int × Int) := (headendref03_Valid.f a0_0 a0_1 a0_2 a0_3 a0_4 a0_5).bind fun t353 => (if t353 = true then ((headendref03_LabelsOf.f k a0_0 a0_1 a0_2 a0_3 a0_4 a0_5 0).bind fun t354 => (some ((t354.length : Int), 0))) else (some (0, 30)))
theorem headendref03_Storage.mono : ∀ a0 a1 a2 a3 a4 a5 k, LeO (headendref03_Storage.f k a0 a1 a2 a3 a4 a5) (headendref03_Storage.f (k + 1) a0 a1 a2 a3 a4 a5) := by
  intro a0 a1 a2 a3 a4 a5 k
  unfold headendref03_Storage.f
  repeat' first
      | (with_reducible exact headendref03_LabelsOf.mono _ _ _ _ _ _ _ _)
      | (with_reducible exact LeO.refl _)
      | (with_reducible exact LeO.none _)
      | (with_reducible refine LeO.ite ?_ ?_)
      | (with_reducible refine LeO.bind ?_ (fun _ => ?_))
      | exact headendref03_LabelsOf.mono _ _ _ _ _ _ _ _
      | exact LeO.none _
      | refine LeO.ite ?_ ?_
      | refine LeO.bind ?_ (fun _ => ?_)
set_option maxHeartbeats 8000000 in
set_option maxRecDepth 100000 in
theorem headendref03_Storage.calls (k : Nat) (a0_0 : Int) (a0_1 : Int) (a0_2 : Int) (a0_3 : Int) (a0_4 : Int) (a0_5 : Int) (r1 : Int) (r2 : Int) (w : World) (h : headendref03_Storage.f k a0_0 a0_1 a0_2 a0_3 a0_4 a0_5 = some (r1, r2)) :
    Calls Try.prog 32 #[.agg #[.int .u8 a0_0, .int .i64 a0_1, .int .i64 a0_2, .int .u64 a0_3, .int .u64 a0_4, .int .u64 a0_5]] w fun e w' => e = .returned (.tuple #[.int .i64 r1, .int .i64 r2]) ∧ Below w.heap.size w w' := by
  have hu45 := Try.underlying45
  have HB := Aside0.mk (Below.refl w.heap.size w)
  have H : ((headendref03_Valid.f a0_0 a0_1 a0_2 a0_3 a0_4 a0_5).bind fun t353 => (if t353 = true then ((headendref03_LabelsOf.f k a0_0 a0_1 a0_2 a0_3 a0_4 a0_5 0).bind fun t354 => (some ((t354.length : Int), 0))) else (some (0, 30)))) = some (r1, r2) := h
  clear h
  replace H := Option.bind_eq_some_iff.mp H
  obtain ⟨t353, A20, H⟩ := H
  replace H : (if t353 = true then ((headendref03_LabelsOf.f k a0_0 a0_1 a0_2 a0_3 a0_4 a0_5 0).bind fun t354 => (some ((t354.length : Int), 0))) else (some (0, 30))) = some (r1, r2) := H
  have A2 := Aside0.mk A20
  clear A20
  by_cases c3 : t353 = true
  · subst c3
    have H1 : ((headendref03_LabelsOf.f k a0_0 a0_1 a0_2 a0_3 a0_4 a0_5 0).bind fun t354 => (some ((t354.length : Int), 0))) = some (r1, r2) := by rw [if_pos rfl] at H; exact H
    clear H
    have H := H1
    clear H1
    replace H := Option.bind_eq_some_iff.mp H
    obtain ⟨t354, A40, H⟩ := H
    replace H : (some ((t354.length : Int), 0)) = some (r1, r2) := H
    have A4 := Aside0.mk A40
    clear A40
    simp only [Option.some.injEq, Prod.mk.injEq] at H
    obtain ⟨rfl, rfl⟩ := H
    go_enter Try.func32, Try.ntmps32
    go_wp2_with (first | ((with_reducible refine gate_dst (N := 1) rfl ?_); refine box_event ?hg (N := 1) ?hd (cs := #[.int .u8 a0_0, .int .i64 a0_1, .int .i64 a0_2, .int .u64 a0_3, .int .u64 a0_4, .int .u64 a0_5]) (t := 45) ?hr ?_; (case hd => rfl); (case hg => rfl); (case hr => first | (go_simp; done) | (go_simp; rfl)); intro gb352 hg w5 hbox hb; have n0_ := Aside0.mk (below_step (by repeat (first | (with_reducible first | exact HB.out | apply below_alloc | apply pw_below_drewN | apply below_drew1) | exact HB.out)) hb); have n1_ := Aside0.mk (hbox); have n2_ := Aside0.mk ((by rw [hg]; exact (below_size (by repeat (first | (with_reducible first | exact HB.out | apply below_alloc | apply pw_below_drewN | apply below_drew1) | exact HB.out))) : w.heap.size ≤ gb352)); have n3_ := Aside0.mk ((by rw [hg]; exact (below_size (by repeat (first | (with_reducible first | exact HB.out | apply below_alloc | apply pw_below_drewN | apply below_drew1) | exact HB.out))) : w.heap.size ≤ gb352)); clear HB; have HB := n0_; have BK352 := n1_; have GW352 := n2_; have GE352 := n3_; clear n0_ n1_ n2_ n3_; clear hb hbox hg; have hcz6_0 : w5.cell? ⟨gb352, 0, none⟩ = some (.int .u8 a0_0) := (blk_cell BK352.out 0).trans rfl; have hcz6_1 : w5.cell? ⟨gb352, 1, none⟩ = some (.int .i64 a0_1) := (blk_cell BK352.out 1).trans rfl; have hcz6_2 : w5.cell? ⟨gb352, 2, none⟩ = some (.int .i64 a0_2) := (blk_cell BK352.out 2).trans rfl; have hcz6_3 : w5.cell? ⟨gb352, 3, none⟩ = some (.int .u64 a0_3) := (blk_cell BK352.out 3).trans rfl; have hcz6_4 : w5.cell? ⟨gb352, 4, none⟩ = some (.int .u64 a0_4) := (blk_cell BK352.out 4).trans rfl; have hcz6_5 : w5.cell? ⟨gb352, 5, none⟩ = some (.int .u64 a0_5) := (blk_cell BK352.out 5).trans rfl; have hfz6_0 := blk_frozen BK352.out 0; have hfz6_1 := blk_frozen BK352.out 1; have hfz6_2 := blk_frozen BK352.out 2; have hfz6_3 := blk_frozen BK352.out 3; have hfz6_4 := blk_frozen BK352.out 4; have hfz6_5 := blk_frozen BK352.out 5) | ((with_reducible refine gate_callee (f := 61) rfl ?_); refine goesL_ (some 5) rfl rfl Try.func61 (by kernel_rfl) rfl #[.agg #[.int .u8 a0_0, .int .i64 a0_1, .int .i64 a0_2, .int .u64 a0_3, .int .u64 a0_4, .int .u64 a0_5]] rfl (by (try simp only [List.map_toArray, List.map_cons, List.map_nil]); first | done | rfl | (simp only [List.length_drop, List.length_take]; rfl)) ?_; (with_reducible refine (headendref03_Valid.calls a0_0 a0_1 a0_2 a0_3 a0_4 a0_5 true _ A2.out).mono ?_); rintro e w7 ⟨rfl, hb⟩; refine ⟨_, rfl, ?_⟩; have n0_ := Aside0.mk (blk_below (g := gb352) (o := .cells #[.int .u8 a0_0, .int .i64 a0_1, .int .i64 a0_2, .int .u64 a0_3, .int .u64 a0_4, .int .u64 a0_5] 45 (0, 0)) (by (with_reducible repeat (first | refine blk_drewN ?_ _ | refine blk_drew ?_ | refine blk_alloc ?_ _)); exact BK352.out) hb); have n1_ := Aside0.mk (below_step (by repeat (first | (with_reducible first | exact HB.out | apply below_alloc | apply pw_below_drewN | apply below_drew1 | refine below_set ?_ GE352.out) | exact HB.out)) hb); clear BK352; clear HB; have BK352 := n0_; have HB := n1_; clear n0_ n1_; (try clear hb); (try clear hb2); (try clear hk); (try clear hi); have hcz8_0 : w7.cell? ⟨gb352, 0, none⟩ = some (.int .u8 a0_0) := (blk_cell BK352.out 0).trans rfl; have hcz8_1 : w7.cell? ⟨gb352, 1, none⟩ = some (.int .i64 a0_1) := (blk_cell BK352.out 1).trans rfl; have hcz8_2 : w7.cell? ⟨gb352, 2, none⟩ = some (.int .i64 a0_2) := (blk_cell BK352.out 2).trans rfl; have hcz8_3 : w7.cell? ⟨gb352, 3, none⟩ = some (.int .u64 a0_3) := (blk_cell BK352.out 3).trans rfl; have hcz8_4 : w7.cell? ⟨gb352, 4, none⟩ = some (.int .u64 a0_4) := (blk_cell BK352.out 4).trans rfl; have hcz8_5 : w7.cell? ⟨gb352, 5, none⟩ = some (.int .u64 a0_5) := (blk_cell BK352.out 5).trans rfl; have hfz8_0 := blk_frozen BK352.out 0; have hfz8_1 := blk_frozen BK352.out 1; have hfz8_2 := blk_frozen BK352.out 2; have hfz8_3 := blk_frozen BK352.out 3; have hfz8_4 := blk_frozen BK352.out 4; have hfz8_5 := blk_frozen BK352.out 5) | ((with_reducible refine gate_callee (f := 83) rfl ?_); refine goesL_ (some 8) rfl rfl Try.func83 (by kernel_rfl) rfl #[.agg #[.int .u8 a0_0, .int .i64 a0_1, .int .i64 a0_2, .int .u64 a0_3, .int .u64 a0_4, .int .u64 a0_5], .int .i64 0] rfl (by (try simp only [List.map_toArray, List.map_cons, List.map_nil]); first | done | rfl | (simp only [List.length_drop, List.length_take]; rfl)) ?_; (with_reducible refine (headendref03_LabelsOf.calls k a0_0 a0_1 a0_2 a0_3 a0_4 a0_5 0 t354 _ A4.out).mono ?_); rintro e w9 ⟨v355, rfl, ho0, hb⟩; refine ⟨_, rfl, ?_⟩; have n0_ := Aside0.mk (Kd.R_lower ho0 (below_size (by repeat (first | (with_reducible first | exact HB.out | apply below_alloc | apply pw_below_drewN | apply below_drew1 | refine below_set ?_ GE352.out) | exact HB.out)))); have n1_ := Aside0.mk (blk_below (g := gb352) (o := .cells #[.int .u8 a0_0, .int .i64 a0_1, .int .i64 a0_2, .int .u64 a0_3, .int .u64 a0_4, .int .u64 a0_5] 45 (0, 0)) (by (with_reducible repeat (first | refine blk_drewN ?_ _ | refine blk_drew ?_ | refine blk_alloc ?_ _)); exact BK352.out) hb); have n2_ := Aside0.mk (below_step (by repeat (first | (with_reducible first | exact HB.out | apply below_alloc | apply pw_below_drewN | apply below_drew1 | refine below_set ?_ GE352.out) | exact HB.out)) hb); clear BK352; clear HB; have HO356 := n0_; have BK352 := n1_; have HB := n2_; clear n0_ n1_ n2_; (try clear hb); (try clear hb2); (try clear hk); (try clear hi); (try clear ho0); obtain ⟨Ao10, co10, eo10⟩ := Kd.R_slice HO356.out; subst eo10))
    go_ret2
    exact ⟨by first | rfl | (simp [errW_none, errW_some] <;> rfl) | (simp [*, errW_none, errW_some] <;> rfl), by repeat (first | (with_reducible first | exact HB.out | apply below_alloc | apply pw_below_drewN | apply below_drew1 | refine below_set ?_ GE352.out) | exact HB.out)⟩
  · replace c3 := Bool.eq_false_iff.mpr c3
    subst c3
    have H1 : (some (0, 30)) = some (r1, r2) := by rw [if_neg (show ¬ (false = true) by decide)] at H; exact H
    clear H
    have H := H1
    clear H1
    simp only [Option.some.injEq, Prod.mk.injEq] at H
    obtain ⟨rfl, rfl⟩ := H
    go_enter Try.func32, Try.ntmps32
    go_wp2_with (first | ((with_reducible refine gate_dst (N := 1) rfl ?_); refine box_event ?hg (N := 1) ?hd (cs := #[.int .u8 a0_0, .int .i64 a0_1, .int .i64 a0_2, .int .u64 a0_3, .int .u64 a0_4, .int .u64 a0_5]) (t := 45) ?hr ?_; (case hd => rfl); (case hg => rfl); (case hr => first | (go_simp; done) | (go_simp; rfl)); intro gb352 hg w11 hbox hb; have n0_ := Aside0.mk (below_step (by repeat (first | (with_reducible first | exact HB.out | apply below_alloc | apply pw_below_drewN | apply below_drew1) | exact HB.out)) hb); have n1_ := Aside0.mk (hbox); have n2_ := Aside0.mk ((by rw [hg]; exact (below_size (by repeat (first | (with_reducible first | exact HB.out | apply below_alloc | apply pw_below_drewN | apply below_drew1) | exact HB.out))) : w.heap.size ≤ gb352)); have n3_ := Aside0.mk ((by rw [hg]; exact (below_size (by repeat (first | (with_reducible first | exact HB.out | apply below_alloc | apply pw_below_drewN | apply below_drew1) | exact HB.out))) : w.heap.size ≤ gb352)); clear HB; have HB := n0_; have BK352 := n1_; have GW352 := n2_; have GE352 := n3_; clear n0_ n1_ n2_ n3_; clear hb hbox hg; have hcz12_0 : w11.cell? ⟨gb352, 0, none⟩ = some (.int .u8 a0_0) := (blk_cell BK352.out 0).trans rfl; have hcz12_1 : w11.cell? ⟨gb352, 1, none⟩ = some (.int .i64 a0_1) := (blk_cell BK352.out 1).trans rfl; have hcz12_2 : w11.cell? ⟨gb352, 2, none⟩ = some (.int .i64 a0_2) := (blk_cell BK352.out 2).trans rfl; have hcz12_3 : w11.cell? ⟨gb352, 3, none⟩ = some (.int .u64 a0_3) := (blk_cell BK352.out 3).trans rfl; have hcz12_4 : w11.cell? ⟨gb352, 4, none⟩ = some (.int .u64 a0_4) := (blk_cell BK352.out 4).trans rfl; have hcz12_5 : w11.cell? ⟨gb352, 5, none⟩ = some (.int .u64 a0_5) := (blk_cell BK352.out 5).trans rfl; have hfz12_0 := blk_frozen BK352.out 0; have hfz12_1 := blk_frozen BK352.out 1; have hfz12_2 := blk_frozen BK352.out 2; have hfz12_3 := blk_frozen BK352.out 3; have hfz12_4 := blk_frozen BK352.out 4; have hfz12_5 := blk_frozen BK352.out 5) | ((with_reducible refine gate_callee (f := 61) rfl ?_); refine goesL_ (some 5) rfl rfl Try.func61 (by kernel_rfl) rfl #[.agg #[.int .u8 a0_0, .int .i64 a0_1, .int .i64 a0_2, .int .u64 a0_3, .int .u64 a0_4, .int .u64 a0_5]] rfl (by (try simp only [List.map_toArray, List.map_cons, List.map_nil]); first | done | rfl | (simp only [List.length_drop, List.length_take]; rfl)) ?_; (with_reducible refine (headendref03_Valid.calls a0_0 a0_1 a0_2 a0_3 a0_4 a0_5 false _ A2.out).mono ?_); rintro e w13 ⟨rfl, hb⟩; refine ⟨_, rfl, ?_⟩; have n0_ := Aside0.mk (blk_below (g := gb352) (o := .cells #[.int .u8 a0_0, .int .i64 a0_1, .int .i64 a0_2, .int .u64 a0_3, .int .u64 a0_4, .int .u64 a0_5] 45 (0, 0)) (by (with_reducible repeat (first | refine blk_drewN ?_ _ | refine blk_drew ?_ | refine blk_alloc ?_ _)); exact BK352.out) hb); have n1_ := Aside0.mk (below_step (by repeat (first | (with_reducible first | exact HB.out | apply below_alloc | apply pw_below_drewN | apply below_drew1 | refine below_set ?_ GE352.out) | exact HB.out)) hb); clear BK352; clear HB; have BK352 := n0_; have HB := n1_; clear n0_ n1_; (try clear hb); (try clear hb2); (try clear hk); (try clear hi)))
    go_ret2
    exact ⟨by first | rfl | (simp [errW_none, errW_some] <;> rfl) | (simp [*, errW_none, errW_some] <;> rfl), by repeat (first | (with_reducible first | exact HB.out | apply below_alloc | apply pw_below_drewN | apply below_drew1 | refine below_set ?_ GE352.out) | exact HB.out)⟩

end Go.Proofs.Ytafhimeoijmolaa.G

/- Written by wip/genprint.py: Lean functions with the Go functions' answers, and their contracts. -/
namespace Go.Proofs.Ytafhimeoijmolaa.G
open Go.RowKit Go.Proofs.YtafhimeoijmolaaW.PrintWords Go.Proofs.YtafhimeoijmolaaW.PrintLast Go.Proofs.YtafhimeoijmolaaW.PrintMore
attribute [local go_sem] max2_int min2_int max_two min_two max_three min_three max_four min_four   -- for this text's walks alone
set_option linter.unusedVariables false
set_option linter.unusedSimpArgs false

/-! ### cover_Check: function 33 -/
def cover_Check.f (k : Nat) (a0_0 : Int) (a0_1 : Int) (a0_2 : Int) (a0_3 : Int) (a0_4 : Int) (a0_5 : Int) : Option (Int) := (cover_treeOf.f k a0_0 a0_1 a0_2 a0_3 a0_4 a0_5).bind fun bt361 => (if bt361.2.2.2 = true then (some 0) else (some 30))
theorem cover_Check.mono : ∀ a0 a1 a2 a3 a4 a5 k, LeO (cover_Check.f k a0 a1 a2 a3 a4 a5) (cover_Check.f (k + 1) a0 a1 a2 a3 a4 a5) := by
  intro a0 a1 a2 a3 a4 a5 k
  unfold cover_Check.f
  repeat' first
      | (with_reducible exact cover_treeOf.mono _ _ _ _ _ _ _)
      | (with_reducible exact LeO.refl _)
      | (with_reducible exact LeO.none _)
      | (with_reducible refine LeO.ite ?_ ?_)
      | (with_reducible refine LeO.bind ?_ (fun _ => ?_))
      | exact cover_treeOf.mono _ _ _ _ _ _ _
      | exact LeO.none _
      | refine LeO.ite ?_ ?_
      | refine LeO.bind ?_ (fun _ => ?_)
set_option maxHeartbeats 8000000 in
set_option maxRecDepth 100000 in
theorem cover_Check.calls (k : Nat) (a0_0 : Int) (a0_1 : Int) (a0_2 : Int) (a0_3 : Int) (a0_4 : Int) (a0_5 : Int) (r : Int) (w : World) (h : cover_Check.f k a0_0 a0_1 a0_2 a0_3 a0_4 a0_5 = some r) :
    Calls Try.prog 33 #[.agg #[.int .u8 a0_0, .int .i64 a0_1, .int .i64 a0_2, .int .u64 a0_3, .int .u64 a0_4, .int .u64 a0_5]] w fun e w' => e = .returned (.int .i64 r) ∧ Below w.heap.size w w' := by
  have hu45 := Try.underlying45
  have hu134 := Try.underlying134
  have HB := Aside0.mk (Below.refl w.heap.size w)
  have H : ((cover_treeOf.f k a0_0 a0_1 a0_2 a0_3 a0_4 a0_5).bind fun bt361 => (if bt361.2.2.2 = true then (some 0) else (some 30))) = some r := h
  clear h
  replace H := Option.bind_eq_some_iff.mp H
  obtain ⟨⟨t361, t362, t363, t364⟩, A20, H⟩ := H
  replace H : (if t364 = true then (some 0) else (some 30)) = some r := H
  have A2 := Aside0.mk A20
  clear A20
  by_cases c3 : t364 = true
  · subst c3
    have H1 : (some 0) = some r := by rw [if_pos rfl] at H; exact H
    clear H
    have H := H1
    clear H1
    obtain rfl := Option.some.inj H
    go_enter Try.func33, Try.ntmps33
    go_wp2_with (first | ((with_reducible refine gate_dst (N := 1) rfl ?_); refine box_event ?hg (N := 1) ?hd (cs := #[.int .u8 a0_0, .int .i64 a0_1, .int .i64 a0_2, .int .u64 a0_3, .int .u64 a0_4, .int .u64 a0_5]) (t := 45) ?hr ?_; (case hd => rfl); (case hg => rfl); (case hr => first | (go_simp; done) | (go_simp; rfl)); intro gb360 hg w4 hbox hb; have n0_ := Aside0.mk (below_step (by repeat (first | (with_reducible first | exact HB.out | apply below_alloc | apply pw_below_drewN | apply below_drew1) | exact HB.out)) hb); have n1_ := Aside0.mk (hbox); have n2_ := Aside0.mk ((by rw [hg]; exact (below_size (by repeat (first | (with_reducible first | exact HB.out | apply below_alloc | apply pw_below_drewN | apply below_drew1) | exact HB.out))) : w.heap.size ≤ gb360)); have n3_ := Aside0.mk ((by rw [hg]; exact (below_size (by repeat (first | (with_reducible first | exact HB.out | apply below_alloc | apply pw_below_drewN | apply below_drew1) | exact HB.out))) : w.heap.size ≤ gb360)); clear HB; have HB := n0_; have BK360 := n1_; have GW360 := n2_; have GE360 := n3_; clear n0_ n1_ n2_ n3_; clear hb hbox hg; have hcz5_0 : w4.cell? ⟨gb360, 0, none⟩ = some (.int .u8 a0_0) := (blk_cell BK360.out 0).trans rfl; have hcz5_1 : w4.cell? ⟨gb360, 1, none⟩ = some (.int .i64 a0_1) := (blk_cell BK360.out 1).trans rfl; have hcz5_2 : w4.cell? ⟨gb360, 2, none⟩ = some (.int .i64 a0_2) := (blk_cell BK360.out 2).trans rfl; have hcz5_3 : w4.cell? ⟨gb360, 3, none⟩ = some (.int .u64 a0_3) := (blk_cell BK360.out 3).trans rfl; have hcz5_4 : w4.cell? ⟨gb360, 4, none⟩ = some (.int .u64 a0_4) := (blk_cell BK360.out 4).trans rfl; have hcz5_5 : w4.cell? ⟨gb360, 5, none⟩ = some (.int .u64 a0_5) := (blk_cell BK360.out 5).trans rfl; have hfz5_0 := blk_frozen BK360.out 0; have hfz5_1 := blk_frozen BK360.out 1; have hfz5_2 := blk_frozen BK360.out 2; have hfz5_3 := blk_frozen BK360.out 3; have hfz5_4 := blk_frozen BK360.out 4; have hfz5_5 := blk_frozen BK360.out 5) | ((with_reducible refine gate_callee (f := 84) rfl ?_); refine goesL_ (some 7) rfl rfl Try.func84 (by kernel_rfl) rfl #[.agg #[.int .u8 a0_0, .int .i64 a0_1, .int .i64 a0_2, .int .u64 a0_3, .int .u64 a0_4, .int .u64 a0_5]] rfl (by (try simp only [List.map_toArray, List.map_cons, List.map_nil]); first | done | rfl | (simp only [List.length_drop, List.length_take]; rfl)) ?_; (with_reducible refine (cover_treeOf.calls k a0_0 a0_1 a0_2 a0_3 a0_4 a0_5 t361 t362 t363 true _ A2.out).mono ?_); rintro e w6 ⟨rfl, hb⟩; refine ⟨_, rfl, ?_⟩; have n0_ := Aside0.mk (blk_below (g := gb360) (o := .cells #[.int .u8 a0_0, .int .i64 a0_1, .int .i64 a0_2, .int .u64 a0_3, .int .u64 a0_4, .int .u64 a0_5] 45 (0, 0)) (by (with_reducible repeat (first | refine blk_drewN ?_ _ | refine blk_drew ?_ | refine blk_alloc ?_ _)); exact BK360.out) hb); have n1_ := Aside0.mk (below_step (by repeat (first | (with_reducible first | exact HB.out | apply below_alloc | apply pw_below_drewN | apply below_drew1 | refine below_set ?_ GE360.out) | exact HB.out)) hb); clear BK360; clear HB; have BK360 := n0_; have HB := n1_; clear n0_ n1_; (try clear hb); (try clear hb2); (try clear hk); (try clear hi)) | ((with_reducible refine gate_dst (N := 3) rfl ?_); refine box_event ?hg (N := 3) ?hd (cs := #[.int .u8 0, .int .i64 0, .int .i64 0]) (t := 134) ?hr ?_; (case hd => rfl); (case hg => rfl); (case hr => first | (go_simp; done) | (go_simp; rfl)); intro gb365 hg w7 hbox hb; have n0_ := Aside0.mk (blk_below (g := gb360) (o := .cells #[.int .u8 a0_0, .int .i64 a0_1, .int .i64 a0_2, .int .u64 a0_3, .int .u64 a0_4, .int .u64 a0_5] 45 (0, 0)) (by (with_reducible repeat (first | refine blk_drewN ?_ _ | refine blk_drew ?_ | refine blk_alloc ?_ _)); exact BK360.out) hb); have n1_ := Aside0.mk (below_step (by repeat (first | (with_reducible first | exact HB.out | apply below_alloc | apply pw_below_drewN | apply below_drew1 | refine below_set ?_ GE360.out) | exact HB.out)) hb); have n2_ := Aside0.mk (hbox); have n3_ := Aside0.mk ((by rw [hg]; exact (below_size (by repeat (first | (with_reducible first | exact HB.out | apply below_alloc | apply pw_below_drewN | apply below_drew1 | refine below_set ?_ GE360.out) | exact HB.out))) : w.heap.size ≤ gb365)); have n4_ := Aside0.mk ((by rw [hg]; exact (below_size (by repeat (first | (with_reducible first | exact HB.out | apply below_alloc | apply pw_below_drewN | apply below_drew1 | refine below_set ?_ GE360.out) | exact HB.out))) : w.heap.size ≤ gb365)); have n5_ := Aside0.mk ((by rw [hg]; exact Nat.ne_of_lt (blk_lt (g := gb360) (o := .cells #[.int .u8 a0_0, .int .i64 a0_1, .int .i64 a0_2, .int .u64 a0_3, .int .u64 a0_4, .int .u64 a0_5] 45 (0, 0)) (by (with_reducible repeat (first | refine blk_drewN ?_ _ | refine blk_drew ?_ | refine blk_alloc ?_ _)); exact BK360.out)) : gb360 ≠ gb365)); have n6_ := Aside0.mk ((by rw [hg]; exact Nat.ne_of_gt (blk_lt (g := gb360) (o := .cells #[.int .u8 a0_0, .int .i64 a0_1, .int .i64 a0_2, .int .u64 a0_3, .int .u64 a0_4, .int .u64 a0_5] 45 (0, 0)) (by (with_reducible repeat (first | refine blk_drewN ?_ _ | refine blk_drew ?_ | refine blk_alloc ?_ _)); exact BK360.out)) : gb365 ≠ gb360)); clear BK360; clear HB; have BK360 := n0_; have HB := n1_; have BK365 := n2_; have GW365 := n3_; have GE365 := n4_; have NB360_365 := n5_; have NB365_360 := n6_; clear n0_ n1_ n2_ n3_ n4_ n5_ n6_; clear hb hbox hg; have hnb8 := NB365_360.out; have hnc8 := NB360_365.out; have hcz9_0 : w7.cell? ⟨gb365, 0, none⟩ = some (.int .u8 0) := (blk_cell BK365.out 0).trans rfl; have hcz9_1 : w7.cell? ⟨gb365, 1, none⟩ = some (.int .i64 0) := (blk_cell BK365.out 1).trans rfl; have hcz9_2 : w7.cell? ⟨gb365, 2, none⟩ = some (.int .i64 0) := (blk_cell BK365.out 2).trans rfl; have hfz9_0 := blk_frozen BK365.out 0; have hfz9_1 := blk_frozen BK365.out 1; have hfz9_2 := blk_frozen BK365.out 2))
    go_ret
    exact ⟨by first | rfl | (simp [errW_none, errW_some] <;> rfl) | (simp [*, errW_none, errW_some] <;> rfl), by repeat (first | (with_reducible first | exact HB.out | apply below_alloc | apply pw_below_drewN | apply below_drew1 | refine below_set ?_ GE360.out | refine below_set ?_ GE365.out) | exact HB.out)⟩
  · replace c3 := Bool.eq_false_iff.mpr c3
    subst c3
    have H1 : (some 30) = some r := by rw [if_neg (show ¬ (false = true) by decide)] at H; exact H
    clear H
    have H := H1
    clear H1
    obtain rfl := Option.some.inj H
    go_enter Try.func33, Try.ntmps33
    go_wp2_with (first | ((with_reducible refine gate_dst (N := 1) rfl ?_); refine box_event ?hg (N := 1) ?hd (cs := #[.int .u8 a0_0, .int .i64 a0_1, .int .i64 a0_2, .int .u64 a0_3, .int .u64 a0_4, .int .u64 a0_5]) (t := 45) ?hr ?_; (case hd => rfl); (case hg => rfl); (case hr => first | (go_simp; done) | (go_simp; rfl)); intro gb360 hg w10 hbox hb; have n0_ := Aside0.mk (below_step (by repeat (first | (with_reducible first | exact HB.out | apply below_alloc | apply pw_below_drewN | apply below_drew1) | exact HB.out)) hb); have n1_ := Aside0.mk (hbox); have n2_ := Aside0.mk ((by rw [hg]; exact (below_size (by repeat (first | (with_reducible first | exact HB.out | apply below_alloc | apply pw_below_drewN | apply below_drew1) | exact HB.out))) : w.heap.size ≤ gb360)); have n3_ := Aside0.mk ((by rw [hg]; exact (below_size (by repeat (first | (with_reducible first | exact HB.out | apply below_alloc | apply pw_below_drewN | apply below_drew1) | exact HB.out))) : w.heap.size ≤ gb360)); clear HB; have HB := n0_; have BK360 := n1_; have GW360 := n2_; have GE360 := n3_; clear n0_ n1_ n2_ n3_; clear hb hbox hg; have hcz11_0 : w10.cell? ⟨gb360, 0, none⟩ = some (.int .u8 a0_0) := (blk_cell BK360.out 0).trans rfl; have hcz11_1 : w10.cell? ⟨gb360, 1, none⟩ = some (.int .i64 a0_1) := (blk_cell BK360.out 1).trans rfl; have hcz11_2 : w10.cell? ⟨gb360, 2, none⟩ = some (.int .i64 a0_2) := (blk_cell BK360.out 2).trans rfl; have hcz11_3 : w10.cell? ⟨gb360, 3, none⟩ = some (.int .u64 a0_3) := (blk_cell BK360.out 3).trans rfl; have hcz11_4 : w10.cell? ⟨gb360, 4, none⟩ = some (.int .u64 a0_4) := (blk_cell BK360.out 4).trans rfl; have hcz11_5 : w10.cell? ⟨gb360, 5, none⟩ = some (.int .u64 a0_5) := (blk_cell BK360.out 5).trans rfl; have hfz11_0 := blk_frozen BK360.out 0; have hfz11_1 := blk_frozen BK360.out 1; have hfz11_2 := blk_frozen BK360.out 2; have hfz11_3 := blk_frozen BK360.out 3; have hfz11_4 := blk_frozen BK360.out 4; have hfz11_5 := blk_frozen BK360.out 5) | ((with_reducible refine gate_callee (f := 84) rfl ?_); refine goesL_ (some 7) rfl rfl Try.func84 (by kernel_rfl) rfl #[.agg #[.int .u8 a0_0, .int .i64 a0_1, .int .i64 a0_2, .int .u64 a0_3, .int .u64 a0_4, .int .u64 a0_5]] rfl (by (try simp only [List.map_toArray, List.map_cons, List.map_nil]); first | done | rfl | (simp only [List.length_drop, List.length_take]; rfl)) ?_; (with_reducible refine (cover_treeOf.calls k a0_0 a0_1 a0_2 a0_3 a0_4 a0_5 t361 t362 t363 false _ A2.out).mono ?_); rintro e w12 ⟨rfl, hb⟩; refine ⟨_, rfl, ?_⟩; have n0_ := Aside0.mk (blk_below (g := gb360) (o := .cells #[.int .u8 a0_0, .int .i64 a0_1, .int .i64 a0_2, .int .u64 a0_3, .int .u64 a0_4, .int .u64 a0_5] 45 (0, 0)) (by (with_reducible repeat (first | refine blk_drewN ?_ _ | refine blk_drew ?_ | refine blk_alloc ?_ _)); exact BK360.out) hb); have n1_ := Aside0.mk (below_step (by repeat (first | (with_reducible first | exact HB.out | apply below_alloc | apply pw_below_drewN | apply below_drew1 | refine below_set ?_ GE360.out) | exact HB.out)) hb); clear BK360; clear HB; have BK360 := n0_; have HB := n1_; clear n0_ n1_; (try clear hb); (try clear hb2); (try clear hk); (try clear hi)) | ((with_reducible refine gate_dst (N := 3) rfl ?_); refine box_event ?hg (N := 3) ?hd (cs := #[.int .u8 0, .int .i64 0, .int .i64 0]) (t := 134) ?hr ?_; (case hd => rfl); (case hg => rfl); (case hr => first | (go_simp; done) | (go_simp; rfl)); intro gb365 hg w13 hbox hb; have n0_ := Aside0.mk (blk_below (g := gb360) (o := .cells #[.int .u8 a0_0, .int .i64 a0_1, .int .i64 a0_2, .int .u64 a0_3, .int .u64 a0_4, .int .u64 a0_5] 45 (0, 0)) (by (with_reducible repeat (first | refine blk_drewN ?_ _ | refine blk_drew ?_ | refine blk_alloc ?_ _)); exact BK360.out) hb); have n1_ := Aside0.mk (below_step (by repeat (first | (with_reducible first | exact HB.out | apply below_alloc | apply pw_below_drewN | apply below_drew1 | refine below_set ?_ GE360.out) | exact HB.out)) hb); have n2_ := Aside0.mk (hbox); have n3_ := Aside0.mk ((by rw [hg]; exact (below_size (by repeat (first | (with_reducible first | exact HB.out | apply below_alloc | apply pw_below_drewN | apply below_drew1 | refine below_set ?_ GE360.out) | exact HB.out))) : w.heap.size ≤ gb365)); have n4_ := Aside0.mk ((by rw [hg]; exact (below_size (by repeat (first | (with_reducible first | exact HB.out | apply below_alloc | apply pw_below_drewN | apply below_drew1 | refine below_set ?_ GE360.out) | exact HB.out))) : w.heap.size ≤ gb365)); have n5_ := Aside0.mk ((by rw [hg]; exact Nat.ne_of_lt (blk_lt (g := gb360) (o := .cells #[.int .u8 a0_0, .int .i64 a0_1, .int .i64 a0_2, .int .u64 a0_3, .int .u64 a0_4, .int .u64 a0_5] 45 (0, 0)) (by (with_reducible repeat (first | refine blk_drewN ?_ _ | refine blk_drew ?_ | refine blk_alloc ?_ _)); exact BK360.out)) : gb360 ≠ gb365)); have n6_ := Aside0.mk ((by rw [hg]; exact Nat.ne_of_gt (blk_lt (g := gb360) (o := .cells #[.int .u8 a0_0, .int .i64 a0_1, .int .i64 a0_2, .int .u64 a0_3, .int .u64 a0_4, .int .u64 a0_5] 45 (0, 0)) (by (with_reducible repeat (first | refine blk_drewN ?_ _ | refine blk_drew ?_ | refine blk_alloc ?_ _)); exact BK360.out)) : gb365 ≠ gb360)); clear BK360; clear HB; have BK360 := n0_; have HB := n1_; have BK365 := n2_; have GW365 := n3_; have GE365 := n4_; have NB360_365 := n5_; have NB365_360 := n6_; clear n0_ n1_ n2_ n3_ n4_ n5_ n6_; clear hb hbox hg; have hnb14 := NB365_360.out; have hnc14 := NB360_365.out; have hcz15_0 : w13.cell? ⟨gb365, 0, none⟩ = some (.int .u8 0) := (blk_cell BK365.out 0).trans rfl; have hcz15_1 : w13.cell? ⟨gb365, 1, none⟩ = some (.int .i64 0) := (blk_cell BK365.out 1).trans rfl; have hcz15_2 : w13.cell? ⟨gb365, 2, none⟩ = some (.int .i64 0) := (blk_cell BK365.out 2).trans rfl; have hfz15_0 := blk_frozen BK365.out 0; have hfz15_1 := blk_frozen BK365.out 1; have hfz15_2 := blk_frozen BK365.out 2))
    go_ret
    exact ⟨by first | rfl | (simp [errW_none, errW_some] <;> rfl) | (simp [*, errW_none, errW_some] <;> rfl), by repeat (first | (with_reducible first | exact HB.out | apply below_alloc | apply pw_below_drewN | apply below_drew1 | refine below_set ?_ GE360.out | refine below_set ?_ GE365.out) | exact HB.out)⟩

end Go.Proofs.Ytafhimeoijmolaa.G

/- Written by wip/genprint.py: Lean functions with the Go functions' answers, and their contracts. -/
namespace Go.Proofs.Ytafhimeoijmolaa.G
open Go.RowKit Go.Proofs.YtafhimeoijmolaaW.PrintWords Go.Proofs.YtafhimeoijmolaaW.PrintLast Go.Proofs.YtafhimeoijmolaaW.PrintMore
attribute [local go_sem] max2_int min2_int max_two min_two max_three min_three max_four min_four   -- for this text's walks alone
set_option linter.unusedVariables false
set_option linter.unusedSimpArgs false

/-! ### headendref03_Check: function 34 -/
def headendref03_Check.f (a0_0 : Int) (a0_1 : Int) (a0_2 : Int) (a0_3 : Int) (a0_4 : Int) (a0_5 : Int) : Option (Int) := (headendref03_Valid.f a0_0 a0_1 a0_2 a0_3 a0_4 a0_5).bind fun t367 => (if t367 = true then (some 0) else (some 30))
set_option maxHeartbeats 8000000 in
set_option maxRecDepth 100000 in
theorem headendref03_Check.calls (a0_0 : Int) (a0_1 : Int) (a0_2 : Int) (a0_3 : Int) (a0_4 : Int) (a0_5 : Int) (r : Int) (w : World) (h : headendref03_Check.f a0_0 a0_1 a0_2 a0_3 a0_4 a0_5 = some r) :
    Calls Try.prog 34 #[.agg #[.int .u8 a0_0, .int .i64 a0_1, .int .i64 a0_2, .int .u64 a0_3, .int .u64 a0_4, .int .u64 a0_5]] w fun e w' => e = .returned (.int .i64 r) ∧ Below w.heap.size w w' := by
  have hu45 := Try.underlying45
  have HB := Aside0.mk (Below.refl w.heap.size w)
  have H : ((headendref03_Valid.f a0_0 a0_1 a0_2 a0_3 a0_4 a0_5).bind fun t367 => (if t367 = true then (some 0) else (some 30))) = some r := h
  clear h
  replace H := Option.bind_eq_some_iff.mp H
  obtain ⟨t367, A20, H⟩ := H
  replace H : (if t367 = true then (some 0) else (some 30)) = some r := H
  have A2 := Aside0.mk A20
  clear A20
  by_cases c3 : t367 = true
  · subst c3
    have H1 : (some 0) = some r := by rw [if_pos rfl] at H; exact H
    clear H
    have H := H1
    clear H1
    obtain rfl := Option.some.inj H
    go_enter Try.func34, Try.ntmps34
    go_wp2_with (first | ((with_reducible refine gate_dst (N := 1) rfl ?_); refine box_event ?hg (N := 1) ?hd (cs := #[.int .u8 a0_0, .int .i64 a0_1, .int .i64 a0_2, .int .u64 a0_3, .int .u64 a0_4, .int .u64 a0_5]) (t := 45) ?hr ?_; (case hd => rfl); (case hg => rfl); (case hr => first | (go_simp; done) | (go_simp; rfl)); intro gb366 hg w4 hbox hb; have n0_ := Aside0.mk (below_step (by repeat (first | (with_reducible first | exact HB.out | apply below_alloc | apply pw_below_drewN | apply below_drew1) | exact HB.out)) hb); have n1_ := Aside0.mk (hbox); have n2_ := Aside0.mk ((by rw [hg]; exact (below_size (by repeat (first | (with_reducible first | exact HB.out | apply below_alloc | apply pw_below_drewN | apply below_drew1) | exact HB.out))) : w.heap.size ≤ gb366)); have n3_ := Aside0.mk ((by rw [hg]; exact (below_size (by repeat (first | (with_reducible first | exact HB.out | apply below_alloc | apply pw_below_drewN | apply below_drew1) | exact HB.out))) : w.heap.size ≤ gb366)); clear HB; have HB := n0_; have BK366 := n1_; have GW366 := n2_; have GE366 := n3_; clear n0_ n1_ n2_ n3_; clear hb hbox hg; have hcz5_0 : w4.cell? ⟨gb366, 0, none⟩ = some (.int .u8 a0_0) := (blk_cell BK366.out 0).trans rfl; have hcz5_1 : w4.cell? ⟨gb366, 1, none⟩ = some (.int .i64 a0_1) := (blk_cell BK366.out 1).trans rfl; have hcz5_2 : w4.cell? ⟨gb366, 2, none⟩ = some (.int .i64 a0_2) := (blk_cell BK366.out 2).trans rfl; have hcz5_3 : w4.cell? ⟨gb366, 3, none⟩ = some (.int .u64 a0_3) := (blk_cell BK366.out 3).trans rfl; have hcz5_4 : w4.cell? ⟨gb366, 4, none⟩ = some (.int .u64 a0_4) := (blk_cell BK366.out 4).trans rfl; have hcz5_5 : w4.cell? ⟨gb366, 5, none⟩ = some (.int .u64 a0_5) := (blk_cell BK366.out 5).trans rfl; have hfz5_0 := blk_frozen BK366.out 0; have hfz5_1 := blk_frozen BK366.out 1; have hfz5_2 := blk_frozen BK366.out 2; have hfz5_3 := blk_frozen BK366.out 3; have hfz5_4 := blk_frozen BK366.out 4; have hfz5_5 := blk_frozen BK366.out 5) | ((with_reducible refine gate_callee (f := 61) rfl ?_); refine goesL_ (some 4) rfl rfl Try.func61 (by kernel_rfl) rfl #[.agg #[.int .u8 a0_0, .int .i64 a0_1, .int .i64 a0_2, .int .u64 a0_3, .int .u64 a0_4, .int .u64 a0_5]] rfl (by (try simp only [List.map_toArray, List.map_cons, List.map_nil]); first | done | rfl | (simp only [List.length_drop, List.length_take]; rfl)) ?_; (with_reducible refine (headendref03_Valid.calls a0_0 a0_1 a0_2 a0_3 a0_4 a0_5 true _ A2.out).mono ?_); rintro e w6 ⟨rfl, hb⟩; refine ⟨_, rfl, ?_⟩; have n0_ := Aside0.mk (blk_below (g := gb366) (o := .cells #[.int .u8 a0_0, .int .i64 a0_1, .int .i64 a0_2, .int .u64 a0_3, .int .u64 a0_4, .int .u64 a0_5] 45 (0, 0)) (by (with_reducible repeat (first | refine blk_drewN ?_ _ | refine blk_drew ?_ | refine blk_alloc ?_ _)); exact BK366.out) hb); have n1_ := Aside0.mk (below_step (by repeat (first | (with_reducible first | exact HB.out | apply below_alloc | apply pw_below_drewN | apply below_drew1 | refine below_set ?_ GE366.out) | exact HB.out)) hb); clear BK366; clear HB; have BK366 := n0_; have HB := n1_; clear n0_ n1_; (try clear hb); (try clear hb2); (try clear hk); (try clear hi)))
    go_ret
    exact ⟨by first | rfl | (simp [errW_none, errW_some] <;> rfl) | (simp [*, errW_none, errW_some] <;> rfl), by repeat (first | (with_reducible first | exact HB.out | apply below_alloc | apply pw_below_drewN | apply below_drew1 | refine below_set ?_ GE366.out) | exact HB.out)⟩
  · replace c3 := Bool.eq_false_iff.mpr c3
    subst c3
    have H1 : (some 30) = some r := by rw [if_neg (show ¬ (false = true) by decide)] at H; exact H
    clear H
    have H := H1
    clear H1
    obtain rfl := Option.some.inj H
    go_enter Try.func34, Try.ntmps34
    go_wp2_with (first | ((with_reducible refine gate_dst (N := 1) rfl ?_); refine box_event ?hg (N := 1) ?hd (cs := #[.int .u8 a0_0, .int .i64 a0_1, .int .i64 a0_2, .int .u64 a0_3, .int .u64 a0_4, .int .u64 a0_5]) (t := 45) ?hr ?_; (case hd => rfl); (case hg => rfl); (case hr => first | (go_simp; done) | (go_simp; rfl)); intro gb366 hg w7 hbox hb; have n0_ := Aside0.mk (below_step (by repeat (first | (with_reducible first | exact HB.out | apply below_alloc | apply pw_below_drewN | apply below_drew1) | exact HB.out)) hb); have n1_ := Aside0.mk (hbox); have n2_ := Aside0.mk ((by rw [hg]; exact (below_size (by repeat (first | (with_reducible first | exact HB.out | apply below_alloc | apply pw_below_drewN | apply below_drew1) | exact HB.out))) : w.heap.size ≤ gb366)); have n3_ := Aside0.mk ((by rw [hg]; exact (below_size (by repeat (first | (with_reducible first | exact HB.out | apply below_alloc | apply pw_below_drewN | apply below_drew1) | exact HB.out))) : w.heap.size ≤ gb366)); clear HB; have HB := n0_; have BK366 := n1_; have GW366 := n2_; have GE366 := n3_; clear n0_ n1_ n2_ n3_; clear hb hbox hg; have hcz8_0 : w7.cell? ⟨gb366, 0, none⟩ = some (.int .u8 a0_0) := (blk_cell BK366.out 0).trans rfl; have hcz8_1 : w7.cell? ⟨gb366, 1, none⟩ = some (.int .i64 a0_1) := (blk_cell BK366.out 1).trans rfl; have hcz8_2 : w7.cell? ⟨gb366, 2, none⟩ = some (.int .i64 a0_2) := (blk_cell BK366.out 2).trans rfl; have hcz8_3 : w7.cell? ⟨gb366, 3, none⟩ = some (.int .u64 a0_3) := (blk_cell BK366.out 3).trans rfl; have hcz8_4 : w7.cell? ⟨gb366, 4, none⟩ = some (.int .u64 a0_4) := (blk_cell BK366.out 4).trans rfl; have hcz8_5 : w7.cell? ⟨gb366, 5, none⟩ = some (.int .u64 a0_5) := (blk_cell BK366.out 5).trans rfl; have hfz8_0 := blk_frozen BK366.out 0; have hfz8_1 := blk_frozen BK366.out 1; have hfz8_2 := blk_frozen BK366.out 2; have hfz8_3 := blk_frozen BK366.out 3; have hfz8_4 := blk_frozen BK366.out 4; have hfz8_5 := blk_frozen BK366.out 5) | ((with_reducible refine gate_callee (f := 61) rfl ?_); refine goesL_ (some 4) rfl rfl Try.func61 (by kernel_rfl) rfl #[.agg #[.int .u8 a0_0, .int .i64 a0_1, .int .i64 a0_2, .int .u64 a0_3, .int .u64 a0_4, .int .u64 a0_5]] rfl (by (try simp only [List.map_toArray, List.map_cons, List.map_nil]); first | done | rfl | (simp only [List.length_drop, List.length_take]; rfl)) ?_; (with_reducible refine (headendref03_Valid.calls a0_0 a0_1 a0_2 a0_3 a0_4 a0_5 false _ A2.out).mono ?_); rintro e w9 ⟨rfl, hb⟩; refine ⟨_, rfl, ?_⟩; have n0_ := Aside0.mk (blk_below (g := gb366) (o := .cells #[.int .u8 a0_0, .int .i64 a0_1, .int .i64 a0_2, .int .u64 a0_3, .int .u64 a0_4, .int .u64 a0_5] 45 (0, 0)) (by (with_reducible repeat (first | refine blk_drewN ?_ _ | refine blk_drew ?_ | refine blk_alloc ?_ _)); exact BK366.out) hb); have n1_ := Aside0.mk (below_step (by repeat (first | (with_reducible first | exact HB.out | apply below_alloc | apply pw_below_drewN | apply below_drew1 | refine below_set ?_ GE366.out) | exact HB.out)) hb); clear BK366; clear HB; have BK366 := n0_; have HB := n1_; clear n0_ n1_; (try clear hb); (try clear hb2); (try clear hk); (try clear hi)))
    go_ret
    exact ⟨by first | rfl | (simp [errW_none, errW_some] <;> rfl) | (simp [*, errW_none, errW_some] <;> rfl), by repeat (first | (with_reducible first | exact HB.out | apply below_alloc | apply pw_below_drewN | apply below_drew1 | refine below_set ?_ GE366.out) | exact HB.out)⟩

end Go.Proofs.Ytafhimeoijmolaa.G

/- Written by wip/genprint.py: Lean functions with the Go functions' answers, and their contracts. -/
namespace Go.Proofs.Ytafhimeoijmolaa.G
open Go.RowKit Go.Proofs.YtafhimeoijmolaaW.PrintWords Go.Proofs.YtafhimeoijmolaaW.PrintLast Go.Proofs.YtafhimeoijmolaaW.PrintMore
attribute [local go_sem] max2_int min2_int max_two min_two max_three min_three max_four min_four   -- for this text's walks alone
set_option linter.unusedVariables false
set_option linter.unusedSimpArgs false

/-! ### cover_Members: function 35 -/
def cover_Members.f (k : Nat) (a0_0 : Int) (a0_1 : Int) (a0_2 : Int) (a0_3 : Int) (a0_4 : Int) (a0_5 : Int) (a1_0 : Int) (a1_1 : Int) : Option (List Int × Int) := (cover_enter.f k a0_0 a0_1 a0_2 a0_3 a0_4 a0_5 (([(⟨a1_0, a1_1⟩ : S47)] : List (S47)))).bind fun bt414 => (if bt414.2.2.2 = 0 then ((cover_tree_members.f k bt414.1 bt414.2.1 bt414.2.2.1 a1_0 a1_1).bind fun t419 => (some (t419, 0))) else (some (([] : List Int), bt414.2.2.2)))
theorem cover_Members.mono : ∀ a0 a1 a2 a3 a4 a5 a6 a7 k, LeO (cover_Members.f k a0 a1 a2 a3 a4 a5 a6 a7) (cover_Members.f (k + 1) a0 a1 a2 a3 a4 a5 a6 a7) := by
  intro a0 a1 a2 a3 a4 a5 a6 a7 k
  unfold cover_Members.f
  repeat' first
      | (with_reducible exact cover_enter.mono _ _ _ _ _ _ _ _)
      | (with_reducible exact cover_tree_members.mono _ _ _ _ _ _)
      | (with_reducible exact LeO.refl _)
      | (with_reducible exact LeO.none _)
      | (with_reducible refine LeO.ite ?_ ?_)
      | (with_reducible refine LeO.bind ?_ (fun _ => ?_))
      | exact cover_enter.mono _ _ _ _ _ _ _ _
      | exact cover_tree_members.mono _ _ _ _ _ _
      | exact LeO.none _
      | refine LeO.ite ?_ ?_
      | refine LeO.bind ?_ (fun _ => ?_)
set_option maxHeartbeats 8000000 in
set_option maxRecDepth 100000 in
theorem cover_Members.calls (k : Nat) (a0_0 : Int) (a0_1 : Int) (a0_2 : Int) (a0_3 : Int) (a0_4 : Int) (a0_5 : Int) (a1_0 : Int) (a1_1 : Int) (r1 : List Int) (r2 : Int) (w : World) (h : cover_Members.f k a0_0 a0_1 a0_2 a0_3 a0_4 a0_5 a1_0 a1_1 = some (r1, r2)) :
    Calls Try.prog 35 #[.agg #[.int .u8 a0_0, .int .i64 a0_1, .int .i64 a0_2, .int .u64 a0_3, .int .u64 a0_4, .int .u64 a0_5], .agg #[.int .i64 a1_0, .int .i64 a1_1]] w fun e w' => ∃ v0_ : Value, e = .returned (.tuple #[v0_, .int .i64 r2]) ∧ Kd.R (Kd.int .i64) 3 w' w.heap.size (fun _ => True) v0_ r1 ∧ Below w.heap.size w w' := by
  have hu45 := Try.underlying45
  have hu47 := Try.underlying47
  have hu134 := Try.underlying134
  have HB := Aside0.mk (Below.refl w.heap.size w)
  have H : ((cover_enter.f k a0_0 a0_1 a0_2 a0_3 a0_4 a0_5 (([(⟨a1_0, a1_1⟩ : S47)] : List (S47)))).bind fun bt414 => (if bt414.2.2.2 = 0 then ((cover_tree_members.f k bt414.1 bt414.2.1 bt414.2.2.1 a1_0 a1_1).bind fun t419 => (some (t419, 0))) else (some (([] : List Int), bt414.2.2.2)))) = some (r1, r2) := h
  clear h
  obtain ⟨y411, hy411⟩ : ∃ y_ : List (S47), y_ = (([(⟨a1_0, a1_1⟩ : S47)] : List (S47))) := ⟨_, rfl⟩
  replace H : ((cover_enter.f k a0_0 a0_1 a0_2 a0_3 a0_4 a0_5 y411).bind fun bt414 => (if bt414.2.2.2 = 0 then ((cover_tree_members.f k bt414.1 bt414.2.1 bt414.2.2.1 a1_0 a1_1).bind fun t419 => (some (t419, 0))) else (some (([] : List Int), bt414.2.2.2)))) = some (r1, r2) := by first | (rw [hy411]; with_reducible exact H) | (have H2_ := (Option.bind_some _ _).symm.trans H; rw [hy411]; with_reducible exact H2_) | (have H2_ := (Option.bind_some _ _).symm.trans H; with_reducible exact H2_) | with_reducible exact H | (rw [hy411]; exact H) | exact H
  have Ny411 := Aside0.mk hy411
  clear hy411
  replace H := Option.bind_eq_some_iff.mp H
  obtain ⟨⟨t414, t415, t416, t417⟩, A30, H⟩ := H
  replace H : (if t417 = 0 then ((cover_tree_members.f k t414 t415 t416 a1_0 a1_1).bind fun t419 => (some (t419, 0))) else (some (([] : List Int), t417))) = some (r1, r2) := H
  have A3 := Aside0.mk A30
  clear A30
  by_cases c4 : t417 = 0
  · rw [if_pos c4] at H
    have c4b0 : (t417 == 0) = true := beq_iff_eq.mpr c4
    have c4b1 : (t417 != 0) = false := bne_eq_false_iff_eq.mpr c4
    clear c4
    replace H := Option.bind_eq_some_iff.mp H
    obtain ⟨t419, A50, H⟩ := H
    replace H : (some (t419, 0)) = some (r1, r2) := H
    have A5 := Aside0.mk A50
    clear A50
    simp only [Option.some.injEq, Prod.mk.injEq] at H
    obtain ⟨rfl, rfl⟩ := H
    go_enter Try.func35, Try.ntmps35
    go_wp2_with (first | ((with_reducible refine gate_dst (N := 2) rfl ?_); refine box_event ?hg (N := 2) ?hd (cs := #[.int .u8 a0_0, .int .i64 a0_1, .int .i64 a0_2, .int .u64 a0_3, .int .u64 a0_4, .int .u64 a0_5]) (t := 45) ?hr ?_; (case hd => rfl); (case hg => rfl); (case hr => first | (go_simp; done) | (go_simp; rfl)); intro gb409 hg w6 hbox hb; have n0_ := Aside0.mk (below_step (by repeat (first | (with_reducible first | exact HB.out | apply below_alloc | apply pw_below_drewN | apply below_drew1) | exact HB.out)) hb); have n1_ := Aside0.mk (hbox); have n2_ := Aside0.mk ((by rw [hg]; exact (below_size (by repeat (first | (with_reducible first | exact HB.out | apply below_alloc | apply pw_below_drewN | apply below_drew1) | exact HB.out))) : w.heap.size ≤ gb409)); have n3_ := Aside0.mk ((by rw [hg]; exact (below_size (by repeat (first | (with_reducible first | exact HB.out | apply below_alloc | apply pw_below_drewN | apply below_drew1) | exact HB.out))) : w.heap.size ≤ gb409)); clear HB; have HB := n0_; have BK409 := n1_; have GW409 := n2_; have GE409 := n3_; clear n0_ n1_ n2_ n3_; clear hb hbox hg) | ((with_reducible refine gate_dst (N := 3) rfl ?_); refine box_event ?hg (N := 3) ?hd (cs := #[.int .i64 a1_0, .int .i64 a1_1]) (t := 47) ?hr ?_; (case hd => rfl); (case hg => rfl); (case hr => first | (go_simp; done) | (go_simp; rfl)); intro gb410 hg w7 hbox hb; have n0_ := Aside0.mk (blk_below (g := gb409) (o := .cells #[.int .u8 a0_0, .int .i64 a0_1, .int .i64 a0_2, .int .u64 a0_3, .int .u64 a0_4, .int .u64 a0_5] 45 (0, 0)) (by (with_reducible repeat (first | refine blk_drewN ?_ _ | refine blk_drew ?_ | refine blk_alloc ?_ _)); exact BK409.out) hb); have n1_ := Aside0.mk (below_step (by repeat (first | (with_reducible first | exact HB.out | apply below_alloc | apply pw_below_drewN | apply below_drew1 | refine below_set ?_ GE409.out) | exact HB.out)) hb); have n2_ := Aside0.mk (hbox); have n3_ := Aside0.mk ((by rw [hg]; exact (below_size (by repeat (first | (with_reducible first | exact HB.out | apply below_alloc | apply pw_below_drewN | apply below_drew1 | refine below_set ?_ GE409.out) | exact HB.out))) : w.heap.size ≤ gb410)); have n4_ := Aside0.mk ((by rw [hg]; exact (below_size (by repeat (first | (with_reducible first | exact HB.out | apply below_alloc | apply pw_below_drewN | apply below_drew1 | refine below_set ?_ GE409.out) | exact HB.out))) : w.heap.size ≤ gb410)); have n5_ := Aside0.mk ((by rw [hg]; exact Nat.ne_of_lt (blk_lt (g := gb409) (o := .cells #[.int .u8 a0_0, .int .i64 a0_1, .int .i64 a0_2, .int .u64 a0_3, .int .u64 a0_4, .int .u64 a0_5] 45 (0, 0)) (by (with_reducible repeat (first | refine blk_drewN ?_ _ | refine blk_drew ?_ | refine blk_alloc ?_ _)); exact BK409.out)) : gb409 ≠ gb410)); have n6_ := Aside0.mk ((by rw [hg]; exact Nat.ne_of_gt (blk_lt (g := gb409) (o := .cells #[.int .u8 a0_0, .int .i64 a0_1, .int .i64 a0_2, .int .u64 a0_3, .int .u64 a0_4, .int .u64 a0_5] 45 (0, 0)) (by (with_reducible repeat (first | refine blk_drewN ?_ _ | refine blk_drew ?_ | refine blk_alloc ?_ _)); exact BK409.out)) : gb410 ≠ gb409)); clear BK409; clear HB; have BK409 := n0_; have HB := n1_; have BK410 := n2_; have GW410 := n3_; have GE410 := n4_; have NB409_410 := n5_; have NB410_409 := n6_; clear n0_ n1_ n2_ n3_ n4_ n5_ n6_; clear hb hbox hg; have hnb8 := NB409_410.out; have hnc8 := NB410_409.out; have hcz9_0 : w7.cell? ⟨gb409, 0, none⟩ = some (.int .u8 a0_0) := (blk_cell BK409.out 0).trans rfl; have hcz9_1 : w7.cell? ⟨gb409, 1, none⟩ = some (.int .i64 a0_1) := (blk_cell BK409.out 1).trans rfl; have hcz9_2 : w7.cell? ⟨gb409, 2, none⟩ = some (.int .i64 a0_2) := (blk_cell BK409.out 2).trans rfl; have hcz9_3 : w7.cell? ⟨gb409, 3, none⟩ = some (.int .u64 a0_3) := (blk_cell BK409.out 3).trans rfl; have hcz9_4 : w7.cell? ⟨gb409, 4, none⟩ = some (.int .u64 a0_4) := (blk_cell BK409.out 4).trans rfl; have hcz9_5 : w7.cell? ⟨gb409, 5, none⟩ = some (.int .u64 a0_5) := (blk_cell BK409.out 5).trans rfl; have hfz9_0 := blk_frozen BK409.out 0; have hfz9_1 := blk_frozen BK409.out 1; have hfz9_2 := blk_frozen BK409.out 2; have hfz9_3 := blk_frozen BK409.out 3; have hfz9_4 := blk_frozen BK409.out 4; have hfz9_5 := blk_frozen BK409.out 5; have hcz10_0 : w7.cell? ⟨gb410, 0, none⟩ = some (.int .i64 a1_0) := (blk_cell BK410.out 0).trans rfl; have hcz10_1 : w7.cell? ⟨gb410, 1, none⟩ = some (.int .i64 a1_1) := (blk_cell BK410.out 1).trans rfl; have hfz10_0 := blk_frozen BK410.out 0; have hfz10_1 := blk_frozen BK410.out 1) | ((with_reducible refine gate_dst (N := 11) rfl ?_); refine Kd.R_lit k47 _ 47 ?hg (N := 11) ?hd (xs := ([(⟨a1_0, a1_1⟩ : S47)] : List (S47))) (inner := [.int .i64 a1_0, .int .i64 a1_1]) (ok := fun _ => True) (okp := fun _ => True) ?hr ?hp (fun _ hk => hk) trivial (Below.refl _ _) (Nat.le_refl _) (by simp) ?_; (case hd => rfl); (case hg => rfl); (case hr => first | (go_simp; done) | (go_simp; rfl)); (case hp => exact (Reps.c2 (show Kd.M k47 _ _ _ (⟨a1_0, a1_1⟩ : S47) [.int .i64 a1_0, .int .i64 a1_1] from (k47_mkM _ _ _ (⟨a1_0, a1_1⟩ : S47) )) (Reps.none _ _))); intro v412 w11 ho12 hb hg_ hnew_; clear hg_ hnew_; (first | rw [← Ny411.out] at ho12 | (simp only [Int.reduceToNat] at ho12; rw [← Ny411.out] at ho12)); have n0_ := Aside0.mk (Kd.R_lower (Kd.R_newB ho12 (g := gb410) (o := .cells #[.int .i64 a1_0, .int .i64 a1_1] 47 (0, 0)) (by (with_reducible repeat (first | refine blk_drewN ?_ _ | refine blk_drew ?_ | refine blk_alloc ?_ _)); exact BK410.out)) (below_size (by repeat (first | (with_reducible first | exact HB.out | apply below_alloc | apply pw_below_drewN | apply below_drew1 | refine below_set ?_ GE409.out | refine below_set ?_ GE410.out) | exact HB.out)))); have n1_ := Aside0.mk (blk_below (g := gb409) (o := .cells #[.int .u8 a0_0, .int .i64 a0_1, .int .i64 a0_2, .int .u64 a0_3, .int .u64 a0_4, .int .u64 a0_5] 45 (0, 0)) (by (with_reducible repeat (first | refine blk_drewN ?_ _ | refine blk_drew ?_ | refine blk_alloc ?_ _)); exact BK409.out) hb); have n2_ := Aside0.mk (blk_below (g := gb410) (o := .cells #[.int .i64 a1_0, .int .i64 a1_1] 47 (0, 0)) (by (with_reducible repeat (first | refine blk_drewN ?_ _ | refine blk_drew ?_ | refine blk_alloc ?_ _)); exact BK410.out) hb); have n3_ := Aside0.mk (below_step (by repeat (first | (with_reducible first | exact HB.out | apply below_alloc | apply pw_below_drewN | apply below_drew1 | refine below_set ?_ GE409.out | refine below_set ?_ GE410.out) | exact HB.out)) hb); clear BK409; clear BK410; clear HB; have HO413 := n0_; have BK409 := n1_; have BK410 := n2_; have HB := n3_; clear n0_ n1_ n2_ n3_; clear hb ho12; obtain ⟨Ao13, co13, eo13⟩ := Kd.R_slice HO413.out; subst eo13) | ((with_reducible refine gate_callee (f := 74) rfl ?_); refine goesL_ (some 12) rfl rfl Try.func74 (by kernel_rfl) rfl #[.agg #[.int .u8 a0_0, .int .i64 a0_1, .int .i64 a0_2, .int .u64 a0_3, .int .u64 a0_4, .int .u64 a0_5], .slice Ao13 y411.length co13] rfl (by (try simp only [List.map_toArray, List.map_cons, List.map_nil]); first | done | rfl | (simp only [List.length_drop, List.length_take]; rfl)) ?_; (with_reducible refine (cover_enter.calls k a0_0 a0_1 a0_2 a0_3 a0_4 a0_5 _ _ y411 t414 t415 t416 t417 _ ?side1 ?side2 A3.out).mono ?_); (case side1 => repeat (first | exact (Kd.R_reads' HO413.out).2.2 | (with_reducible refine Kd.C_alloc ?_ _) | (with_reducible refine Kd.C_drewN ?_ _) | (with_reducible refine Kd.C_drew ?_))); (case side2 => exact (Kd.R_reads' HO413.out).2.1); rintro e w14 ⟨rfl, hb⟩; refine ⟨_, rfl, ?_⟩; have n0_ := Aside0.mk (Kd.R_below (by (with_reducible repeat (first | apply Kd.R_alloc | apply Kd.R_drewN | apply Kd.R_drew)); exact HO413.out) hb); have n1_ := Aside0.mk (blk_below (g := gb409) (o := .cells #[.int .u8 a0_0, .int .i64 a0_1, .int .i64 a0_2, .int .u64 a0_3, .int .u64 a0_4, .int .u64 a0_5] 45 (0, 0)) (by (with_reducible repeat (first | refine blk_drewN ?_ _ | refine blk_drew ?_ | refine blk_alloc ?_ _)); exact BK409.out) hb); have n2_ := Aside0.mk (blk_below (g := gb410) (o := .cells #[.int .i64 a1_0, .int .i64 a1_1] 47 (0, 0)) (by (with_reducible repeat (first | refine blk_drewN ?_ _ | refine blk_drew ?_ | refine blk_alloc ?_ _)); exact BK410.out) hb); have n3_ := Aside0.mk (below_step (by repeat (first | (with_reducible first | exact HB.out | apply below_alloc | apply pw_below_drewN | apply below_drew1 | refine below_set ?_ GE409.out | refine below_set ?_ GE410.out) | exact HB.out)) hb); clear HO413; clear BK409; clear BK410; clear HB; have HO413 := n0_; have BK409 := n1_; have BK410 := n2_; have HB := n3_; clear n0_ n1_ n2_ n3_; (try clear hb); (try clear hb2); (try clear hk); (try clear hi)) | ((with_reducible refine gate_dst (N := 6) rfl ?_); refine box_event ?hg (N := 6) ?hd (cs := #[.int .u8 0, .int .i64 0, .int .i64 0]) (t := 134) ?hr ?_; (case hd => rfl); (case hg => rfl); (case hr => first | (go_simp; done) | (go_simp; rfl)); intro gb418 hg w15 hbox hb; have n0_ := Aside0.mk (Kd.R_below (by (with_reducible repeat (first | apply Kd.R_alloc | apply Kd.R_drewN | apply Kd.R_drew)); exact HO413.out) hb); have n1_ := Aside0.mk (blk_below (g := gb409) (o := .cells #[.int .u8 a0_0, .int .i64 a0_1, .int .i64 a0_2, .int .u64 a0_3, .int .u64 a0_4, .int .u64 a0_5] 45 (0, 0)) (by (with_reducible repeat (first | refine blk_drewN ?_ _ | refine blk_drew ?_ | refine blk_alloc ?_ _)); exact BK409.out) hb); have n2_ := Aside0.mk (blk_below (g := gb410) (o := .cells #[.int .i64 a1_0, .int .i64 a1_1] 47 (0, 0)) (by (with_reducible repeat (first | refine blk_drewN ?_ _ | refine blk_drew ?_ | refine blk_alloc ?_ _)); exact BK410.out) hb); have n3_ := Aside0.mk (below_step (by repeat (first | (with_reducible first | exact HB.out | apply below_alloc | apply pw_below_drewN | apply below_drew1 | refine below_set ?_ GE409.out | refine below_set ?_ GE410.out) | exact HB.out)) hb); have n4_ := Aside0.mk (hbox); have n5_ := Aside0.mk ((by rw [hg]; exact (below_size (by repeat (first | (with_reducible first | exact HB.out | apply below_alloc | apply pw_below_drewN | apply below_drew1 | refine below_set ?_ GE409.out | refine below_set ?_ GE410.out) | exact HB.out))) : w.heap.size ≤ gb418)); have n6_ := Aside0.mk ((by rw [hg]; exact (below_size (by repeat (first | (with_reducible first | exact HB.out | apply below_alloc | apply pw_below_drewN | apply below_drew1 | refine below_set ?_ GE409.out | refine below_set ?_ GE410.out) | exact HB.out))) : w.heap.size ≤ gb418)); have n7_ := Aside0.mk ((by rw [hg]; exact Nat.ne_of_lt (blk_lt (g := gb409) (o := .cells #[.int .u8 a0_0, .int .i64 a0_1, .int .i64 a0_2, .int .u64 a0_3, .int .u64 a0_4, .int .u64 a0_5] 45 (0, 0)) (by (with_reducible repeat (first | refine blk_drewN ?_ _ | refine blk_drew ?_ | refine blk_alloc ?_ _)); exact BK409.out)) : gb409 ≠ gb418)); have n8_ := Aside0.mk ((by rw [hg]; exact Nat.ne_of_gt (blk_lt (g := gb409) (o := .cells #[.int .u8 a0_0, .int .i64 a0_1, .int .i64 a0_2, .int .u64 a0_3, .int .u64 a0_4, .int .u64 a0_5] 45 (0, 0)) (by (with_reducible repeat (first | refine blk_drewN ?_ _ | refine blk_drew ?_ | refine blk_alloc ?_ _)); exact BK409.out)) : gb418 ≠ gb409)); have n9_ := Aside0.mk ((by rw [hg]; exact Nat.ne_of_lt (blk_lt (g := gb410) (o := .cells #[.int .i64 a1_0, .int .i64 a1_1] 47 (0, 0)) (by (with_reducible repeat (first | refine blk_drewN ?_ _ | refine blk_drew ?_ | refine blk_alloc ?_ _)); exact BK410.out)) : gb410 ≠ gb418)); have n10_ := Aside0.mk ((by rw [hg]; exact Nat.ne_of_gt (blk_lt (g := gb410) (o := .cells #[.int .i64 a1_0, .int .i64 a1_1] 47 (0, 0)) (by (with_reducible repeat (first | refine blk_drewN ?_ _ | refine blk_drew ?_ | refine blk_alloc ?_ _)); exact BK410.out)) : gb418 ≠ gb410)); clear HO413; clear BK409; clear BK410; clear HB; have HO413 := n0_; have BK409 := n1_; have BK410 := n2_; have HB := n3_; have BK418 := n4_; have GW418 := n5_; have GE418 := n6_; have NB409_418 := n7_; have NB418_409 := n8_; have NB410_418 := n9_; have NB418_410 := n10_; clear n0_ n1_ n2_ n3_ n4_ n5_ n6_ n7_ n8_ n9_ n10_; clear hb hbox hg; have hnb16 := NB418_409.out; have hnc16 := NB409_418.out; have hnb17 := NB418_410.out; have hnc17 := NB410_418.out; have hcz18_0 : w15.cell? ⟨gb418, 0, none⟩ = some (.int .u8 0) := (blk_cell BK418.out 0).trans rfl; have hcz18_1 : w15.cell? ⟨gb418, 1, none⟩ = some (.int .i64 0) := (blk_cell BK418.out 1).trans rfl; have hcz18_2 : w15.cell? ⟨gb418, 2, none⟩ = some (.int .i64 0) := (blk_cell BK418.out 2).trans rfl; have hfz18_0 := blk_frozen BK418.out 0; have hfz18_1 := blk_frozen BK418.out 1; have hfz18_2 := blk_frozen BK418.out 2; have hcz19_0 : w15.cell? ⟨gb410, 0, none⟩ = some (.int .i64 a1_0) := (blk_cell BK410.out 0).trans rfl; have hcz19_1 : w15.cell? ⟨gb410, 1, none⟩ = some (.int .i64 a1_1) := (blk_cell BK410.out 1).trans rfl; have hfz19_0 := blk_frozen BK410.out 0; have hfz19_1 := blk_frozen BK410.out 1) | ((with_reducible refine gate_callee (f := 75) rfl ?_); refine goesL_ (some 20) rfl rfl Try.func75 (by kernel_rfl) rfl #[.agg #[.int .u8 t414, .int .i64 t415, .int .i64 t416], .agg #[.int .i64 a1_0, .int .i64 a1_1]] rfl (by (try simp only [List.map_toArray, List.map_cons, List.map_nil]); first | done | rfl | (simp only [List.length_drop, List.length_take]; rfl)) ?_; (with_reducible refine (cover_tree_members.calls k t414 t415 t416 a1_0 a1_1 t419 _ A5.out).mono ?_); rintro e w20 ⟨v420, rfl, ho0, hb⟩; refine ⟨_, rfl, ?_⟩; have n0_ := Aside0.mk (Kd.R_below (by (with_reducible repeat (first | apply Kd.R_alloc | apply Kd.R_drewN | apply Kd.R_drew)); exact (Kd.R_mono (Kd.R_far (p := ⟨gb418, 2, none⟩) (Kd.R_far (p := ⟨gb418, 1, none⟩) (Kd.R_far (p := ⟨gb418, 0, none⟩) (Kd.R_types HO413.out BK418.out (by decide)) (fun _ hk => hk.2) (.int .u8 t414)) (fun _ hk => hk.2) (.int .i64 t415)) (fun _ hk => hk.2) (.int .i64 t416)) (fun _ h_ => h_.1))) hb); have n1_ := Aside0.mk (Kd.R_lower ho0 (below_size (by repeat (first | (with_reducible first | exact HB.out | apply below_alloc | apply pw_below_drewN | apply below_drew1 | refine below_set ?_ GE409.out | refine below_set ?_ GE410.out | refine below_set ?_ GE418.out) | exact HB.out)))); have n2_ := Aside0.mk (blk_below (g := gb409) (o := .cells #[.int .u8 a0_0, .int .i64 a0_1, .int .i64 a0_2, .int .u64 a0_3, .int .u64 a0_4, .int .u64 a0_5] 45 (0, 0)) (by (with_reducible repeat (first | refine blk_drewN ?_ _ | refine blk_drew ?_ | refine blk_alloc ?_ _)); refine blk_far ?_ NB409_418.out _; (with_reducible repeat (first | refine blk_drewN ?_ _ | refine blk_drew ?_ | refine blk_alloc ?_ _)); refine blk_far ?_ NB409_418.out _; (with_reducible repeat (first | refine blk_drewN ?_ _ | refine blk_drew ?_ | refine blk_alloc ?_ _)); refine blk_far ?_ NB409_418.out _; (with_reducible repeat (first | refine blk_drewN ?_ _ | refine blk_drew ?_ | refine blk_alloc ?_ _)); exact BK409.out) hb); have n3_ := Aside0.mk (blk_below (g := gb410) (o := .cells #[.int .i64 a1_0, .int .i64 a1_1] 47 (0, 0)) (by (with_reducible repeat (first | refine blk_drewN ?_ _ | refine blk_drew ?_ | refine blk_alloc ?_ _)); refine blk_far ?_ NB410_418.out _; (with_reducible repeat (first | refine blk_drewN ?_ _ | refine blk_drew ?_ | refine blk_alloc ?_ _)); refine blk_far ?_ NB410_418.out _; (with_reducible repeat (first | refine blk_drewN ?_ _ | refine blk_drew ?_ | refine blk_alloc ?_ _)); refine blk_far ?_ NB410_418.out _; (with_reducible repeat (first | refine blk_drewN ?_ _ | refine blk_drew ?_ | refine blk_alloc ?_ _)); exact BK410.out) hb); have n4_ := Aside0.mk (blk_below (g := gb418) (o := .cells #[.int .u8 t414, .int .i64 t415, .int .i64 t416] 134 (0, 0)) (by (with_reducible repeat (first | refine blk_drewN ?_ _ | refine blk_drew ?_ | refine blk_alloc ?_ _)); refine blk_put (cs := #[.int .u8 t414, .int .i64 t415, .int .i64 0]) ?_ 2 _ rfl; (with_reducible repeat (first | refine blk_drewN ?_ _ | refine blk_drew ?_ | refine blk_alloc ?_ _)); refine blk_put (cs := #[.int .u8 t414, .int .i64 0, .int .i64 0]) ?_ 1 _ rfl; (with_reducible repeat (first | refine blk_drewN ?_ _ | refine blk_drew ?_ | refine blk_alloc ?_ _)); refine blk_put (cs := #[.int .u8 0, .int .i64 0, .int .i64 0]) ?_ 0 _ rfl; (with_reducible repeat (first | refine blk_drewN ?_ _ | refine blk_drew ?_ | refine blk_alloc ?_ _)); exact BK418.out) hb); have n5_ := Aside0.mk (below_step (by repeat (first | (with_reducible first | exact HB.out | apply below_alloc | apply pw_below_drewN | apply below_drew1 | refine below_set ?_ GE409.out | refine below_set ?_ GE410.out | refine below_set ?_ GE418.out) | exact HB.out)) hb); clear HO413; clear BK409; clear BK410; clear BK418; clear HB; have HO413 := n0_; have HO421 := n1_; have BK409 := n2_; have BK410 := n3_; have BK418 := n4_; have HB := n5_; clear n0_ n1_ n2_ n3_ n4_ n5_; (try clear hb); (try clear hb2); (try clear hk); (try clear hi); (try clear ho0)))
    go_ret2
    exact ⟨_, by first | rfl | (simp [errW_none, errW_some] <;> rfl) | (simp [*, errW_none, errW_some] <;> rfl), by (with_reducible repeat (first | apply Kd.R_alloc | apply Kd.R_drewN | apply Kd.R_drew)); exact HO421.out, by repeat (first | (with_reducible first | exact HB.out | apply below_alloc | apply pw_below_drewN | apply below_drew1 | refine below_set ?_ GE409.out | refine below_set ?_ GE410.out | refine below_set ?_ GE418.out) | exact HB.out)⟩
  · rw [if_neg c4] at H
    have c4b0 : (t417 == 0) = false := beq_eq_false_iff_ne.mpr c4
    have c4b1 : (t417 != 0) = true := bne_iff_ne.mpr c4
    simp only [Option.some.injEq, Prod.mk.injEq] at H
    obtain ⟨rfl, rfl⟩ := H
    go_enter Try.func35, Try.ntmps35
    go_wp2_with (first | ((with_reducible refine gate_dst (N := 2) rfl ?_); refine box_event ?hg (N := 2) ?hd (cs := #[.int .u8 a0_0, .int .i64 a0_1, .int .i64 a0_2, .int .u64 a0_3, .int .u64 a0_4, .int .u64 a0_5]) (t := 45) ?hr ?_; (case hd => rfl); (case hg => rfl); (case hr => first | (go_simp; done) | (go_simp; rfl)); intro gb409 hg w21 hbox hb; have n0_ := Aside0.mk (below_step (by repeat (first | (with_reducible first | exact HB.out | apply below_alloc | apply pw_below_drewN | apply below_drew1) | exact HB.out)) hb); have n1_ := Aside0.mk (hbox); have n2_ := Aside0.mk ((by rw [hg]; exact (below_size (by repeat (first | (with_reducible first | exact HB.out | apply below_alloc | apply pw_below_drewN | apply below_drew1) | exact HB.out))) : w.heap.size ≤ gb409)); have n3_ := Aside0.mk ((by rw [hg]; exact (below_size (by repeat (first | (with_reducible first | exact HB.out | apply below_alloc | apply pw_below_drewN | apply below_drew1) | exact HB.out))) : w.heap.size ≤ gb409)); clear HB; have HB := n0_; have BK409 := n1_; have GW409 := n2_; have GE409 := n3_; clear n0_ n1_ n2_ n3_; clear hb hbox hg) | ((with_reducible refine gate_dst (N := 3) rfl ?_); refine box_event ?hg (N := 3) ?hd (cs := #[.int .i64 a1_0, .int .i64 a1_1]) (t := 47) ?hr ?_; (case hd => rfl); (case hg => rfl); (case hr => first | (go_simp; done) | (go_simp; rfl)); intro gb410 hg w22 hbox hb; have n0_ := Aside0.mk (blk_below (g := gb409) (o := .cells #[.int .u8 a0_0, .int .i64 a0_1, .int .i64 a0_2, .int .u64 a0_3, .int .u64 a0_4, .int .u64 a0_5] 45 (0, 0)) (by (with_reducible repeat (first | refine blk_drewN ?_ _ | refine blk_drew ?_ | refine blk_alloc ?_ _)); exact BK409.out) hb); have n1_ := Aside0.mk (below_step (by repeat (first | (with_reducible first | exact HB.out | apply below_alloc | apply pw_below_drewN | apply below_drew1 | refine below_set ?_ GE409.out) | exact HB.out)) hb); have n2_ := Aside0.mk (hbox); have n3_ := Aside0.mk ((by rw [hg]; exact (below_size (by repeat (first | (with_reducible first | exact HB.out | apply below_alloc | apply pw_below_drewN | apply below_drew1 | refine below_set ?_ GE409.out) | exact HB.out))) : w.heap.size ≤ gb410)); have n4_ := Aside0.mk ((by rw [hg]; exact (below_size (by repeat (first | (with_reducible first | exact HB.out | apply below_alloc | apply pw_below_drewN | apply below_drew1 | refine below_set ?_ GE409.out) | exact HB.out))) : w.heap.size ≤ gb410)); have n5_ := Aside0.mk ((by rw [hg]; exact Nat.ne_of_lt (blk_lt (g := gb409) (o := .cells #[.int .u8 a0_0, .int .i64 a0_1, .int .i64 a0_2, .int .u64 a0_3, .int .u64 a0_4, .int .u64 a0_5] 45 (0, 0)) (by (with_reducible repeat (first | refine blk_drewN ?_ _ | refine blk_drew ?_ | refine blk_alloc ?_ _)); exact BK409.out)) : gb409 ≠ gb410)); have n6_ := Aside0.mk ((by rw [hg]; exact Nat.ne_of_gt (blk_lt (g := gb409) (o := .cells #[.int .u8 a0_0, .int .i64 a0_1, .int .i64 a0_2, .int .u64 a0_3, .int .u64 a0_4, .int .u64 a0_5] 45 (0, 0)) (by (with_reducible repeat (first | refine blk_drewN ?_ _ | refine blk_drew ?_ | refine blk_alloc ?_ _)); exact BK409.out)) : gb410 ≠ gb409)); clear BK409; clear HB; have BK409 := n0_; have HB := n1_; have BK410 := n2_; have GW410 := n3_; have GE410 := n4_; have NB409_410 := n5_; have NB410_409 := n6_; clear n0_ n1_ n2_ n3_ n4_ n5_ n6_; clear hb hbox hg; have hnb23 := NB409_410.out; have hnc23 := NB410_409.out; have hcz24_0 : w22.cell? ⟨gb409, 0, none⟩ = some (.int .u8 a0_0) := (blk_cell BK409.out 0).trans rfl; have hcz24_1 : w22.cell? ⟨gb409, 1, none⟩ = some (.int .i64 a0_1) := (blk_cell BK409.out 1).trans rfl; have hcz24_2 : w22.cell? ⟨gb409, 2, none⟩ = some (.int .i64 a0_2) := (blk_cell BK409.out 2).trans rfl; have hcz24_3 : w22.cell? ⟨gb409, 3, none⟩ = some (.int .u64 a0_3) := (blk_cell BK409.out 3).trans rfl; have hcz24_4 : w22.cell? ⟨gb409, 4, none⟩ = some (.int .u64 a0_4) := (blk_cell BK409.out 4).trans rfl; have hcz24_5 : w22.cell? ⟨gb409, 5, none⟩ = some (.int .u64 a0_5) := (blk_cell BK409.out 5).trans rfl; have hfz24_0 := blk_frozen BK409.out 0; have hfz24_1 := blk_frozen BK409.out 1; have hfz24_2 := blk_frozen BK409.out 2; have hfz24_3 := blk_frozen BK409.out 3; have hfz24_4 := blk_frozen BK409.out 4; have hfz24_5 := blk_frozen BK409.out 5; have hcz25_0 : w22.cell? ⟨gb410, 0, none⟩ = some (.int .i64 a1_0) := (blk_cell BK410.out 0).trans rfl; have hcz25_1 : w22.cell? ⟨gb410, 1, none⟩ = some (.int .i64 a1_1) := (blk_cell BK410.out 1).trans rfl; have hfz25_0 := blk_frozen BK410.out 0; have hfz25_1 := blk_frozen BK410.out 1) | ((with_reducible refine gate_dst (N := 11) rfl ?_); refine Kd.R_lit k47 _ 47 ?hg (N := 11) ?hd (xs := ([(⟨a1_0, a1_1⟩ : S47)] : List (S47))) (inner := [.int .i64 a1_0, .int .i64 a1_1]) (ok := fun _ => True) (okp := fun _ => True) ?hr ?hp (fun _ hk => hk) trivial (Below.refl _ _) (Nat.le_refl _) (by simp) ?_; (case hd => rfl); (case hg => rfl); (case hr => first | (go_simp; done) | (go_simp; rfl)); (case hp => exact (Reps.c2 (show Kd.M k47 _ _ _ (⟨a1_0, a1_1⟩ : S47) [.int .i64 a1_0, .int .i64 a1_1] from (k47_mkM _ _ _ (⟨a1_0, a1_1⟩ : S47) )) (Reps.none _ _))); intro v412 w26 ho27 hb hg_ hnew_; clear hg_ hnew_; (first | rw [← Ny411.out] at ho27 | (simp only [Int.reduceToNat] at ho27; rw [← Ny411.out] at ho27)); have n0_ := Aside0.mk (Kd.R_lower (Kd.R_newB ho27 (g := gb410) (o := .cells #[.int .i64 a1_0, .int .i64 a1_1] 47 (0, 0)) (by (with_reducible repeat (first | refine blk_drewN ?_ _ | refine blk_drew ?_ | refine blk_alloc ?_ _)); exact BK410.out)) (below_size (by repeat (first | (with_reducible first | exact HB.out | apply below_alloc | apply pw_below_drewN | apply below_drew1 | refine below_set ?_ GE409.out | refine below_set ?_ GE410.out) | exact HB.out)))); have n1_ := Aside0.mk (blk_below (g := gb409) (o := .cells #[.int .u8 a0_0, .int .i64 a0_1, .int .i64 a0_2, .int .u64 a0_3, .int .u64 a0_4, .int .u64 a0_5] 45 (0, 0)) (by (with_reducible repeat (first | refine blk_drewN ?_ _ | refine blk_drew ?_ | refine blk_alloc ?_ _)); exact BK409.out) hb); have n2_ := Aside0.mk (blk_below (g := gb410) (o := .cells #[.int .i64 a1_0, .int .i64 a1_1] 47 (0, 0)) (by (with_reducible repeat (first | refine blk_drewN ?_ _ | refine blk_drew ?_ | refine blk_alloc ?_ _)); exact BK410.out) hb); have n3_ := Aside0.mk (below_step (by repeat (first | (with_reducible first | exact HB.out | apply below_alloc | apply pw_below_drewN | apply below_drew1 | refine below_set ?_ GE409.out | refine below_set ?_ GE410.out) | exact HB.out)) hb); clear BK409; clear BK410; clear HB; have HO413 := n0_; have BK409 := n1_; have BK410 := n2_; have HB := n3_; clear n0_ n1_ n2_ n3_; clear hb ho27; obtain ⟨Ao28, co28, eo28⟩ := Kd.R_slice HO413.out; subst eo28) | ((with_reducible refine gate_callee (f := 74) rfl ?_); refine goesL_ (some 12) rfl rfl Try.func74 (by kernel_rfl) rfl #[.agg #[.int .u8 a0_0, .int .i64 a0_1, .int .i64 a0_2, .int .u64 a0_3, .int .u64 a0_4, .int .u64 a0_5], .slice Ao28 y411.length co28] rfl (by (try simp only [List.map_toArray, List.map_cons, List.map_nil]); first | done | rfl | (simp only [List.length_drop, List.length_take]; rfl)) ?_; (with_reducible refine (cover_enter.calls k a0_0 a0_1 a0_2 a0_3 a0_4 a0_5 _ _ y411 t414 t415 t416 t417 _ ?side1 ?side2 A3.out).mono ?_); (case side1 => repeat (first | exact (Kd.R_reads' HO413.out).2.2 | (with_reducible refine Kd.C_alloc ?_ _) | (with_reducible refine Kd.C_drewN ?_ _) | (with_reducible refine Kd.C_drew ?_))); (case side2 => exact (Kd.R_reads' HO413.out).2.1); rintro e w29 ⟨rfl, hb⟩; refine ⟨_, rfl, ?_⟩; have n0_ := Aside0.mk (Kd.R_below (by (with_reducible repeat (first | apply Kd.R_alloc | apply Kd.R_drewN | apply Kd.R_drew)); exact HO413.out) hb); have n1_ := Aside0.mk (blk_below (g := gb409) (o := .cells #[.int .u8 a0_0, .int .i64 a0_1, .int .i64 a0_2, .int .u64 a0_3, .int .u64 a0_4, .int .u64 a0_5] 45 (0, 0)) (by (with_reducible repeat (first | refine blk_drewN ?_ _ | refine blk_drew ?_ | refine blk_alloc ?_ _)); exact BK409.out) hb); have n2_ := Aside0.mk (blk_below (g := gb410) (o := .cells #[.int .i64 a1_0, .int .i64 a1_1] 47 (0, 0)) (by (with_reducible repeat (first | refine blk_drewN ?_ _ | refine blk_drew ?_ | refine blk_alloc ?_ _)); exact BK410.out) hb); have n3_ := Aside0.mk (below_step (by repeat (first | (with_reducible first | exact HB.out | apply below_alloc | apply pw_below_drewN | apply below_drew1 | refine below_set ?_ GE409.out | refine below_set ?_ GE410.out) | exact HB.out)) hb); clear HO413; clear BK409; clear BK410; clear HB; have HO413 := n0_; have BK409 := n1_; have BK410 := n2_; have HB := n3_; clear n0_ n1_ n2_ n3_; (try clear hb); (try clear hb2); (try clear hk); (try clear hi)) | ((with_reducible refine gate_dst (N := 6) rfl ?_); refine box_event ?hg (N := 6) ?hd (cs := #[.int .u8 0, .int .i64 0, .int .i64 0]) (t := 134) ?hr ?_; (case hd => rfl); (case hg => rfl); (case hr => first | (go_simp; done) | (go_simp; rfl)); intro gb418 hg w30 hbox hb; have n0_ := Aside0.mk (Kd.R_below (by (with_reducible repeat (first | apply Kd.R_alloc | apply Kd.R_drewN | apply Kd.R_drew)); exact HO413.out) hb); have n1_ := Aside0.mk (blk_below (g := gb409) (o := .cells #[.int .u8 a0_0, .int .i64 a0_1, .int .i64 a0_2, .int .u64 a0_3, .int .u64 a0_4, .int .u64 a0_5] 45 (0, 0)) (by (with_reducible repeat (first | refine blk_drewN ?_ _ | refine blk_drew ?_ | refine blk_alloc ?_ _)); exact BK409.out) hb); have n2_ := Aside0.mk (blk_below (g := gb410) (o := .cells #[.int .i64 a1_0, .int .i64 a1_1] 47 (0, 0)) (by (with_reducible repeat (first | refine blk_drewN ?_ _ | refine blk_drew ?_ | refine blk_alloc ?_ _)); exact BK410.out) hb); have n3_ := Aside0.mk (below_step (by repeat (first | (with_reducible first | exact HB.out | apply below_alloc | apply pw_below_drewN | apply below_drew1 | refine below_set ?_ GE409.out | refine below_set ?_ GE410.out) | exact HB.out)) hb); have n4_ := Aside0.mk (hbox); have n5_ := Aside0.mk ((by rw [hg]; exact (below_size (by repeat (first | (with_reducible first | exact HB.out | apply below_alloc | apply pw_below_drewN | apply below_drew1 | refine below_set ?_ GE409.out | refine below_set ?_ GE410.out) | exact HB.out))) : w.heap.size ≤ gb418)); have n6_ := Aside0.mk ((by rw [hg]; exact (below_size (by repeat (first | (with_reducible first | exact HB.out | apply below_alloc | apply pw_below_drewN | apply below_drew1 | refine below_set ?_ GE409.out | refine below_set ?_ GE410.out) | exact HB.out))) : w.heap.size ≤ gb418)); have n7_ := Aside0.mk ((by rw [hg]; exact Nat.ne_of_lt (blk_lt (g := gb409) (o := .cells #[.int .u8 a0_0, .int .i64 a0_1, .int .i64 a0_2, .int .u64 a0_3, .int .u64 a0_4, .int .u64 a0_5] 45 (0, 0)) (by (with_reducible repeat (first | refine blk_drewN ?_ _ | refine blk_drew ?_ | refine blk_alloc ?_ _)); exact BK409.out)) : gb409 ≠ gb418)); have n8_ := Aside0.mk ((by rw [hg]; exact Nat.ne_of_gt (blk_lt (g := gb409) (o := .cells #[.int .u8 a0_0, .int .i64 a0_1, .int .i64 a0_2, .int .u64 a0_3, .int .u64 a0_4, .int .u64 a0_5] 45 (0, 0)) (by (with_reducible repeat (first | refine blk_drewN ?_ _ | refine blk_drew ?_ | refine blk_alloc ?_ _)); exact BK409.out)) : gb418 ≠ gb409)); have n9_ := Aside0.mk ((by rw [hg]; exact Nat.ne_of_lt (blk_lt (g := gb410) (o := .cells #[.int .i64 a1_0, .int .i64 a1_1] 47 (0, 0)) (by (with_reducible repeat (first | refine blk_drewN ?_ _ | refine blk_drew ?_ | refine blk_alloc ?_ _)); exact BK410.out)) : gb410 ≠ gb418)); have n10_ := Aside0.mk ((by rw [hg]; exact Nat.ne_of_gt (blk_lt (g := gb410) (o := .cells #[.int .i64 a1_0, .int .i64 a1_1] 47 (0, 0)) (by (with_reducible repeat (first | refine blk_drewN ?_ _ | refine blk_drew ?_ | refine blk_alloc ?_ _)); exact BK410.out)) : gb418 ≠ gb410)); clear HO413; clear BK409; clear BK410; clear HB; have HO413 := n0_; have BK409 := n1_; have BK410 := n2_; have HB := n3_; have BK418 := n4_; have GW418 := n5_; have GE418 := n6_; have NB409_418 := n7_; have NB418_409 := n8_; have NB410_418 := n9_; have NB418_410 := n10_; clear n0_ n1_ n2_ n3_ n4_ n5_ n6_ n7_ n8_ n9_ n10_; clear hb hbox hg; have hnb31 := NB418_409.out; have hnc31 := NB409_418.out; have hnb32 := NB418_410.out; have hnc32 := NB410_418.out; have hcz33_0 : w30.cell? ⟨gb418, 0, none⟩ = some (.int .u8 0) := (blk_cell BK418.out 0).trans rfl; have hcz33_1 : w30.cell? ⟨gb418, 1, none⟩ = some (.int .i64 0) := (blk_cell BK418.out 1).trans rfl; have hcz33_2 : w30.cell? ⟨gb418, 2, none⟩ = some (.int .i64 0) := (blk_cell BK418.out 2).trans rfl; have hfz33_0 := blk_frozen BK418.out 0; have hfz33_1 := blk_frozen BK418.out 1; have hfz33_2 := blk_frozen BK418.out 2))
    go_ret2
    exact ⟨_, by first | rfl | (simp [errW_none, errW_some] <;> rfl) | (simp [*, errW_none, errW_some] <;> rfl), by first | exact Kd.R_nil _ _ _ _ _ | exact Kd.N_nil _ _ _ _ _ | exact Kd.V_nil _ _ _ _ _ | exact Kd.Q_nil _ _ _ _ _ | exact Kd.S_nil _ _ _ _ _, by repeat (first | (with_reducible first | exact HB.out | apply below_alloc | apply pw_below_drewN | apply below_drew1 | refine below_set ?_ GE409.out | refine below_set ?_ GE410.out | refine below_set ?_ GE418.out) | exact HB.out)⟩

end Go.Proofs.Ytafhimeoijmolaa.G

/- Written by wip/genprint.py: Lean functions with the Go functions' answers, and their contracts. -/
namespace Go.Proofs.Ytafhimeoijmolaa.G
open Go.RowKit Go.Proofs.YtafhimeoijmolaaW.PrintWords Go.Proofs.YtafhimeoijmolaaW.PrintLast Go.Proofs.YtafhimeoijmolaaW.PrintMore
attribute [local go_sem] max2_int min2_int max_two min_two max_three min_three max_four min_four   -- for this text's walks alone
set_option linter.unusedVariables false
set_option linter.unusedSimpArgs false

/-! ### headendref03_Members: function 36 -/
def headendref03_Members.f (k : Nat) (a0_0 : Int) (a0_1 : Int) (a0_2 : Int) (a0_3 : Int) (a0_4 : Int) (a0_5 : Int) (a1_0 : Int) (a1_1 : Int) : Option (List Int × Int) := (headendref03_Valid.f a0_0 a0_1 a0_2 a0_3 a0_4 a0_5).bind fun t424 => (if t424 = true then ((headendref03_IsSubset.f k a0_0 a0_1 a0_2 a0_3 a0_4 a0_5 a1_0 a1_1).bind fun t425 => (if t425 = true then ((headendref03_MembersOf.f k a0_0 a0_1 a0_2 a0_3 a0_4 a0_5 a1_0 a1_1).bind fun t426 => (some (t426, 0))) else (some (([] : List Int), 31)))) else (some (([] : List Int), 30)))
theorem headendref03_Members.mono : ∀ a0 a1 a2 a3 a4 a5 a6 a7 k, LeO (headendref03_Members.f k a0 a1 a2 a3 a4 a5 a6 a7) (headendref03_Members.f (k + 1) a0 a1 a2 a3 a4 a5 a6 a7) := by
  intro a0 a1 a2 a3 a4 a5 a6 a7 k
  unfold headendref03_Members.f
  repeat' first
      | (with_reducible exact headendref03_IsSubset.mono _ _ _ _ _ _ _ _ _)
      | (with_reducible exact headendref03_MembersOf.mono _ _ _ _ _ _ _ _ _)
      | (with_reducible exact LeO.refl _)
      | (with_reducible exact LeO.none _)
      | (with_reducible refine LeO.ite ?_ ?_)
      | (with_reducible refine LeO.bind ?_ (fun _ => ?_))
      | exact headendref03_IsSubset.mono _ _ _ _ _ _ _ _ _
      | exact headendref03_MembersOf.mono _ _ _ _ _ _ _ _ _
      | exact LeO.none _
      | refine LeO.ite ?_ ?_
      | refine LeO.bind ?_ (fun _ => ?_)
set_option maxHeartbeats 8000000 in
set_option maxRecDepth 100000 in
theorem headendref03_Members.calls (k : Nat) (a0_0 : Int) (a0_1 : Int) (a0_2 : Int) (a0_3 : Int) (a0_4 : Int) (a0_5 : Int) (a1_0 : Int) (a1_1 : Int) (r1 : List Int) (r2 : Int) (w : World) (h : headendref03_Members.f k a0_0 a0_1 a0_2 a0_3 a0_4 a0_5 a1_0 a1_1 = some (r1, r2)) :
    Calls Try.prog 36 #[.agg #[.int .u8 a0_0, .int .i64 a0_1, .int .i64 a0_2, .int .u64 a0_3, .int .u64 a0_4, .int .u64 a0_5], .agg #[.int .i64 a1_0, .int .i64 a1_1]] w fun e w' => ∃ v0_ : Value, e = .returned (.tuple #[v0_, .int .i64 r2]) ∧ Kd.R (Kd.int .i64) 3 w' w.heap.size (fun _ => True) v0_ r1 ∧ Below w.heap.size w w' := by
  have hu45 := Try.underlying45
  have hu47 := Try.underlying47
  have HB := Aside0.mk (Below.refl w.heap.size w)
  have H : ((headendref03_Valid.f a0_0 a0_1 a0_2 a0_3 a0_4 a0_5).bind fun t424 => (if t424 = true then ((headendref03_IsSubset.f k a0_0 a0_1 a0_2 a0_3 a0_4 a0_5 a1_0 a1_1).bind fun t425 => (if t425 = true then ((headendref03_MembersOf.f k a0_0 a0_1 a0_2 a0_3 a0_4 a0_5 a1_0 a1_1).bind fun t426 => (some (t426, 0))) else (some (([] : List Int), 31)))) else (some (([] : List Int), 30)))) = some (r1, r2) := h
  clear h
  replace H := Option.bind_eq_some_iff.mp H
  obtain ⟨t424, A30, H⟩ := H
  replace H : (if t424 = true then ((headendref03_IsSubset.f k a0_0 a0_1 a0_2 a0_3 a0_4 a0_5 a1_0 a1_1).bind fun t425 => (if t425 = true then ((headendref03_MembersOf.f k a0_0 a0_1 a0_2 a0_3 a0_4 a0_5 a1_0 a1_1).bind fun t426 => (some (t426, 0))) else (some (([] : List Int), 31)))) else (some (([] : List Int), 30))) = some (r1, r2) := H
  have A3 := Aside0.mk A30
  clear A30
  by_cases c4 : t424 = true
  · subst c4
    have H1 : ((headendref03_IsSubset.f k a0_0 a0_1 a0_2 a0_3 a0_4 a0_5 a1_0 a1_1).bind fun t425 => (if t425 = true then ((headendref03_MembersOf.f k a0_0 a0_1 a0_2 a0_3 a0_4 a0_5 a1_0 a1_1).bind fun t426 => (some (t426, 0))) else (some (([] : List Int), 31)))) = some (r1, r2) := by rw [if_pos rfl] at H; exact H
    clear H
    have H := H1
    clear H1
    replace H := Option.bind_eq_some_iff.mp H
    obtain ⟨t425, A50, H⟩ := H
    replace H : (if t425 = true then ((headendref03_MembersOf.f k a0_0 a0_1 a0_2 a0_3 a0_4 a0_5 a1_0 a1_1).bind fun t426 => (some (t426, 0))) else (some (([] : List Int), 31))) = some (r1, r2) := H
    have A5 := Aside0.mk A50
    clear A50
    by_cases c6 : t425 = true
    · subst c6
      have H1 : ((headendref03_MembersOf.f k a0_0 a0_1 a0_2 a0_3 a0_4 a0_5 a1_0 a1_1).bind fun t426 => (some (t426, 0))) = some (r1, r2) := by rw [if_pos rfl] at H; exact H
      clear H
      have H := H1
      clear H1
      replace H := Option.bind_eq_some_iff.mp H
      obtain ⟨t426, A70, H⟩ := H
      replace H : (some (t426, 0)) = some (r1, r2) := H
      have A7 := Aside0.mk A70
      clear A70
      simp only [Option.some.injEq, Prod.mk.injEq] at H
      obtain ⟨rfl, rfl⟩ := H
      go_enter Try.func36, Try.ntmps36
      go_wp2_with (first | ((with_reducible refine gate_dst (N := 2) rfl ?_); refine box_event ?hg (N := 2) ?hd (cs := #[.int .u8 a0_0, .int .i64 a0_1, .int .i64 a0_2, .int .u64 a0_3, .int .u64 a0_4, .int .u64 a0_5]) (t := 45) ?hr ?_; (case hd => rfl); (case hg => rfl); (case hr => first | (go_simp; done) | (go_simp; rfl)); intro gb422 hg w8 hbox hb; have n0_ := Aside0.mk (below_step (by repeat (first | (with_reducible first | exact HB.out | apply below_alloc | apply pw_below_drewN | apply below_drew1) | exact HB.out)) hb); have n1_ := Aside0.mk (hbox); have n2_ := Aside0.mk ((by rw [hg]; exact (below_size (by repeat (first | (with_reducible first | exact HB.out | apply below_alloc | apply pw_below_drewN | apply below_drew1) | exact HB.out))) : w.heap.size ≤ gb422)); have n3_ := Aside0.mk ((by rw [hg]; exact (below_size (by repeat (first | (with_reducible first | exact HB.out | apply below_alloc | apply pw_below_drewN | apply below_drew1) | exact HB.out))) : w.heap.size ≤ gb422)); clear HB; have HB := n0_; have BK422 := n1_; have GW422 := n2_; have GE422 := n3_; clear n0_ n1_ n2_ n3_; clear hb hbox hg) | ((with_reducible refine gate_dst (N := 3) rfl ?_); refine box_event ?hg (N := 3) ?hd (cs := #[.int .i64 a1_0, .int .i64 a1_1]) (t := 47) ?hr ?_; (case hd => rfl); (case hg => rfl); (case hr => first | (go_simp; done) | (go_simp; rfl)); intro gb423 hg w9 hbox hb; have n0_ := Aside0.mk (blk_below (g := gb422) (o := .cells #[.int .u8 a0_0, .int .i64 a0_1, .int .i64 a0_2, .int .u64 a0_3, .int .u64 a0_4, .int .u64 a0_5] 45 (0, 0)) (by (with_reducible repeat (first | refine blk_drewN ?_ _ | refine blk_drew ?_ | refine blk_alloc ?_ _)); exact BK422.out) hb); have n1_ := Aside0.mk (below_step (by repeat (first | (with_reducible first | exact HB.out | apply below_alloc | apply pw_below_drewN | apply below_drew1 | refine below_set ?_ GE422.out) | exact HB.out)) hb); have n2_ := Aside0.mk (hbox); have n3_ := Aside0.mk ((by rw [hg]; exact (below_size (by repeat (first | (with_reducible first | exact HB.out | apply below_alloc | apply pw_below_drewN | apply below_drew1 | refine below_set ?_ GE422.out) | exact HB.out))) : w.heap.size ≤ gb423)); have n4_ := Aside0.mk ((by rw [hg]; exact (below_size (by repeat (first | (with_reducible first | exact HB.out | apply below_alloc | apply pw_below_drewN | apply below_drew1 | refine below_set ?_ GE422.out) | exact HB.out))) : w.heap.size ≤ gb423)); have n5_ := Aside0.mk ((by rw [hg]; exact Nat.ne_of_lt (blk_lt (g := gb422) (o := .cells #[.int .u8 a0_0, .int .i64 a0_1, .int .i64 a0_2, .int .u64 a0_3, .int .u64 a0_4, .int .u64 a0_5] 45 (0, 0)) (by (with_reducible repeat (first | refine blk_drewN ?_ _ | refine blk_drew ?_ | refine blk_alloc ?_ _)); exact BK422.out)) : gb422 ≠ gb423)); have n6_ := Aside0.mk ((by rw [hg]; exact Nat.ne_of_gt (blk_lt (g := gb422) (o := .cells #[.int .u8 a0_0, .int .i64 a0_1, .int .i64 a0_2, .int .u64 a0_3, .int .u64 a0_4, .int .u64 a0_5] 45 (0, 0)) (by (with_reducible repeat (first | refine blk_drewN ?_ _ | refine blk_drew ?_ | refine blk_alloc ?_ _)); exact BK422.out)) : gb423 ≠ gb422)); clear BK422; clear HB; have BK422 := n0_; have HB := n1_; have BK423 := n2_; have GW423 := n3_; have GE423 := n4_; have NB422_423 := n5_; have NB423_422 := n6_; clear n0_ n1_ n2_ n3_ n4_ n5_ n6_; clear hb hbox hg; have hnb10 := NB422_423.out; have hnc10 := NB423_422.out; have hcz11_0 : w9.cell? ⟨gb422, 0, none⟩ = some (.int .u8 a0_0) := (blk_cell BK422.out 0).trans rfl; have hcz11_1 : w9.cell? ⟨gb422, 1, none⟩ = some (.int .i64 a0_1) := (blk_cell BK422.out 1).trans rfl; have hcz11_2 : w9.cell? ⟨gb422, 2, none⟩ = some (.int .i64 a0_2) := (blk_cell BK422.out 2).trans rfl; have hcz11_3 : w9.cell? ⟨gb422, 3, none⟩ = some (.int .u64 a0_3) := (blk_cell BK422.out 3).trans rfl; have hcz11_4 : w9.cell? ⟨gb422, 4, none⟩ = some (.int .u64 a0_4) := (blk_cell BK422.out 4).trans rfl; have hcz11_5 : w9.cell? ⟨gb422, 5, none⟩ = some (.int .u64 a0_5) := (blk_cell BK422.out 5).trans rfl; have hfz11_0 := blk_frozen BK422.out 0; have hfz11_1 := blk_frozen BK422.out 1; have hfz11_2 := blk_frozen BK422.out 2; have hfz11_3 := blk_frozen BK422.out 3; have hfz11_4 := blk_frozen BK422.out 4; have hfz11_5 := blk_frozen BK422.out 5) | ((with_reducible refine gate_callee (f := 61) rfl ?_); refine goesL_ (some 7) rfl rfl Try.func61 (by kernel_rfl) rfl #[.agg #[.int .u8 a0_0, .int .i64 a0_1, .int .i64 a0_2, .int .u64 a0_3, .int .u64 a0_4, .int .u64 a0_5]] rfl (by (try simp only [List.map_toArray, List.map_cons, List.map_nil]); first | done | rfl | (simp only [List.length_drop, List.length_take]; rfl)) ?_; (with_reducible refine (headendref03_Valid.calls a0_0 a0_1 a0_2 a0_3 a0_4 a0_5 true _ A3.out).mono ?_); rintro e w12 ⟨rfl, hb⟩; refine ⟨_, rfl, ?_⟩; have n0_ := Aside0.mk (blk_below (g := gb422) (o := .cells #[.int .u8 a0_0, .int .i64 a0_1, .int .i64 a0_2, .int .u64 a0_3, .int .u64 a0_4, .int .u64 a0_5] 45 (0, 0)) (by (with_reducible repeat (first | refine blk_drewN ?_ _ | refine blk_drew ?_ | refine blk_alloc ?_ _)); exact BK422.out) hb); have n1_ := Aside0.mk (blk_below (g := gb423) (o := .cells #[.int .i64 a1_0, .int .i64 a1_1] 47 (0, 0)) (by (with_reducible repeat (first | refine blk_drewN ?_ _ | refine blk_drew ?_ | refine blk_alloc ?_ _)); exact BK423.out) hb); have n2_ := Aside0.mk (below_step (by repeat (first | (with_reducible first | exact HB.out | apply below_alloc | apply pw_below_drewN | apply below_drew1 | refine below_set ?_ GE422.out | refine below_set ?_ GE423.out) | exact HB.out)) hb); clear BK422; clear BK423; clear HB; have BK422 := n0_; have BK423 := n1_; have HB := n2_; clear n0_ n1_ n2_; (try clear hb); (try clear hb2); (try clear hk); (try clear hi); have hcz13_0 : w12.cell? ⟨gb422, 0, none⟩ = some (.int .u8 a0_0) := (blk_cell BK422.out 0).trans rfl; have hcz13_1 : w12.cell? ⟨gb422, 1, none⟩ = some (.int .i64 a0_1) := (blk_cell BK422.out 1).trans rfl; have hcz13_2 : w12.cell? ⟨gb422, 2, none⟩ = some (.int .i64 a0_2) := (blk_cell BK422.out 2).trans rfl; have hcz13_3 : w12.cell? ⟨gb422, 3, none⟩ = some (.int .u64 a0_3) := (blk_cell BK422.out 3).trans rfl; have hcz13_4 : w12.cell? ⟨gb422, 4, none⟩ = some (.int .u64 a0_4) := (blk_cell BK422.out 4).trans rfl; have hcz13_5 : w12.cell? ⟨gb422, 5, none⟩ = some (.int .u64 a0_5) := (blk_cell BK422.out 5).trans rfl; have hfz13_0 := blk_frozen BK422.out 0; have hfz13_1 := blk_frozen BK422.out 1; have hfz13_2 := blk_frozen BK422.out 2; have hfz13_3 := blk_frozen BK422.out 3; have hfz13_4 := blk_frozen BK422.out 4; have hfz13_5 := blk_frozen BK422.out 5; have hcz14_0 : w12.cell? ⟨gb423, 0, none⟩ = some (.int .i64 a1_0) := (blk_cell BK423.out 0).trans rfl; have hcz14_1 : w12.cell? ⟨gb423, 1, none⟩ = some (.int .i64 a1_1) := (blk_cell BK423.out 1).trans rfl; have hfz14_0 := blk_frozen BK423.out 0; have hfz14_1 := blk_frozen BK423.out 1) | ((with_reducible refine gate_callee (f := 64) rfl ?_); refine goesL_ (some 11) rfl rfl Try.func64 (by kernel_rfl) rfl #[.agg #[.int .u8 a0_0, .int .i64 a0_1, .int .i64 a0_2, .int .u64 a0_3, .int .u64 a0_4, .int .u64 a0_5], .agg #[.int .i64 a1_0, .int .i64 a1_1]] rfl (by (try simp only [List.map_toArray, List.map_cons, List.map_nil]); first | done | rfl | (simp only [List.length_drop, List.length_take]; rfl)) ?_; (with_reducible refine (headendref03_IsSubset.calls k a0_0 a0_1 a0_2 a0_3 a0_4 a0_5 a1_0 a1_1 true _ A5.out).mono ?_); rintro e w15 ⟨rfl, hb⟩; refine ⟨_, rfl, ?_⟩; have n0_ := Aside0.mk (blk_below (g := gb422) (o := .cells #[.int .u8 a0_0, .int .i64 a0_1, .int .i64 a0_2, .int .u64 a0_3, .int .u64 a0_4, .int .u64 a0_5] 45 (0, 0)) (by (with_reducible repeat (first | refine blk_drewN ?_ _ | refine blk_drew ?_ | refine blk_alloc ?_ _)); exact BK422.out) hb); have n1_ := Aside0.mk (blk_below (g := gb423) (o := .cells #[.int .i64 a1_0, .int .i64 a1_1] 47 (0, 0)) (by (with_reducible repeat (first | refine blk_drewN ?_ _ | refine blk_drew ?_ | refine blk_alloc ?_ _)); exact BK423.out) hb); have n2_ := Aside0.mk (below_step (by repeat (first | (with_reducible first | exact HB.out | apply below_alloc | apply pw_below_drewN | apply below_drew1 | refine below_set ?_ GE422.out | refine below_set ?_ GE423.out) | exact HB.out)) hb); clear BK422; clear BK423; clear HB; have BK422 := n0_; have BK423 := n1_; have HB := n2_; clear n0_ n1_ n2_; (try clear hb); (try clear hb2); (try clear hk); (try clear hi); have hcz16_0 : w15.cell? ⟨gb422, 0, none⟩ = some (.int .u8 a0_0) := (blk_cell BK422.out 0).trans rfl; have hcz16_1 : w15.cell? ⟨gb422, 1, none⟩ = some (.int .i64 a0_1) := (blk_cell BK422.out 1).trans rfl; have hcz16_2 : w15.cell? ⟨gb422, 2, none⟩ = some (.int .i64 a0_2) := (blk_cell BK422.out 2).trans rfl; have hcz16_3 : w15.cell? ⟨gb422, 3, none⟩ = some (.int .u64 a0_3) := (blk_cell BK422.out 3).trans rfl; have hcz16_4 : w15.cell? ⟨gb422, 4, none⟩ = some (.int .u64 a0_4) := (blk_cell BK422.out 4).trans rfl; have hcz16_5 : w15.cell? ⟨gb422, 5, none⟩ = some (.int .u64 a0_5) := (blk_cell BK422.out 5).trans rfl; have hfz16_0 := blk_frozen BK422.out 0; have hfz16_1 := blk_frozen BK422.out 1; have hfz16_2 := blk_frozen BK422.out 2; have hfz16_3 := blk_frozen BK422.out 3; have hfz16_4 := blk_frozen BK422.out 4; have hfz16_5 := blk_frozen BK422.out 5; have hcz17_0 : w15.cell? ⟨gb423, 0, none⟩ = some (.int .i64 a1_0) := (blk_cell BK423.out 0).trans rfl; have hcz17_1 : w15.cell? ⟨gb423, 1, none⟩ = some (.int .i64 a1_1) := (blk_cell BK423.out 1).trans rfl; have hfz17_0 := blk_frozen BK423.out 0; have hfz17_1 := blk_frozen BK423.out 1) | ((with_reducible refine gate_callee (f := 85) rfl ?_); refine goesL_ (some 15) rfl rfl Try.func85 (by kernel_rfl) rfl #[.agg #[.int .u8 a0_0, .int .i64 a0_1, .int .i64 a0_2, .int .u64 a0_3, .int .u64 a0_4, .int .u64 a0_5], .agg #[.int .i64 a1_0, .int .i64 a1_1]] rfl (by (try simp only [List.map_toArray, List.map_cons, List.map_nil]); first | done | rfl | (simp only [List.length_drop, List.length_take]; rfl)) ?_; (with_reducible refine (headendref03_MembersOf.calls k a0_0 a0_1 a0_2 a0_3 a0_4 a0_5 a1_0 a1_1 t426 _ A7.out).mono ?_); rintro e w18 ⟨v427, rfl, ho0, hb⟩; refine ⟨_, rfl, ?_⟩; have n0_ := Aside0.mk (Kd.R_lower ho0 (below_size (by repeat (first | (with_reducible first | exact HB.out | apply below_alloc | apply pw_below_drewN | apply below_drew1 | refine below_set ?_ GE422.out | refine below_set ?_ GE423.out) | exact HB.out)))); have n1_ := Aside0.mk (blk_below (g := gb422) (o := .cells #[.int .u8 a0_0, .int .i64 a0_1, .int .i64 a0_2, .int .u64 a0_3, .int .u64 a0_4, .int .u64 a0_5] 45 (0, 0)) (by (with_reducible repeat (first | refine blk_drewN ?_ _ | refine blk_drew ?_ | refine blk_alloc ?_ _)); exact BK422.out) hb); have n2_ := Aside0.mk (blk_below (g := gb423) (o := .cells #[.int .i64 a1_0, .int .i64 a1_1] 47 (0, 0)) (by (with_reducible repeat (first | refine blk_drewN ?_ _ | refine blk_drew ?_ | refine blk_alloc ?_ _)); exact BK423.out) hb); have n3_ := Aside0.mk (below_step (by repeat (first | (with_reducible first | exact HB.out | apply below_alloc | apply pw_below_drewN | apply below_drew1 | refine below_set ?_ GE422.out | refine below_set ?_ GE423.out) | exact HB.out)) hb); clear BK422; clear BK423; clear HB; have HO428 := n0_; have BK422 := n1_; have BK423 := n2_; have HB := n3_; clear n0_ n1_ n2_ n3_; (try clear hb); (try clear hb2); (try clear hk); (try clear hi); (try clear ho0)))
      go_ret2
      exact ⟨_, by first | rfl | (simp [errW_none, errW_some] <;> rfl) | (simp [*, errW_none, errW_some] <;> rfl), by (with_reducible repeat (first | apply Kd.R_alloc | apply Kd.R_drewN | apply Kd.R_drew)); exact HO428.out, by repeat (first | (with_reducible first | exact HB.out | apply below_alloc | apply pw_below_drewN | apply below_drew1 | refine below_set ?_ GE422.out | refine below_set ?_ GE423.out) | exact HB.out)⟩
    · replace c6 := Bool.eq_false_iff.mpr c6
      subst c6
      have H1 : (some (([] : List Int), 31)) = some (r1, r2) := by rw [if_neg (show ¬ (false = true) by decide)] at H; exact H
      clear H
      have H := H1
      clear H1
      simp only [Option.some.injEq, Prod.mk.injEq] at H
      obtain ⟨rfl, rfl⟩ := H
      go_enter Try.func36, Try.ntmps36
      go_wp2_with (first | ((with_reducible refine gate_dst (N := 2) rfl ?_); refine box_event ?hg (N := 2) ?hd (cs := #[.int .u8 a0_0, .int .i64 a0_1, .int .i64 a0_2, .int .u64 a0_3, .int .u64 a0_4, .int .u64 a0_5]) (t := 45) ?hr ?_; (case hd => rfl); (case hg => rfl); (case hr => first | (go_simp; done) | (go_simp; rfl)); intro gb422 hg w19 hbox hb; have n0_ := Aside0.mk (below_step (by repeat (first | (with_reducible first | exact HB.out | apply below_alloc | apply pw_below_drewN | apply below_drew1) | exact HB.out)) hb); have n1_ := Aside0.mk (hbox); have n2_ := Aside0.mk ((by rw [hg]; exact (below_size (by repeat (first | (with_reducible first | exact HB.out | apply below_alloc | apply pw_below_drewN | apply below_drew1) | exact HB.out))) : w.heap.size ≤ gb422)); have n3_ := Aside0.mk ((by rw [hg]; exact (below_size (by repeat (first | (with_reducible first | exact HB.out | apply below_alloc | apply pw_below_drewN | apply below_drew1) | exact HB.out))) : w.heap.size ≤ gb422)); clear HB; have HB := n0_; have BK422 := n1_; have GW422 := n2_; have GE422 := n3_; clear n0_ n1_ n2_ n3_; clear hb hbox hg) | ((with_reducible refine gate_dst (N := 3) rfl ?_); refine box_event ?hg (N := 3) ?hd (cs := #[.int .i64 a1_0, .int .i64 a1_1]) (t := 47) ?hr ?_; (case hd => rfl); (case hg => rfl); (case hr => first | (go_simp; done) | (go_simp; rfl)); intro gb423 hg w20 hbox hb; have n0_ := Aside0.mk (blk_below (g := gb422) (o := .cells #[.int .u8 a0_0, .int .i64 a0_1, .int .i64 a0_2, .int .u64 a0_3, .int .u64 a0_4, .int .u64 a0_5] 45 (0, 0)) (by (with_reducible repeat (first | refine blk_drewN ?_ _ | refine blk_drew ?_ | refine blk_alloc ?_ _)); exact BK422.out) hb); have n1_ := Aside0.mk (below_step (by repeat (first | (with_reducible first | exact HB.out | apply below_alloc | apply pw_below_drewN | apply below_drew1 | refine below_set ?_ GE422.out) | exact HB.out)) hb); have n2_ := Aside0.mk (hbox); have n3_ := Aside0.mk ((by rw [hg]; exact (below_size (by repeat (first | (with_reducible first | exact HB.out | apply below_alloc | apply pw_below_drewN | apply below_drew1 | refine below_set ?_ GE422.out) | exact HB.out))) : w.heap.size ≤ gb423)); have n4_ := Aside0.mk ((by rw [hg]; exact (below_size (by repeat (first | (with_reducible first | exact HB.out | apply below_alloc | apply pw_below_drewN | apply below_drew1 | refine below_set ?_ GE422.out) | exact HB.out))) : w.heap.size ≤ gb423)); have n5_ := Aside0.mk ((by rw [hg]; exact Nat.ne_of_lt (blk_lt (g := gb422) (o := .cells #[.int .u8 a0_0, .int .i64 a0_1, .int .i64 a0_2, .int .u64 a0_3, .int .u64 a0_4, .int .u64 a0_5] 45 (0, 0)) (by (with_reducible repeat (first | refine blk_drewN ?_ _ | refine blk_drew ?_ | refine blk_alloc ?_ _)); exact BK422.out)) : gb422 ≠ gb423)); have n6_ := Aside0.mk ((by rw [hg]; exact Nat.ne_of_gt (blk_lt (g := gb422) (o := .cells #[.int .u8 a0_0, .int .i64 a0_1, .int .i64 a0_2, .int .u64 a0_3, .int .u64 a0_4, .int .u64 a0_5] 45 (0, 0)) (by (with_reducible repeat (first | refine blk_drewN ?_ _ | refine blk_drew ?_ | refine blk_alloc ?_ _)); exact BK422.out)) : gb423 ≠ gb422)); clear BK422; clear HB; have BK422 := n0_; have HB := n1_; have BK423 := n2_; have GW423 := n3_; have GE423 := n4_; have NB422_423 := n5_; have NB423_422 := n6_; clear n0_ n1_ n2_ n3_ n4_ n5_ n6_; clear hb hbox hg; have hnb21 := NB422_423.out; have hnc21 := NB423_422.out; have hcz22_0 : w20.cell? ⟨gb422, 0, none⟩ = some (.int .u8 a0_0) := (blk_cell BK422.out 0).trans rfl; have hcz22_1 : w20.cell? ⟨gb422, 1, none⟩ = some (.int .i64 a0_1) := (blk_cell BK422.out 1).trans rfl; have hcz22_2 : w20.cell? ⟨gb422, 2, none⟩ = some (.int .i64 a0_2) := (blk_cell BK422.out 2).trans rfl; have hcz22_3 : w20.cell? ⟨gb422, 3, none⟩ = some (.int .u64 a0_3) := (blk_cell BK422.out 3).trans rfl; have hcz22_4 : w20.cell? ⟨gb422, 4, none⟩ = some (.int .u64 a0_4) := (blk_cell BK422.out 4).trans rfl; have hcz22_5 : w20.cell? ⟨gb422, 5, none⟩ = some (.int .u64 a0_5) := (blk_cell BK422.out 5).trans rfl; have hfz22_0 := blk_frozen BK422.out 0; have hfz22_1 := blk_frozen BK422.out 1; have hfz22_2 := blk_frozen BK422.out 2; have hfz22_3 := blk_frozen BK422.out 3; have hfz22_4 := blk_frozen BK422.out 4; have hfz22_5 := blk_frozen BK422.out 5) | ((with_reducible refine gate_callee (f := 61) rfl ?_); refine goesL_ (some 7) rfl rfl Try.func61 (by kernel_rfl) rfl #[.agg #[.int .u8 a0_0, .int .i64 a0_1, .int .i64 a0_2, .int .u64 a0_3, .int .u64 a0_4, .int .u64 a0_5]] rfl (by (try simp only [List.map_toArray, List.map_cons, List.map_nil]); first | done | rfl | (simp only [List.length_drop, List.length_take]; rfl)) ?_; (with_reducible refine (headendref03_Valid.calls a0_0 a0_1 a0_2 a0_3 a0_4 a0_5 true _ A3.out).mono ?_); rintro e w23 ⟨rfl, hb⟩; refine ⟨_, rfl, ?_⟩; have n0_ := Aside0.mk (blk_below (g := gb422) (o := .cells #[.int .u8 a0_0, .int .i64 a0_1, .int .i64 a0_2, .int .u64 a0_3, .int .u64 a0_4, .int .u64 a0_5] 45 (0, 0)) (by (with_reducible repeat (first | refine blk_drewN ?_ _ | refine blk_drew ?_ | refine blk_alloc ?_ _)); exact BK422.out) hb); have n1_ := Aside0.mk (blk_below (g := gb423) (o := .cells #[.int .i64 a1_0, .int .i64 a1_1] 47 (0, 0)) (by (with_reducible repeat (first | refine blk_drewN ?_ _ | refine blk_drew ?_ | refine blk_alloc ?_ _)); exact BK423.out) hb); have n2_ := Aside0.mk (below_step (by repeat (first | (with_reducible first | exact HB.out | apply below_alloc | apply pw_below_drewN | apply below_drew1 | refine below_set ?_ GE422.out | refine below_set ?_ GE423.out) | exact HB.out)) hb); clear BK422; clear BK423; clear HB; have BK422 := n0_; have BK423 := n1_; have HB := n2_; clear n0_ n1_ n2_; (try clear hb); (try clear hb2); (try clear hk); (try clear hi); have hcz24_0 : w23.cell? ⟨gb422, 0, none⟩ = some (.int .u8 a0_0) := (blk_cell BK422.out 0).trans rfl; have hcz24_1 : w23.cell? ⟨gb422, 1, none⟩ = some (.int .i64 a0_1) := (blk_cell BK422.out 1).trans rfl; have hcz24_2 : w23.cell? ⟨gb422, 2, none⟩ = some (.int .i64 a0_2) := (blk_cell BK422.out 2).trans rfl; have hcz24_3 : w23.cell? ⟨gb422, 3, none⟩ = some (.int .u64 a0_3) := (blk_cell BK422.out 3).trans rfl; have hcz24_4 : w23.cell? ⟨gb422, 4, none⟩ = some (.int .u64 a0_4) := (blk_cell BK422.out 4).trans rfl; have hcz24_5 : w23.cell? ⟨gb422, 5, none⟩ = some (.int .u64 a0_5) := (blk_cell BK422.out 5).trans rfl; have hfz24_0 := blk_frozen BK422.out 0; have hfz24_1 := blk_frozen BK422.out 1; have hfz24_2 := blk_frozen BK422.out 2; have hfz24_3 := blk_frozen BK422.out 3; have hfz24_4 := blk_frozen BK422.out 4; have hfz24_5 := blk_frozen BK422.out 5; have hcz25_0 : w23.cell? ⟨gb423, 0, none⟩ = some (.int .i64 a1_0) := (blk_cell BK423.out 0).trans rfl; have hcz25_1 : w23.cell? ⟨gb423, 1, none⟩ = some (.int .i64 a1_1) := (blk_cell BK423.out 1).trans rfl; have hfz25_0 := blk_frozen BK423.out 0; have hfz25_1 := blk_frozen BK423.out 1) | ((with_reducible refine gate_callee (f := 64) rfl ?_); refine goesL_ (some 11) rfl rfl Try.func64 (by kernel_rfl) rfl #[.agg #[.int .u8 a0_0, .int .i64 a0_1, .int .i64 a0_2, .int .u64 a0_3, .int .u64 a0_4, .int .u64 a0_5], .agg #[.int .i64 a1_0, .int .i64 a1_1]] rfl (by (try simp only [List.map_toArray, List.map_cons, List.map_nil]); first | done | rfl | (simp only [List.length_drop, List.length_take]; rfl)) ?_; (with_reducible refine (headendref03_IsSubset.calls k a0_0 a0_1 a0_2 a0_3 a0_4 a0_5 a1_0 a1_1 false _ A5.out).mono ?_); rintro e w26 ⟨rfl, hb⟩; refine ⟨_, rfl, ?_⟩; have n0_ := Aside0.mk (blk_below (g := gb422) (o := .cells #[.int .u8 a0_0, .int .i64 a0_1, .int .i64 a0_2, .int .u64 a0_3, .int .u64 a0_4, .int .u64 a0_5] 45 (0, 0)) (by (with_reducible repeat (first | refine blk_drewN ?_ _ | refine blk_drew ?_ | refine blk_alloc ?_ _)); exact BK422.out) hb); have n1_ := Aside0.mk (blk_below (g := gb423) (o := .cells #[.int .i64 a1_0, .int .i64 a1_1] 47 (0, 0)) (by (with_reducible repeat (first | refine blk_drewN ?_ _ | refine blk_drew ?_ | refine blk_alloc ?_ _)); exact BK423.out) hb); have n2_ := Aside0.mk (below_step (by repeat (first | (with_reducible first | exact HB.out | apply below_alloc | apply pw_below_drewN | apply below_drew1 | refine below_set ?_ GE422.out | refine below_set ?_ GE423.out) | exact HB.out)) hb); clear BK422; clear BK423; clear HB; have BK422 := n0_; have BK423 := n1_; have HB := n2_; clear n0_ n1_ n2_; (try clear hb); (try clear hb2); (try clear hk); (try clear hi)))
      go_ret2
      exact ⟨_, by first | rfl | (simp [errW_none, errW_some] <;> rfl) | (simp [*, errW_none, errW_some] <;> rfl), by first | exact Kd.R_nil _ _ _ _ _ | exact Kd.N_nil _ _ _ _ _ | exact Kd.V_nil _ _ _ _ _ | exact Kd.Q_nil _ _ _ _ _ | exact Kd.S_nil _ _ _ _ _, by repeat (first | (with_reducible first | exact HB.out | apply below_alloc | apply pw_below_drewN | apply below_drew1 | refine below_set ?_ GE422.out | refine below_set ?_ GE423.out) | exact HB.out)⟩
  · replace c4 := Bool.eq_false_iff.mpr c4
    subst c4
    have H1 : (some (([] : List Int), 30)) = some (r1, r2) := by rw [if_neg (show ¬ (false = true) by decide)] at H; exact H
    clear H
    have H := H1
    clear H1
    simp only [Option.some.injEq, Prod.mk.injEq] at H
    obtain ⟨rfl, rfl⟩ := H
    go_enter Try.func36, Try.ntmps36
    go_wp2_with (first | ((with_reducible refine gate_dst (N := 2) rfl ?_); refine box_event ?hg (N := 2) ?hd (cs := #[.int .u8 a0_0, .int .i64 a0_1, .int .i64 a0_2, .int .u64 a0_3, .int .u64 a0_4, .int .u64 a0_5]) (t := 45) ?hr ?_; (case hd => rfl); (case hg => rfl); (case hr => first | (go_simp; done) | (go_simp; rfl)); intro gb422 hg w27 hbox hb; have n0_ := Aside0.mk (below_step (by repeat (first | (with_reducible first | exact HB.out | apply below_alloc | apply pw_below_drewN | apply below_drew1) | exact HB.out)) hb); have n1_ := Aside0.mk (hbox); have n2_ := Aside0.mk ((by rw [hg]; exact (below_size (by repeat (first | (with_reducible first | exact HB.out | apply below_alloc | apply pw_below_drewN | apply below_drew1) | exact HB.out))) : w.heap.size ≤ gb422)); have n3_ := Aside0.mk ((by rw [hg]; exact (below_size (by repeat (first | (with_reducible first | exact HB.out | apply below_alloc | apply pw_below_drewN | apply below_drew1) | exact HB.out))) : w.heap.size ≤ gb422)); clear HB; have HB := n0_; have BK422 := n1_; have GW422 := n2_; have GE422 := n3_; clear n0_ n1_ n2_ n3_; clear hb hbox hg) | ((with_reducible refine gate_dst (N := 3) rfl ?_); refine box_event ?hg (N := 3) ?hd (cs := #[.int .i64 a1_0, .int .i64 a1_1]) (t := 47) ?hr ?_; (case hd => rfl); (case hg => rfl); (case hr => first | (go_simp; done) | (go_simp; rfl)); intro gb423 hg w28 hbox hb; have n0_ := Aside0.mk (blk_below (g := gb422) (o := .cells #[.int .u8 a0_0, .int .i64 a0_1, .int .i64 a0_2, .int .u64 a0_3, .int .u64 a0_4, .int .u64 a0_5] 45 (0, 0)) (by (with_reducible repeat (first | refine blk_drewN ?_ _ | refine blk_drew ?_ | refine blk_alloc ?_ _)); exact BK422.out) hb); have n1_ := Aside0.mk (below_step (by repeat (first | (with_reducible first | exact HB.out | apply below_alloc | apply pw_below_drewN | apply below_drew1 | refine below_set ?_ GE422.out) | exact HB.out)) hb); have n2_ := Aside0.mk (hbox); have n3_ := Aside0.mk ((by rw [hg]; exact (below_size (by repeat (first | (with_reducible first | exact HB.out | apply below_alloc | apply pw_below_drewN | apply below_drew1 | refine below_set ?_ GE422.out) | exact HB.out))) : w.heap.size ≤ gb423)); have n4_ := Aside0.mk ((by rw [hg]; exact (below_size (by repeat (first | (with_reducible first | exact HB.out | apply below_alloc | apply pw_below_drewN | apply below_drew1 | refine below_set ?_ GE422.out) | exact HB.out))) : w.heap.size ≤ gb423)); have n5_ := Aside0.mk ((by rw [hg]; exact Nat.ne_of_lt (blk_lt (g := gb422) (o := .cells #[.int .u8 a0_0, .int .i64 a0_1, .int .i64 a0_2, .int .u64 a0_3, .int .u64 a0_4, .int .u64 a0_5] 45 (0, 0)) (by (with_reducible repeat (first | refine blk_drewN ?_ _ | refine blk_drew ?_ | refine blk_alloc ?_ _)); exact BK422.out)) : gb422 ≠ gb423)); have n6_ := Aside0.mk ((by rw [hg]; exact Nat.ne_of_gt (blk_lt (g := gb422) (o := .cells #[.int .u8 a0_0, .int .i64 a0_1, .int .i64 a0_2, .int .u64 a0_3, .int .u64 a0_4, .int .u64 a0_5] 45 (0, 0)) (by (with_reducible repeat (first | refine blk_drewN ?_ _ | refine blk_drew ?_ | refine blk_alloc ?_ _)); exact BK422.out)) : gb423 ≠ gb422)); clear BK422; clear HB; have BK422 := n0_; have HB := n1_; have BK423 := n2_; have GW423 := n3_; have GE423 := n4_; have NB422_423 := n5_; have NB423_422 := n6_; clear n0_ n1_ n2_ n3_ n4_ n5_ n6_; clear hb hbox hg; have hnb29 := NB422_423.out; have hnc29 := NB423_422.out; have hcz30_0 : w28.cell? ⟨gb422, 0, none⟩ = some (.int .u8 a0_0) := (blk_cell BK422.out 0).trans rfl; have hcz30_1 : w28.cell? ⟨gb422, 1, none⟩ = some (.int .i64 a0_1) := (blk_cell BK422.out 1).trans rfl; have hcz30_2 : w28.cell? ⟨gb422, 2, none⟩ = some (.int .i64 a0_2) := (blk_cell BK422.out 2).trans rfl; have hcz30_3 : w28.cell? ⟨gb422, 3, none⟩ = some (.int .u64 a0_3) := (blk_cell BK422.out 3).trans rfl; have hcz30_4 : w28.cell? ⟨gb422, 4, none⟩ = some (.int .u64 a0_4) := (blk_cell BK422.out 4).trans rfl; have hcz30_5 : w28.cell? ⟨gb422, 5, none⟩ = some (.int .u64 a0_5) := (blk_cell BK422.out 5).trans rfl; have hfz30_0 := blk_frozen BK422.out 0; have hfz30_1 := blk_frozen BK422.out 1; have hfz30_2 := blk_frozen BK422.out 2; have hfz30_3 := blk_frozen BK422.out 3; have hfz30_4 := blk_frozen BK422.out 4; have hfz30_5 := blk_frozen BK422.out 5) | ((with_reducible refine gate_callee (f := 61) rfl ?_); refine goesL_ (some 7) rfl rfl Try.func61 (by kernel_rfl) rfl #[.agg #[.int .u8 a0_0, .int .i64 a0_1, .int .i64 a0_2, .int .u64 a0_3, .int .u64 a0_4, .int .u64 a0_5]] rfl (by (try simp only [List.map_toArray, List.map_cons, List.map_nil]); first | done | rfl | (simp only [List.length_drop, List.length_take]; rfl)) ?_; (with_reducible refine (headendref03_Valid.calls a0_0 a0_1 a0_2 a0_3 a0_4 a0_5 false _ A3.out).mono ?_); rintro e w31 ⟨rfl, hb⟩; refine ⟨_, rfl, ?_⟩; have n0_ := Aside0.mk (blk_below (g := gb422) (o := .cells #[.int .u8 a0_0, .int .i64 a0_1, .int .i64 a0_2, .int .u64 a0_3, .int .u64 a0_4, .int .u64 a0_5] 45 (0, 0)) (by (with_reducible repeat (first | refine blk_drewN ?_ _ | refine blk_drew ?_ | refine blk_alloc ?_ _)); exact BK422.out) hb); have n1_ := Aside0.mk (blk_below (g := gb423) (o := .cells #[.int .i64 a1_0, .int .i64 a1_1] 47 (0, 0)) (by (with_reducible repeat (first | refine blk_drewN ?_ _ | refine blk_drew ?_ | refine blk_alloc ?_ _)); exact BK423.out) hb); have n2_ := Aside0.mk (below_step (by repeat (first | (with_reducible first | exact HB.out | apply below_alloc | apply pw_below_drewN | apply below_drew1 | refine below_set ?_ GE422.out | refine below_set ?_ GE423.out) | exact HB.out)) hb); clear BK422; clear BK423; clear HB; have BK422 := n0_; have BK423 := n1_; have HB := n2_; clear n0_ n1_ n2_; (try clear hb); (try clear hb2); (try clear hk); (try clear hi)))
    go_ret2
    exact ⟨_, by first | rfl | (simp [errW_none, errW_some] <;> rfl) | (simp [*, errW_none, errW_some] <;> rfl), by first | exact Kd.R_nil _ _ _ _ _ | exact Kd.N_nil _ _ _ _ _ | exact Kd.V_nil _ _ _ _ _ | exact Kd.Q_nil _ _ _ _ _ | exact Kd.S_nil _ _ _ _ _, by repeat (first | (with_reducible first | exact HB.out | apply below_alloc | apply pw_below_drewN | apply below_drew1 | refine below_set ?_ GE422.out | refine below_set ?_ GE423.out) | exact HB.out)⟩

end Go.Proofs.Ytafhimeoijmolaa.G

/- Written by wip/genprint.py: Lean functions with the Go functions' answers, and their contracts. -/
namespace Go.Proofs.Ytafhimeoijmolaa.G
open Go.RowKit Go.Proofs.YtafhimeoijmolaaW.PrintWords Go.Proofs.YtafhimeoijmolaaW.PrintLast Go.Proofs.YtafhimeoijmolaaW.PrintMore
attribute [local go_sem] max2_int min2_int max_two min_two max_three min_three max_four min_four   -- for this text's walks alone
set_option linter.unusedVariables false
set_option linter.unusedSimpArgs false

/-! ### headendref03_SameInts: function 37 -/
def headendref03_SameInts.l0 : Nat → List Int → List Int → Int → Option (Bool)
  | 0, _, _, _ => none
  | k + 1, x0, x1, x5 => if x5 < (x0.length : Int) then (if 0 ≤ x5 then (if x5 < (x1.length : Int) then (if (rd x0 x5) = (rd x1 x5) then (headendref03_SameInts.l0 k x0 x1 (wrap64 (x5 + 1))) else (some false)) else (none)) else (none)) else (some true)
def headendref03_SameInts.f (k : Nat) (l0 : List Int) (l1 : List Int) : Option (Bool) := if (l0.length : Int) = (l1.length : Int) then (headendref03_SameInts.l0 k l0 l1 0) else (some false)
theorem headendref03_SameInts.mono_l : ∀ k, (∀ y0 y1 y2, LeO (headendref03_SameInts.l0 k y0 y1 y2) (headendref03_SameInts.l0 (k + 1) y0 y1 y2))
  | 0 => fun _ _ _ r h => by simp [headendref03_SameInts.l0] at h
  | k + 1 => by
    have ih0 := headendref03_SameInts.mono_l k
    · intro y0 y1 y2
      unfold headendref03_SameInts.l0
      repeat' first
      | (with_reducible exact ih0 _ _ _)
      | (with_reducible exact LeO.refl _)
      | (with_reducible exact LeO.none _)
      | (with_reducible refine LeO.ite ?_ ?_)
      | (with_reducible refine LeO.bind ?_ (fun _ => ?_))
      | exact ih0 _ _ _
      | exact LeO.none _
      | refine LeO.ite ?_ ?_
      | refine LeO.bind ?_ (fun _ => ?_)
theorem headendref03_SameInts.mono : ∀ a0 a1 k, LeO (headendref03_SameInts.f k a0 a1) (headendref03_SameInts.f (k + 1) a0 a1) := by
  intro a0 a1 k
  have ih0 := headendref03_SameInts.mono_l k
  unfold headendref03_SameInts.f
  repeat' first
      | (with_reducible exact ih0 _ _ _)
      | (with_reducible exact LeO.refl _)
      | (with_reducible exact LeO.none _)
      | (with_reducible refine LeO.ite ?_ ?_)
      | (with_reducible refine LeO.bind ?_ (fun _ => ?_))
      | exact ih0 _ _ _
      | exact LeO.none _
      | refine LeO.ite ?_ ?_
      | refine LeO.bind ?_ (fun _ => ?_)
set_option maxHeartbeats 8000000 in
set_option maxRecDepth 100000 in
theorem headendref03_SameInts.calls (k : Nat) (A0 : Option Addr) (c0 : Nat) (l0 : List Int) (A1 : Option Addr) (c1 : Nat) (l1 : List Int) (r : Bool) (w : World) (hr0 : Kd.C (Kd.int .i64) w A0 l0.length l0) (hc0 : l0.length ≤ c0) (hr1 : Kd.C (Kd.int .i64) w A1 l1.length l1) (hc1 : l1.length ≤ c1) (h : headendref03_SameInts.f k l0 l1 = some r) :
    Calls Try.prog 37 #[.slice A0 l0.length c0, .slice A1 l1.length c1] w fun e w' => e = .returned (.bool r) ∧ Drawn0 w w' := by
  have HR0 := Aside0.mk hr0
  have HC0 := Aside0.mk hc0
  clear hr0 hc0
  have HR1 := Aside0.mk hr1
  have HC1 := Aside0.mk hc1
  clear hr1 hc1
  have H : (if (l0.length : Int) = (l1.length : Int) then (headendref03_SameInts.l0 k l0 l1 0) else (some false)) = some r := h
  clear h
  by_cases c3 : (l0.length : Int) = (l1.length : Int)
  · rw [if_pos c3] at H
    have c3b0 : ((l0.length : Int) == (l1.length : Int)) = true := beq_iff_eq.mpr c3
    have c3b1 : ((l0.length : Int) != (l1.length : Int)) = false := bne_eq_false_iff_eq.mpr c3
    have c3b2 : (l0.length == l1.length) = true := by first | simpa using c3 | (simp at c3 ⊢; omega)
    clear c3
    have H' := Aside0.mk H
    clear H
    go_enter Try.func37, Try.ntmps37
    go_wp2
    repeat (go_quiet (fail); try go_wp2)
    go_loopg [5] k (fun kq v5 w' => ∃ (x5_1 : Int), v5 = .int .i64 x5_1 ∧ Aside0 (headendref03_SameInts.l0 kq l0 l1 x5_1 = some r) ∧ Aside0 (kq ≤ k) ∧ Drawn0 w w')
    case atStart => exact ⟨(0), (by first | rfl | (simp; done) | (simp [*]; done)), H', ⟨Nat.le_refl _⟩, by repeat (first | exact Drawn0.refl _ | apply Drawn0.step)⟩
    case round =>
      clear H'
      try clear c1
      try clear p2
      try clear c3
      try clear c3b0
      try clear c3b1
      try clear c3b2
      obtain ⟨x5_1, rfl, HA, HK1, ⟨m1, rfl⟩⟩ := hrel
      cases gk with
      | zero => exact absurd HA.out (by simp [headendref03_SameInts.l0])
      | succ k1 =>
        have H := HA.out
        clear HA
        simp only [headendref03_SameInts.l0] at H
        by_cases c4 : x5_1 < (l0.length : Int)
        · rw [if_pos c4] at H
          have c4b0 : decide (x5_1 < (l0.length : Int)) = true := decide_eq_true c4
          clear c4
          by_cases c5 : 0 ≤ x5_1
          · rw [if_pos c5] at H
            have c5b0 : decide (0 ≤ x5_1) = true := decide_eq_true c5
            clear c5
            by_cases c6 : x5_1 < (l1.length : Int)
            · rw [if_pos c6] at H
              have c6b0 : decide (x5_1 < (l1.length : Int)) = true := decide_eq_true c6
              clear c6
              by_cases c7 : (rd l0 x5_1) = (rd l1 x5_1)
              · rw [if_pos c7] at H
                have c7b0 : ((rd l0 x5_1) == (rd l1 x5_1)) = true := beq_iff_eq.mpr c7
                have c7b1 : ((rd l0 x5_1) != (rd l1 x5_1)) = false := bne_eq_false_iff_eq.mpr c7
                clear c7
                have H' := Aside0.mk H
                clear H
                have p429 : 0 ≤ (x5_1 : Int) := of_decide_eq_true (by first | (with_reducible assumption) | assumption)
                have q429 : x5_1 < (l0.length : Int) := of_decide_eq_true (by first | (with_reducible assumption) | assumption)
                obtain ⟨ad429, e429, hx429_0⟩ := Kd.at_int HR0.out x5_1 p429 q429
                cases e429
                replace p429 := eq_true p429
                replace q429 := eq_true q429
                have p430 : 0 ≤ (x5_1 : Int) := of_decide_eq_true (by first | (with_reducible assumption) | assumption)
                have q430 : x5_1 < (l1.length : Int) := of_decide_eq_true (by first | (with_reducible assumption) | assumption)
                obtain ⟨ad430, e430, hx430_0⟩ := Kd.at_int HR1.out x5_1 p430 q430
                cases e430
                replace p430 := eq_true p430
                replace q430 := eq_true q430
                go_wp2
                repeat (go_quiet (fail); try go_wp2)
                go_roundg k1
                case measure => have := HK1.out; omega
                case rel => exact ⟨(wrap64 (x5_1 + 1)), (by first | rfl | (simp; done) | (simp [*]; done)), H', ⟨by have := HK1.out; omega⟩, by repeat (first | exact Drawn0.refl _ | apply Drawn0.step)⟩
              · rw [if_neg c7] at H
                have c7b0 : ((rd l0 x5_1) == (rd l1 x5_1)) = false := beq_eq_false_iff_ne.mpr c7
                have c7b1 : ((rd l0 x5_1) != (rd l1 x5_1)) = true := bne_iff_ne.mpr c7
                obtain rfl := Option.some.inj H
                have p429 : 0 ≤ (x5_1 : Int) := of_decide_eq_true (by first | (with_reducible assumption) | assumption)
                have q429 : x5_1 < (l0.length : Int) := of_decide_eq_true (by first | (with_reducible assumption) | assumption)
                obtain ⟨ad429, e429, hx429_0⟩ := Kd.at_int HR0.out x5_1 p429 q429
                cases e429
                replace p429 := eq_true p429
                replace q429 := eq_true q429
                have p430 : 0 ≤ (x5_1 : Int) := of_decide_eq_true (by first | (with_reducible assumption) | assumption)
                have q430 : x5_1 < (l1.length : Int) := of_decide_eq_true (by first | (with_reducible assumption) | assumption)
                obtain ⟨ad430, e430, hx430_0⟩ := Kd.at_int HR1.out x5_1 p430 q430
                cases e430
                replace p430 := eq_true p430
                replace q430 := eq_true q430
                go_wp2
                repeat (go_quiet (fail); try go_wp2)
                go_ret
                exact ⟨by first | rfl | (simp; done) | (simp [*]; done), by repeat (first | exact Drawn0.refl _ | apply Drawn0.step)⟩
            · rw [if_neg c6] at H
              exact absurd H (by simp)
          · rw [if_neg c5] at H
            exact absurd H (by simp)
        · rw [if_neg c4] at H
          have c4b0 : decide (x5_1 < (l0.length : Int)) = false := decide_eq_false c4
          clear c4
          obtain rfl := Option.some.inj H
          go_wp2
          repeat (go_quiet (fail); try go_wp2)
          go_ret
          exact ⟨by first | rfl | (simp; done) | (simp [*]; done), by repeat (first | exact Drawn0.refl _ | apply Drawn0.step)⟩
  · rw [if_neg c3] at H
    have c3b0 : ((l0.length : Int) == (l1.length : Int)) = false := beq_eq_false_iff_ne.mpr c3
    have c3b1 : ((l0.length : Int) != (l1.length : Int)) = true := bne_iff_ne.mpr c3
    have c3b2 : (l0.length == l1.length) = false := by first | simpa using c3 | (simp at c3 ⊢; omega)
    obtain rfl := Option.some.inj H
    go_enter Try.func37, Try.ntmps37
    go_wp2
    repeat (go_quiet (fail); try go_wp2)
    go_ret
    exact ⟨by first | rfl | (simp; done) | (simp [*]; done), by repeat (first | exact Drawn0.refl _ | apply Drawn0.step)⟩

end Go.Proofs.Ytafhimeoijmolaa.G

/- A range over an iterator that keeps loop variables of its own in boxes (of types 139 and 188; of type 134 it reads what it captured): a contract for such iterators, and the law for the statement that ranges over them; at the wide fence. -/
namespace Go.Proofs.Ytafhimeoijmolaa.R9
open Go.RowKit Go.Shelf
set_option linter.unusedVariables false
/-- The types of the iterator's own boxes. -/
def Mine (T : Nat) : Prop := T = 134 ∨ T = 139 ∨ T = 188
/-- A block that the iterator (or the statement itself) may turn while the caller's facts stand. -/
def OkRow (W : World) (B r : Nat) : Prop := B ≤ r ∧ ∃ o, W.heap[r]? = some o ∧ (o.isCells = false ∨ ∃ cs m T, o = .cells cs T m ∧ Mine T)
def Own9 {β : Type} (B : Nat) (I : β → World → Prop) : Prop :=
  ∀ s W W' row, I s W → W.grownBy W' row → (∀ r, row = some r → OkRow W B r) → I s W'
/-- What a round keeps: every block of the iterator's types. -/
def Kp9 (W W' : World) : Prop := ∀ (k : Nat) (cs : Array Value) (T : TypeId) (m : Nat × Nat), W.heap[k]? = some (.cells cs T m) → Mine T → W'.heap[k]? = some (.cells cs T m)
theorem Kp9.refl (X : World) : Kp9 X X := fun _ _ _ _ hx _ => hx
theorem Kp9.trans {X Y Z : World} (h : Kp9 X Y) (k : Kp9 Y Z) : Kp9 X Z := fun i cs T m hx hT => k i cs T m (h i cs T m hx hT) hT
theorem Kp9.of_below {X Y : World} (h : Below X.heap.size X Y) : Kp9 X Y :=
  fun k cs T m hx _ => (h.block k (Array.getElem?_eq_some_iff.1 hx).1).trans hx
theorem Kp9.putObj {W : World} {l : Nat} {o : Obj} (o' : Obj) (hl : W.heap[l]? = some o) (ho : o.isCells = false) : Kp9 W (W.putObj l o') :=
  fun k cs T m hx _ => by
    by_cases e : k = l
    · subst e; rw [hl] at hx; cases hx; cases ho
    · exact (World.putObj_heap_other e).trans hx
/-- One row has been written, of another type. -/
theorem Kp9.grown {W W' : World} {row : Option Nat} (hg : W.grownBy W' row) (hr : ∀ r, row = some r → ∃ o, W.heap[r]? = some o ∧ ∀ cs m T, o = .cells cs T m → ¬ Mine T) : Kp9 W W' :=
  fun k cs T m hx hT => by
    refine (hg.block k (Array.getElem?_eq_some_iff.1 hx).1 (fun e => ?_)).trans hx
    obtain ⟨o, h1, h2⟩ := hr k e.symm
    rw [hx] at h1
    cases h1
    exact h2 _ _ _ rfl hT
theorem Kp9.set {W : World} {b o t : Nat} {cs : Array Value} {m : Nat × Nat} (hb : W.heap[b]? = some (.cells cs t m)) (ht : ¬ Mine t) (v : Value) : Kp9 W (W.setCell ⟨b, o, none⟩ v) :=
  fun k cs' T m' hx hT => by
    refine (Below.heap_setCell W ⟨b, o, none⟩ v k (fun e => ?_)).trans hx
    subst e
    rw [hb] at hx
    cases hx
    exact ht hT
theorem Kp9.boxed {W W' : World} {b t : Nat} {v : Value} (h : Kp9 W W') (hb : Boxed W b t v) (ht : Mine t) : Boxed W' b t v := h b _ t _ hb ht
theorem Own9.putObj {β : Type} {B : Nat} {I : β → World → Prop} (h : Own9 B I) {s : β} {W : World} {l : Nat} {o : Obj} (o' : Obj) (hs : I s W) (hB : B ≤ l) (hl : W.heap[l]? = some o) (ho : o.isCells = false) : I s (W.putObj l o') :=
  h s W _ (some l) hs (grownBy_putObj' W l o') (fun r e => by cases e; exact ⟨hB, o, hl, .inl ho⟩)
theorem Own9.still {β : Type} {B : Nat} {I : β → World → Prop} (h : Own9 B I) {s : β} {W W' : World} (hs : I s W) (hg : W.grownBy W' none) : I s W' := h s W W' none hs hg (fun r e => by cases e)
theorem Own9.alloc {β : Type} {B : Nat} {I : β → World → Prop} (h : Own9 B I) {s : β} {W : World} (o : Obj) (hs : I s W) : I s (W.alloc o) := h.still hs (World.grownBy_alloc W o none)
theorem Own9.below {β : Type} {B : Nat} {I : β → World → Prop} (h : Own9 B I) {s : β} {W W' : World} (hs : I s W) (hb : Below W.heap.size W W') : I s W' :=
  h.still hs ⟨hb.os, hb.tape, hb.output, hb.size, fun k hk _ => hb.block k hk⟩
theorem Own9.and {β : Type} {B : Nat} {I I' : β → World → Prop} (h : Own9 B I) (h' : Own9 B I') : Own9 B (fun s W => I s W ∧ I' s W) := fun s W W' row hs hg hr => ⟨h s W W' row hs.1 hg hr, h' s W W' row hs.2 hg hr⟩
theorem Own9.le {β : Type} {B B' : Nat} {I : β → World → Prop} (h : Own9 B I) (hB : B ≤ B') : Own9 B' I := fun s W W' row hs hg hr => h s W W' row hs hg (fun r e => ⟨Nat.le_trans hB (hr r e).1, (hr r e).2⟩)
theorem Own9.from {β : Type} {B : Nat} {I : β → World → Prop} (h : Own9 B I) : OwnFrom B I := fun s W W' row hs hg hr => h s W W' row hs hg (fun r e => by obtain ⟨h1, o, h2, h3⟩ := hr r e; exact ⟨h1, o, h2, .inl h3⟩)
theorem own9_below {β : Type} {n₀ B : Nat} {w₀ : World} (hn : n₀ ≤ w₀.heap.size) (hB : n₀ ≤ B) : Own9 B (fun (_ : β) W => Below n₀ w₀ W) :=
  fun _ _ _ _ hs hg hr => hs.grown hg (Nat.le_trans hn hs.size) (fun k e => Nat.le_trans hB (hr k e).1)
theorem own9_pure {β : Type} (B : Nat) (p : β → Prop) : Own9 B (fun s (_ : World) => p s) := fun _ _ _ _ hs _ _ => hs
/-- A box that lies below B, or is of another type, stands. -/
theorem own9_boxed {β : Type} {B b : Nat} (t : TypeId) (f : β → Value) (hb : b < B ∨ ¬ Mine t) : Own9 B (fun s W => Boxed W b t (f s)) := fun s W W' row hs hg hr => by
  refine Boxed.kept hs hg (fun e => ?_)
  obtain ⟨h1, o, h2, h3⟩ := hr b e.symm
  rcases hb with hb | hb
  · omega
  · have h4 : W.heap[b]? = some (.cells #[f s] t (0, 0)) := hs
    rw [h4] at h2
    cases h2
    rcases h3 with h3 | ⟨cs, m, T, h5, h6⟩
    · cases h3
    · cases h5; exact hb h6
/-- The iterator's contract: its function gf (with what it has captured) hands over the elements of xs, in order. -/
def Seq9 {α : Type} (P : Program) (n gf : Nat) (lb : Array Value) (encs : α → Array Value) (xs : List α) (w0 : World) : Prop :=
  ∀ (l : Nat) (J Jx : List α → World → Prop) (W : World), Below w0.heap.size w0 W → Own9 W.heap.size J → Own9 W.heap.size Jx →
    (∀ pre x W1, J pre W1 → pre ++ [x] <+: xs → YieldAt Fence.wide (n - 1) P l (encs x) W1 fun e W' =>
      (e = .returned (.bool true) ∧ J (pre ++ [x]) W' ∧ Kp9 W1 W' ∧ KeepsFrom W.heap.size W1 W') ∨ (e = .returned (.bool false) ∧ Jx (pre ++ [x]) W' ∧ KeepsFrom W.heap.size W1 W')) →
    J [] W →
    CallsIn Fence.wide n P gf (#[.func (.yield l) #[] #[]] ++ lb) W fun e W' => (∃ v, e = .returned v) ∧ (J xs W' ∨ (∃ pre, pre <+: xs ∧ Jx pre W'))
/-- What a round's walk owes. -/
def post9 {α : Type} (B : Nat) (I : List α → World → Prop) (Ix : Code → List α → World → Prop) (xs : List α) (W : World) : Exit → Act → World → Prop
  | .normal, _, W' => KeepsFrom B W W' ∧ Kp9 W W' ∧ I xs W'
  | .ret, _, W' => KeepsFrom B W W' ∧ Ix .ret xs W'
  | .exit id, _, W' => KeepsFrom B W W' ∧ Ix (.exit id) xs W'
  | .goto t, _, W' => KeepsFrom B W W' ∧ Ix (.goto t) xs W'
  | .panic _, _, _ => False
  | .outgrown, _, _ => False
theorem wpIn_range9s {P : Program} {n : Nat} {α : Type} {g : Operand} {ps : Array Tmp} {assign body : Code} {Q : Exit → Act → World → Prop} {a : Act} {w : World}
    {gf : Nat} {lb : Array Value} (hg : a.eval g = .func (.func gf) #[] lb) (eg : ∀ args w, (callFunc gf args).run P w = .ok (.enter gf args) w)
    {encs : α → Array Value} {xs : List α} {w0 : World} (hseq : Seq9 P (n - 1) gf lb encs xs w0) (hb0 : Below w0.heap.size w0 w) (hps : ∀ x, (encs x).size = ps.size)
    (I : List α → World → Prop) (Ix : Code → List α → World → Prop) (hI : Own9 w.heap.size I) (hIx : ∀ c, Own9 w.heap.size (Ix c)) (h0 : I [] w)
    (hround : ∀ (l : Nat) (pre : List α) (x : α) (W : World), pre ++ [x] <+: xs →
      assign.wpIn (Fence.wide.inRound l) (n - 1 - 1) P (Exit.then (fun a' W' => W' = W ∧ ∀ W2, I pre W2 → body.wpIn (Fence.wide.inRound l) (n - 1 - 1) P (post9 w.heap.size I Ix (pre ++ [x]) W2) a' W2) (fun _ _ _ => False))
        { tmps := (ps.zip (encs x)).foldl (fun t (p, v) => t.setIfInBounds p v) a.tmps, defers := [] } W)
    (hdone : ∀ (D : Nat) (W : World), w.heap.size ≤ D → I xs W → W.heap[D]? = some (.deferred (some [])) → Q .normal { a with defers := { target := .collected D, args := #[] } :: a.defers } W)
    (hstop : ∀ (D : Nat) (c : Code) (pre : List α) (W : World), w.heap.size ≤ D → pre <+: xs → Ix c pre W → W.heap[D]? = some (.deferred (some [])) → c.wpIn Fence.wide n P Q { a with defers := { target := .collected D, args := #[] } :: a.defers } W) :
    (Code.rangeFunc g ps assign body).wpIn Fence.wide n P Q a w := by
  refine wpIn_rangeFunc ?_
  intro fn hfn
  generalize hD : w.heap.size = D at *
  -- the two blocks that the statement lays: the rounds' deferred calls (D), the record (D + 1)
  let rcd : LoopState → Option Code → Obj := fun st pe => .loop { state := st, pending := pe, fn, tmps := a.tmps, params := ps, assign, body, defers := D }
  obtain ⟨W1, hW1⟩ : ∃ W1, (w.alloc (.deferred (some []))).alloc (rcd .ready .none) = W1 := ⟨_, rfl⟩
  have s1 : W1.heap.size = D + 2 := by rw [← hW1]; simp; omega
  have hl1 : W1.heap[D + 1]? = some (rcd .ready .none) := by
    rw [← hW1]; have := World.alloc_heap_new (w.alloc (.deferred (some []))) (rcd .ready .none); rwa [World.size_alloc, hD] at this
  have hk1 : W1.heap[D]? = some (.deferred (some [])) := by
    rw [← hW1]; refine (Below.heap_alloc _ _ _ (by simp; omega)).trans ?_; have := World.alloc_heap_new w (.deferred (some [])); rwa [hD] at this
  have hi1 : I [] W1 := by rw [← hW1]; exact hI.alloc _ (hI.alloc _ h0)
  have hb1 : Below w0.heap.size w0 W1 := by
    rw [← hW1]; exact (hb0.alloc hb0.size _).alloc (by simp; have := hb0.size; omega) _
  refine ⟨D + 1, [{ target := .collected D, args := #[] }], W1, { target := .fn (.func gf) lb, args := #[.func (.yield (D + 1)) #[] #[]] }, W1, gf,
    #[.func (.yield (D + 1)) #[] #[]] ++ lb, W1, ?_, ?_, fun _ _ => trivial, ?_, fun h => absurd h (by simp [Fence.wide]), ?_⟩
  · have h := run_enterLoop_outer (P := P) (w := w) fn a.tmps ps assign body
    rw [hD] at h
    rw [← hW1]
    exact h
  · simp only [resolve, hg]
    simp [go_sem]
  · simp [invoke, go_sem, eg]
  -- what the statement itself keeps in mind beside the caller's facts
  have keep : ∀ {X Y : World} {row : Option Nat} {k : Nat} {o : Obj}, X.heap[k]? = some o → k < W1.heap.size → X.grownBy Y row → (∀ r, row = some r → OkRow X W1.heap.size r) → Y.heap[k]? = some o := fun hx hk hg' hr =>
    (hg'.block _ (Array.getElem?_eq_some_iff.1 hx).1 (fun e => by have := (hr _ e.symm).1; omega)).trans hx
  have rounds : ∀ (jump : Option Code) (X W3 : World), X.heap[D + 1]? = some (rcd .busy .none) → X.heap[D]? = some (.deferred (some [])) → KeepsFrom D X W3 →
      (Instr.endRound (D + 1) jump).run P W3 = .ok (.bool jump.isNone) (W3.putObj (D + 1) (rcd (if jump.isNone then .ready else .done) jump)) ∧ W3.heap[D + 1]? = some (rcd .busy .none) ∧
      (W3.putObj (D + 1) (rcd (if jump.isNone then .ready else .done) jump)).heap[D + 1]? = some (rcd (if jump.isNone then .ready else .done) jump) ∧
      (W3.putObj (D + 1) (rcd (if jump.isNone then .ready else .done) jump)).heap[D]? = some (.deferred (some [])) := fun jump X W3 hl hk h3 => by
    have hl3 := h3.same _ _ (by omega) hl rfl
    exact ⟨run_endRound (P := P) jump hl3, hl3, World.putObj_heap_same (Array.getElem?_eq_some_iff.1 hl3).1, (World.putObj_heap_other (by omega)).trans (h3.same _ _ (Nat.le_refl _) hk rfl)⟩
  refine (hseq (D + 1)
    (fun pre W => I pre W ∧ W.heap[D + 1]? = some (rcd .ready .none) ∧ W.heap[D]? = some (.deferred (some [])))
    (fun pre W => ∃ c, Ix c pre W ∧ W.heap[D + 1]? = some (rcd .done (some c)) ∧ W.heap[D]? = some (.deferred (some [])))
    W1 hb1
    (fun s X Y row hs hg' hr => ⟨(hI.le (by omega)) s X Y row hs.1 hg' hr, keep hs.2.1 (by omega) hg' hr, keep hs.2.2 (by omega) hg' hr⟩)
    (fun s X Y row hs hg' hr => by
      obtain ⟨c, hc, hl, hk⟩ := hs
      exact ⟨c, ((hIx c).le (by omega)) s X Y row hc hg' hr, keep hl (by omega) hg' hr, keep hk (by omega) hg' hr⟩)
    ?_ ⟨hi1, hl1, hk1⟩).mono ?_
  · rintro pre x W ⟨hi, hl, hk⟩ hpx
    refine ⟨fn, _, assign, body, run_yield (P := P) (args := encs x) hl (hps x), roundIn_of_wpIn hfn (wpIn_mono (hround _ pre x W hpx) ?_)⟩
    intro e0 a0 W' hp0
    have hp1 : W' = W ∧ ∀ W2, I pre W2 → body.wpIn (Fence.wide.inRound (D + 1)) (n - 1 - 1) P (post9 D I Ix (pre ++ [x]) W2) a0 W2 := by cases e0 <;> first | exact hp0 | exact hp0.elim
    have he0 : e0 = .normal := by cases e0 <;> first | rfl | exact hp0.elim
    subst he0
    clear hp0
    obtain ⟨hW', hbody⟩ := hp1
    rw [hW']
    refine ⟨_, run_beginRound hl rfl, ?_⟩
    have hlt := (Array.getElem?_eq_some_iff.1 hl).1
    have hl2 : (W.putObj (D + 1) (rcd .busy .none)).heap[D + 1]? = some (rcd .busy .none) := World.putObj_heap_same hlt
    have hk2 : (W.putObj (D + 1) (rcd .busy .none)).heap[D]? = some (.deferred (some [])) := (World.putObj_heap_other (by omega)).trans hk
    have kf : ∀ (jump : Option Code) (W3 : World), KeepsFrom D (W.putObj (D + 1) (rcd .busy .none)) W3 → KeepsFrom W1.heap.size W (W3.putObj (D + 1) (rcd (if jump.isNone then .ready else .done) jump)) := fun jump W3 h3 =>
      ⟨by have := h3.size; simp at this ⊢; omega, fun k o hk ho hc => (World.putObj_heap_other (by omega)).trans (h3.same k o (by omega) ((World.putObj_heap_other (by omega)).trans ho) hc)⟩
    have hw2 : Kp9 W (W.putObj (D + 1) (rcd .busy .none)) := Kp9.putObj _ hl rfl
    refine wpIn_mono (hbody _ (hI.putObj _ hi (by omega) hl rfl)) ?_
    rintro e a3 W3 hp
    cases e with
    | normal =>
      obtain ⟨hk3, hkp3, hi3⟩ := hp
      obtain ⟨hr, hl3, hl4, hk4⟩ := rounds .none _ W3 hl2 hk2 hk3
      exact ⟨_, _, hr, .inl ⟨rfl, ⟨hI.putObj _ hi3 (by omega) hl3 rfl, hl4, hk4⟩, (hw2.trans hkp3).trans (Kp9.putObj _ hl3 rfl), kf .none _ hk3⟩⟩
    | ret =>
      obtain ⟨hr, hl3, hl4, hk4⟩ := rounds (some .ret) _ W3 hl2 hk2 hp.1
      exact ⟨_, _, hr, .inr ⟨rfl, ⟨.ret, (hIx _).putObj _ hp.2 (by omega) hl3 rfl, hl4, hk4⟩, kf (some .ret) _ hp.1⟩⟩
    | exit id =>
      obtain ⟨hr, hl3, hl4, hk4⟩ := rounds (some (.exit id)) _ W3 hl2 hk2 hp.1
      exact ⟨_, _, hr, .inr ⟨rfl, ⟨.exit id, (hIx _).putObj _ hp.2 (by omega) hl3 rfl, hl4, hk4⟩, kf (some (.exit id)) _ hp.1⟩⟩
    | goto t =>
      obtain ⟨hr, hl3, hl4, hk4⟩ := rounds (some (.goto t)) _ W3 hl2 hk2 hp.1
      exact ⟨_, _, hr, .inr ⟨rfl, ⟨.goto t, (hIx _).putObj _ hp.2 (by omega) hl3 rfl, hl4, hk4⟩, kf (some (.goto t)) _ hp.1⟩⟩
    | panic ch => exact hp.elim
    | outgrown => exact hp.elim
  · rintro e W2 ⟨⟨v, rfl⟩, (⟨hi, hl, hk⟩ | ⟨pre, hSp, c, hi, hl, hk⟩)⟩
    · exact ⟨.none, _, run_endLoop (P := P) hl (by simp), hdone _ _ (Nat.le_refl _) (hI.putObj _ hi (by omega) hl rfl) ((World.putObj_heap_other (by omega)).trans hk)⟩
    · exact ⟨some c, _, run_endLoop (P := P) hl (by simp), hstop _ c pre _ (Nat.le_refl _) hSp ((hIx c).putObj _ hi (by omega) hl rfl) ((World.putObj_heap_other (by omega)).trans hk)⟩
theorem wpIn_range9 {P : Program} {n : Nat} {α : Type} {g : Operand} {ps : Array Tmp} {assign body : Code} {Q : Exit → Act → World → Prop} {a : Act} {w : World}
    {gf : Nat} {lb : Array Value} (hg : a.eval g = .func (.func gf) #[] lb) (eg : ∀ args w, (callFunc gf args).run P w = .ok (.enter gf args) w)
    {encs : α → Array Value} {xs : List α} {w0 : World} (hseq : Seq9 P (n - 1) gf lb encs xs w0) (hb0 : Below w0.heap.size w0 w) (hps : ∀ x, (encs x).size = ps.size)
    (I : List α → World → Prop) (Ix : Code → List α → World → Prop) (hI : Own9 w.heap.size I) (hIx : ∀ c, Own9 w.heap.size (Ix c)) (h0 : I [] w) (a₁ : α → Act)
    (hassign : ∀ (l : Nat) (x : α) (W : World) (K : Act → World → Prop), K (a₁ x) W →
      assign.wpIn (Fence.wide.inRound l) (n - 1 - 1) P (Exit.then K (fun _ _ _ => False)) { tmps := (ps.zip (encs x)).foldl (fun t (p, v) => t.setIfInBounds p v) a.tmps, defers := [] } W)
    (hbody : ∀ (l : Nat) (pre : List α) (x : α) (W : World), I pre W → pre ++ [x] <+: xs → body.wpIn (Fence.wide.inRound l) (n - 1 - 1) P (post9 w.heap.size I Ix (pre ++ [x]) W) (a₁ x) W)
    (hdone : ∀ (D : Nat) (W : World), w.heap.size ≤ D → I xs W → W.heap[D]? = some (.deferred (some [])) → Q .normal { a with defers := { target := .collected D, args := #[] } :: a.defers } W)
    (hstop : ∀ (D : Nat) (c : Code) (pre : List α) (W : World), w.heap.size ≤ D → pre <+: xs → Ix c pre W → W.heap[D]? = some (.deferred (some [])) → c.wpIn Fence.wide n P Q { a with defers := { target := .collected D, args := #[] } :: a.defers } W) :
    (Code.rangeFunc g ps assign body).wpIn Fence.wide n P Q a w :=
  wpIn_range9s hg eg hseq hb0 hps I Ix hI hIx h0 (fun l pre x W hp => hassign l x W _ ⟨rfl, fun W2 hi => hbody l pre x W2 hi hp⟩) hdone hstop
end Go.Proofs.Ytafhimeoijmolaa.R9

/- cover.labels: the iterator over the nodes of a secret's labels gives the pairs of 'labelsF', in order. -/
namespace Go.Proofs.Ytafhimeoijmolaa.G
open Go.RowKit Go.Shelf Go.Proofs.YtafhimeoijmolaaW.PrintWords Go.Proofs.Ytafhimeoijmolaa.R9
attribute [local go_sem] Oper.semAt_some
set_option linter.unusedVariables false
set_option linter.unusedSimpArgs false
theorem own9_drewN {β : Type} {B : Nat} {J : β → World → Prop} (h : Own9 B J) {s : β} {W : World} (hs : J s W) (m : Nat) : J s (W.drewN m) :=
  h.still hs ⟨rfl, rfl, rfl, Nat.le_refl _, fun _ _ _ => rfl⟩
set_option maxRecDepth 100000 in
set_option maxHeartbeats 1000000 in
theorem path9_in (n : Nat) (l Bf Bt B0 : Nat) (v0 t : Int) (k0 : Nat) (xs : List Int) (hp : pathF k0 v0 t = some xs) (J Jx : List Int → World → Prop)
    (W : World) (hJ : Own9 W.heap.size J)
    (hY : ∀ pre x W, J pre W → pre ++ [x] <+: xs → YieldAt Fence.wide (n - 1) Try.prog l #[.int .i64 x] W fun e W' =>
      (e = .returned (.bool true) ∧ J (pre ++ [x]) W' ∧ Kp9 W W' ∧ KeepsFrom B0 W W') ∨ (e = .returned (.bool false) ∧ Jx (pre ++ [x]) W' ∧ KeepsFrom B0 W W'))
    (hbf : Boxed W Bf 139 (.int .i64 v0)) (hbt : Boxed W Bt 139 (.int .i64 t)) (h0 : J [] W) :
    CallsIn Fence.wide n Try.prog 155 #[.func (.yield l) #[] #[], .pointer (some ⟨Bf, 0, none⟩), .pointer (some ⟨Bt, 0, none⟩)] W fun e W' => (∃ v, e = .returned v) ∧
      (J xs W' ∨ (∃ pre, pre <+: xs ∧ Jx pre W')) := by
  have hcf := hbf.cell
  refine callsIn_of_wp Try.func155 rfl trivial ?_ rfl
  simp only [Try.ntmps155, List.size_toArray, List.length_cons, List.length_nil, Nat.reduceAdd, Nat.reduceSub, Array.replicate_succ, Array.replicate_zero, List.push_toArray, List.append_toArray, List.nil_append, List.cons_append]
  gi_wp2
  gi_loopg [4] k0 (fun kx p wr => ∃ (pre rest : List Int) (v : Int), p = .int .i64 v ∧ Aside0 (xs = pre ++ rest) ∧ Aside0 (pathF kx v t = some rest) ∧ J pre wr ∧ Aside0 (Boxed wr Bt 139 (.int .i64 t)))
  case atStart => exact ⟨[], xs, v0, rfl, ⟨rfl⟩, ⟨hp⟩, h0, ⟨hbt⟩⟩
  case round =>
    obtain ⟨pre, rest, v, rfl, hx, hpp, hJs, hct1⟩ := hrel
    have hct2 := hct1.out.cell
    have hJ' := Aside0.mk hJ
    have hY' := Aside0.mk hY
    clear hJ hY hbt hbf hcf hp h0
    cases gk with
    | zero => exact absurd hpp.out (by simp [pathF])
    | succ kq =>
      by_cases hv : v = t
      · subst hv
        have hr : rest = [] := by
          have h := hpp.out
          simp only [pathF, if_true, Option.some.injEq] at h
          exact h.symm
        subst hr
        have e0 : (v != v) = false := by simp
        gi_wp2
        go_end0
        exact ⟨⟨_, rfl⟩, .inl (by have h := hx.out; rw [List.append_nil] at h; rw [h]; exact hJs)⟩
      · have e0 : (v != t) = true := by simp [hv]
        have hpp1 := hpp.out
        simp only [pathF, if_neg hv] at hpp1
        obtain ⟨x, hxt, hpp1⟩ := Option.bind_eq_some_iff.mp hpp1
        obtain ⟨rest', hr', rfl⟩ := Option.map_eq_some_iff.mp hpp1
        clear hpp hpp1 hv
        have hxt' := Aside0.mk hxt
        have hr2 := Aside0.mk hr'
        clear hxt hr'
        gi_wp2_with fail
        refine ⟨trivial, fun h => absurd h (by simp [Fence.wide]), ?_⟩
        refine (callsIn_wide.2 (cover_node_toward.calls v t x _ hxt'.out)).mono ?_
        rintro e w' ⟨rfl, ⟨nd, rfl⟩⟩
        have hlen : pre ++ [x] <+: xs := ⟨rest', by rw [hx.out]; simp⟩
        obtain ⟨fn, tmps, assign, body, hy, hR⟩ := hY'.out pre x (wr.drewN nd) (own9_drewN hJ'.out hJs nd) hlen
        have hct3 : (wr.drewN nd).cell? ⟨Bt, 0, none⟩ = some (.int .i64 t) := hct2
        gi_wp2
        refine ⟨fun h => absurd h (by simp [Fence.wide]), hR.mono ?_⟩
        rintro e W3 (⟨rfl, hJ3, hk3, _⟩ | ⟨rfl, hJx3, _⟩)
        · have hb3 : Boxed W3 Bt 139 (.int .i64 t) := hk3.boxed (show Boxed (wr.drewN nd) Bt 139 (.int .i64 t) from hct1.out) (.inr (.inl rfl))
          have hq3 := hb3.cell
          gi_wp2
          gi_roundg kq
          case measure => omega
          case rel => exact ⟨pre ++ [x], rest', x, rfl, ⟨by rw [hx.out]; simp⟩, hr2, hJ3, ⟨hb3⟩⟩
        · gi_wp2
          refine bodyPost_ret (results_none rfl _ _ _) rfl ?_
          exact ⟨⟨_, rfl⟩, .inr ⟨pre ++ [x], ⟨rest', by rw [hx.out]; simp⟩, hJx3⟩⟩
theorem path_seq9 (n : Nat) (Bf Bt : Nat) (v0 t : Int) (k0 : Nat) (xs : List Int) (hp : pathF k0 v0 t = some xs) (w : World)
    (hbf : Boxed w Bf 139 (.int .i64 v0)) (hbt : Boxed w Bt 139 (.int .i64 t)) :
    Seq9 Try.prog n 155 #[.pointer (some ⟨Bf, 0, none⟩), .pointer (some ⟨Bt, 0, none⟩)] (fun x : Int => #[Value.int .i64 x]) xs w := fun l J Jx W hW hJ _ hY h0 =>
  path9_in n l Bf Bt W.heap.size v0 t k0 xs hp J Jx W hJ hY (boxed_below hbf hW) (boxed_below hbt hW) h0
theorem keepsOthers_drewN {W W' : World} {n : Nat} (h : KeepsOthers (W.drewN n) W') : KeepsOthers W W' := ⟨h.size, h.same⟩
def innerF (a b c v : Int) : List Int → Option (List (Int × Int))
  | [] => some []
  | p :: ps => (cover_node_sibling.f p).bind fun w => (cover_tree_subset.f 9 a b c v w).bind fun s => (innerF a b c v ps).map fun r => if s = true then (v, w) :: r else r
theorem innerF_split {a b c v p : Int} {suf : List Int} : ∀ {pre : List Int} {r : List (Int × Int)}, innerF a b c v (pre ++ p :: suf) = some r →
    ∃ r1 w s r2, innerF a b c v pre = some r1 ∧ cover_node_sibling.f p = some w ∧ cover_tree_subset.f 9 a b c v w = some s ∧ r = r1 ++ (if s = true then [(v, w)] else []) ++ r2 ∧
      innerF a b c v (pre ++ [p]) = some (r1 ++ (if s = true then [(v, w)] else []))
  | [], r, h => by
    simp only [List.nil_append, innerF] at h ⊢
    obtain ⟨w, hw, h⟩ := Option.bind_eq_some_iff.mp h
    obtain ⟨s, hs, h⟩ := Option.bind_eq_some_iff.mp h
    obtain ⟨r2, hr2, rfl⟩ := Option.map_eq_some_iff.mp h
    refine ⟨[], w, s, r2, rfl, hw, hs, by cases s <;> simp, ?_⟩
    rw [hw]; simp only [Option.bind_some]; rw [hs]; cases s <;> simp
  | y :: pre, r, h => by
    simp only [List.cons_append, innerF] at h ⊢
    obtain ⟨w0, hw0, h⟩ := Option.bind_eq_some_iff.mp h
    obtain ⟨s0, hs0, h⟩ := Option.bind_eq_some_iff.mp h
    obtain ⟨r0, hr0, rfl⟩ := Option.map_eq_some_iff.mp h
    obtain ⟨r1, w, s, r2, e1, e2, e3, e4, e5⟩ := innerF_split hr0
    refine ⟨if s0 = true then (v, w0) :: r1 else r1, w, s, r2, ?_, e2, e3, ?_, ?_⟩
    · rw [hw0]; simp only [Option.bind_some]; rw [hs0]; simp only [Option.bind_some]; rw [e1]; rfl
    · rw [e4]; cases s0 <;> simp
    · rw [hw0]; simp only [Option.bind_some]; rw [hs0]; simp only [Option.bind_some]; rw [e5]; cases s0 <;> simp
def outerF (a b c leaf : Int) : Nat → Int → Option (List (Int × Int))
  | 0, _ => none
  | k + 1, v => if v = leaf then some [] else
      if a = 1 then (cover_node_toward.f v leaf).bind fun x => (outerF a b c leaf k x).map ((x, 0) :: ·)
      else (pathF 70 v leaf).bind fun ps => (innerF a b c v ps).bind fun r => (cover_node_toward.f v leaf).bind fun x => (outerF a b c leaf k x).map (r ++ ·)
/-- The nodes of the labels of a receiver's secret, as the program comes to them. -/
def labelsF (a b c u : Int) : Option (List (Int × Int)) := (cover_tree_leaf.f a b c u).bind fun leaf => (outerF a b c leaf 70 1).map ((1, 0) :: ·)
/-- How a round of the caller's ends: it goes on, or has said 'no more'. -/
def Y9 {α : Type} (J Jx : List α → World → Prop) (pre : List α) (B0 : Nat) (W : World) (bb : Bool) (W' : World) : Prop := (bb = true ∧ J pre W' ∧ Kp9 W W' ∧ KeepsFrom B0 W W') ∨ (bb = false ∧ Jx pre W' ∧ KeepsFrom B0 W W')
theorem yield_bool {α : Type} {n l B0 : Nat} {args : Array Value} {J Jx : List α → World → Prop} {pre : List α} {W : World} (h : YieldAt Fence.wide n Try.prog l args W fun e W' => (e = .returned (.bool true) ∧ J pre W' ∧ Kp9 W W' ∧ KeepsFrom B0 W W') ∨ (e = .returned (.bool false) ∧ Jx pre W' ∧ KeepsFrom B0 W W')) :
    ∃ q : FuncId × Array Value × Code × Code, (Instr.yield l args).run Try.prog W = .ok (.round l q.1 q.2.1 q.2.2.1 q.2.2.2) W ∧ RoundIn Fence.wide n Try.prog l q.1 q.2.1 q.2.2.1 q.2.2.2 W fun e W' => ∃ bb, e = .returned (.bool bb) ∧ Y9 J Jx pre B0 W bb W' := by
  obtain ⟨fn, tmps, assign, body, hy, hR⟩ := h
  exact ⟨(fn, tmps, assign, body), hy, hR.mono fun e W' h => h.elim (fun h => ⟨true, h.1, .inl ⟨rfl, h.2⟩⟩) (fun h => ⟨false, h.1, .inr ⟨rfl, h.2⟩⟩)⟩
theorem roundIn_wide {n m l l2 : Nat} {fn : FuncId} {tmps : Array Value} {assign body : Code} {W : World} {R : Ending → World → Prop} (h : RoundIn Fence.wide n Try.prog l fn tmps assign body W R) : RoundIn (Fence.wide.inRound l2) m Try.prog l fn tmps assign body W R :=
  ⟨h.1, fun c cs _ => h.2 c cs (room_wide _)⟩
/-- The marks that the loops over functions have left among the deferred calls. -/
structure Marks (B : Nat) (W : World) (Ds : List Nat) : Prop where
  nodup : Ds.Nodup
  at_ : ∀ D ∈ Ds, B ≤ D ∧ W.heap[D]? = some (.deferred (some []))
def markOf (D : Nat) : Deferred := { target := .collected D, args := #[] }
theorem leaves_marks {fn : Func} {tmps : Array Value} {R : Ending → World → Prop} {n B : Nat} {S : World → Prop} (hS : ∀ w D, B ≤ D → w.heap[D]? = some (.deferred (some [])) → S w → S (w.putObj D (.deferred none)))
    (hR : ∀ w, S w → LeavesIn Fence.wide n Try.prog fn tmps R [] .returning w) : ∀ (Ds : List Nat) (w : World), Marks B w Ds → S w → LeavesInM Fence.wide n Try.prog fn tmps R (Ds.map markOf) .returning w
  | [], w, _, hs => hR w hs
  | D :: Ds, w, hm, hs => by
    obtain ⟨h1, h2⟩ := hm.at_ D List.mem_cons_self
    refine ⟨by simp, .inl ⟨D, _, rfl, run_takeDeferred h2, leaves_marks hS hR Ds _ ⟨(List.nodup_cons.1 hm.nodup).2, fun E hE => ?_⟩ (hS w D h1 h2 hs)⟩⟩
    obtain ⟨h3, h4⟩ := hm.at_ E (List.mem_cons_of_mem _ hE)
    exact ⟨h3, (World.putObj_heap_other (fun e => by subst e; exact (List.nodup_cons.1 hm.nodup).1 hE)).trans h4⟩
theorem Marks.keep {B : Nat} {W W' : World} {Ds : List Nat} (h : Marks B W Ds) (hk : KeepsFrom B W W') : Marks B W' Ds := ⟨h.nodup, fun D hD => ⟨(h.at_ D hD).1, hk.same D _ (h.at_ D hD).1 (h.at_ D hD).2 rfl⟩⟩
theorem Marks.own {B B' : Nat} {X Y : World} {row : Option Nat} {Ds : List Nat} (h : Marks B X Ds) (hlt : ∀ D ∈ Ds, D < B') (hg : X.grownBy Y row) (hr : ∀ r, row = some r → OkRow X B' r) : Marks B Y Ds :=
  ⟨h.nodup, fun D hD => ⟨(h.at_ D hD).1, (hg.block D (Array.getElem?_eq_some_iff.1 (h.at_ D hD).2).1 (fun e => by have := (hr D e.symm).1; have := hlt D hD; omega)).trans (h.at_ D hD).2⟩⟩
theorem Marks.cons {B D : Nat} {X : World} {Ds : List Nat} (h : Marks B X Ds) (hB : B ≤ D) (hlt : ∀ E ∈ Ds, E < D) (hD : X.heap[D]? = some (.deferred (some []))) : Marks B X (D :: Ds) :=
  ⟨List.nodup_cons.2 ⟨fun hE => by have := hlt D hE; omega, h.nodup⟩, fun E hE => by rcases List.mem_cons.1 hE with rfl | hE; exact ⟨hB, hD⟩; exact h.at_ E hE⟩
def enc2 (x : Int × Int) : Array Value := #[.int .i64 x.1, .int .i64 x.2]
/-- What holds at the head of each round of the loop down the tree. -/
def RelL (l Bt Bu : Nat) (a b c u leaf : Int) (ys : List (Int × Int)) (J : List (Int × Int) → World → Prop) (W : World) (kx : Nat) (act : Act) (wr : World) : Prop :=
  ∃ (pre rest : List (Int × Int)) (v : Int) (Bv : Nat) (Ds : List Nat) (u6 u7 u14 u15 u16 u17 u18 u19 u20 u21 u22 u23 u24 u25 u26 u27 u28 u29 u30 u31 u32 u33 u34 u35 u36 u37 u38 u39 u40 u41 u42 u43 u44 u45 u46 u47 : Value), act = { tmps := #[.func (.yield l) #[] #[], .pointer (some ⟨Bt, 0, none⟩), .pointer (some ⟨Bu, 0, none⟩), .pointer (some ⟨W.heap.size, 0, none⟩), .int .i64 leaf, .pointer (some ⟨Bv, 0, none⟩), u6, u7, .agg #[.int .u8 a, .int .i64 b, .int .i64 c], .int .i64 u, .int .i64 leaf, .func (.yield l) #[] #[], .bool true, .bool false, u14, u15, u16, u17, u18, u19, u20, u21, u22, u23, u24, u25, u26, u27, u28, u29, u30, u31, u32, u33, u34, u35, u36, u37, u38, u39, u40, u41, u42, u43, u44, u45, u46, u47], defers := Ds.map markOf } ∧ Marks W.heap.size wr Ds ∧
    ys = pre ++ rest ∧ outerF a b c leaf kx v = some rest ∧ J ((1, 0) :: pre) wr ∧ Boxed wr Bv 139 (.int .i64 v) ∧ W.heap.size ≤ Bv ∧ Boxed wr W.heap.size 188 (.func (.yield l) #[] #[]) ∧
    wr.heap[Bt]? = some (.cells #[.int .u8 a, .int .i64 b, .int .i64 c] 134 (0, 0))
set_option maxRecDepth 100000 in
set_option maxHeartbeats 4000000 in
theorem labels1_sub (n : Nat) (l Bt Bu B0 : Nat) (a b c u : Int) (ha : a = 1) (xs : List (Int × Int)) (hx : labelsF a b c u = some xs) (J Jx : List (Int × Int) → World → Prop)
    (W : World) (hJ : Own9 W.heap.size J) (hJx : Own9 W.heap.size Jx)
    (hY : ∀ pre x W, J pre W → pre ++ [x] <+: xs → YieldAt Fence.wide (n - 1) Try.prog l (enc2 x) W fun e W' =>
      (e = .returned (.bool true) ∧ J (pre ++ [x]) W' ∧ Kp9 W W' ∧ KeepsFrom B0 W W') ∨ (e = .returned (.bool false) ∧ Jx (pre ++ [x]) W' ∧ KeepsFrom B0 W W'))
    (hbt : W.heap[Bt]? = some (.cells #[.int .u8 a, .int .i64 b, .int .i64 c] 134 (0, 0))) (hbu : Boxed W Bu 3 (.int .i64 u)) (h0 : J [] W) :
    CallsIn Fence.wide n Try.prog 129 #[.func (.yield l) #[] #[], .pointer (some ⟨Bt, 0, none⟩), .pointer (some ⟨Bu, 0, none⟩)] W fun e W' => (∃ v, e = .returned v) ∧
      (J xs W' ∨ (∃ pre, pre <+: xs ∧ Jx pre W')) := by
  obtain ⟨leaf, hleaf, hx⟩ := Option.bind_eq_some_iff.mp hx
  obtain ⟨ys, hys, rfl⟩ := Option.map_eq_some_iff.mp hx
  clear hx
  have hcu := hbu.cell
  have ct : ∀ j v, (#[Value.int .u8 a, .int .i64 b, .int .i64 c] : Array Value)[j]? = some v → W.cell? ⟨Bt, j, none⟩ = some v := fun j v h => by simp [World.cell?, hbt, h]
  have ct0 := ct 0 _ rfl
  have ct1 := ct 1 _ rfl
  have ct2 := ct 2 _ rfl
  have hltT : Bt < W.heap.size := (Array.getElem?_eq_some_iff.1 hbt).1
  have hltU : Bu < W.heap.size := hbu.lt
  clear ct
  have A1 := Aside0.mk hJ; have A2 := Aside0.mk hJx; have A3 := Aside0.mk hY; have A4 := Aside0.mk hleaf; have A5 := Aside0.mk hys; have A6 := Aside0.mk hbt; have A7 := Aside0.mk hbu
  have A20a := Aside0.mk ha
  clear hJ hJx hY hleaf hys hbt hbu ha
  refine callsIn_of_wp Try.func129 rfl trivial ?_ rfl
  simp only [Try.ntmps129, List.size_toArray, List.length_cons, List.length_nil, Nat.reduceAdd, Nat.reduceSub, Array.replicate_succ, Array.replicate_zero, List.push_toArray, List.append_toArray, List.nil_append, List.cons_append]
  gi_wp2_with fail
  refine ⟨trivial, fun h => absurd h (by simp [Fence.wide]), ?_⟩
  refine (callsIn_wide.2 (cover_tree_leaf.calls a b c u leaf _ A4.out)).mono ?_
  rintro e w1 ⟨rfl, hb1⟩
  have hJ1 : J [] w1 := Own9.below A1.out (Own9.alloc A1.out _ h0) hb1
  have bY := boxed_below (Boxed.new W 188 (.func (.yield l) #[] #[])) hb1
  have bT : w1.heap[Bt]? = some (.cells #[.int .u8 a, .int .i64 b, .int .i64 c] 134 (0, 0)) := (hb1.block Bt (by simp; omega)).trans ((Below.heap_alloc W _ Bt hltT).trans A6.out)
  have hsz : W.heap.size < w1.heap.size := by have := hb1.size; simp at this; omega
  obtain ⟨fn, tmps, assign, body, hy, hR⟩ := A3.out [] (1, 0) w1 hJ1 ⟨ys, rfl⟩
  dsimp only [enc2] at hy
  have cY := bY.cell
  have A8 := Aside0.mk bY; have A9 := Aside0.mk bT
  clear bY bT hb1 hcu ct0 ct1 ct2 h0
  gi_wp2
  refine ⟨fun h => absurd h (by simp [Fence.wide]), hR.mono ?_⟩
  clear hR hy
  rintro e w2 (⟨rfl, hJ2, hk2, _⟩ | ⟨rfl, hJx2, _⟩)
  · have bY2 := hk2.boxed A8.out (.inr (.inr rfl))
    have bT2 := hk2 _ _ _ _ A9.out (.inl rfl)
    have A10 := Aside0.mk bY2; have A11 := Aside0.mk bT2
    clear bY2 bT2 hk2 cY A8 A9 hJ1
    gi_wp2
    gi_loopg [5] 70 (fun kx p wr => ∃ (pre rest : List (Int × Int)) (v : Int) (Bv : Nat), p = .pointer (some ⟨Bv, 0, none⟩) ∧ Aside0 (ys = pre ++ rest) ∧ Aside0 (outerF a b c leaf kx v = some rest) ∧ J ((1, 0) :: pre) wr ∧
      Aside0 (Boxed wr Bv 139 (.int .i64 v)) ∧ W.heap.size ≤ Bv ∧ Aside0 (Boxed wr W.heap.size 188 (.func (.yield l) #[] #[])) ∧ Aside0 (wr.heap[Bt]? = some (.cells #[.int .u8 a, .int .i64 b, .int .i64 c] 134 (0, 0))))
    case atStart =>
      exact ⟨[], ys, 1, w2.heap.size, rfl, ⟨rfl⟩, A5, Own9.alloc A1.out _ hJ2, ⟨Boxed.new w2 139 _⟩, by have := A10.out.lt; omega, ⟨A10.out.alloc _⟩, ⟨(Below.heap_alloc _ _ _ (Array.getElem?_eq_some_iff.1 A11.out).1).trans A11.out⟩⟩
    case round =>
      clear A10 A11 hJ2 A5
      obtain ⟨pre, rest, v, Bv, rfl, A12, A13, hJ3, A14, hBv, A15, A16⟩ := hrel
      cases gk with
      | zero => exact absurd A13.out (by simp [outerF])
      | succ kq =>
        have c5 := A14.out.cell
        have f5 := A14.out.frozen
        by_cases hv : v = leaf
        · subst hv
          have e0 : (v != v) = false := by simp
          have hr : rest = [] := by
            have h := A13.out
            simp only [outerF, if_true, Option.some.injEq] at h
            exact h.symm
          subst hr
          gi_wp2
          go_end0
          exact ⟨⟨_, rfl⟩, .inl (by have h := A12.out; rw [List.append_nil] at h; rw [h]; exact hJ3)⟩
        · have e0 : (v != leaf) = true := by simp [hv]
          have hrest := A13.out
          simp only [outerF, if_neg hv] at hrest
          have A17 := Aside0.mk hv
          clear hv A13
          have ct0 : wr.cell? ⟨Bt, 0, none⟩ = some (.int .u8 a) := by simp [World.cell?, A16.out]
          have ct1 : wr.cell? ⟨Bt, 1, none⟩ = some (.int .i64 b) := by simp [World.cell?, A16.out]
          have ct2 : wr.cell? ⟨Bt, 2, none⟩ = some (.int .i64 c) := by simp [World.cell?, A16.out]
          have cY := A15.out.cell
          · have e1 : (a == 1) = true := by simp [A20a.out]
            rw [if_pos A20a.out] at hrest
            obtain ⟨x, hxt, hrest⟩ := Option.bind_eq_some_iff.mp hrest
            obtain ⟨rest', hr', rfl⟩ := Option.map_eq_some_iff.mp hrest
            have A18 := Aside0.mk hxt; have A19 := Aside0.mk hr'; have A20 := Aside0.mk A20a.out
            clear hrest hxt hr'
            gi_wp2_with fail
            have hyield := fun m => yield_bool (A3.out ((1, 0) :: pre) (x, 0) (wr.drewN m) (own9_drewN A1.out hJ3 m) ⟨rest', by rw [A12.out]; simp⟩)
            obtain ⟨q, hq⟩ := Classical.skolem.mp hyield
            have hy2 := fun m => (hq m).1
            have hR2 := fun m => (hq m).2
            clear hyield hq
            dsimp only [enc2] at hy2
            have A21 := Aside0.mk hR2
            clear hR2
            gi_region_with (first | (refine ⟨trivial, fun h => absurd h (by simp [Fence.wide]), (callsIn_wide.2 (cover_node_toward.calls v leaf x _ A18.out)).mono ?_⟩; rintro e w3 ⟨rfl, ⟨nd, rfl⟩⟩) | (refine ⟨fun h => absurd h (by simp [Fence.wide]), (A21.out _).mono ?_⟩; rintro e w3 ⟨bb, rfl, hbb⟩))
            all_goals
              clear hy2 A21 cY c5 f5 ct0 ct1 ct2
              rcases hbb with ⟨rfl, hJ4, hk4, _⟩ | ⟨rfl, hJx4, _⟩
              · have b5 : Boxed w3 Bv 139 (.int .i64 v) := hk4.boxed (show Boxed (wr.drewN (1 + nd)) Bv 139 (.int .i64 v) from A14.out) (.inr (.inl rfl))
                have bY3 : Boxed w3 W.heap.size 188 (.func (.yield l) #[] #[]) := hk4.boxed (show Boxed (wr.drewN (1 + nd)) _ 188 _ from A15.out) (.inr (.inr rfl))
                have bT3 := hk4 _ _ _ _ (show (wr.drewN (1 + nd)).heap[Bt]? = _ from A16.out) (.inl rfl)
                have c5 := b5.cell
                have f5 := b5.frozen
                have A22 := Aside0.mk b5; have A23 := Aside0.mk bY3; have A24 := Aside0.mk bT3
                clear b5 bY3 bT3 hk4
                gi_wp2_with fail
                refine ⟨trivial, fun h => absurd h (by simp [Fence.wide]), (callsIn_wide.2 (cover_node_toward.calls v leaf x _ A18.out)).mono ?_⟩
                rintro e w4 ⟨rfl, ⟨nd2, rfl⟩⟩
                gi_wp2
                gi_roundg kq
                case measure => omega
                case rel =>
                  have hle : W.heap.size ≤ w3.heap.size := by have := A23.out.lt; omega
                  have bN : Boxed ((w3.alloc (.cells #[.int .i64 v] 139)).drewN nd2) w3.heap.size 139 (.int .i64 v) := Boxed.new w3 139 _
                  refine ⟨pre ++ [(x, 0)], rest', x, w3.heap.size, rfl, ⟨by rw [A12.out]; simp⟩, A19, ?_, ⟨Boxed.set _ bN⟩, hle, ⟨?_⟩, ⟨?_⟩⟩
                  · exact A1.out _ _ _ (some w3.heap.size) (own9_drewN A1.out (Own9.alloc A1.out _ hJ4) nd2) (grownBy_setCell' _ _ _) (fun r e => by cases e; exact ⟨hle, _, bN, .inr ⟨_, _, _, rfl, .inr (.inl rfl)⟩⟩)
                  · exact Boxed.other (show Boxed ((w3.alloc (.cells #[.int .i64 v] 139)).drewN nd2) W.heap.size 188 _ from A23.out.alloc _) (fun e => by have := A23.out.lt; omega) _
                  · have hlt := (Array.getElem?_eq_some_iff.1 A24.out).1
                    exact (Below.heap_setCell _ _ _ _ (fun e => by have e' : Bt = w3.heap.size := e; omega)).trans ((Below.heap_alloc w3 _ Bt hlt).trans A24.out)
              · gi_wp2
                refine bodyPost_ret (results_none rfl _ _ _) rfl ?_
                exact ⟨⟨_, rfl⟩, .inr ⟨(1, 0) :: pre ++ [(x, 0)], ⟨rest', by rw [A12.out]; simp⟩, hJx4⟩⟩
  · gi_wp2
    refine bodyPost_ret (results_none rfl _ _ _) rfl ?_
    exact ⟨⟨_, rfl⟩, .inr ⟨[(1, 0)], ⟨ys, rfl⟩, hJx2⟩⟩
set_option maxRecDepth 100000 in
set_option maxHeartbeats 4000000 in
theorem labels1_dif (n : Nat) (hn : 3 ≤ n) (l Bt Bu B0 : Nat) (a b c u : Int) (ha : ¬ a = 1) (xs : List (Int × Int)) (hx : labelsF a b c u = some xs) (J Jx : List (Int × Int) → World → Prop)
    (W : World) (hB0 : B0 = W.heap.size) (hJ : Own9 W.heap.size J) (hJx : Own9 W.heap.size Jx)
    (hY : ∀ pre x W, J pre W → pre ++ [x] <+: xs → YieldAt Fence.wide (n - 1) Try.prog l (enc2 x) W fun e W' =>
      (e = .returned (.bool true) ∧ J (pre ++ [x]) W' ∧ Kp9 W W' ∧ KeepsFrom B0 W W') ∨ (e = .returned (.bool false) ∧ Jx (pre ++ [x]) W' ∧ KeepsFrom B0 W W'))
    (hbt : W.heap[Bt]? = some (.cells #[.int .u8 a, .int .i64 b, .int .i64 c] 134 (0, 0))) (hbu : Boxed W Bu 3 (.int .i64 u)) (h0 : J [] W) :
    CallsIn Fence.wide n Try.prog 129 #[.func (.yield l) #[] #[], .pointer (some ⟨Bt, 0, none⟩), .pointer (some ⟨Bu, 0, none⟩)] W fun e W' => (∃ v, e = .returned v) ∧
      (J xs W' ∨ (∃ pre, pre <+: xs ∧ Jx pre W')) := by
  obtain ⟨leaf, hleaf, hx⟩ := Option.bind_eq_some_iff.mp hx
  obtain ⟨ys, hys, rfl⟩ := Option.map_eq_some_iff.mp hx
  clear hx
  have hcu := hbu.cell
  have ct : ∀ j v, (#[Value.int .u8 a, .int .i64 b, .int .i64 c] : Array Value)[j]? = some v → W.cell? ⟨Bt, j, none⟩ = some v := fun j v h => by simp [World.cell?, hbt, h]
  have ct0 := ct 0 _ rfl
  have ct1 := ct 1 _ rfl
  have ct2 := ct 2 _ rfl
  have hltT : Bt < W.heap.size := (Array.getElem?_eq_some_iff.1 hbt).1
  have hltU : Bu < W.heap.size := hbu.lt
  clear ct
  have A1 := Aside0.mk hJ; have A2 := Aside0.mk hJx; have A3 := Aside0.mk hY; have A4 := Aside0.mk hleaf; have A5 := Aside0.mk hys; have A6 := Aside0.mk hbt; have A7 := Aside0.mk hbu
  have A20a := Aside0.mk ha
  clear hJ hJx hY hleaf hys hbt hbu ha
  refine callsIn_of_wp_marks Try.func129 rfl trivial ?_ rfl
  simp only [Try.ntmps129, List.size_toArray, List.length_cons, List.length_nil, Nat.reduceAdd, Nat.reduceSub, Array.replicate_succ, Array.replicate_zero, List.push_toArray, List.append_toArray, List.nil_append, List.cons_append]
  gi_wp2_with fail
  refine ⟨trivial, fun h => absurd h (by simp [Fence.wide]), ?_⟩
  refine (callsIn_wide.2 (cover_tree_leaf.calls a b c u leaf _ A4.out)).mono ?_
  rintro e w1 ⟨rfl, hb1⟩
  have hJ1 : J [] w1 := Own9.below A1.out (Own9.alloc A1.out _ h0) hb1
  have bY := boxed_below (Boxed.new W 188 (.func (.yield l) #[] #[])) hb1
  have bT : w1.heap[Bt]? = some (.cells #[.int .u8 a, .int .i64 b, .int .i64 c] 134 (0, 0)) := (hb1.block Bt (by simp; omega)).trans ((Below.heap_alloc W _ Bt hltT).trans A6.out)
  have hsz : W.heap.size < w1.heap.size := by have := hb1.size; simp at this; omega
  obtain ⟨fn, tmps, assign, body, hy, hR⟩ := A3.out [] (1, 0) w1 hJ1 ⟨ys, rfl⟩
  dsimp only [enc2] at hy
  have cY := bY.cell
  have A8 := Aside0.mk bY; have A9 := Aside0.mk bT
  clear bY bT hb1 hcu ct0 ct1 ct2 h0
  gi_wp2
  refine ⟨fun h => absurd h (by simp [Fence.wide]), hR.mono ?_⟩
  clear hR hy
  rintro e w2 (⟨rfl, hJ2, hk2, _⟩ | ⟨rfl, hJx2, _⟩)
  · have bY2 := hk2.boxed A8.out (.inr (.inr rfl))
    have bT2 := hk2 _ _ _ _ A9.out (.inl rfl)
    have A10 := Aside0.mk bY2; have A11 := Aside0.mk bT2
    clear bY2 bT2 hk2 cY A8 A9 hJ1
    gi_wp2
    refine wpIn_loop_ghost_k (RelL l Bt Bu a b c u leaf ys J W) 70 ?start ?round
    case start =>
      refine ⟨[], ys, 1, w2.heap.size, [], _, _, _, _, _, _, _, _, _, _, _, _, _, _, _, _, _, _, _, _, _, _, _, _, _, _, _, _, _, _, _, _, _, _, _, _, rfl, ⟨List.nodup_nil, fun _ h => by cases h⟩, rfl, A5.out, Own9.alloc A1.out _ hJ2, Boxed.new w2 139 _, by have := A10.out.lt; omega, A10.out.alloc _, (Below.heap_alloc _ _ _ (Array.getElem?_eq_some_iff.1 A11.out).1).trans A11.out⟩
    case round =>
      clear A10 A11 hJ2 A5
      intro gk act wr hrel Jg Kg hJg hKg
      obtain ⟨pre, rest, v, Bv, Ds, u6, u7, u14, u15, u16, u17, u18, u19, u20, u21, u22, u23, u24, u25, u26, u27, u28, u29, u30, u31, u32, u33, u34, u35, u36, u37, u38, u39, u40, u41, u42, u43, u44, u45, u46, u47, rfl, hmarks, B12, B13, hJ3, B14, hBv, B15, B16⟩ := hrel
      have AM := Aside0.mk hmarks; have A12 := Aside0.mk B12; have A13 := Aside0.mk B13; have A14 := Aside0.mk B14; have A15 := Aside0.mk B15; have A16 := Aside0.mk B16
      clear hmarks B12 B13 B14 B15 B16
      cases gk with
      | zero => exact absurd A13.out (by simp [outerF])
      | succ kq =>
        have c5 := A14.out.cell
        have f5 := A14.out.frozen
        by_cases hv : v = leaf
        · subst hv
          have e0 : (v != v) = false := by simp
          have hr : rest = [] := by
            have h := A13.out
            simp only [outerF, if_true, Option.some.injEq] at h
            exact h.symm
          subst hr
          gi_wp2
          refine leaves_marks (S := fun w => J ((1, 0) :: ys) w) (fun w D h1 h2 h3 => Own9.putObj A1.out _ h3 h1 h2 rfl) (fun w h => ⟨_, results_none rfl _ _ _, ⟨_, rfl⟩, .inl h⟩) Ds wr AM.out (by have h := A12.out; rw [List.append_nil] at h; rw [h]; exact hJ3)
        · have e0 : (v != leaf) = true := by simp [hv]
          have hrest := A13.out
          simp only [outerF, if_neg hv] at hrest
          have A17 := Aside0.mk hv
          clear hv A13
          have ct0 : wr.cell? ⟨Bt, 0, none⟩ = some (.int .u8 a) := by simp [World.cell?, A16.out]
          have ct1 : wr.cell? ⟨Bt, 1, none⟩ = some (.int .i64 b) := by simp [World.cell?, A16.out]
          have ct2 : wr.cell? ⟨Bt, 2, none⟩ = some (.int .i64 c) := by simp [World.cell?, A16.out]
          have cY := A15.out.cell
          · have e1 : (a == 1) = false := by simp [A20a.out]
            rw [if_neg A20a.out] at hrest
            obtain ⟨ps, hps, hrest⟩ := Option.bind_eq_some_iff.mp hrest
            obtain ⟨r, hr, hrest⟩ := Option.bind_eq_some_iff.mp hrest
            obtain ⟨x, hxt, hrest⟩ := Option.bind_eq_some_iff.mp hrest
            obtain ⟨rest', hr', rfl⟩ := Option.map_eq_some_iff.mp hrest
            have A18 := Aside0.mk hxt; have A19 := Aside0.mk hr'; have A21 := Aside0.mk hps; have A22 := Aside0.mk hr
            clear hrest hxt hr' hps hr
            gi_wp2_with fail
            refine ⟨trivial, fun h => absurd h (by simp [Fence.wide]), (callsIn_wide.2 (path_calls v leaf _)).mono ?_⟩
            rintro e w3 ⟨rfl, rfl⟩
            gi_wp2
            have hleB : W.heap.size ≤ wr.heap.size := by have := A15.out.lt; omega
            have hltD : ∀ D ∈ Ds, D < wr.heap.size := fun D hD => (Array.getElem?_eq_some_iff.1 (AM.out.at_ D hD).2).1
            have AD := Aside0.mk hltD
            clear hltD
            have hltTr := (Array.getElem?_eq_some_iff.1 A16.out).1
            have bF : Boxed ((wr.alloc (.cells #[.int .i64 v] 139)).alloc (.cells #[.int .i64 leaf] 139)) wr.heap.size 139 (.int .i64 v) := (Boxed.new wr 139 _).alloc _
            have bL : Boxed ((wr.alloc (.cells #[.int .i64 v] 139)).alloc (.cells #[.int .i64 leaf] 139)) (wr.heap.size + 1) 139 (.int .i64 leaf) := by have h := Boxed.new (wr.alloc (.cells #[.int .i64 v] 139)) 139 (.int .i64 leaf); rwa [World.size_alloc] at h
            refine wpIn_range9 (P := Try.prog) (gf := 155) (lb := #[.pointer (some ⟨wr.heap.size, 0, none⟩), .pointer (some ⟨wr.heap.size + 1, 0, none⟩)]) rfl (enters_of Try.func155 (by kernel_rfl) rfl)
              (path_seq9 (n - 1) wr.heap.size (wr.heap.size + 1) v leaf 70 ps A21.out _ bF bL) (Below.refl _ _) (fun _ => rfl)
              (fun ps' W' => ∃ r', innerF a b c v ps' = some r' ∧ J ((1, 0) :: pre ++ r') W' ∧ Boxed W' Bv 139 (.int .i64 v) ∧ Boxed W' W.heap.size 188 (.func (.yield l) #[] #[]) ∧ W'.heap[Bt]? = some (.cells #[.int .u8 a, .int .i64 b, .int .i64 c] 134 (0, 0)) ∧ Marks W.heap.size W' Ds)
              (fun cd ps' W' => cd = .ret ∧ Marks W.heap.size W' Ds ∧ ∃ q, q <+: (1, 0) :: ys ∧ Jx q W') ?hI ?hIx ?h0
              (fun p => { tmps := #[.func (.yield l) #[] #[], .pointer (some ⟨Bt, 0, none⟩), .pointer (some ⟨Bu, 0, none⟩), .pointer (some ⟨W.heap.size, 0, none⟩), .int .i64 leaf, .pointer (some ⟨Bv, 0, none⟩), .int .i64 p, u7,
                .agg #[.int .u8 a, .int .i64 b, .int .i64 c], .int .i64 u, .int .i64 leaf, .func (.yield l) #[] #[], .bool true, .bool false, .int .i64 v, .int .i64 leaf, .bool true, u17, u18, u19,
                .pointer (some ⟨Bt, 0, none⟩), .int .u8 a, .bool false, u23, u24, u25, u26, u27, u28, .int .i64 v, .int .i64 leaf, .func (.func 155) #[] #[.pointer (some ⟨wr.heap.size, 0, none⟩), .pointer (some ⟨wr.heap.size + 1, 0, none⟩)],
                .int .i64 p, u33, u34, u35, u36, u37, u38, u39, u40, u41, u42, u43, u44, u45, u46, u47], defers := [] }) ?assign ?body ?done ?stop
            case hI =>
              rintro s X Y row ⟨r', h1, h2, h3, h4, h5, h6⟩ hg hr
              have sz : ((wr.alloc (.cells #[.int .i64 v] 139)).alloc (.cells #[.int .i64 leaf] 139)).heap.size = wr.heap.size + 2 := by simp
              rw [sz] at hr
              have hBv2 := A14.out.lt
              refine ⟨r', h1, (A1.out.le (by omega)) _ X Y row h2 hg hr, own9_boxed (β := Unit) 139 (fun _ => .int .i64 v) (.inl (by omega)) () X Y row h3 hg hr, own9_boxed (β := Unit) 188 (fun _ => .func (.yield l) #[] #[]) (.inl (by have := A15.out.lt; omega)) () X Y row h4 hg hr, ?_, h6.own (fun D hD => by have := AD.out D hD; omega) hg hr⟩
              exact (hg.block _ (Array.getElem?_eq_some_iff.1 h5).1 (fun e => by have := (hr _ e.symm).1; omega)).trans h5
            case hIx =>
              rintro cd s X Y row ⟨h1, h6, q, h2, h3⟩ hg hr
              have sz : ((wr.alloc (.cells #[.int .i64 v] 139)).alloc (.cells #[.int .i64 leaf] 139)).heap.size = wr.heap.size + 2 := by simp
              rw [sz] at hr
              exact ⟨h1, h6.own (fun D hD => by have := AD.out D hD; omega) hg hr, q, h2, (A2.out.le (by omega)) _ X Y row h3 hg hr⟩
            case h0 =>
              refine ⟨[], rfl, by rw [List.append_nil]; exact Own9.alloc A1.out _ (Own9.alloc A1.out _ hJ3), (A14.out.alloc _).alloc _, (A15.out.alloc _).alloc _, ?_, AM.out.keep (((KeepsOthers.alloc _ _).trans (KeepsOthers.alloc _ _)).from _)⟩
              exact (Below.heap_alloc _ _ _ (by simp; omega)).trans ((Below.heap_alloc _ _ _ hltTr).trans A16.out)
            case assign =>
              intro l2 p W2 K hK
              gi_wp2
              exact hK
            case body =>
              rintro l2 ps' p W2 ⟨r', h1, h2, h3, h4, h5, h6⟩ ⟨suf, hsuf⟩
              have BM := Aside0.mk h6
              have hr := A22.out
              rw [← hsuf, List.append_assoc, List.singleton_append] at hr
              obtain ⟨r1, w', s, r2, e1, e2, e3, e4, e5⟩ := innerF_split hr
              obtain rfl : r1 = r' := Option.some.inj (e1.symm.trans h1)
              have B1 := Aside0.mk e2; have B2 := Aside0.mk e3; have B3 := Aside0.mk e4; have B4 := Aside0.mk e5; have B5 := Aside0.mk h3; have B6 := Aside0.mk h4; have B7 := Aside0.mk h5
              have A23 := A12
              clear e1 e2 e3 e4 e5 h1 hr hsuf h3 h4 h5 h6 A12 A22 A21 bF bL A14 A15 A16
              have ct0 : W2.cell? ⟨Bt, 0, none⟩ = some (.int .u8 a) := by simp [World.cell?, B7.out]
              have ct1 : W2.cell? ⟨Bt, 1, none⟩ = some (.int .i64 b) := by simp [World.cell?, B7.out]
              have ct2 : W2.cell? ⟨Bt, 2, none⟩ = some (.int .i64 c) := by simp [World.cell?, B7.out]
              have c5 := B5.out.cell
              gi_wp2_with fail
              refine ⟨trivial, fun h => absurd h (by simp [Fence.wide]), (CallsIn.inRound l2 (callsIn_wide.2 (cover_node_sibling.calls p w' _ B1.out))).mono ?_⟩
              rintro e w4 ⟨rfl, ⟨nd, rfl⟩⟩
              have ct0 : (W2.drewN nd).cell? ⟨Bt, 0, none⟩ = some (.int .u8 a) := ct0
              have ct1 : (W2.drewN nd).cell? ⟨Bt, 1, none⟩ = some (.int .i64 b) := ct1
              have ct2 : (W2.drewN nd).cell? ⟨Bt, 2, none⟩ = some (.int .i64 c) := ct2
              have c5 : (W2.drewN nd).cell? ⟨Bv, 0, none⟩ = some (.int .i64 v) := c5
              gi_wp2_with fail
              refine ⟨trivial, fun h => absurd h (by simp [Fence.wide]), (CallsIn.inRound l2 (callsIn_wide.2 (cover_tree_subset.calls 9 a b c v w' s _ B2.out))).mono ?_⟩
              rintro e w5 ⟨rfl, hb5⟩
              have hJ5 : J ((1, 0) :: pre ++ r1) w5 := Own9.below A1.out (own9_drewN A1.out h2 nd) hb5
              have b5 : Boxed w5 Bv 139 (.int .i64 v) := boxed_below (show Boxed (W2.drewN nd) _ _ _ from B5.out) hb5
              have b6 : Boxed w5 W.heap.size 188 (.func (.yield l) #[] #[]) := boxed_below (show Boxed (W2.drewN nd) _ _ _ from B6.out) hb5
              have b7 : w5.heap[Bt]? = some (.cells #[.int .u8 a, .int .i64 b, .int .i64 c] 134 (0, 0)) := (hb5.block Bt (Array.getElem?_eq_some_iff.1 B7.out).1).trans B7.out
              have k5 : Kp9 W2 w5 := Kp9.of_below (X := W2.drewN nd) hb5
              have o5 : KeepsOthers W2 w5 := keepsOthers_drewN (n := nd) (keepsOthers_below hb5)
              have c5 := b5.cell
              have c6 := b6.cell
              have C5 := Aside0.mk b5; have C6 := Aside0.mk b6; have C7 := Aside0.mk b7; have C8 := Aside0.mk k5; have C9 := Aside0.mk o5
              clear b5 b6 b7 k5 o5 hb5 ct0 ct1 ct2 B5 B6 B7 h2
              cases s with
              | false =>
                gi_wp2
                refine ⟨fun _ h => (by cases h), ?_⟩
                gi_wp2
                exact ⟨C9.out.from _, C8.out, r1, by have h := B4.out; simpa using h, hJ5, C5.out, C6.out, C7.out, BM.out.keep (C9.out.from _)⟩
              | true =>
                obtain ⟨q, hy2, hR2⟩ := yield_bool (A3.out ((1, 0) :: pre ++ r1) (v, w') w5 hJ5 ⟨r2 ++ rest', by rw [A23.out, B3.out]; simp⟩)
                dsimp only [enc2] at hy2
                gi_wp2
                refine ⟨fun h => absurd h (by simp [Fence.wide]), roundIn_wide (hR2.mono ?_)⟩
                rintro e w6 ⟨bb, rfl, hbb⟩
                clear hy2 hR2
                rcases hbb with ⟨rfl, hJ6, hk6, ho6⟩ | ⟨rfl, hJx6, ho6⟩
                · gi_wp2
                  refine ⟨?_, C8.out.trans hk6, r1 ++ [(v, w')], by have h := B4.out; simpa using h, by rw [← List.append_assoc]; exact hJ6, hk6.boxed C5.out (.inr (.inl rfl)), hk6.boxed C6.out (.inr (.inr rfl)), hk6 _ _ _ _ C7.out (.inl rfl), (BM.out.keep (C9.out.from _)).keep (hB0 ▸ ho6)⟩
                  refine (C9.out.from _).trans ⟨ho6.size, fun k o hk ho hc => ho6.same k o (by simp at hk; omega) ho hc⟩
                · gi_wp2
                  refine ⟨(C9.out.from _).trans ⟨ho6.size, fun k o hk ho hc => ho6.same k o (by simp at hk; omega) ho hc⟩, rfl, (BM.out.keep (C9.out.from _)).keep (hB0 ▸ ho6), (1, 0) :: pre ++ r1 ++ [(v, w')], ⟨r2 ++ rest', by rw [A23.out, B3.out]; simp⟩, hJx6⟩
            case done =>
              rintro D W3 hD ⟨r', h1, h2, h3, h4, h5, h6⟩ hK
              obtain rfl : r' = r := Option.some.inj (h1.symm.trans A22.out)
              have hsz2 : wr.heap.size + 2 ≤ D := by simp at hD; omega
              have B5 := Aside0.mk h3; have B6 := Aside0.mk h4; have B7 := Aside0.mk h5; have B8 := Aside0.mk hK; have B9 := Aside0.mk h6
              have c5 := h3.cell
              clear h1 h3 h4 h5 h6 hK hD bF bL
              gi_wp2_with fail
              refine ⟨trivial, fun h => absurd h (by simp [Fence.wide]), (callsIn_wide.2 (cover_node_toward.calls v leaf x _ A18.out)).mono ?_⟩
              rintro e w4 ⟨rfl, ⟨nd2, rfl⟩⟩
              gi_wp2
              refine Handed.intro kq (by omega) (hJg _ _ _ ?_)
              have hle : W.heap.size ≤ W3.heap.size := by have := B6.out.lt; omega
              have bN : Boxed ((W3.alloc (.cells #[.int .i64 v] 139)).drewN nd2) W3.heap.size 139 (.int .i64 v) := Boxed.new W3 139 _
              have hDlt := (Array.getElem?_eq_some_iff.1 B8.out).1
              refine ⟨pre ++ r', rest', x, W3.heap.size, D :: Ds, _, _, _, _, _, _, _, _, _, _, _, _, _, _, _, _, _, _, _, _, _, _, _, _, _, _, _, _, _, _, _, _, _, _, _, _, rfl, ?_, by rw [A12.out]; simp, A19.out, ?_, Boxed.set _ bN, hle, ?_, ?_⟩
              · have ko : KeepsFrom W.heap.size W3 (((W3.alloc (.cells #[.int .i64 v] 139)).drewN nd2).setCell ⟨W3.heap.size, 0, none⟩ (.int .i64 x)) := ((KeepsOthers.alloc W3 _).trans ⟨by simp, fun k o hk ho => (KeepsOthers.setCell ((W3.alloc (.cells #[.int .i64 v] 139)).drewN nd2) ⟨W3.heap.size, 0, none⟩ (.int .i64 x)).same k o hk ho⟩).from _
                exact (B9.out.cons (by omega) (fun E hE => by have := AD.out E hE; omega) B8.out).keep ko
              · exact A1.out _ _ _ (some W3.heap.size) (own9_drewN A1.out (Own9.alloc A1.out _ h2) nd2) (grownBy_setCell' _ _ _) (fun r e => by cases e; exact ⟨hle, _, bN, .inr ⟨_, _, _, rfl, .inr (.inl rfl)⟩⟩)
              · exact Boxed.other (show Boxed ((W3.alloc (.cells #[.int .i64 v] 139)).drewN nd2) W.heap.size 188 _ from B6.out.alloc _) (fun e => by have := B6.out.lt; omega) _
              · have hlt := (Array.getElem?_eq_some_iff.1 B7.out).1
                exact (Below.heap_setCell _ _ _ _ (fun e => by have e' : Bt = W3.heap.size := e; omega)).trans ((Below.heap_alloc W3 _ Bt hlt).trans B7.out)
            case stop =>
              rintro D cd pre' W3 hD hpre ⟨rfl, h6, q, h2, h3⟩ hK
              gi_wp2
              have hsz2 : wr.heap.size + 2 ≤ D := by simp at hD; omega
              exact leaves_marks (S := fun w => ∃ q, q <+: (1, 0) :: ys ∧ Jx q w) (fun w E e1 e2 e3 => by obtain ⟨q, e4, e5⟩ := e3; exact ⟨q, e4, Own9.putObj A2.out _ e5 e1 e2 rfl⟩) (fun w h => ⟨_, results_none rfl _ _ _, ⟨_, rfl⟩, .inr h⟩) (D :: Ds) W3 (h6.cons (by omega) (fun E hE => by have := AD.out E hE; omega) hK) ⟨q, h2, h3⟩
  · gi_wp2
    exact ⟨_, results_none rfl _ _ _, ⟨_, rfl⟩, .inr ⟨[(1, 0)], ⟨ys, rfl⟩, hJx2⟩⟩
/-- (tree).labels: the tree and the receiver are boxed; the function value captures the boxes. -/
theorem labels_calls (a b c u : Int) (w : World) :
    Calls Try.prog 82 #[.agg #[.int .u8 a, .int .i64 b, .int .i64 c], .int .i64 u] w fun e w' => e = .returned (.func (.func 129) #[] #[.pointer (some ⟨w.heap.size, 0, none⟩), .pointer (some ⟨w.heap.size + 1, 0, none⟩)]) ∧ w' = (w.alloc (.cells #[.int .u8 a, .int .i64 b, .int .i64 c] 134)).alloc (.cells #[.int .i64 u] 3) := by
  go_enter Try.func82, Try.ntmps82
  go_wp2
  go_ret
  exact ⟨rfl, rfl⟩
theorem labels_seq9 (n : Nat) (hn : 3 ≤ n) (Bt Bu : Nat) (a b c u : Int) (xs : List (Int × Int)) (hx : labelsF a b c u = some xs) (w : World)
    (hbt : w.heap[Bt]? = some (.cells #[.int .u8 a, .int .i64 b, .int .i64 c] 134 (0, 0))) (hbu : Boxed w Bu 3 (.int .i64 u)) :
    Seq9 Try.prog n 129 #[.pointer (some ⟨Bt, 0, none⟩), .pointer (some ⟨Bu, 0, none⟩)] enc2 xs w := fun l J Jx W hW hJ hJx hY h0 => by
  have h1 : W.heap[Bt]? = some (.cells #[.int .u8 a, .int .i64 b, .int .i64 c] 134 (0, 0)) := (hW.block Bt (Array.getElem?_eq_some_iff.1 hbt).1).trans hbt
  by_cases ha : a = 1
  · exact labels1_sub n l Bt Bu W.heap.size a b c u ha xs hx J Jx W hJ hJx hY h1 (boxed_below hbu hW) h0
  · exact labels1_dif n hn l Bt Bu W.heap.size a b c u ha xs hx J Jx W rfl hJ hJx hY h1 (boxed_below hbu hW) h0
end Go.Proofs.Ytafhimeoijmolaa.G

/- cover.Split: what it computes, and its contract. -/
namespace Go.Proofs.Ytafhimeoijmolaa.G
open Go.RowKit Go.Proofs.YtafhimeoijmolaaW.PrintWords Go.Proofs.YtafhimeoijmolaaW.PrintLast Go.Proofs.YtafhimeoijmolaaW.PrintMore
set_option linter.unusedVariables false
set_option linter.unusedSimpArgs false
set_option maxHeartbeats 2000000 in
set_option maxRecDepth 100000 in
theorem pair_calls (v w0 a b : Int) (w : World) :
    Calls Try.prog 76 #[.int .i64 v, .int .i64 w0, .int .i64 a, .int .i64 b] w fun e w' => ∃ v0 : Value, e = .returned (.tuple #[v0, .int .i64 0]) ∧ Kd.R k47 47 w' w.heap.size (fun _ => True) v0 [⟨v, w0⟩, ⟨a, b⟩] ∧ Below w.heap.size w w' := by
  go_enter Try.func76, Try.ntmps76
  go_wp2_with (((with_reducible refine gate_dst (N := 16) rfl ?_); refine Kd.R_lit (w0 := w) k47 w.heap.size 47 ?hg (N := 16) ?hd (xs := [⟨v, w0⟩, ⟨a, b⟩]) (inner := [.int .i64 v, .int .i64 w0, .int .i64 a, .int .i64 b]) (ok := fun _ => True) (okp := fun _ => True) ?hr ?hp (fun _ hk => hk) trivial (Below.refl _ _) (Nat.le_refl _) (by simp) ?_; (case hd => rfl); (case hg => rfl); (case hr => first | (go_simp; done) | (go_simp; rfl)); (case hp => exact (Reps.c2 (k47_mkM _ _ _ (⟨v, w0⟩ : S47)) (Reps.c2 (k47_mkM _ _ _ (⟨a, b⟩ : S47)) (Reps.none _ _)))); intro v1 w1 ho hb hg_ hnew_; have H1 := Aside0.mk ho; have H2 := Aside0.mk hb; clear hg_ hnew_ ho hb))
  go_ret2
  exact ⟨_, rfl, H1.out, H2.out⟩
theorem C_one47 {w : World} {g : Nat} {x0 x1 : Int} {t : TypeId} {m : Nat × Nat} (h : w.heap[g]? = some (.cells #[.int .i64 x0, .int .i64 x1] t m)) : Kd.C k47 w (some ⟨g, 0, none⟩) 1 [⟨x0, x1⟩] := by
  refine ⟨rfl, by omega, fun _ => ⟨_, rfl, fun j p hj => ?_⟩⟩
  match j, hj with
  | 0, hj =>
    obtain rfl : (⟨x0, x1⟩ : S47) = p := by simpa using hj
    refine ⟨_, rfl, k47_mk w ⟨x0, x1⟩, fun i u hu => ?_⟩
    match i, hu with
    | 0, hu => simp at hu; subst hu; simp [Addr.add, World.cell?, h]
    | 1, hu => simp at hu; subst hu; simp [Addr.add, World.cell?, h]
theorem blk_new (w : World) (o : Obj) : (w.alloc o).heap[w.heap.size]? = some o := World.alloc_heap_new w o
theorem blk_old {w : World} {g : Nat} {o o' : Obj} (h : w.heap[g]? = some o) : (w.alloc o').heap[g]? = some o := (Below.heap_alloc _ _ _ (Array.getElem?_eq_some_iff.1 h).1).trans h
theorem blk_to {w w' : World} {g : Nat} {o : Obj} (h : w.heap[g]? = some o) (hb : Below w.heap.size w w') : w'.heap[g]? = some o := (hb.block g (Array.getElem?_eq_some_iff.1 h).1).trans h
theorem blk_c {w : World} {g : Nat} {cs : Array Value} {t : TypeId} {m : Nat × Nat} (h : w.heap[g]? = some (.cells cs t m)) (j : Nat) (v : Value) (hv : cs[j]? = some v) : w.cell? ⟨g, j, none⟩ = some v := by simp [World.cell?, h, hv]
theorem below_undrew {W W' : World} {n : Nat} (h : Below (W.drewN n).heap.size (W.drewN n) W') : Below W.heap.size W W' := ⟨h.os, h.tape, h.output, h.size, h.block⟩
/-- What cover.Split answers: the subsets, and the error. -/
def cover_Split.f (a0_0 : Int) (a0_1 : Int) (a0_2 : Int) (a0_3 : Int) (a0_4 : Int) (a0_5 : Int) (a1_0 : Int) (a1_1 : Int) : Option (List S47 × Int) :=
  (cover_enter.f 70 a0_0 a0_1 a0_2 a0_3 a0_4 a0_5 [⟨a1_0, a1_1⟩]).bind fun t => if t.2.2.2 = 0 then
    (cover_tree_members.f 70 t.1 t.2.1 t.2.2.1 a1_0 a1_1).bind fun m => if (m.length : Int) = 1 then some ([], 6) else
      if t.1 = 1 then some ([⟨wrap64 (2 * a1_0), 0⟩, ⟨wrap64 (wrap64 (2 * a1_0) + 1), 0⟩], 0) else
      if a1_1 = 0 then some ([⟨1, 2⟩, ⟨1, 3⟩], 0) else
      (cover_node_toward.f a1_0 a1_1).bind fun c =>
        if c = a1_1 then (cover_node_sibling.f c).bind fun o => some ([⟨o, wrap64 (2 * o)⟩, ⟨o, wrap64 (wrap64 (2 * o) + 1)⟩], 0)
        else (cover_tree_subset.f 9 t.1 t.2.1 t.2.2.1 c a1_1).bind fun b => if b = true then some ([⟨a1_0, c⟩, ⟨c, a1_1⟩], 0) else (cover_tree_cut.f t.1 t.2.1 t.2.2.1 a1_0 a1_1).bind fun c2 => some ([⟨a1_0, c2⟩, ⟨c2, a1_1⟩], 0)
  else some ([], t.2.2.2)
set_option maxHeartbeats 4000000 in
set_option maxRecDepth 100000 in
theorem cover_Split.calls (a0_0 : Int) (a0_1 : Int) (a0_2 : Int) (a0_3 : Int) (a0_4 : Int) (a0_5 : Int) (a1_0 : Int) (a1_1 : Int) (r1 : List S47) (r2 : Int) (w : World) (h : cover_Split.f a0_0 a0_1 a0_2 a0_3 a0_4 a0_5 a1_0 a1_1 = some (r1, r2)) :
    Calls Try.prog 28 #[.agg #[.int .u8 a0_0, .int .i64 a0_1, .int .i64 a0_2, .int .u64 a0_3, .int .u64 a0_4, .int .u64 a0_5], .agg #[.int .i64 a1_0, .int .i64 a1_1]] w fun e w' => ∃ v0_ : Value, e = .returned (.tuple #[v0_, .int .i64 r2]) ∧ Kd.R k47 47 w' w.heap.size (fun _ => True) v0_ r1 ∧ Below w.heap.size w w' := by
  unfold cover_Split.f at h
  replace h := Option.bind_eq_some_iff.mp h
  obtain ⟨⟨k, d, s, e⟩, h1, h⟩ := h
  dsimp only at h
  have A1 := Aside0.mk h1
  have A0 := Aside0.mk h
  clear h h1
  go_enter Try.func28, Try.ntmps28
  go_wp2_with fail
  go_at_call 74
  refine (cover_enter.calls 70 a0_0 a0_1 a0_2 a0_3 a0_4 a0_5 _ _ [⟨a1_0, a1_1⟩] k d s e _ (C_one47 (t := 47) (m := (0, 0)) ?c1) (Nat.le_refl _) A1.out).mono ?_
  case c1 => have h := blk_new ((w.alloc (.cells #[.int .u8 a0_0, .int .i64 a0_1, .int .i64 a0_2, .int .u64 a0_3, .int .u64 a0_4, .int .u64 a0_5] 45)).alloc (.cells #[.int .i64 a1_0, .int .i64 a1_1] 47)) (.cells #[.int .i64 a1_0, .int .i64 a1_1] 47); simpa using h
  rintro e1 w1 ⟨rfl, hb1⟩
  have hX : w1.heap[w.heap.size + 1]? = some (.cells #[.int .i64 a1_0, .int .i64 a1_1] 47 (0, 0)) := by
    have h := blk_new (w.alloc (.cells #[.int .u8 a0_0, .int .i64 a0_1, .int .i64 a0_2, .int .u64 a0_3, .int .u64 a0_4, .int .u64 a0_5] 45)) (.cells #[.int .i64 a1_0, .int .i64 a1_1] 47)
    rw [World.size_alloc] at h
    exact blk_to (blk_old h) hb1
  have HB1 : Below w.heap.size w w1 := ((((Below.refl _ w).alloc (Nat.le_refl _) _).alloc (by simp) _).alloc (by simp; omega) _).trans (hb1.mono (by simp; omega))
  have BX := Aside0.mk hX; have BB := Aside0.mk HB1
  clear hX HB1 hb1
  have fin : ∀ (W W' : World) (cs : Array Value) (T : TypeId) (xs : List S47) (v0 : Value), Below w.heap.size w W → Kd.R k47 47 W' W.heap.size (fun _ => True) v0 xs → Below W.heap.size W W' → Kd.R k47 47 W' w.heap.size (fun _ => True) v0 xs ∧ Below w.heap.size w W' :=
    fun W W' cs T xs v0 h1 h2 h3 => ⟨Kd.R_lower h2 h1.size, h1.trans (h3.mono h1.size)⟩
  have Fin := Aside0.mk fin
  clear fin
  by_cases he : e = 0
  · have h := A0.out
    rw [if_pos he] at h
    replace h := Option.bind_eq_some_iff.mp h
    obtain ⟨m, h1, h⟩ := h
    have A2 := Aside0.mk h1
    have A3 := Aside0.mk h
    have b0 : (e != 0) = false := by simp [he]
    clear h h1 A0 he
    have cx0 : (w1.alloc (.cells #[.int .u8 k, .int .i64 d, .int .i64 s] 134)).cell? ⟨w.heap.size + 1, 0, none⟩ = some (.int .i64 a1_0) := blk_c (blk_old BX.out) 0 _ rfl
    have cx1 : (w1.alloc (.cells #[.int .u8 k, .int .i64 d, .int .i64 s] 134)).cell? ⟨w.heap.size + 1, 1, none⟩ = some (.int .i64 a1_1) := blk_c (blk_old BX.out) 1 _ rfl
    go_wp2_with fail
    go_at_call 75
    refine (cover_tree_members.calls 70 k d s a1_0 a1_1 m _ A2.out).mono ?_
    rintro e2 w2 ⟨v2, rfl, hm, hb2⟩
    obtain ⟨Am, cm, rfl, _, _⟩ := Kd.R_reads hm
    have BX2 := Aside0.mk (blk_to (blk_old (o' := .cells #[.int .u8 k, .int .i64 d, .int .i64 s] 134) BX.out) hb2)
    have BT2 := Aside0.mk (blk_to (blk_new w1 (.cells #[.int .u8 k, .int .i64 d, .int .i64 s] 134)) hb2)
    have BB2 := Aside0.mk ((BB.out.alloc BB.out.size (.cells #[.int .u8 k, .int .i64 d, .int .i64 s] 134)).trans (hb2.mono (by have := BB.out.size; simp; omega)))
    clear cx0 cx1 BX BB hb2 hm
    by_cases h1 : (m.length : Int) = 1
    · have h := A3.out
      rw [if_pos h1] at h
      simp only [Option.some.injEq, Prod.mk.injEq] at h
      obtain ⟨rfl, rfl⟩ := h
      have b1 : ((m.length : Int) == 1) = true := beq_iff_eq.mpr h1
      clear A3 h1
      go_wp2
      go_ret2
      exact ⟨_, rfl, Kd.R_nil _ _ _ _ _, BB2.out⟩
    · have b1 : ((m.length : Int) == 1) = false := beq_eq_false_iff_ne.mpr h1
      have h := A3.out
      rw [if_neg h1] at h
      have A4 := Aside0.mk h
      have ct0 : w2.cell? ⟨w1.heap.size, 0, none⟩ = some (.int .u8 k) := blk_c BT2.out 0 _ rfl
      have ct1 : w2.cell? ⟨w1.heap.size, 1, none⟩ = some (.int .i64 d) := blk_c BT2.out 1 _ rfl
      have ct2 : w2.cell? ⟨w1.heap.size, 2, none⟩ = some (.int .i64 s) := blk_c BT2.out 2 _ rfl
      have cx0 : w2.cell? ⟨w.heap.size + 1, 0, none⟩ = some (.int .i64 a1_0) := blk_c BX2.out 0 _ rfl
      have cx1 : w2.cell? ⟨w.heap.size + 1, 1, none⟩ = some (.int .i64 a1_1) := blk_c BX2.out 1 _ rfl
      clear h h1 A3
      by_cases h2 : k = 1
      · have h := A4.out
        rw [if_pos h2] at h
        simp only [Option.some.injEq, Prod.mk.injEq] at h
        obtain ⟨rfl, rfl⟩ := h
        have b2 : (k == 1) = true := beq_iff_eq.mpr h2
        clear A4 h2
        go_wp2_with fail
        go_at_call 76
        refine (pair_calls _ _ _ _ _).mono ?_
        rintro e3 w3 ⟨v3, rfl, hr3, hb3⟩
        have h3 := Fin.out _ _ #[] 0 _ _ BB2.out hr3 hb3
        have A5 := Aside0.mk h3
        clear h3 hr3 hb3
        go_wp2
        go_ret2
        exact ⟨_, rfl, A5.out.1, A5.out.2⟩
      · have b2 : (k == 1) = false := beq_eq_false_iff_ne.mpr h2
        have h := A4.out
        rw [if_neg h2] at h
        have A5 := Aside0.mk h
        clear h h2 A4
        by_cases h3 : a1_1 = 0
        · have h := A5.out
          rw [if_pos h3] at h
          simp only [Option.some.injEq, Prod.mk.injEq] at h
          obtain ⟨rfl, rfl⟩ := h
          have b3 : (a1_1 == 0) = true := beq_iff_eq.mpr h3
          clear A5 h3
          go_wp2_with fail
          go_at_call 76
          refine (pair_calls _ _ _ _ _).mono ?_
          rintro e3 w3 ⟨v3, rfl, hr3, hb3⟩
          have h3 := Fin.out _ _ #[] 0 _ _ BB2.out hr3 hb3
          have A5 := Aside0.mk h3
          clear h3 hr3 hb3
          go_wp2
          go_ret2
          exact ⟨_, rfl, A5.out.1, A5.out.2⟩
        · have b3 : (a1_1 == 0) = false := beq_eq_false_iff_ne.mpr h3
          have h := A5.out
          rw [if_neg h3] at h
          replace h := Option.bind_eq_some_iff.mp h
          obtain ⟨c, hc, h⟩ := h
          have A6 := Aside0.mk hc
          have A7 := Aside0.mk h
          clear h hc h3 A5
          go_wp2_with fail
          go_quiet (fail)
          go_wp2_with fail
          go_at_call 77
          refine (cover_node_toward.calls a1_0 a1_1 c _ A6.out).mono ?_
          rintro e3 w3 ⟨rfl, ⟨nd, rfl⟩⟩
          by_cases h4 : c = a1_1
          · have h := A7.out
            rw [if_pos h4] at h
            replace h := Option.bind_eq_some_iff.mp h
            obtain ⟨o, ho, h⟩ := h
            simp only [Option.some.injEq, Prod.mk.injEq] at h
            obtain ⟨rfl, rfl⟩ := h
            have A8 := Aside0.mk ho
            have b4 : (c == a1_1) = true := beq_iff_eq.mpr h4
            clear A7 h4 ho
            go_wp2_with fail
            go_at_call 78
            refine (cover_node_sibling.calls c o _ A8.out).mono ?_
            rintro e4 w4 ⟨rfl, ⟨nd2, rfl⟩⟩
            go_wp2_with fail
            go_at_call 76
            refine (pair_calls _ _ _ _ _).mono ?_
            rintro e5 w5 ⟨v3, rfl, hr3, hb3⟩
            have h3 := Fin.out w2 w5 #[] 0 _ _ BB2.out hr3 (below_undrew hb3)
            have A9 := Aside0.mk h3
            clear h3 hr3 hb3
            go_wp2
            go_ret2
            exact ⟨_, rfl, A9.out.1, A9.out.2⟩
          · have h := A7.out
            rw [if_neg h4] at h
            replace h := Option.bind_eq_some_iff.mp h
            obtain ⟨b, hb, h⟩ := h
            have A8 := Aside0.mk hb
            have A9 := Aside0.mk h
            have b4 : (c == a1_1) = false := beq_eq_false_iff_ne.mpr h4
            clear A7 h4 hb h
            go_wp2_with fail
            go_at_call 79
            refine (cover_tree_subset.calls 9 k d s c a1_1 b _ A8.out).mono ?_
            rintro e4 w4 ⟨rfl, hb4⟩
            replace hb4 := below_undrew hb4
            have BX4 := Aside0.mk (blk_to BX2.out hb4)
            have BT4 := Aside0.mk (blk_to BT2.out hb4)
            have BB4 := Aside0.mk (BB2.out.trans (hb4.mono BB2.out.size))
            clear hb4 cx0 cx1 ct0 ct1 ct2
            have ct0 : w4.cell? ⟨w1.heap.size, 0, none⟩ = some (.int .u8 k) := blk_c BT4.out 0 _ rfl
            have ct1 : w4.cell? ⟨w1.heap.size, 1, none⟩ = some (.int .i64 d) := blk_c BT4.out 1 _ rfl
            have ct2 : w4.cell? ⟨w1.heap.size, 2, none⟩ = some (.int .i64 s) := blk_c BT4.out 2 _ rfl
            have cx0 : w4.cell? ⟨w.heap.size + 1, 0, none⟩ = some (.int .i64 a1_0) := blk_c BX4.out 0 _ rfl
            have cx1 : w4.cell? ⟨w.heap.size + 1, 1, none⟩ = some (.int .i64 a1_1) := blk_c BX4.out 1 _ rfl
            cases b with
            | true =>
              have h := A9.out
              simp only [if_true, Option.some.injEq, Prod.mk.injEq] at h
              obtain ⟨rfl, rfl⟩ := h
              clear A9
              go_wp2_with fail
              go_at_call 76
              refine (pair_calls _ _ _ _ _).mono ?_
              rintro e5 w5 ⟨v3, rfl, hr3, hb3⟩
              have h3 := Fin.out w4 w5 #[] 0 _ _ BB4.out hr3 hb3
              have A9 := Aside0.mk h3
              clear h3 hr3 hb3
              go_wp2
              go_ret2
              exact ⟨_, rfl, A9.out.1, A9.out.2⟩
            | false =>
              have h := A9.out
              simp only [Bool.false_eq_true, if_false] at h
              replace h := Option.bind_eq_some_iff.mp h
              obtain ⟨c2, hc2, h⟩ := h
              simp only [Option.some.injEq, Prod.mk.injEq] at h
              obtain ⟨rfl, rfl⟩ := h
              have A10 := Aside0.mk hc2
              clear A9 hc2
              go_wp2_with fail
              go_at_call 80
              refine (cover_tree_cut.calls k d s a1_0 a1_1 c2 _ A10.out).mono ?_
              rintro e5 w5 ⟨rfl, hb5⟩
              have BX5 := Aside0.mk (blk_to BX4.out hb5)
              have BB5 := Aside0.mk (BB4.out.trans (hb5.mono BB4.out.size))
              clear hb5 cx0 cx1 ct0 ct1 ct2
              have cx0 : w5.cell? ⟨w.heap.size + 1, 0, none⟩ = some (.int .i64 a1_0) := blk_c BX5.out 0 _ rfl
              have cx1 : w5.cell? ⟨w.heap.size + 1, 1, none⟩ = some (.int .i64 a1_1) := blk_c BX5.out 1 _ rfl
              go_wp2_with fail
              go_at_call 76
              refine (pair_calls _ _ _ _ _).mono ?_
              rintro e6 w6 ⟨v3, rfl, hr3, hb3⟩
              have h3 := Fin.out w5 w6 #[] 0 _ _ BB5.out hr3 hb3
              have A9 := Aside0.mk h3
              clear h3 hr3 hb3
              go_wp2
              go_ret2
              exact ⟨_, rfl, A9.out.1, A9.out.2⟩
  · have h := A0.out
    rw [if_neg he] at h
    simp only [Option.some.injEq, Prod.mk.injEq] at h
    obtain ⟨rfl, rfl⟩ := h
    have b0 : (e != 0) = true := by simp [he]
    clear A0 he
    go_wp2
    go_ret2
    exact ⟨_, rfl, Kd.R_nil _ _ _ _ _, BB.out.alloc BB.out.size _⟩
end Go.Proofs.Ytafhimeoijmolaa.G

/- cover.Storage: how many labels a secret has, and its contract. -/
namespace Go.Proofs.Ytafhimeoijmolaa.G
open Go.RowKit Go.Shelf Go.Proofs.YtafhimeoijmolaaW.PrintWords Go.Proofs.YtafhimeoijmolaaW.PrintLast Go.Proofs.YtafhimeoijmolaaW.PrintMore Go.Proofs.Ytafhimeoijmolaa.R9
attribute [local go_sem] Oper.semAt_some
set_option linter.unusedVariables false
set_option linter.unusedSimpArgs false
/-- cover.Storage's answers: the number, and the error. -/
def cover_Storage.f (a0_0 : Int) (a0_1 : Int) (a0_2 : Int) (a0_3 : Int) (a0_4 : Int) (a0_5 : Int) : Option (Int × Int) :=
  (cover_enter.f 70 a0_0 a0_1 a0_2 a0_3 a0_4 a0_5 []).bind fun t => if t.2.2.2 = 0 then
    (labelsF t.1 t.2.1 t.2.2.1 0).bind fun xs => if xs.length < 100000 then some ((xs.length : Int), 0) else none
  else some (0, t.2.2.2)
theorem C_nil {α : Type} (d : Kd α) (w : World) : Kd.C d w none 0 ([] : List α) := ⟨rfl, by omega, fun h => absurd h (by omega)⟩
set_option maxHeartbeats 4000000 in
set_option maxRecDepth 100000 in
theorem cover_Storage.calls (a0_0 : Int) (a0_1 : Int) (a0_2 : Int) (a0_3 : Int) (a0_4 : Int) (a0_5 : Int) (r1 : Int) (r2 : Int) (w : World) (h : cover_Storage.f a0_0 a0_1 a0_2 a0_3 a0_4 a0_5 = some (r1, r2)) :
    Calls Try.prog 31 #[.agg #[.int .u8 a0_0, .int .i64 a0_1, .int .i64 a0_2, .int .u64 a0_3, .int .u64 a0_4, .int .u64 a0_5]] w fun e w' => e = .returned (.tuple #[.int .i64 r1, .int .i64 r2]) ∧ Below w.heap.size w w' := by
  unfold cover_Storage.f at h
  replace h := Option.bind_eq_some_iff.mp h
  obtain ⟨⟨k, d, s, e⟩, h1, h⟩ := h
  dsimp only at h
  have A1 := Aside0.mk h1
  have A0 := Aside0.mk h
  clear h h1
  refine (callsIn_wide (n := 9)).1 ?_
  refine callsIn_of_wp_marks Try.func31 rfl trivial ?_ rfl
  simp only [Try.ntmps31, List.size_toArray, List.length_cons, List.length_nil, Nat.reduceAdd, Nat.reduceSub, Array.replicate_succ, Array.replicate_zero, List.push_toArray, List.append_toArray, List.nil_append, List.cons_append]
  gi_wp2_with fail
  refine ⟨trivial, (callsIn_wide.2 (cover_enter.calls 70 a0_0 a0_1 a0_2 a0_3 a0_4 a0_5 none 0 [] k d s e _ (C_nil _ _) (Nat.le_refl _) A1.out)).mono ?_⟩
  rintro e1 w1 ⟨rfl, hb1⟩
  have HB1 : Below w.heap.size w w1 := ((Below.refl _ w).alloc (Nat.le_refl _) _).trans (hb1.mono (by simp))
  have BB := Aside0.mk HB1
  clear HB1 hb1
  by_cases he : e = 0
  · have h := A0.out
    rw [if_pos he] at h
    replace h := Option.bind_eq_some_iff.mp h
    obtain ⟨xs, h1, h⟩ := h
    have A2 := Aside0.mk h1
    by_cases hlen : xs.length < 100000
    · rw [if_pos hlen] at h
      simp only [Option.some.injEq, Prod.mk.injEq] at h
      obtain ⟨rfl, rfl⟩ := h
      have b0 : (e != 0) = false := by simp [he]
      clear h1 A0 he
      gi_wp2_with fail
      refine ⟨trivial, (callsIn_wide.2 (labels_calls k d s 0 _)).mono ?_⟩
      rintro e2 w2 ⟨rfl, rfl⟩
      simp only [World.size_alloc]
      gi_wp2
      obtain ⟨W0, hW0⟩ : ∃ W0, (w1.alloc (.cells #[.int .u8 k, .int .i64 d, .int .i64 s] 134)).alloc (.cells #[.int .i64 0] 3) = W0 := ⟨_, rfl⟩
      have s0 : W0.heap.size = w1.heap.size + 2 := by rw [← hW0]; simp
      have bn : Boxed W0 (w1.heap.size + 1) 3 (.int .i64 0) := by have h := Boxed.new (w1.alloc (.cells #[.int .u8 k, .int .i64 d, .int .i64 s] 134)) 3 (.int .i64 0); rw [World.size_alloc, hW0] at h; exact h
      have HB0 : Below w.heap.size w W0 := by rw [← hW0]; exact (BB.out.alloc BB.out.size _).alloc (by have := BB.out.size; simp; omega) _
      have bT : ((W0.alloc (.cells #[.int .u8 k, .int .i64 d, .int .i64 s] 134)).alloc (.cells #[.int .i64 0] 3)).heap[w1.heap.size + 1 + 1]? = some (.cells #[.int .u8 k, .int .i64 d, .int .i64 s] 134 (0, 0)) := by
        have h := blk_old (o' := .cells #[.int .i64 0] 3) (blk_new W0 (.cells #[.int .u8 k, .int .i64 d, .int .i64 s] 134)); rw [s0] at h; exact h
      have bU : Boxed ((W0.alloc (.cells #[.int .u8 k, .int .i64 d, .int .i64 s] 134)).alloc (.cells #[.int .i64 0] 3)) (w1.heap.size + 1 + 1 + 1) 3 (.int .i64 0) := by
        have h := Boxed.new (W0.alloc (.cells #[.int .u8 k, .int .i64 d, .int .i64 s] 134)) 3 (.int .i64 0); rw [World.size_alloc, s0] at h; exact h
      rw [hW0]
      refine wpIn_range9s (P := Try.prog) (gf := 129) (lb := #[.pointer (some ⟨w1.heap.size + 1 + 1, 0, none⟩), .pointer (some ⟨w1.heap.size + 1 + 1 + 1, 0, none⟩)]) rfl (enters_of Try.func129 (by kernel_rfl) rfl)
        (labels_seq9 (9 - 1) (by omega) _ _ k d s 0 xs A2.out _ bT bU) (Below.refl _ _) (fun _ => rfl)
        (fun pre W => Boxed W (w1.heap.size + 1) 3 (.int .i64 pre.length) ∧ Below w.heap.size w W) (fun _ _ _ => False) ?hI (fun _ _ _ _ _ hs _ _ => hs) ⟨(bn.alloc _).alloc _, (HB0.alloc HB0.size _).alloc (by have := HB0.size; simp; omega) _⟩ ?round ?done ?stop
      case hI =>
        have hsz : ((W0.alloc (.cells #[.int .u8 k, .int .i64 d, .int .i64 s] 134)).alloc (.cells #[.int .i64 0] 3)).heap.size = w1.heap.size + 4 := by simp; omega
        rw [hsz]
        exact Own9.and (own9_boxed 3 (fun pre : List (Int × Int) => .int .i64 pre.length) (.inl (by omega))) (own9_below (Nat.le_refl _) (by have := BB.out.size; omega))
      case round =>
        intro l pre x W hpx
        have hl := hpx.length_le
        rw [List.length_append, List.length_singleton] at hl
        simp only [enc2]
        gi_wp2
        refine ⟨trivial, ?_⟩
        rintro W2 ⟨b1, b2⟩
        have c1 := b1.cell
        have f1 := b1.frozen
        have A3 := Aside0.mk b1; have A4 := Aside0.mk b2; have A5 := Aside0.mk (BB.out.size)
        clear b1 b2 hpx
        have hb1 : (pre.length : Int) ≤ 100000 := by omega
        gi_wp2
        refine ⟨(KeepsOthers.setCell _ _ _).from _, Kp9.set (m := (0, 0)) A3.out (by intro h; rcases h with h | h | h <;> cases h) _, ?_, A4.out.setCell (p := ⟨w1.heap.size + 1, 0, none⟩) (by have := A5.out; simp; omega) _⟩
        rw [List.length_append, List.length_singleton]
        exact A3.out.set _
      case done =>
        rintro D W hD ⟨b1, b2⟩ hK
        have c1 := b1.cell
        gi_wp2
        refine ⟨by simp, .inl ⟨_, _, rfl, run_takeDeferred hK, ?_⟩⟩
        refine ⟨.tuple #[.int .i64 xs.length, .int .i64 0], ?_, rfl, b2.trans (belowK_b (w := w) (Nat.le_refl _) W D _ _ (by have := BB.out.size; simp at hD; omega) hK rfl rfl)⟩
        simp [results, Try.f31, go_sem]
      case stop =>
        rintro D c pre W _ _ h _
        exact h.elim
    · rw [if_neg hlen] at h; cases h
  · have h := A0.out
    rw [if_neg he] at h
    simp only [Option.some.injEq, Prod.mk.injEq] at h
    obtain ⟨rfl, rfl⟩ := h
    have b0 : (e != 0) = true := by simp [he]
    clear A0 he
    gi_wp2
    refine ⟨.tuple #[.int .i64 0, .int .i64 e], ?_, rfl, BB.out.alloc BB.out.size _⟩
    simp [results, Try.f31, go_sem]
end Go.Proofs.Ytafhimeoijmolaa.G
