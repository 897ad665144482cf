/- Texts of this claim, one behind the other, as far as they are used: G113, G30. -/
import Derived.Test.YtafhimeoijmolaaCoverKeysM2
import Derived.Test.YtafhimeoijmolaaCoverKeysM5
import Derived.Test.YtafhimeoijmolaaCoverKeysM6
namespace Go.Proofs.Ytafhimeoijmolaa.G
open Go.RowKit Go.Proofs.YtafhimeoijmolaaW.PrintWords Go.Proofs.YtafhimeoijmolaaW.PrintLast Go.Proofs.YtafhimeoijmolaaW.PrintMore
attribute [local go_sem] max2_int min2_int max_two min_two max_three min_three max_four min_four   -- for this text's walks alone
set_option linter.unusedVariables false
set_option linter.unusedSimpArgs false
def headendref03_Known.l0 : Nat → List (S47) → Int → Int → Int → Int → Int → Int → Int → Int → Int → Option (Int)
 | 0, _, _, _, _, _, _, _, _, _, _ => none
 | k + 1, x7, x8, x1555000, x1555001, x1555002, x1555003, x1555004, x1555005, x1556000, x1556001 => if x8 < (x7.length : Int) then (if 0 ≤ x8 then ((headendref03_leads.f k x1555000 x1555001 x1555002 x1555003 x1555004 x1555005 ((rd_T47 x7 x8).f0) ((rd_T47 x7 x8).f1) x1556000 x1556001).bind fun t1561 => (if t1561 = true then (some x8) else (headendref03_Known.l0 k x7 (wrap64 (x8 + 1)) x1555000 x1555001 x1555002 x1555003 x1555004 x1555005 x1556000 x1556001))) else (none)) else (some (-1))
def headendref03_Known.f (k : Nat) (a0_0 : Int) (a0_1 : Int) (a0_2 : Int) (a0_3 : Int) (a0_4 : Int) (a0_5 : Int) (a1 : Int) (a2_0 : Int) (a2_1 : Int) : Option (Int) := (headendref03_LabelsOf.f k a0_0 a0_1 a0_2 a0_3 a0_4 a0_5 a1).bind fun t1556 => (headendref03_Known.l0 k t1556 0 a0_0 a0_1 a0_2 a0_3 a0_4 a0_5 a2_0 a2_1)
theorem headendref03_Known.mono_l : ∀ k, (∀ y0 y1 y2 y3 y4 y5 y6 y7 y8 y9, LeO (headendref03_Known.l0 k y0 y1 y2 y3 y4 y5 y6 y7 y8 y9) (headendref03_Known.l0 (k + 1) y0 y1 y2 y3 y4 y5 y6 y7 y8 y9))
 | 0 => fun _ _ _ _ _ _ _ _ _ _ r h => by simp [headendref03_Known.l0] at h
 | k + 1 => by
  have ih0 := headendref03_Known.mono_l k
  ·intro y0 y1 y2 y3 y4 y5 y6 y7 y8 y9
   unfold headendref03_Known.l0
   repeat' first
   | (with_reducible exact ih0 _ _ _ _ _ _ _ _ _ _)
   | (with_reducible exact headendref03_LabelsOf.mono _ _ _ _ _ _ _ _)
   | (with_reducible exact headendref03_leads.mono _ _ _ _ _ _ _ _ _ _ _)
   | (with_reducible exact LeO.refl _)
   | (with_reducible exact LeO.none _)
   | (with_reducible refine LeO.ite ?_ ?_)
   | (with_reducible refine LeO.bind ?_ (fun _ => ?_))
   | exact ih0 _ _ _ _ _ _ _ _ _ _
   | exact headendref03_LabelsOf.mono _ _ _ _ _ _ _ _
   | exact headendref03_leads.mono _ _ _ _ _ _ _ _ _ _ _
   | exact LeO.none _
   | refine LeO.ite ?_ ?_
   | refine LeO.bind ?_ (fun _ => ?_)
theorem headendref03_Known.mono : ∀ a0 a1 a2 a3 a4 a5 a6 a7 a8 k, LeO (headendref03_Known.f k a0 a1 a2 a3 a4 a5 a6 a7 a8) (headendref03_Known.f (k + 1) a0 a1 a2 a3 a4 a5 a6 a7 a8) := by
 intro a0 a1 a2 a3 a4 a5 a6 a7 a8 k
 have ih0 := headendref03_Known.mono_l k
 unfold headendref03_Known.f
 repeat' first
   | (with_reducible exact ih0 _ _ _ _ _ _ _ _ _ _)
   | (with_reducible exact headendref03_LabelsOf.mono _ _ _ _ _ _ _ _)
   | (with_reducible exact headendref03_leads.mono _ _ _ _ _ _ _ _ _ _ _)
   | (with_reducible exact LeO.refl _)
   | (with_reducible exact LeO.none _)
   | (with_reducible refine LeO.ite ?_ ?_)
   | (with_reducible refine LeO.bind ?_ (fun _ => ?_))
   | exact ih0 _ _ _ _ _ _ _ _ _ _
   | exact headendref03_LabelsOf.mono _ _ _ _ _ _ _ _
   | exact headendref03_leads.mono _ _ _ _ _ _ _ _ _ _ _
   | exact LeO.none _
   | refine LeO.ite ?_ ?_
   | refine LeO.bind ?_ (fun _ => ?_)
def headendref03_Known.T5 : Bool × List (List Nat × List Nat) := (true, [([], []), ([], []), ([], []), ([1, 2], [1, 2]), ([3], [3]), ([4], [4]), ([], []), ([], []), ([6, 7], [6, 7]), ([8], [8]), ([9], [9]), ([], []), ([0, 5, 10, 11], [0, 5, 10, 11])])
def headendref03_Known.B5 : List Nat := [0, 0, 0, 6, 14, 30, 0, 0, 192, 448, 960, 0, 4095]
theorem headendref03_Known.tab5 : rtab .any (opsOf Try.f113 5) = headendref03_Known.T5 := by kernel_rfl
theorem headendref03_Known.bits5 : waitsOk headendref03_Known.T5.2 headendref03_Known.B5 = true := by kernel_rfl
set_option maxHeartbeats 8000000 in
set_option maxRecDepth 100000 in
theorem headendref03_Known.calls (k : Nat) (a0_0 : Int) (a0_1 : Int) (a0_2 : Int) (a0_3 : Int) (a0_4 : Int) (a0_5 : Int) (a1 : Int) (a2_0 : Int) (a2_1 : Int) (r : Int) (w : World) (h : headendref03_Known.f k a0_0 a0_1 a0_2 a0_3 a0_4 a0_5 a1 a2_0 a2_1 = some r) :
  Calls Try.prog 113 #[.agg #[.int .u8 a0_0, .int .i64 a0_1, .int .i64 a0_2, .int .u64 a0_3, .int .u64 a0_4, .int .u64 a0_5], .int .i64 a1, .agg #[.int .i64 a2_0, .int .i64 a2_1]] w fun e w' => e = .returned (.int .i64 r) ∧ Below w.heap.size w w' := by
 have hu45 := Try.underlying45
 have hu47 := Try.underlying47
 have HB := Aside0.mk (Below.refl w.heap.size w)
 have H : ((headendref03_LabelsOf.f k a0_0 a0_1 a0_2 a0_3 a0_4 a0_5 a1).bind fun t1556 => (headendref03_Known.l0 k t1556 0 a0_0 a0_1 a0_2 a0_3 a0_4 a0_5 a2_0 a2_1)) = some r := h
 clear h
 replace H := Option.bind_eq_some_iff.mp H
 obtain ⟨t1556, A40, H⟩ := H
 replace H : (headendref03_Known.l0 k t1556 0 a0_0 a0_1 a0_2 a0_3 a0_4 a0_5 a2_0 a2_1) = some r := H
 have A4 := Aside0.mk A40
 clear A40
 have H' := Aside0.mk H
 clear H
 go_enter Try.func113, Try.ntmps113
 go_wp2_with (first | ((with_reducible refine gate_dst (N := 3) rfl ?_); refine box_event ?hg (N := 3) ?hd (cs := #[.int .u8 a0_0, .int .i64 a0_1, .int .i64 a0_2, .int .u64 a0_3, .int .u64 a0_4, .int .u64 a0_5]) (t := 45) ?hr ?_; (case hd => rfl); (case hg => rfl); (case hr => first | (go_simp; done) | (go_simp; rfl)); intro gb1554 hg w5 hbox hb; have n0_ := Aside0.mk (below_step (by repeat (first | (with_reducible first | exact HB.out | apply below_alloc | apply pw_below_drewN | apply below_drew1) | exact HB.out)) hb); have n1_ := Aside0.mk (hbox); have n2_ := Aside0.mk ((by rw [hg]; exact (below_size (by repeat (first | (with_reducible first | exact HB.out | apply below_alloc | apply pw_below_drewN | apply below_drew1) | exact HB.out))) : w.heap.size ≤ gb1554)); have n3_ := Aside0.mk ((by rw [hg]; exact (below_size (by repeat (first | (with_reducible first | exact HB.out | apply below_alloc | apply pw_below_drewN | apply below_drew1) | exact HB.out))) : w.heap.size ≤ gb1554)); clear HB; have HB := n0_; have BK1554 := n1_; have GW1554 := n2_; have GE1554 := n3_; clear n0_ n1_ n2_ n3_; clear hb hbox hg) | ((with_reducible refine gate_dst (N := 5) rfl ?_); refine box_event ?hg (N := 5) ?hd (cs := #[.int .i64 a2_0, .int .i64 a2_1]) (t := 47) ?hr ?_; (case hd => rfl); (case hg => rfl); (case hr => first | (go_simp; done) | (go_simp; rfl)); intro gb1555 hg w6 hbox hb; have n0_ := Aside0.mk (blk_below (g := gb1554) (o := .cells #[.int .u8 a0_0, .int .i64 a0_1, .int .i64 a0_2, .int .u64 a0_3, .int .u64 a0_4, .int .u64 a0_5] 45 (0, 0)) (by (with_reducible repeat (first | refine blk_drewN ?_ _ | refine blk_drew ?_ | refine blk_alloc ?_ _)); exact BK1554.out) hb); have n1_ := Aside0.mk (below_step (by repeat (first | (with_reducible first | exact HB.out | apply below_alloc | apply pw_below_drewN | apply below_drew1 | refine below_set ?_ GE1554.out) | exact HB.out)) hb); have n2_ := Aside0.mk (hbox); have n3_ := Aside0.mk ((by rw [hg]; exact (below_size (by repeat (first | (with_reducible first | exact HB.out | apply below_alloc | apply pw_below_drewN | apply below_drew1 | refine below_set ?_ GE1554.out) | exact HB.out))) : w.heap.size ≤ gb1555)); have n4_ := Aside0.mk ((by rw [hg]; exact (below_size (by repeat (first | (with_reducible first | exact HB.out | apply below_alloc | apply pw_below_drewN | apply below_drew1 | refine below_set ?_ GE1554.out) | exact HB.out))) : w.heap.size ≤ gb1555)); have n5_ := Aside0.mk ((by rw [hg]; exact Nat.ne_of_lt (blk_lt (g := gb1554) (o := .cells #[.int .u8 a0_0, .int .i64 a0_1, .int .i64 a0_2, .int .u64 a0_3, .int .u64 a0_4, .int .u64 a0_5] 45 (0, 0)) (by (with_reducible repeat (first | refine blk_drewN ?_ _ | refine blk_drew ?_ | refine blk_alloc ?_ _)); exact BK1554.out)) : gb1554 ≠ gb1555)); have n6_ := Aside0.mk ((by rw [hg]; exact Nat.ne_of_gt (blk_lt (g := gb1554) (o := .cells #[.int .u8 a0_0, .int .i64 a0_1, .int .i64 a0_2, .int .u64 a0_3, .int .u64 a0_4, .int .u64 a0_5] 45 (0, 0)) (by (with_reducible repeat (first | refine blk_drewN ?_ _ | refine blk_drew ?_ | refine blk_alloc ?_ _)); exact BK1554.out)) : gb1555 ≠ gb1554)); clear BK1554; clear HB; have BK1554 := n0_; have HB := n1_; have BK1555 := n2_; have GW1555 := n3_; have GE1555 := n4_; have NB1554_1555 := n5_; have NB1555_1554 := n6_; clear n0_ n1_ n2_ n3_ n4_ n5_ n6_; clear hb hbox hg; have hnb7 := NB1554_1555.out; have hnc7 := NB1555_1554.out; have hcz8_0 : w6.cell? ⟨gb1554, 0, none⟩ = some (.int .u8 a0_0) := (blk_cell BK1554.out 0).trans rfl; have hcz8_1 : w6.cell? ⟨gb1554, 1, none⟩ = some (.int .i64 a0_1) := (blk_cell BK1554.out 1).trans rfl; have hcz8_2 : w6.cell? ⟨gb1554, 2, none⟩ = some (.int .i64 a0_2) := (blk_cell BK1554.out 2).trans rfl; have hcz8_3 : w6.cell? ⟨gb1554, 3, none⟩ = some (.int .u64 a0_3) := (blk_cell BK1554.out 3).trans rfl; have hcz8_4 : w6.cell? ⟨gb1554, 4, none⟩ = some (.int .u64 a0_4) := (blk_cell BK1554.out 4).trans rfl; have hcz8_5 : w6.cell? ⟨gb1554, 5, none⟩ = some (.int .u64 a0_5) := (blk_cell BK1554.out 5).trans rfl; have hfz8_0 := blk_frozen BK1554.out 0; have hfz8_1 := blk_frozen BK1554.out 1; have hfz8_2 := blk_frozen BK1554.out 2; have hfz8_3 := blk_frozen BK1554.out 3; have hfz8_4 := blk_frozen BK1554.out 4; have hfz8_5 := blk_frozen BK1554.out 5) | ((with_reducible refine gate_callee (f := 83) rfl ?_); refine goesL_ (some 11) rfl rfl Try.func83 (by kernel_rfl) rfl #[.agg #[.int .u8 a0_0, .int .i64 a0_1, .int .i64 a0_2, .int .u64 a0_3, .int .u64 a0_4, .int .u64 a0_5], .int .i64 a1] rfl (by (try simp only [List.map_toArray, List.map_cons, List.map_nil]); first | done | rfl | (simp only [List.length_drop, List.length_take]; rfl)) ?_; (with_reducible refine (headendref03_LabelsOf.calls k a0_0 a0_1 a0_2 a0_3 a0_4 a0_5 a1 t1556 _ A4.out).mono ?_); rintro e w9 ⟨v1557, rfl, ho0, hb⟩; refine ⟨_, rfl, ?_⟩; have n0_ := Aside0.mk (Kd.R_lower (Kd.R_newB ho0 (g := gb1555) (o := .cells #[.int .i64 a2_0, .int .i64 a2_1] 47 (0, 0)) (by (with_reducible repeat (first | refine blk_drewN ?_ _ | refine blk_drew ?_ | refine blk_alloc ?_ _)); exact BK1555.out)) (below_size (by repeat (first | (with_reducible first | exact HB.out | apply below_alloc | apply pw_below_drewN | apply below_drew1 | refine below_set ?_ GE1554.out | refine below_set ?_ GE1555.out) | exact HB.out)))); have n1_ := Aside0.mk (blk_below (g := gb1554) (o := .cells #[.int .u8 a0_0, .int .i64 a0_1, .int .i64 a0_2, .int .u64 a0_3, .int .u64 a0_4, .int .u64 a0_5] 45 (0, 0)) (by (with_reducible repeat (first | refine blk_drewN ?_ _ | refine blk_drew ?_ | refine blk_alloc ?_ _)); exact BK1554.out) hb); have n2_ := Aside0.mk (blk_below (g := gb1555) (o := .cells #[.int .i64 a2_0, .int .i64 a2_1] 47 (0, 0)) (by (with_reducible repeat (first | refine blk_drewN ?_ _ | refine blk_drew ?_ | refine blk_alloc ?_ _)); exact BK1555.out) hb); have n3_ := Aside0.mk (below_step (by repeat (first | (with_reducible first | exact HB.out | apply below_alloc | apply pw_below_drewN | apply below_drew1 | refine below_set ?_ GE1554.out | refine below_set ?_ GE1555.out) | exact HB.out)) hb); clear BK1554; clear BK1555; clear HB; have HO1558 := n0_; have BK1554 := n1_; have BK1555 := n2_; have HB := n3_; clear n0_ n1_ n2_ n3_; (try clear hb); (try clear hb2); (try clear hk); (try clear hi); (try clear ho0)))
 go_loopg [8] k (fun kq v8 w' => ∃ (x8_1 : Int), v8 = .int .i64 x8_1 ∧ Aside0 (headendref03_Known.l0 kq t1556 x8_1 a0_0 a0_1 a0_2 a0_3 a0_4 a0_5 a2_0 a2_1 = some r) ∧ Aside0 (kq ≤ k) ∧ Aside0 (Kd.R k47 47 w' w.heap.size (fun k_ => k_ ≠ gb1555) v1557 t1556) ∧ Aside0 (w'.heap[gb1554]? = some (.cells #[.int .u8 a0_0, .int .i64 a0_1, .int .i64 a0_2, .int .u64 a0_3, .int .u64 a0_4, .int .u64 a0_5] 45 (0, 0))) ∧ Aside0 (w'.heap[gb1555]? = some (.cells #[.int .i64 a2_0, .int .i64 a2_1] 47 (0, 0))) ∧ Aside0 (Below w.heap.size w w'))
 case atStart => exact ⟨(0), (by first | rfl | (simp; done) | (simp [*]; done)), H', ⟨Nat.le_refl _⟩, ⟨by (with_reducible repeat (first | apply Kd.R_alloc | apply Kd.R_drewN | apply Kd.R_drew)); exact Kd.R_mono HO1558.out (fun _ hk => hk.2)⟩, ⟨by (with_reducible repeat (first | refine blk_drewN ?_ _ | refine blk_drew ?_ | refine blk_alloc ?_ _)); exact BK1554.out⟩, ⟨by (with_reducible repeat (first | refine blk_drewN ?_ _ | refine blk_drew ?_ | refine blk_alloc ?_ _)); exact BK1555.out⟩, ⟨by repeat (first | (with_reducible first | exact HB.out | apply below_alloc | apply pw_below_drewN | apply below_drew1 | refine below_set ?_ GE1554.out | refine below_set ?_ GE1555.out) | exact HB.out)⟩⟩
 case round =>
  clear H'
  try clear c1
  try clear p2
  try clear c7
  try clear c8
  try clear hcz8_0
  try clear hcz8_1
  try clear hcz8_2
  try clear hcz8_3
  try clear hcz8_4
  try clear hcz8_5
  try clear hfz8_0
  try clear hfz8_1
  try clear hfz8_2
  try clear hfz8_3
  try clear hfz8_4
  try clear hfz8_5
  obtain ⟨x8_1, rfl, HA, HK1, HO_7, BK1554, BK1555, HB⟩ := hrel
  cases gk with
  | zero => exact absurd HA.out (by simp [headendref03_Known.l0])
  | succ k1 =>
   have H := HA.out
   clear HA
   simp only [headendref03_Known.l0] at H
   by_cases c10 : x8_1 < (t1556.length : Int)
   ·rw [if_pos c10] at H
    have c10b0 : decide (x8_1 < (t1556.length : Int)) = true := decide_eq_true c10
    clear c10
    by_cases c11 : 0 ≤ x8_1
    ·rw [if_pos c11] at H
     have c11b0 : decide (0 ≤ x8_1) = true := decide_eq_true c11
     clear c11
     replace H := Option.bind_eq_some_iff.mp H
     obtain ⟨t1561, A120, H⟩ := H
     replace H : (if t1561 = true then (some x8_1) else (headendref03_Known.l0 k1 t1556 (wrap64 (x8_1 + 1)) a0_0 a0_1 a0_2 a0_3 a0_4 a0_5 a2_0 a2_1)) = some r := H
     have A12 := Aside0.mk A120
     clear A120
     by_cases c13 : t1561 = true
     ·subst c13
      have H1 : (some x8_1) = some r := by rw [if_pos rfl] at H; exact H
      clear H
      have H := H1
      clear H1
      obtain rfl := Option.some.inj H
      obtain ⟨Ao14, co14, eo14⟩ := Kd.R_slice HO_7.out
      subst eo14
      try go_wp2
      have n0_ := Aside0.mk (Kd.R_drew HO_7.out)
      have n1_ := Aside0.mk (blk_drew BK1554.out)
      have n2_ := Aside0.mk (blk_drew BK1555.out)
      have n3_ := Aside0.mk (below_drew1 HB.out)
      clear HO_7
      clear BK1554
      clear BK1555
      clear HB
      have HO_7 := n0_
      have BK1554 := n1_
      have BK1555 := n2_
      have HB := n3_
      clear n0_ n1_ n2_ n3_
      have p1559 : 0 ≤ (x8_1 : Int) := of_decide_eq_true (by first | (with_reducible assumption) | assumption)
      have q1559 : x8_1 < (t1556.length : Int) := of_decide_eq_true (by first | (with_reducible assumption) | assumption)
      obtain ⟨ad1559, e1559, hx1559_0, hx1559_1⟩ := at_T47 (Kd.R_reads' HO_7.out).2.2 x8_1 p1559 q1559
      cases e1559
      replace p1559 := eq_true p1559
      replace q1559 := eq_true q1559
      have p1560 : 0 ≤ (x8_1 : Int) := of_decide_eq_true (by first | (with_reducible assumption) | assumption)
      have q1560 : x8_1 < (t1556.length : Int) := of_decide_eq_true (by first | (with_reducible assumption) | assumption)
      obtain ⟨ad1560, e1560, hx1560_0, hx1560_1⟩ := at_T47 (Kd.R_reads' HO_7.out).2.2 x8_1 p1560 q1560
      obtain rfl : ad1559 = ad1560 := (by injection e1560)
      replace p1560 := eq_true p1560
      replace q1560 := eq_true q1560
      refine start_ (n := 13) (S := fun w' => w'.cell? ⟨gb1554, 0, none⟩ = some (.int .u8 a0_0) ∧ w'.cell? ⟨gb1554, 1, none⟩ = some (.int .i64 a0_1) ∧ w'.cell? ⟨gb1554, 2, none⟩ = some (.int .i64 a0_2) ∧ w'.cell? ⟨gb1554, 3, none⟩ = some (.int .u64 a0_3) ∧ w'.cell? ⟨gb1554, 4, none⟩ = some (.int .u64 a0_4) ∧ w'.cell? ⟨gb1554, 5, none⟩ = some (.int .u64 a0_5) ∧ w'.cell? ⟨gb1555, 0, none⟩ = some (.int .i64 a2_0) ∧ w'.cell? ⟨gb1555, 1, none⟩ = some (.int .i64 a2_1) ∧ w'.cell? (ad1559.add ((x8_1).toNat * 2)) = some (.int .i64 ((rd_T47 t1556 x8_1).f0)) ∧ w'.cell? ⟨(ad1559.add ((x8_1).toNat * 2)).block, (ad1559.add ((x8_1).toNat * 2)).off + 1, none⟩ = some (.int .i64 ((rd_T47 t1556 x8_1).f1)) ∧ w'.cell? (ad1559.add ((x8_1).toNat * 2)) = some (.int .i64 ((rd_T47 t1556 x8_1).f0)) ∧ w'.cell? ⟨(ad1559.add ((x8_1).toNat * 2)).block, (ad1559.add ((x8_1).toNat * 2)).off + 1, none⟩ = some (.int .i64 ((rd_T47 t1556 x8_1).f1))) (ds := []) #[false, false, false, false, false, false, false, false, false, false, false, false, false] (by kernel_rfl) rfl rfl ⟨(blk_cell BK1554.out 0).trans rfl, (blk_cell BK1554.out 1).trans rfl, (blk_cell BK1554.out 2).trans rfl, (blk_cell BK1554.out 3).trans rfl, (blk_cell BK1554.out 4).trans rfl, (blk_cell BK1554.out 5).trans rfl, (blk_cell BK1555.out 0).trans rfl, (blk_cell BK1555.out 1).trans rfl, hx1559_0, hx1559_1, hx1560_0, hx1560_1⟩ (fun hHeld => ?_); refine with_tabW headendref03_Known.tab5 headendref03_Known.bits5 (fun HT_ HW_ => ?_)
      generalize wr.drew = w15 at HO_7 BK1554 BK1555 HB hx1559_0 hx1559_1 hx1560_0 hx1560_1 hHeld ⊢
      refine pure_ (i := 1) (N := some 19) (v := ?_) (a' := ?_) #[false, true, false, false, false, false, false, false, false, false, false, false, false] rfl rfl (any_of HT_.out (by kernel_rfl)) (fun _ _ _ h => h) (Or.inl ⟨by rfl, ?_⟩) ?_ ?_
      rotate_left
      ·intro w'
       go_simp
       with_reducible rfl
      rotate_left
      ·simp only [Act.put, List.setIfInBounds_toArray, List.set_cons_zero, List.set_cons_succ, i64_w, i32_w]
       rfl
      refine pure_ (i := 2) (N := some 20) (v := ?_) (a' := ?_) #[false, true, true, false, false, false, false, false, false, false, false, false, false] rfl rfl (any_of HT_.out (by kernel_rfl)) (fun _ _ _ h => h) (Or.inl ⟨by rfl, ?_⟩) ?_ ?_
      rotate_left
      ·intro w'
       go_simp
       with_reducible rfl
      rotate_left
      ·simp only [Act.put, List.setIfInBounds_toArray, List.set_cons_zero, List.set_cons_succ, i64_w, i32_w]
       rfl
      refine pure_ (i := 3) (N := some 21) (v := ?_) (a' := ?_) #[false, true, true, true, false, false, false, false, false, false, false, false, false] rfl rfl (any_of HT_.out (by kernel_rfl)) (fun _ _ _ h => h) (Or.inl ⟨by rfl, ?_⟩) ?_ ?_
      rotate_left
      ·intro w'
       go_simp
       with_reducible rfl
      rotate_left
      ·simp only [Act.put, List.setIfInBounds_toArray, List.set_cons_zero, List.set_cons_succ, i64_w, i32_w]
       rfl
      refine pure_ (i := 4) (N := some 22) (v := ?_) (a' := ?_) #[false, true, true, true, true, false, false, false, false, false, false, false, false] rfl rfl (any_of HT_.out (by kernel_rfl)) (fun _ _ _ h => h) (Or.inl ⟨by rfl, ?_⟩) ?_ ?_
      rotate_left
      ·intro w'
       go_simp
       with_reducible rfl
      rotate_left
      ·simp only [Act.put, List.setIfInBounds_toArray, List.set_cons_zero, List.set_cons_succ, i64_w, i32_w]
       rfl
      refine pure_ (i := 6) (N := some 24) (v := ?_) (a' := ?_) #[false, true, true, true, true, false, true, false, false, false, false, false, false] rfl rfl (any_of HT_.out (by kernel_rfl)) (fun _ _ _ h => h) (Or.inl ⟨by rfl, ?_⟩) ?_ ?_
      rotate_left
      ·intro w'
       go_simp
       with_reducible rfl
      rotate_left
      ·simp only [Act.put, List.setIfInBounds_toArray, List.set_cons_zero, List.set_cons_succ, i64_w, i32_w]
       rfl
      refine pure_ (i := 7) (N := some 25) (v := ?_) (a' := ?_) #[false, true, true, true, true, false, true, true, false, false, false, false, false] rfl rfl (any_of HT_.out (by kernel_rfl)) (fun _ _ _ h => h) (Or.inl ⟨by rfl, ?_⟩) ?_ ?_
      rotate_left
      ·intro w'
       go_simp
       with_reducible rfl
      rotate_left
      ·simp only [Act.put, List.setIfInBounds_toArray, List.set_cons_zero, List.set_cons_succ, i64_w, i32_w]
       rfl
      refine pure_ (i := 8) (N := some 26) (v := ?_) (a' := ?_) #[false, true, true, true, true, false, true, true, true, false, false, false, false] rfl rfl (any_of HT_.out (by kernel_rfl)) (fun _ _ _ h => h) (Or.inl ⟨by rfl, ?_⟩) ?_ ?_
      rotate_left
      ·intro w'
       go_simp
       with_reducible rfl
      rotate_left
      ·simp only [Act.put, List.setIfInBounds_toArray, List.set_cons_zero, List.set_cons_succ, i64_w, i32_w]
       rfl
      refine pure_ (i := 9) (N := some 27) (v := ?_) (a' := ?_) #[false, true, true, true, true, false, true, true, true, true, false, false, false] rfl rfl (any_of HT_.out (by kernel_rfl)) (fun _ _ _ h => h) (Or.inl ⟨by rfl, ?_⟩) ?_ ?_
      rotate_left
      ·intro w'
       go_simp
       with_reducible rfl
      rotate_left
      ·simp only [Act.put, List.setIfInBounds_toArray, List.set_cons_zero, List.set_cons_succ, i64_w, i32_w]
       rfl
      refine take_ (i := 0) (N := some 18) (v := ?_) (a' := ?_) #[true, true, true, true, true, false, true, true, true, true, false, false, false] rfl rfl (take_ofW HT_.out HW_.out (by kernel_rfl)) (fun _ _ _ h => h) (Or.inl ⟨by rfl, ?_⟩) hHeld ?_ ?_
      rotate_left
      ·rintro w' ⟨s0, s1, s2, s3, s4, s5, s6, s7, s8, s9, s10, s11⟩
       go_simp
       with_reducible rfl
      rotate_left
      ·simp only [Act.put, List.setIfInBounds_toArray, List.set_cons_zero, List.set_cons_succ, i64_w, i32_w]
       rfl
      refine take_ (i := 5) (N := some 23) (v := ?_) (a' := ?_) #[true, true, true, true, true, true, true, true, true, true, false, false, false] rfl rfl (take_ofW HT_.out HW_.out (by kernel_rfl)) (fun _ _ _ h => h) (Or.inl ⟨by rfl, ?_⟩) hHeld ?_ ?_
      rotate_left
      ·rintro w' ⟨s0, s1, s2, s3, s4, s5, s6, s7, s8, s9, s10, s11⟩
       go_simp
       with_reducible rfl
      rotate_left
      ·simp only [Act.put, List.setIfInBounds_toArray, List.set_cons_zero, List.set_cons_succ, i64_w, i32_w]
       rfl
      refine take_ (i := 10) (N := some 28) (v := ?_) (a' := ?_) #[true, true, true, true, true, true, true, true, true, true, true, false, false] rfl rfl (take_ofW HT_.out HW_.out (by kernel_rfl)) (fun _ _ _ h => h) (Or.inl ⟨by rfl, ?_⟩) hHeld ?_ ?_
      rotate_left
      ·rintro w' ⟨s0, s1, s2, s3, s4, s5, s6, s7, s8, s9, s10, s11⟩
       go_simp
       with_reducible rfl
      rotate_left
      ·simp only [Act.put, List.setIfInBounds_toArray, List.set_cons_zero, List.set_cons_succ, i64_w, i32_w]
       rfl
      refine take_ (i := 11) (N := some 29) (v := ?_) (a' := ?_) #[true, true, true, true, true, true, true, true, true, true, true, true, false] rfl rfl (take_ofW HT_.out HW_.out (by kernel_rfl)) (fun _ _ _ h => h) (Or.inl ⟨by rfl, ?_⟩) hHeld ?_ ?_
      rotate_left
      ·rintro w' ⟨s0, s1, s2, s3, s4, s5, s6, s7, s8, s9, s10, s11⟩
       go_simp
       with_reducible rfl
      rotate_left
      ·simp only [Act.put, List.setIfInBounds_toArray, List.set_cons_zero, List.set_cons_succ, i64_w, i32_w]
       rfl
      refine one_ (i := 12) (N := some 30) #[true, true, true, true, true, true, true, true, true, true, true, true, true] rfl rfl (one_of HT_.out (by kernel_rfl)) (by decide) (fun K hK => ?_)
      refine goes_ Try.func147 (by kernel_rfl) rfl #[.agg #[.int .u8 a0_0, .int .i64 a0_1, .int .i64 a0_2, .int .u64 a0_3, .int .u64 a0_4, .int .u64 a0_5], .int .i64 ((rd_T47 t1556 x8_1).f0), .int .i64 ((rd_T47 t1556 x8_1).f1), .agg #[.int .i64 a2_0, .int .i64 a2_1]] (by rfl) rfl rfl (by (try simp only [List.map_toArray, List.map_cons, List.map_nil]); first | done | rfl | (simp only [List.length_drop, List.length_take]; rfl)) ?_
      with_reducible refine (headendref03_leads.calls k1 a0_0 a0_1 a0_2 a0_3 a0_4 a0_5 ((rd_T47 t1556 x8_1).f0) ((rd_T47 t1556 x8_1).f1) a2_0 a2_1 true _ A12.out).mono ?_
      rintro e w16 ⟨rfl, hb⟩
      have HS8_ := (hb.cell (World.block_lt_of_cell? _ _ (hHeld.2.2.2.2.2.2.2.2.1))).trans (hHeld.2.2.2.2.2.2.2.2.1)
      have HS9_ := (hb.cell (World.block_lt_of_cell? _ _ (hHeld.2.2.2.2.2.2.2.2.2.1))).trans (hHeld.2.2.2.2.2.2.2.2.2.1)
      have HS10_ := (hb.cell (World.block_lt_of_cell? _ _ (hHeld.2.2.2.2.2.2.2.2.2.2.1))).trans (hHeld.2.2.2.2.2.2.2.2.2.2.1)
      have HS11_ := (hb.cell (World.block_lt_of_cell? _ _ (hHeld.2.2.2.2.2.2.2.2.2.2.2))).trans (hHeld.2.2.2.2.2.2.2.2.2.2.2)
      refine ⟨_, rfl, ?_⟩
      have n0_ := Aside0.mk (Kd.R_below (by (with_reducible repeat (first | apply Kd.R_alloc | apply Kd.R_drewN | apply Kd.R_drew)); exact HO_7.out) hb)
      have n1_ := Aside0.mk (blk_below (g := gb1554) (o := .cells #[.int .u8 a0_0, .int .i64 a0_1, .int .i64 a0_2, .int .u64 a0_3, .int .u64 a0_4, .int .u64 a0_5] 45 (0, 0)) (by (with_reducible repeat (first | refine blk_drewN ?_ _ | refine blk_drew ?_ | refine blk_alloc ?_ _)); exact BK1554.out) hb)
      have n2_ := Aside0.mk (blk_below (g := gb1555) (o := .cells #[.int .i64 a2_0, .int .i64 a2_1] 47 (0, 0)) (by (with_reducible repeat (first | refine blk_drewN ?_ _ | refine blk_drew ?_ | refine blk_alloc ?_ _)); exact BK1555.out) hb)
      have n3_ := Aside0.mk (below_step (by repeat (first | (with_reducible first | exact HB.out | apply below_alloc | apply pw_below_drewN | apply below_drew1 | refine below_set ?_ GE1554.out | refine below_set ?_ GE1555.out) | exact HB.out)) hb)
      clear HO_7
      clear BK1554
      clear BK1555
      clear HB
      have HO_7 := n0_
      have BK1554 := n1_
      have BK1555 := n2_
      have HB := n3_
      clear n0_ n1_ n2_ n3_
      (try clear hb)
      (try clear hb2)
      (try clear hk)
      (try clear hi)
      refine hK.out _ _ ⟨(blk_cell BK1554.out 0).trans rfl, (blk_cell BK1554.out 1).trans rfl, (blk_cell BK1554.out 2).trans rfl, (blk_cell BK1554.out 3).trans rfl, (blk_cell BK1554.out 4).trans rfl, (blk_cell BK1554.out 5).trans rfl, (blk_cell BK1555.out 0).trans rfl, (blk_cell BK1555.out 1).trans rfl, HS8_, HS9_, HS10_, HS11_⟩ (fun hHeld => ?_)
      clear hK K
      refine norm_ (a' := ?_) ?_ ?_
      rotate_left
      ·show Act.put _ (some 30) _ = _
       simp only [Act.put, List.setIfInBounds_toArray, List.set_cons_zero, List.set_cons_succ, i64_w, i32_w]
       rfl
      refine done_ (done_of HT_.out (by kernel_rfl)) ?_
      try go_wp2
      go_ret
      exact ⟨by first | rfl | (simp [errW_none, errW_some] <;> rfl) | (simp [*, errW_none, errW_some] <;> rfl), by repeat (first | (with_reducible first | exact HB.out | apply below_alloc | apply pw_below_drewN | apply below_drew1 | refine below_set ?_ GE1554.out | refine below_set ?_ GE1555.out) | exact HB.out)⟩
     ·replace c13 := Bool.eq_false_iff.mpr c13
      subst c13
      have H1 : (headendref03_Known.l0 k1 t1556 (wrap64 (x8_1 + 1)) a0_0 a0_1 a0_2 a0_3 a0_4 a0_5 a2_0 a2_1) = some r := by rw [if_neg (show ¬ (false = true) by decide)] at H; exact H
      clear H
      have H := H1
      clear H1
      have H' := Aside0.mk H
      clear H
      obtain ⟨Ao17, co17, eo17⟩ := Kd.R_slice HO_7.out
      subst eo17
      try go_wp2
      have n0_ := Aside0.mk (Kd.R_drew HO_7.out)
      have n1_ := Aside0.mk (blk_drew BK1554.out)
      have n2_ := Aside0.mk (blk_drew BK1555.out)
      have n3_ := Aside0.mk (below_drew1 HB.out)
      clear HO_7
      clear BK1554
      clear BK1555
      clear HB
      have HO_7 := n0_
      have BK1554 := n1_
      have BK1555 := n2_
      have HB := n3_
      clear n0_ n1_ n2_ n3_
      have p1559 : 0 ≤ (x8_1 : Int) := of_decide_eq_true (by first | (with_reducible assumption) | assumption)
      have q1559 : x8_1 < (t1556.length : Int) := of_decide_eq_true (by first | (with_reducible assumption) | assumption)
      obtain ⟨ad1559, e1559, hx1559_0, hx1559_1⟩ := at_T47 (Kd.R_reads' HO_7.out).2.2 x8_1 p1559 q1559
      cases e1559
      replace p1559 := eq_true p1559
      replace q1559 := eq_true q1559
      have p1560 : 0 ≤ (x8_1 : Int) := of_decide_eq_true (by first | (with_reducible assumption) | assumption)
      have q1560 : x8_1 < (t1556.length : Int) := of_decide_eq_true (by first | (with_reducible assumption) | assumption)
      obtain ⟨ad1560, e1560, hx1560_0, hx1560_1⟩ := at_T47 (Kd.R_reads' HO_7.out).2.2 x8_1 p1560 q1560
      obtain rfl : ad1559 = ad1560 := (by injection e1560)
      replace p1560 := eq_true p1560
      replace q1560 := eq_true q1560
      refine start_ (n := 13) (S := fun w' => w'.cell? ⟨gb1554, 0, none⟩ = some (.int .u8 a0_0) ∧ w'.cell? ⟨gb1554, 1, none⟩ = some (.int .i64 a0_1) ∧ w'.cell? ⟨gb1554, 2, none⟩ = some (.int .i64 a0_2) ∧ w'.cell? ⟨gb1554, 3, none⟩ = some (.int .u64 a0_3) ∧ w'.cell? ⟨gb1554, 4, none⟩ = some (.int .u64 a0_4) ∧ w'.cell? ⟨gb1554, 5, none⟩ = some (.int .u64 a0_5) ∧ w'.cell? ⟨gb1555, 0, none⟩ = some (.int .i64 a2_0) ∧ w'.cell? ⟨gb1555, 1, none⟩ = some (.int .i64 a2_1) ∧ w'.cell? (ad1559.add ((x8_1).toNat * 2)) = some (.int .i64 ((rd_T47 t1556 x8_1).f0)) ∧ w'.cell? ⟨(ad1559.add ((x8_1).toNat * 2)).block, (ad1559.add ((x8_1).toNat * 2)).off + 1, none⟩ = some (.int .i64 ((rd_T47 t1556 x8_1).f1)) ∧ w'.cell? (ad1559.add ((x8_1).toNat * 2)) = some (.int .i64 ((rd_T47 t1556 x8_1).f0)) ∧ w'.cell? ⟨(ad1559.add ((x8_1).toNat * 2)).block, (ad1559.add ((x8_1).toNat * 2)).off + 1, none⟩ = some (.int .i64 ((rd_T47 t1556 x8_1).f1))) (ds := []) #[false, false, false, false, false, false, false, false, false, false, false, false, false] (by kernel_rfl) rfl rfl ⟨(blk_cell BK1554.out 0).trans rfl, (blk_cell BK1554.out 1).trans rfl, (blk_cell BK1554.out 2).trans rfl, (blk_cell BK1554.out 3).trans rfl, (blk_cell BK1554.out 4).trans rfl, (blk_cell BK1554.out 5).trans rfl, (blk_cell BK1555.out 0).trans rfl, (blk_cell BK1555.out 1).trans rfl, hx1559_0, hx1559_1, hx1560_0, hx1560_1⟩ (fun hHeld => ?_); refine with_tabW headendref03_Known.tab5 headendref03_Known.bits5 (fun HT_ HW_ => ?_)
      generalize wr.drew = w18 at HO_7 BK1554 BK1555 HB hx1559_0 hx1559_1 hx1560_0 hx1560_1 hHeld ⊢
      refine pure_ (i := 1) (N := some 19) (v := ?_) (a' := ?_) #[false, true, false, false, false, false, false, false, false, false, false, false, false] rfl rfl (any_of HT_.out (by kernel_rfl)) (fun _ _ _ h => h) (Or.inl ⟨by rfl, ?_⟩) ?_ ?_
      rotate_left
      ·intro w'
       go_simp
       with_reducible rfl
      rotate_left
      ·simp only [Act.put, List.setIfInBounds_toArray, List.set_cons_zero, List.set_cons_succ, i64_w, i32_w]
       rfl
      refine pure_ (i := 2) (N := some 20) (v := ?_) (a' := ?_) #[false, true, true, false, false, false, false, false, false, false, false, false, false] rfl rfl (any_of HT_.out (by kernel_rfl)) (fun _ _ _ h => h) (Or.inl ⟨by rfl, ?_⟩) ?_ ?_
      rotate_left
      ·intro w'
       go_simp
       with_reducible rfl
      rotate_left
      ·simp only [Act.put, List.setIfInBounds_toArray, List.set_cons_zero, List.set_cons_succ, i64_w, i32_w]
       rfl
      refine pure_ (i := 3) (N := some 21) (v := ?_) (a' := ?_) #[false, true, true, true, false, false, false, false, false, false, false, false, false] rfl rfl (any_of HT_.out (by kernel_rfl)) (fun _ _ _ h => h) (Or.inl ⟨by rfl, ?_⟩) ?_ ?_
      rotate_left
      ·intro w'
       go_simp
       with_reducible rfl
      rotate_left
      ·simp only [Act.put, List.setIfInBounds_toArray, List.set_cons_zero, List.set_cons_succ, i64_w, i32_w]
       rfl
      refine pure_ (i := 4) (N := some 22) (v := ?_) (a' := ?_) #[false, true, true, true, true, false, false, false, false, false, false, false, false] rfl rfl (any_of HT_.out (by kernel_rfl)) (fun _ _ _ h => h) (Or.inl ⟨by rfl, ?_⟩) ?_ ?_
      rotate_left
      ·intro w'
       go_simp
       with_reducible rfl
      rotate_left
      ·simp only [Act.put, List.setIfInBounds_toArray, List.set_cons_zero, List.set_cons_succ, i64_w, i32_w]
       rfl
      refine pure_ (i := 6) (N := some 24) (v := ?_) (a' := ?_) #[false, true, true, true, true, false, true, false, false, false, false, false, false] rfl rfl (any_of HT_.out (by kernel_rfl)) (fun _ _ _ h => h) (Or.inl ⟨by rfl, ?_⟩) ?_ ?_
      rotate_left
      ·intro w'
       go_simp
       with_reducible rfl
      rotate_left
      ·simp only [Act.put, List.setIfInBounds_toArray, List.set_cons_zero, List.set_cons_succ, i64_w, i32_w]
       rfl
      refine pure_ (i := 7) (N := some 25) (v := ?_) (a' := ?_) #[false, true, true, true, true, false, true, true, false, false, false, false, false] rfl rfl (any_of HT_.out (by kernel_rfl)) (fun _ _ _ h => h) (Or.inl ⟨by rfl, ?_⟩) ?_ ?_
      rotate_left
      ·intro w'
       go_simp
       with_reducible rfl
      rotate_left
      ·simp only [Act.put, List.setIfInBounds_toArray, List.set_cons_zero, List.set_cons_succ, i64_w, i32_w]
       rfl
      refine pure_ (i := 8) (N := some 26) (v := ?_) (a' := ?_) #[false, true, true, true, true, false, true, true, true, false, false, false, false] rfl rfl (any_of HT_.out (by kernel_rfl)) (fun _ _ _ h => h) (Or.inl ⟨by rfl, ?_⟩) ?_ ?_
      rotate_left
      ·intro w'
       go_simp
       with_reducible rfl
      rotate_left
      ·simp only [Act.put, List.setIfInBounds_toArray, List.set_cons_zero, List.set_cons_succ, i64_w, i32_w]
       rfl
      refine pure_ (i := 9) (N := some 27) (v := ?_) (a' := ?_) #[false, true, true, true, true, false, true, true, true, true, false, false, false] rfl rfl (any_of HT_.out (by kernel_rfl)) (fun _ _ _ h => h) (Or.inl ⟨by rfl, ?_⟩) ?_ ?_
      rotate_left
      ·intro w'
       go_simp
       with_reducible rfl
      rotate_left
      ·simp only [Act.put, List.setIfInBounds_toArray, List.set_cons_zero, List.set_cons_succ, i64_w, i32_w]
       rfl
      refine take_ (i := 0) (N := some 18) (v := ?_) (a' := ?_) #[true, true, true, true, true, false, true, true, true, true, false, false, false] rfl rfl (take_ofW HT_.out HW_.out (by kernel_rfl)) (fun _ _ _ h => h) (Or.inl ⟨by rfl, ?_⟩) hHeld ?_ ?_
      rotate_left
      ·rintro w' ⟨s0, s1, s2, s3, s4, s5, s6, s7, s8, s9, s10, s11⟩
       go_simp
       with_reducible rfl
      rotate_left
      ·simp only [Act.put, List.setIfInBounds_toArray, List.set_cons_zero, List.set_cons_succ, i64_w, i32_w]
       rfl
      refine take_ (i := 5) (N := some 23) (v := ?_) (a' := ?_) #[true, true, true, true, true, true, true, true, true, true, false, false, false] rfl rfl (take_ofW HT_.out HW_.out (by kernel_rfl)) (fun _ _ _ h => h) (Or.inl ⟨by rfl, ?_⟩) hHeld ?_ ?_
      rotate_left
      ·rintro w' ⟨s0, s1, s2, s3, s4, s5, s6, s7, s8, s9, s10, s11⟩
       go_simp
       with_reducible rfl
      rotate_left
      ·simp only [Act.put, List.setIfInBounds_toArray, List.set_cons_zero, List.set_cons_succ, i64_w, i32_w]
       rfl
      refine take_ (i := 10) (N := some 28) (v := ?_) (a' := ?_) #[true, true, true, true, true, true, true, true, true, true, true, false, false] rfl rfl (take_ofW HT_.out HW_.out (by kernel_rfl)) (fun _ _ _ h => h) (Or.inl ⟨by rfl, ?_⟩) hHeld ?_ ?_
      rotate_left
      ·rintro w' ⟨s0, s1, s2, s3, s4, s5, s6, s7, s8, s9, s10, s11⟩
       go_simp
       with_reducible rfl
      rotate_left
      ·simp only [Act.put, List.setIfInBounds_toArray, List.set_cons_zero, List.set_cons_succ, i64_w, i32_w]
       rfl
      refine take_ (i := 11) (N := some 29) (v := ?_) (a' := ?_) #[true, true, true, true, true, true, true, true, true, true, true, true, false] rfl rfl (take_ofW HT_.out HW_.out (by kernel_rfl)) (fun _ _ _ h => h) (Or.inl ⟨by rfl, ?_⟩) hHeld ?_ ?_
      rotate_left
      ·rintro w' ⟨s0, s1, s2, s3, s4, s5, s6, s7, s8, s9, s10, s11⟩
       go_simp
       with_reducible rfl
      rotate_left
      ·simp only [Act.put, List.setIfInBounds_toArray, List.set_cons_zero, List.set_cons_succ, i64_w, i32_w]
       rfl
      refine one_ (i := 12) (N := some 30) #[true, true, true, true, true, true, true, true, true, true, true, true, true] rfl rfl (one_of HT_.out (by kernel_rfl)) (by decide) (fun K hK => ?_)
      refine goes_ Try.func147 (by kernel_rfl) rfl #[.agg #[.int .u8 a0_0, .int .i64 a0_1, .int .i64 a0_2, .int .u64 a0_3, .int .u64 a0_4, .int .u64 a0_5], .int .i64 ((rd_T47 t1556 x8_1).f0), .int .i64 ((rd_T47 t1556 x8_1).f1), .agg #[.int .i64 a2_0, .int .i64 a2_1]] (by rfl) rfl rfl (by (try simp only [List.map_toArray, List.map_cons, List.map_nil]); first | done | rfl | (simp only [List.length_drop, List.length_take]; rfl)) ?_
      with_reducible refine (headendref03_leads.calls k1 a0_0 a0_1 a0_2 a0_3 a0_4 a0_5 ((rd_T47 t1556 x8_1).f0) ((rd_T47 t1556 x8_1).f1) a2_0 a2_1 false _ A12.out).mono ?_
      rintro e w19 ⟨rfl, hb⟩
      have HS8_ := (hb.cell (World.block_lt_of_cell? _ _ (hHeld.2.2.2.2.2.2.2.2.1))).trans (hHeld.2.2.2.2.2.2.2.2.1)
      have HS9_ := (hb.cell (World.block_lt_of_cell? _ _ (hHeld.2.2.2.2.2.2.2.2.2.1))).trans (hHeld.2.2.2.2.2.2.2.2.2.1)
      have HS10_ := (hb.cell (World.block_lt_of_cell? _ _ (hHeld.2.2.2.2.2.2.2.2.2.2.1))).trans (hHeld.2.2.2.2.2.2.2.2.2.2.1)
      have HS11_ := (hb.cell (World.block_lt_of_cell? _ _ (hHeld.2.2.2.2.2.2.2.2.2.2.2))).trans (hHeld.2.2.2.2.2.2.2.2.2.2.2)
      refine ⟨_, rfl, ?_⟩
      have n0_ := Aside0.mk (Kd.R_below (by (with_reducible repeat (first | apply Kd.R_alloc | apply Kd.R_drewN | apply Kd.R_drew)); exact HO_7.out) hb)
      have n1_ := Aside0.mk (blk_below (g := gb1554) (o := .cells #[.int .u8 a0_0, .int .i64 a0_1, .int .i64 a0_2, .int .u64 a0_3, .int .u64 a0_4, .int .u64 a0_5] 45 (0, 0)) (by (with_reducible repeat (first | refine blk_drewN ?_ _ | refine blk_drew ?_ | refine blk_alloc ?_ _)); exact BK1554.out) hb)
      have n2_ := Aside0.mk (blk_below (g := gb1555) (o := .cells #[.int .i64 a2_0, .int .i64 a2_1] 47 (0, 0)) (by (with_reducible repeat (first | refine blk_drewN ?_ _ | refine blk_drew ?_ | refine blk_alloc ?_ _)); exact BK1555.out) hb)
      have n3_ := Aside0.mk (below_step (by repeat (first | (with_reducible first | exact HB.out | apply below_alloc | apply pw_below_drewN | apply below_drew1 | refine below_set ?_ GE1554.out | refine below_set ?_ GE1555.out) | exact HB.out)) hb)
      clear HO_7
      clear BK1554
      clear BK1555
      clear HB
      have HO_7 := n0_
      have BK1554 := n1_
      have BK1555 := n2_
      have HB := n3_
      clear n0_ n1_ n2_ n3_
      (try clear hb)
      (try clear hb2)
      (try clear hk)
      (try clear hi)
      refine hK.out _ _ ⟨(blk_cell BK1554.out 0).trans rfl, (blk_cell BK1554.out 1).trans rfl, (blk_cell BK1554.out 2).trans rfl, (blk_cell BK1554.out 3).trans rfl, (blk_cell BK1554.out 4).trans rfl, (blk_cell BK1554.out 5).trans rfl, (blk_cell BK1555.out 0).trans rfl, (blk_cell BK1555.out 1).trans rfl, HS8_, HS9_, HS10_, HS11_⟩ (fun hHeld => ?_)
      clear hK K
      refine norm_ (a' := ?_) ?_ ?_
      rotate_left
      ·show Act.put _ (some 30) _ = _
       simp only [Act.put, List.setIfInBounds_toArray, List.set_cons_zero, List.set_cons_succ, i64_w, i32_w]
       rfl
      refine done_ (done_of HT_.out (by kernel_rfl)) ?_
      try go_wp2
      go_roundg k1
      case measure => have := HK1.out; omega
      case rel => exact ⟨(wrap64 (x8_1 + 1)), (by first | rfl | (simp; done) | (simp [*]; done)), H', ⟨by have := HK1.out; omega⟩, ⟨by (with_reducible repeat (first | apply Kd.R_alloc | apply Kd.R_drewN | apply Kd.R_drew)); exact HO_7.out⟩, ⟨by (with_reducible repeat (first | refine blk_drewN ?_ _ | refine blk_drew ?_ | refine blk_alloc ?_ _)); exact BK1554.out⟩, ⟨by (with_reducible repeat (first | refine blk_drewN ?_ _ | refine blk_drew ?_ | refine blk_alloc ?_ _)); exact BK1555.out⟩, ⟨by repeat (first | (with_reducible first | exact HB.out | apply below_alloc | apply pw_below_drewN | apply below_drew1 | refine below_set ?_ GE1554.out | refine below_set ?_ GE1555.out) | exact HB.out)⟩⟩
    ·rw [if_neg c11] at H
     exact absurd H (by simp)
   ·rw [if_neg c10] at H
    have c10b0 : decide (x8_1 < (t1556.length : Int)) = false := decide_eq_false c10
    clear c10
    obtain rfl := Option.some.inj H
    obtain ⟨Ao20, co20, eo20⟩ := Kd.R_slice HO_7.out
    subst eo20
    go_wp2
    go_ret
    exact ⟨by first | rfl | (simp [errW_none, errW_some] <;> rfl) | (simp [*, errW_none, errW_some] <;> rfl), by repeat (first | (with_reducible first | exact HB.out | apply below_alloc | apply pw_below_drewN | apply below_drew1 | refine below_set ?_ GE1554.out | refine below_set ?_ GE1555.out) | exact HB.out)⟩
end Go.Proofs.Ytafhimeoijmolaa.G
namespace Go.Proofs.Ytafhimeoijmolaa.G
open Go.RowKit Go.Proofs.YtafhimeoijmolaaW.PrintWords Go.Proofs.YtafhimeoijmolaaW.PrintLast Go.Proofs.YtafhimeoijmolaaW.PrintMore
attribute [local go_sem] max2_int min2_int max_two min_two max_three min_three max_four min_four   -- for this text's walks alone
set_option linter.unusedVariables false
set_option linter.unusedSimpArgs false
attribute [local go_sem high] eqA47
end Go.Proofs.Ytafhimeoijmolaa.G
