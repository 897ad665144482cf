/- Texts of this claim, one behind the other, as far as they are used: G147, G92, G99. -/
import Derived.Test.YtafhimeoijmolaaCoverKeysM2
import Derived.Test.YtafhimeoijmolaaCoverKeysM3
namespace Go.Proofs.Ytafhimeoijmolaa.G
open Go.RowKit Go.Proofs.YtafhimeoijmolaaW.PrintWords Go.Proofs.YtafhimeoijmolaaW.PrintLast Go.Proofs.YtafhimeoijmolaaW.PrintMore
attribute [local go_sem] max2_int min2_int max_two min_two max_three min_three max_four min_four   -- for this text's walks alone
set_option linter.unusedVariables false
set_option linter.unusedSimpArgs false
def headendref03_leads.j0 : Nat → Int → Int → Bool → Int → Int → Option (Bool)
 | 0, _, _, _, _, _ => none
 | k + 1, x1, x2, x16, x1484000, x1484001 => if x16 = true then (if x1 = x1484000 then (some (x2 == x1484001)) else (some false)) else (if x1 = x1484000 then (if x2 ≥ 1 then ((headendref03_Below.f k x2 x1).bind fun t1484 => (if t1484 = true then ((headendref03_Below.f k x1484001 x2).bind fun t1485 => (some t1485)) else (some false))) else (some false)) else (some false))
def headendref03_leads.f (k : Nat) (a0_0 : Int) (a0_1 : Int) (a0_2 : Int) (a0_3 : Int) (a0_4 : Int) (a0_5 : Int) (a1 : Int) (a2 : Int) (a3_0 : Int) (a3_1 : Int) : Option (Bool) := if a0_0 = 1 then (headendref03_leads.j0 k a1 a2 true a3_0 a3_1) else (headendref03_leads.j0 k a1 a2 (a3_1 == 0) a3_0 a3_1)
theorem headendref03_leads.mono_l : ∀ k, (∀ y0 y1 y2 y3 y4, LeO (headendref03_leads.j0 k y0 y1 y2 y3 y4) (headendref03_leads.j0 (k + 1) y0 y1 y2 y3 y4))
 | 0 => fun _ _ _ _ _ r h => by simp [headendref03_leads.j0] at h
 | k + 1 => by
  have ih0 := headendref03_leads.mono_l k
  ·intro y0 y1 y2 y3 y4
   unfold headendref03_leads.j0
   repeat' first
   | (with_reducible exact ih0 _ _ _ _ _)
   | (with_reducible exact headendref03_Below.mono _ _ _)
   | (with_reducible exact LeO.refl _)
   | (with_reducible exact LeO.none _)
   | (with_reducible refine LeO.ite ?_ ?_)
   | (with_reducible refine LeO.bind ?_ (fun _ => ?_))
   | exact ih0 _ _ _ _ _
   | exact headendref03_Below.mono _ _ _
   | exact LeO.none _
   | refine LeO.ite ?_ ?_
   | refine LeO.bind ?_ (fun _ => ?_)
theorem headendref03_leads.mono : ∀ a0 a1 a2 a3 a4 a5 a6 a7 a8 a9 k, LeO (headendref03_leads.f k a0 a1 a2 a3 a4 a5 a6 a7 a8 a9) (headendref03_leads.f (k + 1) a0 a1 a2 a3 a4 a5 a6 a7 a8 a9) := by
 intro a0 a1 a2 a3 a4 a5 a6 a7 a8 a9 k
 have ih0 := headendref03_leads.mono_l k
 unfold headendref03_leads.f
 repeat' first
   | (with_reducible exact ih0 _ _ _ _ _)
   | (with_reducible exact headendref03_Below.mono _ _ _)
   | (with_reducible exact LeO.refl _)
   | (with_reducible exact LeO.none _)
   | (with_reducible refine LeO.ite ?_ ?_)
   | (with_reducible refine LeO.bind ?_ (fun _ => ?_))
   | exact ih0 _ _ _ _ _
   | exact headendref03_Below.mono _ _ _
   | exact LeO.none _
   | refine LeO.ite ?_ ?_
   | refine LeO.bind ?_ (fun _ => ?_)
set_option maxHeartbeats 8000000 in
set_option maxRecDepth 100000 in
theorem headendref03_leads.calls (k : Nat) (a0_0 : Int) (a0_1 : Int) (a0_2 : Int) (a0_3 : Int) (a0_4 : Int) (a0_5 : Int) (a1 : Int) (a2 : Int) (a3_0 : Int) (a3_1 : Int) (r : Bool) (w : World) (h : headendref03_leads.f k a0_0 a0_1 a0_2 a0_3 a0_4 a0_5 a1 a2 a3_0 a3_1 = some r) :
  Calls Try.prog 147 #[.agg #[.int .u8 a0_0, .int .i64 a0_1, .int .i64 a0_2, .int .u64 a0_3, .int .u64 a0_4, .int .u64 a0_5], .int .i64 a1, .int .i64 a2, .agg #[.int .i64 a3_0, .int .i64 a3_1]] w fun e w' => e = .returned (.bool r) ∧ Below w.heap.size w w' := by
 have hu45 := Try.underlying45
 have hu47 := Try.underlying47
 have HB := Aside0.mk (Below.refl w.heap.size w)
 have H : (if a0_0 = 1 then (headendref03_leads.j0 k a1 a2 true a3_0 a3_1) else (headendref03_leads.j0 k a1 a2 (a3_1 == 0) a3_0 a3_1)) = some r := h
 clear h
 have HC5 := Aside0.mk H
 clear H
 go_enter Try.func147, Try.ntmps147
 go_upto_region 1 with (first | ((with_reducible refine gate_dst (N := 4) rfl ?_); refine box_event ?hg (N := 4) ?hd (cs := #[.int .u8 a0_0, .int .i64 a0_1, .int .i64 a0_2, .int .u64 a0_3, .int .u64 a0_4, .int .u64 a0_5]) (t := 45) ?hr ?_; (case hd => rfl); (case hg => rfl); (case hr => first | (go_simp; done) | (go_simp; rfl)); intro gb1482 hg w6 hbox hb; have n0_ := Aside0.mk (below_step (by repeat (first | (with_reducible first | exact HB.out | apply below_alloc | apply pw_below_drewN | apply below_drew1) | exact HB.out)) hb); have n1_ := Aside0.mk (hbox); have n2_ := Aside0.mk ((by rw [hg]; exact (below_size (by repeat (first | (with_reducible first | exact HB.out | apply below_alloc | apply pw_below_drewN | apply below_drew1) | exact HB.out))) : w.heap.size ≤ gb1482)); have n3_ := Aside0.mk ((by rw [hg]; exact (below_size (by repeat (first | (with_reducible first | exact HB.out | apply below_alloc | apply pw_below_drewN | apply below_drew1) | exact HB.out))) : w.heap.size ≤ gb1482)); clear HB; have HB := n0_; have BK1482 := n1_; have GW1482 := n2_; have GE1482 := n3_; clear n0_ n1_ n2_ n3_; clear hb hbox hg) | ((with_reducible refine gate_dst (N := 7) rfl ?_); refine box_event ?hg (N := 7) ?hd (cs := #[.int .i64 a3_0, .int .i64 a3_1]) (t := 47) ?hr ?_; (case hd => rfl); (case hg => rfl); (case hr => first | (go_simp; done) | (go_simp; rfl)); intro gb1483 hg w7 hbox hb; have n0_ := Aside0.mk (blk_below (g := gb1482) (o := .cells #[.int .u8 a0_0, .int .i64 a0_1, .int .i64 a0_2, .int .u64 a0_3, .int .u64 a0_4, .int .u64 a0_5] 45 (0, 0)) (by (with_reducible repeat (first | refine blk_drewN ?_ _ | refine blk_drew ?_ | refine blk_alloc ?_ _)); exact BK1482.out) hb); have n1_ := Aside0.mk (below_step (by repeat (first | (with_reducible first | exact HB.out | apply below_alloc | apply pw_below_drewN | apply below_drew1 | refine below_set ?_ GE1482.out) | exact HB.out)) hb); have n2_ := Aside0.mk (hbox); have n3_ := Aside0.mk ((by rw [hg]; exact (below_size (by repeat (first | (with_reducible first | exact HB.out | apply below_alloc | apply pw_below_drewN | apply below_drew1 | refine below_set ?_ GE1482.out) | exact HB.out))) : w.heap.size ≤ gb1483)); have n4_ := Aside0.mk ((by rw [hg]; exact (below_size (by repeat (first | (with_reducible first | exact HB.out | apply below_alloc | apply pw_below_drewN | apply below_drew1 | refine below_set ?_ GE1482.out) | exact HB.out))) : w.heap.size ≤ gb1483)); have n5_ := Aside0.mk ((by rw [hg]; exact Nat.ne_of_lt (blk_lt (g := gb1482) (o := .cells #[.int .u8 a0_0, .int .i64 a0_1, .int .i64 a0_2, .int .u64 a0_3, .int .u64 a0_4, .int .u64 a0_5] 45 (0, 0)) (by (with_reducible repeat (first | refine blk_drewN ?_ _ | refine blk_drew ?_ | refine blk_alloc ?_ _)); exact BK1482.out)) : gb1482 ≠ gb1483)); have n6_ := Aside0.mk ((by rw [hg]; exact Nat.ne_of_gt (blk_lt (g := gb1482) (o := .cells #[.int .u8 a0_0, .int .i64 a0_1, .int .i64 a0_2, .int .u64 a0_3, .int .u64 a0_4, .int .u64 a0_5] 45 (0, 0)) (by (with_reducible repeat (first | refine blk_drewN ?_ _ | refine blk_drew ?_ | refine blk_alloc ?_ _)); exact BK1482.out)) : gb1483 ≠ gb1482)); clear BK1482; clear HB; have BK1482 := n0_; have HB := n1_; have BK1483 := n2_; have GW1483 := n3_; have GE1483 := n4_; have NB1482_1483 := n5_; have NB1483_1482 := n6_; clear n0_ n1_ n2_ n3_ n4_ n5_ n6_; clear hb hbox hg))
 (try simp only [Act.put, List.setIfInBounds_toArray, List.set_cons_zero, List.set_cons_succ])
 go_cut [16] (fun v16 wc => ∃ (kq : Nat) (x16_4 : Bool), v16 = .bool x16_4 ∧ Aside0 (headendref03_leads.j0 kq a1 a2 x16_4 a3_0 a3_1 = some r) ∧ Aside0 (kq ≤ k) ∧ Aside0 (wc.heap[gb1482]? = some (.cells #[.int .u8 a0_0, .int .i64 a0_1, .int .i64 a0_2, .int .u64 a0_3, .int .u64 a0_4, .int .u64 a0_5] 45 (0, 0))) ∧ Aside0 (wc.heap[gb1483]? = some (.cells #[.int .i64 a3_0, .int .i64 a3_1] 47 (0, 0))) ∧ Aside0 (Below w.heap.size w wc))
 case first =>
  have H := HC5.out
  clear HC5
  by_cases c8 : a0_0 = 1
  ·rw [if_pos c8] at H
   have c8b0 : (a0_0 == 1) = true := beq_iff_eq.mpr c8
   have c8b1 : (a0_0 != 1) = false := bne_eq_false_iff_eq.mpr c8
   clear c8
   (first | rw [c8b0] | (simp only [i64_w, i32_w]; rw [c8b0]) | skip)
   have H' := Aside0.mk H
   clear H
   have hnb9 := NB1482_1483.out
   have hnc9 := NB1483_1482.out
   have hcz10_0 : w7.cell? ⟨gb1482, 0, none⟩ = some (.int .u8 a0_0) := (blk_cell BK1482.out 0).trans rfl
   have hcz10_1 : w7.cell? ⟨gb1482, 1, none⟩ = some (.int .i64 a0_1) := (blk_cell BK1482.out 1).trans rfl
   have hcz10_2 : w7.cell? ⟨gb1482, 2, none⟩ = some (.int .i64 a0_2) := (blk_cell BK1482.out 2).trans rfl
   have hcz10_3 : w7.cell? ⟨gb1482, 3, none⟩ = some (.int .u64 a0_3) := (blk_cell BK1482.out 3).trans rfl
   have hcz10_4 : w7.cell? ⟨gb1482, 4, none⟩ = some (.int .u64 a0_4) := (blk_cell BK1482.out 4).trans rfl
   have hcz10_5 : w7.cell? ⟨gb1482, 5, none⟩ = some (.int .u64 a0_5) := (blk_cell BK1482.out 5).trans rfl
   have hfz10_0 := blk_frozen BK1482.out 0
   have hfz10_1 := blk_frozen BK1482.out 1
   have hfz10_2 := blk_frozen BK1482.out 2
   have hfz10_3 := blk_frozen BK1482.out 3
   have hfz10_4 := blk_frozen BK1482.out 4
   have hfz10_5 := blk_frozen BK1482.out 5
   go_wp2
   go_meet
   case rel => exact ⟨_, (true), (by first | rfl | (simp; done) | (simp [*]; done)), H', ⟨by first | omega | exact Nat.le_refl _⟩, ⟨by (with_reducible repeat (first | refine blk_drewN ?_ _ | refine blk_drew ?_ | refine blk_alloc ?_ _)); exact BK1482.out⟩, ⟨by (with_reducible repeat (first | refine blk_drewN ?_ _ | refine blk_drew ?_ | refine blk_alloc ?_ _)); exact BK1483.out⟩, ⟨by repeat (first | (with_reducible first | exact HB.out | apply below_alloc | apply pw_below_drewN | apply below_drew1 | refine below_set ?_ GE1482.out | refine below_set ?_ GE1483.out) | exact HB.out)⟩⟩
  ·rw [if_neg c8] at H
   have c8b0 : (a0_0 == 1) = false := beq_eq_false_iff_ne.mpr c8
   have c8b1 : (a0_0 != 1) = true := bne_iff_ne.mpr c8
   (first | rw [c8b0] | (simp only [i64_w, i32_w]; rw [c8b0]) | skip)
   have H' := Aside0.mk H
   clear H
   have hnb11 := NB1482_1483.out
   have hnc11 := NB1483_1482.out
   have hcz12_0 : w7.cell? ⟨gb1482, 0, none⟩ = some (.int .u8 a0_0) := (blk_cell BK1482.out 0).trans rfl
   have hcz12_1 : w7.cell? ⟨gb1482, 1, none⟩ = some (.int .i64 a0_1) := (blk_cell BK1482.out 1).trans rfl
   have hcz12_2 : w7.cell? ⟨gb1482, 2, none⟩ = some (.int .i64 a0_2) := (blk_cell BK1482.out 2).trans rfl
   have hcz12_3 : w7.cell? ⟨gb1482, 3, none⟩ = some (.int .u64 a0_3) := (blk_cell BK1482.out 3).trans rfl
   have hcz12_4 : w7.cell? ⟨gb1482, 4, none⟩ = some (.int .u64 a0_4) := (blk_cell BK1482.out 4).trans rfl
   have hcz12_5 : w7.cell? ⟨gb1482, 5, none⟩ = some (.int .u64 a0_5) := (blk_cell BK1482.out 5).trans rfl
   have hfz12_0 := blk_frozen BK1482.out 0
   have hfz12_1 := blk_frozen BK1482.out 1
   have hfz12_2 := blk_frozen BK1482.out 2
   have hfz12_3 := blk_frozen BK1482.out 3
   have hfz12_4 := blk_frozen BK1482.out 4
   have hfz12_5 := blk_frozen BK1482.out 5
   have hcz13_0 : w7.cell? ⟨gb1483, 0, none⟩ = some (.int .i64 a3_0) := (blk_cell BK1483.out 0).trans rfl
   have hcz13_1 : w7.cell? ⟨gb1483, 1, none⟩ = some (.int .i64 a3_1) := (blk_cell BK1483.out 1).trans rfl
   have hfz13_0 := blk_frozen BK1483.out 0
   have hfz13_1 := blk_frozen BK1483.out 1
   go_wp2
   go_meet
   case rel => exact ⟨_, ((a3_1 == 0)), (by first | rfl | (simp; done) | (simp [*]; done)), H', ⟨by first | omega | exact Nat.le_refl _⟩, ⟨by (with_reducible repeat (first | refine blk_drewN ?_ _ | refine blk_drew ?_ | refine blk_alloc ?_ _)); exact BK1482.out⟩, ⟨by (with_reducible repeat (first | refine blk_drewN ?_ _ | refine blk_drew ?_ | refine blk_alloc ?_ _)); exact BK1483.out⟩, ⟨by repeat (first | (with_reducible first | exact HB.out | apply below_alloc | apply pw_below_drewN | apply below_drew1 | refine below_set ?_ GE1482.out | refine below_set ?_ GE1483.out) | exact HB.out)⟩⟩
 case rest =>
  clear HC5
  try clear c1
  try clear p2
  try clear c8
  try clear c8b0
  try clear c8b1
  try clear c9
  try clear c11
  try clear hcz10_0
  try clear hcz10_1
  try clear hcz10_2
  try clear hcz10_3
  try clear hcz10_4
  try clear hcz10_5
  try clear hcz12_0
  try clear hcz12_1
  try clear hcz12_2
  try clear hcz12_3
  try clear hcz12_4
  try clear hcz12_5
  try clear hcz13_0
  try clear hcz13_1
  try clear hfz10_0
  try clear hfz10_1
  try clear hfz10_2
  try clear hfz10_3
  try clear hfz10_4
  try clear hfz10_5
  try clear hfz12_0
  try clear hfz12_1
  try clear hfz12_2
  try clear hfz12_3
  try clear hfz12_4
  try clear hfz12_5
  try clear hfz13_0
  try clear hfz13_1
  obtain ⟨kq, x16_4, rfl, HA, HJ4, BK1482, BK1483, HB⟩ := hcut
  cases kq with
  | zero => exact absurd HA.out (by simp [headendref03_leads.j0])
  | succ kj4 =>
   have H := HA.out
   clear HA
   simp only [headendref03_leads.j0] at H
   by_cases c14 : x16_4 = true
   ·subst c14
    have H1 : (if a1 = a3_0 then (some (a2 == a3_1)) else (some false)) = some r := by rw [if_pos rfl] at H; exact H
    clear H
    have H := H1
    clear H1
    by_cases c15 : a1 = a3_0
    ·rw [if_pos c15] at H
     have c15b0 : (a1 == a3_0) = true := beq_iff_eq.mpr c15
     have c15b1 : (a1 != a3_0) = false := bne_eq_false_iff_eq.mpr c15
     clear c15
     obtain rfl := Option.some.inj H
     have hnb16 := NB1483_1482.out
     have hnc16 := NB1482_1483.out
     have hcz17_0 : wc.cell? ⟨gb1483, 0, none⟩ = some (.int .i64 a3_0) := (blk_cell BK1483.out 0).trans rfl
     have hcz17_1 : wc.cell? ⟨gb1483, 1, none⟩ = some (.int .i64 a3_1) := (blk_cell BK1483.out 1).trans rfl
     have hfz17_0 := blk_frozen BK1483.out 0
     have hfz17_1 := blk_frozen BK1483.out 1
     go_wp2
     go_ret
     exact ⟨by first | rfl | (simp [errW_none, errW_some] <;> rfl) | (simp [*, errW_none, errW_some] <;> rfl), by repeat (first | (with_reducible first | exact HB.out | apply below_alloc | apply pw_below_drewN | apply below_drew1 | refine below_set ?_ GE1482.out | refine below_set ?_ GE1483.out) | exact HB.out)⟩
    ·rw [if_neg c15] at H
     have c15b0 : (a1 == a3_0) = false := beq_eq_false_iff_ne.mpr c15
     have c15b1 : (a1 != a3_0) = true := bne_iff_ne.mpr c15
     obtain rfl := Option.some.inj H
     have hnb18 := NB1483_1482.out
     have hnc18 := NB1482_1483.out
     have hcz19_0 : wc.cell? ⟨gb1483, 0, none⟩ = some (.int .i64 a3_0) := (blk_cell BK1483.out 0).trans rfl
     have hcz19_1 : wc.cell? ⟨gb1483, 1, none⟩ = some (.int .i64 a3_1) := (blk_cell BK1483.out 1).trans rfl
     have hfz19_0 := blk_frozen BK1483.out 0
     have hfz19_1 := blk_frozen BK1483.out 1
     go_wp2
     go_ret
     exact ⟨by first | rfl | (simp [errW_none, errW_some] <;> rfl) | (simp [*, errW_none, errW_some] <;> rfl), by repeat (first | (with_reducible first | exact HB.out | apply below_alloc | apply pw_below_drewN | apply below_drew1 | refine below_set ?_ GE1482.out | refine below_set ?_ GE1483.out) | exact HB.out)⟩
   ·replace c14 := Bool.eq_false_iff.mpr c14
    subst c14
    have H1 : (if a1 = a3_0 then (if a2 ≥ 1 then ((headendref03_Below.f kj4 a2 a1).bind fun t1484 => (if t1484 = true then ((headendref03_Below.f kj4 a3_1 a2).bind fun t1485 => (some t1485)) else (some false))) else (some false)) else (some false)) = some r := by rw [if_neg (show ¬ (false = true) by decide)] at H; exact H
    clear H
    have H := H1
    clear H1
    by_cases c20 : a1 = a3_0
    ·rw [if_pos c20] at H
     have c20b0 : (a1 == a3_0) = true := beq_iff_eq.mpr c20
     have c20b1 : (a1 != a3_0) = false := bne_eq_false_iff_eq.mpr c20
     clear c20
     by_cases c21 : a2 ≥ 1
     ·rw [if_pos c21] at H
      have c21b0 : decide (1 ≤ a2) = true := decide_eq_true c21
      clear c21
      replace H := Option.bind_eq_some_iff.mp H
      obtain ⟨t1484, A220, H⟩ := H
      replace H : (if t1484 = true then ((headendref03_Below.f kj4 a3_1 a2).bind fun t1485 => (some t1485)) else (some false)) = some r := H
      have A22 := Aside0.mk A220
      clear A220
      by_cases c23 : t1484 = true
      ·subst c23
       have H1 : ((headendref03_Below.f kj4 a3_1 a2).bind fun t1485 => (some t1485)) = some r := by rw [if_pos rfl] at H; exact H
       clear H
       have H := H1
       clear H1
       replace H := Option.bind_eq_some_iff.mp H
       obtain ⟨t1485, A240, H⟩ := H
       replace H : (some t1485) = some r := H
       have A24 := Aside0.mk A240
       clear A240
       obtain rfl := Option.some.inj H
       have hnb25 := NB1483_1482.out
       have hnc25 := NB1482_1483.out
       have hcz26_0 : wc.cell? ⟨gb1483, 0, none⟩ = some (.int .i64 a3_0) := (blk_cell BK1483.out 0).trans rfl
       have hcz26_1 : wc.cell? ⟨gb1483, 1, none⟩ = some (.int .i64 a3_1) := (blk_cell BK1483.out 1).trans rfl
       have hfz26_0 := blk_frozen BK1483.out 0
       have hfz26_1 := blk_frozen BK1483.out 1
       go_wp2_with (first | (go_at_call 62; (with_reducible refine (headendref03_Below.calls kj4 a2 a1 true _ A22.out).mono ?_); rintro e w' ⟨rfl, ⟨nd, rfl⟩⟩) | (go_at_call 62; (with_reducible refine (headendref03_Below.calls kj4 a3_1 a2 t1485 _ A24.out).mono ?_); rintro e w' ⟨rfl, ⟨nd, rfl⟩⟩))
       go_ret
       exact ⟨by first | rfl | (simp [errW_none, errW_some] <;> rfl) | (simp [*, errW_none, errW_some] <;> rfl), by repeat (first | (with_reducible first | exact HB.out | apply below_alloc | apply pw_below_drewN | apply below_drew1 | refine below_set ?_ GE1482.out | refine below_set ?_ GE1483.out) | exact HB.out)⟩
      ·replace c23 := Bool.eq_false_iff.mpr c23
       subst c23
       have H1 : (some false) = some r := by rw [if_neg (show ¬ (false = true) by decide)] at H; exact H
       clear H
       have H := H1
       clear H1
       obtain rfl := Option.some.inj H
       have hnb27 := NB1483_1482.out
       have hnc27 := NB1482_1483.out
       have hcz28_0 : wc.cell? ⟨gb1483, 0, none⟩ = some (.int .i64 a3_0) := (blk_cell BK1483.out 0).trans rfl
       have hcz28_1 : wc.cell? ⟨gb1483, 1, none⟩ = some (.int .i64 a3_1) := (blk_cell BK1483.out 1).trans rfl
       have hfz28_0 := blk_frozen BK1483.out 0
       have hfz28_1 := blk_frozen BK1483.out 1
       go_wp2_with (first | (go_at_call 62; (with_reducible refine (headendref03_Below.calls kj4 a2 a1 false _ A22.out).mono ?_); rintro e w' ⟨rfl, ⟨nd, rfl⟩⟩))
       go_ret
       exact ⟨by first | rfl | (simp [errW_none, errW_some] <;> rfl) | (simp [*, errW_none, errW_some] <;> rfl), by repeat (first | (with_reducible first | exact HB.out | apply below_alloc | apply pw_below_drewN | apply below_drew1 | refine below_set ?_ GE1482.out | refine below_set ?_ GE1483.out) | exact HB.out)⟩
     ·rw [if_neg c21] at H
      have c21b0 : decide (1 ≤ a2) = false := decide_eq_false c21
      clear c21
      obtain rfl := Option.some.inj H
      have hnb29 := NB1483_1482.out
      have hnc29 := NB1482_1483.out
      have hcz30_0 : wc.cell? ⟨gb1483, 0, none⟩ = some (.int .i64 a3_0) := (blk_cell BK1483.out 0).trans rfl
      have hcz30_1 : wc.cell? ⟨gb1483, 1, none⟩ = some (.int .i64 a3_1) := (blk_cell BK1483.out 1).trans rfl
      have hfz30_0 := blk_frozen BK1483.out 0
      have hfz30_1 := blk_frozen BK1483.out 1
      go_wp2
      go_ret
      exact ⟨by first | rfl | (simp [errW_none, errW_some] <;> rfl) | (simp [*, errW_none, errW_some] <;> rfl), by repeat (first | (with_reducible first | exact HB.out | apply below_alloc | apply pw_below_drewN | apply below_drew1 | refine below_set ?_ GE1482.out | refine below_set ?_ GE1483.out) | exact HB.out)⟩
    ·rw [if_neg c20] at H
     have c20b0 : (a1 == a3_0) = false := beq_eq_false_iff_ne.mpr c20
     have c20b1 : (a1 != a3_0) = true := bne_iff_ne.mpr c20
     obtain rfl := Option.some.inj H
     have hnb31 := NB1483_1482.out
     have hnc31 := NB1482_1483.out
     have hcz32_0 : wc.cell? ⟨gb1483, 0, none⟩ = some (.int .i64 a3_0) := (blk_cell BK1483.out 0).trans rfl
     have hcz32_1 : wc.cell? ⟨gb1483, 1, none⟩ = some (.int .i64 a3_1) := (blk_cell BK1483.out 1).trans rfl
     have hfz32_0 := blk_frozen BK1483.out 0
     have hfz32_1 := blk_frozen BK1483.out 1
     go_wp2
     go_ret
     exact ⟨by first | rfl | (simp [errW_none, errW_some] <;> rfl) | (simp [*, errW_none, errW_some] <;> rfl), by repeat (first | (with_reducible first | exact HB.out | apply below_alloc | apply pw_below_drewN | apply below_drew1 | refine below_set ?_ GE1482.out | refine below_set ?_ GE1483.out) | exact HB.out)⟩
end Go.Proofs.Ytafhimeoijmolaa.G
namespace Go.Proofs.Ytafhimeoijmolaa.G
open Go.RowKit Go.Proofs.YtafhimeoijmolaaW.PrintWords Go.Proofs.YtafhimeoijmolaaW.PrintLast Go.Proofs.YtafhimeoijmolaaW.PrintMore
attribute [local go_sem] max2_int min2_int max_two min_two max_three min_three max_four min_four   -- for this text's walks alone
set_option linter.unusedVariables false
set_option linter.unusedSimpArgs false
def cover_tree_receiver.f (a0_0 : Int) (a0_1 : Int) (a0_2 : Int) (a1 : Int) : Option (Bool) := if a1 ≥ 0 then ((cover_tree_size.f a0_0 a0_1 a0_2).bind fun t2142 => (some (decide (a1 < t2142)))) else (some false)
set_option maxHeartbeats 8000000 in
set_option maxRecDepth 100000 in
theorem cover_tree_receiver.calls (a0_0 : Int) (a0_1 : Int) (a0_2 : Int) (a1 : Int) (r : Bool) (w : World) (h : cover_tree_receiver.f a0_0 a0_1 a0_2 a1 = some r) :
  Calls Try.prog 92 #[.agg #[.int .u8 a0_0, .int .i64 a0_1, .int .i64 a0_2], .int .i64 a1] w fun e w' => e = .returned (.bool r) ∧ Below w.heap.size w w' := by
 have hu134 := Try.underlying134
 have HB := Aside0.mk (Below.refl w.heap.size w)
 have H : (if a1 ≥ 0 then ((cover_tree_size.f a0_0 a0_1 a0_2).bind fun t2142 => (some (decide (a1 < t2142)))) else (some false)) = some r := h
 clear h
 by_cases c3 : a1 ≥ 0
 ·rw [if_pos c3] at H
  have c3b0 : decide (0 ≤ a1) = true := decide_eq_true c3
  clear c3
  replace H := Option.bind_eq_some_iff.mp H
  obtain ⟨t2142, A40, H⟩ := H
  replace H : (some (decide (a1 < t2142))) = some r := H
  have A4 := Aside0.mk A40
  clear A40
  obtain rfl := Option.some.inj H
  go_enter Try.func92, Try.ntmps92
  go_wp2_with (first | ((with_reducible refine gate_dst (N := 2) rfl ?_); refine box_event ?hg (N := 2) ?hd (cs := #[.int .u8 a0_0, .int .i64 a0_1, .int .i64 a0_2]) (t := 134) ?hr ?_; (case hd => rfl); (case hg => rfl); (case hr => first | (go_simp; done) | (go_simp; rfl)); intro gb2141 hg w5 hbox hb; have n0_ := Aside0.mk (below_step (by repeat (first | (with_reducible first | exact HB.out | apply below_alloc | apply pw_below_drewN | apply below_drew1) | exact HB.out)) hb); have n1_ := Aside0.mk (hbox); have n2_ := Aside0.mk ((by rw [hg]; exact (below_size (by repeat (first | (with_reducible first | exact HB.out | apply below_alloc | apply pw_below_drewN | apply below_drew1) | exact HB.out))) : w.heap.size ≤ gb2141)); have n3_ := Aside0.mk ((by rw [hg]; exact (below_size (by repeat (first | (with_reducible first | exact HB.out | apply below_alloc | apply pw_below_drewN | apply below_drew1) | exact HB.out))) : w.heap.size ≤ gb2141)); clear HB; have HB := n0_; have BK2141 := n1_; have GW2141 := n2_; have GE2141 := n3_; clear n0_ n1_ n2_ n3_; clear hb hbox hg; have hcz6_0 : w5.cell? ⟨gb2141, 0, none⟩ = some (.int .u8 a0_0) := (blk_cell BK2141.out 0).trans rfl; have hcz6_1 : w5.cell? ⟨gb2141, 1, none⟩ = some (.int .i64 a0_1) := (blk_cell BK2141.out 1).trans rfl; have hcz6_2 : w5.cell? ⟨gb2141, 2, none⟩ = some (.int .i64 a0_2) := (blk_cell BK2141.out 2).trans rfl; have hfz6_0 := blk_frozen BK2141.out 0; have hfz6_1 := blk_frozen BK2141.out 1; have hfz6_2 := blk_frozen BK2141.out 2) | (go_at_call 123; (with_reducible refine (cover_tree_size.calls a0_0 a0_1 a0_2 t2142 _ A4.out).mono ?_); rintro e w7 ⟨rfl, hb⟩; have n0_ := Aside0.mk (blk_below (g := gb2141) (o := .cells #[.int .u8 a0_0, .int .i64 a0_1, .int .i64 a0_2] 134 (0, 0)) (by (with_reducible repeat (first | refine blk_drewN ?_ _ | refine blk_drew ?_ | refine blk_alloc ?_ _)); exact BK2141.out) hb); have n1_ := Aside0.mk (below_step (by repeat (first | (with_reducible first | exact HB.out | apply below_alloc | apply pw_below_drewN | apply below_drew1 | refine below_set ?_ GE2141.out) | exact HB.out)) hb); clear BK2141; clear HB; have BK2141 := n0_; have HB := n1_; clear n0_ n1_; (try clear hb); (try clear hb2); (try clear hk); (try clear hi)))
  go_ret
  exact ⟨by first | rfl | (simp [errW_none, errW_some] <;> rfl) | (simp [*, errW_none, errW_some] <;> rfl), by repeat (first | (with_reducible first | exact HB.out | apply below_alloc | apply pw_below_drewN | apply below_drew1 | refine below_set ?_ GE2141.out) | exact HB.out)⟩
 ·rw [if_neg c3] at H
  have c3b0 : decide (0 ≤ a1) = false := decide_eq_false c3
  clear c3
  obtain rfl := Option.some.inj H
  go_enter Try.func92, Try.ntmps92
  go_wp2_with (first | ((with_reducible refine gate_dst (N := 2) rfl ?_); refine box_event ?hg (N := 2) ?hd (cs := #[.int .u8 a0_0, .int .i64 a0_1, .int .i64 a0_2]) (t := 134) ?hr ?_; (case hd => rfl); (case hg => rfl); (case hr => first | (go_simp; done) | (go_simp; rfl)); intro gb2141 hg w8 hbox hb; have n0_ := Aside0.mk (below_step (by repeat (first | (with_reducible first | exact HB.out | apply below_alloc | apply pw_below_drewN | apply below_drew1) | exact HB.out)) hb); have n1_ := Aside0.mk (hbox); have n2_ := Aside0.mk ((by rw [hg]; exact (below_size (by repeat (first | (with_reducible first | exact HB.out | apply below_alloc | apply pw_below_drewN | apply below_drew1) | exact HB.out))) : w.heap.size ≤ gb2141)); have n3_ := Aside0.mk ((by rw [hg]; exact (below_size (by repeat (first | (with_reducible first | exact HB.out | apply below_alloc | apply pw_below_drewN | apply below_drew1) | exact HB.out))) : w.heap.size ≤ gb2141)); clear HB; have HB := n0_; have BK2141 := n1_; have GW2141 := n2_; have GE2141 := n3_; clear n0_ n1_ n2_ n3_; clear hb hbox hg))
  go_ret
  exact ⟨by first | rfl | (simp [errW_none, errW_some] <;> rfl) | (simp [*, errW_none, errW_some] <;> rfl), by repeat (first | (with_reducible first | exact HB.out | apply below_alloc | apply pw_below_drewN | apply below_drew1 | refine below_set ?_ GE2141.out) | exact HB.out)⟩
end Go.Proofs.Ytafhimeoijmolaa.G
namespace Go.Proofs.Ytafhimeoijmolaa.G
open Go.RowKit Go.Proofs.YtafhimeoijmolaaW.PrintWords Go.Proofs.YtafhimeoijmolaaW.PrintLast Go.Proofs.YtafhimeoijmolaaW.PrintMore
attribute [local go_sem] max2_int min2_int max_two min_two max_three min_three max_four min_four   -- for this text's walks alone
set_option linter.unusedVariables false
set_option linter.unusedSimpArgs false
def cover_tree_list.l0 : Nat → List Int → List Int → Int → Int → Int → Int → Int → Option (Bool)
 | 0, _, _, _, _, _, _, _ => none
 | k + 1, x1, x7, x8, x9, x2144000, x2144001, x2144002 => if x9 < x8 then (if 0 ≤ x9 then (if x9 < (x7.length : Int) then ((cover_tree_receiver.f x2144000 x2144001 x2144002 (rd x7 x9)).bind fun t2145 => (if t2145 = true then (if x9 > 0 then (if 0 ≤ (wrap64 (x9 - 1)) then (if (wrap64 (x9 - 1)) < (x1.length : Int) then (if (rd x7 x9) ≤ (rd x1 (wrap64 (x9 - 1))) then (some false) else (cover_tree_list.l0 k x1 x7 x8 (wrap64 (x9 + 1)) x2144000 x2144001 x2144002)) else (none)) else (none)) else (cover_tree_list.l0 k x1 x7 x8 (wrap64 (x9 + 1)) x2144000 x2144001 x2144002)) else (some false))) else (none)) else (none)) else (some true)
def cover_tree_list.f (k : Nat) (a0_0 : Int) (a0_1 : Int) (a0_2 : Int) (l1 : List Int) : Option (Bool) := cover_tree_list.l0 k l1 l1 (l1.length : Int) 0 a0_0 a0_1 a0_2
set_option maxHeartbeats 8000000 in
set_option maxRecDepth 100000 in
theorem cover_tree_list.calls (k : Nat) (a0_0 : Int) (a0_1 : Int) (a0_2 : Int) (A1 : Option Addr) (c1 : Nat) (l1 : List Int) (r : Bool) (w : World) (hr1 : Kd.C (Kd.int .i64) w A1 l1.length l1) (hc1 : l1.length ≤ c1) (h : cover_tree_list.f k a0_0 a0_1 a0_2 l1 = some r) :
  Calls Try.prog 99 #[.agg #[.int .u8 a0_0, .int .i64 a0_1, .int .i64 a0_2], .slice A1 l1.length c1] w fun e w' => e = .returned (.bool r) ∧ Below w.heap.size w w' := by
 have hu134 := Try.underlying134
 have HR1 := Aside0.mk hr1
 have HC1 := Aside0.mk hc1
 clear hr1 hc1
 have HB := Aside0.mk (Below.refl w.heap.size w)
 have H : (cover_tree_list.l0 k l1 l1 (l1.length : Int) 0 a0_0 a0_1 a0_2) = some r := h
 clear h
 have H' := Aside0.mk H
 clear H
 go_enter Try.func99, Try.ntmps99
 go_wp2_with (first | ((with_reducible refine gate_dst (N := 2) rfl ?_); refine box_event ?hg (N := 2) ?hd (cs := #[.int .u8 a0_0, .int .i64 a0_1, .int .i64 a0_2]) (t := 134) ?hr ?_; (case hd => rfl); (case hg => rfl); (case hr => first | (go_simp; done) | (go_simp; rfl)); intro gb2143 hg w3 hbox hb; have n0_ := Aside0.mk (below_step (by repeat (first | (with_reducible first | exact HB.out | apply below_alloc | apply pw_below_drewN | apply below_drew1) | exact HB.out)) hb); have n1_ := Aside0.mk (hbox); have n2_ := Aside0.mk ((by rw [hg]; exact (below_size (by repeat (first | (with_reducible first | exact HB.out | apply below_alloc | apply pw_below_drewN | apply below_drew1) | exact HB.out))) : w.heap.size ≤ gb2143)); have n3_ := Aside0.mk ((by rw [hg]; exact (below_size (by repeat (first | (with_reducible first | exact HB.out | apply below_alloc | apply pw_below_drewN | apply below_drew1) | exact HB.out))) : w.heap.size ≤ gb2143)); clear HB; have HB := n0_; have BK2143 := n1_; have GW2143 := n2_; have GE2143 := n3_; clear n0_ n1_ n2_ n3_; clear hb hbox hg))
 go_loopg [9] k (fun kq v9 w' => ∃ (x9_1 : Int), v9 = .int .i64 x9_1 ∧ Aside0 (cover_tree_list.l0 kq l1 l1 (l1.length : Int) x9_1 a0_0 a0_1 a0_2 = some r) ∧ Aside0 (kq ≤ k) ∧ Aside0 (w'.heap[gb2143]? = some (.cells #[.int .u8 a0_0, .int .i64 a0_1, .int .i64 a0_2] 134 (0, 0))) ∧ Aside0 (Below w.heap.size w w'))
 case atStart => exact ⟨(0), (by first | rfl | (simp; done) | (simp [*]; done)), H', ⟨Nat.le_refl _⟩, ⟨by (with_reducible repeat (first | refine blk_drewN ?_ _ | refine blk_drew ?_ | refine blk_alloc ?_ _)); exact BK2143.out⟩, ⟨by repeat (first | (with_reducible first | exact HB.out | apply below_alloc | apply pw_below_drewN | apply below_drew1 | refine below_set ?_ GE2143.out) | exact HB.out)⟩⟩
 case round =>
  clear H'
  try clear c1
  try clear p2
  obtain ⟨x9_1, rfl, HA, HK1, BK2143, HB⟩ := hrel
  cases gk with
  | zero => exact absurd HA.out (by simp [cover_tree_list.l0])
  | succ k1 =>
   have H := HA.out
   clear HA
   simp only [cover_tree_list.l0] at H
   by_cases c4 : x9_1 < (l1.length : Int)
   ·rw [if_pos c4] at H
    have c4b0 : decide (x9_1 < (l1.length : Int)) = true := decide_eq_true c4
    clear c4
    by_cases c5 : 0 ≤ x9_1
    ·rw [if_pos c5] at H
     have c5b0 : decide (0 ≤ x9_1) = true := decide_eq_true c5
     clear c5
     by_cases c6 : x9_1 < (l1.length : Int)
     ·rw [if_pos c6] at H
      have c6b0 : decide (x9_1 < (l1.length : Int)) = true := decide_eq_true c6
      clear c6
      replace H := Option.bind_eq_some_iff.mp H
      obtain ⟨t2145, A70, H⟩ := H
      replace H : (if t2145 = true then (if x9_1 > 0 then (if 0 ≤ (wrap64 (x9_1 - 1)) then (if (wrap64 (x9_1 - 1)) < (l1.length : Int) then (if (rd l1 x9_1) ≤ (rd l1 (wrap64 (x9_1 - 1))) then (some false) else (cover_tree_list.l0 k1 l1 l1 (l1.length : Int) (wrap64 (x9_1 + 1)) a0_0 a0_1 a0_2)) else (none)) else (none)) else (cover_tree_list.l0 k1 l1 l1 (l1.length : Int) (wrap64 (x9_1 + 1)) a0_0 a0_1 a0_2)) else (some false)) = some r := H
      have A7 := Aside0.mk A70
      clear A70
      by_cases c8 : t2145 = true
      ·subst c8
       have H1 : (if x9_1 > 0 then (if 0 ≤ (wrap64 (x9_1 - 1)) then (if (wrap64 (x9_1 - 1)) < (l1.length : Int) then (if (rd l1 x9_1) ≤ (rd l1 (wrap64 (x9_1 - 1))) then (some false) else (cover_tree_list.l0 k1 l1 l1 (l1.length : Int) (wrap64 (x9_1 + 1)) a0_0 a0_1 a0_2)) else (none)) else (none)) else (cover_tree_list.l0 k1 l1 l1 (l1.length : Int) (wrap64 (x9_1 + 1)) a0_0 a0_1 a0_2)) = some r := by rw [if_pos rfl] at H; exact H
       clear H
       have H := H1
       clear H1
       by_cases c9 : x9_1 > 0
       ·rw [if_pos c9] at H
        have c9b0 : decide (0 < x9_1) = true := decide_eq_true c9
        clear c9
        obtain ⟨ji10, hji10⟩ : ∃ j_ : Int, (wrap64 (x9_1 - 1)) = j_ := ⟨_, rfl⟩
        replace H : (if 0 ≤ (ji10) then (if (ji10) < (l1.length : Int) then (if (rd l1 x9_1) ≤ (rd l1 (ji10)) then (some false) else (cover_tree_list.l0 k1 l1 l1 (l1.length : Int) (wrap64 (x9_1 + 1)) a0_0 a0_1 a0_2)) else (none)) else (none)) = some r := by first | (rw [hji10] at H; exact H) | (simp only [hji10] at H ⊢; exact H)
        (try rw [hji10] at A7)
        have hji10w : (IntKind.i64.wrap (x9_1 - 1)) = ji10 := (i64_w _).trans hji10
        by_cases c11 : 0 ≤ (ji10)
        ·rw [if_pos c11] at H
         have c11b0 : decide (0 ≤ (ji10)) = true := decide_eq_true c11
         clear c11
         by_cases c12 : (ji10) < (l1.length : Int)
         ·rw [if_pos c12] at H
          have c12b0 : decide ((ji10) < (l1.length : Int)) = true := decide_eq_true c12
          clear c12
          by_cases c13 : (rd l1 x9_1) ≤ (rd l1 (ji10))
          ·rw [if_pos c13] at H
           have c13b0 : decide ((rd l1 x9_1) ≤ (rd l1 (ji10))) = true := decide_eq_true c13
           clear c13
           obtain rfl := Option.some.inj H
           have p2144 : 0 ≤ (x9_1 : Int) := of_decide_eq_true (by first | (with_reducible assumption) | assumption)
           have q2144 : x9_1 < (l1.length : Int) := of_decide_eq_true (by first | (with_reducible assumption) | assumption)
           obtain ⟨ad2144, e2144, hx2144_0⟩ := Kd.at_int HR1.out x9_1 p2144 q2144
           cases e2144
           replace hx2144_0 := (HB.out.cell (World.block_lt_of_cell? w _ hx2144_0)).trans hx2144_0
           replace p2144 := eq_true p2144
           replace q2144 := eq_true q2144
           have hcz14_0 : wr.cell? ⟨gb2143, 0, none⟩ = some (.int .u8 a0_0) := (blk_cell BK2143.out 0).trans rfl
           have hcz14_1 : wr.cell? ⟨gb2143, 1, none⟩ = some (.int .i64 a0_1) := (blk_cell BK2143.out 1).trans rfl
           have hcz14_2 : wr.cell? ⟨gb2143, 2, none⟩ = some (.int .i64 a0_2) := (blk_cell BK2143.out 2).trans rfl
           have hfz14_0 := blk_frozen BK2143.out 0
           have hfz14_1 := blk_frozen BK2143.out 1
           have hfz14_2 := blk_frozen BK2143.out 2
           go_wp2_with (first | ((with_reducible refine gate_callee (f := 92) rfl ?_); refine goesL_ (some 16) rfl rfl Try.func92 (by kernel_rfl) rfl #[.agg #[.int .u8 a0_0, .int .i64 a0_1, .int .i64 a0_2], .int .i64 (rd l1 x9_1)] rfl (by (try simp only [List.map_toArray, List.map_cons, List.map_nil]); first | done | rfl | (simp only [List.length_drop, List.length_take]; rfl)) ?_; (with_reducible refine (cover_tree_receiver.calls a0_0 a0_1 a0_2 (rd l1 x9_1) true _ A7.out).mono ?_); rintro e w15 ⟨rfl, hb⟩; refine ⟨_, rfl, ?_⟩; have n0_ := Aside0.mk (blk_below (g := gb2143) (o := .cells #[.int .u8 a0_0, .int .i64 a0_1, .int .i64 a0_2] 134 (0, 0)) (by (with_reducible repeat (first | refine blk_drewN ?_ _ | refine blk_drew ?_ | refine blk_alloc ?_ _)); exact BK2143.out) hb); have n1_ := Aside0.mk (below_step (by repeat (first | (with_reducible first | exact HB.out | apply below_alloc | apply pw_below_drewN | apply below_drew1 | refine below_set ?_ GE2143.out) | exact HB.out)) hb); clear BK2143; clear HB; have BK2143 := n0_; have HB := n1_; clear n0_ n1_; (try clear hb); (try clear hb2); (try clear hk); (try clear hi); have p2146 : 0 ≤ ((ji10) : Int) := of_decide_eq_true (by first | (with_reducible assumption) | assumption); have q2146 : (ji10) < (l1.length : Int) := of_decide_eq_true (by first | (with_reducible assumption) | assumption); obtain ⟨ad2146, e2146, hx2146_0⟩ := Kd.at_int HR1.out (ji10) p2146 q2146; obtain rfl : ad2144 = ad2146 := (by injection e2146); replace hx2146_0 := (HB.out.cell (World.block_lt_of_cell? w _ hx2146_0)).trans hx2146_0; replace p2146 := eq_true p2146; replace q2146 := eq_true q2146))
           go_ret
           exact ⟨by first | rfl | (simp [errW_none, errW_some] <;> rfl) | (simp only [← hji10]; first | rfl | (simp [errW_none, errW_some] <;> rfl)) | (simp [*, errW_none, errW_some] <;> rfl), by repeat (first | (with_reducible first | exact HB.out | apply below_alloc | apply pw_below_drewN | apply below_drew1 | refine below_set ?_ GE2143.out) | exact HB.out)⟩
          ·rw [if_neg c13] at H
           have c13b0 : decide ((rd l1 x9_1) ≤ (rd l1 (ji10))) = false := decide_eq_false c13
           clear c13
           have H' := Aside0.mk H
           clear H
           have p2144 : 0 ≤ (x9_1 : Int) := of_decide_eq_true (by first | (with_reducible assumption) | assumption)
           have q2144 : x9_1 < (l1.length : Int) := of_decide_eq_true (by first | (with_reducible assumption) | assumption)
           obtain ⟨ad2144, e2144, hx2144_0⟩ := Kd.at_int HR1.out x9_1 p2144 q2144
           cases e2144
           replace hx2144_0 := (HB.out.cell (World.block_lt_of_cell? w _ hx2144_0)).trans hx2144_0
           replace p2144 := eq_true p2144
           replace q2144 := eq_true q2144
           have hcz16_0 : wr.cell? ⟨gb2143, 0, none⟩ = some (.int .u8 a0_0) := (blk_cell BK2143.out 0).trans rfl
           have hcz16_1 : wr.cell? ⟨gb2143, 1, none⟩ = some (.int .i64 a0_1) := (blk_cell BK2143.out 1).trans rfl
           have hcz16_2 : wr.cell? ⟨gb2143, 2, none⟩ = some (.int .i64 a0_2) := (blk_cell BK2143.out 2).trans rfl
           have hfz16_0 := blk_frozen BK2143.out 0
           have hfz16_1 := blk_frozen BK2143.out 1
           have hfz16_2 := blk_frozen BK2143.out 2
           go_wp2_with (first | ((with_reducible refine gate_callee (f := 92) rfl ?_); refine goesL_ (some 16) rfl rfl Try.func92 (by kernel_rfl) rfl #[.agg #[.int .u8 a0_0, .int .i64 a0_1, .int .i64 a0_2], .int .i64 (rd l1 x9_1)] rfl (by (try simp only [List.map_toArray, List.map_cons, List.map_nil]); first | done | rfl | (simp only [List.length_drop, List.length_take]; rfl)) ?_; (with_reducible refine (cover_tree_receiver.calls a0_0 a0_1 a0_2 (rd l1 x9_1) true _ A7.out).mono ?_); rintro e w17 ⟨rfl, hb⟩; refine ⟨_, rfl, ?_⟩; have n0_ := Aside0.mk (blk_below (g := gb2143) (o := .cells #[.int .u8 a0_0, .int .i64 a0_1, .int .i64 a0_2] 134 (0, 0)) (by (with_reducible repeat (first | refine blk_drewN ?_ _ | refine blk_drew ?_ | refine blk_alloc ?_ _)); exact BK2143.out) hb); have n1_ := Aside0.mk (below_step (by repeat (first | (with_reducible first | exact HB.out | apply below_alloc | apply pw_below_drewN | apply below_drew1 | refine below_set ?_ GE2143.out) | exact HB.out)) hb); clear BK2143; clear HB; have BK2143 := n0_; have HB := n1_; clear n0_ n1_; (try clear hb); (try clear hb2); (try clear hk); (try clear hi); have p2146 : 0 ≤ ((ji10) : Int) := of_decide_eq_true (by first | (with_reducible assumption) | assumption); have q2146 : (ji10) < (l1.length : Int) := of_decide_eq_true (by first | (with_reducible assumption) | assumption); obtain ⟨ad2146, e2146, hx2146_0⟩ := Kd.at_int HR1.out (ji10) p2146 q2146; obtain rfl : ad2144 = ad2146 := (by injection e2146); replace hx2146_0 := (HB.out.cell (World.block_lt_of_cell? w _ hx2146_0)).trans hx2146_0; replace p2146 := eq_true p2146; replace q2146 := eq_true q2146))
           go_roundg k1
           case measure => have := HK1.out; omega
           case rel => exact ⟨(wrap64 (x9_1 + 1)), (by first | rfl | (simp; done) | (simp [*]; done)), H', ⟨by have := HK1.out; omega⟩, ⟨by (with_reducible repeat (first | refine blk_drewN ?_ _ | refine blk_drew ?_ | refine blk_alloc ?_ _)); exact BK2143.out⟩, ⟨by repeat (first | (with_reducible first | exact HB.out | apply below_alloc | apply pw_below_drewN | apply below_drew1 | refine below_set ?_ GE2143.out) | exact HB.out)⟩⟩
         ·rw [if_neg c12] at H
          exact absurd H (by simp)
        ·rw [if_neg c11] at H
         exact absurd H (by simp)
       ·rw [if_neg c9] at H
        have c9b0 : decide (0 < x9_1) = false := decide_eq_false c9
        clear c9
        have H' := Aside0.mk H
        clear H
        have p2144 : 0 ≤ (x9_1 : Int) := of_decide_eq_true (by first | (with_reducible assumption) | assumption)
        have q2144 : x9_1 < (l1.length : Int) := of_decide_eq_true (by first | (with_reducible assumption) | assumption)
        obtain ⟨ad2144, e2144, hx2144_0⟩ := Kd.at_int HR1.out x9_1 p2144 q2144
        cases e2144
        replace hx2144_0 := (HB.out.cell (World.block_lt_of_cell? w _ hx2144_0)).trans hx2144_0
        replace p2144 := eq_true p2144
        replace q2144 := eq_true q2144
        have hcz18_0 : wr.cell? ⟨gb2143, 0, none⟩ = some (.int .u8 a0_0) := (blk_cell BK2143.out 0).trans rfl
        have hcz18_1 : wr.cell? ⟨gb2143, 1, none⟩ = some (.int .i64 a0_1) := (blk_cell BK2143.out 1).trans rfl
        have hcz18_2 : wr.cell? ⟨gb2143, 2, none⟩ = some (.int .i64 a0_2) := (blk_cell BK2143.out 2).trans rfl
        have hfz18_0 := blk_frozen BK2143.out 0
        have hfz18_1 := blk_frozen BK2143.out 1
        have hfz18_2 := blk_frozen BK2143.out 2
        go_wp2_with (first | ((with_reducible refine gate_callee (f := 92) rfl ?_); refine goesL_ (some 16) rfl rfl Try.func92 (by kernel_rfl) rfl #[.agg #[.int .u8 a0_0, .int .i64 a0_1, .int .i64 a0_2], .int .i64 (rd l1 x9_1)] rfl (by (try simp only [List.map_toArray, List.map_cons, List.map_nil]); first | done | rfl | (simp only [List.length_drop, List.length_take]; rfl)) ?_; (with_reducible refine (cover_tree_receiver.calls a0_0 a0_1 a0_2 (rd l1 x9_1) true _ A7.out).mono ?_); rintro e w19 ⟨rfl, hb⟩; refine ⟨_, rfl, ?_⟩; have n0_ := Aside0.mk (blk_below (g := gb2143) (o := .cells #[.int .u8 a0_0, .int .i64 a0_1, .int .i64 a0_2] 134 (0, 0)) (by (with_reducible repeat (first | refine blk_drewN ?_ _ | refine blk_drew ?_ | refine blk_alloc ?_ _)); exact BK2143.out) hb); have n1_ := Aside0.mk (below_step (by repeat (first | (with_reducible first | exact HB.out | apply below_alloc | apply pw_below_drewN | apply below_drew1 | refine below_set ?_ GE2143.out) | exact HB.out)) hb); clear BK2143; clear HB; have BK2143 := n0_; have HB := n1_; clear n0_ n1_; (try clear hb); (try clear hb2); (try clear hk); (try clear hi)))
        go_roundg k1
        case measure => have := HK1.out; omega
        case rel => exact ⟨(wrap64 (x9_1 + 1)), (by first | rfl | (simp; done) | (simp [*]; done)), H', ⟨by have := HK1.out; omega⟩, ⟨by (with_reducible repeat (first | refine blk_drewN ?_ _ | refine blk_drew ?_ | refine blk_alloc ?_ _)); exact BK2143.out⟩, ⟨by repeat (first | (with_reducible first | exact HB.out | apply below_alloc | apply pw_below_drewN | apply below_drew1 | refine below_set ?_ GE2143.out) | exact HB.out)⟩⟩
      ·replace c8 := Bool.eq_false_iff.mpr c8
       subst c8
       have H1 : (some false) = some r := by rw [if_neg (show ¬ (false = true) by decide)] at H; exact H
       clear H
       have H := H1
       clear H1
       obtain rfl := Option.some.inj H
       have p2144 : 0 ≤ (x9_1 : Int) := of_decide_eq_true (by first | (with_reducible assumption) | assumption)
       have q2144 : x9_1 < (l1.length : Int) := of_decide_eq_true (by first | (with_reducible assumption) | assumption)
       obtain ⟨ad2144, e2144, hx2144_0⟩ := Kd.at_int HR1.out x9_1 p2144 q2144
       cases e2144
       replace hx2144_0 := (HB.out.cell (World.block_lt_of_cell? w _ hx2144_0)).trans hx2144_0
       replace p2144 := eq_true p2144
       replace q2144 := eq_true q2144
       have hcz20_0 : wr.cell? ⟨gb2143, 0, none⟩ = some (.int .u8 a0_0) := (blk_cell BK2143.out 0).trans rfl
       have hcz20_1 : wr.cell? ⟨gb2143, 1, none⟩ = some (.int .i64 a0_1) := (blk_cell BK2143.out 1).trans rfl
       have hcz20_2 : wr.cell? ⟨gb2143, 2, none⟩ = some (.int .i64 a0_2) := (blk_cell BK2143.out 2).trans rfl
       have hfz20_0 := blk_frozen BK2143.out 0
       have hfz20_1 := blk_frozen BK2143.out 1
       have hfz20_2 := blk_frozen BK2143.out 2
       go_wp2_with (first | ((with_reducible refine gate_callee (f := 92) rfl ?_); refine goesL_ (some 16) rfl rfl Try.func92 (by kernel_rfl) rfl #[.agg #[.int .u8 a0_0, .int .i64 a0_1, .int .i64 a0_2], .int .i64 (rd l1 x9_1)] rfl (by (try simp only [List.map_toArray, List.map_cons, List.map_nil]); first | done | rfl | (simp only [List.length_drop, List.length_take]; rfl)) ?_; (with_reducible refine (cover_tree_receiver.calls a0_0 a0_1 a0_2 (rd l1 x9_1) false _ A7.out).mono ?_); rintro e w21 ⟨rfl, hb⟩; refine ⟨_, rfl, ?_⟩; have n0_ := Aside0.mk (blk_below (g := gb2143) (o := .cells #[.int .u8 a0_0, .int .i64 a0_1, .int .i64 a0_2] 134 (0, 0)) (by (with_reducible repeat (first | refine blk_drewN ?_ _ | refine blk_drew ?_ | refine blk_alloc ?_ _)); exact BK2143.out) hb); have n1_ := Aside0.mk (below_step (by repeat (first | (with_reducible first | exact HB.out | apply below_alloc | apply pw_below_drewN | apply below_drew1 | refine below_set ?_ GE2143.out) | exact HB.out)) hb); clear BK2143; clear HB; have BK2143 := n0_; have HB := n1_; clear n0_ n1_; (try clear hb); (try clear hb2); (try clear hk); (try clear hi)))
       go_ret
       exact ⟨by first | rfl | (simp [errW_none, errW_some] <;> rfl) | (simp [*, errW_none, errW_some] <;> rfl), by repeat (first | (with_reducible first | exact HB.out | apply below_alloc | apply pw_below_drewN | apply below_drew1 | refine below_set ?_ GE2143.out) | exact HB.out)⟩
     ·rw [if_neg c6] at H
      exact absurd H (by simp)
    ·rw [if_neg c5] at H
     exact absurd H (by simp)
   ·rw [if_neg c4] at H
    have c4b0 : decide (x9_1 < (l1.length : Int)) = false := decide_eq_false c4
    clear c4
    obtain rfl := Option.some.inj H
    go_wp2
    go_ret
    exact ⟨by first | rfl | (simp [errW_none, errW_some] <;> rfl) | (simp [*, errW_none, errW_some] <;> rfl), by repeat (first | (with_reducible first | exact HB.out | apply below_alloc | apply pw_below_drewN | apply below_drew1 | refine below_set ?_ GE2143.out) | exact HB.out)⟩
end Go.Proofs.Ytafhimeoijmolaa.G
