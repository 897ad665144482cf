/- Texts of this claim, one behind the other, as far as they are used: G58. -/
import Derived.Test.YtafhimeoijmolaaCoverKeysM2
import Derived.Test.YtafhimeoijmolaaCoverKeysM3
import Derived.Test.YtafhimeoijmolaaCoverKeysM4
import Derived.Test.YtafhimeoijmolaaCoverKeysM7
import Derived.Test.YtafhimeoijmolaaCoverKeysM8
namespace Go.Proofs.Ytafhimeoijmolaa.G
open Go.RowKit Go.Proofs.YtafhimeoijmolaaW.PrintWords Go.Proofs.YtafhimeoijmolaaW.PrintLast Go.Proofs.YtafhimeoijmolaaW.PrintMore
attribute [local go_sem] max2_int min2_int max_two min_two max_three min_three max_four min_four   -- for this text's walks alone
set_option linter.unusedVariables false
set_option linter.unusedSimpArgs false
def headendref03_Knows.l0 : Nat → List Int → Int → Int → Int → Int → Int → Int → Int → Int → Int → Option (Bool × Int)
 | 0, _, _, _, _, _, _, _, _, _, _ => none
 | k + 1, x1, x8, x1563000, x1563001, x1563002, x1563003, x1563004, x1563005, x1564000, x1564001 => if x8 < (x1.length : Int) then (if 0 ≤ x8 then ((headendref03_Known.f k x1563000 x1563001 x1563002 x1563003 x1563004 x1563005 (rd x1 x8) x1564000 x1564001).bind fun t1568 => (if t1568 ≥ 0 then (some (true, 0)) else (headendref03_Knows.l0 k x1 (wrap64 (x8 + 1)) x1563000 x1563001 x1563002 x1563003 x1563004 x1563005 x1564000 x1564001))) else (none)) else (some (false, 0))
def headendref03_Knows.f (k : Nat) (a0_0 : Int) (a0_1 : Int) (a0_2 : Int) (a0_3 : Int) (a0_4 : Int) (a0_5 : Int) (l1 : List Int) (a2_0 : Int) (a2_1 : Int) : Option (Bool × Int) := (headendref03_Valid.f a0_0 a0_1 a0_2 a0_3 a0_4 a0_5).bind fun t1564 => (if t1564 = true then ((headendref03_IsList.f k a0_1 l1).bind fun t1565 => (if t1565 = true then ((headendref03_IsSubset.f k a0_0 a0_1 a0_2 a0_3 a0_4 a0_5 a2_0 a2_1).bind fun t1566 => (if t1566 = true then (headendref03_Knows.l0 k l1 0 a0_0 a0_1 a0_2 a0_3 a0_4 a0_5 a2_0 a2_1) else (some (false, 31)))) else (some (false, 2)))) else (some (false, 30)))
def headendref03_Knows.T10 : Bool × List (List Nat × List Nat) := (true, [([], []), ([], []), ([], []), ([1, 2], [1, 2]), ([3], [3]), ([], []), ([0, 4, 5], [0, 4, 5]), ([6], [6])])
def headendref03_Knows.B10 : List Nat := [0, 0, 0, 6, 14, 0, 63, 127]
theorem headendref03_Knows.tab10 : rtab .any (opsOf Try.f58 10) = headendref03_Knows.T10 := by kernel_rfl
theorem headendref03_Knows.bits10 : waitsOk headendref03_Knows.T10.2 headendref03_Knows.B10 = true := by kernel_rfl
set_option maxHeartbeats 8000000 in
set_option maxRecDepth 100000 in
theorem headendref03_Knows.calls (k : Nat) (a0_0 : Int) (a0_1 : Int) (a0_2 : Int) (a0_3 : Int) (a0_4 : Int) (a0_5 : Int) (A1 : Option Addr) (c1 : Nat) (l1 : List Int) (a2_0 : Int) (a2_1 : Int) (r1 : Bool) (r2 : Int) (w : World) (hr1 : Kd.C (Kd.int .i64) w A1 l1.length l1) (hc1 : l1.length ≤ c1) (h : headendref03_Knows.f k a0_0 a0_1 a0_2 a0_3 a0_4 a0_5 l1 a2_0 a2_1 = some (r1, r2)) :
  Calls Try.prog 58 #[.agg #[.int .u8 a0_0, .int .i64 a0_1, .int .i64 a0_2, .int .u64 a0_3, .int .u64 a0_4, .int .u64 a0_5], .slice A1 l1.length c1, .agg #[.int .i64 a2_0, .int .i64 a2_1]] w fun e w' => e = .returned (.tuple #[.bool r1, .int .i64 r2]) ∧ Below w.heap.size w w' := by
 have hu45 := Try.underlying45
 have hu47 := Try.underlying47
 have HR1 := Aside0.mk hr1
 have HC1 := Aside0.mk hc1
 clear hr1 hc1
 have HB := Aside0.mk (Below.refl w.heap.size w)
 have H : ((headendref03_Valid.f a0_0 a0_1 a0_2 a0_3 a0_4 a0_5).bind fun t1564 => (if t1564 = true then ((headendref03_IsList.f k a0_1 l1).bind fun t1565 => (if t1565 = true then ((headendref03_IsSubset.f k a0_0 a0_1 a0_2 a0_3 a0_4 a0_5 a2_0 a2_1).bind fun t1566 => (if t1566 = true then (headendref03_Knows.l0 k l1 0 a0_0 a0_1 a0_2 a0_3 a0_4 a0_5 a2_0 a2_1) else (some (false, 31)))) else (some (false, 2)))) else (some (false, 30)))) = some (r1, r2) := h
 clear h
 replace H := Option.bind_eq_some_iff.mp H
 obtain ⟨t1564, A40, H⟩ := H
 replace H : (if t1564 = true then ((headendref03_IsList.f k a0_1 l1).bind fun t1565 => (if t1565 = true then ((headendref03_IsSubset.f k a0_0 a0_1 a0_2 a0_3 a0_4 a0_5 a2_0 a2_1).bind fun t1566 => (if t1566 = true then (headendref03_Knows.l0 k l1 0 a0_0 a0_1 a0_2 a0_3 a0_4 a0_5 a2_0 a2_1) else (some (false, 31)))) else (some (false, 2)))) else (some (false, 30))) = some (r1, r2) := H
 have A4 := Aside0.mk A40
 clear A40
 by_cases c5 : t1564 = true
 ·subst c5
  have H1 : ((headendref03_IsList.f k a0_1 l1).bind fun t1565 => (if t1565 = true then ((headendref03_IsSubset.f k a0_0 a0_1 a0_2 a0_3 a0_4 a0_5 a2_0 a2_1).bind fun t1566 => (if t1566 = true then (headendref03_Knows.l0 k l1 0 a0_0 a0_1 a0_2 a0_3 a0_4 a0_5 a2_0 a2_1) else (some (false, 31)))) else (some (false, 2)))) = some (r1, r2) := by rw [if_pos rfl] at H; exact H
  clear H
  have H := H1
  clear H1
  replace H := Option.bind_eq_some_iff.mp H
  obtain ⟨t1565, A60, H⟩ := H
  replace H : (if t1565 = true then ((headendref03_IsSubset.f k a0_0 a0_1 a0_2 a0_3 a0_4 a0_5 a2_0 a2_1).bind fun t1566 => (if t1566 = true then (headendref03_Knows.l0 k l1 0 a0_0 a0_1 a0_2 a0_3 a0_4 a0_5 a2_0 a2_1) else (some (false, 31)))) else (some (false, 2))) = some (r1, r2) := H
  have A6 := Aside0.mk A60
  clear A60
  by_cases c7 : t1565 = true
  ·subst c7
   have H1 : ((headendref03_IsSubset.f k a0_0 a0_1 a0_2 a0_3 a0_4 a0_5 a2_0 a2_1).bind fun t1566 => (if t1566 = true then (headendref03_Knows.l0 k l1 0 a0_0 a0_1 a0_2 a0_3 a0_4 a0_5 a2_0 a2_1) else (some (false, 31)))) = some (r1, r2) := by rw [if_pos rfl] at H; exact H
   clear H
   have H := H1
   clear H1
   replace H := Option.bind_eq_some_iff.mp H
   obtain ⟨t1566, A80, H⟩ := H
   replace H : (if t1566 = true then (headendref03_Knows.l0 k l1 0 a0_0 a0_1 a0_2 a0_3 a0_4 a0_5 a2_0 a2_1) else (some (false, 31))) = some (r1, r2) := H
   have A8 := Aside0.mk A80
   clear A80
   by_cases c9 : t1566 = true
   ·subst c9
    have H1 : (headendref03_Knows.l0 k l1 0 a0_0 a0_1 a0_2 a0_3 a0_4 a0_5 a2_0 a2_1) = some (r1, r2) := by rw [if_pos rfl] at H; exact H
    clear H
    have H := H1
    clear H1
    have H' := Aside0.mk H
    clear H
    go_enter Try.func58, Try.ntmps58
    go_wp2_with (first | ((with_reducible refine gate_dst (N := 3) rfl ?_); refine box_event ?hg (N := 3) ?hd (cs := #[.int .u8 a0_0, .int .i64 a0_1, .int .i64 a0_2, .int .u64 a0_3, .int .u64 a0_4, .int .u64 a0_5]) (t := 45) ?hr ?_; (case hd => rfl); (case hg => rfl); (case hr => first | (go_simp; done) | (go_simp; rfl)); intro gb1562 hg w10 hbox hb; have n0_ := Aside0.mk (below_step (by repeat (first | (with_reducible first | exact HB.out | apply below_alloc | apply pw_below_drewN | apply below_drew1) | exact HB.out)) hb); have n1_ := Aside0.mk (hbox); have n2_ := Aside0.mk ((by rw [hg]; exact (below_size (by repeat (first | (with_reducible first | exact HB.out | apply below_alloc | apply pw_below_drewN | apply below_drew1) | exact HB.out))) : w.heap.size ≤ gb1562)); have n3_ := Aside0.mk ((by rw [hg]; exact (below_size (by repeat (first | (with_reducible first | exact HB.out | apply below_alloc | apply pw_below_drewN | apply below_drew1) | exact HB.out))) : w.heap.size ≤ gb1562)); clear HB; have HB := n0_; have BK1562 := n1_; have GW1562 := n2_; have GE1562 := n3_; clear n0_ n1_ n2_ n3_; clear hb hbox hg) | ((with_reducible refine gate_dst (N := 5) rfl ?_); refine box_event ?hg (N := 5) ?hd (cs := #[.int .i64 a2_0, .int .i64 a2_1]) (t := 47) ?hr ?_; (case hd => rfl); (case hg => rfl); (case hr => first | (go_simp; done) | (go_simp; rfl)); intro gb1563 hg w11 hbox hb; have n0_ := Aside0.mk (blk_below (g := gb1562) (o := .cells #[.int .u8 a0_0, .int .i64 a0_1, .int .i64 a0_2, .int .u64 a0_3, .int .u64 a0_4, .int .u64 a0_5] 45 (0, 0)) (by (with_reducible repeat (first | refine blk_drewN ?_ _ | refine blk_drew ?_ | refine blk_alloc ?_ _)); exact BK1562.out) hb); have n1_ := Aside0.mk (below_step (by repeat (first | (with_reducible first | exact HB.out | apply below_alloc | apply pw_below_drewN | apply below_drew1 | refine below_set ?_ GE1562.out) | exact HB.out)) hb); have n2_ := Aside0.mk (hbox); have n3_ := Aside0.mk ((by rw [hg]; exact (below_size (by repeat (first | (with_reducible first | exact HB.out | apply below_alloc | apply pw_below_drewN | apply below_drew1 | refine below_set ?_ GE1562.out) | exact HB.out))) : w.heap.size ≤ gb1563)); have n4_ := Aside0.mk ((by rw [hg]; exact (below_size (by repeat (first | (with_reducible first | exact HB.out | apply below_alloc | apply pw_below_drewN | apply below_drew1 | refine below_set ?_ GE1562.out) | exact HB.out))) : w.heap.size ≤ gb1563)); have n5_ := Aside0.mk ((by rw [hg]; exact Nat.ne_of_lt (blk_lt (g := gb1562) (o := .cells #[.int .u8 a0_0, .int .i64 a0_1, .int .i64 a0_2, .int .u64 a0_3, .int .u64 a0_4, .int .u64 a0_5] 45 (0, 0)) (by (with_reducible repeat (first | refine blk_drewN ?_ _ | refine blk_drew ?_ | refine blk_alloc ?_ _)); exact BK1562.out)) : gb1562 ≠ gb1563)); have n6_ := Aside0.mk ((by rw [hg]; exact Nat.ne_of_gt (blk_lt (g := gb1562) (o := .cells #[.int .u8 a0_0, .int .i64 a0_1, .int .i64 a0_2, .int .u64 a0_3, .int .u64 a0_4, .int .u64 a0_5] 45 (0, 0)) (by (with_reducible repeat (first | refine blk_drewN ?_ _ | refine blk_drew ?_ | refine blk_alloc ?_ _)); exact BK1562.out)) : gb1563 ≠ gb1562)); clear BK1562; clear HB; have BK1562 := n0_; have HB := n1_; have BK1563 := n2_; have GW1563 := n3_; have GE1563 := n4_; have NB1562_1563 := n5_; have NB1563_1562 := n6_; clear n0_ n1_ n2_ n3_ n4_ n5_ n6_; clear hb hbox hg; have hnb12 := NB1562_1563.out; have hnc12 := NB1563_1562.out; have hcz13_0 : w11.cell? ⟨gb1562, 0, none⟩ = some (.int .u8 a0_0) := (blk_cell BK1562.out 0).trans rfl; have hcz13_1 : w11.cell? ⟨gb1562, 1, none⟩ = some (.int .i64 a0_1) := (blk_cell BK1562.out 1).trans rfl; have hcz13_2 : w11.cell? ⟨gb1562, 2, none⟩ = some (.int .i64 a0_2) := (blk_cell BK1562.out 2).trans rfl; have hcz13_3 : w11.cell? ⟨gb1562, 3, none⟩ = some (.int .u64 a0_3) := (blk_cell BK1562.out 3).trans rfl; have hcz13_4 : w11.cell? ⟨gb1562, 4, none⟩ = some (.int .u64 a0_4) := (blk_cell BK1562.out 4).trans rfl; have hcz13_5 : w11.cell? ⟨gb1562, 5, none⟩ = some (.int .u64 a0_5) := (blk_cell BK1562.out 5).trans rfl; have hfz13_0 := blk_frozen BK1562.out 0; have hfz13_1 := blk_frozen BK1562.out 1; have hfz13_2 := blk_frozen BK1562.out 2; have hfz13_3 := blk_frozen BK1562.out 3; have hfz13_4 := blk_frozen BK1562.out 4; have hfz13_5 := blk_frozen BK1562.out 5) | ((with_reducible refine gate_callee (f := 61) rfl ?_); refine goesL_ (some 10) rfl rfl Try.func61 (by kernel_rfl) rfl #[.agg #[.int .u8 a0_0, .int .i64 a0_1, .int .i64 a0_2, .int .u64 a0_3, .int .u64 a0_4, .int .u64 a0_5]] rfl (by (try simp only [List.map_toArray, List.map_cons, List.map_nil]); first | done | rfl | (simp only [List.length_drop, List.length_take]; rfl)) ?_; (with_reducible refine (headendref03_Valid.calls a0_0 a0_1 a0_2 a0_3 a0_4 a0_5 true _ A4.out).mono ?_); rintro e w14 ⟨rfl, hb⟩; refine ⟨_, rfl, ?_⟩; have n0_ := Aside0.mk (blk_below (g := gb1562) (o := .cells #[.int .u8 a0_0, .int .i64 a0_1, .int .i64 a0_2, .int .u64 a0_3, .int .u64 a0_4, .int .u64 a0_5] 45 (0, 0)) (by (with_reducible repeat (first | refine blk_drewN ?_ _ | refine blk_drew ?_ | refine blk_alloc ?_ _)); exact BK1562.out) hb); have n1_ := Aside0.mk (blk_below (g := gb1563) (o := .cells #[.int .i64 a2_0, .int .i64 a2_1] 47 (0, 0)) (by (with_reducible repeat (first | refine blk_drewN ?_ _ | refine blk_drew ?_ | refine blk_alloc ?_ _)); exact BK1563.out) hb); have n2_ := Aside0.mk (below_step (by repeat (first | (with_reducible first | exact HB.out | apply below_alloc | apply pw_below_drewN | apply below_drew1 | refine below_set ?_ GE1562.out | refine below_set ?_ GE1563.out) | exact HB.out)) hb); clear BK1562; clear BK1563; clear HB; have BK1562 := n0_; have BK1563 := n1_; have HB := n2_; clear n0_ n1_ n2_; (try clear hb); (try clear hb2); (try clear hk); (try clear hi); have hcz15_0 : w14.cell? ⟨gb1562, 0, none⟩ = some (.int .u8 a0_0) := (blk_cell BK1562.out 0).trans rfl; have hcz15_1 : w14.cell? ⟨gb1562, 1, none⟩ = some (.int .i64 a0_1) := (blk_cell BK1562.out 1).trans rfl; have hcz15_2 : w14.cell? ⟨gb1562, 2, none⟩ = some (.int .i64 a0_2) := (blk_cell BK1562.out 2).trans rfl; have hcz15_3 : w14.cell? ⟨gb1562, 3, none⟩ = some (.int .u64 a0_3) := (blk_cell BK1562.out 3).trans rfl; have hcz15_4 : w14.cell? ⟨gb1562, 4, none⟩ = some (.int .u64 a0_4) := (blk_cell BK1562.out 4).trans rfl; have hcz15_5 : w14.cell? ⟨gb1562, 5, none⟩ = some (.int .u64 a0_5) := (blk_cell BK1562.out 5).trans rfl; have hfz15_0 := blk_frozen BK1562.out 0; have hfz15_1 := blk_frozen BK1562.out 1; have hfz15_2 := blk_frozen BK1562.out 2; have hfz15_3 := blk_frozen BK1562.out 3; have hfz15_4 := blk_frozen BK1562.out 4; have hfz15_5 := blk_frozen BK1562.out 5) | ((with_reducible refine gate_callee (f := 60) rfl ?_); refine goesL_ (some 15) rfl rfl Try.func60 (by kernel_rfl) rfl #[.int .i64 a0_1, .slice A1 l1.length c1] rfl (by (try simp only [List.map_toArray, List.map_cons, List.map_nil]); first | done | rfl | (simp only [List.length_drop, List.length_take]; rfl)) ?_; (with_reducible refine (headendref03_IsList.calls k a0_1 _ _ l1 true _ ?side1 ?side2 A6.out).mono ?_); (case side1 => repeat (first | exact (Kd.C_below HR1.out HB.out) | (with_reducible refine Kd.C_alloc ?_ _) | (with_reducible refine Kd.C_drewN ?_ _) | (with_reducible refine Kd.C_drew ?_))); (case side2 => exact HC1.out); rintro e w16 ⟨rfl, hb⟩; refine ⟨_, rfl, ?_⟩; have n0_ := Aside0.mk (blk_below (g := gb1562) (o := .cells #[.int .u8 a0_0, .int .i64 a0_1, .int .i64 a0_2, .int .u64 a0_3, .int .u64 a0_4, .int .u64 a0_5] 45 (0, 0)) (by (with_reducible repeat (first | refine blk_drewN ?_ _ | refine blk_drew ?_ | refine blk_alloc ?_ _)); exact BK1562.out) hb); have n1_ := Aside0.mk (blk_below (g := gb1563) (o := .cells #[.int .i64 a2_0, .int .i64 a2_1] 47 (0, 0)) (by (with_reducible repeat (first | refine blk_drewN ?_ _ | refine blk_drew ?_ | refine blk_alloc ?_ _)); exact BK1563.out) hb); have n2_ := Aside0.mk (below_step (by repeat (first | (with_reducible first | exact HB.out | apply below_alloc | apply pw_below_drewN | apply below_drew1 | refine below_set ?_ GE1562.out | refine below_set ?_ GE1563.out) | exact HB.out)) hb); clear BK1562; clear BK1563; clear HB; have BK1562 := n0_; have BK1563 := n1_; have HB := n2_; clear n0_ n1_ n2_; (try clear hb); (try clear hb2); (try clear hk); (try clear hi); have hcz17_0 : w16.cell? ⟨gb1562, 0, none⟩ = some (.int .u8 a0_0) := (blk_cell BK1562.out 0).trans rfl; have hcz17_1 : w16.cell? ⟨gb1562, 1, none⟩ = some (.int .i64 a0_1) := (blk_cell BK1562.out 1).trans rfl; have hcz17_2 : w16.cell? ⟨gb1562, 2, none⟩ = some (.int .i64 a0_2) := (blk_cell BK1562.out 2).trans rfl; have hcz17_3 : w16.cell? ⟨gb1562, 3, none⟩ = some (.int .u64 a0_3) := (blk_cell BK1562.out 3).trans rfl; have hcz17_4 : w16.cell? ⟨gb1562, 4, none⟩ = some (.int .u64 a0_4) := (blk_cell BK1562.out 4).trans rfl; have hcz17_5 : w16.cell? ⟨gb1562, 5, none⟩ = some (.int .u64 a0_5) := (blk_cell BK1562.out 5).trans rfl; have hfz17_0 := blk_frozen BK1562.out 0; have hfz17_1 := blk_frozen BK1562.out 1; have hfz17_2 := blk_frozen BK1562.out 2; have hfz17_3 := blk_frozen BK1562.out 3; have hfz17_4 := blk_frozen BK1562.out 4; have hfz17_5 := blk_frozen BK1562.out 5; have hcz18_0 : w16.cell? ⟨gb1563, 0, none⟩ = some (.int .i64 a2_0) := (blk_cell BK1563.out 0).trans rfl; have hcz18_1 : w16.cell? ⟨gb1563, 1, none⟩ = some (.int .i64 a2_1) := (blk_cell BK1563.out 1).trans rfl; have hfz18_0 := blk_frozen BK1563.out 0; have hfz18_1 := blk_frozen BK1563.out 1) | ((with_reducible refine gate_callee (f := 64) rfl ?_); refine goesL_ (some 19) rfl rfl Try.func64 (by kernel_rfl) rfl #[.agg #[.int .u8 a0_0, .int .i64 a0_1, .int .i64 a0_2, .int .u64 a0_3, .int .u64 a0_4, .int .u64 a0_5], .agg #[.int .i64 a2_0, .int .i64 a2_1]] rfl (by (try simp only [List.map_toArray, List.map_cons, List.map_nil]); first | done | rfl | (simp only [List.length_drop, List.length_take]; rfl)) ?_; (with_reducible refine (headendref03_IsSubset.calls k a0_0 a0_1 a0_2 a0_3 a0_4 a0_5 a2_0 a2_1 true _ A8.out).mono ?_); rintro e w19 ⟨rfl, hb⟩; refine ⟨_, rfl, ?_⟩; have n0_ := Aside0.mk (blk_below (g := gb1562) (o := .cells #[.int .u8 a0_0, .int .i64 a0_1, .int .i64 a0_2, .int .u64 a0_3, .int .u64 a0_4, .int .u64 a0_5] 45 (0, 0)) (by (with_reducible repeat (first | refine blk_drewN ?_ _ | refine blk_drew ?_ | refine blk_alloc ?_ _)); exact BK1562.out) hb); have n1_ := Aside0.mk (blk_below (g := gb1563) (o := .cells #[.int .i64 a2_0, .int .i64 a2_1] 47 (0, 0)) (by (with_reducible repeat (first | refine blk_drewN ?_ _ | refine blk_drew ?_ | refine blk_alloc ?_ _)); exact BK1563.out) hb); have n2_ := Aside0.mk (below_step (by repeat (first | (with_reducible first | exact HB.out | apply below_alloc | apply pw_below_drewN | apply below_drew1 | refine below_set ?_ GE1562.out | refine below_set ?_ GE1563.out) | exact HB.out)) hb); clear BK1562; clear BK1563; clear HB; have BK1562 := n0_; have BK1563 := n1_; have HB := n2_; clear n0_ n1_ n2_; (try clear hb); (try clear hb2); (try clear hk); (try clear hi)))
    go_loopg [8] k (fun kq v8 w' => ∃ (x8_1 : Int), v8 = .int .i64 x8_1 ∧ Aside0 (headendref03_Knows.l0 kq l1 x8_1 a0_0 a0_1 a0_2 a0_3 a0_4 a0_5 a2_0 a2_1 = some (r1, r2)) ∧ Aside0 (kq ≤ k) ∧ Aside0 (w'.heap[gb1562]? = some (.cells #[.int .u8 a0_0, .int .i64 a0_1, .int .i64 a0_2, .int .u64 a0_3, .int .u64 a0_4, .int .u64 a0_5] 45 (0, 0))) ∧ Aside0 (w'.heap[gb1563]? = some (.cells #[.int .i64 a2_0, .int .i64 a2_1] 47 (0, 0))) ∧ Aside0 (Below w.heap.size w w'))
    case atStart => exact ⟨(0), (by first | rfl | (simp; done) | (simp [*]; done)), H', ⟨Nat.le_refl _⟩, ⟨by (with_reducible repeat (first | refine blk_drewN ?_ _ | refine blk_drew ?_ | refine blk_alloc ?_ _)); exact BK1562.out⟩, ⟨by (with_reducible repeat (first | refine blk_drewN ?_ _ | refine blk_drew ?_ | refine blk_alloc ?_ _)); exact BK1563.out⟩, ⟨by repeat (first | (with_reducible first | exact HB.out | apply below_alloc | apply pw_below_drewN | apply below_drew1 | refine below_set ?_ GE1562.out | refine below_set ?_ GE1563.out) | exact HB.out)⟩⟩
    case round =>
     clear H'
     try clear c1
     try clear p2
     try clear c5
     try clear c6
     try clear c7
     try clear c9
     try clear c12
     try clear hcz13_0
     try clear hcz13_1
     try clear hcz13_2
     try clear hcz13_3
     try clear hcz13_4
     try clear hcz13_5
     try clear hcz15_0
     try clear hcz15_1
     try clear hcz15_2
     try clear hcz15_3
     try clear hcz15_4
     try clear hcz15_5
     try clear hcz17_0
     try clear hcz17_1
     try clear hcz17_2
     try clear hcz17_3
     try clear hcz17_4
     try clear hcz17_5
     try clear hcz18_0
     try clear hcz18_1
     try clear hfz13_0
     try clear hfz13_1
     try clear hfz13_2
     try clear hfz13_3
     try clear hfz13_4
     try clear hfz13_5
     try clear hfz15_0
     try clear hfz15_1
     try clear hfz15_2
     try clear hfz15_3
     try clear hfz15_4
     try clear hfz15_5
     try clear hfz17_0
     try clear hfz17_1
     try clear hfz17_2
     try clear hfz17_3
     try clear hfz17_4
     try clear hfz17_5
     try clear hfz18_0
     try clear hfz18_1
     obtain ⟨x8_1, rfl, HA, HK1, BK1562, BK1563, HB⟩ := hrel
     cases gk with
     | zero => exact absurd HA.out (by simp [headendref03_Knows.l0])
     | succ k1 =>
      have H := HA.out
      clear HA
      simp only [headendref03_Knows.l0] at H
      by_cases c20 : x8_1 < (l1.length : Int)
      ·rw [if_pos c20] at H
       have c20b0 : decide (x8_1 < (l1.length : Int)) = true := decide_eq_true c20
       clear c20
       by_cases c21 : 0 ≤ x8_1
       ·rw [if_pos c21] at H
        have c21b0 : decide (0 ≤ x8_1) = true := decide_eq_true c21
        clear c21
        replace H := Option.bind_eq_some_iff.mp H
        obtain ⟨t1568, A220, H⟩ := H
        replace H : (if t1568 ≥ 0 then (some (true, 0)) else (headendref03_Knows.l0 k1 l1 (wrap64 (x8_1 + 1)) a0_0 a0_1 a0_2 a0_3 a0_4 a0_5 a2_0 a2_1)) = some (r1, r2) := H
        have A22 := Aside0.mk A220
        clear A220
        by_cases c23 : t1568 ≥ 0
        ·rw [if_pos c23] at H
         have c23b0 : decide (0 ≤ t1568) = true := decide_eq_true c23
         clear c23
         simp only [Option.some.injEq, Prod.mk.injEq] at H
         obtain ⟨rfl, rfl⟩ := H
         try go_wp2
         have n0_ := Aside0.mk (blk_drew BK1562.out)
         have n1_ := Aside0.mk (blk_drew BK1563.out)
         have n2_ := Aside0.mk (below_drew1 HB.out)
         clear BK1562
         clear BK1563
         clear HB
         have BK1562 := n0_
         have BK1563 := n1_
         have HB := n2_
         clear n0_ n1_ n2_
         have p1567 : 0 ≤ (x8_1 : Int) := of_decide_eq_true (by first | (with_reducible assumption) | assumption)
         have q1567 : x8_1 < (l1.length : Int) := of_decide_eq_true (by first | (with_reducible assumption) | assumption)
         obtain ⟨ad1567, e1567, hx1567_0⟩ := Kd.at_int HR1.out x8_1 p1567 q1567
         have hw1567_0 := hx1567_0
         cases e1567
         replace hx1567_0 := (HB.out.cell (World.block_lt_of_cell? w _ hx1567_0)).trans hx1567_0
         replace p1567 := eq_true p1567
         replace q1567 := eq_true q1567
         refine start_ (n := 8) (S := fun w' => w'.cell? ⟨gb1562, 0, none⟩ = some (.int .u8 a0_0) ∧ w'.cell? ⟨gb1562, 1, none⟩ = some (.int .i64 a0_1) ∧ w'.cell? ⟨gb1562, 2, none⟩ = some (.int .i64 a0_2) ∧ w'.cell? ⟨gb1562, 3, none⟩ = some (.int .u64 a0_3) ∧ w'.cell? ⟨gb1562, 4, none⟩ = some (.int .u64 a0_4) ∧ w'.cell? ⟨gb1562, 5, none⟩ = some (.int .u64 a0_5) ∧ w'.cell? ⟨gb1563, 0, none⟩ = some (.int .i64 a2_0) ∧ w'.cell? ⟨gb1563, 1, none⟩ = some (.int .i64 a2_1) ∧ w'.cell? (ad1567.add (x8_1).toNat) = some (.int .i64 (rd l1 x8_1))) (ds := []) #[false, false, false, false, false, false, false, false] (by kernel_rfl) rfl rfl ⟨(blk_cell BK1562.out 0).trans rfl, (blk_cell BK1562.out 1).trans rfl, (blk_cell BK1562.out 2).trans rfl, (blk_cell BK1562.out 3).trans rfl, (blk_cell BK1562.out 4).trans rfl, (blk_cell BK1562.out 5).trans rfl, (blk_cell BK1563.out 0).trans rfl, (blk_cell BK1563.out 1).trans rfl, ((HB.out.cell (World.block_lt_of_cell? w _ hw1567_0)).trans hw1567_0)⟩ (fun hHeld => ?_); refine with_tabW headendref03_Knows.tab10 headendref03_Knows.bits10 (fun HT_ HW_ => ?_)
         generalize wr.drew = w24 at BK1562 BK1563 HB hx1567_0 hHeld ⊢
         refine pure_ (i := 1) (N := some 28) (v := ?_) (a' := ?_) #[false, true, false, false, false, false, false, false] rfl rfl (any_of HT_.out (by kernel_rfl)) (fun _ _ _ h => h) (Or.inl ⟨by rfl, ?_⟩) ?_ ?_
         rotate_left
         ·intro w'
          go_simp
          with_reducible rfl
         rotate_left
         ·simp only [Act.put, List.setIfInBounds_toArray, List.set_cons_zero, List.set_cons_succ, i64_w, i32_w]
          rfl
         refine pure_ (i := 2) (N := some 29) (v := ?_) (a' := ?_) #[false, true, true, false, false, false, false, false] rfl rfl (any_of HT_.out (by kernel_rfl)) (fun _ _ _ h => h) (Or.inl ⟨by rfl, ?_⟩) ?_ ?_
         rotate_left
         ·intro w'
          go_simp
          with_reducible rfl
         rotate_left
         ·simp only [Act.put, List.setIfInBounds_toArray, List.set_cons_zero, List.set_cons_succ, i64_w, i32_w]
          rfl
         refine pure_ (i := 3) (N := some 30) (v := ?_) (a' := ?_) #[false, true, true, true, false, false, false, false] rfl rfl (any_of HT_.out (by kernel_rfl)) (fun _ _ _ h => h) (Or.inl ⟨by rfl, ?_⟩) ?_ ?_
         rotate_left
         ·intro w'
          go_simp
          with_reducible rfl
         rotate_left
         ·simp only [Act.put, List.setIfInBounds_toArray, List.set_cons_zero, List.set_cons_succ, i64_w, i32_w]
          rfl
         refine take_ (i := 0) (N := some 27) (v := ?_) (a' := ?_) #[true, true, true, true, false, false, false, false] rfl rfl (take_ofW HT_.out HW_.out (by kernel_rfl)) (fun _ _ _ h => h) (Or.inl ⟨by rfl, ?_⟩) hHeld ?_ ?_
         rotate_left
         ·rintro w' ⟨s0, s1, s2, s3, s4, s5, s6, s7, s8⟩
          go_simp
          with_reducible rfl
         rotate_left
         ·simp only [Act.put, List.setIfInBounds_toArray, List.set_cons_zero, List.set_cons_succ, i64_w, i32_w]
          rfl
         refine take_ (i := 4) (N := some 31) (v := ?_) (a' := ?_) #[true, true, true, true, true, false, false, false] rfl rfl (take_ofW HT_.out HW_.out (by kernel_rfl)) (fun _ _ _ h => h) (Or.inl ⟨by rfl, ?_⟩) hHeld ?_ ?_
         rotate_left
         ·rintro w' ⟨s0, s1, s2, s3, s4, s5, s6, s7, s8⟩
          go_simp
          with_reducible rfl
         rotate_left
         ·simp only [Act.put, List.setIfInBounds_toArray, List.set_cons_zero, List.set_cons_succ, i64_w, i32_w]
          rfl
         refine take_ (i := 5) (N := some 32) (v := ?_) (a' := ?_) #[true, true, true, true, true, true, false, false] rfl rfl (take_ofW HT_.out HW_.out (by kernel_rfl)) (fun _ _ _ h => h) (Or.inl ⟨by rfl, ?_⟩) hHeld ?_ ?_
         rotate_left
         ·rintro w' ⟨s0, s1, s2, s3, s4, s5, s6, s7, s8⟩
          go_simp
          with_reducible rfl
         rotate_left
         ·simp only [Act.put, List.setIfInBounds_toArray, List.set_cons_zero, List.set_cons_succ, i64_w, i32_w]
          rfl
         refine one_ (i := 6) (N := some 33) #[true, true, true, true, true, true, true, false] rfl rfl (one_of HT_.out (by kernel_rfl)) (by decide) (fun K hK => ?_)
         refine goes_ Try.func113 (by kernel_rfl) rfl #[.agg #[.int .u8 a0_0, .int .i64 a0_1, .int .i64 a0_2, .int .u64 a0_3, .int .u64 a0_4, .int .u64 a0_5], .int .i64 (rd l1 x8_1), .agg #[.int .i64 a2_0, .int .i64 a2_1]] (by rfl) rfl rfl (by (try simp only [List.map_toArray, List.map_cons, List.map_nil]); first | done | rfl | (simp only [List.length_drop, List.length_take]; rfl)) ?_
         with_reducible refine (headendref03_Known.calls k1 a0_0 a0_1 a0_2 a0_3 a0_4 a0_5 (rd l1 x8_1) a2_0 a2_1 t1568 _ A22.out).mono ?_
         rintro e w25 ⟨rfl, hb⟩
         refine ⟨_, rfl, ?_⟩
         have n0_ := Aside0.mk (blk_below (g := gb1562) (o := .cells #[.int .u8 a0_0, .int .i64 a0_1, .int .i64 a0_2, .int .u64 a0_3, .int .u64 a0_4, .int .u64 a0_5] 45 (0, 0)) (by (with_reducible repeat (first | refine blk_drewN ?_ _ | refine blk_drew ?_ | refine blk_alloc ?_ _)); exact BK1562.out) hb)
         have n1_ := Aside0.mk (blk_below (g := gb1563) (o := .cells #[.int .i64 a2_0, .int .i64 a2_1] 47 (0, 0)) (by (with_reducible repeat (first | refine blk_drewN ?_ _ | refine blk_drew ?_ | refine blk_alloc ?_ _)); exact BK1563.out) hb)
         have n2_ := Aside0.mk (below_step (by repeat (first | (with_reducible first | exact HB.out | apply below_alloc | apply pw_below_drewN | apply below_drew1 | refine below_set ?_ GE1562.out | refine below_set ?_ GE1563.out) | exact HB.out)) hb)
         clear BK1562
         clear BK1563
         clear HB
         have BK1562 := n0_
         have BK1563 := n1_
         have HB := n2_
         clear n0_ n1_ n2_
         (try clear hb)
         (try clear hb2)
         (try clear hk)
         (try clear hi)
         refine hK.out _ _ ⟨(blk_cell BK1562.out 0).trans rfl, (blk_cell BK1562.out 1).trans rfl, (blk_cell BK1562.out 2).trans rfl, (blk_cell BK1562.out 3).trans rfl, (blk_cell BK1562.out 4).trans rfl, (blk_cell BK1562.out 5).trans rfl, (blk_cell BK1563.out 0).trans rfl, (blk_cell BK1563.out 1).trans rfl, ((HB.out.cell (World.block_lt_of_cell? w _ hw1567_0)).trans hw1567_0)⟩ (fun hHeld => ?_)
         clear hK K
         refine norm_ (a' := ?_) ?_ ?_
         rotate_left
         ·show Act.put _ (some 33) _ = _
          simp only [Act.put, List.setIfInBounds_toArray, List.set_cons_zero, List.set_cons_succ, i64_w, i32_w]
          rfl
         refine pure_ (i := 7) (N := some 34) (v := ?_) (a' := ?_) #[true, true, true, true, true, true, true, true] rfl rfl (any_of HT_.out (by kernel_rfl)) (fun _ _ _ h => h) (Or.inl ⟨by rfl, ?_⟩) ?_ ?_
         rotate_left
         ·intro w'
          go_simp
          with_reducible rfl
         rotate_left
         ·simp only [Act.put, List.setIfInBounds_toArray, List.set_cons_zero, List.set_cons_succ, i64_w, i32_w]
          rfl
         refine done_ (done_of HT_.out (by kernel_rfl)) ?_
         try go_wp2
         go_ret2
         exact ⟨by first | rfl | (simp [errW_none, errW_some] <;> rfl) | (simp [*, errW_none, errW_some] <;> rfl), by repeat (first | (with_reducible first | exact HB.out | apply below_alloc | apply pw_below_drewN | apply below_drew1 | refine below_set ?_ GE1562.out | refine below_set ?_ GE1563.out) | exact HB.out)⟩
        ·rw [if_neg c23] at H
         have c23b0 : decide (0 ≤ t1568) = false := decide_eq_false c23
         clear c23
         have H' := Aside0.mk H
         clear H
         try go_wp2
         have n0_ := Aside0.mk (blk_drew BK1562.out)
         have n1_ := Aside0.mk (blk_drew BK1563.out)
         have n2_ := Aside0.mk (below_drew1 HB.out)
         clear BK1562
         clear BK1563
         clear HB
         have BK1562 := n0_
         have BK1563 := n1_
         have HB := n2_
         clear n0_ n1_ n2_
         have p1567 : 0 ≤ (x8_1 : Int) := of_decide_eq_true (by first | (with_reducible assumption) | assumption)
         have q1567 : x8_1 < (l1.length : Int) := of_decide_eq_true (by first | (with_reducible assumption) | assumption)
         obtain ⟨ad1567, e1567, hx1567_0⟩ := Kd.at_int HR1.out x8_1 p1567 q1567
         have hw1567_0 := hx1567_0
         cases e1567
         replace hx1567_0 := (HB.out.cell (World.block_lt_of_cell? w _ hx1567_0)).trans hx1567_0
         replace p1567 := eq_true p1567
         replace q1567 := eq_true q1567
         refine start_ (n := 8) (S := fun w' => w'.cell? ⟨gb1562, 0, none⟩ = some (.int .u8 a0_0) ∧ w'.cell? ⟨gb1562, 1, none⟩ = some (.int .i64 a0_1) ∧ w'.cell? ⟨gb1562, 2, none⟩ = some (.int .i64 a0_2) ∧ w'.cell? ⟨gb1562, 3, none⟩ = some (.int .u64 a0_3) ∧ w'.cell? ⟨gb1562, 4, none⟩ = some (.int .u64 a0_4) ∧ w'.cell? ⟨gb1562, 5, none⟩ = some (.int .u64 a0_5) ∧ w'.cell? ⟨gb1563, 0, none⟩ = some (.int .i64 a2_0) ∧ w'.cell? ⟨gb1563, 1, none⟩ = some (.int .i64 a2_1) ∧ w'.cell? (ad1567.add (x8_1).toNat) = some (.int .i64 (rd l1 x8_1))) (ds := []) #[false, false, false, false, false, false, false, false] (by kernel_rfl) rfl rfl ⟨(blk_cell BK1562.out 0).trans rfl, (blk_cell BK1562.out 1).trans rfl, (blk_cell BK1562.out 2).trans rfl, (blk_cell BK1562.out 3).trans rfl, (blk_cell BK1562.out 4).trans rfl, (blk_cell BK1562.out 5).trans rfl, (blk_cell BK1563.out 0).trans rfl, (blk_cell BK1563.out 1).trans rfl, ((HB.out.cell (World.block_lt_of_cell? w _ hw1567_0)).trans hw1567_0)⟩ (fun hHeld => ?_); refine with_tabW headendref03_Knows.tab10 headendref03_Knows.bits10 (fun HT_ HW_ => ?_)
         generalize wr.drew = w26 at BK1562 BK1563 HB hx1567_0 hHeld ⊢
         refine pure_ (i := 1) (N := some 28) (v := ?_) (a' := ?_) #[false, true, false, false, false, false, false, false] rfl rfl (any_of HT_.out (by kernel_rfl)) (fun _ _ _ h => h) (Or.inl ⟨by rfl, ?_⟩) ?_ ?_
         rotate_left
         ·intro w'
          go_simp
          with_reducible rfl
         rotate_left
         ·simp only [Act.put, List.setIfInBounds_toArray, List.set_cons_zero, List.set_cons_succ, i64_w, i32_w]
          rfl
         refine pure_ (i := 2) (N := some 29) (v := ?_) (a' := ?_) #[false, true, true, false, false, false, false, false] rfl rfl (any_of HT_.out (by kernel_rfl)) (fun _ _ _ h => h) (Or.inl ⟨by rfl, ?_⟩) ?_ ?_
         rotate_left
         ·intro w'
          go_simp
          with_reducible rfl
         rotate_left
         ·simp only [Act.put, List.setIfInBounds_toArray, List.set_cons_zero, List.set_cons_succ, i64_w, i32_w]
          rfl
         refine pure_ (i := 3) (N := some 30) (v := ?_) (a' := ?_) #[false, true, true, true, false, false, false, false] rfl rfl (any_of HT_.out (by kernel_rfl)) (fun _ _ _ h => h) (Or.inl ⟨by rfl, ?_⟩) ?_ ?_
         rotate_left
         ·intro w'
          go_simp
          with_reducible rfl
         rotate_left
         ·simp only [Act.put, List.setIfInBounds_toArray, List.set_cons_zero, List.set_cons_succ, i64_w, i32_w]
          rfl
         refine take_ (i := 0) (N := some 27) (v := ?_) (a' := ?_) #[true, true, true, true, false, false, false, false] rfl rfl (take_ofW HT_.out HW_.out (by kernel_rfl)) (fun _ _ _ h => h) (Or.inl ⟨by rfl, ?_⟩) hHeld ?_ ?_
         rotate_left
         ·rintro w' ⟨s0, s1, s2, s3, s4, s5, s6, s7, s8⟩
          go_simp
          with_reducible rfl
         rotate_left
         ·simp only [Act.put, List.setIfInBounds_toArray, List.set_cons_zero, List.set_cons_succ, i64_w, i32_w]
          rfl
         refine take_ (i := 4) (N := some 31) (v := ?_) (a' := ?_) #[true, true, true, true, true, false, false, false] rfl rfl (take_ofW HT_.out HW_.out (by kernel_rfl)) (fun _ _ _ h => h) (Or.inl ⟨by rfl, ?_⟩) hHeld ?_ ?_
         rotate_left
         ·rintro w' ⟨s0, s1, s2, s3, s4, s5, s6, s7, s8⟩
          go_simp
          with_reducible rfl
         rotate_left
         ·simp only [Act.put, List.setIfInBounds_toArray, List.set_cons_zero, List.set_cons_succ, i64_w, i32_w]
          rfl
         refine take_ (i := 5) (N := some 32) (v := ?_) (a' := ?_) #[true, true, true, true, true, true, false, false] rfl rfl (take_ofW HT_.out HW_.out (by kernel_rfl)) (fun _ _ _ h => h) (Or.inl ⟨by rfl, ?_⟩) hHeld ?_ ?_
         rotate_left
         ·rintro w' ⟨s0, s1, s2, s3, s4, s5, s6, s7, s8⟩
          go_simp
          with_reducible rfl
         rotate_left
         ·simp only [Act.put, List.setIfInBounds_toArray, List.set_cons_zero, List.set_cons_succ, i64_w, i32_w]
          rfl
         refine one_ (i := 6) (N := some 33) #[true, true, true, true, true, true, true, false] rfl rfl (one_of HT_.out (by kernel_rfl)) (by decide) (fun K hK => ?_)
         refine goes_ Try.func113 (by kernel_rfl) rfl #[.agg #[.int .u8 a0_0, .int .i64 a0_1, .int .i64 a0_2, .int .u64 a0_3, .int .u64 a0_4, .int .u64 a0_5], .int .i64 (rd l1 x8_1), .agg #[.int .i64 a2_0, .int .i64 a2_1]] (by rfl) rfl rfl (by (try simp only [List.map_toArray, List.map_cons, List.map_nil]); first | done | rfl | (simp only [List.length_drop, List.length_take]; rfl)) ?_
         with_reducible refine (headendref03_Known.calls k1 a0_0 a0_1 a0_2 a0_3 a0_4 a0_5 (rd l1 x8_1) a2_0 a2_1 t1568 _ A22.out).mono ?_
         rintro e w27 ⟨rfl, hb⟩
         refine ⟨_, rfl, ?_⟩
         have n0_ := Aside0.mk (blk_below (g := gb1562) (o := .cells #[.int .u8 a0_0, .int .i64 a0_1, .int .i64 a0_2, .int .u64 a0_3, .int .u64 a0_4, .int .u64 a0_5] 45 (0, 0)) (by (with_reducible repeat (first | refine blk_drewN ?_ _ | refine blk_drew ?_ | refine blk_alloc ?_ _)); exact BK1562.out) hb)
         have n1_ := Aside0.mk (blk_below (g := gb1563) (o := .cells #[.int .i64 a2_0, .int .i64 a2_1] 47 (0, 0)) (by (with_reducible repeat (first | refine blk_drewN ?_ _ | refine blk_drew ?_ | refine blk_alloc ?_ _)); exact BK1563.out) hb)
         have n2_ := Aside0.mk (below_step (by repeat (first | (with_reducible first | exact HB.out | apply below_alloc | apply pw_below_drewN | apply below_drew1 | refine below_set ?_ GE1562.out | refine below_set ?_ GE1563.out) | exact HB.out)) hb)
         clear BK1562
         clear BK1563
         clear HB
         have BK1562 := n0_
         have BK1563 := n1_
         have HB := n2_
         clear n0_ n1_ n2_
         (try clear hb)
         (try clear hb2)
         (try clear hk)
         (try clear hi)
         refine hK.out _ _ ⟨(blk_cell BK1562.out 0).trans rfl, (blk_cell BK1562.out 1).trans rfl, (blk_cell BK1562.out 2).trans rfl, (blk_cell BK1562.out 3).trans rfl, (blk_cell BK1562.out 4).trans rfl, (blk_cell BK1562.out 5).trans rfl, (blk_cell BK1563.out 0).trans rfl, (blk_cell BK1563.out 1).trans rfl, ((HB.out.cell (World.block_lt_of_cell? w _ hw1567_0)).trans hw1567_0)⟩ (fun hHeld => ?_)
         clear hK K
         refine norm_ (a' := ?_) ?_ ?_
         rotate_left
         ·show Act.put _ (some 33) _ = _
          simp only [Act.put, List.setIfInBounds_toArray, List.set_cons_zero, List.set_cons_succ, i64_w, i32_w]
          rfl
         refine pure_ (i := 7) (N := some 34) (v := ?_) (a' := ?_) #[true, true, true, true, true, true, true, true] rfl rfl (any_of HT_.out (by kernel_rfl)) (fun _ _ _ h => h) (Or.inl ⟨by rfl, ?_⟩) ?_ ?_
         rotate_left
         ·intro w'
          go_simp
          with_reducible rfl
         rotate_left
         ·simp only [Act.put, List.setIfInBounds_toArray, List.set_cons_zero, List.set_cons_succ, i64_w, i32_w]
          rfl
         refine done_ (done_of HT_.out (by kernel_rfl)) ?_
         try go_wp2
         go_roundg k1
         case measure => have := HK1.out; omega
         case rel => exact ⟨(wrap64 (x8_1 + 1)), (by first | rfl | (simp; done) | (simp [*]; done)), H', ⟨by have := HK1.out; omega⟩, ⟨by (with_reducible repeat (first | refine blk_drewN ?_ _ | refine blk_drew ?_ | refine blk_alloc ?_ _)); exact BK1562.out⟩, ⟨by (with_reducible repeat (first | refine blk_drewN ?_ _ | refine blk_drew ?_ | refine blk_alloc ?_ _)); exact BK1563.out⟩, ⟨by repeat (first | (with_reducible first | exact HB.out | apply below_alloc | apply pw_below_drewN | apply below_drew1 | refine below_set ?_ GE1562.out | refine below_set ?_ GE1563.out) | exact HB.out)⟩⟩
       ·rw [if_neg c21] at H
        exact absurd H (by simp)
      ·rw [if_neg c20] at H
       have c20b0 : decide (x8_1 < (l1.length : Int)) = false := decide_eq_false c20
       clear c20
       simp only [Option.some.injEq, Prod.mk.injEq] at H
       obtain ⟨rfl, rfl⟩ := H
       go_wp2
       go_ret2
       exact ⟨by first | rfl | (simp [errW_none, errW_some] <;> rfl) | (simp [*, errW_none, errW_some] <;> rfl), by repeat (first | (with_reducible first | exact HB.out | apply below_alloc | apply pw_below_drewN | apply below_drew1 | refine below_set ?_ GE1562.out | refine below_set ?_ GE1563.out) | exact HB.out)⟩
   ·replace c9 := Bool.eq_false_iff.mpr c9
    subst c9
    have H1 : (some (false, 31)) = some (r1, r2) := by rw [if_neg (show ¬ (false = true) by decide)] at H; exact H
    clear H
    have H := H1
    clear H1
    simp only [Option.some.injEq, Prod.mk.injEq] at H
    obtain ⟨rfl, rfl⟩ := H
    go_enter Try.func58, Try.ntmps58
    go_wp2_with (first | ((with_reducible refine gate_dst (N := 3) rfl ?_); refine box_event ?hg (N := 3) ?hd (cs := #[.int .u8 a0_0, .int .i64 a0_1, .int .i64 a0_2, .int .u64 a0_3, .int .u64 a0_4, .int .u64 a0_5]) (t := 45) ?hr ?_; (case hd => rfl); (case hg => rfl); (case hr => first | (go_simp; done) | (go_simp; rfl)); intro gb1562 hg w28 hbox hb; have n0_ := Aside0.mk (below_step (by repeat (first | (with_reducible first | exact HB.out | apply below_alloc | apply pw_below_drewN | apply below_drew1) | exact HB.out)) hb); have n1_ := Aside0.mk (hbox); have n2_ := Aside0.mk ((by rw [hg]; exact (below_size (by repeat (first | (with_reducible first | exact HB.out | apply below_alloc | apply pw_below_drewN | apply below_drew1) | exact HB.out))) : w.heap.size ≤ gb1562)); have n3_ := Aside0.mk ((by rw [hg]; exact (below_size (by repeat (first | (with_reducible first | exact HB.out | apply below_alloc | apply pw_below_drewN | apply below_drew1) | exact HB.out))) : w.heap.size ≤ gb1562)); clear HB; have HB := n0_; have BK1562 := n1_; have GW1562 := n2_; have GE1562 := n3_; clear n0_ n1_ n2_ n3_; clear hb hbox hg) | ((with_reducible refine gate_dst (N := 5) rfl ?_); refine box_event ?hg (N := 5) ?hd (cs := #[.int .i64 a2_0, .int .i64 a2_1]) (t := 47) ?hr ?_; (case hd => rfl); (case hg => rfl); (case hr => first | (go_simp; done) | (go_simp; rfl)); intro gb1563 hg w29 hbox hb; have n0_ := Aside0.mk (blk_below (g := gb1562) (o := .cells #[.int .u8 a0_0, .int .i64 a0_1, .int .i64 a0_2, .int .u64 a0_3, .int .u64 a0_4, .int .u64 a0_5] 45 (0, 0)) (by (with_reducible repeat (first | refine blk_drewN ?_ _ | refine blk_drew ?_ | refine blk_alloc ?_ _)); exact BK1562.out) hb); have n1_ := Aside0.mk (below_step (by repeat (first | (with_reducible first | exact HB.out | apply below_alloc | apply pw_below_drewN | apply below_drew1 | refine below_set ?_ GE1562.out) | exact HB.out)) hb); have n2_ := Aside0.mk (hbox); have n3_ := Aside0.mk ((by rw [hg]; exact (below_size (by repeat (first | (with_reducible first | exact HB.out | apply below_alloc | apply pw_below_drewN | apply below_drew1 | refine below_set ?_ GE1562.out) | exact HB.out))) : w.heap.size ≤ gb1563)); have n4_ := Aside0.mk ((by rw [hg]; exact (below_size (by repeat (first | (with_reducible first | exact HB.out | apply below_alloc | apply pw_below_drewN | apply below_drew1 | refine below_set ?_ GE1562.out) | exact HB.out))) : w.heap.size ≤ gb1563)); have n5_ := Aside0.mk ((by rw [hg]; exact Nat.ne_of_lt (blk_lt (g := gb1562) (o := .cells #[.int .u8 a0_0, .int .i64 a0_1, .int .i64 a0_2, .int .u64 a0_3, .int .u64 a0_4, .int .u64 a0_5] 45 (0, 0)) (by (with_reducible repeat (first | refine blk_drewN ?_ _ | refine blk_drew ?_ | refine blk_alloc ?_ _)); exact BK1562.out)) : gb1562 ≠ gb1563)); have n6_ := Aside0.mk ((by rw [hg]; exact Nat.ne_of_gt (blk_lt (g := gb1562) (o := .cells #[.int .u8 a0_0, .int .i64 a0_1, .int .i64 a0_2, .int .u64 a0_3, .int .u64 a0_4, .int .u64 a0_5] 45 (0, 0)) (by (with_reducible repeat (first | refine blk_drewN ?_ _ | refine blk_drew ?_ | refine blk_alloc ?_ _)); exact BK1562.out)) : gb1563 ≠ gb1562)); clear BK1562; clear HB; have BK1562 := n0_; have HB := n1_; have BK1563 := n2_; have GW1563 := n3_; have GE1563 := n4_; have NB1562_1563 := n5_; have NB1563_1562 := n6_; clear n0_ n1_ n2_ n3_ n4_ n5_ n6_; clear hb hbox hg; have hnb30 := NB1562_1563.out; have hnc30 := NB1563_1562.out; have hcz31_0 : w29.cell? ⟨gb1562, 0, none⟩ = some (.int .u8 a0_0) := (blk_cell BK1562.out 0).trans rfl; have hcz31_1 : w29.cell? ⟨gb1562, 1, none⟩ = some (.int .i64 a0_1) := (blk_cell BK1562.out 1).trans rfl; have hcz31_2 : w29.cell? ⟨gb1562, 2, none⟩ = some (.int .i64 a0_2) := (blk_cell BK1562.out 2).trans rfl; have hcz31_3 : w29.cell? ⟨gb1562, 3, none⟩ = some (.int .u64 a0_3) := (blk_cell BK1562.out 3).trans rfl; have hcz31_4 : w29.cell? ⟨gb1562, 4, none⟩ = some (.int .u64 a0_4) := (blk_cell BK1562.out 4).trans rfl; have hcz31_5 : w29.cell? ⟨gb1562, 5, none⟩ = some (.int .u64 a0_5) := (blk_cell BK1562.out 5).trans rfl; have hfz31_0 := blk_frozen BK1562.out 0; have hfz31_1 := blk_frozen BK1562.out 1; have hfz31_2 := blk_frozen BK1562.out 2; have hfz31_3 := blk_frozen BK1562.out 3; have hfz31_4 := blk_frozen BK1562.out 4; have hfz31_5 := blk_frozen BK1562.out 5) | ((with_reducible refine gate_callee (f := 61) rfl ?_); refine goesL_ (some 10) rfl rfl Try.func61 (by kernel_rfl) rfl #[.agg #[.int .u8 a0_0, .int .i64 a0_1, .int .i64 a0_2, .int .u64 a0_3, .int .u64 a0_4, .int .u64 a0_5]] rfl (by (try simp only [List.map_toArray, List.map_cons, List.map_nil]); first | done | rfl | (simp only [List.length_drop, List.length_take]; rfl)) ?_; (with_reducible refine (headendref03_Valid.calls a0_0 a0_1 a0_2 a0_3 a0_4 a0_5 true _ A4.out).mono ?_); rintro e w32 ⟨rfl, hb⟩; refine ⟨_, rfl, ?_⟩; have n0_ := Aside0.mk (blk_below (g := gb1562) (o := .cells #[.int .u8 a0_0, .int .i64 a0_1, .int .i64 a0_2, .int .u64 a0_3, .int .u64 a0_4, .int .u64 a0_5] 45 (0, 0)) (by (with_reducible repeat (first | refine blk_drewN ?_ _ | refine blk_drew ?_ | refine blk_alloc ?_ _)); exact BK1562.out) hb); have n1_ := Aside0.mk (blk_below (g := gb1563) (o := .cells #[.int .i64 a2_0, .int .i64 a2_1] 47 (0, 0)) (by (with_reducible repeat (first | refine blk_drewN ?_ _ | refine blk_drew ?_ | refine blk_alloc ?_ _)); exact BK1563.out) hb); have n2_ := Aside0.mk (below_step (by repeat (first | (with_reducible first | exact HB.out | apply below_alloc | apply pw_below_drewN | apply below_drew1 | refine below_set ?_ GE1562.out | refine below_set ?_ GE1563.out) | exact HB.out)) hb); clear BK1562; clear BK1563; clear HB; have BK1562 := n0_; have BK1563 := n1_; have HB := n2_; clear n0_ n1_ n2_; (try clear hb); (try clear hb2); (try clear hk); (try clear hi); have hcz33_0 : w32.cell? ⟨gb1562, 0, none⟩ = some (.int .u8 a0_0) := (blk_cell BK1562.out 0).trans rfl; have hcz33_1 : w32.cell? ⟨gb1562, 1, none⟩ = some (.int .i64 a0_1) := (blk_cell BK1562.out 1).trans rfl; have hcz33_2 : w32.cell? ⟨gb1562, 2, none⟩ = some (.int .i64 a0_2) := (blk_cell BK1562.out 2).trans rfl; have hcz33_3 : w32.cell? ⟨gb1562, 3, none⟩ = some (.int .u64 a0_3) := (blk_cell BK1562.out 3).trans rfl; have hcz33_4 : w32.cell? ⟨gb1562, 4, none⟩ = some (.int .u64 a0_4) := (blk_cell BK1562.out 4).trans rfl; have hcz33_5 : w32.cell? ⟨gb1562, 5, none⟩ = some (.int .u64 a0_5) := (blk_cell BK1562.out 5).trans rfl; have hfz33_0 := blk_frozen BK1562.out 0; have hfz33_1 := blk_frozen BK1562.out 1; have hfz33_2 := blk_frozen BK1562.out 2; have hfz33_3 := blk_frozen BK1562.out 3; have hfz33_4 := blk_frozen BK1562.out 4; have hfz33_5 := blk_frozen BK1562.out 5) | ((with_reducible refine gate_callee (f := 60) rfl ?_); refine goesL_ (some 15) rfl rfl Try.func60 (by kernel_rfl) rfl #[.int .i64 a0_1, .slice A1 l1.length c1] rfl (by (try simp only [List.map_toArray, List.map_cons, List.map_nil]); first | done | rfl | (simp only [List.length_drop, List.length_take]; rfl)) ?_; (with_reducible refine (headendref03_IsList.calls k a0_1 _ _ l1 true _ ?side1 ?side2 A6.out).mono ?_); (case side1 => repeat (first | exact (Kd.C_below HR1.out HB.out) | (with_reducible refine Kd.C_alloc ?_ _) | (with_reducible refine Kd.C_drewN ?_ _) | (with_reducible refine Kd.C_drew ?_))); (case side2 => exact HC1.out); rintro e w34 ⟨rfl, hb⟩; refine ⟨_, rfl, ?_⟩; have n0_ := Aside0.mk (blk_below (g := gb1562) (o := .cells #[.int .u8 a0_0, .int .i64 a0_1, .int .i64 a0_2, .int .u64 a0_3, .int .u64 a0_4, .int .u64 a0_5] 45 (0, 0)) (by (with_reducible repeat (first | refine blk_drewN ?_ _ | refine blk_drew ?_ | refine blk_alloc ?_ _)); exact BK1562.out) hb); have n1_ := Aside0.mk (blk_below (g := gb1563) (o := .cells #[.int .i64 a2_0, .int .i64 a2_1] 47 (0, 0)) (by (with_reducible repeat (first | refine blk_drewN ?_ _ | refine blk_drew ?_ | refine blk_alloc ?_ _)); exact BK1563.out) hb); have n2_ := Aside0.mk (below_step (by repeat (first | (with_reducible first | exact HB.out | apply below_alloc | apply pw_below_drewN | apply below_drew1 | refine below_set ?_ GE1562.out | refine below_set ?_ GE1563.out) | exact HB.out)) hb); clear BK1562; clear BK1563; clear HB; have BK1562 := n0_; have BK1563 := n1_; have HB := n2_; clear n0_ n1_ n2_; (try clear hb); (try clear hb2); (try clear hk); (try clear hi); have hcz35_0 : w34.cell? ⟨gb1562, 0, none⟩ = some (.int .u8 a0_0) := (blk_cell BK1562.out 0).trans rfl; have hcz35_1 : w34.cell? ⟨gb1562, 1, none⟩ = some (.int .i64 a0_1) := (blk_cell BK1562.out 1).trans rfl; have hcz35_2 : w34.cell? ⟨gb1562, 2, none⟩ = some (.int .i64 a0_2) := (blk_cell BK1562.out 2).trans rfl; have hcz35_3 : w34.cell? ⟨gb1562, 3, none⟩ = some (.int .u64 a0_3) := (blk_cell BK1562.out 3).trans rfl; have hcz35_4 : w34.cell? ⟨gb1562, 4, none⟩ = some (.int .u64 a0_4) := (blk_cell BK1562.out 4).trans rfl; have hcz35_5 : w34.cell? ⟨gb1562, 5, none⟩ = some (.int .u64 a0_5) := (blk_cell BK1562.out 5).trans rfl; have hfz35_0 := blk_frozen BK1562.out 0; have hfz35_1 := blk_frozen BK1562.out 1; have hfz35_2 := blk_frozen BK1562.out 2; have hfz35_3 := blk_frozen BK1562.out 3; have hfz35_4 := blk_frozen BK1562.out 4; have hfz35_5 := blk_frozen BK1562.out 5; have hcz36_0 : w34.cell? ⟨gb1563, 0, none⟩ = some (.int .i64 a2_0) := (blk_cell BK1563.out 0).trans rfl; have hcz36_1 : w34.cell? ⟨gb1563, 1, none⟩ = some (.int .i64 a2_1) := (blk_cell BK1563.out 1).trans rfl; have hfz36_0 := blk_frozen BK1563.out 0; have hfz36_1 := blk_frozen BK1563.out 1) | ((with_reducible refine gate_callee (f := 64) rfl ?_); refine goesL_ (some 19) rfl rfl Try.func64 (by kernel_rfl) rfl #[.agg #[.int .u8 a0_0, .int .i64 a0_1, .int .i64 a0_2, .int .u64 a0_3, .int .u64 a0_4, .int .u64 a0_5], .agg #[.int .i64 a2_0, .int .i64 a2_1]] rfl (by (try simp only [List.map_toArray, List.map_cons, List.map_nil]); first | done | rfl | (simp only [List.length_drop, List.length_take]; rfl)) ?_; (with_reducible refine (headendref03_IsSubset.calls k a0_0 a0_1 a0_2 a0_3 a0_4 a0_5 a2_0 a2_1 false _ A8.out).mono ?_); rintro e w37 ⟨rfl, hb⟩; refine ⟨_, rfl, ?_⟩; have n0_ := Aside0.mk (blk_below (g := gb1562) (o := .cells #[.int .u8 a0_0, .int .i64 a0_1, .int .i64 a0_2, .int .u64 a0_3, .int .u64 a0_4, .int .u64 a0_5] 45 (0, 0)) (by (with_reducible repeat (first | refine blk_drewN ?_ _ | refine blk_drew ?_ | refine blk_alloc ?_ _)); exact BK1562.out) hb); have n1_ := Aside0.mk (blk_below (g := gb1563) (o := .cells #[.int .i64 a2_0, .int .i64 a2_1] 47 (0, 0)) (by (with_reducible repeat (first | refine blk_drewN ?_ _ | refine blk_drew ?_ | refine blk_alloc ?_ _)); exact BK1563.out) hb); have n2_ := Aside0.mk (below_step (by repeat (first | (with_reducible first | exact HB.out | apply below_alloc | apply pw_below_drewN | apply below_drew1 | refine below_set ?_ GE1562.out | refine below_set ?_ GE1563.out) | exact HB.out)) hb); clear BK1562; clear BK1563; clear HB; have BK1562 := n0_; have BK1563 := n1_; have HB := n2_; clear n0_ n1_ n2_; (try clear hb); (try clear hb2); (try clear hk); (try clear hi)))
    go_ret2
    exact ⟨by first | rfl | (simp [errW_none, errW_some] <;> rfl) | (simp [*, errW_none, errW_some] <;> rfl), by repeat (first | (with_reducible first | exact HB.out | apply below_alloc | apply pw_below_drewN | apply below_drew1 | refine below_set ?_ GE1562.out | refine below_set ?_ GE1563.out) | exact HB.out)⟩
  ·replace c7 := Bool.eq_false_iff.mpr c7
   subst c7
   have H1 : (some (false, 2)) = some (r1, r2) := by rw [if_neg (show ¬ (false = true) by decide)] at H; exact H
   clear H
   have H := H1
   clear H1
   simp only [Option.some.injEq, Prod.mk.injEq] at H
   obtain ⟨rfl, rfl⟩ := H
   go_enter Try.func58, Try.ntmps58
   go_wp2_with (first | ((with_reducible refine gate_dst (N := 3) rfl ?_); refine box_event ?hg (N := 3) ?hd (cs := #[.int .u8 a0_0, .int .i64 a0_1, .int .i64 a0_2, .int .u64 a0_3, .int .u64 a0_4, .int .u64 a0_5]) (t := 45) ?hr ?_; (case hd => rfl); (case hg => rfl); (case hr => first | (go_simp; done) | (go_simp; rfl)); intro gb1562 hg w38 hbox hb; have n0_ := Aside0.mk (below_step (by repeat (first | (with_reducible first | exact HB.out | apply below_alloc | apply pw_below_drewN | apply below_drew1) | exact HB.out)) hb); have n1_ := Aside0.mk (hbox); have n2_ := Aside0.mk ((by rw [hg]; exact (below_size (by repeat (first | (with_reducible first | exact HB.out | apply below_alloc | apply pw_below_drewN | apply below_drew1) | exact HB.out))) : w.heap.size ≤ gb1562)); have n3_ := Aside0.mk ((by rw [hg]; exact (below_size (by repeat (first | (with_reducible first | exact HB.out | apply below_alloc | apply pw_below_drewN | apply below_drew1) | exact HB.out))) : w.heap.size ≤ gb1562)); clear HB; have HB := n0_; have BK1562 := n1_; have GW1562 := n2_; have GE1562 := n3_; clear n0_ n1_ n2_ n3_; clear hb hbox hg) | ((with_reducible refine gate_dst (N := 5) rfl ?_); refine box_event ?hg (N := 5) ?hd (cs := #[.int .i64 a2_0, .int .i64 a2_1]) (t := 47) ?hr ?_; (case hd => rfl); (case hg => rfl); (case hr => first | (go_simp; done) | (go_simp; rfl)); intro gb1563 hg w39 hbox hb; have n0_ := Aside0.mk (blk_below (g := gb1562) (o := .cells #[.int .u8 a0_0, .int .i64 a0_1, .int .i64 a0_2, .int .u64 a0_3, .int .u64 a0_4, .int .u64 a0_5] 45 (0, 0)) (by (with_reducible repeat (first | refine blk_drewN ?_ _ | refine blk_drew ?_ | refine blk_alloc ?_ _)); exact BK1562.out) hb); have n1_ := Aside0.mk (below_step (by repeat (first | (with_reducible first | exact HB.out | apply below_alloc | apply pw_below_drewN | apply below_drew1 | refine below_set ?_ GE1562.out) | exact HB.out)) hb); have n2_ := Aside0.mk (hbox); have n3_ := Aside0.mk ((by rw [hg]; exact (below_size (by repeat (first | (with_reducible first | exact HB.out | apply below_alloc | apply pw_below_drewN | apply below_drew1 | refine below_set ?_ GE1562.out) | exact HB.out))) : w.heap.size ≤ gb1563)); have n4_ := Aside0.mk ((by rw [hg]; exact (below_size (by repeat (first | (with_reducible first | exact HB.out | apply below_alloc | apply pw_below_drewN | apply below_drew1 | refine below_set ?_ GE1562.out) | exact HB.out))) : w.heap.size ≤ gb1563)); have n5_ := Aside0.mk ((by rw [hg]; exact Nat.ne_of_lt (blk_lt (g := gb1562) (o := .cells #[.int .u8 a0_0, .int .i64 a0_1, .int .i64 a0_2, .int .u64 a0_3, .int .u64 a0_4, .int .u64 a0_5] 45 (0, 0)) (by (with_reducible repeat (first | refine blk_drewN ?_ _ | refine blk_drew ?_ | refine blk_alloc ?_ _)); exact BK1562.out)) : gb1562 ≠ gb1563)); have n6_ := Aside0.mk ((by rw [hg]; exact Nat.ne_of_gt (blk_lt (g := gb1562) (o := .cells #[.int .u8 a0_0, .int .i64 a0_1, .int .i64 a0_2, .int .u64 a0_3, .int .u64 a0_4, .int .u64 a0_5] 45 (0, 0)) (by (with_reducible repeat (first | refine blk_drewN ?_ _ | refine blk_drew ?_ | refine blk_alloc ?_ _)); exact BK1562.out)) : gb1563 ≠ gb1562)); clear BK1562; clear HB; have BK1562 := n0_; have HB := n1_; have BK1563 := n2_; have GW1563 := n3_; have GE1563 := n4_; have NB1562_1563 := n5_; have NB1563_1562 := n6_; clear n0_ n1_ n2_ n3_ n4_ n5_ n6_; clear hb hbox hg; have hnb40 := NB1562_1563.out; have hnc40 := NB1563_1562.out; have hcz41_0 : w39.cell? ⟨gb1562, 0, none⟩ = some (.int .u8 a0_0) := (blk_cell BK1562.out 0).trans rfl; have hcz41_1 : w39.cell? ⟨gb1562, 1, none⟩ = some (.int .i64 a0_1) := (blk_cell BK1562.out 1).trans rfl; have hcz41_2 : w39.cell? ⟨gb1562, 2, none⟩ = some (.int .i64 a0_2) := (blk_cell BK1562.out 2).trans rfl; have hcz41_3 : w39.cell? ⟨gb1562, 3, none⟩ = some (.int .u64 a0_3) := (blk_cell BK1562.out 3).trans rfl; have hcz41_4 : w39.cell? ⟨gb1562, 4, none⟩ = some (.int .u64 a0_4) := (blk_cell BK1562.out 4).trans rfl; have hcz41_5 : w39.cell? ⟨gb1562, 5, none⟩ = some (.int .u64 a0_5) := (blk_cell BK1562.out 5).trans rfl; have hfz41_0 := blk_frozen BK1562.out 0; have hfz41_1 := blk_frozen BK1562.out 1; have hfz41_2 := blk_frozen BK1562.out 2; have hfz41_3 := blk_frozen BK1562.out 3; have hfz41_4 := blk_frozen BK1562.out 4; have hfz41_5 := blk_frozen BK1562.out 5) | ((with_reducible refine gate_callee (f := 61) rfl ?_); refine goesL_ (some 10) rfl rfl Try.func61 (by kernel_rfl) rfl #[.agg #[.int .u8 a0_0, .int .i64 a0_1, .int .i64 a0_2, .int .u64 a0_3, .int .u64 a0_4, .int .u64 a0_5]] rfl (by (try simp only [List.map_toArray, List.map_cons, List.map_nil]); first | done | rfl | (simp only [List.length_drop, List.length_take]; rfl)) ?_; (with_reducible refine (headendref03_Valid.calls a0_0 a0_1 a0_2 a0_3 a0_4 a0_5 true _ A4.out).mono ?_); rintro e w42 ⟨rfl, hb⟩; refine ⟨_, rfl, ?_⟩; have n0_ := Aside0.mk (blk_below (g := gb1562) (o := .cells #[.int .u8 a0_0, .int .i64 a0_1, .int .i64 a0_2, .int .u64 a0_3, .int .u64 a0_4, .int .u64 a0_5] 45 (0, 0)) (by (with_reducible repeat (first | refine blk_drewN ?_ _ | refine blk_drew ?_ | refine blk_alloc ?_ _)); exact BK1562.out) hb); have n1_ := Aside0.mk (blk_below (g := gb1563) (o := .cells #[.int .i64 a2_0, .int .i64 a2_1] 47 (0, 0)) (by (with_reducible repeat (first | refine blk_drewN ?_ _ | refine blk_drew ?_ | refine blk_alloc ?_ _)); exact BK1563.out) hb); have n2_ := Aside0.mk (below_step (by repeat (first | (with_reducible first | exact HB.out | apply below_alloc | apply pw_below_drewN | apply below_drew1 | refine below_set ?_ GE1562.out | refine below_set ?_ GE1563.out) | exact HB.out)) hb); clear BK1562; clear BK1563; clear HB; have BK1562 := n0_; have BK1563 := n1_; have HB := n2_; clear n0_ n1_ n2_; (try clear hb); (try clear hb2); (try clear hk); (try clear hi); have hcz43_0 : w42.cell? ⟨gb1562, 0, none⟩ = some (.int .u8 a0_0) := (blk_cell BK1562.out 0).trans rfl; have hcz43_1 : w42.cell? ⟨gb1562, 1, none⟩ = some (.int .i64 a0_1) := (blk_cell BK1562.out 1).trans rfl; have hcz43_2 : w42.cell? ⟨gb1562, 2, none⟩ = some (.int .i64 a0_2) := (blk_cell BK1562.out 2).trans rfl; have hcz43_3 : w42.cell? ⟨gb1562, 3, none⟩ = some (.int .u64 a0_3) := (blk_cell BK1562.out 3).trans rfl; have hcz43_4 : w42.cell? ⟨gb1562, 4, none⟩ = some (.int .u64 a0_4) := (blk_cell BK1562.out 4).trans rfl; have hcz43_5 : w42.cell? ⟨gb1562, 5, none⟩ = some (.int .u64 a0_5) := (blk_cell BK1562.out 5).trans rfl; have hfz43_0 := blk_frozen BK1562.out 0; have hfz43_1 := blk_frozen BK1562.out 1; have hfz43_2 := blk_frozen BK1562.out 2; have hfz43_3 := blk_frozen BK1562.out 3; have hfz43_4 := blk_frozen BK1562.out 4; have hfz43_5 := blk_frozen BK1562.out 5) | ((with_reducible refine gate_callee (f := 60) rfl ?_); refine goesL_ (some 15) rfl rfl Try.func60 (by kernel_rfl) rfl #[.int .i64 a0_1, .slice A1 l1.length c1] rfl (by (try simp only [List.map_toArray, List.map_cons, List.map_nil]); first | done | rfl | (simp only [List.length_drop, List.length_take]; rfl)) ?_; (with_reducible refine (headendref03_IsList.calls k a0_1 _ _ l1 false _ ?side1 ?side2 A6.out).mono ?_); (case side1 => repeat (first | exact (Kd.C_below HR1.out HB.out) | (with_reducible refine Kd.C_alloc ?_ _) | (with_reducible refine Kd.C_drewN ?_ _) | (with_reducible refine Kd.C_drew ?_))); (case side2 => exact HC1.out); rintro e w44 ⟨rfl, hb⟩; refine ⟨_, rfl, ?_⟩; have n0_ := Aside0.mk (blk_below (g := gb1562) (o := .cells #[.int .u8 a0_0, .int .i64 a0_1, .int .i64 a0_2, .int .u64 a0_3, .int .u64 a0_4, .int .u64 a0_5] 45 (0, 0)) (by (with_reducible repeat (first | refine blk_drewN ?_ _ | refine blk_drew ?_ | refine blk_alloc ?_ _)); exact BK1562.out) hb); have n1_ := Aside0.mk (blk_below (g := gb1563) (o := .cells #[.int .i64 a2_0, .int .i64 a2_1] 47 (0, 0)) (by (with_reducible repeat (first | refine blk_drewN ?_ _ | refine blk_drew ?_ | refine blk_alloc ?_ _)); exact BK1563.out) hb); have n2_ := Aside0.mk (below_step (by repeat (first | (with_reducible first | exact HB.out | apply below_alloc | apply pw_below_drewN | apply below_drew1 | refine below_set ?_ GE1562.out | refine below_set ?_ GE1563.out) | exact HB.out)) hb); clear BK1562; clear BK1563; clear HB; have BK1562 := n0_; have BK1563 := n1_; have HB := n2_; clear n0_ n1_ n2_; (try clear hb); (try clear hb2); (try clear hk); (try clear hi)))
   go_ret2
   exact ⟨by first | rfl | (simp [errW_none, errW_some] <;> rfl) | (simp [*, errW_none, errW_some] <;> rfl), by repeat (first | (with_reducible first | exact HB.out | apply below_alloc | apply pw_below_drewN | apply below_drew1 | refine below_set ?_ GE1562.out | refine below_set ?_ GE1563.out) | exact HB.out)⟩
 ·replace c5 := Bool.eq_false_iff.mpr c5
  subst c5
  have H1 : (some (false, 30)) = some (r1, r2) := by rw [if_neg (show ¬ (false = true) by decide)] at H; exact H
  clear H
  have H := H1
  clear H1
  simp only [Option.some.injEq, Prod.mk.injEq] at H
  obtain ⟨rfl, rfl⟩ := H
  go_enter Try.func58, Try.ntmps58
  go_wp2_with (first | ((with_reducible refine gate_dst (N := 3) rfl ?_); refine box_event ?hg (N := 3) ?hd (cs := #[.int .u8 a0_0, .int .i64 a0_1, .int .i64 a0_2, .int .u64 a0_3, .int .u64 a0_4, .int .u64 a0_5]) (t := 45) ?hr ?_; (case hd => rfl); (case hg => rfl); (case hr => first | (go_simp; done) | (go_simp; rfl)); intro gb1562 hg w45 hbox hb; have n0_ := Aside0.mk (below_step (by repeat (first | (with_reducible first | exact HB.out | apply below_alloc | apply pw_below_drewN | apply below_drew1) | exact HB.out)) hb); have n1_ := Aside0.mk (hbox); have n2_ := Aside0.mk ((by rw [hg]; exact (below_size (by repeat (first | (with_reducible first | exact HB.out | apply below_alloc | apply pw_below_drewN | apply below_drew1) | exact HB.out))) : w.heap.size ≤ gb1562)); have n3_ := Aside0.mk ((by rw [hg]; exact (below_size (by repeat (first | (with_reducible first | exact HB.out | apply below_alloc | apply pw_below_drewN | apply below_drew1) | exact HB.out))) : w.heap.size ≤ gb1562)); clear HB; have HB := n0_; have BK1562 := n1_; have GW1562 := n2_; have GE1562 := n3_; clear n0_ n1_ n2_ n3_; clear hb hbox hg) | ((with_reducible refine gate_dst (N := 5) rfl ?_); refine box_event ?hg (N := 5) ?hd (cs := #[.int .i64 a2_0, .int .i64 a2_1]) (t := 47) ?hr ?_; (case hd => rfl); (case hg => rfl); (case hr => first | (go_simp; done) | (go_simp; rfl)); intro gb1563 hg w46 hbox hb; have n0_ := Aside0.mk (blk_below (g := gb1562) (o := .cells #[.int .u8 a0_0, .int .i64 a0_1, .int .i64 a0_2, .int .u64 a0_3, .int .u64 a0_4, .int .u64 a0_5] 45 (0, 0)) (by (with_reducible repeat (first | refine blk_drewN ?_ _ | refine blk_drew ?_ | refine blk_alloc ?_ _)); exact BK1562.out) hb); have n1_ := Aside0.mk (below_step (by repeat (first | (with_reducible first | exact HB.out | apply below_alloc | apply pw_below_drewN | apply below_drew1 | refine below_set ?_ GE1562.out) | exact HB.out)) hb); have n2_ := Aside0.mk (hbox); have n3_ := Aside0.mk ((by rw [hg]; exact (below_size (by repeat (first | (with_reducible first | exact HB.out | apply below_alloc | apply pw_below_drewN | apply below_drew1 | refine below_set ?_ GE1562.out) | exact HB.out))) : w.heap.size ≤ gb1563)); have n4_ := Aside0.mk ((by rw [hg]; exact (below_size (by repeat (first | (with_reducible first | exact HB.out | apply below_alloc | apply pw_below_drewN | apply below_drew1 | refine below_set ?_ GE1562.out) | exact HB.out))) : w.heap.size ≤ gb1563)); have n5_ := Aside0.mk ((by rw [hg]; exact Nat.ne_of_lt (blk_lt (g := gb1562) (o := .cells #[.int .u8 a0_0, .int .i64 a0_1, .int .i64 a0_2, .int .u64 a0_3, .int .u64 a0_4, .int .u64 a0_5] 45 (0, 0)) (by (with_reducible repeat (first | refine blk_drewN ?_ _ | refine blk_drew ?_ | refine blk_alloc ?_ _)); exact BK1562.out)) : gb1562 ≠ gb1563)); have n6_ := Aside0.mk ((by rw [hg]; exact Nat.ne_of_gt (blk_lt (g := gb1562) (o := .cells #[.int .u8 a0_0, .int .i64 a0_1, .int .i64 a0_2, .int .u64 a0_3, .int .u64 a0_4, .int .u64 a0_5] 45 (0, 0)) (by (with_reducible repeat (first | refine blk_drewN ?_ _ | refine blk_drew ?_ | refine blk_alloc ?_ _)); exact BK1562.out)) : gb1563 ≠ gb1562)); clear BK1562; clear HB; have BK1562 := n0_; have HB := n1_; have BK1563 := n2_; have GW1563 := n3_; have GE1563 := n4_; have NB1562_1563 := n5_; have NB1563_1562 := n6_; clear n0_ n1_ n2_ n3_ n4_ n5_ n6_; clear hb hbox hg; have hnb47 := NB1562_1563.out; have hnc47 := NB1563_1562.out; have hcz48_0 : w46.cell? ⟨gb1562, 0, none⟩ = some (.int .u8 a0_0) := (blk_cell BK1562.out 0).trans rfl; have hcz48_1 : w46.cell? ⟨gb1562, 1, none⟩ = some (.int .i64 a0_1) := (blk_cell BK1562.out 1).trans rfl; have hcz48_2 : w46.cell? ⟨gb1562, 2, none⟩ = some (.int .i64 a0_2) := (blk_cell BK1562.out 2).trans rfl; have hcz48_3 : w46.cell? ⟨gb1562, 3, none⟩ = some (.int .u64 a0_3) := (blk_cell BK1562.out 3).trans rfl; have hcz48_4 : w46.cell? ⟨gb1562, 4, none⟩ = some (.int .u64 a0_4) := (blk_cell BK1562.out 4).trans rfl; have hcz48_5 : w46.cell? ⟨gb1562, 5, none⟩ = some (.int .u64 a0_5) := (blk_cell BK1562.out 5).trans rfl; have hfz48_0 := blk_frozen BK1562.out 0; have hfz48_1 := blk_frozen BK1562.out 1; have hfz48_2 := blk_frozen BK1562.out 2; have hfz48_3 := blk_frozen BK1562.out 3; have hfz48_4 := blk_frozen BK1562.out 4; have hfz48_5 := blk_frozen BK1562.out 5) | ((with_reducible refine gate_callee (f := 61) rfl ?_); refine goesL_ (some 10) rfl rfl Try.func61 (by kernel_rfl) rfl #[.agg #[.int .u8 a0_0, .int .i64 a0_1, .int .i64 a0_2, .int .u64 a0_3, .int .u64 a0_4, .int .u64 a0_5]] rfl (by (try simp only [List.map_toArray, List.map_cons, List.map_nil]); first | done | rfl | (simp only [List.length_drop, List.length_take]; rfl)) ?_; (with_reducible refine (headendref03_Valid.calls a0_0 a0_1 a0_2 a0_3 a0_4 a0_5 false _ A4.out).mono ?_); rintro e w49 ⟨rfl, hb⟩; refine ⟨_, rfl, ?_⟩; have n0_ := Aside0.mk (blk_below (g := gb1562) (o := .cells #[.int .u8 a0_0, .int .i64 a0_1, .int .i64 a0_2, .int .u64 a0_3, .int .u64 a0_4, .int .u64 a0_5] 45 (0, 0)) (by (with_reducible repeat (first | refine blk_drewN ?_ _ | refine blk_drew ?_ | refine blk_alloc ?_ _)); exact BK1562.out) hb); have n1_ := Aside0.mk (blk_below (g := gb1563) (o := .cells #[.int .i64 a2_0, .int .i64 a2_1] 47 (0, 0)) (by (with_reducible repeat (first | refine blk_drewN ?_ _ | refine blk_drew ?_ | refine blk_alloc ?_ _)); exact BK1563.out) hb); have n2_ := Aside0.mk (below_step (by repeat (first | (with_reducible first | exact HB.out | apply below_alloc | apply pw_below_drewN | apply below_drew1 | refine below_set ?_ GE1562.out | refine below_set ?_ GE1563.out) | exact HB.out)) hb); clear BK1562; clear BK1563; clear HB; have BK1562 := n0_; have BK1563 := n1_; have HB := n2_; clear n0_ n1_ n2_; (try clear hb); (try clear hb2); (try clear hk); (try clear hi)))
  go_ret2
  exact ⟨by first | rfl | (simp [errW_none, errW_some] <;> rfl) | (simp [*, errW_none, errW_some] <;> rfl), by repeat (first | (with_reducible first | exact HB.out | apply below_alloc | apply pw_below_drewN | apply below_drew1 | refine below_set ?_ GE1562.out | refine below_set ?_ GE1563.out) | exact HB.out)⟩
end Go.Proofs.Ytafhimeoijmolaa.G
