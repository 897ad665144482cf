/- Texts of this claim, one behind the other, as far as they are used: G74, X28, KJ, KM, M5, M4, KS, KY, M6, KT. -/
import Derived.Deep.QuietTactic
import Derived.BigQuiet
import Derived.Test.YtafhimeoijmolaaCoverOpensM1
import Derived.Test.YtafhimeoijmolaaCoverOpensM2
import Derived.Test.YtafhimeoijmolaaCoverOpensM3
import Derived.Test.YtafhimeoijmolaaCoverOpensM4
import Derived.Test.YtafhimeoijmolaaCoverOpensM5
import Derived.Test.YtafhimeoijmolaaCoverOpensM7
import Derived.Test.YtafhimeoijmolaaCoverOpensM8
import Derived.Test.YtafhimeoijmolaaCoverOpensM9
namespace Go.Proofs.Ytafhimeoijmolaa.G
open Go.RowKit Go.Proofs.YtafhimeoijmolaaW.PrintWords Go.Proofs.YtafhimeoijmolaaW.PrintLast Go.Proofs.YtafhimeoijmolaaW.PrintMore
attribute [local go_sem] max2_int min2_int max_two min_two max_three min_three max_four min_four   -- for this text's walks alone
set_option linter.unusedVariables false
set_option linter.unusedSimpArgs false
def cover_enter.l0 : Nat → List (S47) → Int → Int → Int → Int → Int → Option (Int × Int × Int × Int)
  | 0, _, _, _, _, _, _ => none
  | k + 1, x18, x19, x20, x392000, x392001, x392002 => if x20 < x19 then (if 0 ≤ x20 then (if x20 < (x18.length : Int) then ((cover_tree_subset.f k x392000 x392001 x392002 ((rd_T47 x18 x20).f0) ((rd_T47 x18 x20).f1)).bind fun t394 => (if t394 = true then (cover_enter.l0 k x18 x19 (wrap64 (x20 + 1)) x392000 x392001 x392002) else (some (0, 0, 0, 31)))) else (none)) else (none)) else (some (x392000, x392001, x392002, 0))
def cover_enter.f (k : Nat) (a0_0 : Int) (a0_1 : Int) (a0_2 : Int) (a0_3 : Int) (a0_4 : Int) (a0_5 : Int) (l1 : List (S47)) : Option (Int × Int × Int × Int) := (cover_treeOf.f k a0_0 a0_1 a0_2 a0_3 a0_4 a0_5).bind fun bt387 => (if bt387.2.2.2 = true then (cover_enter.l0 k l1 (l1.length : Int) 0 bt387.1 bt387.2.1 bt387.2.2.1) else (some (0, 0, 0, 30)))
set_option maxHeartbeats 8000000 in
set_option maxRecDepth 100000 in
theorem cover_enter.calls (k : Nat) (a0_0 : Int) (a0_1 : Int) (a0_2 : Int) (a0_3 : Int) (a0_4 : Int) (a0_5 : Int) (A1 : Option Addr) (c1 : Nat) (l1 : List (S47)) (r1 : Int) (r2 : Int) (r3 : Int) (r4 : Int) (w : World) (hr1 : Kd.C k47 w A1 l1.length l1) (hc1 : l1.length ≤ c1) (h : cover_enter.f k a0_0 a0_1 a0_2 a0_3 a0_4 a0_5 l1 = some (r1, r2, r3, r4)) :
    Calls Try.prog 74 #[.agg #[.int .u8 a0_0, .int .i64 a0_1, .int .i64 a0_2, .int .u64 a0_3, .int .u64 a0_4, .int .u64 a0_5], .slice A1 l1.length c1] w fun e w' => e = .returned (.tuple #[.agg #[.int .u8 r1, .int .i64 r2, .int .i64 r3], .int .i64 r4]) ∧ Below w.heap.size w w' := by
  have hu45 := Try.underlying45
  have hu134 := Try.underlying134
  have hu47 := Try.underlying47
  have HR1 := Aside0.mk hr1
  have HC1 := Aside0.mk hc1
  clear hr1 hc1
  have HB := Aside0.mk (Below.refl w.heap.size w)
  have H : ((cover_treeOf.f k a0_0 a0_1 a0_2 a0_3 a0_4 a0_5).bind fun bt387 => (if bt387.2.2.2 = true then (cover_enter.l0 k l1 (l1.length : Int) 0 bt387.1 bt387.2.1 bt387.2.2.1) else (some (0, 0, 0, 30)))) = some (r1, r2, r3, r4) := h
  clear h
  replace H := Option.bind_eq_some_iff.mp H
  obtain ⟨⟨t387, t388, t389, t390⟩, A30, H⟩ := H
  replace H : (if t390 = true then (cover_enter.l0 k l1 (l1.length : Int) 0 t387 t388 t389) else (some (0, 0, 0, 30))) = some (r1, r2, r3, r4) := H
  have A3 := Aside0.mk A30
  clear A30
  by_cases c4 : t390 = true
  · subst c4
    have H1 : (cover_enter.l0 k l1 (l1.length : Int) 0 t387 t388 t389) = some (r1, r2, r3, r4) := by rw [if_pos rfl] at H; exact H
    clear H
    have H := H1
    clear H1
    have H' := Aside0.mk H
    clear H
    go_enter Try.func74, Try.ntmps74
    go_wp2_with (first | ((with_reducible refine gate_dst (N := 2) rfl ?_); refine box_event ?hg (N := 2) ?hd (cs := #[.int .u8 a0_0, .int .i64 a0_1, .int .i64 a0_2, .int .u64 a0_3, .int .u64 a0_4, .int .u64 a0_5]) (t := 45) ?hr ?_; (case hd => rfl); (case hg => rfl); (case hr => first | (go_simp; done) | (go_simp; rfl)); intro gb385 hg w5 hbox hb; have n0_ := Aside0.mk (below_step (by repeat (first | (with_reducible first | exact HB.out | apply below_alloc | apply pw_below_drewN | apply below_drew1) | exact HB.out)) hb); have n1_ := Aside0.mk (hbox); have n2_ := Aside0.mk ((by rw [hg]; exact (below_size (by repeat (first | (with_reducible first | exact HB.out | apply below_alloc | apply pw_below_drewN | apply below_drew1) | exact HB.out))) : w.heap.size ≤ gb385)); have n3_ := Aside0.mk ((by rw [hg]; exact (below_size (by repeat (first | (with_reducible first | exact HB.out | apply below_alloc | apply pw_below_drewN | apply below_drew1) | exact HB.out))) : w.heap.size ≤ gb385)); clear HB; have HB := n0_; have BK385 := n1_; have GW385 := n2_; have GE385 := n3_; clear n0_ n1_ n2_ n3_; clear hb hbox hg) | ((with_reducible refine gate_dst (N := 4) rfl ?_); refine box_event ?hg (N := 4) ?hd (cs := #[.int .u8 0, .int .i64 0, .int .i64 0]) (t := 134) ?hr ?_; (case hd => rfl); (case hg => rfl); (case hr => first | (go_simp; done) | (go_simp; rfl)); intro gb386 hg w6 hbox hb; have n0_ := Aside0.mk (blk_below (g := gb385) (o := .cells #[.int .u8 a0_0, .int .i64 a0_1, .int .i64 a0_2, .int .u64 a0_3, .int .u64 a0_4, .int .u64 a0_5] 45 (0, 0)) (by (with_reducible repeat (first | refine blk_drewN ?_ _ | refine blk_drew ?_ | refine blk_alloc ?_ _)); exact BK385.out) hb); have n1_ := Aside0.mk (below_step (by repeat (first | (with_reducible first | exact HB.out | apply below_alloc | apply pw_below_drewN | apply below_drew1 | refine below_set ?_ GE385.out) | exact HB.out)) hb); have n2_ := Aside0.mk (hbox); have n3_ := Aside0.mk ((by rw [hg]; exact (below_size (by repeat (first | (with_reducible first | exact HB.out | apply below_alloc | apply pw_below_drewN | apply below_drew1 | refine below_set ?_ GE385.out) | exact HB.out))) : w.heap.size ≤ gb386)); have n4_ := Aside0.mk ((by rw [hg]; exact (below_size (by repeat (first | (with_reducible first | exact HB.out | apply below_alloc | apply pw_below_drewN | apply below_drew1 | refine below_set ?_ GE385.out) | exact HB.out))) : w.heap.size ≤ gb386)); have n5_ := Aside0.mk ((by rw [hg]; exact Nat.ne_of_lt (blk_lt (g := gb385) (o := .cells #[.int .u8 a0_0, .int .i64 a0_1, .int .i64 a0_2, .int .u64 a0_3, .int .u64 a0_4, .int .u64 a0_5] 45 (0, 0)) (by (with_reducible repeat (first | refine blk_drewN ?_ _ | refine blk_drew ?_ | refine blk_alloc ?_ _)); exact BK385.out)) : gb385 ≠ gb386)); have n6_ := Aside0.mk ((by rw [hg]; exact Nat.ne_of_gt (blk_lt (g := gb385) (o := .cells #[.int .u8 a0_0, .int .i64 a0_1, .int .i64 a0_2, .int .u64 a0_3, .int .u64 a0_4, .int .u64 a0_5] 45 (0, 0)) (by (with_reducible repeat (first | refine blk_drewN ?_ _ | refine blk_drew ?_ | refine blk_alloc ?_ _)); exact BK385.out)) : gb386 ≠ gb385)); clear BK385; clear HB; have BK385 := n0_; have HB := n1_; have BK386 := n2_; have GW386 := n3_; have GE386 := n4_; have NB385_386 := n5_; have NB386_385 := n6_; clear n0_ n1_ n2_ n3_ n4_ n5_ n6_; clear hb hbox hg; have hnb7 := NB385_386.out; have hnc7 := NB386_385.out; have hcz8_0 : w6.cell? ⟨gb385, 0, none⟩ = some (.int .u8 a0_0) := (blk_cell BK385.out 0).trans rfl; have hcz8_1 : w6.cell? ⟨gb385, 1, none⟩ = some (.int .i64 a0_1) := (blk_cell BK385.out 1).trans rfl; have hcz8_2 : w6.cell? ⟨gb385, 2, none⟩ = some (.int .i64 a0_2) := (blk_cell BK385.out 2).trans rfl; have hcz8_3 : w6.cell? ⟨gb385, 3, none⟩ = some (.int .u64 a0_3) := (blk_cell BK385.out 3).trans rfl; have hcz8_4 : w6.cell? ⟨gb385, 4, none⟩ = some (.int .u64 a0_4) := (blk_cell BK385.out 4).trans rfl; have hcz8_5 : w6.cell? ⟨gb385, 5, none⟩ = some (.int .u64 a0_5) := (blk_cell BK385.out 5).trans rfl; have hfz8_0 := blk_frozen BK385.out 0; have hfz8_1 := blk_frozen BK385.out 1; have hfz8_2 := blk_frozen BK385.out 2; have hfz8_3 := blk_frozen BK385.out 3; have hfz8_4 := blk_frozen BK385.out 4; have hfz8_5 := blk_frozen BK385.out 5) | ((with_reducible refine gate_callee (f := 84) rfl ?_); refine goesL_ (some 12) rfl rfl Try.func84 (by kernel_rfl) rfl #[.agg #[.int .u8 a0_0, .int .i64 a0_1, .int .i64 a0_2, .int .u64 a0_3, .int .u64 a0_4, .int .u64 a0_5]] rfl (by (try simp only [List.map_toArray, List.map_cons, List.map_nil]); first | done | rfl | (simp only [List.length_drop, List.length_take]; rfl)) ?_; (with_reducible refine (cover_treeOf.calls k a0_0 a0_1 a0_2 a0_3 a0_4 a0_5 t387 t388 t389 true _ A3.out).mono ?_); rintro e w9 ⟨rfl, hb⟩; refine ⟨_, rfl, ?_⟩; have n0_ := Aside0.mk (blk_below (g := gb385) (o := .cells #[.int .u8 a0_0, .int .i64 a0_1, .int .i64 a0_2, .int .u64 a0_3, .int .u64 a0_4, .int .u64 a0_5] 45 (0, 0)) (by (with_reducible repeat (first | refine blk_drewN ?_ _ | refine blk_drew ?_ | refine blk_alloc ?_ _)); exact BK385.out) hb); have n1_ := Aside0.mk (blk_below (g := gb386) (o := .cells #[.int .u8 0, .int .i64 0, .int .i64 0] 134 (0, 0)) (by (with_reducible repeat (first | refine blk_drewN ?_ _ | refine blk_drew ?_ | refine blk_alloc ?_ _)); exact BK386.out) hb); have n2_ := Aside0.mk (below_step (by repeat (first | (with_reducible first | exact HB.out | apply below_alloc | apply pw_below_drewN | apply below_drew1 | refine below_set ?_ GE385.out | refine below_set ?_ GE386.out) | exact HB.out)) hb); clear BK385; clear BK386; clear HB; have BK385 := n0_; have BK386 := n1_; have HB := n2_; clear n0_ n1_ n2_; (try clear hb); (try clear hb2); (try clear hk); (try clear hi)) | ((with_reducible refine gate_dst (N := 6) rfl ?_); refine box_event ?hg (N := 6) ?hd (cs := #[.int .u8 0, .int .i64 0, .int .i64 0]) (t := 134) ?hr ?_; (case hd => rfl); (case hg => rfl); (case hr => first | (go_simp; done) | (go_simp; rfl)); intro gb391 hg w10 hbox hb; have n0_ := Aside0.mk (blk_below (g := gb385) (o := .cells #[.int .u8 a0_0, .int .i64 a0_1, .int .i64 a0_2, .int .u64 a0_3, .int .u64 a0_4, .int .u64 a0_5] 45 (0, 0)) (by (with_reducible repeat (first | refine blk_drewN ?_ _ | refine blk_drew ?_ | refine blk_alloc ?_ _)); exact BK385.out) hb); have n1_ := Aside0.mk (blk_below (g := gb386) (o := .cells #[.int .u8 0, .int .i64 0, .int .i64 0] 134 (0, 0)) (by (with_reducible repeat (first | refine blk_drewN ?_ _ | refine blk_drew ?_ | refine blk_alloc ?_ _)); exact BK386.out) hb); have n2_ := Aside0.mk (below_step (by repeat (first | (with_reducible first | exact HB.out | apply below_alloc | apply pw_below_drewN | apply below_drew1 | refine below_set ?_ GE385.out | refine below_set ?_ GE386.out) | exact HB.out)) hb); have n3_ := Aside0.mk (hbox); have n4_ := Aside0.mk ((by rw [hg]; exact (below_size (by repeat (first | (with_reducible first | exact HB.out | apply below_alloc | apply pw_below_drewN | apply below_drew1 | refine below_set ?_ GE385.out | refine below_set ?_ GE386.out) | exact HB.out))) : w.heap.size ≤ gb391)); have n5_ := Aside0.mk ((by rw [hg]; exact (below_size (by repeat (first | (with_reducible first | exact HB.out | apply below_alloc | apply pw_below_drewN | apply below_drew1 | refine below_set ?_ GE385.out | refine below_set ?_ GE386.out) | exact HB.out))) : w.heap.size ≤ gb391)); have n6_ := Aside0.mk ((by rw [hg]; exact Nat.ne_of_lt (blk_lt (g := gb385) (o := .cells #[.int .u8 a0_0, .int .i64 a0_1, .int .i64 a0_2, .int .u64 a0_3, .int .u64 a0_4, .int .u64 a0_5] 45 (0, 0)) (by (with_reducible repeat (first | refine blk_drewN ?_ _ | refine blk_drew ?_ | refine blk_alloc ?_ _)); exact BK385.out)) : gb385 ≠ gb391)); have n7_ := Aside0.mk ((by rw [hg]; exact Nat.ne_of_gt (blk_lt (g := gb385) (o := .cells #[.int .u8 a0_0, .int .i64 a0_1, .int .i64 a0_2, .int .u64 a0_3, .int .u64 a0_4, .int .u64 a0_5] 45 (0, 0)) (by (with_reducible repeat (first | refine blk_drewN ?_ _ | refine blk_drew ?_ | refine blk_alloc ?_ _)); exact BK385.out)) : gb391 ≠ gb385)); have n8_ := Aside0.mk ((by rw [hg]; exact Nat.ne_of_lt (blk_lt (g := gb386) (o := .cells #[.int .u8 0, .int .i64 0, .int .i64 0] 134 (0, 0)) (by (with_reducible repeat (first | refine blk_drewN ?_ _ | refine blk_drew ?_ | refine blk_alloc ?_ _)); exact BK386.out)) : gb386 ≠ gb391)); have n9_ := Aside0.mk ((by rw [hg]; exact Nat.ne_of_gt (blk_lt (g := gb386) (o := .cells #[.int .u8 0, .int .i64 0, .int .i64 0] 134 (0, 0)) (by (with_reducible repeat (first | refine blk_drewN ?_ _ | refine blk_drew ?_ | refine blk_alloc ?_ _)); exact BK386.out)) : gb391 ≠ gb386)); clear BK385; clear BK386; clear HB; have BK385 := n0_; have BK386 := n1_; have HB := n2_; have BK391 := n3_; have GW391 := n4_; have GE391 := n5_; have NB385_391 := n6_; have NB391_385 := n7_; have NB386_391 := n8_; have NB391_386 := n9_; clear n0_ n1_ n2_ n3_ n4_ n5_ n6_ n7_ n8_ n9_; clear hb hbox hg; have hnb11 := NB391_385.out; have hnc11 := NB385_391.out; have hnb12 := NB391_386.out; have hnc12 := NB386_391.out; have hcz13_0 : w10.cell? ⟨gb391, 0, none⟩ = some (.int .u8 0) := (blk_cell BK391.out 0).trans rfl; have hcz13_1 : w10.cell? ⟨gb391, 1, none⟩ = some (.int .i64 0) := (blk_cell BK391.out 1).trans rfl; have hcz13_2 : w10.cell? ⟨gb391, 2, none⟩ = some (.int .i64 0) := (blk_cell BK391.out 2).trans rfl; have hfz13_0 := blk_frozen BK391.out 0; have hfz13_1 := blk_frozen BK391.out 1; have hfz13_2 := blk_frozen BK391.out 2))
    go_loopg [20] k (fun kq v20 w' => ∃ (x20_1 : Int) (x387000_1 : Int) (x387001_1 : Int) (x387002_1 : Int), v20 = .int .i64 x20_1 ∧ Aside0 (cover_enter.l0 kq l1 (l1.length : Int) x20_1 t387 t388 t389 = some (r1, r2, r3, r4)) ∧ Aside0 (kq ≤ k) ∧ Aside0 (w'.heap[gb385]? = some (.cells #[.int .u8 a0_0, .int .i64 a0_1, .int .i64 a0_2, .int .u64 a0_3, .int .u64 a0_4, .int .u64 a0_5] 45 (0, 0))) ∧ Aside0 (w'.heap[gb386]? = some (.cells #[.int .u8 x387000_1, .int .i64 x387001_1, .int .i64 x387002_1] 134 (0, 0))) ∧ Aside0 (w'.heap[gb391]? = some (.cells #[.int .u8 t387, .int .i64 t388, .int .i64 t389] 134 (0, 0))) ∧ Aside0 (Below w.heap.size w w'))
    case atStart => exact ⟨(0), (0), (0), (0), (by first | rfl | (simp; done) | (simp [*]; done)), H', ⟨Nat.le_refl _⟩, ⟨by (with_reducible repeat (first | refine blk_drewN ?_ _ | refine blk_drew ?_ | refine blk_alloc ?_ _)); refine blk_far ?_ NB385_391.out _; (with_reducible repeat (first | refine blk_drewN ?_ _ | refine blk_drew ?_ | refine blk_alloc ?_ _)); refine blk_far ?_ NB385_391.out _; (with_reducible repeat (first | refine blk_drewN ?_ _ | refine blk_drew ?_ | refine blk_alloc ?_ _)); refine blk_far ?_ NB385_391.out _; (with_reducible repeat (first | refine blk_drewN ?_ _ | refine blk_drew ?_ | refine blk_alloc ?_ _)); exact BK385.out⟩, ⟨by (with_reducible repeat (first | refine blk_drewN ?_ _ | refine blk_drew ?_ | refine blk_alloc ?_ _)); refine blk_far ?_ NB386_391.out _; (with_reducible repeat (first | refine blk_drewN ?_ _ | refine blk_drew ?_ | refine blk_alloc ?_ _)); refine blk_far ?_ NB386_391.out _; (with_reducible repeat (first | refine blk_drewN ?_ _ | refine blk_drew ?_ | refine blk_alloc ?_ _)); refine blk_far ?_ NB386_391.out _; (with_reducible repeat (first | refine blk_drewN ?_ _ | refine blk_drew ?_ | refine blk_alloc ?_ _)); exact BK386.out⟩, ⟨by (with_reducible repeat (first | refine blk_drewN ?_ _ | refine blk_drew ?_ | refine blk_alloc ?_ _)); refine blk_put (cs := #[.int .u8 t387, .int .i64 t388, .int .i64 0]) ?_ 2 _ rfl; (with_reducible repeat (first | refine blk_drewN ?_ _ | refine blk_drew ?_ | refine blk_alloc ?_ _)); refine blk_put (cs := #[.int .u8 t387, .int .i64 0, .int .i64 0]) ?_ 1 _ rfl; (with_reducible repeat (first | refine blk_drewN ?_ _ | refine blk_drew ?_ | refine blk_alloc ?_ _)); refine blk_put (cs := #[.int .u8 0, .int .i64 0, .int .i64 0]) ?_ 0 _ rfl; (with_reducible repeat (first | refine blk_drewN ?_ _ | refine blk_drew ?_ | refine blk_alloc ?_ _)); exact BK391.out⟩, ⟨by repeat (first | (with_reducible first | exact HB.out | apply below_alloc | apply pw_below_drewN | apply below_drew1 | refine below_set ?_ GE385.out | refine below_set ?_ GE386.out | refine below_set ?_ GE391.out) | exact HB.out)⟩⟩
    case round =>
      clear H'
      try clear c1
      try clear p2
      try clear c4
      try clear c7
      try clear c8
      try clear c11
      try clear c12
      try clear hcz13_0
      try clear hcz13_1
      try clear hcz13_2
      try clear hcz8_0
      try clear hcz8_1
      try clear hcz8_2
      try clear hcz8_3
      try clear hcz8_4
      try clear hcz8_5
      try clear hfz13_0
      try clear hfz13_1
      try clear hfz13_2
      try clear hfz8_0
      try clear hfz8_1
      try clear hfz8_2
      try clear hfz8_3
      try clear hfz8_4
      try clear hfz8_5
      obtain ⟨x20_1, x387000_1, x387001_1, x387002_1, rfl, HA, HK1, BK385, BK386, BK391, HB⟩ := hrel
      cases gk with
      | zero => exact absurd HA.out (by simp [cover_enter.l0])
      | succ k1 =>
        have H := HA.out
        clear HA
        simp only [cover_enter.l0] at H
        by_cases c14 : x20_1 < (l1.length : Int)
        · rw [if_pos c14] at H
          have c14b0 : decide (x20_1 < (l1.length : Int)) = true := decide_eq_true c14
          clear c14
          by_cases c15 : 0 ≤ x20_1
          · rw [if_pos c15] at H
            have c15b0 : decide (0 ≤ x20_1) = true := decide_eq_true c15
            clear c15
            by_cases c16 : x20_1 < (l1.length : Int)
            · rw [if_pos c16] at H
              have c16b0 : decide (x20_1 < (l1.length : Int)) = true := decide_eq_true c16
              clear c16
              replace H := Option.bind_eq_some_iff.mp H
              obtain ⟨t394, A170, H⟩ := H
              replace H : (if t394 = true then (cover_enter.l0 k1 l1 (l1.length : Int) (wrap64 (x20_1 + 1)) t387 t388 t389) else (some (0, 0, 0, 31))) = some (r1, r2, r3, r4) := H
              have A17 := Aside0.mk A170
              clear A170
              by_cases c18 : t394 = true
              · subst c18
                have H1 : (cover_enter.l0 k1 l1 (l1.length : Int) (wrap64 (x20_1 + 1)) t387 t388 t389) = some (r1, r2, r3, r4) := by rw [if_pos rfl] at H; exact H
                clear H
                have H := H1
                clear H1
                have H' := Aside0.mk H
                clear H
                have p392 : 0 ≤ (x20_1 : Int) := of_decide_eq_true (by first | (with_reducible assumption) | assumption)
                have q392 : x20_1 < (l1.length : Int) := of_decide_eq_true (by first | (with_reducible assumption) | assumption)
                obtain ⟨ad392, e392, hx392_0, hx392_1⟩ := at_T47 HR1.out x20_1 p392 q392
                cases e392
                replace hx392_0 := (HB.out.cell (World.block_lt_of_cell? w _ hx392_0)).trans hx392_0
                replace hx392_1 := (HB.out.cell (World.block_lt_of_cell? w _ hx392_1)).trans hx392_1
                replace p392 := eq_true p392
                replace q392 := eq_true q392
                go_wp2_with (first | ((with_reducible refine gate_dst (N := 9) rfl ?_); refine box_event ?hg (N := 9) ?hd (cs := #[.int .i64 0, .int .i64 0]) (t := 47) ?hr ?_; (case hd => rfl); (case hg => rfl); (case hr => first | (go_simp; done) | (go_simp; rfl)); intro gb393 hg w19 hbox hb; have n0_ := Aside0.mk (blk_below (g := gb385) (o := .cells #[.int .u8 a0_0, .int .i64 a0_1, .int .i64 a0_2, .int .u64 a0_3, .int .u64 a0_4, .int .u64 a0_5] 45 (0, 0)) (by (with_reducible repeat (first | refine blk_drewN ?_ _ | refine blk_drew ?_ | refine blk_alloc ?_ _)); exact BK385.out) hb); have n1_ := Aside0.mk (blk_below (g := gb386) (o := .cells #[.int .u8 x387000_1, .int .i64 x387001_1, .int .i64 x387002_1] 134 (0, 0)) (by (with_reducible repeat (first | refine blk_drewN ?_ _ | refine blk_drew ?_ | refine blk_alloc ?_ _)); exact BK386.out) hb); have n2_ := Aside0.mk (blk_below (g := gb391) (o := .cells #[.int .u8 t387, .int .i64 t388, .int .i64 t389] 134 (0, 0)) (by (with_reducible repeat (first | refine blk_drewN ?_ _ | refine blk_drew ?_ | refine blk_alloc ?_ _)); exact BK391.out) hb); have n3_ := Aside0.mk (below_step (by repeat (first | (with_reducible first | exact HB.out | apply below_alloc | apply pw_below_drewN | apply below_drew1 | refine below_set ?_ GE385.out | refine below_set ?_ GE386.out | refine below_set ?_ GE391.out) | exact HB.out)) hb); have n4_ := Aside0.mk (hbox); have n5_ := Aside0.mk ((by rw [hg]; exact (below_size (by repeat (first | (with_reducible first | exact HB.out | apply below_alloc | apply pw_below_drewN | apply below_drew1 | refine below_set ?_ GE385.out | refine below_set ?_ GE386.out | refine below_set ?_ GE391.out) | exact HB.out))) : w.heap.size ≤ gb393)); have n6_ := Aside0.mk ((by rw [hg]; exact (below_size (by repeat (first | (with_reducible first | exact HB.out | apply below_alloc | apply pw_below_drewN | apply below_drew1 | refine below_set ?_ GE385.out | refine below_set ?_ GE386.out | refine below_set ?_ GE391.out) | exact HB.out))) : w.heap.size ≤ gb393)); have n7_ := Aside0.mk ((by rw [hg]; exact Nat.ne_of_lt (blk_lt (g := gb385) (o := .cells #[.int .u8 a0_0, .int .i64 a0_1, .int .i64 a0_2, .int .u64 a0_3, .int .u64 a0_4, .int .u64 a0_5] 45 (0, 0)) (by (with_reducible repeat (first | refine blk_drewN ?_ _ | refine blk_drew ?_ | refine blk_alloc ?_ _)); exact BK385.out)) : gb385 ≠ gb393)); have n8_ := Aside0.mk ((by rw [hg]; exact Nat.ne_of_gt (blk_lt (g := gb385) (o := .cells #[.int .u8 a0_0, .int .i64 a0_1, .int .i64 a0_2, .int .u64 a0_3, .int .u64 a0_4, .int .u64 a0_5] 45 (0, 0)) (by (with_reducible repeat (first | refine blk_drewN ?_ _ | refine blk_drew ?_ | refine blk_alloc ?_ _)); exact BK385.out)) : gb393 ≠ gb385)); have n9_ := Aside0.mk ((by rw [hg]; exact Nat.ne_of_lt (blk_lt (g := gb386) (o := .cells #[.int .u8 x387000_1, .int .i64 x387001_1, .int .i64 x387002_1] 134 (0, 0)) (by (with_reducible repeat (first | refine blk_drewN ?_ _ | refine blk_drew ?_ | refine blk_alloc ?_ _)); exact BK386.out)) : gb386 ≠ gb393)); have n10_ := Aside0.mk ((by rw [hg]; exact Nat.ne_of_gt (blk_lt (g := gb386) (o := .cells #[.int .u8 x387000_1, .int .i64 x387001_1, .int .i64 x387002_1] 134 (0, 0)) (by (with_reducible repeat (first | refine blk_drewN ?_ _ | refine blk_drew ?_ | refine blk_alloc ?_ _)); exact BK386.out)) : gb393 ≠ gb386)); have n11_ := Aside0.mk ((by rw [hg]; exact Nat.ne_of_lt (blk_lt (g := gb391) (o := .cells #[.int .u8 t387, .int .i64 t388, .int .i64 t389] 134 (0, 0)) (by (with_reducible repeat (first | refine blk_drewN ?_ _ | refine blk_drew ?_ | refine blk_alloc ?_ _)); exact BK391.out)) : gb391 ≠ gb393)); have n12_ := Aside0.mk ((by rw [hg]; exact Nat.ne_of_gt (blk_lt (g := gb391) (o := .cells #[.int .u8 t387, .int .i64 t388, .int .i64 t389] 134 (0, 0)) (by (with_reducible repeat (first | refine blk_drewN ?_ _ | refine blk_drew ?_ | refine blk_alloc ?_ _)); exact BK391.out)) : gb393 ≠ gb391)); clear BK385; clear BK386; clear BK391; clear HB; have BK385 := n0_; have BK386 := n1_; have BK391 := n2_; have HB := n3_; have BK393 := n4_; have GW393 := n5_; have GE393 := n6_; have NB385_393 := n7_; have NB393_385 := n8_; have NB386_393 := n9_; have NB393_386 := n10_; have NB391_393 := n11_; have NB393_391 := n12_; clear n0_ n1_ n2_ n3_ n4_ n5_ n6_ n7_ n8_ n9_ n10_ n11_ n12_; clear hb hbox hg; have hnb20 := NB393_385.out; have hnc20 := NB385_393.out; have hnb21 := NB393_386.out; have hnc21 := NB386_393.out; have hnb22 := NB393_391.out; have hnc22 := NB391_393.out; have hcz23_0 : w19.cell? ⟨gb393, 0, none⟩ = some (.int .i64 0) := (blk_cell BK393.out 0).trans rfl; have hcz23_1 : w19.cell? ⟨gb393, 1, none⟩ = some (.int .i64 0) := (blk_cell BK393.out 1).trans rfl; have hfz23_0 := blk_frozen BK393.out 0; have hfz23_1 := blk_frozen BK393.out 1; have hnb24 := NB391_385.out; have hnc24 := NB385_391.out; have hnb25 := NB391_386.out; have hnc25 := NB386_391.out; have hcz26_0 : w19.cell? ⟨gb391, 0, none⟩ = some (.int .u8 t387) := (blk_cell BK391.out 0).trans rfl; have hcz26_1 : w19.cell? ⟨gb391, 1, none⟩ = some (.int .i64 t388) := (blk_cell BK391.out 1).trans rfl; have hcz26_2 : w19.cell? ⟨gb391, 2, none⟩ = some (.int .i64 t389) := (blk_cell BK391.out 2).trans rfl; have hfz26_0 := blk_frozen BK391.out 0; have hfz26_1 := blk_frozen BK391.out 1; have hfz26_2 := blk_frozen BK391.out 2) | ((with_reducible refine gate_callee (f := 79) rfl ?_); refine goesL_ (some 26) rfl rfl Try.func79 (by kernel_rfl) rfl #[.agg #[.int .u8 t387, .int .i64 t388, .int .i64 t389], .agg #[.int .i64 ((rd_T47 l1 x20_1).f0), .int .i64 ((rd_T47 l1 x20_1).f1)]] rfl (by (try simp only [List.map_toArray, List.map_cons, List.map_nil]); first | done | rfl | (simp only [List.length_drop, List.length_take]; rfl)) ?_; (with_reducible refine (cover_tree_subset.calls k1 t387 t388 t389 ((rd_T47 l1 x20_1).f0) ((rd_T47 l1 x20_1).f1) true _ A17.out).mono ?_); rintro e w27 ⟨rfl, hb⟩; refine ⟨_, rfl, ?_⟩; have n0_ := Aside0.mk (blk_below (g := gb385) (o := .cells #[.int .u8 a0_0, .int .i64 a0_1, .int .i64 a0_2, .int .u64 a0_3, .int .u64 a0_4, .int .u64 a0_5] 45 (0, 0)) (by (with_reducible repeat (first | refine blk_drewN ?_ _ | refine blk_drew ?_ | refine blk_alloc ?_ _)); refine blk_far ?_ NB385_393.out _; (with_reducible repeat (first | refine blk_drewN ?_ _ | refine blk_drew ?_ | refine blk_alloc ?_ _)); refine blk_far ?_ NB385_393.out _; (with_reducible repeat (first | refine blk_drewN ?_ _ | refine blk_drew ?_ | refine blk_alloc ?_ _)); exact BK385.out) hb); have n1_ := Aside0.mk (blk_below (g := gb386) (o := .cells #[.int .u8 x387000_1, .int .i64 x387001_1, .int .i64 x387002_1] 134 (0, 0)) (by (with_reducible repeat (first | refine blk_drewN ?_ _ | refine blk_drew ?_ | refine blk_alloc ?_ _)); refine blk_far ?_ NB386_393.out _; (with_reducible repeat (first | refine blk_drewN ?_ _ | refine blk_drew ?_ | refine blk_alloc ?_ _)); refine blk_far ?_ NB386_393.out _; (with_reducible repeat (first | refine blk_drewN ?_ _ | refine blk_drew ?_ | refine blk_alloc ?_ _)); exact BK386.out) hb); have n2_ := Aside0.mk (blk_below (g := gb391) (o := .cells #[.int .u8 t387, .int .i64 t388, .int .i64 t389] 134 (0, 0)) (by (with_reducible repeat (first | refine blk_drewN ?_ _ | refine blk_drew ?_ | refine blk_alloc ?_ _)); refine blk_far ?_ NB391_393.out _; (with_reducible repeat (first | refine blk_drewN ?_ _ | refine blk_drew ?_ | refine blk_alloc ?_ _)); refine blk_far ?_ NB391_393.out _; (with_reducible repeat (first | refine blk_drewN ?_ _ | refine blk_drew ?_ | refine blk_alloc ?_ _)); exact BK391.out) hb); have n3_ := Aside0.mk (blk_below (g := gb393) (o := .cells #[.int .i64 ((rd_T47 l1 x20_1).f0), .int .i64 ((rd_T47 l1 x20_1).f1)] 47 (0, 0)) (by (with_reducible repeat (first | refine blk_drewN ?_ _ | refine blk_drew ?_ | refine blk_alloc ?_ _)); refine blk_put (cs := #[.int .i64 ((rd_T47 l1 x20_1).f0), .int .i64 0]) ?_ 1 _ rfl; (with_reducible repeat (first | refine blk_drewN ?_ _ | refine blk_drew ?_ | refine blk_alloc ?_ _)); refine blk_put (cs := #[.int .i64 0, .int .i64 0]) ?_ 0 _ rfl; (with_reducible repeat (first | refine blk_drewN ?_ _ | refine blk_drew ?_ | refine blk_alloc ?_ _)); exact BK393.out) hb); have n4_ := Aside0.mk (below_step (by repeat (first | (with_reducible first | exact HB.out | apply below_alloc | apply pw_below_drewN | apply below_drew1 | refine below_set ?_ GE385.out | refine below_set ?_ GE386.out | refine below_set ?_ GE391.out | refine below_set ?_ GE393.out) | exact HB.out)) hb); clear BK385; clear BK386; clear BK391; clear BK393; clear HB; have BK385 := n0_; have BK386 := n1_; have BK391 := n2_; have BK393 := n3_; have HB := n4_; clear n0_ n1_ n2_ n3_ n4_; (try clear hb); (try clear hb2); (try clear hk); (try clear hi)))
                go_roundg k1
                case measure => have := HK1.out; omega
                case rel => exact ⟨(wrap64 (x20_1 + 1)), (x387000_1), (x387001_1), (x387002_1), (by first | rfl | (simp; done) | (simp [*]; done)), H', ⟨by have := HK1.out; omega⟩, ⟨by (with_reducible repeat (first | refine blk_drewN ?_ _ | refine blk_drew ?_ | refine blk_alloc ?_ _)); exact BK385.out⟩, ⟨by (with_reducible repeat (first | refine blk_drewN ?_ _ | refine blk_drew ?_ | refine blk_alloc ?_ _)); exact BK386.out⟩, ⟨by (with_reducible repeat (first | refine blk_drewN ?_ _ | refine blk_drew ?_ | refine blk_alloc ?_ _)); exact BK391.out⟩, ⟨by repeat (first | (with_reducible first | exact HB.out | apply below_alloc | apply pw_below_drewN | apply below_drew1 | refine below_set ?_ GE385.out | refine below_set ?_ GE386.out | refine below_set ?_ GE391.out | refine below_set ?_ GE393.out) | exact HB.out)⟩⟩
              · replace c18 := Bool.eq_false_iff.mpr c18
                subst c18
                have H1 : (some (0, 0, 0, 31)) = some (r1, r2, r3, r4) := by rw [if_neg (show ¬ (false = true) by decide)] at H; exact H
                clear H
                have H := H1
                clear H1
                simp only [Option.some.injEq, Prod.mk.injEq] at H
                obtain ⟨rfl, rfl, rfl, rfl⟩ := H
                have p392 : 0 ≤ (x20_1 : Int) := of_decide_eq_true (by first | (with_reducible assumption) | assumption)
                have q392 : x20_1 < (l1.length : Int) := of_decide_eq_true (by first | (with_reducible assumption) | assumption)
                obtain ⟨ad392, e392, hx392_0, hx392_1⟩ := at_T47 HR1.out x20_1 p392 q392
                cases e392
                replace hx392_0 := (HB.out.cell (World.block_lt_of_cell? w _ hx392_0)).trans hx392_0
                replace hx392_1 := (HB.out.cell (World.block_lt_of_cell? w _ hx392_1)).trans hx392_1
                replace p392 := eq_true p392
                replace q392 := eq_true q392
                go_wp2_with (first | ((with_reducible refine gate_dst (N := 9) rfl ?_); refine box_event ?hg (N := 9) ?hd (cs := #[.int .i64 0, .int .i64 0]) (t := 47) ?hr ?_; (case hd => rfl); (case hg => rfl); (case hr => first | (go_simp; done) | (go_simp; rfl)); intro gb393 hg w28 hbox hb; have n0_ := Aside0.mk (blk_below (g := gb385) (o := .cells #[.int .u8 a0_0, .int .i64 a0_1, .int .i64 a0_2, .int .u64 a0_3, .int .u64 a0_4, .int .u64 a0_5] 45 (0, 0)) (by (with_reducible repeat (first | refine blk_drewN ?_ _ | refine blk_drew ?_ | refine blk_alloc ?_ _)); exact BK385.out) hb); have n1_ := Aside0.mk (blk_below (g := gb386) (o := .cells #[.int .u8 x387000_1, .int .i64 x387001_1, .int .i64 x387002_1] 134 (0, 0)) (by (with_reducible repeat (first | refine blk_drewN ?_ _ | refine blk_drew ?_ | refine blk_alloc ?_ _)); exact BK386.out) hb); have n2_ := Aside0.mk (blk_below (g := gb391) (o := .cells #[.int .u8 t387, .int .i64 t388, .int .i64 t389] 134 (0, 0)) (by (with_reducible repeat (first | refine blk_drewN ?_ _ | refine blk_drew ?_ | refine blk_alloc ?_ _)); exact BK391.out) hb); have n3_ := Aside0.mk (below_step (by repeat (first | (with_reducible first | exact HB.out | apply below_alloc | apply pw_below_drewN | apply below_drew1 | refine below_set ?_ GE385.out | refine below_set ?_ GE386.out | refine below_set ?_ GE391.out) | exact HB.out)) hb); have n4_ := Aside0.mk (hbox); have n5_ := Aside0.mk ((by rw [hg]; exact (below_size (by repeat (first | (with_reducible first | exact HB.out | apply below_alloc | apply pw_below_drewN | apply below_drew1 | refine below_set ?_ GE385.out | refine below_set ?_ GE386.out | refine below_set ?_ GE391.out) | exact HB.out))) : w.heap.size ≤ gb393)); have n6_ := Aside0.mk ((by rw [hg]; exact (below_size (by repeat (first | (with_reducible first | exact HB.out | apply below_alloc | apply pw_below_drewN | apply below_drew1 | refine below_set ?_ GE385.out | refine below_set ?_ GE386.out | refine below_set ?_ GE391.out) | exact HB.out))) : w.heap.size ≤ gb393)); have n7_ := Aside0.mk ((by rw [hg]; exact Nat.ne_of_lt (blk_lt (g := gb385) (o := .cells #[.int .u8 a0_0, .int .i64 a0_1, .int .i64 a0_2, .int .u64 a0_3, .int .u64 a0_4, .int .u64 a0_5] 45 (0, 0)) (by (with_reducible repeat (first | refine blk_drewN ?_ _ | refine blk_drew ?_ | refine blk_alloc ?_ _)); exact BK385.out)) : gb385 ≠ gb393)); have n8_ := Aside0.mk ((by rw [hg]; exact Nat.ne_of_gt (blk_lt (g := gb385) (o := .cells #[.int .u8 a0_0, .int .i64 a0_1, .int .i64 a0_2, .int .u64 a0_3, .int .u64 a0_4, .int .u64 a0_5] 45 (0, 0)) (by (with_reducible repeat (first | refine blk_drewN ?_ _ | refine blk_drew ?_ | refine blk_alloc ?_ _)); exact BK385.out)) : gb393 ≠ gb385)); have n9_ := Aside0.mk ((by rw [hg]; exact Nat.ne_of_lt (blk_lt (g := gb386) (o := .cells #[.int .u8 x387000_1, .int .i64 x387001_1, .int .i64 x387002_1] 134 (0, 0)) (by (with_reducible repeat (first | refine blk_drewN ?_ _ | refine blk_drew ?_ | refine blk_alloc ?_ _)); exact BK386.out)) : gb386 ≠ gb393)); have n10_ := Aside0.mk ((by rw [hg]; exact Nat.ne_of_gt (blk_lt (g := gb386) (o := .cells #[.int .u8 x387000_1, .int .i64 x387001_1, .int .i64 x387002_1] 134 (0, 0)) (by (with_reducible repeat (first | refine blk_drewN ?_ _ | refine blk_drew ?_ | refine blk_alloc ?_ _)); exact BK386.out)) : gb393 ≠ gb386)); have n11_ := Aside0.mk ((by rw [hg]; exact Nat.ne_of_lt (blk_lt (g := gb391) (o := .cells #[.int .u8 t387, .int .i64 t388, .int .i64 t389] 134 (0, 0)) (by (with_reducible repeat (first | refine blk_drewN ?_ _ | refine blk_drew ?_ | refine blk_alloc ?_ _)); exact BK391.out)) : gb391 ≠ gb393)); have n12_ := Aside0.mk ((by rw [hg]; exact Nat.ne_of_gt (blk_lt (g := gb391) (o := .cells #[.int .u8 t387, .int .i64 t388, .int .i64 t389] 134 (0, 0)) (by (with_reducible repeat (first | refine blk_drewN ?_ _ | refine blk_drew ?_ | refine blk_alloc ?_ _)); exact BK391.out)) : gb393 ≠ gb391)); clear BK385; clear BK386; clear BK391; clear HB; have BK385 := n0_; have BK386 := n1_; have BK391 := n2_; have HB := n3_; have BK393 := n4_; have GW393 := n5_; have GE393 := n6_; have NB385_393 := n7_; have NB393_385 := n8_; have NB386_393 := n9_; have NB393_386 := n10_; have NB391_393 := n11_; have NB393_391 := n12_; clear n0_ n1_ n2_ n3_ n4_ n5_ n6_ n7_ n8_ n9_ n10_ n11_ n12_; clear hb hbox hg; have hnb29 := NB393_385.out; have hnc29 := NB385_393.out; have hnb30 := NB393_386.out; have hnc30 := NB386_393.out; have hnb31 := NB393_391.out; have hnc31 := NB391_393.out; have hcz32_0 : w28.cell? ⟨gb393, 0, none⟩ = some (.int .i64 0) := (blk_cell BK393.out 0).trans rfl; have hcz32_1 : w28.cell? ⟨gb393, 1, none⟩ = some (.int .i64 0) := (blk_cell BK393.out 1).trans rfl; have hfz32_0 := blk_frozen BK393.out 0; have hfz32_1 := blk_frozen BK393.out 1; have hnb33 := NB391_385.out; have hnc33 := NB385_391.out; have hnb34 := NB391_386.out; have hnc34 := NB386_391.out; have hcz35_0 : w28.cell? ⟨gb391, 0, none⟩ = some (.int .u8 t387) := (blk_cell BK391.out 0).trans rfl; have hcz35_1 : w28.cell? ⟨gb391, 1, none⟩ = some (.int .i64 t388) := (blk_cell BK391.out 1).trans rfl; have hcz35_2 : w28.cell? ⟨gb391, 2, none⟩ = some (.int .i64 t389) := (blk_cell BK391.out 2).trans rfl; have hfz35_0 := blk_frozen BK391.out 0; have hfz35_1 := blk_frozen BK391.out 1; have hfz35_2 := blk_frozen BK391.out 2) | ((with_reducible refine gate_callee (f := 79) rfl ?_); refine goesL_ (some 26) rfl rfl Try.func79 (by kernel_rfl) rfl #[.agg #[.int .u8 t387, .int .i64 t388, .int .i64 t389], .agg #[.int .i64 ((rd_T47 l1 x20_1).f0), .int .i64 ((rd_T47 l1 x20_1).f1)]] rfl (by (try simp only [List.map_toArray, List.map_cons, List.map_nil]); first | done | rfl | (simp only [List.length_drop, List.length_take]; rfl)) ?_; (with_reducible refine (cover_tree_subset.calls k1 t387 t388 t389 ((rd_T47 l1 x20_1).f0) ((rd_T47 l1 x20_1).f1) false _ A17.out).mono ?_); rintro e w36 ⟨rfl, hb⟩; refine ⟨_, rfl, ?_⟩; have n0_ := Aside0.mk (blk_below (g := gb385) (o := .cells #[.int .u8 a0_0, .int .i64 a0_1, .int .i64 a0_2, .int .u64 a0_3, .int .u64 a0_4, .int .u64 a0_5] 45 (0, 0)) (by (with_reducible repeat (first | refine blk_drewN ?_ _ | refine blk_drew ?_ | refine blk_alloc ?_ _)); refine blk_far ?_ NB385_393.out _; (with_reducible repeat (first | refine blk_drewN ?_ _ | refine blk_drew ?_ | refine blk_alloc ?_ _)); refine blk_far ?_ NB385_393.out _; (with_reducible repeat (first | refine blk_drewN ?_ _ | refine blk_drew ?_ | refine blk_alloc ?_ _)); exact BK385.out) hb); have n1_ := Aside0.mk (blk_below (g := gb386) (o := .cells #[.int .u8 x387000_1, .int .i64 x387001_1, .int .i64 x387002_1] 134 (0, 0)) (by (with_reducible repeat (first | refine blk_drewN ?_ _ | refine blk_drew ?_ | refine blk_alloc ?_ _)); refine blk_far ?_ NB386_393.out _; (with_reducible repeat (first | refine blk_drewN ?_ _ | refine blk_drew ?_ | refine blk_alloc ?_ _)); refine blk_far ?_ NB386_393.out _; (with_reducible repeat (first | refine blk_drewN ?_ _ | refine blk_drew ?_ | refine blk_alloc ?_ _)); exact BK386.out) hb); have n2_ := Aside0.mk (blk_below (g := gb391) (o := .cells #[.int .u8 t387, .int .i64 t388, .int .i64 t389] 134 (0, 0)) (by (with_reducible repeat (first | refine blk_drewN ?_ _ | refine blk_drew ?_ | refine blk_alloc ?_ _)); refine blk_far ?_ NB391_393.out _; (with_reducible repeat (first | refine blk_drewN ?_ _ | refine blk_drew ?_ | refine blk_alloc ?_ _)); refine blk_far ?_ NB391_393.out _; (with_reducible repeat (first | refine blk_drewN ?_ _ | refine blk_drew ?_ | refine blk_alloc ?_ _)); exact BK391.out) hb); have n3_ := Aside0.mk (blk_below (g := gb393) (o := .cells #[.int .i64 ((rd_T47 l1 x20_1).f0), .int .i64 ((rd_T47 l1 x20_1).f1)] 47 (0, 0)) (by (with_reducible repeat (first | refine blk_drewN ?_ _ | refine blk_drew ?_ | refine blk_alloc ?_ _)); refine blk_put (cs := #[.int .i64 ((rd_T47 l1 x20_1).f0), .int .i64 0]) ?_ 1 _ rfl; (with_reducible repeat (first | refine blk_drewN ?_ _ | refine blk_drew ?_ | refine blk_alloc ?_ _)); refine blk_put (cs := #[.int .i64 0, .int .i64 0]) ?_ 0 _ rfl; (with_reducible repeat (first | refine blk_drewN ?_ _ | refine blk_drew ?_ | refine blk_alloc ?_ _)); exact BK393.out) hb); have n4_ := Aside0.mk (below_step (by repeat (first | (with_reducible first | exact HB.out | apply below_alloc | apply pw_below_drewN | apply below_drew1 | refine below_set ?_ GE385.out | refine below_set ?_ GE386.out | refine below_set ?_ GE391.out | refine below_set ?_ GE393.out) | exact HB.out)) hb); clear BK385; clear BK386; clear BK391; clear BK393; clear HB; have BK385 := n0_; have BK386 := n1_; have BK391 := n2_; have BK393 := n3_; have HB := n4_; clear n0_ n1_ n2_ n3_ n4_; (try clear hb); (try clear hb2); (try clear hk); (try clear hi); have hnb37 := NB386_385.out; have hnc37 := NB385_386.out; have hcz38_0 : w36.cell? ⟨gb386, 0, none⟩ = some (.int .u8 x387000_1) := (blk_cell BK386.out 0).trans rfl; have hcz38_1 : w36.cell? ⟨gb386, 1, none⟩ = some (.int .i64 x387001_1) := (blk_cell BK386.out 1).trans rfl; have hcz38_2 : w36.cell? ⟨gb386, 2, none⟩ = some (.int .i64 x387002_1) := (blk_cell BK386.out 2).trans rfl; have hfz38_0 := blk_frozen BK386.out 0; have hfz38_1 := blk_frozen BK386.out 1; have hfz38_2 := blk_frozen BK386.out 2))
                refine bodyPost_ret (results_ct rfl _ _ gb386 134 #[.int .u8 0, .int .i64 0, .int .i64 0] (0, 0) _ rfl (by (with_reducible repeat (first | refine blk_drewN ?_ _ | refine blk_drew ?_ | refine blk_alloc ?_ _)); refine blk_put (cs := #[.int .u8 0, .int .i64 0, .int .i64 x387002_1]) ?_ 2 _ rfl; (with_reducible repeat (first | refine blk_drewN ?_ _ | refine blk_drew ?_ | refine blk_alloc ?_ _)); refine blk_put (cs := #[.int .u8 0, .int .i64 x387001_1, .int .i64 x387002_1]) ?_ 1 _ rfl; (with_reducible repeat (first | refine blk_drewN ?_ _ | refine blk_drew ?_ | refine blk_alloc ?_ _)); refine blk_put (cs := #[.int .u8 x387000_1, .int .i64 x387001_1, .int .i64 x387002_1]) ?_ 0 _ rfl; (with_reducible repeat (first | refine blk_drewN ?_ _ | refine blk_drew ?_ | refine blk_alloc ?_ _)); exact BK386.out) Try.underlying134 rfl (by kernel_rfl)) rfl ?_
                exact ⟨by first | rfl | (simp [errW_none, errW_some] <;> rfl) | (simp [*, errW_none, errW_some] <;> rfl), by repeat (first | (with_reducible first | exact HB.out | apply below_alloc | apply pw_below_drewN | apply below_drew1 | refine below_set ?_ GE385.out | refine below_set ?_ GE386.out | refine below_set ?_ GE391.out | refine below_set ?_ GE393.out) | exact HB.out)⟩
            · rw [if_neg c16] at H
              exact absurd H (by simp)
          · rw [if_neg c15] at H
            exact absurd H (by simp)
        · rw [if_neg c14] at H
          have c14b0 : decide (x20_1 < (l1.length : Int)) = false := decide_eq_false c14
          clear c14
          simp only [Option.some.injEq, Prod.mk.injEq] at H
          obtain ⟨rfl, rfl, rfl, rfl⟩ := H
          have hnb39 := NB391_385.out
          have hnc39 := NB385_391.out
          have hnb40 := NB391_386.out
          have hnc40 := NB386_391.out
          have hcz41_0 : wr.cell? ⟨gb391, 0, none⟩ = some (.int .u8 t387) := (blk_cell BK391.out 0).trans rfl
          have hcz41_1 : wr.cell? ⟨gb391, 1, none⟩ = some (.int .i64 t388) := (blk_cell BK391.out 1).trans rfl
          have hcz41_2 : wr.cell? ⟨gb391, 2, none⟩ = some (.int .i64 t389) := (blk_cell BK391.out 2).trans rfl
          have hfz41_0 := blk_frozen BK391.out 0
          have hfz41_1 := blk_frozen BK391.out 1
          have hfz41_2 := blk_frozen BK391.out 2
          have hnb42 := NB386_385.out
          have hnc42 := NB385_386.out
          have hcz43_0 : wr.cell? ⟨gb386, 0, none⟩ = some (.int .u8 x387000_1) := (blk_cell BK386.out 0).trans rfl
          have hcz43_1 : wr.cell? ⟨gb386, 1, none⟩ = some (.int .i64 x387001_1) := (blk_cell BK386.out 1).trans rfl
          have hcz43_2 : wr.cell? ⟨gb386, 2, none⟩ = some (.int .i64 x387002_1) := (blk_cell BK386.out 2).trans rfl
          have hfz43_0 := blk_frozen BK386.out 0
          have hfz43_1 := blk_frozen BK386.out 1
          have hfz43_2 := blk_frozen BK386.out 2
          go_wp2
          refine bodyPost_ret (results_ct rfl _ _ gb386 134 #[.int .u8 t387, .int .i64 t388, .int .i64 t389] (0, 0) _ rfl (by (with_reducible repeat (first | refine blk_drewN ?_ _ | refine blk_drew ?_ | refine blk_alloc ?_ _)); refine blk_put (cs := #[.int .u8 t387, .int .i64 t388, .int .i64 x387002_1]) ?_ 2 _ rfl; (with_reducible repeat (first | refine blk_drewN ?_ _ | refine blk_drew ?_ | refine blk_alloc ?_ _)); refine blk_put (cs := #[.int .u8 t387, .int .i64 x387001_1, .int .i64 x387002_1]) ?_ 1 _ rfl; (with_reducible repeat (first | refine blk_drewN ?_ _ | refine blk_drew ?_ | refine blk_alloc ?_ _)); refine blk_put (cs := #[.int .u8 x387000_1, .int .i64 x387001_1, .int .i64 x387002_1]) ?_ 0 _ rfl; (with_reducible repeat (first | refine blk_drewN ?_ _ | refine blk_drew ?_ | refine blk_alloc ?_ _)); exact BK386.out) Try.underlying134 rfl (by kernel_rfl)) rfl ?_
          exact ⟨by first | rfl | (simp [errW_none, errW_some] <;> rfl) | (simp [*, errW_none, errW_some] <;> rfl), by repeat (first | (with_reducible first | exact HB.out | apply below_alloc | apply pw_below_drewN | apply below_drew1 | refine below_set ?_ GE385.out | refine below_set ?_ GE386.out | refine below_set ?_ GE391.out) | exact HB.out)⟩
  · replace c4 := Bool.eq_false_iff.mpr c4
    subst c4
    have H1 : (some (0, 0, 0, 30)) = some (r1, r2, r3, r4) := by rw [if_neg (show ¬ (false = true) by decide)] at H; exact H
    clear H
    have H := H1
    clear H1
    simp only [Option.some.injEq, Prod.mk.injEq] at H
    obtain ⟨rfl, rfl, rfl, rfl⟩ := H
    go_enter Try.func74, Try.ntmps74
    go_wp2_with (first | ((with_reducible refine gate_dst (N := 2) rfl ?_); refine box_event ?hg (N := 2) ?hd (cs := #[.int .u8 a0_0, .int .i64 a0_1, .int .i64 a0_2, .int .u64 a0_3, .int .u64 a0_4, .int .u64 a0_5]) (t := 45) ?hr ?_; (case hd => rfl); (case hg => rfl); (case hr => first | (go_simp; done) | (go_simp; rfl)); intro gb385 hg w44 hbox hb; have n0_ := Aside0.mk (below_step (by repeat (first | (with_reducible first | exact HB.out | apply below_alloc | apply pw_below_drewN | apply below_drew1) | exact HB.out)) hb); have n1_ := Aside0.mk (hbox); have n2_ := Aside0.mk ((by rw [hg]; exact (below_size (by repeat (first | (with_reducible first | exact HB.out | apply below_alloc | apply pw_below_drewN | apply below_drew1) | exact HB.out))) : w.heap.size ≤ gb385)); have n3_ := Aside0.mk ((by rw [hg]; exact (below_size (by repeat (first | (with_reducible first | exact HB.out | apply below_alloc | apply pw_below_drewN | apply below_drew1) | exact HB.out))) : w.heap.size ≤ gb385)); clear HB; have HB := n0_; have BK385 := n1_; have GW385 := n2_; have GE385 := n3_; clear n0_ n1_ n2_ n3_; clear hb hbox hg) | ((with_reducible refine gate_dst (N := 4) rfl ?_); refine box_event ?hg (N := 4) ?hd (cs := #[.int .u8 0, .int .i64 0, .int .i64 0]) (t := 134) ?hr ?_; (case hd => rfl); (case hg => rfl); (case hr => first | (go_simp; done) | (go_simp; rfl)); intro gb386 hg w45 hbox hb; have n0_ := Aside0.mk (blk_below (g := gb385) (o := .cells #[.int .u8 a0_0, .int .i64 a0_1, .int .i64 a0_2, .int .u64 a0_3, .int .u64 a0_4, .int .u64 a0_5] 45 (0, 0)) (by (with_reducible repeat (first | refine blk_drewN ?_ _ | refine blk_drew ?_ | refine blk_alloc ?_ _)); exact BK385.out) hb); have n1_ := Aside0.mk (below_step (by repeat (first | (with_reducible first | exact HB.out | apply below_alloc | apply pw_below_drewN | apply below_drew1 | refine below_set ?_ GE385.out) | exact HB.out)) hb); have n2_ := Aside0.mk (hbox); have n3_ := Aside0.mk ((by rw [hg]; exact (below_size (by repeat (first | (with_reducible first | exact HB.out | apply below_alloc | apply pw_below_drewN | apply below_drew1 | refine below_set ?_ GE385.out) | exact HB.out))) : w.heap.size ≤ gb386)); have n4_ := Aside0.mk ((by rw [hg]; exact (below_size (by repeat (first | (with_reducible first | exact HB.out | apply below_alloc | apply pw_below_drewN | apply below_drew1 | refine below_set ?_ GE385.out) | exact HB.out))) : w.heap.size ≤ gb386)); have n5_ := Aside0.mk ((by rw [hg]; exact Nat.ne_of_lt (blk_lt (g := gb385) (o := .cells #[.int .u8 a0_0, .int .i64 a0_1, .int .i64 a0_2, .int .u64 a0_3, .int .u64 a0_4, .int .u64 a0_5] 45 (0, 0)) (by (with_reducible repeat (first | refine blk_drewN ?_ _ | refine blk_drew ?_ | refine blk_alloc ?_ _)); exact BK385.out)) : gb385 ≠ gb386)); have n6_ := Aside0.mk ((by rw [hg]; exact Nat.ne_of_gt (blk_lt (g := gb385) (o := .cells #[.int .u8 a0_0, .int .i64 a0_1, .int .i64 a0_2, .int .u64 a0_3, .int .u64 a0_4, .int .u64 a0_5] 45 (0, 0)) (by (with_reducible repeat (first | refine blk_drewN ?_ _ | refine blk_drew ?_ | refine blk_alloc ?_ _)); exact BK385.out)) : gb386 ≠ gb385)); clear BK385; clear HB; have BK385 := n0_; have HB := n1_; have BK386 := n2_; have GW386 := n3_; have GE386 := n4_; have NB385_386 := n5_; have NB386_385 := n6_; clear n0_ n1_ n2_ n3_ n4_ n5_ n6_; clear hb hbox hg; have hnb46 := NB385_386.out; have hnc46 := NB386_385.out; have hcz47_0 : w45.cell? ⟨gb385, 0, none⟩ = some (.int .u8 a0_0) := (blk_cell BK385.out 0).trans rfl; have hcz47_1 : w45.cell? ⟨gb385, 1, none⟩ = some (.int .i64 a0_1) := (blk_cell BK385.out 1).trans rfl; have hcz47_2 : w45.cell? ⟨gb385, 2, none⟩ = some (.int .i64 a0_2) := (blk_cell BK385.out 2).trans rfl; have hcz47_3 : w45.cell? ⟨gb385, 3, none⟩ = some (.int .u64 a0_3) := (blk_cell BK385.out 3).trans rfl; have hcz47_4 : w45.cell? ⟨gb385, 4, none⟩ = some (.int .u64 a0_4) := (blk_cell BK385.out 4).trans rfl; have hcz47_5 : w45.cell? ⟨gb385, 5, none⟩ = some (.int .u64 a0_5) := (blk_cell BK385.out 5).trans rfl; have hfz47_0 := blk_frozen BK385.out 0; have hfz47_1 := blk_frozen BK385.out 1; have hfz47_2 := blk_frozen BK385.out 2; have hfz47_3 := blk_frozen BK385.out 3; have hfz47_4 := blk_frozen BK385.out 4; have hfz47_5 := blk_frozen BK385.out 5) | ((with_reducible refine gate_callee (f := 84) rfl ?_); refine goesL_ (some 12) rfl rfl Try.func84 (by kernel_rfl) rfl #[.agg #[.int .u8 a0_0, .int .i64 a0_1, .int .i64 a0_2, .int .u64 a0_3, .int .u64 a0_4, .int .u64 a0_5]] rfl (by (try simp only [List.map_toArray, List.map_cons, List.map_nil]); first | done | rfl | (simp only [List.length_drop, List.length_take]; rfl)) ?_; (with_reducible refine (cover_treeOf.calls k a0_0 a0_1 a0_2 a0_3 a0_4 a0_5 t387 t388 t389 false _ A3.out).mono ?_); rintro e w48 ⟨rfl, hb⟩; refine ⟨_, rfl, ?_⟩; have n0_ := Aside0.mk (blk_below (g := gb385) (o := .cells #[.int .u8 a0_0, .int .i64 a0_1, .int .i64 a0_2, .int .u64 a0_3, .int .u64 a0_4, .int .u64 a0_5] 45 (0, 0)) (by (with_reducible repeat (first | refine blk_drewN ?_ _ | refine blk_drew ?_ | refine blk_alloc ?_ _)); exact BK385.out) hb); have n1_ := Aside0.mk (blk_below (g := gb386) (o := .cells #[.int .u8 0, .int .i64 0, .int .i64 0] 134 (0, 0)) (by (with_reducible repeat (first | refine blk_drewN ?_ _ | refine blk_drew ?_ | refine blk_alloc ?_ _)); exact BK386.out) hb); have n2_ := Aside0.mk (below_step (by repeat (first | (with_reducible first | exact HB.out | apply below_alloc | apply pw_below_drewN | apply below_drew1 | refine below_set ?_ GE385.out | refine below_set ?_ GE386.out) | exact HB.out)) hb); clear BK385; clear BK386; clear HB; have BK385 := n0_; have BK386 := n1_; have HB := n2_; clear n0_ n1_ n2_; (try clear hb); (try clear hb2); (try clear hk); (try clear hi)) | ((with_reducible refine gate_dst (N := 6) rfl ?_); refine box_event ?hg (N := 6) ?hd (cs := #[.int .u8 0, .int .i64 0, .int .i64 0]) (t := 134) ?hr ?_; (case hd => rfl); (case hg => rfl); (case hr => first | (go_simp; done) | (go_simp; rfl)); intro gb391 hg w49 hbox hb; have n0_ := Aside0.mk (blk_below (g := gb385) (o := .cells #[.int .u8 a0_0, .int .i64 a0_1, .int .i64 a0_2, .int .u64 a0_3, .int .u64 a0_4, .int .u64 a0_5] 45 (0, 0)) (by (with_reducible repeat (first | refine blk_drewN ?_ _ | refine blk_drew ?_ | refine blk_alloc ?_ _)); exact BK385.out) hb); have n1_ := Aside0.mk (blk_below (g := gb386) (o := .cells #[.int .u8 0, .int .i64 0, .int .i64 0] 134 (0, 0)) (by (with_reducible repeat (first | refine blk_drewN ?_ _ | refine blk_drew ?_ | refine blk_alloc ?_ _)); exact BK386.out) hb); have n2_ := Aside0.mk (below_step (by repeat (first | (with_reducible first | exact HB.out | apply below_alloc | apply pw_below_drewN | apply below_drew1 | refine below_set ?_ GE385.out | refine below_set ?_ GE386.out) | exact HB.out)) hb); have n3_ := Aside0.mk (hbox); have n4_ := Aside0.mk ((by rw [hg]; exact (below_size (by repeat (first | (with_reducible first | exact HB.out | apply below_alloc | apply pw_below_drewN | apply below_drew1 | refine below_set ?_ GE385.out | refine below_set ?_ GE386.out) | exact HB.out))) : w.heap.size ≤ gb391)); have n5_ := Aside0.mk ((by rw [hg]; exact (below_size (by repeat (first | (with_reducible first | exact HB.out | apply below_alloc | apply pw_below_drewN | apply below_drew1 | refine below_set ?_ GE385.out | refine below_set ?_ GE386.out) | exact HB.out))) : w.heap.size ≤ gb391)); have n6_ := Aside0.mk ((by rw [hg]; exact Nat.ne_of_lt (blk_lt (g := gb385) (o := .cells #[.int .u8 a0_0, .int .i64 a0_1, .int .i64 a0_2, .int .u64 a0_3, .int .u64 a0_4, .int .u64 a0_5] 45 (0, 0)) (by (with_reducible repeat (first | refine blk_drewN ?_ _ | refine blk_drew ?_ | refine blk_alloc ?_ _)); exact BK385.out)) : gb385 ≠ gb391)); have n7_ := Aside0.mk ((by rw [hg]; exact Nat.ne_of_gt (blk_lt (g := gb385) (o := .cells #[.int .u8 a0_0, .int .i64 a0_1, .int .i64 a0_2, .int .u64 a0_3, .int .u64 a0_4, .int .u64 a0_5] 45 (0, 0)) (by (with_reducible repeat (first | refine blk_drewN ?_ _ | refine blk_drew ?_ | refine blk_alloc ?_ _)); exact BK385.out)) : gb391 ≠ gb385)); have n8_ := Aside0.mk ((by rw [hg]; exact Nat.ne_of_lt (blk_lt (g := gb386) (o := .cells #[.int .u8 0, .int .i64 0, .int .i64 0] 134 (0, 0)) (by (with_reducible repeat (first | refine blk_drewN ?_ _ | refine blk_drew ?_ | refine blk_alloc ?_ _)); exact BK386.out)) : gb386 ≠ gb391)); have n9_ := Aside0.mk ((by rw [hg]; exact Nat.ne_of_gt (blk_lt (g := gb386) (o := .cells #[.int .u8 0, .int .i64 0, .int .i64 0] 134 (0, 0)) (by (with_reducible repeat (first | refine blk_drewN ?_ _ | refine blk_drew ?_ | refine blk_alloc ?_ _)); exact BK386.out)) : gb391 ≠ gb386)); clear BK385; clear BK386; clear HB; have BK385 := n0_; have BK386 := n1_; have HB := n2_; have BK391 := n3_; have GW391 := n4_; have GE391 := n5_; have NB385_391 := n6_; have NB391_385 := n7_; have NB386_391 := n8_; have NB391_386 := n9_; clear n0_ n1_ n2_ n3_ n4_ n5_ n6_ n7_ n8_ n9_; clear hb hbox hg; have hnb50 := NB391_385.out; have hnc50 := NB385_391.out; have hnb51 := NB391_386.out; have hnc51 := NB386_391.out; have hcz52_0 : w49.cell? ⟨gb391, 0, none⟩ = some (.int .u8 0) := (blk_cell BK391.out 0).trans rfl; have hcz52_1 : w49.cell? ⟨gb391, 1, none⟩ = some (.int .i64 0) := (blk_cell BK391.out 1).trans rfl; have hcz52_2 : w49.cell? ⟨gb391, 2, none⟩ = some (.int .i64 0) := (blk_cell BK391.out 2).trans rfl; have hfz52_0 := blk_frozen BK391.out 0; have hfz52_1 := blk_frozen BK391.out 1; have hfz52_2 := blk_frozen BK391.out 2; have hcz53_0 : w49.cell? ⟨gb386, 0, none⟩ = some (.int .u8 0) := (blk_cell BK386.out 0).trans rfl; have hcz53_1 : w49.cell? ⟨gb386, 1, none⟩ = some (.int .i64 0) := (blk_cell BK386.out 1).trans rfl; have hcz53_2 : w49.cell? ⟨gb386, 2, none⟩ = some (.int .i64 0) := (blk_cell BK386.out 2).trans rfl; have hfz53_0 := blk_frozen BK386.out 0; have hfz53_1 := blk_frozen BK386.out 1; have hfz53_2 := blk_frozen BK386.out 2))
    refine bodyPost_ret (results_ct rfl _ _ gb386 134 #[.int .u8 0, .int .i64 0, .int .i64 0] (0, 0) _ rfl (by (with_reducible repeat (first | refine blk_drewN ?_ _ | refine blk_drew ?_ | refine blk_alloc ?_ _)); refine blk_put (cs := #[.int .u8 0, .int .i64 0, .int .i64 0]) ?_ 2 _ rfl; (with_reducible repeat (first | refine blk_drewN ?_ _ | refine blk_drew ?_ | refine blk_alloc ?_ _)); refine blk_put (cs := #[.int .u8 0, .int .i64 0, .int .i64 0]) ?_ 1 _ rfl; (with_reducible repeat (first | refine blk_drewN ?_ _ | refine blk_drew ?_ | refine blk_alloc ?_ _)); refine blk_put (cs := #[.int .u8 0, .int .i64 0, .int .i64 0]) ?_ 0 _ rfl; (with_reducible repeat (first | refine blk_drewN ?_ _ | refine blk_drew ?_ | refine blk_alloc ?_ _)); refine blk_far ?_ NB386_391.out _; (with_reducible repeat (first | refine blk_drewN ?_ _ | refine blk_drew ?_ | refine blk_alloc ?_ _)); refine blk_far ?_ NB386_391.out _; (with_reducible repeat (first | refine blk_drewN ?_ _ | refine blk_drew ?_ | refine blk_alloc ?_ _)); refine blk_far ?_ NB386_391.out _; (with_reducible repeat (first | refine blk_drewN ?_ _ | refine blk_drew ?_ | refine blk_alloc ?_ _)); exact BK386.out) Try.underlying134 rfl (by kernel_rfl)) rfl ?_
    exact ⟨by first | rfl | (simp [errW_none, errW_some] <;> rfl) | (simp [*, errW_none, errW_some] <;> rfl), by repeat (first | (with_reducible first | exact HB.out | apply below_alloc | apply pw_below_drewN | apply below_drew1 | refine below_set ?_ GE385.out | refine below_set ?_ GE386.out | refine below_set ?_ GE391.out) | exact HB.out)⟩
end Go.Proofs.Ytafhimeoijmolaa.G
namespace Go.Proofs.Ytafhimeoijmolaa.G
open Go.RowKit Go.Proofs.YtafhimeoijmolaaW.PrintWords Go.Proofs.YtafhimeoijmolaaW.PrintLast Go.Proofs.YtafhimeoijmolaaW.PrintMore
set_option linter.unusedVariables false
set_option linter.unusedSimpArgs false
theorem blk_new (w : World) (o : Obj) : (w.alloc o).heap[w.heap.size]? = some o := World.alloc_heap_new w o
theorem blk_to {w w' : World} {g : Nat} {o : Obj} (h : w.heap[g]? = some o) (hb : Below w.heap.size w w') : w'.heap[g]? = some o := (hb.block g (Array.getElem?_eq_some_iff.1 h).1).trans h
end Go.Proofs.Ytafhimeoijmolaa.G
namespace Go.Proofs.Ytafhimeoijmolaa.K
open Go.RowKit  Go.Proofs.YtafhimeoijmolaaW.PrintWords Go.Proofs.YtafhimeoijmolaaW.PrintLast Go.Proofs.YtafhimeoijmolaaW.PrintMore Go.Proofs.Ytafhimeoijmolaa.G
set_option linter.unusedVariables false
set_option linter.unusedSimpArgs false
theorem ret_key {fn : Func} {g : Nat} {K : S26} {t : TypeId} {tmps : Array Value} {W : World} {p u : Tmp} {v : Value} (h : fn.results = [ResultVar.cell p 26, ResultVar.tmp u].toArray) (hp : tmps.getD p undef = .pointer (some ⟨g, 0, none⟩)) (hu : tmps.getD u undef = v) (hg : W.heap[g]? = some (.cells (kc K) t (0, 0))) :
    (results fn tmps).run Try.prog W = .ok (.tuple #[kv K, v]) W := by
  subst hu
  exact results_list (rs := [.cell p 26, .tmp u]) h (by simp) (.cell g t (kc K) (0, 0) _ hp hg Try.underlying26 rfl (by kernel_rfl) (.tmp .nil))
end Go.Proofs.Ytafhimeoijmolaa.K
namespace Go.Proofs.Ytafhimeoijmolaa.K
open Go.RowKit  Go.Proofs.YtafhimeoijmolaaW.PrintWords Go.Proofs.YtafhimeoijmolaaW.PrintLast Go.Proofs.YtafhimeoijmolaaW.PrintMore Go.Proofs.Ytafhimeoijmolaa.G
set_option linter.unusedVariables false
set_option linter.unusedSimpArgs false
abbrev sv (r : Int) (A : Option Addr) (n c : Nat) (p q : Int) : Value := .agg #[.int .i64 r, .slice A n c, .int .u64 p, .int .u64 q]
abbrev sc (r : Int) (A : Option Addr) (n c : Nat) (p q : Int) : Array Value := #[.int .i64 r, .slice A n c, .int .u64 p, .int .u64 q]
def findF (a v t : Int) : List S83 → Option (S26 × Bool)
  | [] => some (z26, false)
  | l :: ls => (leadsF a l.f0 l.f1 v t).bind fun r => if r = true then (if a = 1 ∨ t = 0 then some (l.f2, true) else (pathF 9 l.f1 t).map fun xs => (derK (descK l.f2 xs) 33 0, true)) else findF a v t ls
theorem k83_cs {w : World} {l : S83} (c : List Value) (h : k83.K w l c) : c = (lc l.f0 l.f1 l.f2).toList := k83_open h
theorem drop_cons {α : Type} (l : List α) (i : Nat) (h : i < l.length) (z : α) : l.drop i = l.getD i z :: l.drop (i + 1) := by
  rw [List.drop_eq_getElem_cons h]; simp [h]
set_option maxHeartbeats 4000000 in
set_option maxRecDepth 100000 in
theorem find_calls (a b c rcv p q : Int) (A : Option Addr) (cap : Nat) (ls : List S83) (v t : Int) (r : S26 × Bool) (w : World) (hC : Kd.C k83 w A ls.length ls) (h : findF a v t ls = some r) :
    Calls Try.prog 107 #[.agg #[.int .u8 a, .int .i64 b, .int .i64 c], sv rcv A ls.length cap p q, .agg #[.int .i64 v, .int .i64 t]] w fun e w' => e = .returned (.tuple #[kv r.1, .bool r.2]) ∧ Below w.heap.size w w' := by
  obtain ⟨W0, hW0⟩ : ∃ W0, ((((w.alloc (.cells #[.int .u8 a, .int .i64 b, .int .i64 c] 134)).alloc (.cells (sc rcv A ls.length cap p q) 76)).alloc (.cells #[.int .i64 v, .int .i64 t] 47)).alloc (.cells (kc z26) 26)) = W0 := ⟨_, rfl⟩
  have B0 := Aside0.mk (show W0.heap[w.heap.size]? = some (.cells #[.int .u8 a, .int .i64 b, .int .i64 c] 134 (0, 0)) by rw [← hW0]; exact (blk_alloc (blk_alloc (blk_alloc (newAt rfl) _) _) _))
  have B1 := Aside0.mk (show W0.heap[w.heap.size + 1]? = some (.cells (sc rcv A ls.length cap p q) 76 (0, 0)) by rw [← hW0]; exact (blk_alloc (blk_alloc (newAt (by simp)) _) _))
  have B2 := Aside0.mk (show W0.heap[w.heap.size + 1 + 1]? = some (.cells #[.int .i64 v, .int .i64 t] 47 (0, 0)) by rw [← hW0]; exact (blk_alloc (newAt (by simp)) _))
  have B3 := Aside0.mk (show W0.heap[w.heap.size + 1 + 1 + 1]? = some (.cells (kc z26) 26 (0, 0)) by rw [← hW0]; exact (newAt (by simp)))
  have BB := Aside0.mk (show Below w.heap.size w W0 by rw [← hW0]; exact (((((Below.refl _ w).alloc (Nat.le_refl _) _).alloc (by simp) _).alloc (by simp; omega) _).alloc (by simp; omega) _))
  have BBs := Aside0.mk (show w.heap.size + 4 = W0.heap.size by rw [← hW0]; simp)
  have HW := Aside0.mk hW0
  clear hW0
  have hlen : ls.length ≤ 9223372036854775807 := hC.2.1
  have H0 := Aside0.mk h
  have HC := Aside0.mk (show Kd.C k83 W0 A ls.length ls by rw [← HW.out]; exact Kd.C_below hC (((((Below.refl _ w).alloc (Nat.le_refl _) _).alloc (by simp) _).alloc (by simp; omega) _).alloc (by simp; omega) _))
  have HL := Aside0.mk hlen
  clear hC h
  go_enter Try.func107, Try.ntmps107
  go_wp2
  show Code.wp _ _ _ _ ((((w.alloc (.cells #[.int .u8 a, .int .i64 b, .int .i64 c] 134)).alloc (.cells (sc rcv A ls.length cap p q) 76)).alloc (.cells #[.int .i64 v, .int .i64 t] 47)).alloc (.cells (kc z26) 26))
  rw [HW.out]
  go_loopg [13] ls.length (fun kq v13 w' => ∃ i : Nat, v13 = .int .i64 (i : Int) ∧ Aside0 (i + kq = ls.length) ∧ Aside0 (findF a v t (ls.drop i) = some r) ∧ Aside0 (Below W0.heap.size W0 w'))
  case atStart => exact ⟨0, rfl, ⟨by omega⟩, ⟨H0.out⟩, ⟨Below.refl _ _⟩⟩
  case round =>
    obtain ⟨i, rfl, HI, HF, HB⟩ := hrel
    have C0 := Aside0.mk (blk_to B0.out HB.out); have C2 := Aside0.mk (blk_to B2.out HB.out); have C3 := Aside0.mk (blk_to B3.out HB.out)
    have CB := Aside0.mk (BB.out.trans (HB.out.mono BB.out.size))
    have CC := Aside0.mk (Kd.C_below HC.out HB.out)
    have CS := Aside0.mk (show w.heap.size + 4 ≤ wr.heap.size by have := HB.out.size; have := BBs.out; omega)
    have HB0 := HB
    clear HB B0 B1 B2 B3 BB BBs HW H0 HC hlen
    by_cases hi : i < ls.length
    · have HI' := Aside0.mk hi
      obtain ⟨l, hl⟩ : ∃ l, l = ls.getD i z83 := ⟨_, rfl⟩
      have HLl := Aside0.mk hl
      have hf := HF.out
      rw [drop_cons ls i hi z83, ← hl] at hf
      simp only [findF] at hf
      obtain ⟨q1, hq1, hf⟩ := Option.bind_eq_some_iff.mp hf
      have HQ := Aside0.mk hq1
      have HF2 := Aside0.mk hf
      obtain ⟨ad, cc, rfl, -⟩ := Kd.C_get CC.out z83 (i : Int) (by omega) (by omega)
      have b1 : (i : Int) < (ls.length : Int) := by omega
      have b2 : (ls.length : Int) ≤ 9223372036854775807 := by have := HL.out; omega
      clear hl hf hq1 hi HF
      have hcs : w.heap.size + 4 ≤ wr.heap.size := CS.out
      go_wp2_with (first
        | ((with_reducible refine ldC rfl rfl CC.out i z83 (lc l.f0 l.f1 l.f2).toList 18 ?_ ?_ ?_ ?_ ?_ ?_); rfl; exact HI'.out; (rw [← HLl.out]; exact k83_cs); exact row83; rfl)
        | (((with_reducible refine stR rfl rfl (newAt rfl) (lc l.f0 l.f1 l.f2) ?_ ?_ ?_ ?_ ?_ ?_); rfl; rfl; exact row83; rfl; rfl; intro W2 P1); have D0 := Aside0.mk (P1.blk (blk_alloc C0.out _) (by omega)); have D2 := Aside0.mk (P1.blk (blk_alloc C2.out _) (by omega)); have D3 := Aside0.mk (P1.blk (blk_alloc C3.out _) (by omega)); have D1 := Aside0.mk P1.at_; have DB := Aside0.mk (P1.below (CB.out.alloc CB.out.size _) (by omega)); have DW := Aside0.mk (show Below wr.heap.size wr W2 from P1.below ((Below.refl _ wr).alloc (Nat.le_refl _) _) (Nat.le_refl _)); clear P1)
        | ((with_reducible refine ldR rfl rfl D0.out ?_ ?_ ?_); rfl; exact row134)
        | ((with_reducible refine ldR rfl rfl D1.out ?_ ?_ ?_); rfl; exact row83)
        | ((with_reducible refine ldR rfl rfl D2.out ?_ ?_ ?_); rfl; exact row47))
      go_at_call 97
      refine (leads_calls a b c l.f0 l.f1 l.f2 v t q1 HQ.out _).mono ?_
      rintro e1 w1 ⟨rfl, hb1⟩
      have E0 := Aside0.mk (blk_to D0.out hb1)
      have E1 := Aside0.mk (blk_to D1.out hb1)
      have E2 := Aside0.mk (blk_to D2.out hb1)
      have E3 := Aside0.mk (blk_to D3.out hb1)
      have EB := Aside0.mk (DB.out.trans (hb1.mono DB.out.size))
      have EW := Aside0.mk (DW.out.trans (hb1.mono DW.out.size))
      clear hb1
      cases q1
      · have hf := HF2.out
        simp only [Bool.false_eq_true, if_false] at hf
        have HF3 := Aside0.mk hf
        clear hf
        go_wp2
        obtain ⟨gq, rfl⟩ : ∃ gq, gk = gq + 1 := ⟨gk - 1, by have := HI'.out; have := HI.out; omega⟩
        go_roundg gq
        case measure => omega
        case rel => exact ⟨i + 1, by simp, ⟨by have := HI.out; omega⟩, ⟨HF3.out⟩, ⟨HB0.out.trans (EW.out.mono HB0.out.size)⟩⟩
      · have hf := HF2.out
        simp only [if_true] at hf
        have a0 := cat E0.out 0 (.int .u8 a) rfl
        have a1 := cat E2.out 1 (.int .i64 t) rfl
        have a2 := cat E1.out 1 (.int .i64 l.f1) rfl
        by_cases hd : a = 1 ∨ t = 0
        · rw [if_pos hd] at hf
          have HR := Aside0.mk (Option.some.inj hf).symm
          have fin : ∀ (b1 : (a == 1) = true ∨ ((a == 1) = false ∧ (t == 0) = true)), True := fun _ => trivial
          by_cases ha : a = 1
          · have b3 : (a == 1) = true := beq_iff_eq.mpr ha
            clear hf hd ha fin
            go_wp2_with (first | ((with_reducible refine ldM rfl rfl E1.out 2 (kc l.f2) ?_ ?_ ?_ ?_); rfl; exact row26; rfl) | ((with_reducible refine stR rfl rfl E3.out (kc l.f2) ?_ ?_ ?_ ?_ ?_ ?_); rfl; rfl; exact row26; rfl; rfl; intro W3 P1))
            refine bodyPost_ret (ret_key rfl rfl rfl P1.at_) rfl ?_
            exact ⟨by rw [HR.out]; rfl, P1.below EB.out (by omega)⟩
          · have b3 : (a == 1) = false := beq_eq_false_iff_ne.mpr ha
            have b4 : (t == 0) = true := beq_iff_eq.mpr (hd.resolve_left ha)
            clear hf hd ha fin
            go_wp2_with (first | ((with_reducible refine ldM rfl rfl E1.out 2 (kc l.f2) ?_ ?_ ?_ ?_); rfl; exact row26; rfl) | ((with_reducible refine stR rfl rfl E3.out (kc l.f2) ?_ ?_ ?_ ?_ ?_ ?_); rfl; rfl; exact row26; rfl; rfl; intro W3 P1))
            refine bodyPost_ret (ret_key rfl rfl rfl P1.at_) rfl ?_
            exact ⟨by rw [HR.out]; rfl, P1.below EB.out (by omega)⟩
        · rw [if_neg hd] at hf
          obtain ⟨xs, hx, hr⟩ := Option.map_eq_some_iff.mp hf
          have HR := Aside0.mk hr.symm
          have HX := Aside0.mk hx
          have b3 : (a == 1) = false := beq_eq_false_iff_ne.mpr (fun e => hd (.inl e))
          have b4 : (t == 0) = false := beq_eq_false_iff_ne.mpr (fun e => hd (.inr e))
          clear hf hd hx hr
          go_wp2_with (first
            | ((with_reducible refine ldM rfl rfl E1.out 2 (kc l.f2) ?_ ?_ ?_ ?_); rfl; exact row26; rfl)
            | (go_at_call 93; refine (descend_calls l.f2 l.f1 t xs 9 HX.out _).mono ?_; rintro e2 w2 ⟨rfl, hb2⟩; obtain ⟨K2, hK⟩ : ∃ K2, K2 = descK l.f2 xs := ⟨_, rfl⟩; rw [← hK]; have HK2 := Aside0.mk hK; have HB2 := Aside0.mk hb2; clear hK hb2)
            | (go_at_call 135; refine (middle_calls K2 _).mono ?_; rintro e3 w3 ⟨rfl, hb3⟩; obtain ⟨K3, hK⟩ : ∃ K3, K3 = derK K2 33 0 := ⟨_, rfl⟩; rw [← hK]; have HK3 := Aside0.mk hK; have HB3 := Aside0.mk hb3; clear hK hb3)
            | ((with_reducible refine stR rfl rfl (blk_to (blk_to E3.out HB2.out) HB3.out) (kc K3) ?_ ?_ ?_ ?_ ?_ ?_); rfl; rfl; exact row26; rfl; rfl; intro W3 P1))
          refine bodyPost_ret (ret_key rfl rfl rfl P1.at_) rfl ?_
          have hb2 : Below w.heap.size w w2 := EB.out.trans (HB2.out.mono EB.out.size)
          exact ⟨by rw [HR.out, HK3.out, HK2.out]; rfl, P1.below (hb2.trans (HB3.out.mono hb2.size)) (by omega)⟩
    · have hi2 : i = ls.length := by have := HI.out; omega
      subst hi2
      have hf := HF.out
      rw [List.drop_length] at hf
      simp only [findF, Option.some.injEq] at hf
      have HR := Aside0.mk hf.symm
      clear hf HF
      go_wp2_with (first | ((with_reducible refine stR rfl rfl C3.out (kc z26) ?_ ?_ ?_ ?_ ?_ ?_); rfl; rfl; exact row26; rfl; rfl; intro W3 P1))
      refine bodyPost_ret (ret_key rfl rfl rfl P1.at_) rfl ?_
      exact ⟨by rw [HR.out]; rfl, P1.below CB.out (by omega)⟩
end Go.Proofs.Ytafhimeoijmolaa.K
namespace Go.Proofs.Ytafhimeoijmolaa.K
open Go.RowKit Go.Shelf Go.Lib Go.Proofs.YtafhimeoijmolaaW.PrintWords Go.Proofs.YtafhimeoijmolaaW.PrintLast Go.Proofs.YtafhimeoijmolaaW.PrintMore Go.Proofs.Ytafhimeoijmolaa.G
set_option linter.unusedVariables false
set_option linter.unusedSimpArgs false
instance instInh111 : Inhabited S111 := ⟨z111⟩
theorem addr_at (g o i : Nat) : (⟨g, o, none⟩ : Addr).add i = ⟨g, o + i, none⟩ := by
  unfold Addr.add
  split
  · next h => subst h; rfl
  · rfl
theorem odd_pred (k d s : Int) (kk : Nat) (sub : S47 → Bool) (hsub : ∀ x : S111, cover_tree_subset.f kk k d s x.f0.f0 x.f0.f1 = some (sub x.f0)) (g : Nat) (w : World) (hb : w.heap[g]? = some (.cells #[.int .u8 k, .int .i64 d, .int .i64 s] 134 (0, 0))) :
    PredBelow Try.prog 105 #[.pointer (some ⟨g, 0, none⟩)] (fun x : S111 => .agg (lc x.f0.f0 x.f0.f1 x.f1).toList.toArray) (fun x => !sub x.f0) w := fun W x hB => by
  have hg : g < w.heap.size := (Array.getElem?_eq_some_iff.1 hb).1
  have B1 := Aside0.mk (show (W.alloc (.cells (lc x.f0.f0 x.f0.f1 x.f1) 111)).heap[g]? = some (.cells #[.int .u8 k, .int .i64 d, .int .i64 s] 134 (0, 0)) from blk_alloc ((hB.block g hg).trans hb) _)
  have B2 := Aside0.mk (show (W.alloc (.cells (lc x.f0.f0 x.f0.f1 x.f1) 111)).heap[W.heap.size]? = some (.cells (lc x.f0.f0 x.f0.f1 x.f1) 111 (0, 0)) from newAt rfl)
  have HB := Aside0.mk (show Below w.heap.size w (W.alloc (.cells (lc x.f0.f0 x.f0.f1 x.f1) 111)) from hB.alloc hB.size _)
  have H := Aside0.mk (hsub x)
  obtain ⟨q, hq⟩ : ∃ q, q = sub x.f0 := ⟨_, rfl⟩
  show Calls Try.prog 105 #[lv x.f0.f0 x.f0.f1 x.f1, .pointer (some ⟨g, 0, none⟩)] W (fun e w' => e = .returned (.bool (!sub x.f0)) ∧ Below w.heap.size w w')
  rw [← hq] at H ⊢
  clear hB hb hq
  go_enter Try.func105, Try.ntmps105
  go_wp2_with (first | ((with_reducible refine ldR rfl rfl B1.out ?_ ?_ ?_); rfl; exact row134) | ((with_reducible refine ldM rfl rfl B2.out 0 (#[.int .i64 x.f0.f0, .int .i64 x.f0.f1]) ?_ ?_ ?_ ?_); rfl; exact row47; rfl))
  go_at_call 79
  refine (cover_tree_subset.calls kk k d s x.f0.f0 x.f0.f1 q _ H.out).mono ?_
  rintro e1 w1 ⟨rfl, hb1⟩
  go_wp2
  go_ret
  exact ⟨rfl, HB.out.trans (hb1.mono HB.out.size)⟩
set_option maxHeartbeats 4000000 in
set_option maxRecDepth 100000 in
theorem odd_nil (A : Option Addr) (c : Nat) (f : Value) (w : World) : Calls Try.prog 106 #[.slice A 0 c, f] w fun e w' => e = .returned (.bool false) ∧ Below w.heap.size w w' := by
  have hi : ∀ w, Calls Try.prog 145 #[.slice A 0 c, f] w fun e w' => e = .returned (.int .i64 (-1)) ∧ Below w.heap.size w w' := fun w => by
    go_enter Try.func145, Try.ntmps145
    go_wp2
    go_loopg [8] 0 (fun kq v w' => v = .int .i64 0 ∧ w' = w)
    case atStart => exact ⟨rfl, rfl⟩
    case round =>
      obtain ⟨rfl, rfl⟩ := hrel
      go_wp2
      go_ret
      exact ⟨rfl, Below.refl _ _⟩
  go_enter Try.func106, Try.ntmps106
  go_wp2_with fail
  go_at_call 145
  refine (hi _).mono ?_
  rintro e1 w1 ⟨rfl, hb1⟩
  go_wp2
  go_ret
  exact ⟨rfl, hb1⟩
def PlainA (A : Option Addr) : Prop := ∀ ad, A = some ad → ad.spot = none
set_option maxHeartbeats 4000000 in
set_option maxRecDepth 100000 in
theorem odd_calls (k d s : Int) (kk : Nat) (sub : S47 → Bool) (hsub : ∀ x : S111, cover_tree_subset.f kk k d s x.f0.f0 x.f0.f1 = some (sub x.f0)) (g : Nat) (A : Option Addr) (hA : PlainA A) (c : Nat) (its : List S111) (w : World) (hb : w.heap[g]? = some (.cells #[.int .u8 k, .int .i64 d, .int .i64 s] 134 (0, 0))) (hC : Kd.C k111 w A its.length its) :
    Calls Try.prog 106 #[.slice A its.length c, .func (.func 105) #[] #[.pointer (some ⟨g, 0, none⟩)]] w fun e w' => e = .returned (.bool (its.any (fun x => !sub x.f0))) ∧ Below w.heap.size w w' := by
  cases its with
  | nil => exact odd_nil A c _ w
  | cons x xs =>
    obtain ⟨h1, h2, h3⟩ := hC
    obtain ⟨ad, e, h4⟩ := h3 (by simp)
    subst e
    obtain ⟨b, off, sp⟩ := ad
    obtain rfl : sp = none := hA _ rfl
    have eg : ∀ args w, (callFunc 105 args).run Try.prog w = .ok (.enter 105 args) w := enters_of Try.func105 (by kernel_rfl) rfl
    have hel : ∀ j, j < (x :: xs).length → ∀ i v, ((lc (x :: xs)[j]!.f0.f0 (x :: xs)[j]!.f0.f1 (x :: xs)[j]!.f1).toList)[i]? = some v → w.cell? ⟨b, off + j * 18 + i, none⟩ = some v := by
      intro j hj i v hi
      obtain ⟨cs, _, hK, hc⟩ := h4 j ((x :: xs)[j]!) (by rw [List.getElem?_eq_getElem hj, getElem!_pos (x :: xs) j hj])
      rw [k111_lc cs hK] at hc
      have h6 := hc i v hi
      rw [addr_at] at h6
      have e2 : off + j * 18 + i = off + (j * k111.sz + i) := by rw [Nat.add_assoc]; rfl
      rw [e2]
      exact h6
    have hlt : b < w.heap.size := by
      have h5 := hel 0 (by simp) 0 _ rfl
      exact World.block_lt_of_cell? w _ h5
    have h := AnyQ.slices_ContainsFunc Try.lcf 18 Try.isAgg111 Try.sizeOf111 (fun x : S111 => (lc x.f0.f0 x.f0.f1 x.f1).toList) (fun _ => rfl) (fun x => !sub x.f0) 105 #[.pointer (some ⟨g, 0, none⟩)] eg b off (x :: xs).length c (x :: xs) w (odd_pred k d s kk sub hsub g w hb) (Nat.le_refl _) h2 hlt hel
    rw [List.take_length] at h
    exact h
end Go.Proofs.Ytafhimeoijmolaa.K
namespace Go.Proofs.Ytafhimeoijmolaa.K
open Go.RowKit  Go.Proofs.YtafhimeoijmolaaW.PrintWords Go.Proofs.YtafhimeoijmolaaW.PrintLast Go.Proofs.YtafhimeoijmolaaW.PrintMore Go.Proofs.Ytafhimeoijmolaa.G
set_option linter.unusedVariables false
set_option linter.unusedSimpArgs false
attribute [local go_sem high] eqK eqK0
def hdrB (sub : S47 → Bool) (its : List S111) (np : Nat) (b : Int) (x0 : S26) : Bool := decide (its.length ≤ 64) && (b == 0 && (decide (np = 0) && (keq x0 z26 && its.all (fun x => sub x.f0))))
set_option maxHeartbeats 4000000 in
set_option maxRecDepth 100000 in
theorem rValidHeader_calls (a0 a1 a2 a3 a4 a5 : Int) (A P : Option Addr) (cp q np : Nat) (b : Int) (x0 chk : S26) (its : List S111) (w : World) (hC : Kd.C k111 w A its.length its) (hnp : np ≤ 9223372036854775807) (kk : Nat) (sub : S47 → Bool) (hsub : ∀ x ∈ its, headendref03_IsSubset.f kk a0 a1 a2 a3 a4 a5 x.f0.f0 x.f0.f1 = some (sub x.f0)) :
    Calls Try.prog 109 #[.agg #[.int .u8 a0, .int .i64 a1, .int .i64 a2, .int .u64 a3, .int .u64 a4, .int .u64 a5], hv (.slice A its.length cp) b (.slice P np q) x0 chk] w fun e' w' => e' = .returned (.bool (hdrB sub its np b x0)) ∧ Below w.heap.size w w' := by
  obtain ⟨W0, hW0⟩ : ∃ W0, ((w.alloc (.cells #[.int .u8 a0, .int .i64 a1, .int .i64 a2, .int .u64 a3, .int .u64 a4, .int .u64 a5] 45)).alloc (.cells (hc (.slice A its.length cp) b (.slice P np q) x0 chk) 28)) = W0 := ⟨_, rfl⟩
  have B0 := Aside0.mk (show W0.heap[w.heap.size]? = some (.cells #[.int .u8 a0, .int .i64 a1, .int .i64 a2, .int .u64 a3, .int .u64 a4, .int .u64 a5] 45 (0, 0)) by rw [← hW0]; exact (blk_alloc (newAt rfl) _))
  have B1 := Aside0.mk (show W0.heap[w.heap.size + 1]? = some (.cells (hc (.slice A its.length cp) b (.slice P np q) x0 chk) 28 (0, 0)) by rw [← hW0]; exact (newAt (by simp)))
  have BB := Aside0.mk (show Below w.heap.size w W0 by rw [← hW0]; exact (((Below.refl _ w).alloc (Nat.le_refl _) _).alloc (by simp) _))
  have BBs := Aside0.mk (show w.heap.size + 2 = W0.heap.size by rw [← hW0]; simp)
  have HW := Aside0.mk hW0
  clear hW0
  have hl1 : its.length ≤ 9223372036854775807 := hC.2.1
  have HC := Aside0.mk (Kd.C_below hC BB.out)
  have HSUB := Aside0.mk hsub
  obtain ⟨R, hR⟩ : ∃ R, R = hdrB sub its np b x0 := ⟨_, rfl⟩
  rw [← hR]
  have HR := Aside0.mk hR
  clear hC hsub hR
  go_enter Try.func109, Try.ntmps109
  go_upto_region 1 with (fail)
  show Code.wp _ _ _ _ ((w.alloc (.cells #[.int .u8 a0, .int .i64 a1, .int .i64 a2, .int .u64 a3, .int .u64 a4, .int .u64 a5] 45)).alloc (.cells (hc (.slice A its.length cp) b (.slice P np q) x0 chk) 28))
  rw [HW.out]
  have c0 := cat B1.out 0 (.slice A its.length cp) rfl; have c1 := cat B1.out 1 (.int .u64 b) rfl; have c2 := cat B1.out 2 (.slice P np q) rfl
  by_cases h1 : 64 < its.length
  · have b1 : (64 : Int) < (its.length : Int) := by omega
    have E := Aside0.mk (show R = false by rw [HR.out]; unfold hdrB; rw [decide_eq_false (by omega)]; rfl)
    clear h1
    go_wp2_with fail
    go_ret
    exact ⟨by rw [E.out]; rfl, BB.out⟩
  have b1 : ¬ ((64 : Int) < (its.length : Int)) := by omega
  have E1 := Aside0.mk (show R = (b == 0 && (decide (np = 0) && (keq x0 z26 && its.all (fun x => sub x.f0)))) by rw [HR.out]; unfold hdrB; rw [decide_eq_true (by omega)]; rfl)
  clear HR
  by_cases h2 : b = 0
  case neg =>
    have b2 : (b != 0) = true := by simp [h2]
    have E := Aside0.mk (show R = false by rw [E1.out, beq_eq_false_iff_ne.mpr h2]; rfl)
    clear h1 h2
    go_wp2_with fail
    go_ret
    exact ⟨by rw [E.out]; rfl, BB.out⟩
  have b2 : (b != 0) = false := by simp [h2]
  have E2 := Aside0.mk (show R = (decide (np = 0) && (keq x0 z26 && its.all (fun x => sub x.f0))) by rw [E1.out, h2]; rfl)
  clear E1
  by_cases h3 : np = 0
  case neg =>
    have b3 : ((np : Int) != 0) = true := by simp [h3]
    have E := Aside0.mk (show R = false by rw [E2.out, decide_eq_false h3]; rfl)
    clear h1 h2 h3
    go_wp2_with fail
    go_ret
    exact ⟨by rw [E.out]; rfl, BB.out⟩
  have b3 : ((np : Int) != 0) = false := by simp [h3]
  have E3 := Aside0.mk (show R = (keq x0 z26 && its.all (fun x => sub x.f0)) by rw [E2.out, decide_eq_true h3]; rfl)
  clear E2
  cases h4 : keq x0 z26
  case false =>
    have E := Aside0.mk (show R = false by rw [E3.out, h4]; rfl)
    clear h1 h2 h3
    go_wp2_with (first | ((with_reducible refine ldMg rfl B1.out 3 (kc x0) ?_ ?_ ?_ ?_ ?_); rfl; rfl; exact row26; rfl))
    go_ret
    exact ⟨by rw [E.out]; rfl, BB.out⟩
  have E4 := Aside0.mk (show R = its.all (fun x => sub x.f0) by rw [E3.out, h4]; rfl)
  clear E3 h1 h2 h3
  go_wp2_with (first | ((with_reducible refine ldMg rfl B1.out 3 (kc x0) ?_ ?_ ?_ ?_ ?_); rfl; rfl; exact row26; rfl))
  clear b2 b3 h4
  go_loopg [5] its.length (fun kq vv w' => ∃ (i : Nat), vv = .int .i64 (i : Int) ∧ Aside0 (i + kq = its.length) ∧ Aside0 (R = (its.drop i).all (fun x => sub x.f0)) ∧ Aside0 (Below W0.heap.size W0 w'))
  case atStart => exact ⟨0, rfl, ⟨by omega⟩, ⟨E4.out⟩, ⟨Below.refl _ _⟩⟩
  case round =>
    obtain ⟨i, rfl, HI, HA, HB⟩ := hrel
    have D0 := Aside0.mk (blk_to B0.out HB.out); have D1 := Aside0.mk (blk_to B1.out HB.out)
    have DC := Aside0.mk (Kd.C_below HC.out HB.out)
    have d0 := cat D1.out 0 (.slice A its.length cp) rfl
    clear E4 c0 c1 c2
    by_cases hi : i < its.length
    · have HI' := Aside0.mk hi
      obtain ⟨x, hx⟩ : ∃ x, x = its.getD i z111 := ⟨_, rfl⟩
      have HX := Aside0.mk hx
      have HA2 := Aside0.mk (show R = (sub x.f0 && (its.drop (i + 1)).all (fun x => sub x.f0)) by rw [HA.out, drop_cons its i hi z111, ← hx]; rfl)
      obtain ⟨ad, cc, rfl, -⟩ := Kd.C_get DC.out z111 (i : Int) (by omega) (by omega)
      have b2 : (i : Int) < (its.length : Int) := by omega
      have HSX := Aside0.mk (HSUB.out x (by rw [hx]; exact getD_in its i hi z111))
      obtain ⟨sb, hq⟩ : ∃ sb, sb = sub x.f0 := ⟨_, rfl⟩
      rw [← hq] at HSX HA2
      clear hx hi hq
      go_wp2_with fail
      refine beginB none 99 9 rfl (by repeat (first | exact nf_body | refine nf_then ?_ | refine nf_block ?_)) (fun NF S0 => ?_)
      refine takeR 0 34 rfl (by kernel_rfl) (by kernel_rfl) (by kernel_rfl) (by kernel_rfl) rfl rfl rfl D0.out (by simp) NF S0 rfl row45 ?_; (try simp only [Act.put, List.setIfInBounds_toArray, List.set_cons_zero, List.set_cons_succ])
      refine takeY 1 35 (.pointer (some ⟨w.heap.size + 1, 0, none⟩)) rfl (by kernel_rfl) (by kernel_rfl) (by kernel_rfl) (by kernel_rfl) rfl rfl NF S0 (fun w' hw' => by go_simp) ?_; (try simp only [Act.put, List.setIfInBounds_toArray, List.set_cons_zero, List.set_cons_succ])
      refine takeY 2 36 (.slice (some ad) its.length cp) rfl (by kernel_rfl) (by kernel_rfl) (by kernel_rfl) (by kernel_rfl) rfl rfl NF S0 (fun w' hw' => by have c := cat (hw'.at_ D1.out (by simp)) 0 _ rfl; go_simp) ?_; (try simp only [Act.put, List.setIfInBounds_toArray, List.set_cons_zero, List.set_cons_succ])
      refine takeY 3 37 (.int .i64 i) rfl (by kernel_rfl) (by kernel_rfl) (by kernel_rfl) (by kernel_rfl) rfl rfl NF S0 (fun w' hw' => by go_simp) ?_; (try simp only [Act.put, List.setIfInBounds_toArray, List.set_cons_zero, List.set_cons_succ])
      refine takeY 4 38 (.pointer (some (ad.add (i * 18)))) rfl (by kernel_rfl) (by kernel_rfl) (by kernel_rfl) (by kernel_rfl) rfl rfl NF S0 (fun w' hw' => by go_simp) ?_; (try simp only [Act.put, List.setIfInBounds_toArray, List.set_cons_zero, List.set_cons_succ])
      refine takeY 5 39 (.pointer (some (ad.add (i * 18)))) rfl (by kernel_rfl) (by kernel_rfl) (by kernel_rfl) (by kernel_rfl) rfl rfl NF S0 (fun w' hw' => by go_simp) ?_; (try simp only [Act.put, List.setIfInBounds_toArray, List.set_cons_zero, List.set_cons_succ])
      refine takeCM 6 40 rfl (by kernel_rfl) (by kernel_rfl) (by kernel_rfl) (by kernel_rfl) rfl rfl rfl DC.out (by simp) (fun _ _ _ h => h) i z111 (lc x.f0.f0 x.f0.f1 x.f1).toList 18 0 [.int .i64 x.f0.f0, .int .i64 x.f0.f1] HI'.out (fun _ c h => by rw [← HX.out] at h; exact k111_lc c h) NF S0 rfl row47 rfl rfl ?_; (try simp only [Act.put, List.setIfInBounds_toArray, List.set_cons_zero, List.set_cons_succ])
      refine nextM 7 (by kernel_rfl) rfl (fun K7 hK7 => ?_)
      go_simp
      go_at_call 64
      refine (headendref03_IsSubset.calls kk a0 a1 a2 a3 a4 a5 x.f0.f0 x.f0.f1 sb _ HSX.out).mono ?_
      rintro e2 w2 ⟨rfl, hb2⟩
      have S2 := S0.below hb2
      refine hK7.out _ _ (fun _ => S2) ?_
      (try simp only [Act.put, List.setIfInBounds_toArray, List.set_cons_zero, List.set_cons_succ])
      refine nextM 8 (by kernel_rfl) rfl (fun K8 hK8 => ?_)
      go_simp
      refine hK8.out _ _ (fun _ => S2) ?_
      (try simp only [Act.put, List.setIfInBounds_toArray, List.set_cons_zero, List.set_cons_succ])
      refine doneM (by kernel_rfl) ?_ _
      have EB := Aside0.mk (show Below W0.heap.size W0 w2 from (HB.out.drew).trans (hb2.mono HB.out.size))
      clear S0 S2 NF hb2
      cases sb with
      | true =>
        go_wp2
        obtain ⟨gq, rfl⟩ : ∃ gq, gk = gq + 1 := ⟨gk - 1, by have := HI'.out; have := HI.out; omega⟩
        go_roundg gq
        case measure => omega
        case rel => exact ⟨i + 1, by simp, ⟨by have := HI.out; omega⟩, ⟨HA2.out⟩, EB⟩
      | false =>
        go_wp2
        go_ret
        exact ⟨by rw [HA2.out]; rfl, BB.out.trans (EB.out.mono BB.out.size)⟩
    · have hi2 : i = its.length := by have := HI.out; omega
      subst hi2
      have b2 : ¬ ((its.length : Int) < (its.length : Int)) := by omega
      have E := Aside0.mk (show R = true by rw [HA.out, List.drop_length]; rfl)
      clear HI hi HA
      go_wp2
      go_ret
      exact ⟨by rw [E.out]; rfl, BB.out.trans (HB.out.mono BB.out.size)⟩
end Go.Proofs.Ytafhimeoijmolaa.K
namespace Go.Proofs.Ytafhimeoijmolaa.K
open Go.RowKit  Go.Proofs.YtafhimeoijmolaaW.PrintWords Go.Proofs.YtafhimeoijmolaaW.PrintLast Go.Proofs.YtafhimeoijmolaaW.PrintMore Go.Proofs.Ytafhimeoijmolaa.G
set_option linter.unusedVariables false
set_option linter.unusedSimpArgs false
end Go.Proofs.Ytafhimeoijmolaa.K
namespace Go.Proofs.Ytafhimeoijmolaa.K
open Go.RowKit Go.Shelf Go.Proofs.Ytafhimeoijmolaa.R9 Go.Proofs.YtafhimeoijmolaaW.PrintWords Go.Proofs.YtafhimeoijmolaaW.PrintLast Go.Proofs.YtafhimeoijmolaaW.PrintMore Go.Proofs.Ytafhimeoijmolaa.G
set_option linter.unusedVariables false
set_option linter.unusedSimpArgs false
attribute [local go_sem] Oper.semAt_some
theorem C_nil' {α : Type} (d : Kd α) (w : World) : Kd.C d w none 0 ([] : List α) := ⟨rfl, by omega, fun h => absurd h (by omega)⟩
end Go.Proofs.Ytafhimeoijmolaa.K
namespace Go.Proofs.Ytafhimeoijmolaa.K
open Go.RowKit  Go.Proofs.YtafhimeoijmolaaW.PrintWords Go.Proofs.YtafhimeoijmolaaW.PrintLast Go.Proofs.YtafhimeoijmolaaW.PrintMore Go.Proofs.Ytafhimeoijmolaa.G
set_option linter.unusedVariables false
set_option linter.unusedSimpArgs false
attribute [local go_sem high] eqK eqK0
def openF (a : Int) (ls : List S83) (chk : S26) : List S111 → Option (S26 × Int)
  | [] => some (z26, 6)
  | x :: xs => (findF a x.f0.f0 x.f0.f1 ls).bind fun r => if r.2 = true then (if keq (derK (decK r.1 x.f1) 53 0) chk = true then some (decK r.1 x.f1, 0) else openF a ls chk xs) else openF a ls chk xs
def openR (e : Int) (sub : S47 → Bool) (its : List S111) (np : Nat) (b : Int) (x0 : S26) (r : S26 × Int) : S26 × Int := if e = 0 then (if hdrB sub its np b x0 = true then r else (z26, 8)) else (z26, e)
set_option maxHeartbeats 4000000 in
set_option maxRecDepth 100000 in
theorem Open_calls (a0 a1 a2 a3 a4 a5 rcv p q : Int) (LA : Option Addr) (cap : Nat) (ls : List S83) (A P : Option Addr) (hA : PlainA A) (cp pq np : Nat) (b : Int) (x0 chk : S26) (its : List S111) (k d s e : Int) (kk : Nat) (sub : S47 → Bool) (r : S26 × Int) (w : World) (hL : Kd.C k83 w LA ls.length ls) (hC : Kd.C k111 w A its.length its) (hnp : np ≤ 9223372036854775807)
    (h1 : cover_enter.f 70 a0 a1 a2 a3 a4 a5 [] = some (k, d, s, e)) (hsub : e = 0 → ∀ x : S111, cover_tree_subset.f kk k d s x.f0.f0 x.f0.f1 = some (sub x.f0)) (hf : e = 0 → hdrB sub its np b x0 = true → openF k ls chk its = some r) :
    Calls Try.prog 50 #[.agg #[.int .u8 a0, .int .i64 a1, .int .i64 a2, .int .u64 a3, .int .u64 a4, .int .u64 a5], sv rcv LA ls.length cap p q, hv (.slice A its.length cp) b (.slice P np pq) x0 chk] w fun e' w' => e' = .returned (.tuple #[kv (openR e sub its np b x0 r).1, .int .i64 (openR e sub its np b x0 r).2]) ∧ Below w.heap.size w w' := by
  obtain ⟨W0, hW0⟩ : ∃ W0, ((((w.alloc (.cells #[.int .u8 a0, .int .i64 a1, .int .i64 a2, .int .u64 a3, .int .u64 a4, .int .u64 a5] 45)).alloc (.cells (sc rcv LA ls.length cap p q) 76)).alloc (.cells (hc (.slice A its.length cp) b (.slice P np pq) x0 chk) 28)).alloc (.cells (kc z26) 26)) = W0 := ⟨_, rfl⟩
  have B0 := Aside0.mk (show W0.heap[w.heap.size]? = some (.cells #[.int .u8 a0, .int .i64 a1, .int .i64 a2, .int .u64 a3, .int .u64 a4, .int .u64 a5] 45 (0, 0)) by rw [← hW0]; exact (blk_alloc (blk_alloc (blk_alloc (newAt rfl) _) _) _))
  have B1 := Aside0.mk (show W0.heap[w.heap.size + 1]? = some (.cells (sc rcv LA ls.length cap p q) 76 (0, 0)) by rw [← hW0]; exact (blk_alloc (blk_alloc (newAt (by simp)) _) _))
  have B2 := Aside0.mk (show W0.heap[w.heap.size + 1 + 1]? = some (.cells (hc (.slice A its.length cp) b (.slice P np pq) x0 chk) 28 (0, 0)) by rw [← hW0]; exact (blk_alloc (newAt (by simp)) _))
  have B3 := Aside0.mk (show W0.heap[w.heap.size + 1 + 1 + 1]? = some (.cells (kc z26) 26 (0, 0)) by rw [← hW0]; exact (newAt (by simp)))
  have BB := Aside0.mk (show Below w.heap.size w W0 by rw [← hW0]; exact (((((Below.refl _ w).alloc (Nat.le_refl _) _).alloc (by simp) _).alloc (by simp; omega) _).alloc (by simp; omega) _))
  have BBs := Aside0.mk (show w.heap.size + 4 = W0.heap.size by rw [← hW0]; simp)
  have HW := Aside0.mk hW0
  clear hW0
  have H1 := Aside0.mk h1; have HSUB := Aside0.mk hsub; have HF := Aside0.mk hf; have HPA := Aside0.mk hA
  have HC0 := Aside0.mk hC; have HL0 := Aside0.mk hL
  have hl1 : its.length ≤ 9223372036854775807 := hC.2.1
  obtain ⟨R, hR⟩ : ∃ R, R = openR e sub its np b x0 r := ⟨_, rfl⟩
  rw [← hR]
  have HR := Aside0.mk hR
  clear h1 hsub hf hC hL hR hA
  go_enter Try.func50, Try.ntmps50
  go_upto_region 1 with (fail)
  show Code.wp _ _ _ _ ((((w.alloc (.cells #[.int .u8 a0, .int .i64 a1, .int .i64 a2, .int .u64 a3, .int .u64 a4, .int .u64 a5] 45)).alloc (.cells (sc rcv LA ls.length cap p q) 76)).alloc (.cells (hc (.slice A its.length cp) b (.slice P np pq) x0 chk) 28)).alloc (.cells (kc z26) 26))
  rw [HW.out]
  go_wp2_with (first | ((with_reducible refine ldR rfl rfl B0.out ?_ ?_ ?_); rfl; exact row45))
  go_at_call 74
  refine (cover_enter.calls 70 a0 a1 a2 a3 a4 a5 none 0 [] k d s e _ (C_nil' _ _) (Nat.le_refl _) H1.out).mono ?_
  rintro e1 w1 ⟨rfl, hb1⟩
  have hb1' : Below W0.heap.size W0 w1 := hb1
  have C1 := Aside0.mk (blk_to B1.out hb1'); have C2 := Aside0.mk (blk_to B2.out hb1'); have C3 := Aside0.mk (blk_to B3.out hb1')
  have CB := Aside0.mk (BB.out.trans (hb1'.mono BB.out.size))
  have hcs : w.heap.size + 4 ≤ w1.heap.size := by have := hb1'.size; have := BBs.out; omega
  clear hb1 hb1' B0 B1 B2 B3 BB BBs HW H1
  by_cases he : e = 0
  case neg =>
    have b0 : (e != 0) = true := by simp [he]
    have E1 := Aside0.mk (show R = (z26, e) from HR.out.trans (if_neg he))
    clear he HF HSUB
    go_wp2_with (first | ((with_reducible refine stR rfl rfl (blk_alloc C3.out _) (kc z26) ?_ ?_ ?_ ?_ ?_ ?_); rfl; rfl; exact row26; rfl; rfl; intro W2 P1))
    refine bodyPost_ret (ret_key rfl rfl rfl P1.at_) rfl ?_
    exact ⟨by rw [E1.out]; rfl, P1.below (CB.out.alloc CB.out.size _) (by omega)⟩
  have b0 : (e != 0) = false := by simp [he]
  have E1 := Aside0.mk (show R = (if hdrB sub its np b x0 = true then r else (z26, 8)) from HR.out.trans (if_pos he))
  have HS2 := Aside0.mk (HSUB.out he)
  have HF2 := Aside0.mk (HF.out he)
  clear HR HF HSUB
  subst he
  go_upto_region 5 with (fail)
  obtain ⟨W1, hW1⟩ : ∃ W1, w1.alloc (.cells #[.int .u8 k, .int .i64 d, .int .i64 s] 134) = W1 := ⟨_, rfl⟩
  show Code.wp _ _ _ _ (w1.alloc (.cells #[.int .u8 k, .int .i64 d, .int .i64 s] 134))
  rw [hW1]
  have D1 := Aside0.mk (blk_id (blk_alloc C1.out _) hW1.symm)
  have D2 := Aside0.mk (blk_id (blk_alloc C2.out _) hW1.symm)
  have D3 := Aside0.mk (blk_id (blk_alloc C3.out _) hW1.symm)
  have DT := Aside0.mk (show W1.heap[w1.heap.size]? = some (.cells #[.int .u8 k, .int .i64 d, .int .i64 s] 134 (0, 0)) by rw [← hW1]; exact newAt rfl)
  have DB := Aside0.mk (show Below w.heap.size w W1 by rw [← hW1]; exact CB.out.alloc CB.out.size _)
  have hds : w1.heap.size + 1 = W1.heap.size := by rw [← hW1]; simp
  have DC := Aside0.mk (Kd.C_below HC0.out DB.out); have DL := Aside0.mk (Kd.C_below HL0.out DB.out)
  clear hW1 C1 C2 C3 CB b0 HC0 HL0
  have c0 := cat D2.out 0 (.slice A its.length cp) rfl; have c1 := cat D2.out 1 (.int .u64 b) rfl; have c2 := cat D2.out 2 (.slice P np pq) rfl
  by_cases h1 : 64 < its.length
  · have b1 : (64 : Int) < (its.length : Int) := by omega
    have E := Aside0.mk (show R = (z26, 8) by rw [E1.out, if_neg (by unfold hdrB; rw [decide_eq_false (by omega)]; simp)])
    clear h1 HF2
    go_wp2_with (first | ((with_reducible refine stR rfl rfl D3.out (kc z26) ?_ ?_ ?_ ?_ ?_ ?_); rfl; rfl; exact row26; rfl; rfl; intro W2 P1))
    refine bodyPost_ret (ret_key rfl rfl rfl P1.at_) rfl ?_
    exact ⟨by rw [E.out]; rfl, P1.below DB.out (by omega)⟩
  have b1 : ¬ ((64 : Int) < (its.length : Int)) := by omega
  by_cases h2 : b = 0
  case neg =>
    have b2 : (b != 0) = true := by simp [h2]
    have E := Aside0.mk (show R = (z26, 8) by rw [E1.out, if_neg (by unfold hdrB; rw [beq_eq_false_iff_ne.mpr h2]; simp)])
    clear h1 h2 HF2
    go_wp2_with (first | ((with_reducible refine stR rfl rfl D3.out (kc z26) ?_ ?_ ?_ ?_ ?_ ?_); rfl; rfl; exact row26; rfl; rfl; intro W2 P1))
    refine bodyPost_ret (ret_key rfl rfl rfl P1.at_) rfl ?_
    exact ⟨by rw [E.out]; rfl, P1.below DB.out (by omega)⟩
  have b2 : (b != 0) = false := by simp [h2]
  by_cases h3 : np = 0
  case neg =>
    have b3 : (0 : Int) < (np : Int) := by omega
    have E := Aside0.mk (show R = (z26, 8) by rw [E1.out, if_neg (by unfold hdrB; rw [decide_eq_false h3]; simp)])
    clear h1 h2 h3 HF2
    go_wp2_with (first | ((with_reducible refine stR rfl rfl D3.out (kc z26) ?_ ?_ ?_ ?_ ?_ ?_); rfl; rfl; exact row26; rfl; rfl; intro W2 P1))
    refine bodyPost_ret (ret_key rfl rfl rfl P1.at_) rfl ?_
    exact ⟨by rw [E.out]; rfl, P1.below DB.out (by omega)⟩
  have b3 : ¬ ((0 : Int) < (np : Int)) := by omega
  cases h4 : keq x0 z26
  case false =>
    have E := Aside0.mk (show R = (z26, 8) by rw [E1.out, if_neg (by unfold hdrB; rw [h4]; simp)])
    clear h1 h2 h3 HF2
    go_wp2_with (first | ((with_reducible refine ldMg rfl D2.out 3 (kc x0) ?_ ?_ ?_ ?_ ?_); rfl; rfl; exact row26; rfl) | ((with_reducible refine stR rfl rfl D3.out (kc z26) ?_ ?_ ?_ ?_ ?_ ?_); rfl; rfl; exact row26; rfl; rfl; intro W2 P1))
    refine bodyPost_ret (ret_key rfl rfl rfl P1.at_) rfl ?_
    exact ⟨by rw [E.out]; rfl, P1.below DB.out (by omega)⟩
  have hdr : hdrB sub its np b x0 = its.all (fun x => sub x.f0) := by unfold hdrB; rw [decide_eq_true (by omega), h2, h3, h4]; rfl
  have hany : its.any (fun x => !sub x.f0) = !its.all (fun x => sub x.f0) := by simp [List.not_all_eq_any_not]
  cases h5 : its.all (fun x => sub x.f0)
  case false =>
    rw [h5] at hany hdr
    have HAN := Aside0.mk hany
    have E := Aside0.mk (show R = (z26, 8) by rw [E1.out, if_neg (by rw [hdr]; simp)])
    clear h1 h2 h3 HF2 hdr hany h5
    go_wp2_with (first | ((with_reducible refine ldMg rfl D2.out 3 (kc x0) ?_ ?_ ?_ ?_ ?_); rfl; rfl; exact row26; rfl))
    go_at_call 106
    refine (odd_calls k d s kk sub HS2.out _ A HPA.out cp its _ DT.out DC.out).mono ?_
    rw [HAN.out]
    rintro e2 w2 ⟨rfl, hb2⟩
    have F3 := Aside0.mk (blk_to D3.out hb2)
    have FB := Aside0.mk (DB.out.trans (hb2.mono DB.out.size))
    clear hb2
    go_wp2_with (first | ((with_reducible refine stR rfl rfl F3.out (kc z26) ?_ ?_ ?_ ?_ ?_ ?_); rfl; rfl; exact row26; rfl; rfl; intro W2 P1))
    refine bodyPost_ret (ret_key rfl rfl rfl P1.at_) rfl ?_
    exact ⟨by rw [E.out]; rfl, P1.below FB.out (by omega)⟩
  rw [h5] at hany hdr
  have HAN := Aside0.mk hany
  have E := Aside0.mk (show R = r by rw [E1.out, if_pos hdr])
  have HF3 := Aside0.mk (HF2.out hdr)
  clear h1 h2 h3 HF2 hdr hany h5 E1
  go_wp2_with (first | ((with_reducible refine ldMg rfl D2.out 3 (kc x0) ?_ ?_ ?_ ?_ ?_); rfl; rfl; exact row26; rfl))
  go_at_call 106
  refine (odd_calls k d s kk sub HS2.out _ A HPA.out cp its _ DT.out DC.out).mono ?_
  rw [HAN.out]
  rintro e2 w2 ⟨rfl, hb2⟩
  have F1 := Aside0.mk (blk_to D1.out hb2); have F2 := Aside0.mk (blk_to D2.out hb2); have F3 := Aside0.mk (blk_to D3.out hb2); have FT := Aside0.mk (blk_to DT.out hb2)
  have FB := Aside0.mk (DB.out.trans (hb2.mono DB.out.size))
  have FC := Aside0.mk (Kd.C_below DC.out hb2); have FL := Aside0.mk (Kd.C_below DL.out hb2)
  have hfs : W1.heap.size ≤ w2.heap.size := hb2.size
  clear hb2 D1 D2 D3 DT DB DC DL HS2 HAN c0 c1 c2 b1 b2 b3 h4
  have c0 := cat F2.out 0 (.slice A its.length cp) rfl
  go_wp2_with fail
  clear c0
  go_loopg [57] its.length (fun kq v w' => ∃ i : Nat, v = .int .i64 (i : Int) ∧ Aside0 (i + kq = its.length) ∧ Aside0 (openF k ls chk (its.drop i) = some r) ∧ Aside0 (Below w2.heap.size w2 w'))
  case atStart => exact ⟨0, rfl, ⟨by omega⟩, ⟨HF3.out⟩, ⟨Below.refl _ _⟩⟩
  case round =>
    obtain ⟨i, rfl, HI, HF, HB⟩ := hrel
    have G1 := Aside0.mk (blk_to F1.out HB.out); have G2 := Aside0.mk (blk_to F2.out HB.out); have G3 := Aside0.mk (blk_to F3.out HB.out); have GT := Aside0.mk (blk_to FT.out HB.out)
    have GB := Aside0.mk (FB.out.trans (HB.out.mono FB.out.size))
    have GC := Aside0.mk (Kd.C_below FC.out HB.out); have GL := Aside0.mk (Kd.C_below FL.out HB.out)
    have hgs : w2.heap.size ≤ wr.heap.size := HB.out.size
    by_cases hi : i < its.length
    · have HI' := Aside0.mk hi
      obtain ⟨x, hx⟩ : ∃ x, x = its.getD i z111 := ⟨_, rfl⟩
      have HX := Aside0.mk hx
      have hf := HF.out
      rw [drop_cons its i hi z111, ← hx] at hf
      simp only [openF] at hf
      obtain ⟨r1, hr1, hf⟩ := Option.bind_eq_some_iff.mp hf
      have HR1 := Aside0.mk hr1
      obtain ⟨K, ok⟩ := r1
      have HFX := Aside0.mk hf
      obtain ⟨ad, cc, rfl, -⟩ := Kd.C_get GC.out z111 (i : Int) (by omega) (by omega)
      have b2 : (i : Int) < (its.length : Int) := by omega
      clear hx hi hf hr1 HF HF3 F1 F2 F3 FT FB FC FL
      go_wp2_with (first
        | ((with_reducible refine ldC rfl rfl GC.out i z111 (lc x.f0.f0 x.f0.f1 x.f1).toList 18 ?_ ?_ ?_ ?_ ?_ ?_); rfl; exact HI'.out; ((rw [← HX.out]; exact k111_lc)); exact row111; rfl)
        | (((with_reducible refine stR rfl rfl (newAt rfl) (lc x.f0.f0 x.f0.f1 x.f1) ?_ ?_ ?_ ?_ ?_ ?_); rfl; rfl; exact row111; rfl; rfl; intro W3 P1); have I1 := Aside0.mk (P1.blk (blk_alloc G1.out _) (by omega)); have I2 := Aside0.mk (P1.blk (blk_alloc G2.out _) (by omega)); have I3 := Aside0.mk (P1.blk (blk_alloc G3.out _) (by omega)); have IT := Aside0.mk (P1.blk (blk_alloc GT.out _) (by omega)); have IX := Aside0.mk P1.at_; have IW := Aside0.mk (show Below wr.heap.size wr W3 from P1.below ((Below.refl _ wr).alloc (Nat.le_refl _) _) (Nat.le_refl _)); have his : wr.heap.size + 1 = W3.heap.size := (by have := P1.size; simp at this; omega); clear P1)
        | ((with_reducible refine ldR rfl rfl IT.out ?_ ?_ ?_); rfl; exact row134)
        | ((with_reducible refine ldR rfl rfl I1.out ?_ ?_ ?_); rfl; exact row76)
        | ((with_reducible refine ldM rfl rfl IX.out 0 (#[.int .i64 x.f0.f0, .int .i64 x.f0.f1]) ?_ ?_ ?_ ?_); rfl; exact row47; rfl))
      go_at_call 107
      refine (find_calls k d s rcv p q LA cap ls x.f0.f0 x.f0.f1 (K, ok) _ (Kd.C_below GL.out IW.out) HR1.out).mono ?_
      rintro e3 w3 ⟨rfl, hb3⟩
      have J2 := Aside0.mk (blk_to I2.out hb3); have J3 := Aside0.mk (blk_to I3.out hb3); have JX := Aside0.mk (blk_to IX.out hb3)
      have JW := Aside0.mk (show Below wr.heap.size wr w3 from IW.out.trans (hb3.mono IW.out.size))
      have hjs : W3.heap.size ≤ w3.heap.size := hb3.size
      clear hb3 I1 I2 I3 IT IX IW G1 G2 G3 GT GC GL
      cases ok with
      | false =>
        have hf := HFX.out
        simp only [Bool.false_eq_true, if_false] at hf
        have HFN := Aside0.mk hf
        clear hf
        go_wp2_with (first | (((with_reducible refine stR rfl rfl (newAt rfl) (kc K) ?_ ?_ ?_ ?_ ?_ ?_); rfl; rfl; exact row26; rfl; rfl; intro W4 P2); have KW := Aside0.mk (show Below wr.heap.size wr W4 from P2.below (JW.out.alloc JW.out.size _) (by omega)); clear P2))
        obtain ⟨gq, rfl⟩ : ∃ gq, gk = gq + 1 := ⟨gk - 1, by have := HI'.out; have := HI.out; omega⟩
        go_roundg gq
        case measure => omega
        case rel => exact ⟨i + 1, by simp, ⟨by have := HI.out; omega⟩, ⟨HFN.out⟩, ⟨HB.out.trans (KW.out.mono HB.out.size)⟩⟩
      | true =>
        have hf := HFX.out
        simp only [if_true] at hf
        obtain ⟨S, hS⟩ : ∃ S, S = decK K x.f1 := ⟨_, rfl⟩
        rw [← hS] at hf
        have HS := Aside0.mk hS
        obtain ⟨T, hT⟩ : ∃ T, T = derK S 53 0 := ⟨_, rfl⟩
        rw [← hT] at hf
        have HT := Aside0.mk hT
        have HFN := Aside0.mk hf
        clear hf hS hT
        go_wp2_with (first
          | (((with_reducible refine stR rfl rfl (newAt rfl) (kc K) ?_ ?_ ?_ ?_ ?_ ?_); rfl; rfl; exact row26; rfl; rfl; intro W4 P2); have K2 := Aside0.mk (P2.blk (blk_alloc J2.out _) (by omega)); have K3 := Aside0.mk (P2.blk (blk_alloc J3.out _) (by omega)); have KX := Aside0.mk (P2.blk (blk_alloc JX.out _) (by omega)); have KK := Aside0.mk P2.at_; have KW := Aside0.mk (show Below wr.heap.size wr W4 from P2.below (JW.out.alloc JW.out.size _) (by omega)); have hks : w3.heap.size + 1 = W4.heap.size := (by have := P2.size; simp at this; omega); clear P2)
          | ((with_reducible refine ldR rfl rfl KK.out ?_ ?_ ?_); rfl; exact row26)
          | ((with_reducible refine ldM rfl rfl KX.out 2 (kc x.f1) ?_ ?_ ?_ ?_); rfl; exact row26; rfl))
        go_at_call 108
        refine (Decrypt_calls K x.f1 _).mono ?_
        rw [← HS.out]
        rintro e4 w4 ⟨rfl, hb4⟩
        have L2 := Aside0.mk (blk_to K2.out hb4); have L3 := Aside0.mk (blk_to K3.out hb4)
        have LW := Aside0.mk (show Below wr.heap.size wr w4 from KW.out.trans (hb4.mono KW.out.size))
        have hls : W4.heap.size ≤ w4.heap.size := hb4.size
        clear hb4 K2 K3 KX KK KW J2 J3 JX JW
        go_wp2_with (first
          | (((with_reducible refine stR rfl rfl (newAt rfl) (kc S) ?_ ?_ ?_ ?_ ?_ ?_); rfl; rfl; exact row26; rfl; rfl; intro W5 P3); have M2 := Aside0.mk (P3.blk (blk_alloc L2.out _) (by omega)); have M3 := Aside0.mk (P3.blk (blk_alloc L3.out _) (by omega)); have MS := Aside0.mk P3.at_; have MW := Aside0.mk (show Below wr.heap.size wr W5 from P3.below (LW.out.alloc LW.out.size _) (by omega)); have hms : w4.heap.size + 1 = W5.heap.size := (by have := P3.size; simp at this; omega); clear P3 L2 L3 LW))
        refine beginB none 99 5 rfl (by repeat (first | exact nf_body | refine nf_then ?_ | refine nf_block ?_)) (fun NF S0 => ?_)
        refine takeR 0 74 rfl (by kernel_rfl) (by kernel_rfl) (by kernel_rfl) (by kernel_rfl) rfl rfl rfl MS.out (by simp) NF S0 rfl row26 ?_; (try simp only [Act.put, List.setIfInBounds_toArray, List.set_cons_zero, List.set_cons_succ])
        refine takeY 2 76 (.pointer (some ⟨w.heap.size + 1 + 1, 19, none⟩)) rfl (by kernel_rfl) (by kernel_rfl) (by kernel_rfl) (by kernel_rfl) rfl rfl NF S0 (fun w' hw' => by go_simp) ?_; (try simp only [Act.put, List.setIfInBounds_toArray, List.set_cons_zero, List.set_cons_succ])
        refine takeM 3 77 rfl (by kernel_rfl) (by kernel_rfl) (by kernel_rfl) (by kernel_rfl) rfl rfl rfl M2.out (by simp) 19 (kc chk) NF S0 rfl row26 rfl ?_; (try simp only [Act.put, List.setIfInBounds_toArray, List.set_cons_zero, List.set_cons_succ])
        refine nextM 1 (by kernel_rfl) rfl (fun K1 hK1 => ?_)
        go_simp
        go_at_call 86
        refine (Derive_calls S 53 0 _).mono ?_
        rw [← HT.out]
        rintro e5 w5 ⟨rfl, hb5⟩
        have S5 := S0.below hb5
        refine hK1.out _ _ (fun _ => S5) ?_
        (try simp only [Act.put, List.setIfInBounds_toArray, List.set_cons_zero, List.set_cons_succ])
        refine nextM 4 (by kernel_rfl) rfl (fun K4 hK4 => ?_)
        go_simp
        refine hK4.out _ _ (fun _ => S5) ?_
        (try simp only [Act.put, List.setIfInBounds_toArray, List.set_cons_zero, List.set_cons_succ])
        refine doneM (by kernel_rfl) ?_ _
        have N3 := Aside0.mk (blk_to (blk_drew M3.out) hb5)
        have NS := Aside0.mk (blk_to (blk_drew MS.out) hb5)
        have NW := Aside0.mk (show Below wr.heap.size wr w5 from (MW.out.drew).trans (hb5.mono MW.out.size))
        clear S0 S5 NF hb5 M2 M3 MS MW
        cases hq : keq T chk with
        | true =>
          have hf := HFN.out
          rw [hq] at hf
          simp only [if_true, Option.some.injEq] at hf
          have ER := Aside0.mk (show R = (S, 0) by rw [E.out, ← hf])
          clear hf
          go_wp2_with (first | ((with_reducible refine ldR rfl rfl NS.out ?_ ?_ ?_); rfl; exact row26) | ((with_reducible refine stR rfl rfl N3.out (kc S) ?_ ?_ ?_ ?_ ?_ ?_); rfl; rfl; exact row26; rfl; rfl; intro W6 P4))
          refine bodyPost_ret (ret_key rfl rfl rfl P4.at_) rfl ?_
          exact ⟨by rw [ER.out]; rfl, P4.below (GB.out.trans (NW.out.mono GB.out.size)) (by omega)⟩
        | false =>
          have hf := HFN.out
          rw [hq] at hf
          simp only [Bool.false_eq_true, if_false] at hf
          have HFM := Aside0.mk hf
          clear hf
          go_wp2
          obtain ⟨gq, rfl⟩ : ∃ gq, gk = gq + 1 := ⟨gk - 1, by have := HI'.out; have := HI.out; omega⟩
          go_roundg gq
          case measure => omega
          case rel => exact ⟨i + 1, by simp, ⟨by have := HI.out; omega⟩, ⟨HFM.out⟩, ⟨HB.out.trans (NW.out.mono HB.out.size)⟩⟩
    · have hi2 : i = its.length := by have := HI.out; omega
      subst hi2
      have hf := HF.out
      rw [List.drop_length] at hf
      simp only [openF, Option.some.injEq] at hf
      have ER := Aside0.mk (show R = (z26, 6) by rw [E.out, ← hf])
      have b2 : ¬ ((its.length : Int) < (its.length : Int)) := by omega
      clear hf HF HF3
      go_wp2_with (first | ((with_reducible refine stR rfl rfl G3.out (kc z26) ?_ ?_ ?_ ?_ ?_ ?_); rfl; rfl; exact row26; rfl; rfl; intro W6 P4))
      refine bodyPost_ret (ret_key rfl rfl rfl P4.at_) rfl ?_
      exact ⟨by rw [ER.out]; rfl, P4.below GB.out (by omega)⟩
end Go.Proofs.Ytafhimeoijmolaa.K
namespace Go.Proofs.Ytafhimeoijmolaa.K
open Go.RowKit  Go.Proofs.YtafhimeoijmolaaW.PrintWords Go.Proofs.YtafhimeoijmolaaW.PrintLast Go.Proofs.YtafhimeoijmolaaW.PrintMore Go.Proofs.Ytafhimeoijmolaa.G
set_option linter.unusedVariables false
set_option linter.unusedSimpArgs false
end Go.Proofs.Ytafhimeoijmolaa.K
