/- Texts of this claim, one behind the other, as far as they are used: G74, X28, KJ, KS, KT, T1, T2, T3, KP. -/
import Derived.Deep.QuietTactic
import Derived.BigQuiet
import Derived.Test.YtafhimeoijmolaaCoverSealsM1
import Derived.Test.YtafhimeoijmolaaCoverSealsM2
import Derived.Test.YtafhimeoijmolaaCoverSealsM3
import Derived.Test.YtafhimeoijmolaaCoverSealsM4
import Derived.Test.YtafhimeoijmolaaCoverSealsM6
import Derived.Test.YtafhimeoijmolaaCoverSealsM7
import Derived.Test.YtafhimeoijmolaaCoverSealsM8
namespace Go.Proofs.Ytafhimeoijmolaa.G
open Go.RowKit Go.Proofs.YtafhimeoijmolaaW.PrintWords Go.Proofs.YtafhimeoijmolaaW.PrintLast Go.Proofs.YtafhimeoijmolaaW.PrintMore
attribute [local go_sem] max2_int min2_int max_two min_two max_three min_three max_four min_four   -- for this text's walks alone
set_option linter.unusedVariables false
set_option linter.unusedSimpArgs false
def cover_enter.l0 : Nat → List (S47) → Int → Int → Int → Int → Int → Option (Int × Int × Int × Int)
  | 0, _, _, _, _, _, _ => none
  | k + 1, x18, x19, x20, x392000, x392001, x392002 => if x20 < x19 then (if 0 ≤ x20 then (if x20 < (x18.length : Int) then ((cover_tree_subset.f k x392000 x392001 x392002 ((rd_T47 x18 x20).f0) ((rd_T47 x18 x20).f1)).bind fun t394 => (if t394 = true then (cover_enter.l0 k x18 x19 (wrap64 (x20 + 1)) x392000 x392001 x392002) else (some (0, 0, 0, 31)))) else (none)) else (none)) else (some (x392000, x392001, x392002, 0))
def cover_enter.f (k : Nat) (a0_0 : Int) (a0_1 : Int) (a0_2 : Int) (a0_3 : Int) (a0_4 : Int) (a0_5 : Int) (l1 : List (S47)) : Option (Int × Int × Int × Int) := (cover_treeOf.f k a0_0 a0_1 a0_2 a0_3 a0_4 a0_5).bind fun bt387 => (if bt387.2.2.2 = true then (cover_enter.l0 k l1 (l1.length : Int) 0 bt387.1 bt387.2.1 bt387.2.2.1) else (some (0, 0, 0, 30)))
set_option maxHeartbeats 8000000 in
set_option maxRecDepth 100000 in
theorem cover_enter.calls (k : Nat) (a0_0 : Int) (a0_1 : Int) (a0_2 : Int) (a0_3 : Int) (a0_4 : Int) (a0_5 : Int) (A1 : Option Addr) (c1 : Nat) (l1 : List (S47)) (r1 : Int) (r2 : Int) (r3 : Int) (r4 : Int) (w : World) (hr1 : Kd.C k47 w A1 l1.length l1) (hc1 : l1.length ≤ c1) (h : cover_enter.f k a0_0 a0_1 a0_2 a0_3 a0_4 a0_5 l1 = some (r1, r2, r3, r4)) :
    Calls Try.prog 74 #[.agg #[.int .u8 a0_0, .int .i64 a0_1, .int .i64 a0_2, .int .u64 a0_3, .int .u64 a0_4, .int .u64 a0_5], .slice A1 l1.length c1] w fun e w' => e = .returned (.tuple #[.agg #[.int .u8 r1, .int .i64 r2, .int .i64 r3], .int .i64 r4]) ∧ Below w.heap.size w w' := by
  have hu45 := Try.underlying45
  have hu134 := Try.underlying134
  have hu47 := Try.underlying47
  have HR1 := Aside0.mk hr1
  have HC1 := Aside0.mk hc1
  clear hr1 hc1
  have HB := Aside0.mk (Below.refl w.heap.size w)
  have H : ((cover_treeOf.f k a0_0 a0_1 a0_2 a0_3 a0_4 a0_5).bind fun bt387 => (if bt387.2.2.2 = true then (cover_enter.l0 k l1 (l1.length : Int) 0 bt387.1 bt387.2.1 bt387.2.2.1) else (some (0, 0, 0, 30)))) = some (r1, r2, r3, r4) := h
  clear h
  replace H := Option.bind_eq_some_iff.mp H
  obtain ⟨⟨t387, t388, t389, t390⟩, A30, H⟩ := H
  replace H : (if t390 = true then (cover_enter.l0 k l1 (l1.length : Int) 0 t387 t388 t389) else (some (0, 0, 0, 30))) = some (r1, r2, r3, r4) := H
  have A3 := Aside0.mk A30
  clear A30
  by_cases c4 : t390 = true
  · subst c4
    have H1 : (cover_enter.l0 k l1 (l1.length : Int) 0 t387 t388 t389) = some (r1, r2, r3, r4) := by rw [if_pos rfl] at H; exact H
    clear H
    have H := H1
    clear H1
    have H' := Aside0.mk H
    clear H
    go_enter Try.func74, Try.ntmps74
    go_wp2_with (first | ((with_reducible refine gate_dst (N := 2) rfl ?_); refine box_event ?hg (N := 2) ?hd (cs := #[.int .u8 a0_0, .int .i64 a0_1, .int .i64 a0_2, .int .u64 a0_3, .int .u64 a0_4, .int .u64 a0_5]) (t := 45) ?hr ?_; (case hd => rfl); (case hg => rfl); (case hr => first | (go_simp; done) | (go_simp; rfl)); intro gb385 hg w5 hbox hb; have n0_ := Aside0.mk (below_step (by repeat (first | (with_reducible first | exact HB.out | apply below_alloc | apply pw_below_drewN | apply below_drew1) | exact HB.out)) hb); have n1_ := Aside0.mk (hbox); have n2_ := Aside0.mk ((by rw [hg]; exact (below_size (by repeat (first | (with_reducible first | exact HB.out | apply below_alloc | apply pw_below_drewN | apply below_drew1) | exact HB.out))) : w.heap.size ≤ gb385)); have n3_ := Aside0.mk ((by rw [hg]; exact (below_size (by repeat (first | (with_reducible first | exact HB.out | apply below_alloc | apply pw_below_drewN | apply below_drew1) | exact HB.out))) : w.heap.size ≤ gb385)); clear HB; have HB := n0_; have BK385 := n1_; have GW385 := n2_; have GE385 := n3_; clear n0_ n1_ n2_ n3_; clear hb hbox hg) | ((with_reducible refine gate_dst (N := 4) rfl ?_); refine box_event ?hg (N := 4) ?hd (cs := #[.int .u8 0, .int .i64 0, .int .i64 0]) (t := 134) ?hr ?_; (case hd => rfl); (case hg => rfl); (case hr => first | (go_simp; done) | (go_simp; rfl)); intro gb386 hg w6 hbox hb; have n0_ := Aside0.mk (blk_below (g := gb385) (o := .cells #[.int .u8 a0_0, .int .i64 a0_1, .int .i64 a0_2, .int .u64 a0_3, .int .u64 a0_4, .int .u64 a0_5] 45 (0, 0)) (by (with_reducible repeat (first | refine blk_drewN ?_ _ | refine blk_drew ?_ | refine blk_alloc ?_ _)); exact BK385.out) hb); have n1_ := Aside0.mk (below_step (by repeat (first | (with_reducible first | exact HB.out | apply below_alloc | apply pw_below_drewN | apply below_drew1 | refine below_set ?_ GE385.out) | exact HB.out)) hb); have n2_ := Aside0.mk (hbox); have n3_ := Aside0.mk ((by rw [hg]; exact (below_size (by repeat (first | (with_reducible first | exact HB.out | apply below_alloc | apply pw_below_drewN | apply below_drew1 | refine below_set ?_ GE385.out) | exact HB.out))) : w.heap.size ≤ gb386)); have n4_ := Aside0.mk ((by rw [hg]; exact (below_size (by repeat (first | (with_reducible first | exact HB.out | apply below_alloc | apply pw_below_drewN | apply below_drew1 | refine below_set ?_ GE385.out) | exact HB.out))) : w.heap.size ≤ gb386)); have n5_ := Aside0.mk ((by rw [hg]; exact Nat.ne_of_lt (blk_lt (g := gb385) (o := .cells #[.int .u8 a0_0, .int .i64 a0_1, .int .i64 a0_2, .int .u64 a0_3, .int .u64 a0_4, .int .u64 a0_5] 45 (0, 0)) (by (with_reducible repeat (first | refine blk_drewN ?_ _ | refine blk_drew ?_ | refine blk_alloc ?_ _)); exact BK385.out)) : gb385 ≠ gb386)); have n6_ := Aside0.mk ((by rw [hg]; exact Nat.ne_of_gt (blk_lt (g := gb385) (o := .cells #[.int .u8 a0_0, .int .i64 a0_1, .int .i64 a0_2, .int .u64 a0_3, .int .u64 a0_4, .int .u64 a0_5] 45 (0, 0)) (by (with_reducible repeat (first | refine blk_drewN ?_ _ | refine blk_drew ?_ | refine blk_alloc ?_ _)); exact BK385.out)) : gb386 ≠ gb385)); clear BK385; clear HB; have BK385 := n0_; have HB := n1_; have BK386 := n2_; have GW386 := n3_; have GE386 := n4_; have NB385_386 := n5_; have NB386_385 := n6_; clear n0_ n1_ n2_ n3_ n4_ n5_ n6_; clear hb hbox hg; have hnb7 := NB385_386.out; have hnc7 := NB386_385.out; have hcz8_0 : w6.cell? ⟨gb385, 0, none⟩ = some (.int .u8 a0_0) := (blk_cell BK385.out 0).trans rfl; have hcz8_1 : w6.cell? ⟨gb385, 1, none⟩ = some (.int .i64 a0_1) := (blk_cell BK385.out 1).trans rfl; have hcz8_2 : w6.cell? ⟨gb385, 2, none⟩ = some (.int .i64 a0_2) := (blk_cell BK385.out 2).trans rfl; have hcz8_3 : w6.cell? ⟨gb385, 3, none⟩ = some (.int .u64 a0_3) := (blk_cell BK385.out 3).trans rfl; have hcz8_4 : w6.cell? ⟨gb385, 4, none⟩ = some (.int .u64 a0_4) := (blk_cell BK385.out 4).trans rfl; have hcz8_5 : w6.cell? ⟨gb385, 5, none⟩ = some (.int .u64 a0_5) := (blk_cell BK385.out 5).trans rfl; have hfz8_0 := blk_frozen BK385.out 0; have hfz8_1 := blk_frozen BK385.out 1; have hfz8_2 := blk_frozen BK385.out 2; have hfz8_3 := blk_frozen BK385.out 3; have hfz8_4 := blk_frozen BK385.out 4; have hfz8_5 := blk_frozen BK385.out 5) | ((with_reducible refine gate_callee (f := 84) rfl ?_); refine goesL_ (some 12) rfl rfl Try.func84 (by kernel_rfl) rfl #[.agg #[.int .u8 a0_0, .int .i64 a0_1, .int .i64 a0_2, .int .u64 a0_3, .int .u64 a0_4, .int .u64 a0_5]] rfl (by (try simp only [List.map_toArray, List.map_cons, List.map_nil]); first | done | rfl | (simp only [List.length_drop, List.length_take]; rfl)) ?_; (with_reducible refine (cover_treeOf.calls k a0_0 a0_1 a0_2 a0_3 a0_4 a0_5 t387 t388 t389 true _ A3.out).mono ?_); rintro e w9 ⟨rfl, hb⟩; refine ⟨_, rfl, ?_⟩; have n0_ := Aside0.mk (blk_below (g := gb385) (o := .cells #[.int .u8 a0_0, .int .i64 a0_1, .int .i64 a0_2, .int .u64 a0_3, .int .u64 a0_4, .int .u64 a0_5] 45 (0, 0)) (by (with_reducible repeat (first | refine blk_drewN ?_ _ | refine blk_drew ?_ | refine blk_alloc ?_ _)); exact BK385.out) hb); have n1_ := Aside0.mk (blk_below (g := gb386) (o := .cells #[.int .u8 0, .int .i64 0, .int .i64 0] 134 (0, 0)) (by (with_reducible repeat (first | refine blk_drewN ?_ _ | refine blk_drew ?_ | refine blk_alloc ?_ _)); exact BK386.out) hb); have n2_ := Aside0.mk (below_step (by repeat (first | (with_reducible first | exact HB.out | apply below_alloc | apply pw_below_drewN | apply below_drew1 | refine below_set ?_ GE385.out | refine below_set ?_ GE386.out) | exact HB.out)) hb); clear BK385; clear BK386; clear HB; have BK385 := n0_; have BK386 := n1_; have HB := n2_; clear n0_ n1_ n2_; (try clear hb); (try clear hb2); (try clear hk); (try clear hi)) | ((with_reducible refine gate_dst (N := 6) rfl ?_); refine box_event ?hg (N := 6) ?hd (cs := #[.int .u8 0, .int .i64 0, .int .i64 0]) (t := 134) ?hr ?_; (case hd => rfl); (case hg => rfl); (case hr => first | (go_simp; done) | (go_simp; rfl)); intro gb391 hg w10 hbox hb; have n0_ := Aside0.mk (blk_below (g := gb385) (o := .cells #[.int .u8 a0_0, .int .i64 a0_1, .int .i64 a0_2, .int .u64 a0_3, .int .u64 a0_4, .int .u64 a0_5] 45 (0, 0)) (by (with_reducible repeat (first | refine blk_drewN ?_ _ | refine blk_drew ?_ | refine blk_alloc ?_ _)); exact BK385.out) hb); have n1_ := Aside0.mk (blk_below (g := gb386) (o := .cells #[.int .u8 0, .int .i64 0, .int .i64 0] 134 (0, 0)) (by (with_reducible repeat (first | refine blk_drewN ?_ _ | refine blk_drew ?_ | refine blk_alloc ?_ _)); exact BK386.out) hb); have n2_ := Aside0.mk (below_step (by repeat (first | (with_reducible first | exact HB.out | apply below_alloc | apply pw_below_drewN | apply below_drew1 | refine below_set ?_ GE385.out | refine below_set ?_ GE386.out) | exact HB.out)) hb); have n3_ := Aside0.mk (hbox); have n4_ := Aside0.mk ((by rw [hg]; exact (below_size (by repeat (first | (with_reducible first | exact HB.out | apply below_alloc | apply pw_below_drewN | apply below_drew1 | refine below_set ?_ GE385.out | refine below_set ?_ GE386.out) | exact HB.out))) : w.heap.size ≤ gb391)); have n5_ := Aside0.mk ((by rw [hg]; exact (below_size (by repeat (first | (with_reducible first | exact HB.out | apply below_alloc | apply pw_below_drewN | apply below_drew1 | refine below_set ?_ GE385.out | refine below_set ?_ GE386.out) | exact HB.out))) : w.heap.size ≤ gb391)); have n6_ := Aside0.mk ((by rw [hg]; exact Nat.ne_of_lt (blk_lt (g := gb385) (o := .cells #[.int .u8 a0_0, .int .i64 a0_1, .int .i64 a0_2, .int .u64 a0_3, .int .u64 a0_4, .int .u64 a0_5] 45 (0, 0)) (by (with_reducible repeat (first | refine blk_drewN ?_ _ | refine blk_drew ?_ | refine blk_alloc ?_ _)); exact BK385.out)) : gb385 ≠ gb391)); have n7_ := Aside0.mk ((by rw [hg]; exact Nat.ne_of_gt (blk_lt (g := gb385) (o := .cells #[.int .u8 a0_0, .int .i64 a0_1, .int .i64 a0_2, .int .u64 a0_3, .int .u64 a0_4, .int .u64 a0_5] 45 (0, 0)) (by (with_reducible repeat (first | refine blk_drewN ?_ _ | refine blk_drew ?_ | refine blk_alloc ?_ _)); exact BK385.out)) : gb391 ≠ gb385)); have n8_ := Aside0.mk ((by rw [hg]; exact Nat.ne_of_lt (blk_lt (g := gb386) (o := .cells #[.int .u8 0, .int .i64 0, .int .i64 0] 134 (0, 0)) (by (with_reducible repeat (first | refine blk_drewN ?_ _ | refine blk_drew ?_ | refine blk_alloc ?_ _)); exact BK386.out)) : gb386 ≠ gb391)); have n9_ := Aside0.mk ((by rw [hg]; exact Nat.ne_of_gt (blk_lt (g := gb386) (o := .cells #[.int .u8 0, .int .i64 0, .int .i64 0] 134 (0, 0)) (by (with_reducible repeat (first | refine blk_drewN ?_ _ | refine blk_drew ?_ | refine blk_alloc ?_ _)); exact BK386.out)) : gb391 ≠ gb386)); clear BK385; clear BK386; clear HB; have BK385 := n0_; have BK386 := n1_; have HB := n2_; have BK391 := n3_; have GW391 := n4_; have GE391 := n5_; have NB385_391 := n6_; have NB391_385 := n7_; have NB386_391 := n8_; have NB391_386 := n9_; clear n0_ n1_ n2_ n3_ n4_ n5_ n6_ n7_ n8_ n9_; clear hb hbox hg; have hnb11 := NB391_385.out; have hnc11 := NB385_391.out; have hnb12 := NB391_386.out; have hnc12 := NB386_391.out; have hcz13_0 : w10.cell? ⟨gb391, 0, none⟩ = some (.int .u8 0) := (blk_cell BK391.out 0).trans rfl; have hcz13_1 : w10.cell? ⟨gb391, 1, none⟩ = some (.int .i64 0) := (blk_cell BK391.out 1).trans rfl; have hcz13_2 : w10.cell? ⟨gb391, 2, none⟩ = some (.int .i64 0) := (blk_cell BK391.out 2).trans rfl; have hfz13_0 := blk_frozen BK391.out 0; have hfz13_1 := blk_frozen BK391.out 1; have hfz13_2 := blk_frozen BK391.out 2))
    go_loopg [20] k (fun kq v20 w' => ∃ (x20_1 : Int) (x387000_1 : Int) (x387001_1 : Int) (x387002_1 : Int), v20 = .int .i64 x20_1 ∧ Aside0 (cover_enter.l0 kq l1 (l1.length : Int) x20_1 t387 t388 t389 = some (r1, r2, r3, r4)) ∧ Aside0 (kq ≤ k) ∧ Aside0 (w'.heap[gb385]? = some (.cells #[.int .u8 a0_0, .int .i64 a0_1, .int .i64 a0_2, .int .u64 a0_3, .int .u64 a0_4, .int .u64 a0_5] 45 (0, 0))) ∧ Aside0 (w'.heap[gb386]? = some (.cells #[.int .u8 x387000_1, .int .i64 x387001_1, .int .i64 x387002_1] 134 (0, 0))) ∧ Aside0 (w'.heap[gb391]? = some (.cells #[.int .u8 t387, .int .i64 t388, .int .i64 t389] 134 (0, 0))) ∧ Aside0 (Below w.heap.size w w'))
    case atStart => exact ⟨(0), (0), (0), (0), (by first | rfl | (simp; done) | (simp [*]; done)), H', ⟨Nat.le_refl _⟩, ⟨by (with_reducible repeat (first | refine blk_drewN ?_ _ | refine blk_drew ?_ | refine blk_alloc ?_ _)); refine blk_far ?_ NB385_391.out _; (with_reducible repeat (first | refine blk_drewN ?_ _ | refine blk_drew ?_ | refine blk_alloc ?_ _)); refine blk_far ?_ NB385_391.out _; (with_reducible repeat (first | refine blk_drewN ?_ _ | refine blk_drew ?_ | refine blk_alloc ?_ _)); refine blk_far ?_ NB385_391.out _; (with_reducible repeat (first | refine blk_drewN ?_ _ | refine blk_drew ?_ | refine blk_alloc ?_ _)); exact BK385.out⟩, ⟨by (with_reducible repeat (first | refine blk_drewN ?_ _ | refine blk_drew ?_ | refine blk_alloc ?_ _)); refine blk_far ?_ NB386_391.out _; (with_reducible repeat (first | refine blk_drewN ?_ _ | refine blk_drew ?_ | refine blk_alloc ?_ _)); refine blk_far ?_ NB386_391.out _; (with_reducible repeat (first | refine blk_drewN ?_ _ | refine blk_drew ?_ | refine blk_alloc ?_ _)); refine blk_far ?_ NB386_391.out _; (with_reducible repeat (first | refine blk_drewN ?_ _ | refine blk_drew ?_ | refine blk_alloc ?_ _)); exact BK386.out⟩, ⟨by (with_reducible repeat (first | refine blk_drewN ?_ _ | refine blk_drew ?_ | refine blk_alloc ?_ _)); refine blk_put (cs := #[.int .u8 t387, .int .i64 t388, .int .i64 0]) ?_ 2 _ rfl; (with_reducible repeat (first | refine blk_drewN ?_ _ | refine blk_drew ?_ | refine blk_alloc ?_ _)); refine blk_put (cs := #[.int .u8 t387, .int .i64 0, .int .i64 0]) ?_ 1 _ rfl; (with_reducible repeat (first | refine blk_drewN ?_ _ | refine blk_drew ?_ | refine blk_alloc ?_ _)); refine blk_put (cs := #[.int .u8 0, .int .i64 0, .int .i64 0]) ?_ 0 _ rfl; (with_reducible repeat (first | refine blk_drewN ?_ _ | refine blk_drew ?_ | refine blk_alloc ?_ _)); exact BK391.out⟩, ⟨by repeat (first | (with_reducible first | exact HB.out | apply below_alloc | apply pw_below_drewN | apply below_drew1 | refine below_set ?_ GE385.out | refine below_set ?_ GE386.out | refine below_set ?_ GE391.out) | exact HB.out)⟩⟩
    case round =>
      clear H'
      try clear c1
      try clear p2
      try clear c4
      try clear c7
      try clear c8
      try clear c11
      try clear c12
      try clear hcz13_0
      try clear hcz13_1
      try clear hcz13_2
      try clear hcz8_0
      try clear hcz8_1
      try clear hcz8_2
      try clear hcz8_3
      try clear hcz8_4
      try clear hcz8_5
      try clear hfz13_0
      try clear hfz13_1
      try clear hfz13_2
      try clear hfz8_0
      try clear hfz8_1
      try clear hfz8_2
      try clear hfz8_3
      try clear hfz8_4
      try clear hfz8_5
      obtain ⟨x20_1, x387000_1, x387001_1, x387002_1, rfl, HA, HK1, BK385, BK386, BK391, HB⟩ := hrel
      cases gk with
      | zero => exact absurd HA.out (by simp [cover_enter.l0])
      | succ k1 =>
        have H := HA.out
        clear HA
        simp only [cover_enter.l0] at H
        by_cases c14 : x20_1 < (l1.length : Int)
        · rw [if_pos c14] at H
          have c14b0 : decide (x20_1 < (l1.length : Int)) = true := decide_eq_true c14
          clear c14
          by_cases c15 : 0 ≤ x20_1
          · rw [if_pos c15] at H
            have c15b0 : decide (0 ≤ x20_1) = true := decide_eq_true c15
            clear c15
            by_cases c16 : x20_1 < (l1.length : Int)
            · rw [if_pos c16] at H
              have c16b0 : decide (x20_1 < (l1.length : Int)) = true := decide_eq_true c16
              clear c16
              replace H := Option.bind_eq_some_iff.mp H
              obtain ⟨t394, A170, H⟩ := H
              replace H : (if t394 = true then (cover_enter.l0 k1 l1 (l1.length : Int) (wrap64 (x20_1 + 1)) t387 t388 t389) else (some (0, 0, 0, 31))) = some (r1, r2, r3, r4) := H
              have A17 := Aside0.mk A170
              clear A170
              by_cases c18 : t394 = true
              · subst c18
                have H1 : (cover_enter.l0 k1 l1 (l1.length : Int) (wrap64 (x20_1 + 1)) t387 t388 t389) = some (r1, r2, r3, r4) := by rw [if_pos rfl] at H; exact H
                clear H
                have H := H1
                clear H1
                have H' := Aside0.mk H
                clear H
                have p392 : 0 ≤ (x20_1 : Int) := of_decide_eq_true (by first | (with_reducible assumption) | assumption)
                have q392 : x20_1 < (l1.length : Int) := of_decide_eq_true (by first | (with_reducible assumption) | assumption)
                obtain ⟨ad392, e392, hx392_0, hx392_1⟩ := at_T47 HR1.out x20_1 p392 q392
                cases e392
                replace hx392_0 := (HB.out.cell (World.block_lt_of_cell? w _ hx392_0)).trans hx392_0
                replace hx392_1 := (HB.out.cell (World.block_lt_of_cell? w _ hx392_1)).trans hx392_1
                replace p392 := eq_true p392
                replace q392 := eq_true q392
                go_wp2_with (first | ((with_reducible refine gate_dst (N := 9) rfl ?_); refine box_event ?hg (N := 9) ?hd (cs := #[.int .i64 0, .int .i64 0]) (t := 47) ?hr ?_; (case hd => rfl); (case hg => rfl); (case hr => first | (go_simp; done) | (go_simp; rfl)); intro gb393 hg w19 hbox hb; have n0_ := Aside0.mk (blk_below (g := gb385) (o := .cells #[.int .u8 a0_0, .int .i64 a0_1, .int .i64 a0_2, .int .u64 a0_3, .int .u64 a0_4, .int .u64 a0_5] 45 (0, 0)) (by (with_reducible repeat (first | refine blk_drewN ?_ _ | refine blk_drew ?_ | refine blk_alloc ?_ _)); exact BK385.out) hb); have n1_ := Aside0.mk (blk_below (g := gb386) (o := .cells #[.int .u8 x387000_1, .int .i64 x387001_1, .int .i64 x387002_1] 134 (0, 0)) (by (with_reducible repeat (first | refine blk_drewN ?_ _ | refine blk_drew ?_ | refine blk_alloc ?_ _)); exact BK386.out) hb); have n2_ := Aside0.mk (blk_below (g := gb391) (o := .cells #[.int .u8 t387, .int .i64 t388, .int .i64 t389] 134 (0, 0)) (by (with_reducible repeat (first | refine blk_drewN ?_ _ | refine blk_drew ?_ | refine blk_alloc ?_ _)); exact BK391.out) hb); have n3_ := Aside0.mk (below_step (by repeat (first | (with_reducible first | exact HB.out | apply below_alloc | apply pw_below_drewN | apply below_drew1 | refine below_set ?_ GE385.out | refine below_set ?_ GE386.out | refine below_set ?_ GE391.out) | exact HB.out)) hb); have n4_ := Aside0.mk (hbox); have n5_ := Aside0.mk ((by rw [hg]; exact (below_size (by repeat (first | (with_reducible first | exact HB.out | apply below_alloc | apply pw_below_drewN | apply below_drew1 | refine below_set ?_ GE385.out | refine below_set ?_ GE386.out | refine below_set ?_ GE391.out) | exact HB.out))) : w.heap.size ≤ gb393)); have n6_ := Aside0.mk ((by rw [hg]; exact (below_size (by repeat (first | (with_reducible first | exact HB.out | apply below_alloc | apply pw_below_drewN | apply below_drew1 | refine below_set ?_ GE385.out | refine below_set ?_ GE386.out | refine below_set ?_ GE391.out) | exact HB.out))) : w.heap.size ≤ gb393)); have n7_ := Aside0.mk ((by rw [hg]; exact Nat.ne_of_lt (blk_lt (g := gb385) (o := .cells #[.int .u8 a0_0, .int .i64 a0_1, .int .i64 a0_2, .int .u64 a0_3, .int .u64 a0_4, .int .u64 a0_5] 45 (0, 0)) (by (with_reducible repeat (first | refine blk_drewN ?_ _ | refine blk_drew ?_ | refine blk_alloc ?_ _)); exact BK385.out)) : gb385 ≠ gb393)); have n8_ := Aside0.mk ((by rw [hg]; exact Nat.ne_of_gt (blk_lt (g := gb385) (o := .cells #[.int .u8 a0_0, .int .i64 a0_1, .int .i64 a0_2, .int .u64 a0_3, .int .u64 a0_4, .int .u64 a0_5] 45 (0, 0)) (by (with_reducible repeat (first | refine blk_drewN ?_ _ | refine blk_drew ?_ | refine blk_alloc ?_ _)); exact BK385.out)) : gb393 ≠ gb385)); have n9_ := Aside0.mk ((by rw [hg]; exact Nat.ne_of_lt (blk_lt (g := gb386) (o := .cells #[.int .u8 x387000_1, .int .i64 x387001_1, .int .i64 x387002_1] 134 (0, 0)) (by (with_reducible repeat (first | refine blk_drewN ?_ _ | refine blk_drew ?_ | refine blk_alloc ?_ _)); exact BK386.out)) : gb386 ≠ gb393)); have n10_ := Aside0.mk ((by rw [hg]; exact Nat.ne_of_gt (blk_lt (g := gb386) (o := .cells #[.int .u8 x387000_1, .int .i64 x387001_1, .int .i64 x387002_1] 134 (0, 0)) (by (with_reducible repeat (first | refine blk_drewN ?_ _ | refine blk_drew ?_ | refine blk_alloc ?_ _)); exact BK386.out)) : gb393 ≠ gb386)); have n11_ := Aside0.mk ((by rw [hg]; exact Nat.ne_of_lt (blk_lt (g := gb391) (o := .cells #[.int .u8 t387, .int .i64 t388, .int .i64 t389] 134 (0, 0)) (by (with_reducible repeat (first | refine blk_drewN ?_ _ | refine blk_drew ?_ | refine blk_alloc ?_ _)); exact BK391.out)) : gb391 ≠ gb393)); have n12_ := Aside0.mk ((by rw [hg]; exact Nat.ne_of_gt (blk_lt (g := gb391) (o := .cells #[.int .u8 t387, .int .i64 t388, .int .i64 t389] 134 (0, 0)) (by (with_reducible repeat (first | refine blk_drewN ?_ _ | refine blk_drew ?_ | refine blk_alloc ?_ _)); exact BK391.out)) : gb393 ≠ gb391)); clear BK385; clear BK386; clear BK391; clear HB; have BK385 := n0_; have BK386 := n1_; have BK391 := n2_; have HB := n3_; have BK393 := n4_; have GW393 := n5_; have GE393 := n6_; have NB385_393 := n7_; have NB393_385 := n8_; have NB386_393 := n9_; have NB393_386 := n10_; have NB391_393 := n11_; have NB393_391 := n12_; clear n0_ n1_ n2_ n3_ n4_ n5_ n6_ n7_ n8_ n9_ n10_ n11_ n12_; clear hb hbox hg; have hnb20 := NB393_385.out; have hnc20 := NB385_393.out; have hnb21 := NB393_386.out; have hnc21 := NB386_393.out; have hnb22 := NB393_391.out; have hnc22 := NB391_393.out; have hcz23_0 : w19.cell? ⟨gb393, 0, none⟩ = some (.int .i64 0) := (blk_cell BK393.out 0).trans rfl; have hcz23_1 : w19.cell? ⟨gb393, 1, none⟩ = some (.int .i64 0) := (blk_cell BK393.out 1).trans rfl; have hfz23_0 := blk_frozen BK393.out 0; have hfz23_1 := blk_frozen BK393.out 1; have hnb24 := NB391_385.out; have hnc24 := NB385_391.out; have hnb25 := NB391_386.out; have hnc25 := NB386_391.out; have hcz26_0 : w19.cell? ⟨gb391, 0, none⟩ = some (.int .u8 t387) := (blk_cell BK391.out 0).trans rfl; have hcz26_1 : w19.cell? ⟨gb391, 1, none⟩ = some (.int .i64 t388) := (blk_cell BK391.out 1).trans rfl; have hcz26_2 : w19.cell? ⟨gb391, 2, none⟩ = some (.int .i64 t389) := (blk_cell BK391.out 2).trans rfl; have hfz26_0 := blk_frozen BK391.out 0; have hfz26_1 := blk_frozen BK391.out 1; have hfz26_2 := blk_frozen BK391.out 2) | ((with_reducible refine gate_callee (f := 79) rfl ?_); refine goesL_ (some 26) rfl rfl Try.func79 (by kernel_rfl) rfl #[.agg #[.int .u8 t387, .int .i64 t388, .int .i64 t389], .agg #[.int .i64 ((rd_T47 l1 x20_1).f0), .int .i64 ((rd_T47 l1 x20_1).f1)]] rfl (by (try simp only [List.map_toArray, List.map_cons, List.map_nil]); first | done | rfl | (simp only [List.length_drop, List.length_take]; rfl)) ?_; (with_reducible refine (cover_tree_subset.calls k1 t387 t388 t389 ((rd_T47 l1 x20_1).f0) ((rd_T47 l1 x20_1).f1) true _ A17.out).mono ?_); rintro e w27 ⟨rfl, hb⟩; refine ⟨_, rfl, ?_⟩; have n0_ := Aside0.mk (blk_below (g := gb385) (o := .cells #[.int .u8 a0_0, .int .i64 a0_1, .int .i64 a0_2, .int .u64 a0_3, .int .u64 a0_4, .int .u64 a0_5] 45 (0, 0)) (by (with_reducible repeat (first | refine blk_drewN ?_ _ | refine blk_drew ?_ | refine blk_alloc ?_ _)); refine blk_far ?_ NB385_393.out _; (with_reducible repeat (first | refine blk_drewN ?_ _ | refine blk_drew ?_ | refine blk_alloc ?_ _)); refine blk_far ?_ NB385_393.out _; (with_reducible repeat (first | refine blk_drewN ?_ _ | refine blk_drew ?_ | refine blk_alloc ?_ _)); exact BK385.out) hb); have n1_ := Aside0.mk (blk_below (g := gb386) (o := .cells #[.int .u8 x387000_1, .int .i64 x387001_1, .int .i64 x387002_1] 134 (0, 0)) (by (with_reducible repeat (first | refine blk_drewN ?_ _ | refine blk_drew ?_ | refine blk_alloc ?_ _)); refine blk_far ?_ NB386_393.out _; (with_reducible repeat (first | refine blk_drewN ?_ _ | refine blk_drew ?_ | refine blk_alloc ?_ _)); refine blk_far ?_ NB386_393.out _; (with_reducible repeat (first | refine blk_drewN ?_ _ | refine blk_drew ?_ | refine blk_alloc ?_ _)); exact BK386.out) hb); have n2_ := Aside0.mk (blk_below (g := gb391) (o := .cells #[.int .u8 t387, .int .i64 t388, .int .i64 t389] 134 (0, 0)) (by (with_reducible repeat (first | refine blk_drewN ?_ _ | refine blk_drew ?_ | refine blk_alloc ?_ _)); refine blk_far ?_ NB391_393.out _; (with_reducible repeat (first | refine blk_drewN ?_ _ | refine blk_drew ?_ | refine blk_alloc ?_ _)); refine blk_far ?_ NB391_393.out _; (with_reducible repeat (first | refine blk_drewN ?_ _ | refine blk_drew ?_ | refine blk_alloc ?_ _)); exact BK391.out) hb); have n3_ := Aside0.mk (blk_below (g := gb393) (o := .cells #[.int .i64 ((rd_T47 l1 x20_1).f0), .int .i64 ((rd_T47 l1 x20_1).f1)] 47 (0, 0)) (by (with_reducible repeat (first | refine blk_drewN ?_ _ | refine blk_drew ?_ | refine blk_alloc ?_ _)); refine blk_put (cs := #[.int .i64 ((rd_T47 l1 x20_1).f0), .int .i64 0]) ?_ 1 _ rfl; (with_reducible repeat (first | refine blk_drewN ?_ _ | refine blk_drew ?_ | refine blk_alloc ?_ _)); refine blk_put (cs := #[.int .i64 0, .int .i64 0]) ?_ 0 _ rfl; (with_reducible repeat (first | refine blk_drewN ?_ _ | refine blk_drew ?_ | refine blk_alloc ?_ _)); exact BK393.out) hb); have n4_ := Aside0.mk (below_step (by repeat (first | (with_reducible first | exact HB.out | apply below_alloc | apply pw_below_drewN | apply below_drew1 | refine below_set ?_ GE385.out | refine below_set ?_ GE386.out | refine below_set ?_ GE391.out | refine below_set ?_ GE393.out) | exact HB.out)) hb); clear BK385; clear BK386; clear BK391; clear BK393; clear HB; have BK385 := n0_; have BK386 := n1_; have BK391 := n2_; have BK393 := n3_; have HB := n4_; clear n0_ n1_ n2_ n3_ n4_; (try clear hb); (try clear hb2); (try clear hk); (try clear hi)))
                go_roundg k1
                case measure => have := HK1.out; omega
                case rel => exact ⟨(wrap64 (x20_1 + 1)), (x387000_1), (x387001_1), (x387002_1), (by first | rfl | (simp; done) | (simp [*]; done)), H', ⟨by have := HK1.out; omega⟩, ⟨by (with_reducible repeat (first | refine blk_drewN ?_ _ | refine blk_drew ?_ | refine blk_alloc ?_ _)); exact BK385.out⟩, ⟨by (with_reducible repeat (first | refine blk_drewN ?_ _ | refine blk_drew ?_ | refine blk_alloc ?_ _)); exact BK386.out⟩, ⟨by (with_reducible repeat (first | refine blk_drewN ?_ _ | refine blk_drew ?_ | refine blk_alloc ?_ _)); exact BK391.out⟩, ⟨by repeat (first | (with_reducible first | exact HB.out | apply below_alloc | apply pw_below_drewN | apply below_drew1 | refine below_set ?_ GE385.out | refine below_set ?_ GE386.out | refine below_set ?_ GE391.out | refine below_set ?_ GE393.out) | exact HB.out)⟩⟩
              · replace c18 := Bool.eq_false_iff.mpr c18
                subst c18
                have H1 : (some (0, 0, 0, 31)) = some (r1, r2, r3, r4) := by rw [if_neg (show ¬ (false = true) by decide)] at H; exact H
                clear H
                have H := H1
                clear H1
                simp only [Option.some.injEq, Prod.mk.injEq] at H
                obtain ⟨rfl, rfl, rfl, rfl⟩ := H
                have p392 : 0 ≤ (x20_1 : Int) := of_decide_eq_true (by first | (with_reducible assumption) | assumption)
                have q392 : x20_1 < (l1.length : Int) := of_decide_eq_true (by first | (with_reducible assumption) | assumption)
                obtain ⟨ad392, e392, hx392_0, hx392_1⟩ := at_T47 HR1.out x20_1 p392 q392
                cases e392
                replace hx392_0 := (HB.out.cell (World.block_lt_of_cell? w _ hx392_0)).trans hx392_0
                replace hx392_1 := (HB.out.cell (World.block_lt_of_cell? w _ hx392_1)).trans hx392_1
                replace p392 := eq_true p392
                replace q392 := eq_true q392
                go_wp2_with (first | ((with_reducible refine gate_dst (N := 9) rfl ?_); refine box_event ?hg (N := 9) ?hd (cs := #[.int .i64 0, .int .i64 0]) (t := 47) ?hr ?_; (case hd => rfl); (case hg => rfl); (case hr => first | (go_simp; done) | (go_simp; rfl)); intro gb393 hg w28 hbox hb; have n0_ := Aside0.mk (blk_below (g := gb385) (o := .cells #[.int .u8 a0_0, .int .i64 a0_1, .int .i64 a0_2, .int .u64 a0_3, .int .u64 a0_4, .int .u64 a0_5] 45 (0, 0)) (by (with_reducible repeat (first | refine blk_drewN ?_ _ | refine blk_drew ?_ | refine blk_alloc ?_ _)); exact BK385.out) hb); have n1_ := Aside0.mk (blk_below (g := gb386) (o := .cells #[.int .u8 x387000_1, .int .i64 x387001_1, .int .i64 x387002_1] 134 (0, 0)) (by (with_reducible repeat (first | refine blk_drewN ?_ _ | refine blk_drew ?_ | refine blk_alloc ?_ _)); exact BK386.out) hb); have n2_ := Aside0.mk (blk_below (g := gb391) (o := .cells #[.int .u8 t387, .int .i64 t388, .int .i64 t389] 134 (0, 0)) (by (with_reducible repeat (first | refine blk_drewN ?_ _ | refine blk_drew ?_ | refine blk_alloc ?_ _)); exact BK391.out) hb); have n3_ := Aside0.mk (below_step (by repeat (first | (with_reducible first | exact HB.out | apply below_alloc | apply pw_below_drewN | apply below_drew1 | refine below_set ?_ GE385.out | refine below_set ?_ GE386.out | refine below_set ?_ GE391.out) | exact HB.out)) hb); have n4_ := Aside0.mk (hbox); have n5_ := Aside0.mk ((by rw [hg]; exact (below_size (by repeat (first | (with_reducible first | exact HB.out | apply below_alloc | apply pw_below_drewN | apply below_drew1 | refine below_set ?_ GE385.out | refine below_set ?_ GE386.out | refine below_set ?_ GE391.out) | exact HB.out))) : w.heap.size ≤ gb393)); have n6_ := Aside0.mk ((by rw [hg]; exact (below_size (by repeat (first | (with_reducible first | exact HB.out | apply below_alloc | apply pw_below_drewN | apply below_drew1 | refine below_set ?_ GE385.out | refine below_set ?_ GE386.out | refine below_set ?_ GE391.out) | exact HB.out))) : w.heap.size ≤ gb393)); have n7_ := Aside0.mk ((by rw [hg]; exact Nat.ne_of_lt (blk_lt (g := gb385) (o := .cells #[.int .u8 a0_0, .int .i64 a0_1, .int .i64 a0_2, .int .u64 a0_3, .int .u64 a0_4, .int .u64 a0_5] 45 (0, 0)) (by (with_reducible repeat (first | refine blk_drewN ?_ _ | refine blk_drew ?_ | refine blk_alloc ?_ _)); exact BK385.out)) : gb385 ≠ gb393)); have n8_ := Aside0.mk ((by rw [hg]; exact Nat.ne_of_gt (blk_lt (g := gb385) (o := .cells #[.int .u8 a0_0, .int .i64 a0_1, .int .i64 a0_2, .int .u64 a0_3, .int .u64 a0_4, .int .u64 a0_5] 45 (0, 0)) (by (with_reducible repeat (first | refine blk_drewN ?_ _ | refine blk_drew ?_ | refine blk_alloc ?_ _)); exact BK385.out)) : gb393 ≠ gb385)); have n9_ := Aside0.mk ((by rw [hg]; exact Nat.ne_of_lt (blk_lt (g := gb386) (o := .cells #[.int .u8 x387000_1, .int .i64 x387001_1, .int .i64 x387002_1] 134 (0, 0)) (by (with_reducible repeat (first | refine blk_drewN ?_ _ | refine blk_drew ?_ | refine blk_alloc ?_ _)); exact BK386.out)) : gb386 ≠ gb393)); have n10_ := Aside0.mk ((by rw [hg]; exact Nat.ne_of_gt (blk_lt (g := gb386) (o := .cells #[.int .u8 x387000_1, .int .i64 x387001_1, .int .i64 x387002_1] 134 (0, 0)) (by (with_reducible repeat (first | refine blk_drewN ?_ _ | refine blk_drew ?_ | refine blk_alloc ?_ _)); exact BK386.out)) : gb393 ≠ gb386)); have n11_ := Aside0.mk ((by rw [hg]; exact Nat.ne_of_lt (blk_lt (g := gb391) (o := .cells #[.int .u8 t387, .int .i64 t388, .int .i64 t389] 134 (0, 0)) (by (with_reducible repeat (first | refine blk_drewN ?_ _ | refine blk_drew ?_ | refine blk_alloc ?_ _)); exact BK391.out)) : gb391 ≠ gb393)); have n12_ := Aside0.mk ((by rw [hg]; exact Nat.ne_of_gt (blk_lt (g := gb391) (o := .cells #[.int .u8 t387, .int .i64 t388, .int .i64 t389] 134 (0, 0)) (by (with_reducible repeat (first | refine blk_drewN ?_ _ | refine blk_drew ?_ | refine blk_alloc ?_ _)); exact BK391.out)) : gb393 ≠ gb391)); clear BK385; clear BK386; clear BK391; clear HB; have BK385 := n0_; have BK386 := n1_; have BK391 := n2_; have HB := n3_; have BK393 := n4_; have GW393 := n5_; have GE393 := n6_; have NB385_393 := n7_; have NB393_385 := n8_; have NB386_393 := n9_; have NB393_386 := n10_; have NB391_393 := n11_; have NB393_391 := n12_; clear n0_ n1_ n2_ n3_ n4_ n5_ n6_ n7_ n8_ n9_ n10_ n11_ n12_; clear hb hbox hg; have hnb29 := NB393_385.out; have hnc29 := NB385_393.out; have hnb30 := NB393_386.out; have hnc30 := NB386_393.out; have hnb31 := NB393_391.out; have hnc31 := NB391_393.out; have hcz32_0 : w28.cell? ⟨gb393, 0, none⟩ = some (.int .i64 0) := (blk_cell BK393.out 0).trans rfl; have hcz32_1 : w28.cell? ⟨gb393, 1, none⟩ = some (.int .i64 0) := (blk_cell BK393.out 1).trans rfl; have hfz32_0 := blk_frozen BK393.out 0; have hfz32_1 := blk_frozen BK393.out 1; have hnb33 := NB391_385.out; have hnc33 := NB385_391.out; have hnb34 := NB391_386.out; have hnc34 := NB386_391.out; have hcz35_0 : w28.cell? ⟨gb391, 0, none⟩ = some (.int .u8 t387) := (blk_cell BK391.out 0).trans rfl; have hcz35_1 : w28.cell? ⟨gb391, 1, none⟩ = some (.int .i64 t388) := (blk_cell BK391.out 1).trans rfl; have hcz35_2 : w28.cell? ⟨gb391, 2, none⟩ = some (.int .i64 t389) := (blk_cell BK391.out 2).trans rfl; have hfz35_0 := blk_frozen BK391.out 0; have hfz35_1 := blk_frozen BK391.out 1; have hfz35_2 := blk_frozen BK391.out 2) | ((with_reducible refine gate_callee (f := 79) rfl ?_); refine goesL_ (some 26) rfl rfl Try.func79 (by kernel_rfl) rfl #[.agg #[.int .u8 t387, .int .i64 t388, .int .i64 t389], .agg #[.int .i64 ((rd_T47 l1 x20_1).f0), .int .i64 ((rd_T47 l1 x20_1).f1)]] rfl (by (try simp only [List.map_toArray, List.map_cons, List.map_nil]); first | done | rfl | (simp only [List.length_drop, List.length_take]; rfl)) ?_; (with_reducible refine (cover_tree_subset.calls k1 t387 t388 t389 ((rd_T47 l1 x20_1).f0) ((rd_T47 l1 x20_1).f1) false _ A17.out).mono ?_); rintro e w36 ⟨rfl, hb⟩; refine ⟨_, rfl, ?_⟩; have n0_ := Aside0.mk (blk_below (g := gb385) (o := .cells #[.int .u8 a0_0, .int .i64 a0_1, .int .i64 a0_2, .int .u64 a0_3, .int .u64 a0_4, .int .u64 a0_5] 45 (0, 0)) (by (with_reducible repeat (first | refine blk_drewN ?_ _ | refine blk_drew ?_ | refine blk_alloc ?_ _)); refine blk_far ?_ NB385_393.out _; (with_reducible repeat (first | refine blk_drewN ?_ _ | refine blk_drew ?_ | refine blk_alloc ?_ _)); refine blk_far ?_ NB385_393.out _; (with_reducible repeat (first | refine blk_drewN ?_ _ | refine blk_drew ?_ | refine blk_alloc ?_ _)); exact BK385.out) hb); have n1_ := Aside0.mk (blk_below (g := gb386) (o := .cells #[.int .u8 x387000_1, .int .i64 x387001_1, .int .i64 x387002_1] 134 (0, 0)) (by (with_reducible repeat (first | refine blk_drewN ?_ _ | refine blk_drew ?_ | refine blk_alloc ?_ _)); refine blk_far ?_ NB386_393.out _; (with_reducible repeat (first | refine blk_drewN ?_ _ | refine blk_drew ?_ | refine blk_alloc ?_ _)); refine blk_far ?_ NB386_393.out _; (with_reducible repeat (first | refine blk_drewN ?_ _ | refine blk_drew ?_ | refine blk_alloc ?_ _)); exact BK386.out) hb); have n2_ := Aside0.mk (blk_below (g := gb391) (o := .cells #[.int .u8 t387, .int .i64 t388, .int .i64 t389] 134 (0, 0)) (by (with_reducible repeat (first | refine blk_drewN ?_ _ | refine blk_drew ?_ | refine blk_alloc ?_ _)); refine blk_far ?_ NB391_393.out _; (with_reducible repeat (first | refine blk_drewN ?_ _ | refine blk_drew ?_ | refine blk_alloc ?_ _)); refine blk_far ?_ NB391_393.out _; (with_reducible repeat (first | refine blk_drewN ?_ _ | refine blk_drew ?_ | refine blk_alloc ?_ _)); exact BK391.out) hb); have n3_ := Aside0.mk (blk_below (g := gb393) (o := .cells #[.int .i64 ((rd_T47 l1 x20_1).f0), .int .i64 ((rd_T47 l1 x20_1).f1)] 47 (0, 0)) (by (with_reducible repeat (first | refine blk_drewN ?_ _ | refine blk_drew ?_ | refine blk_alloc ?_ _)); refine blk_put (cs := #[.int .i64 ((rd_T47 l1 x20_1).f0), .int .i64 0]) ?_ 1 _ rfl; (with_reducible repeat (first | refine blk_drewN ?_ _ | refine blk_drew ?_ | refine blk_alloc ?_ _)); refine blk_put (cs := #[.int .i64 0, .int .i64 0]) ?_ 0 _ rfl; (with_reducible repeat (first | refine blk_drewN ?_ _ | refine blk_drew ?_ | refine blk_alloc ?_ _)); exact BK393.out) hb); have n4_ := Aside0.mk (below_step (by repeat (first | (with_reducible first | exact HB.out | apply below_alloc | apply pw_below_drewN | apply below_drew1 | refine below_set ?_ GE385.out | refine below_set ?_ GE386.out | refine below_set ?_ GE391.out | refine below_set ?_ GE393.out) | exact HB.out)) hb); clear BK385; clear BK386; clear BK391; clear BK393; clear HB; have BK385 := n0_; have BK386 := n1_; have BK391 := n2_; have BK393 := n3_; have HB := n4_; clear n0_ n1_ n2_ n3_ n4_; (try clear hb); (try clear hb2); (try clear hk); (try clear hi); have hnb37 := NB386_385.out; have hnc37 := NB385_386.out; have hcz38_0 : w36.cell? ⟨gb386, 0, none⟩ = some (.int .u8 x387000_1) := (blk_cell BK386.out 0).trans rfl; have hcz38_1 : w36.cell? ⟨gb386, 1, none⟩ = some (.int .i64 x387001_1) := (blk_cell BK386.out 1).trans rfl; have hcz38_2 : w36.cell? ⟨gb386, 2, none⟩ = some (.int .i64 x387002_1) := (blk_cell BK386.out 2).trans rfl; have hfz38_0 := blk_frozen BK386.out 0; have hfz38_1 := blk_frozen BK386.out 1; have hfz38_2 := blk_frozen BK386.out 2))
                refine bodyPost_ret (results_ct rfl _ _ gb386 134 #[.int .u8 0, .int .i64 0, .int .i64 0] (0, 0) _ rfl (by (with_reducible repeat (first | refine blk_drewN ?_ _ | refine blk_drew ?_ | refine blk_alloc ?_ _)); refine blk_put (cs := #[.int .u8 0, .int .i64 0, .int .i64 x387002_1]) ?_ 2 _ rfl; (with_reducible repeat (first | refine blk_drewN ?_ _ | refine blk_drew ?_ | refine blk_alloc ?_ _)); refine blk_put (cs := #[.int .u8 0, .int .i64 x387001_1, .int .i64 x387002_1]) ?_ 1 _ rfl; (with_reducible repeat (first | refine blk_drewN ?_ _ | refine blk_drew ?_ | refine blk_alloc ?_ _)); refine blk_put (cs := #[.int .u8 x387000_1, .int .i64 x387001_1, .int .i64 x387002_1]) ?_ 0 _ rfl; (with_reducible repeat (first | refine blk_drewN ?_ _ | refine blk_drew ?_ | refine blk_alloc ?_ _)); exact BK386.out) Try.underlying134 rfl (by kernel_rfl)) rfl ?_
                exact ⟨by first | rfl | (simp [errW_none, errW_some] <;> rfl) | (simp [*, errW_none, errW_some] <;> rfl), by repeat (first | (with_reducible first | exact HB.out | apply below_alloc | apply pw_below_drewN | apply below_drew1 | refine below_set ?_ GE385.out | refine below_set ?_ GE386.out | refine below_set ?_ GE391.out | refine below_set ?_ GE393.out) | exact HB.out)⟩
            · rw [if_neg c16] at H
              exact absurd H (by simp)
          · rw [if_neg c15] at H
            exact absurd H (by simp)
        · rw [if_neg c14] at H
          have c14b0 : decide (x20_1 < (l1.length : Int)) = false := decide_eq_false c14
          clear c14
          simp only [Option.some.injEq, Prod.mk.injEq] at H
          obtain ⟨rfl, rfl, rfl, rfl⟩ := H
          have hnb39 := NB391_385.out
          have hnc39 := NB385_391.out
          have hnb40 := NB391_386.out
          have hnc40 := NB386_391.out
          have hcz41_0 : wr.cell? ⟨gb391, 0, none⟩ = some (.int .u8 t387) := (blk_cell BK391.out 0).trans rfl
          have hcz41_1 : wr.cell? ⟨gb391, 1, none⟩ = some (.int .i64 t388) := (blk_cell BK391.out 1).trans rfl
          have hcz41_2 : wr.cell? ⟨gb391, 2, none⟩ = some (.int .i64 t389) := (blk_cell BK391.out 2).trans rfl
          have hfz41_0 := blk_frozen BK391.out 0
          have hfz41_1 := blk_frozen BK391.out 1
          have hfz41_2 := blk_frozen BK391.out 2
          have hnb42 := NB386_385.out
          have hnc42 := NB385_386.out
          have hcz43_0 : wr.cell? ⟨gb386, 0, none⟩ = some (.int .u8 x387000_1) := (blk_cell BK386.out 0).trans rfl
          have hcz43_1 : wr.cell? ⟨gb386, 1, none⟩ = some (.int .i64 x387001_1) := (blk_cell BK386.out 1).trans rfl
          have hcz43_2 : wr.cell? ⟨gb386, 2, none⟩ = some (.int .i64 x387002_1) := (blk_cell BK386.out 2).trans rfl
          have hfz43_0 := blk_frozen BK386.out 0
          have hfz43_1 := blk_frozen BK386.out 1
          have hfz43_2 := blk_frozen BK386.out 2
          go_wp2
          refine bodyPost_ret (results_ct rfl _ _ gb386 134 #[.int .u8 t387, .int .i64 t388, .int .i64 t389] (0, 0) _ rfl (by (with_reducible repeat (first | refine blk_drewN ?_ _ | refine blk_drew ?_ | refine blk_alloc ?_ _)); refine blk_put (cs := #[.int .u8 t387, .int .i64 t388, .int .i64 x387002_1]) ?_ 2 _ rfl; (with_reducible repeat (first | refine blk_drewN ?_ _ | refine blk_drew ?_ | refine blk_alloc ?_ _)); refine blk_put (cs := #[.int .u8 t387, .int .i64 x387001_1, .int .i64 x387002_1]) ?_ 1 _ rfl; (with_reducible repeat (first | refine blk_drewN ?_ _ | refine blk_drew ?_ | refine blk_alloc ?_ _)); refine blk_put (cs := #[.int .u8 x387000_1, .int .i64 x387001_1, .int .i64 x387002_1]) ?_ 0 _ rfl; (with_reducible repeat (first | refine blk_drewN ?_ _ | refine blk_drew ?_ | refine blk_alloc ?_ _)); exact BK386.out) Try.underlying134 rfl (by kernel_rfl)) rfl ?_
          exact ⟨by first | rfl | (simp [errW_none, errW_some] <;> rfl) | (simp [*, errW_none, errW_some] <;> rfl), by repeat (first | (with_reducible first | exact HB.out | apply below_alloc | apply pw_below_drewN | apply below_drew1 | refine below_set ?_ GE385.out | refine below_set ?_ GE386.out | refine below_set ?_ GE391.out) | exact HB.out)⟩
  · replace c4 := Bool.eq_false_iff.mpr c4
    subst c4
    have H1 : (some (0, 0, 0, 30)) = some (r1, r2, r3, r4) := by rw [if_neg (show ¬ (false = true) by decide)] at H; exact H
    clear H
    have H := H1
    clear H1
    simp only [Option.some.injEq, Prod.mk.injEq] at H
    obtain ⟨rfl, rfl, rfl, rfl⟩ := H
    go_enter Try.func74, Try.ntmps74
    go_wp2_with (first | ((with_reducible refine gate_dst (N := 2) rfl ?_); refine box_event ?hg (N := 2) ?hd (cs := #[.int .u8 a0_0, .int .i64 a0_1, .int .i64 a0_2, .int .u64 a0_3, .int .u64 a0_4, .int .u64 a0_5]) (t := 45) ?hr ?_; (case hd => rfl); (case hg => rfl); (case hr => first | (go_simp; done) | (go_simp; rfl)); intro gb385 hg w44 hbox hb; have n0_ := Aside0.mk (below_step (by repeat (first | (with_reducible first | exact HB.out | apply below_alloc | apply pw_below_drewN | apply below_drew1) | exact HB.out)) hb); have n1_ := Aside0.mk (hbox); have n2_ := Aside0.mk ((by rw [hg]; exact (below_size (by repeat (first | (with_reducible first | exact HB.out | apply below_alloc | apply pw_below_drewN | apply below_drew1) | exact HB.out))) : w.heap.size ≤ gb385)); have n3_ := Aside0.mk ((by rw [hg]; exact (below_size (by repeat (first | (with_reducible first | exact HB.out | apply below_alloc | apply pw_below_drewN | apply below_drew1) | exact HB.out))) : w.heap.size ≤ gb385)); clear HB; have HB := n0_; have BK385 := n1_; have GW385 := n2_; have GE385 := n3_; clear n0_ n1_ n2_ n3_; clear hb hbox hg) | ((with_reducible refine gate_dst (N := 4) rfl ?_); refine box_event ?hg (N := 4) ?hd (cs := #[.int .u8 0, .int .i64 0, .int .i64 0]) (t := 134) ?hr ?_; (case hd => rfl); (case hg => rfl); (case hr => first | (go_simp; done) | (go_simp; rfl)); intro gb386 hg w45 hbox hb; have n0_ := Aside0.mk (blk_below (g := gb385) (o := .cells #[.int .u8 a0_0, .int .i64 a0_1, .int .i64 a0_2, .int .u64 a0_3, .int .u64 a0_4, .int .u64 a0_5] 45 (0, 0)) (by (with_reducible repeat (first | refine blk_drewN ?_ _ | refine blk_drew ?_ | refine blk_alloc ?_ _)); exact BK385.out) hb); have n1_ := Aside0.mk (below_step (by repeat (first | (with_reducible first | exact HB.out | apply below_alloc | apply pw_below_drewN | apply below_drew1 | refine below_set ?_ GE385.out) | exact HB.out)) hb); have n2_ := Aside0.mk (hbox); have n3_ := Aside0.mk ((by rw [hg]; exact (below_size (by repeat (first | (with_reducible first | exact HB.out | apply below_alloc | apply pw_below_drewN | apply below_drew1 | refine below_set ?_ GE385.out) | exact HB.out))) : w.heap.size ≤ gb386)); have n4_ := Aside0.mk ((by rw [hg]; exact (below_size (by repeat (first | (with_reducible first | exact HB.out | apply below_alloc | apply pw_below_drewN | apply below_drew1 | refine below_set ?_ GE385.out) | exact HB.out))) : w.heap.size ≤ gb386)); have n5_ := Aside0.mk ((by rw [hg]; exact Nat.ne_of_lt (blk_lt (g := gb385) (o := .cells #[.int .u8 a0_0, .int .i64 a0_1, .int .i64 a0_2, .int .u64 a0_3, .int .u64 a0_4, .int .u64 a0_5] 45 (0, 0)) (by (with_reducible repeat (first | refine blk_drewN ?_ _ | refine blk_drew ?_ | refine blk_alloc ?_ _)); exact BK385.out)) : gb385 ≠ gb386)); have n6_ := Aside0.mk ((by rw [hg]; exact Nat.ne_of_gt (blk_lt (g := gb385) (o := .cells #[.int .u8 a0_0, .int .i64 a0_1, .int .i64 a0_2, .int .u64 a0_3, .int .u64 a0_4, .int .u64 a0_5] 45 (0, 0)) (by (with_reducible repeat (first | refine blk_drewN ?_ _ | refine blk_drew ?_ | refine blk_alloc ?_ _)); exact BK385.out)) : gb386 ≠ gb385)); clear BK385; clear HB; have BK385 := n0_; have HB := n1_; have BK386 := n2_; have GW386 := n3_; have GE386 := n4_; have NB385_386 := n5_; have NB386_385 := n6_; clear n0_ n1_ n2_ n3_ n4_ n5_ n6_; clear hb hbox hg; have hnb46 := NB385_386.out; have hnc46 := NB386_385.out; have hcz47_0 : w45.cell? ⟨gb385, 0, none⟩ = some (.int .u8 a0_0) := (blk_cell BK385.out 0).trans rfl; have hcz47_1 : w45.cell? ⟨gb385, 1, none⟩ = some (.int .i64 a0_1) := (blk_cell BK385.out 1).trans rfl; have hcz47_2 : w45.cell? ⟨gb385, 2, none⟩ = some (.int .i64 a0_2) := (blk_cell BK385.out 2).trans rfl; have hcz47_3 : w45.cell? ⟨gb385, 3, none⟩ = some (.int .u64 a0_3) := (blk_cell BK385.out 3).trans rfl; have hcz47_4 : w45.cell? ⟨gb385, 4, none⟩ = some (.int .u64 a0_4) := (blk_cell BK385.out 4).trans rfl; have hcz47_5 : w45.cell? ⟨gb385, 5, none⟩ = some (.int .u64 a0_5) := (blk_cell BK385.out 5).trans rfl; have hfz47_0 := blk_frozen BK385.out 0; have hfz47_1 := blk_frozen BK385.out 1; have hfz47_2 := blk_frozen BK385.out 2; have hfz47_3 := blk_frozen BK385.out 3; have hfz47_4 := blk_frozen BK385.out 4; have hfz47_5 := blk_frozen BK385.out 5) | ((with_reducible refine gate_callee (f := 84) rfl ?_); refine goesL_ (some 12) rfl rfl Try.func84 (by kernel_rfl) rfl #[.agg #[.int .u8 a0_0, .int .i64 a0_1, .int .i64 a0_2, .int .u64 a0_3, .int .u64 a0_4, .int .u64 a0_5]] rfl (by (try simp only [List.map_toArray, List.map_cons, List.map_nil]); first | done | rfl | (simp only [List.length_drop, List.length_take]; rfl)) ?_; (with_reducible refine (cover_treeOf.calls k a0_0 a0_1 a0_2 a0_3 a0_4 a0_5 t387 t388 t389 false _ A3.out).mono ?_); rintro e w48 ⟨rfl, hb⟩; refine ⟨_, rfl, ?_⟩; have n0_ := Aside0.mk (blk_below (g := gb385) (o := .cells #[.int .u8 a0_0, .int .i64 a0_1, .int .i64 a0_2, .int .u64 a0_3, .int .u64 a0_4, .int .u64 a0_5] 45 (0, 0)) (by (with_reducible repeat (first | refine blk_drewN ?_ _ | refine blk_drew ?_ | refine blk_alloc ?_ _)); exact BK385.out) hb); have n1_ := Aside0.mk (blk_below (g := gb386) (o := .cells #[.int .u8 0, .int .i64 0, .int .i64 0] 134 (0, 0)) (by (with_reducible repeat (first | refine blk_drewN ?_ _ | refine blk_drew ?_ | refine blk_alloc ?_ _)); exact BK386.out) hb); have n2_ := Aside0.mk (below_step (by repeat (first | (with_reducible first | exact HB.out | apply below_alloc | apply pw_below_drewN | apply below_drew1 | refine below_set ?_ GE385.out | refine below_set ?_ GE386.out) | exact HB.out)) hb); clear BK385; clear BK386; clear HB; have BK385 := n0_; have BK386 := n1_; have HB := n2_; clear n0_ n1_ n2_; (try clear hb); (try clear hb2); (try clear hk); (try clear hi)) | ((with_reducible refine gate_dst (N := 6) rfl ?_); refine box_event ?hg (N := 6) ?hd (cs := #[.int .u8 0, .int .i64 0, .int .i64 0]) (t := 134) ?hr ?_; (case hd => rfl); (case hg => rfl); (case hr => first | (go_simp; done) | (go_simp; rfl)); intro gb391 hg w49 hbox hb; have n0_ := Aside0.mk (blk_below (g := gb385) (o := .cells #[.int .u8 a0_0, .int .i64 a0_1, .int .i64 a0_2, .int .u64 a0_3, .int .u64 a0_4, .int .u64 a0_5] 45 (0, 0)) (by (with_reducible repeat (first | refine blk_drewN ?_ _ | refine blk_drew ?_ | refine blk_alloc ?_ _)); exact BK385.out) hb); have n1_ := Aside0.mk (blk_below (g := gb386) (o := .cells #[.int .u8 0, .int .i64 0, .int .i64 0] 134 (0, 0)) (by (with_reducible repeat (first | refine blk_drewN ?_ _ | refine blk_drew ?_ | refine blk_alloc ?_ _)); exact BK386.out) hb); have n2_ := Aside0.mk (below_step (by repeat (first | (with_reducible first | exact HB.out | apply below_alloc | apply pw_below_drewN | apply below_drew1 | refine below_set ?_ GE385.out | refine below_set ?_ GE386.out) | exact HB.out)) hb); have n3_ := Aside0.mk (hbox); have n4_ := Aside0.mk ((by rw [hg]; exact (below_size (by repeat (first | (with_reducible first | exact HB.out | apply below_alloc | apply pw_below_drewN | apply below_drew1 | refine below_set ?_ GE385.out | refine below_set ?_ GE386.out) | exact HB.out))) : w.heap.size ≤ gb391)); have n5_ := Aside0.mk ((by rw [hg]; exact (below_size (by repeat (first | (with_reducible first | exact HB.out | apply below_alloc | apply pw_below_drewN | apply below_drew1 | refine below_set ?_ GE385.out | refine below_set ?_ GE386.out) | exact HB.out))) : w.heap.size ≤ gb391)); have n6_ := Aside0.mk ((by rw [hg]; exact Nat.ne_of_lt (blk_lt (g := gb385) (o := .cells #[.int .u8 a0_0, .int .i64 a0_1, .int .i64 a0_2, .int .u64 a0_3, .int .u64 a0_4, .int .u64 a0_5] 45 (0, 0)) (by (with_reducible repeat (first | refine blk_drewN ?_ _ | refine blk_drew ?_ | refine blk_alloc ?_ _)); exact BK385.out)) : gb385 ≠ gb391)); have n7_ := Aside0.mk ((by rw [hg]; exact Nat.ne_of_gt (blk_lt (g := gb385) (o := .cells #[.int .u8 a0_0, .int .i64 a0_1, .int .i64 a0_2, .int .u64 a0_3, .int .u64 a0_4, .int .u64 a0_5] 45 (0, 0)) (by (with_reducible repeat (first | refine blk_drewN ?_ _ | refine blk_drew ?_ | refine blk_alloc ?_ _)); exact BK385.out)) : gb391 ≠ gb385)); have n8_ := Aside0.mk ((by rw [hg]; exact Nat.ne_of_lt (blk_lt (g := gb386) (o := .cells #[.int .u8 0, .int .i64 0, .int .i64 0] 134 (0, 0)) (by (with_reducible repeat (first | refine blk_drewN ?_ _ | refine blk_drew ?_ | refine blk_alloc ?_ _)); exact BK386.out)) : gb386 ≠ gb391)); have n9_ := Aside0.mk ((by rw [hg]; exact Nat.ne_of_gt (blk_lt (g := gb386) (o := .cells #[.int .u8 0, .int .i64 0, .int .i64 0] 134 (0, 0)) (by (with_reducible repeat (first | refine blk_drewN ?_ _ | refine blk_drew ?_ | refine blk_alloc ?_ _)); exact BK386.out)) : gb391 ≠ gb386)); clear BK385; clear BK386; clear HB; have BK385 := n0_; have BK386 := n1_; have HB := n2_; have BK391 := n3_; have GW391 := n4_; have GE391 := n5_; have NB385_391 := n6_; have NB391_385 := n7_; have NB386_391 := n8_; have NB391_386 := n9_; clear n0_ n1_ n2_ n3_ n4_ n5_ n6_ n7_ n8_ n9_; clear hb hbox hg; have hnb50 := NB391_385.out; have hnc50 := NB385_391.out; have hnb51 := NB391_386.out; have hnc51 := NB386_391.out; have hcz52_0 : w49.cell? ⟨gb391, 0, none⟩ = some (.int .u8 0) := (blk_cell BK391.out 0).trans rfl; have hcz52_1 : w49.cell? ⟨gb391, 1, none⟩ = some (.int .i64 0) := (blk_cell BK391.out 1).trans rfl; have hcz52_2 : w49.cell? ⟨gb391, 2, none⟩ = some (.int .i64 0) := (blk_cell BK391.out 2).trans rfl; have hfz52_0 := blk_frozen BK391.out 0; have hfz52_1 := blk_frozen BK391.out 1; have hfz52_2 := blk_frozen BK391.out 2; have hcz53_0 : w49.cell? ⟨gb386, 0, none⟩ = some (.int .u8 0) := (blk_cell BK386.out 0).trans rfl; have hcz53_1 : w49.cell? ⟨gb386, 1, none⟩ = some (.int .i64 0) := (blk_cell BK386.out 1).trans rfl; have hcz53_2 : w49.cell? ⟨gb386, 2, none⟩ = some (.int .i64 0) := (blk_cell BK386.out 2).trans rfl; have hfz53_0 := blk_frozen BK386.out 0; have hfz53_1 := blk_frozen BK386.out 1; have hfz53_2 := blk_frozen BK386.out 2))
    refine bodyPost_ret (results_ct rfl _ _ gb386 134 #[.int .u8 0, .int .i64 0, .int .i64 0] (0, 0) _ rfl (by (with_reducible repeat (first | refine blk_drewN ?_ _ | refine blk_drew ?_ | refine blk_alloc ?_ _)); refine blk_put (cs := #[.int .u8 0, .int .i64 0, .int .i64 0]) ?_ 2 _ rfl; (with_reducible repeat (first | refine blk_drewN ?_ _ | refine blk_drew ?_ | refine blk_alloc ?_ _)); refine blk_put (cs := #[.int .u8 0, .int .i64 0, .int .i64 0]) ?_ 1 _ rfl; (with_reducible repeat (first | refine blk_drewN ?_ _ | refine blk_drew ?_ | refine blk_alloc ?_ _)); refine blk_put (cs := #[.int .u8 0, .int .i64 0, .int .i64 0]) ?_ 0 _ rfl; (with_reducible repeat (first | refine blk_drewN ?_ _ | refine blk_drew ?_ | refine blk_alloc ?_ _)); refine blk_far ?_ NB386_391.out _; (with_reducible repeat (first | refine blk_drewN ?_ _ | refine blk_drew ?_ | refine blk_alloc ?_ _)); refine blk_far ?_ NB386_391.out _; (with_reducible repeat (first | refine blk_drewN ?_ _ | refine blk_drew ?_ | refine blk_alloc ?_ _)); refine blk_far ?_ NB386_391.out _; (with_reducible repeat (first | refine blk_drewN ?_ _ | refine blk_drew ?_ | refine blk_alloc ?_ _)); exact BK386.out) Try.underlying134 rfl (by kernel_rfl)) rfl ?_
    exact ⟨by first | rfl | (simp [errW_none, errW_some] <;> rfl) | (simp [*, errW_none, errW_some] <;> rfl), by repeat (first | (with_reducible first | exact HB.out | apply below_alloc | apply pw_below_drewN | apply below_drew1 | refine below_set ?_ GE385.out | refine below_set ?_ GE386.out | refine below_set ?_ GE391.out) | exact HB.out)⟩
end Go.Proofs.Ytafhimeoijmolaa.G
namespace Go.Proofs.Ytafhimeoijmolaa.G
open Go.RowKit Go.Proofs.YtafhimeoijmolaaW.PrintWords Go.Proofs.YtafhimeoijmolaaW.PrintLast Go.Proofs.YtafhimeoijmolaaW.PrintMore
set_option linter.unusedVariables false
set_option linter.unusedSimpArgs false
theorem blk_new (w : World) (o : Obj) : (w.alloc o).heap[w.heap.size]? = some o := World.alloc_heap_new w o
theorem blk_to {w w' : World} {g : Nat} {o : Obj} (h : w.heap[g]? = some o) (hb : Below w.heap.size w w') : w'.heap[g]? = some o := (hb.block g (Array.getElem?_eq_some_iff.1 h).1).trans h
end Go.Proofs.Ytafhimeoijmolaa.G
namespace Go.Proofs.Ytafhimeoijmolaa.K
open Go.RowKit  Go.Proofs.YtafhimeoijmolaaW.PrintWords Go.Proofs.YtafhimeoijmolaaW.PrintLast Go.Proofs.YtafhimeoijmolaaW.PrintMore Go.Proofs.Ytafhimeoijmolaa.G
set_option linter.unusedVariables false
set_option linter.unusedSimpArgs false
end Go.Proofs.Ytafhimeoijmolaa.K
namespace Go.Proofs.Ytafhimeoijmolaa.K
open Go.RowKit  Go.Proofs.YtafhimeoijmolaaW.PrintWords Go.Proofs.YtafhimeoijmolaaW.PrintLast Go.Proofs.YtafhimeoijmolaaW.PrintMore Go.Proofs.Ytafhimeoijmolaa.G
set_option linter.unusedVariables false
set_option linter.unusedSimpArgs false
def keyP (k : Int) (x : S47) (root : S26) : S26 := keyI k x.f0 x.f1 ((pathF 9 x.f0 x.f1).getD []) root
def itemK (k : Int) (root session : S26) (x : S47) : S111 := ⟨x, encK (keyP k x root) session⟩
theorem k47_cs {w : World} {l : S47} (c : List Value) (h : k47.K w l c) : c = [.int .i64 l.f0, .int .i64 l.f1] := k47_open h
theorem drop_cons' {α : Type} (l : List α) (i : Nat) (h : i < l.length) (z : α) : l.take (i + 1) = l.take i ++ [l.getD i z] := by
  rw [List.take_succ_eq_append_getElem h]; simp [h]
set_option maxHeartbeats 4000000 in
set_option maxRecDepth 100000 in
theorem Seal_c (root session : S26) (a0 a1 a2 a3 a4 a5 : Int) (A : Option Addr) (cap : Nat) (l : List S47) (c : Int) (w : World) (hC : Kd.C k47 w A l.length l) (h1 : cover_Check.f 70 a0 a1 a2 a3 a4 a5 = some c) (h0 : c ≠ 0) :
    Calls Try.prog 38 #[kv root, .agg #[.int .u8 a0, .int .i64 a1, .int .i64 a2, .int .u64 a3, .int .u64 a4, .int .u64 a5], .slice A l.length cap, kv session] w fun e' w' => e' = .returned (.tuple #[hv (.slice none 0 0) 0 (.slice none 0 0) z26 z26, .int .i64 c]) ∧ Below w.heap.size w w' := by
  obtain ⟨W0, hW0⟩ : ∃ W0, ((((w.alloc (.cells (kc root) 26)).alloc (.cells #[.int .u8 a0, .int .i64 a1, .int .i64 a2, .int .u64 a3, .int .u64 a4, .int .u64 a5] 45)).alloc (.cells (kc session) 26)).alloc (.cells (hc (.slice none 0 0) 0 (.slice none 0 0) z26 z26) 28)) = W0 := ⟨_, rfl⟩
  have B0 := Aside0.mk (show W0.heap[w.heap.size]? = some (.cells (kc root) 26 (0, 0)) by rw [← hW0]; exact (blk_alloc (blk_alloc (blk_alloc (newAt rfl) _) _) _))
  have B1 := Aside0.mk (show W0.heap[w.heap.size + 1]? = some (.cells #[.int .u8 a0, .int .i64 a1, .int .i64 a2, .int .u64 a3, .int .u64 a4, .int .u64 a5] 45 (0, 0)) by rw [← hW0]; exact (blk_alloc (blk_alloc (newAt (by simp)) _) _))
  have B2 := Aside0.mk (show W0.heap[w.heap.size + 1 + 1]? = some (.cells (kc session) 26 (0, 0)) by rw [← hW0]; exact (blk_alloc (newAt (by simp)) _))
  have B3 := Aside0.mk (show W0.heap[w.heap.size + 1 + 1 + 1]? = some (.cells (hc (.slice none 0 0) 0 (.slice none 0 0) z26 z26) 28 (0, 0)) by rw [← hW0]; exact (newAt (by simp)))
  have BB := Aside0.mk (show Below w.heap.size w W0 by rw [← hW0]; exact (((((Below.refl _ w).alloc (Nat.le_refl _) _).alloc (by simp) _).alloc (by simp; omega) _).alloc (by simp; omega) _))
  have BBs := Aside0.mk (show w.heap.size + 4 = W0.heap.size by rw [← hW0]; simp)
  have HW := Aside0.mk hW0
  clear hW0
  have H1 := Aside0.mk h1
  have hlen : l.length ≤ 9223372036854775807 := hC.2.1
  have HC := Aside0.mk hC
  clear h1 hC
  have b0 : (c != 0) = true := by simp [h0]
  clear h0
  go_enter Try.func38, Try.ntmps38
  go_wp2_with fail
  go_at_call 33
  refine (cover_Check.calls 70 a0 a1 a2 a3 a4 a5 c _ H1.out).mono ?_
  have e0 := HW.out
  rintro e1 w1 ⟨rfl, hb1⟩
  have hb1' : Below W0.heap.size W0 w1 := by rw [← e0]; exact hb1
  have C0 := Aside0.mk (blk_to B0.out hb1'); have C1 := Aside0.mk (blk_to B1.out hb1'); have C2 := Aside0.mk (blk_to B2.out hb1'); have C3 := Aside0.mk (blk_to B3.out hb1')
  have CB := Aside0.mk (BB.out.trans (hb1'.mono BB.out.size))
  have hcs : w.heap.size + 4 ≤ w1.heap.size := by have := hb1'.size; have := BBs.out; omega
  clear hb1 hb1' e0 B0 B1 B2 B3 BB BBs HW H1
  go_wp2_with (first | ((with_reducible refine stR rfl rfl C3.out (hc (.slice none 0 0) 0 (.slice none 0 0) z26 z26) ?_ ?_ ?_ ?_ ?_ ?_); rfl; rfl; exact row28; rfl; rfl; intro W2 P1))
  refine bodyPost_ret (ret_head rfl rfl rfl P1.at_) rfl ?_
  exact ⟨rfl, P1.below CB.out (by omega)⟩
set_option maxHeartbeats 4000000 in
set_option maxRecDepth 100000 in
theorem Seal_many (root session : S26) (a0 a1 a2 a3 a4 a5 : Int) (A : Option Addr) (cap : Nat) (l : List S47) (c : Int) (w : World) (hC : Kd.C k47 w A l.length l) (h1 : cover_Check.f 70 a0 a1 a2 a3 a4 a5 = some c) (h0 : c = 0) (h64 : 64 < l.length) :
    Calls Try.prog 38 #[kv root, .agg #[.int .u8 a0, .int .i64 a1, .int .i64 a2, .int .u64 a3, .int .u64 a4, .int .u64 a5], .slice A l.length cap, kv session] w fun e' w' => e' = .returned (.tuple #[hv (.slice none 0 0) 0 (.slice none 0 0) z26 z26, .int .i64 4]) ∧ Below w.heap.size w w' := by
  obtain ⟨W0, hW0⟩ : ∃ W0, ((((w.alloc (.cells (kc root) 26)).alloc (.cells #[.int .u8 a0, .int .i64 a1, .int .i64 a2, .int .u64 a3, .int .u64 a4, .int .u64 a5] 45)).alloc (.cells (kc session) 26)).alloc (.cells (hc (.slice none 0 0) 0 (.slice none 0 0) z26 z26) 28)) = W0 := ⟨_, rfl⟩
  have B0 := Aside0.mk (show W0.heap[w.heap.size]? = some (.cells (kc root) 26 (0, 0)) by rw [← hW0]; exact (blk_alloc (blk_alloc (blk_alloc (newAt rfl) _) _) _))
  have B1 := Aside0.mk (show W0.heap[w.heap.size + 1]? = some (.cells #[.int .u8 a0, .int .i64 a1, .int .i64 a2, .int .u64 a3, .int .u64 a4, .int .u64 a5] 45 (0, 0)) by rw [← hW0]; exact (blk_alloc (blk_alloc (newAt (by simp)) _) _))
  have B2 := Aside0.mk (show W0.heap[w.heap.size + 1 + 1]? = some (.cells (kc session) 26 (0, 0)) by rw [← hW0]; exact (blk_alloc (newAt (by simp)) _))
  have B3 := Aside0.mk (show W0.heap[w.heap.size + 1 + 1 + 1]? = some (.cells (hc (.slice none 0 0) 0 (.slice none 0 0) z26 z26) 28 (0, 0)) by rw [← hW0]; exact (newAt (by simp)))
  have BB := Aside0.mk (show Below w.heap.size w W0 by rw [← hW0]; exact (((((Below.refl _ w).alloc (Nat.le_refl _) _).alloc (by simp) _).alloc (by simp; omega) _).alloc (by simp; omega) _))
  have BBs := Aside0.mk (show w.heap.size + 4 = W0.heap.size by rw [← hW0]; simp)
  have HW := Aside0.mk hW0
  clear hW0
  have H1 := Aside0.mk h1
  have hlen : l.length ≤ 9223372036854775807 := hC.2.1
  have HC := Aside0.mk hC
  clear h1 hC
  have b0 : (c != 0) = false := by simp [h0]
  have b1 : (64 : Int) < (l.length : Int) := by omega
  clear h0 h64
  go_enter Try.func38, Try.ntmps38
  go_wp2_with fail
  go_at_call 33
  refine (cover_Check.calls 70 a0 a1 a2 a3 a4 a5 c _ H1.out).mono ?_
  have e0 := HW.out
  rintro e1 w1 ⟨rfl, hb1⟩
  have hb1' : Below W0.heap.size W0 w1 := by rw [← e0]; exact hb1
  have C0 := Aside0.mk (blk_to B0.out hb1'); have C1 := Aside0.mk (blk_to B1.out hb1'); have C2 := Aside0.mk (blk_to B2.out hb1'); have C3 := Aside0.mk (blk_to B3.out hb1')
  have CB := Aside0.mk (BB.out.trans (hb1'.mono BB.out.size))
  have hcs : w.heap.size + 4 ≤ w1.heap.size := by have := hb1'.size; have := BBs.out; omega
  clear hb1 hb1' e0 B0 B1 B2 B3 BB BBs HW H1
  go_wp2_with (first | ((with_reducible refine stR rfl rfl C3.out (hc (.slice none 0 0) 0 (.slice none 0 0) z26 z26) ?_ ?_ ?_ ?_ ?_ ?_); rfl; rfl; exact row28; rfl; rfl; intro W2 P1))
  refine bodyPost_ret (ret_head rfl rfl rfl P1.at_) rfl ?_
  exact ⟨rfl, P1.below CB.out (by omega)⟩
set_option maxHeartbeats 4000000 in
set_option maxRecDepth 100000 in
theorem Seal_e (root session : S26) (a0 a1 a2 a3 a4 a5 : Int) (A : Option Addr) (cap : Nat) (l : List S47) (c k d s e : Int) (w : World) (hC : Kd.C k47 w A l.length l) (h1 : cover_Check.f 70 a0 a1 a2 a3 a4 a5 = some c) (hlc : l.length ≤ cap) (h3 : cover_enter.f 70 a0 a1 a2 a3 a4 a5 l = some (k, d, s, e)) (h0 : c = 0) (h64 : l.length ≤ 64) (he : e ≠ 0) :
    Calls Try.prog 38 #[kv root, .agg #[.int .u8 a0, .int .i64 a1, .int .i64 a2, .int .u64 a3, .int .u64 a4, .int .u64 a5], .slice A l.length cap, kv session] w fun e' w' => e' = .returned (.tuple #[hv (.slice none 0 0) 0 (.slice none 0 0) z26 z26, .int .i64 e]) ∧ Below w.heap.size w w' := by
  obtain ⟨W0, hW0⟩ : ∃ W0, ((((w.alloc (.cells (kc root) 26)).alloc (.cells #[.int .u8 a0, .int .i64 a1, .int .i64 a2, .int .u64 a3, .int .u64 a4, .int .u64 a5] 45)).alloc (.cells (kc session) 26)).alloc (.cells (hc (.slice none 0 0) 0 (.slice none 0 0) z26 z26) 28)) = W0 := ⟨_, rfl⟩
  have B0 := Aside0.mk (show W0.heap[w.heap.size]? = some (.cells (kc root) 26 (0, 0)) by rw [← hW0]; exact (blk_alloc (blk_alloc (blk_alloc (newAt rfl) _) _) _))
  have B1 := Aside0.mk (show W0.heap[w.heap.size + 1]? = some (.cells #[.int .u8 a0, .int .i64 a1, .int .i64 a2, .int .u64 a3, .int .u64 a4, .int .u64 a5] 45 (0, 0)) by rw [← hW0]; exact (blk_alloc (blk_alloc (newAt (by simp)) _) _))
  have B2 := Aside0.mk (show W0.heap[w.heap.size + 1 + 1]? = some (.cells (kc session) 26 (0, 0)) by rw [← hW0]; exact (blk_alloc (newAt (by simp)) _))
  have B3 := Aside0.mk (show W0.heap[w.heap.size + 1 + 1 + 1]? = some (.cells (hc (.slice none 0 0) 0 (.slice none 0 0) z26 z26) 28 (0, 0)) by rw [← hW0]; exact (newAt (by simp)))
  have BB := Aside0.mk (show Below w.heap.size w W0 by rw [← hW0]; exact (((((Below.refl _ w).alloc (Nat.le_refl _) _).alloc (by simp) _).alloc (by simp; omega) _).alloc (by simp; omega) _))
  have BBs := Aside0.mk (show w.heap.size + 4 = W0.heap.size by rw [← hW0]; simp)
  have HW := Aside0.mk hW0
  clear hW0
  have H1 := Aside0.mk h1
  have hlen : l.length ≤ 9223372036854775807 := hC.2.1
  have HC := Aside0.mk hC
  clear h1 hC
  have b0 : (c != 0) = false := by simp [h0]
  have b1 : (l.length : Int) ≤ 64 := by omega
  have b2 : (e != 0) = true := by simp [he]
  have H3 := Aside0.mk h3; have HLC := Aside0.mk hlc
  clear h0 h64 he h3 hlc
  go_enter Try.func38, Try.ntmps38
  go_wp2_with fail
  go_at_call 33
  refine (cover_Check.calls 70 a0 a1 a2 a3 a4 a5 c _ H1.out).mono ?_
  have e0 := HW.out
  rintro e1 w1 ⟨rfl, hb1⟩
  have hb1' : Below W0.heap.size W0 w1 := by rw [← e0]; exact hb1
  have C0 := Aside0.mk (blk_to B0.out hb1'); have C1 := Aside0.mk (blk_to B1.out hb1'); have C2 := Aside0.mk (blk_to B2.out hb1'); have C3 := Aside0.mk (blk_to B3.out hb1')
  have CB := Aside0.mk (BB.out.trans (hb1'.mono BB.out.size))
  have hcs : w.heap.size + 4 ≤ w1.heap.size := by have := hb1'.size; have := BBs.out; omega
  clear hb1 hb1' e0 B0 B1 B2 B3 BB BBs HW H1
  go_wp2_with (first | ((with_reducible refine ldR rfl rfl C1.out ?_ ?_ ?_); rfl; exact row45))
  go_at_call 74
  refine (cover_enter.calls 70 a0 a1 a2 a3 a4 a5 A cap l k d s e _ (Kd.C_below HC.out CB.out) HLC.out H3.out).mono ?_
  rintro e2 w2 ⟨rfl, hb2⟩
  have D0 := Aside0.mk (blk_to C0.out hb2); have D2 := Aside0.mk (blk_to C2.out hb2); have D3 := Aside0.mk (blk_to C3.out hb2)
  have DB := Aside0.mk (CB.out.trans (hb2.mono CB.out.size))
  have hds : w.heap.size + 4 ≤ w2.heap.size := by have := hb2.size; omega
  clear hb2 hcs C0 C1 C2 C3 CB
  go_wp2_with (first | ((with_reducible refine stR rfl rfl (blk_alloc D3.out _) (hc (.slice none 0 0) 0 (.slice none 0 0) z26 z26) ?_ ?_ ?_ ?_ ?_ ?_); rfl; rfl; exact row28; rfl; rfl; intro W2 P1))
  refine bodyPost_ret (ret_head rfl rfl rfl P1.at_) rfl ?_
  exact ⟨rfl, P1.below (DB.out.alloc DB.out.size _) (by omega)⟩
end Go.Proofs.Ytafhimeoijmolaa.K
namespace Go.Proofs.Ytafhimeoijmolaa.K
open Go.RowKit  Go.Proofs.YtafhimeoijmolaaW.PrintWords Go.Proofs.YtafhimeoijmolaaW.PrintLast Go.Proofs.YtafhimeoijmolaaW.PrintMore Go.Proofs.Ytafhimeoijmolaa.G
set_option linter.unusedVariables false
set_option linter.unusedSimpArgs false
set_option maxHeartbeats 4000000 in
set_option maxRecDepth 100000 in
theorem Seal_ok (root session : S26) (a0 a1 a2 a3 a4 a5 : Int) (A : Option Addr) (cap : Nat) (l : List S47) (c k d s : Int) (w : World) (hC : Kd.C k47 w A l.length l) (h1 : cover_Check.f 70 a0 a1 a2 a3 a4 a5 = some c) (hlc : l.length ≤ cap) (h3 : cover_enter.f 70 a0 a1 a2 a3 a4 a5 l = some (k, d, s, 0)) (h0 : c = 0) (h64 : l.length ≤ 64)
    (hp : ∀ x ∈ l, k ≠ 1 → x.f1 ≠ 0 → ∃ xs, pathF 9 x.f0 x.f1 = some xs) :
    Calls Try.prog 38 #[kv root, .agg #[.int .u8 a0, .int .i64 a1, .int .i64 a2, .int .u64 a3, .int .u64 a4, .int .u64 a5], .slice A l.length cap, kv session] w fun e' w' => ∃ v, e' = .returned (.tuple #[hv v 0 (.slice none 0 0) z26 (derK session 53 0), .int .i64 0]) ∧ Kd.R k111 111 w' w.heap.size (fun _ => True) v (l.map (itemK k root session)) ∧ Below w.heap.size w w' := by
  obtain ⟨W0, hW0⟩ : ∃ W0, ((((w.alloc (.cells (kc root) 26)).alloc (.cells #[.int .u8 a0, .int .i64 a1, .int .i64 a2, .int .u64 a3, .int .u64 a4, .int .u64 a5] 45)).alloc (.cells (kc session) 26)).alloc (.cells (hc (.slice none 0 0) 0 (.slice none 0 0) z26 z26) 28)) = W0 := ⟨_, rfl⟩
  have B0 := Aside0.mk (show W0.heap[w.heap.size]? = some (.cells (kc root) 26 (0, 0)) by rw [← hW0]; exact (blk_alloc (blk_alloc (blk_alloc (newAt rfl) _) _) _))
  have B1 := Aside0.mk (show W0.heap[w.heap.size + 1]? = some (.cells #[.int .u8 a0, .int .i64 a1, .int .i64 a2, .int .u64 a3, .int .u64 a4, .int .u64 a5] 45 (0, 0)) by rw [← hW0]; exact (blk_alloc (blk_alloc (newAt (by simp)) _) _))
  have B2 := Aside0.mk (show W0.heap[w.heap.size + 1 + 1]? = some (.cells (kc session) 26 (0, 0)) by rw [← hW0]; exact (blk_alloc (newAt (by simp)) _))
  have B3 := Aside0.mk (show W0.heap[w.heap.size + 1 + 1 + 1]? = some (.cells (hc (.slice none 0 0) 0 (.slice none 0 0) z26 z26) 28 (0, 0)) by rw [← hW0]; exact (newAt (by simp)))
  have BB := Aside0.mk (show Below w.heap.size w W0 by rw [← hW0]; exact (((((Below.refl _ w).alloc (Nat.le_refl _) _).alloc (by simp) _).alloc (by simp; omega) _).alloc (by simp; omega) _))
  have BBs := Aside0.mk (show w.heap.size + 4 = W0.heap.size by rw [← hW0]; simp)
  have HW := Aside0.mk hW0
  clear hW0
  have H1 := Aside0.mk h1
  have hlen : l.length ≤ 9223372036854775807 := hC.2.1
  have HC := Aside0.mk hC
  clear h1 hC
  have b0 : (c != 0) = false := by simp [h0]
  have b1 : (l.length : Int) ≤ 64 := by omega
  have HP := Aside0.mk hp
  have H3 := Aside0.mk h3; have HLC := Aside0.mk hlc; have H64 := Aside0.mk h64
  clear h0 h64 h3 hlc hp
  go_enter Try.func38, Try.ntmps38
  go_wp2_with fail
  go_at_call 33
  refine (cover_Check.calls 70 a0 a1 a2 a3 a4 a5 c _ H1.out).mono ?_
  have e0 := HW.out
  rintro e1 w1 ⟨rfl, hb1⟩
  have hb1' : Below W0.heap.size W0 w1 := by rw [← e0]; exact hb1
  have C0 := Aside0.mk (blk_to B0.out hb1'); have C1 := Aside0.mk (blk_to B1.out hb1'); have C2 := Aside0.mk (blk_to B2.out hb1'); have C3 := Aside0.mk (blk_to B3.out hb1')
  have CB := Aside0.mk (BB.out.trans (hb1'.mono BB.out.size))
  have hcs : w.heap.size + 4 ≤ w1.heap.size := by have := hb1'.size; have := BBs.out; omega
  clear hb1 hb1' e0 B0 B1 B2 B3 BB BBs HW H1
  go_wp2_with (first | ((with_reducible refine ldR rfl rfl C1.out ?_ ?_ ?_); rfl; exact row45))
  go_at_call 74
  refine (cover_enter.calls 70 a0 a1 a2 a3 a4 a5 A cap l k d s 0 _ (Kd.C_below HC.out CB.out) HLC.out H3.out).mono ?_
  rintro e2 w2 ⟨rfl, hb2⟩
  have D0 := Aside0.mk (blk_to C0.out hb2); have D2 := Aside0.mk (blk_to C2.out hb2); have D3 := Aside0.mk (blk_to C3.out hb2)
  have DB := Aside0.mk (CB.out.trans (hb2.mono CB.out.size))
  have hds : w.heap.size + 4 ≤ w2.heap.size := by have := hb2.size; omega
  clear hb2 hcs C0 C1 C2 C3 CB
  go_wp2_with (first
    | ((with_reducible refine ldR rfl rfl (blk_alloc D2.out _) ?_ ?_ ?_); rfl; exact row26)
    | (go_at_call 86; refine (Derive_calls session 53 0 _).mono ?_; rintro e3 w3 ⟨rfl, hb3⟩; obtain ⟨K, hK⟩ : ∃ K, K = derK session 53 0 := ⟨_, rfl⟩; rw [← hK]; have HK := Aside0.mk hK; have HB3 := Aside0.mk hb3; clear hK hb3)
    | (((with_reducible refine stR rfl rfl (newAt rfl) (hc (.slice none 0 0) 0 (.slice none 0 0) z26 K) ?_ ?_ ?_ ?_ ?_ ?_); rfl; rfl; exact row28; rfl; rfl; intro W3 P1); have HP1 := Aside0.mk P1; clear P1))
  obtain ⟨g, hg⟩ : ∃ g, g = w3.heap.size := ⟨_, rfl⟩
  have hb3 : Below w.heap.size w w3 := (DB.out.alloc DB.out.size _).trans (HB3.out.mono (by have := DB.out.size; simp; omega))
  have hgs : w.heap.size + 4 < g := by rw [hg]; have := HB3.out.size; simp at this; omega
  have hW3 : W3.heap.size = g + 1 := by rw [hg]; have := HP1.out.size; simpa using this
  have old : ∀ j o, w3.heap[j]? = some o → W3.heap[j]? = some o := fun j o hj => HP1.out.blk (blk_alloc hj _) (by have := (Array.getElem?_eq_some_iff.1 hj).1; omega)
  have E0 := Aside0.mk (old _ _ (blk_to (blk_alloc D0.out _) HB3.out)); have E2 := Aside0.mk (old _ _ (blk_to (blk_alloc D2.out _) HB3.out)); have E3 := Aside0.mk (old _ _ (blk_to (blk_alloc D3.out _) HB3.out))
  have E4 := Aside0.mk (old _ _ (blk_to (newAt rfl) HB3.out))
  have EG := Aside0.mk HP1.out.at_
  have EB := Aside0.mk (show Below w.heap.size w W3 from HP1.out.below (hb3.alloc hb3.size _) (by omega))
  rw [← hg] at EG ⊢
  have EW := Aside0.mk hW3
  have hw2g : w2.heap.size < g := by rw [hg]; have := HB3.out.size; simp at this; omega
  clear hb3 old hW3 hg HP1 HB3 D0 D2 D3 DB hds
  go_loopg [41] l.length (fun kq v41 w' => ∃ (i : Nat) (v : Value), v41 = .int .i64 (i : Int) ∧ Aside0 (i + kq = l.length) ∧ Aside0 (w'.heap[g]? = some (.cells (hc v 0 (.slice none 0 0) z26 K) 28 (0, 0))) ∧ Aside0 (Kd.R k111 111 w' g (fun j => g < j) v ((l.take i).map (itemK k root session))) ∧ Aside0 (Below g W3 w'))
  case atStart => exact ⟨0, .slice none 0 0, rfl, ⟨by omega⟩, EG, ⟨Kd.R_nil _ _ _ _ _⟩, ⟨Below.refl _ _⟩⟩
  case round =>
    obtain ⟨i, v, rfl, HI, HG, HR, HB⟩ := hrel
    have stand : ∀ {j : Nat} {o : Obj}, W3.heap[j]? = some o → j < g → wr.heap[j]? = some o := fun hj hlt => (HB.out.block _ hlt).trans hj
    have F0 := Aside0.mk (stand E0.out (by omega)); have F2 := Aside0.mk (stand E2.out (by omega)); have F3 := Aside0.mk (stand E3.out (by omega)); have F4 := Aside0.mk (stand E4.out (by omega))
    have FB := Aside0.mk (EB.out.trans (HB.out.mono (by omega)))
    have hgw : g < wr.heap.size := (Array.getElem?_eq_some_iff.1 HG.out).1
    clear stand
    by_cases hi : i < l.length
    · have HI' := Aside0.mk hi
      obtain ⟨x, hx⟩ : ∃ x, x = l.getD i z47 := ⟨_, rfl⟩
      have HX := Aside0.mk hx
      have hC2 := Kd.C_below HC.out FB.out
      obtain ⟨ad, cc, rfl, -⟩ := Kd.C_get hC2 z47 (i : Int) (by omega) (by omega)
      have HC2 := Aside0.mk hC2
      have b2 : (i : Int) < (l.length : Int) := by omega
      clear hx hi hC2
      go_wp2_with (first
        | ((with_reducible refine ldC rfl rfl HC2.out i z47 [.int .i64 x.f0, .int .i64 x.f1] 2 ?_ ?_ ?_ ?_ ?_ ?_); rfl; exact HI'.out; (rw [← HX.out]; exact k47_cs); exact row47; rfl))
      obtain ⟨W, hW⟩ : ∃ W, W = wr.alloc (.cells #[.int .i64 x.f0, .int .i64 x.f1] 47) := ⟨_, rfl⟩
      rw [← hW]
      have G0 := Aside0.mk ((congrArg (fun X : World => X.heap[w.heap.size]?) hW).trans (blk_alloc F0.out _))
      have G2 := Aside0.mk ((congrArg (fun X : World => X.heap[w.heap.size + 1 + 1]?) hW).trans (blk_alloc F2.out _))
      have G4 := Aside0.mk ((congrArg (fun X : World => X.heap[w2.heap.size]?) hW).trans (blk_alloc F4.out _))
      have GG := Aside0.mk ((congrArg (fun X : World => X.heap[g]?) hW).trans (blk_alloc HG.out _))
      have GX := Aside0.mk (show W.heap[wr.heap.size]? = some (.cells #[.int .i64 x.f0, .int .i64 x.f1] 47 (0, 0)) by rw [hW]; exact newAt rfl)
      have GR := Aside0.mk (show Kd.R k111 111 W g (fun j => g < j) v ((l.take i).map (itemK k root session)) by rw [hW]; exact Kd.R_below HR.out ((Below.refl _ _).alloc (Nat.le_refl _) _))
      have GB := Aside0.mk (show Below g W3 W by rw [hW]; exact HB.out.alloc (by omega) _)
      have hgW : g < W.heap.size := by rw [hW]; simp; omega
      have NX0 := Aside0.mk (Kd.R_bound HR.out).1
      clear hW F0 F2 F4 HG HR HB
      obtain ⟨nb, hnb⟩ : ∃ nb, nb = v.ownBlock := ⟨_, rfl⟩
      have own : ∀ j, j ≤ g → some j ≠ nb := fun j hj e => by have := GR.out.1 j (hnb ▸ e.symm); omega
      have ownx : some wr.heap.size ≠ nb := fun e => by
        rw [hnb] at e
        have := (NX0.out _ e.symm).2.2.1
        omega
      have NB := Aside0.mk hnb
      clear hnb
      refine beginB nb 13 14 rfl (by repeat (first | exact nf_body | refine nf_then ?_ | refine nf_block ?_)) (fun NF S0 => ?_)
      refine takeY 0 45 (.pointer (some ⟨g, 0, none⟩)) rfl (by kernel_rfl) (by kernel_rfl) (by kernel_rfl) (by kernel_rfl) rfl rfl NF S0 (fun w' hw' => by go_simp) ?_; (try simp only [Act.put, List.setIfInBounds_toArray, List.set_cons_zero, List.set_cons_succ])
      refine takeY 1 46 v rfl (by kernel_rfl) (by kernel_rfl) (by kernel_rfl) (by kernel_rfl) rfl rfl NF S0 (fun w' hw' => by have c := cat (hw'.at_ GG.out (own _ (Nat.le_refl _))) 0 v rfl; go_simp) ?_; (try simp only [Act.put, List.setIfInBounds_toArray, List.set_cons_zero, List.set_cons_succ])
      refine takeR 2 47 rfl (by kernel_rfl) (by kernel_rfl) (by kernel_rfl) (by kernel_rfl) rfl rfl rfl GX.out ownx NF S0 rfl row47 ?_; (try simp only [Act.put, List.setIfInBounds_toArray, List.set_cons_zero, List.set_cons_succ])
      refine takeR 3 48 rfl (by kernel_rfl) (by kernel_rfl) (by kernel_rfl) (by kernel_rfl) rfl rfl rfl G4.out (own _ (by omega)) NF S0 rfl row134 ?_; (try simp only [Act.put, List.setIfInBounds_toArray, List.set_cons_zero, List.set_cons_succ])
      refine takeR 4 49 rfl (by kernel_rfl) (by kernel_rfl) (by kernel_rfl) (by kernel_rfl) rfl rfl rfl G0.out (own _ (by omega)) NF S0 rfl row26 ?_; (try simp only [Act.put, List.setIfInBounds_toArray, List.set_cons_zero, List.set_cons_succ])
      refine takeR 5 50 rfl (by kernel_rfl) (by kernel_rfl) (by kernel_rfl) (by kernel_rfl) rfl rfl rfl GX.out ownx NF S0 rfl row47 ?_; (try simp only [Act.put, List.setIfInBounds_toArray, List.set_cons_zero, List.set_cons_succ])
      refine takeR 7 52 rfl (by kernel_rfl) (by kernel_rfl) (by kernel_rfl) (by kernel_rfl) rfl rfl rfl G2.out (own _ (by omega)) NF S0 rfl row26 ?_; (try simp only [Act.put, List.setIfInBounds_toArray, List.set_cons_zero, List.set_cons_succ])
      refine nextM 6 (by kernel_rfl) rfl (fun K6 hK6 => ?_)
      go_simp
      go_at_call 88
      refine (ckey_calls k d s x.f0 x.f1 root ((pathF 9 x.f0 x.f1).getD []) 9 ?hpx _).mono ?_
      case hpx => exact fun h1 h2 => by obtain ⟨xs, hxs⟩ := HP.out x (by rw [HX.out]; simp [HI'.out]) h1 h2; rw [hxs]; rfl
      obtain ⟨K4, hK4⟩ : ∃ K4, K4 = keyI k x.f0 x.f1 ((pathF 9 x.f0 x.f1).getD []) root := ⟨_, rfl⟩
      rw [← hK4]
      have HK4 := Aside0.mk hK4
      clear hK4
      rintro e4 w4 ⟨rfl, hb4⟩
      have S4 := S0.below hb4
      have R4 := Aside0.mk (Kd.R_below (Kd.R_below GR.out (pw_below_drewN (Below.refl _ _) 1)) hb4)
      have B4 := Aside0.mk (show Below g W3 w4 from (pw_below_drewN GB.out 1).trans (hb4.mono (by show g ≤ W.heap.size; omega)))
      clear hb4
      refine hK6.out _ _ (fun _ => S4) ?_
      (try simp only [Act.put, List.setIfInBounds_toArray, List.set_cons_zero, List.set_cons_succ])
      refine nextM 8 (by kernel_rfl) rfl (fun K8 hK8 => ?_)
      go_simp
      go_at_call 87
      refine (Encrypt_calls K4 session _).mono ?_
      obtain ⟨K5, hK5⟩ : ∃ K5, K5 = encK K4 session := ⟨_, rfl⟩
      rw [← hK5]
      have HK5 := Aside0.mk hK5
      clear hK5
      rintro e5 w5 ⟨rfl, hb5⟩
      have S5 := S4.below hb5
      have R5 := Aside0.mk (Kd.R_below R4.out hb5)
      have B5 := Aside0.mk (B4.out.trans (hb5.mono (by have := S4.size; omega)))
      clear hb5
      refine hK8.out _ _ (fun _ => S5) ?_
      (try simp only [Act.put, List.setIfInBounds_toArray, List.set_cons_zero, List.set_cons_succ])
      refine takeY 9 54 (lv x.f0 x.f1 K5) rfl (by kernel_rfl) (by kernel_rfl) (by kernel_rfl) (by kernel_rfl) rfl rfl NF S5 (fun w' hw' => by go_simp) ?_; (try simp only [Act.put, List.setIfInBounds_toArray, List.set_cons_zero, List.set_cons_succ])
      refine nextM 10 (by kernel_rfl) rfl (fun K10 hK10 => ?_)
      go_simp
      refine hK10.out _ _ (fun _ => S5.below ((Below.refl _ _).alloc (Nat.le_refl _) _)) ?_
      (try simp only [Act.put, List.setIfInBounds_toArray, List.set_cons_zero, List.set_cons_succ])
      have hg5 : g ≤ w5.heap.size := by have := S5.size; omega
      have hl5 : ((List.take i l).map (itemK k root session)).length ≤ 64 := by rw [List.length_map, List.length_take]; have := H64.out; omega
      refine nextM 11 (by kernel_rfl) rfl (fun K11 hK11 => ?_)
      refine Kd.R_append_step k111 (w0 := W3) g (by rfl) _ _ 22 111 (.agg (lc 0 0 z26)) 32 rfl Try.underlying22 info111 rfl (by decide) (by decide) v ((l.take i).map (itemK k root session)) ⟨x, K5⟩ (lc x.f0 x.f1 K5).toList (fun j => g < j) (fun _ => False) rfl rfl (k111_mkM _ _ _ ⟨x, K5⟩) (fun _ h => h.elim) (fun j hj => by have := S5.size; omega) R5.out B5.out hg5 (by omega) ?_
      intro v1 w6 hR6 hB6 hg6 hat6
      obtain ⟨A6, n8, n6, rfl⟩ : ∃ A n m, v1 = .slice A n m := by obtain ⟨A, m, h⟩ := Kd.R_slice hR6; exact ⟨A, _, m, h⟩
      have S6 : SO W nb w6 := S5.grown (NB.out ▸ hg6)
      have R6 := Aside0.mk hR6; have B6 := Aside0.mk hB6
      have GG6 := Aside0.mk (S6.at_ GG.out (own _ (Nat.le_refl _)))
      clear hR6 hB6 hg6 hat6
      refine hK11.out _ _ (fun _ => S6) ?_
      (try simp only [Act.put, List.setIfInBounds_toArray, List.set_cons_zero, List.set_cons_succ])
      refine takeY 12 57 (.pointer (some ⟨g, 0, none⟩)) rfl (by kernel_rfl) (by kernel_rfl) (by kernel_rfl) (by kernel_rfl) rfl rfl NF S6 (fun w' hw' => by go_simp) ?_; (try simp only [Act.put, List.setIfInBounds_toArray, List.set_cons_zero, List.set_cons_succ])
      have c6 := cat GG6.out 0 v rfl
      have f6 := blk_frozen GG6.out 0
      refine nextM 13 (by kernel_rfl) rfl (fun K13 hK13 => ?_)
      go_simp
      refine hK13.out _ _ (fun h => Bool.noConfusion (h : false = true)) ?_
      refine doneM (by kernel_rfl) ?_ _
      have hS6 : W.heap.size ≤ w6.heap.size := S6.size
      clear S0 S4 S5 S6 own ownx NF
      go_wp2
      obtain ⟨gq, rfl⟩ : ∃ gq, gk = gq + 1 := ⟨gk - 1, by have := HI'.out; have := HI.out; omega⟩
      go_roundg gq
      case measure => omega
      case rel =>
        refine ⟨i + 1, _, by simp, ⟨by have := HI.out; omega⟩, ⟨blk_put GG6.out 0 _ rfl⟩, ⟨?_⟩, ⟨B6.out.setCell (p := ⟨g, 0, none⟩) (Nat.le_refl _) _⟩⟩
        have e : (l.take (i + 1)).map (itemK k root session) = (l.take i).map (itemK k root session) ++ [⟨x, K5⟩] := by
          rw [drop_cons' l i HI'.out z47, ← HX.out, List.map_append]
          have e2 : itemK k root session x = ⟨x, K5⟩ := by rw [HK5.out, HK4.out]; rfl
          simp [e2]
        rw [e]
        exact Kd.R_far R6.out (p := ⟨g, 0, none⟩) (fun j hj => by show j ≠ g; omega) _
    · have hi2 : i = l.length := by have := HI.out; omega
      subst hi2
      have b2 : ¬ ((l.length : Int) < (l.length : Int)) := by omega
      obtain ⟨A7, n8, n7, rfl⟩ : ∃ A n m, v = .slice A n m := by obtain ⟨A, m, h⟩ := Kd.R_slice HR.out; exact ⟨A, _, m, h⟩
      go_wp2_with (first
        | ((with_reducible refine ldR rfl rfl HG.out ?_ ?_ ?_); rfl; exact row28)
        | ((with_reducible refine stR rfl rfl F3.out (hc (.slice A7 n8 n7) 0 (.slice none 0 0) z26 K) ?_ ?_ ?_ ?_ ?_ ?_); rfl; rfl; exact row28; rfl; rfl; intro W4 P1))
      refine bodyPost_ret (ret_head rfl rfl rfl P1.at_) rfl ?_
      refine ⟨_, by rw [HK.out]; rfl, ?_, P1.below FB.out (by omega)⟩
      have h1 := Kd.R_step (w1 := W4) HR.out (fun j hj _ => P1.oth j (by omega))
      rw [List.take_length] at h1
      exact Kd.R_mono (Kd.R_lower h1 (by omega)) (fun _ _ => trivial)
end Go.Proofs.Ytafhimeoijmolaa.K
namespace Go.Proofs.Ytafhimeoijmolaa.G
open Go.RowKit Go.Proofs.YtafhimeoijmolaaW.PrintWords Go.Proofs.YtafhimeoijmolaaW.PrintLast Go.Proofs.YtafhimeoijmolaaW.PrintMore
set_option linter.unusedVariables false
set_option linter.unusedSimpArgs false
theorem up {α : Type} {g : Nat → Option α} (hm : ∀ k, LeO (g k) (g (k + 1))) {k0 k : Nat} {r : α} (h : g k0 = some r) (hk : k0 ≤ k) : g k = some r := by
  induction hk with
  | refl => exact h
  | step _ ih => exact hm _ _ ih
def opB (o : Option Bool) (b : Bool) : Bool := match o with | some x => x == b | none => false
theorem opB_eq {o : Option Bool} {b : Bool} (h : opB o b = true) : o = some b := by
  unfold opB at h
  split at h
  · rw [eq_of_beq h]
  · cases h
def opI (o : Option Int) (b : Nat) : Bool := match o with | some (.ofNat n) => Nat.beq n b | _ => false
theorem opI_eq {o : Option Int} {b : Nat} (h : opI o b = true) : o = some (b : Int) := by
  unfold opI at h
  split at h
  · rw [Nat.eq_of_beq_eq_true h]; rfl
  · cases h
def all1 (n : Nat) (p : Nat → Bool) : Bool := (List.range n).all p
theorem all1_at {n : Nat} {p : Nat → Bool} (h : all1 n p = true) {v : Nat} (hv : v < n) : p v = true := List.all_eq_true.1 h v (List.mem_range.2 hv)
def all2 (n m : Nat) (p : Nat → Nat → Bool) : Bool := (List.range n).all fun v => (List.range m).all fun w => p v w
theorem all2_at {n m : Nat} {p : Nat → Nat → Bool} (h : all2 n m p = true) {v w : Nat} (hv : v < n) (hw : w < m) : p v w = true := List.all_eq_true.1 (List.all_eq_true.1 h v (List.mem_range.2 hv)) w (List.mem_range.2 hw)
def blw (w v : Nat) : Bool := Nat.ble 1 v && (Nat.ble v w && Nat.beq (w >>> (Nat.log2 w - Nat.log2 v)) v)
def strd (d : Nat) : Nat := if Nat.ble d 1 then 1 else if Nat.ble d 4 then 2 else 3
def spc (s v : Nat) : Bool := Nat.beq (Nat.log2 v % s) 0
def nodesTo (v w : Nat) : List Nat := (List.range (Nat.log2 w - Nat.log2 v)).map fun i => w >>> (Nat.log2 w - Nat.log2 v - 1 - i)
def cutN (s v w : Nat) : Nat := ((nodesTo v (w >>> 1)).find? (spc s)).getD 0
def sub3 (kind s v w : Nat) : Bool := Nat.beq kind 2 || (spc s v || Nat.beq (cutN s v w) 0)
def subI (kind d : Nat) (v w : Int) : Bool :=
  decide (1 ≤ v) && (decide (v < 2 ^ (d + 1)) && (if kind = 1 then decide (w = 0) else if w = 0 then decide (v = 1) else
    decide (1 ≤ w) && (decide (w < 2 ^ (d + 1)) && (!decide (w = v) && (blw w.toNat v.toNat && sub3 kind (strd d) v.toNat w.toNat)))))
theorem below_fin : all2 128 128 (fun w v => opB (cover_node_below.f 2 (w : Int) (v : Int)) (blw w v)) = true := by kernel_rfl
theorem below_n {w v k : Nat} (hw : w < 128) (hv : v < 128) (hk : 2 ≤ k) : cover_node_below.f k (w : Int) (v : Int) = some (blw w v) :=
  up (fun k => cover_node_below.mono _ _ k) (opB_eq (all2_at below_fin hw hv)) hk
theorem strd_pos (d : Nat) : 1 ≤ strd d := by unfold strd; split; omega; split <;> omega
theorem strd_le (d : Nat) : strd d ≤ 3 := by unfold strd; split; omega; split <;> omega
theorem special_fin : all2 4 128 (fun s v => Nat.beq s 0 || (Nat.beq v 0 || opB (cover_tree_special.f 0 0 (s : Int) (v : Int)) (spc s v))) = true := by kernel_rfl
theorem special_n {s v : Nat} (a b : Int) (hs : 1 ≤ s) (hs3 : s ≤ 3) (h0 : 1 ≤ v) (h : v < 128) : cover_tree_special.f a b (s : Int) (v : Int) = some (spc s v) := by
  have e : cover_tree_special.f a b (s : Int) (v : Int) = cover_tree_special.f 0 0 (s : Int) (v : Int) := rfl
  have h1 := all2_at special_fin (show s < 4 by omega) h
  have h2 : Nat.beq s 0 = false := by cases s with | zero => omega | succ n => rfl
  have h3 : Nat.beq v 0 = false := by cases v with | zero => omega | succ n => rfl
  rw [h2, h3] at h1
  rw [e]
  exact opB_eq (by simpa using h1)
theorem cut_fin : all1 4 (fun s => all2 128 128 (fun v w => Nat.beq s 0 || (!(blw w v && !Nat.beq w v) || opI (cover_tree_cut.f 0 0 (s : Int) (v : Int) (w : Int)) (cutN s v w)))) = true := by kernel_rfl
theorem cut_n {s v w : Nat} (a b : Int) (hs : 1 ≤ s) (hs3 : s ≤ 3) (hv : v < 128) (hw : w < 128) (hb : blw w v = true) (hne : w ≠ v) : cover_tree_cut.f a b (s : Int) (v : Int) (w : Int) = some (cutN s v w : Int) := by
  have h1 := all2_at (all1_at cut_fin (show s < 4 by omega)) hv hw
  have h2 : Nat.beq s 0 = false := by cases s with | zero => omega | succ n => rfl
  have h3 : Nat.beq w v = false := by
    cases e : Nat.beq w v with
    | false => rfl
    | true => exact absurd (Nat.eq_of_beq_eq_true e) hne
  rw [h2, h3, hb] at h1
  have e : ∀ xs, firstF a b (s : Int) xs = firstF 0 0 (s : Int) xs := by
    intro xs
    induction xs with
    | nil => rfl
    | cons x xs ih => simp only [firstF]; rw [ih]; rfl
  have e2 : cover_tree_cut.f a b (s : Int) (v : Int) (w : Int) = cover_tree_cut.f 0 0 (s : Int) (v : Int) (w : Int) := by
    unfold cover_tree_cut.f
    split
    · rfl
    · congr 1; funext xs; exact e xs
  rw [e2]
  exact opI_eq (by simpa using h1)
def ValidI (a0 a1 a2 a3 a4 a5 : Int) : Prop := 1 ≤ a0 ∧ a0 ≤ 3 ∧ 0 ≤ a1 ∧ a1 ≤ 6 ∧ a2 = 0 ∧ a3 = 0 ∧ a4 = 0 ∧ a5 = 0
theorem treeOf_fin : all2 4 7 (fun a d => Nat.beq a 0 || (match cover_treeOf.f 5 (a : Int) (d : Int) 0 0 0 0 with | some (.ofNat x, .ofNat y, .ofNat z, b) => Nat.beq x a && (Nat.beq y d && (Nat.beq z (strd d) && b)) | _ => false)) = true := by kernel_rfl
theorem treeOf_n {a d k : Nat} (ha : 1 ≤ a) (ha3 : a ≤ 3) (hd : d ≤ 6) (hk : 5 ≤ k) : cover_treeOf.f k (a : Int) (d : Int) 0 0 0 0 = some ((a : Int), (d : Int), (strd d : Int), true) := by
  have h1 := all2_at treeOf_fin (show a < 4 by omega) (show d < 7 by omega)
  have h2 : Nat.beq a 0 = false := by cases a with | zero => omega | succ n => rfl
  rw [h2] at h1
  refine up (fun k => cover_treeOf.mono _ _ _ _ _ _ k) (k0 := 5) ?_ hk
  simp only [Bool.false_or] at h1
  split at h1
  · rename_i x y z b e
    rw [e]
    simp only [Bool.and_eq_true] at h1
    obtain ⟨e1, e2, e3, e4⟩ := h1
    rw [Nat.eq_of_beq_eq_true e1, Nat.eq_of_beq_eq_true e2, Nat.eq_of_beq_eq_true e3, e4]
    rfl
  · cases h1
theorem treeOf_bad {a0 a1 a2 a3 a4 a5 : Int} {k : Nat} (h : ¬ ValidI a0 a1 a2 a3 a4 a5) (hk : 1 ≤ k) : cover_treeOf.f k a0 a1 a2 a3 a4 a5 = some (0, 0, 0, false) := by
  obtain ⟨k, rfl⟩ : ∃ m, k = m + 1 := ⟨k - 1, by omega⟩
  unfold cover_treeOf.f
  have hj : cover_treeOf.j0 (k + 1) true a0 a1 a2 a3 a4 a5 = some (0, 0, 0, false) := by simp only [cover_treeOf.j0]; rfl
  split
  · exact hj
  split
  · exact hj
  split
  · exact hj
  split
  · exact hj
  have hb : (!(a2 == 0) || ((!(a3 == 0) || (!(a4 == 0) || (!(a5 == 0)))))) = true := by
    unfold ValidI at h
    by_cases e2 : a2 = 0
    · by_cases e3 : a3 = 0
      · by_cases e4 : a4 = 0
        · by_cases e5 : a5 = 0
          · exact absurd ⟨by omega, by omega, by omega, by omega, e2, e3, e4, e5⟩ h
          · simp [e5]
        · simp [e4]
      · simp [e3]
    · simp [e2]
  rw [hb]
  exact hj
theorem size_n {d : Nat} (a c : Int) (hd : d ≤ 6) : cover_tree_size.f a (d : Int) c = some ((2 ^ d : Nat) : Int) := by
  match d, hd with
  | 0, _ => rfl
  | 1, _ => rfl
  | 2, _ => rfl
  | 3, _ => rfl
  | 4, _ => rfl
  | 5, _ => rfl
  | 6, _ => rfl
theorem pow_le64 {d : Nat} (hd : d ≤ 6) : 2 ^ d ≤ 64 ∧ 1 ≤ 2 ^ d := by
  match d, hd with
  | 0, _ => decide
  | 1, _ => decide
  | 2, _ => decide
  | 3, _ => decide
  | 4, _ => decide
  | 5, _ => decide
  | 6, _ => decide
theorem has_n {d : Nat} (a c v : Int) (hd : d ≤ 6) : cover_tree_has.f a (d : Int) c v = some (decide (1 ≤ v) && decide (v < 2 ^ (d + 1))) := by
  have hp := pow_le64 hd
  unfold cover_tree_has.f
  rw [size_n a c hd]
  have e : wrap64 (2 * ((2 ^ d : Nat) : Int)) = 2 ^ (d + 1) := by
    have h : (2 : Int) ^ (d + 1) = 2 * ((2 ^ d : Nat) : Int) := by rw [Int.pow_succ]; push_cast; omega
    rw [h]
    unfold wrap64
    omega
  split
  · rename_i h
    simp only [Option.bind_some, e]
    have h' : decide (1 ≤ v) = true := decide_eq_true h
    rw [h']; rfl
  · rename_i h
    have h' : decide (1 ≤ v) = false := decide_eq_false h
    rw [h']; rfl
end Go.Proofs.Ytafhimeoijmolaa.G
namespace Go.Proofs.Ytafhimeoijmolaa.G
open Go.RowKit Go.Proofs.YtafhimeoijmolaaW.PrintWords Go.Proofs.YtafhimeoijmolaaW.PrintLast Go.Proofs.YtafhimeoijmolaaW.PrintMore
set_option linter.unusedVariables false
set_option linter.unusedSimpArgs false
theorem pow_lt128 {d : Nat} (hd : d ≤ 6) : 2 ^ (d + 1) ≤ 128 := by
  have := pow_le64 hd
  rw [Nat.pow_succ]; omega
theorem int_pow (d : Nat) : (2 : Int) ^ (d + 1) = ((2 ^ (d + 1) : Nat) : Int) := by push_cast; rfl
theorem node_nat {d : Nat} {v : Int} (hd : d ≤ 6) (h1 : 1 ≤ v) (h2 : v < 2 ^ (d + 1)) : ∃ n : Nat, v = n ∧ 1 ≤ n ∧ n < 2 ^ (d + 1) ∧ n < 128 := by
  rw [int_pow] at h2
  have := pow_lt128 hd
  exact ⟨v.toNat, by omega, by omega, by omega, by omega⟩
theorem subset_n {a d k : Nat} (v w : Int) (ha : 1 ≤ a) (ha3 : a ≤ 3) (hd : d ≤ 6) (hk : 4 ≤ k) : cover_tree_subset.f k (a : Int) (d : Int) (strd d : Int) v w = some (subI a d v w) := by
  obtain ⟨k, rfl⟩ : ∃ m, k = m + 2 := ⟨k - 2, by omega⟩
  unfold cover_tree_subset.f subI
  rw [has_n _ _ v hd]
  simp only [Option.bind_some]
  by_cases h1 : 1 ≤ v
  · by_cases h2 : v < 2 ^ (d + 1)
    · rw [decide_eq_true h1, decide_eq_true h2]
      simp only [Bool.and_self, if_true, Bool.true_and]
      obtain ⟨n, rfl, hn1, hn2, hn3⟩ := node_nat hd h1 h2
      by_cases e1 : a = 1
      · subst e1
        by_cases hw : w = 0 <;> simp [hw, cover_tree_subset.j0]
      · have e1' : ¬ ((a : Int) = 1) := by omega
        rw [if_neg e1', if_neg e1]
        by_cases hw : w = 0
        · subst hw
          simp only [cover_tree_subset.j0, beq_self_eq_true, if_true, if_neg e1']
          congr 1
        · have hw' : (w == 0) = false := by simp [hw]
          rw [hw', if_neg hw]
          simp only [cover_tree_subset.j0, Bool.false_eq_true, if_false]
          rw [has_n _ _ w hd]
          simp only [Option.bind_some]
          by_cases h3 : 1 ≤ w
          · by_cases h4 : w < 2 ^ (d + 1)
            · rw [decide_eq_true h3, decide_eq_true h4]
              obtain ⟨m, rfl, hm1, hm2, hm3⟩ := node_nat hd h3 h4
              simp only [Bool.and_self, if_true, Bool.true_and]
              by_cases h5 : (m : Int) = n
              · rw [if_pos h5, decide_eq_true h5]
                simp only [cover_tree_subset.j1, if_true, Bool.not_true, Bool.false_and]
              · rw [if_neg h5, decide_eq_false h5, below_n hm3 hn3 (by omega)]
                simp only [Option.bind_some, Bool.not_false, Bool.true_and, Int.toNat_natCast]
                cases hb : blw m n with
                | false => simp only [Bool.not_false, cover_tree_subset.j1, if_true, Bool.false_and]
                | true =>
                  simp only [Bool.not_true, cover_tree_subset.j1, Bool.false_eq_true, if_false, Bool.true_and]
                  unfold sub3
                  by_cases e2 : a = 2
                  · subst e2; rfl
                  · have e2' : ¬ ((a : Int) = 2) := by omega
                    have e2'' : Nat.beq a 2 = false := by
                      cases e : Nat.beq a 2 with
                      | false => rfl
                      | true => exact absurd (Nat.eq_of_beq_eq_true e) e2
                    rw [if_neg e2', e2'', special_n _ _ (strd_pos d) (strd_le d) hn1 hn3]
                    simp only [Option.bind_some, Bool.false_or]
                    cases hs : spc (strd d) n with
                    | true => rfl
                    | false =>
                      rw [cut_n _ _ (strd_pos d) (strd_le d) hn3 hm3 hb (by omega)]
                      simp only [Bool.false_eq_true, if_false, Option.bind_some, Bool.false_or]
                      congr 1
                      cases cutN (strd d) n m with
                      | zero => rfl
                      | succ c =>
                        have h9 : (((c + 1 : Nat) : Int) == 0) = false := by rw [beq_eq_false_iff_ne]; omega
                        rw [h9]; rfl
            · rw [decide_eq_false h4]
              simp only [Bool.and_false, Bool.false_eq_true, if_false, cover_tree_subset.j1, if_true, Bool.false_and]
          · rw [decide_eq_false h3]
            simp only [Bool.false_and, Bool.false_eq_true, if_false, cover_tree_subset.j1, if_true]
    · rw [decide_eq_false h2]
      simp only [Bool.and_false, Bool.false_eq_true, if_false, Bool.false_and]
  · rw [decide_eq_false h1]
    simp only [Bool.false_and, Bool.false_eq_true, if_false]
end Go.Proofs.Ytafhimeoijmolaa.G
namespace Go.Proofs.Ytafhimeoijmolaa.G
open Go.RowKit Go.Proofs.YtafhimeoijmolaaW.PrintWords Go.Proofs.YtafhimeoijmolaaW.PrintLast Go.Proofs.YtafhimeoijmolaaW.PrintMore
set_option linter.unusedVariables false
set_option linter.unusedSimpArgs false
def listEq : List Int → List Nat → Bool
  | [], [] => true
  | .ofNat a :: l, b :: m => Nat.beq a b && listEq l m
  | _, _ => false
theorem listEq_eq : ∀ {l : List Int} {m : List Nat}, listEq l m = true → l = m.map Int.ofNat
  | [], [], _ => rfl
  | .ofNat a :: l, b :: m, h => by
    simp only [listEq, Bool.and_eq_true] at h
    rw [Nat.eq_of_beq_eq_true h.1, listEq_eq h.2]; rfl
  | [], b :: m, h => by cases h
  | .ofNat a :: l, [], h => by cases h
  | .negSucc a :: l, m, h => by cases m <;> cases h
def opL (o : Option (List Int)) (m : List Nat) : Bool := match o with | some l => listEq l m | none => false
theorem opL_eq {o : Option (List Int)} {m : List Nat} (h : opL o m = true) : o = some (m.map Int.ofNat) := by
  unfold opL at h
  split at h
  · rw [listEq_eq h]
  · cases h
theorem rBelow_fin : all2 128 128 (fun w v => Nat.beq v 0 || opB (headendref03_Below.f 20 (w : Int) (v : Int)) (blw w v)) = true := by kernel_rfl
theorem rBelow_n {w v k : Nat} (hw : w < 128) (hv : v < 128) (h1 : 1 ≤ v) (hk : 20 ≤ k) : headendref03_Below.f k (w : Int) (v : Int) = some (blw w v) := by
  have h := all2_at rBelow_fin hw hv
  have h2 : Nat.beq v 0 = false := by cases v with | zero => omega | succ n => rfl
  rw [h2] at h
  exact up (fun k => headendref03_Below.mono _ _ k) (opB_eq (by simpa using h)) hk
theorem rReceivers_fin : all1 7 (fun d => opI (headendref03_Receivers.f 10 (d : Int)) (2 ^ d)) = true := by kernel_rfl
theorem rReceivers_n {d k : Nat} (hd : d ≤ 6) (hk : 10 ≤ k) : headendref03_Receivers.f k (d : Int) = some ((2 ^ d : Nat) : Int) :=
  up (fun k => headendref03_Receivers.mono _ k) (opI_eq (all1_at rReceivers_fin (by omega))) hk
theorem rNode_n {d k : Nat} (v : Int) (hd : d ≤ 6) (hk : 10 ≤ k) : headendref03_Node.f k (d : Int) v = some (decide (1 ≤ v) && decide (v < 2 ^ (d + 1))) := by
  have hp := pow_le64 hd
  unfold headendref03_Node.f
  rw [rReceivers_n hd hk]
  have e : wrap64 (2 * ((2 ^ d : Nat) : Int)) = 2 ^ (d + 1) := by
    have h : (2 : Int) ^ (d + 1) = 2 * ((2 ^ d : Nat) : Int) := by rw [Int.pow_succ]; push_cast; omega
    rw [h]
    unfold wrap64
    omega
  split
  · rename_i h
    simp only [Option.bind_some, e]
    have h' : decide (1 ≤ v) = true := decide_eq_true h
    rw [h']; rfl
  · rename_i h
    have h' : decide (1 ≤ v) = false := decide_eq_false h
    rw [h']; rfl
theorem rSpecial_fin : all2 7 128 (fun d v => Nat.beq v 0 || opB (headendref03_Special.f 20 (d : Int) (v : Int)) (spc (strd d) v)) = true := by kernel_rfl
theorem rSpecial_n {d v k : Nat} (hd : d ≤ 6) (h0 : 1 ≤ v) (h : v < 128) (hk : 20 ≤ k) : headendref03_Special.f k (d : Int) (v : Int) = some (spc (strd d) v) := by
  have h1 := all2_at rSpecial_fin (show d < 7 by omega) h
  have h3 : Nat.beq v 0 = false := by cases v with | zero => omega | succ n => rfl
  rw [h3] at h1
  exact up (fun k => headendref03_Special.mono _ _ k) (opB_eq (by simpa using h1)) hk
theorem beq_ne {a b : Nat} (h : a ≠ b) : Nat.beq a b = false := by
  cases e : Nat.beq a b with
  | false => rfl
  | true => exact absurd (Nat.eq_of_beq_eq_true e) h
theorem rPath_fin : all2 128 128 (fun v w => !blw w v || opL (headendref03_Path.f 20 (v : Int) (w : Int)) (v :: nodesTo v w)) = true := by kernel_rfl
theorem rPath_n {v w k : Nat} (hv : v < 128) (hw : w < 128) (hb : blw w v = true) (hk : 20 ≤ k) : headendref03_Path.f k (v : Int) (w : Int) = some ((v :: nodesTo v w).map Int.ofNat) := by
  have h1 := all2_at rPath_fin hv hw
  rw [hb] at h1
  exact up (fun k => headendref03_Path.mono _ _ k) (opL_eq (by simpa using h1)) hk
theorem rBetween_fin : all1 7 (fun d => all2 128 128 (fun v w => !(blw w v && !Nat.beq w v) || opI (headendref03_between.f 30 (d : Int) (v : Int) (w : Int)) (cutN (strd d) v w))) = true := by kernel_rfl
theorem rBetween_n {d v w k : Nat} (hd : d ≤ 6) (hv : v < 128) (hw : w < 128) (hb : blw w v = true) (hne : w ≠ v) (hk : 30 ≤ k) : headendref03_between.f k (d : Int) (v : Int) (w : Int) = some (cutN (strd d) v w : Int) := by
  have h1 := all2_at (all1_at rBetween_fin (show d < 7 by omega)) hv hw
  rw [hb, beq_ne hne] at h1
  exact up (fun k => headendref03_between.mono _ _ _ k) (opI_eq (by simpa using h1)) hk
theorem rSubset_n {a d k : Nat} (v w x2 x3 x4 x5 : Int) (ha : 1 ≤ a) (ha3 : a ≤ 3) (hd : d ≤ 6) (hk : 31 ≤ k) : headendref03_IsSubset.f k (a : Int) (d : Int) x2 x3 x4 x5 v w = some (subI a d v w) := by
  obtain ⟨k, rfl⟩ : ∃ m, k = m + 1 := ⟨k - 1, by omega⟩
  unfold headendref03_IsSubset.f subI
  rw [rNode_n v hd (by omega)]
  simp only [Option.bind_some]
  by_cases h1 : 1 ≤ v
  · by_cases h2 : v < 2 ^ (d + 1)
    · rw [decide_eq_true h1, decide_eq_true h2]
      simp only [Bool.and_self, if_true, Bool.true_and]
      obtain ⟨n, rfl, hn1, hn2, hn3⟩ := node_nat hd h1 h2
      by_cases e1 : a = 1
      · subst e1
        by_cases hw : w = 0 <;> simp [hw]
      · have e1' : ¬ ((a : Int) = 1) := by omega
        rw [if_neg e1', if_neg e1]
        by_cases hw : w = 0
        · subst hw
          simp only [if_true]
          congr 1
        · rw [if_neg hw, if_neg hw, rNode_n w hd (by omega)]
          simp only [Option.bind_some]
          by_cases h3 : 1 ≤ w
          · by_cases h4 : w < 2 ^ (d + 1)
            · rw [decide_eq_true h3, decide_eq_true h4]
              obtain ⟨m, rfl, hm1, hm2, hm3⟩ := node_nat hd h3 h4
              simp only [Bool.and_self, if_true, Bool.true_and]
              by_cases h5 : (m : Int) = n
              · rw [if_pos h5, decide_eq_true h5]
                simp only [headendref03_IsSubset.j0, if_true, Bool.not_true, Bool.false_and]
              · rw [if_neg h5, decide_eq_false h5, rBelow_n hm3 hn3 hn1 (by omega)]
                simp only [Option.bind_some, Bool.not_false, Bool.true_and, Int.toNat_natCast]
                cases hb : blw m n with
                | false => simp only [Bool.not_false, headendref03_IsSubset.j0, if_true, Bool.false_and]
                | true =>
                  simp only [Bool.not_true, headendref03_IsSubset.j0, Bool.false_eq_true, if_false, Bool.true_and]
                  unfold sub3
                  by_cases e2 : a = 2
                  · subst e2; rfl
                  · have e2' : ¬ ((a : Int) = 2) := by omega
                    rw [if_neg e2', beq_ne e2, rSpecial_n hd hn1 hn3 (by omega)]
                    simp only [Option.bind_some, Bool.false_or]
                    cases hs : spc (strd d) n with
                    | true => rfl
                    | false =>
                      rw [rBetween_n hd hn3 hm3 hb (by omega) (by omega)]
                      simp only [Bool.false_eq_true, if_false, Option.bind_some, Bool.false_or]
                      congr 1
                      cases cutN (strd d) n m with
                      | zero => rfl
                      | succ c =>
                        have h9 : (((c + 1 : Nat) : Int) == 0) = false := by rw [beq_eq_false_iff_ne]; omega
                        rw [h9]; rfl
            · rw [decide_eq_false h4]
              simp only [Bool.and_false, Bool.false_eq_true, if_false, headendref03_IsSubset.j0, if_true, Bool.false_and]
          · rw [decide_eq_false h3]
            simp only [Bool.false_and, Bool.false_eq_true, if_false, headendref03_IsSubset.j0, if_true]
    · rw [decide_eq_false h2]
      simp only [Bool.and_false, Bool.false_eq_true, if_false, Bool.false_and]
  · rw [decide_eq_false h1]
    simp only [Bool.false_and, Bool.false_eq_true, if_false]
theorem rValid_good {a d : Nat} (ha : 1 ≤ a) (ha3 : a ≤ 3) (hd : d ≤ 6) : headendref03_Valid.f (a : Int) (d : Int) 0 0 0 0 = some true := by
  unfold headendref03_Valid.f
  rw [if_pos (by omega), if_pos (by omega), if_pos (by omega), if_pos (by omega)]
  simp
theorem rValid_bad {a0 a1 a2 a3 a4 a5 : Int} (h : ¬ ValidI a0 a1 a2 a3 a4 a5) : headendref03_Valid.f a0 a1 a2 a3 a4 a5 = some false := by
  unfold headendref03_Valid.f
  split
  · split
    · split
      · split
        · split
          · have hb : (a3 == 0 && (a4 == 0 && (a5 == 0))) = false := by
              unfold ValidI at h
              by_cases e3 : a3 = 0
              · by_cases e4 : a4 = 0
                · by_cases e5 : a5 = 0
                  · exact absurd ⟨by omega, by omega, by omega, by omega, by omega, e3, e4, e5⟩ h
                  · simp [e5]
                · simp [e4]
              · simp [e3]
            rw [hb]
          · rfl
        · rfl
      · rfl
    · rfl
  · rfl
theorem ValidI.nat {a0 a1 a2 a3 a4 a5 : Int} (h : ValidI a0 a1 a2 a3 a4 a5) : ∃ a d : Nat, a0 = a ∧ a1 = d ∧ 1 ≤ a ∧ a ≤ 3 ∧ d ≤ 6 ∧ a2 = 0 ∧ a3 = 0 ∧ a4 = 0 ∧ a5 = 0 := by
  obtain ⟨h1, h2, h3, h4, h5, h6, h7, h8⟩ := h
  exact ⟨a0.toNat, a1.toNat, by omega, by omega, by omega, by omega, by omega, h5, h6, h7, h8⟩
theorem subI_nat {a d : Nat} {v w : Int} (ha : 1 ≤ a) (hd : d ≤ 6) (h : subI a d v w = true) : ∃ n m : Nat, v = n ∧ w = m ∧ 1 ≤ n ∧ n < 2 ^ (d + 1) ∧ n < 128 ∧ m < 2 ^ (d + 1) ∧ m < 128 := by
  have hp := pow_lt128 hd
  have hp1 : 1 ≤ 2 ^ (d + 1) := Nat.one_le_two_pow
  unfold subI at h
  simp only [Bool.and_eq_true, decide_eq_true_eq] at h
  obtain ⟨h1, h2, h3⟩ := h
  obtain ⟨n, rfl, hn1, hn2, hn3⟩ := node_nat hd h1 h2
  split at h3
  · have hw : w = 0 := of_decide_eq_true h3
    exact ⟨n, 0, rfl, hw, hn1, hn2, hn3, by omega, by omega⟩
  · split at h3
    · rename_i hw
      exact ⟨n, 0, rfl, hw, hn1, hn2, hn3, by omega, by omega⟩
    · simp only [Bool.and_eq_true, decide_eq_true_eq] at h3
      obtain ⟨m, rfl, hm1, hm2, hm3⟩ := node_nat hd h3.1 h3.2.1
      exact ⟨n, m, rfl, rfl, hn1, hn2, hn3, hm2, hm3⟩
end Go.Proofs.Ytafhimeoijmolaa.G
namespace Go.Proofs.Ytafhimeoijmolaa.G
open Go.RowKit Go.Proofs.YtafhimeoijmolaaW.PrintWords Go.Proofs.YtafhimeoijmolaaW.PrintLast Go.Proofs.YtafhimeoijmolaaW.PrintMore
set_option linter.unusedVariables false
set_option linter.unusedSimpArgs false
theorem path_fin : all2 128 128 (fun v w => !(blw w v) || opL (pathF 9 (v : Int) (w : Int)) (nodesTo v w)) = true := by kernel_rfl
theorem path_n {v w : Nat} (hv : v < 128) (hw : w < 128) (hb : blw w v = true) : pathF 9 (v : Int) (w : Int) = some ((nodesTo v w).map Int.ofNat) := by
  have h1 := all2_at path_fin hv hw
  rw [hb] at h1
  exact opL_eq (by simpa using h1)
theorem sub_below' {a d n m : Nat} (ha : 1 ≤ a) (h : subI a d (n : Int) (m : Int) = true) (h1 : a ≠ 1) (h2 : m ≠ 0) : blw m n = true ∧ m ≠ n := by
  unfold subI at h
  simp only [Bool.and_eq_true, decide_eq_true_eq] at h
  obtain ⟨_, _, h3⟩ := h
  rw [if_neg h1, if_neg (by omega)] at h3
  simp only [Bool.and_eq_true, decide_eq_true_eq, Bool.not_eq_true', decide_eq_false_iff_not, Int.toNat_natCast] at h3
  exact ⟨h3.2.2.2.1, by omega⟩
theorem check_good {a d : Nat} (ha : 1 ≤ a) (ha3 : a ≤ 3) (hd : d ≤ 6) : cover_Check.f 70 (a : Int) (d : Int) 0 0 0 0 = some 0 := by unfold cover_Check.f; rw [treeOf_n ha ha3 hd (by omega)]; rfl
theorem check_bad {a0 a1 a2 a3 a4 a5 : Int} (h : ¬ ValidI a0 a1 a2 a3 a4 a5) : cover_Check.f 70 a0 a1 a2 a3 a4 a5 = some 30 := by unfold cover_Check.f; rw [treeOf_bad h (by omega)]; rfl
def subAll (a d : Nat) (l : List S47) : Bool := l.all fun x => subI a d x.f0 x.f1
theorem subAll_cons (a d : Nat) (y : S47) (l : List S47) : subAll a d (y :: l) = (subI a d y.f0 y.f1 && subAll a d l) := rfl
theorem enter_l0 {a d : Nat} (l : List S47) (hl : l.length ≤ 1000) (ha : 1 ≤ a) (ha3 : a ≤ 3) (hd : d ≤ 6) : ∀ (n i k : Nat), i + n = l.length → n + 5 ≤ k →
    cover_enter.l0 k l (l.length : Int) (i : Int) (a : Int) (d : Int) (strd d : Int) = if subAll a d (l.drop i) = true then some ((a : Int), (d : Int), (strd d : Int), 0) else some (0, 0, 0, 31)
  | 0, i, k, hi, hk => by
    obtain ⟨k, rfl⟩ : ∃ m, k = m + 1 := ⟨k - 1, by omega⟩
    rw [cover_enter.l0, if_neg (by omega), List.drop_of_length_le (by omega)]
    rfl
  | n + 1, i, k, hi, hk => by
    obtain ⟨k, rfl⟩ : ∃ m, k = m + 1 := ⟨k - 1, by omega⟩
    have hlt : i < l.length := by omega
    have hr : rd_T47 l (i : Int) = l[i] := by unfold rd_T47; simp [hlt]
    have hd' : l.drop i = l[i] :: l.drop (i + 1) := List.drop_eq_getElem_cons hlt
    rw [cover_enter.l0, if_pos (by omega), if_pos (by omega), if_pos (by omega), hr, subset_n _ _ ha ha3 hd (by omega), hd']
    simp only [Option.bind_some]
    obtain ⟨y, hy⟩ : ∃ y, y = l[i] := ⟨_, rfl⟩
    rw [← hy]
    have hw : wrap64 ((i : Int) + 1) = ((i + 1 : Nat) : Int) := by unfold wrap64; omega
    by_cases hs : subI a d y.f0 y.f1 = true
    · rw [if_pos hs, subAll_cons, hs, Bool.true_and, hw, enter_l0 l hl ha ha3 hd n (i + 1) k (by omega) (by omega)]
    · rw [if_neg hs, subAll_cons, Bool.eq_false_iff.mpr hs, Bool.false_and, if_neg (by simp)]
theorem enter_list {a d : Nat} (l : List S47) (hl : l.length ≤ 64) (ha : 1 ≤ a) (ha3 : a ≤ 3) (hd : d ≤ 6) :
    cover_enter.f 70 (a : Int) (d : Int) 0 0 0 0 l = if subAll a d l = true then some ((a : Int), (d : Int), (strd d : Int), 0) else some (0, 0, 0, 31) := by
  unfold cover_enter.f
  rw [treeOf_n ha ha3 hd (by omega)]
  simp only [Option.bind_some, if_true]
  have h := enter_l0 l (by omega) ha ha3 hd l.length 0 70 (by omega) (by omega)
  rw [List.drop_zero] at h
  exact h
theorem sameSubsets_big (l : List S47) (hl : l.length ≤ 4611686018427387904) : headendref03_SameSubsets.f (l.length + 1) l l = some true := by
  have loop : ∀ (n u k : Nat), u + n = l.length → n < k → headendref03_SameSubsets.l0 k l l (u : Int) = some true := by
    intro n
    induction n with
    | zero =>
      intro u k hu hk
      obtain ⟨k, rfl⟩ : ∃ m, k = m + 1 := ⟨k - 1, by omega⟩
      simp only [headendref03_SameSubsets.l0]
      rw [if_neg (by omega)]
    | succ n ih =>
      intro u k hu hk
      obtain ⟨k, rfl⟩ : ∃ m, k = m + 1 := ⟨k - 1, by omega⟩
      have hw1 : wrap64 ((u : Int) + 1) = ((u + 1 : Nat) : Int) := by unfold wrap64; omega
      simp only [headendref03_SameSubsets.l0]
      rw [if_pos (by omega), if_pos (by omega), if_pos (by omega)]
      simp only [beq_self_eq_true, Bool.not_true, Bool.or_self, Bool.false_eq_true, if_false]
      rw [hw1]
      exact ih (u + 1) k (by omega) (by omega)
  unfold headendref03_SameSubsets.f
  rw [if_pos rfl]
  exact loop l.length 0 _ (by omega) (by omega)
end Go.Proofs.Ytafhimeoijmolaa.G
