/- Texts of this claim, one behind the other: G30, X28, G4, P2. -/
import Derived.Deep.QuietTactic
import Derived.BigQuiet
import Derived.Test.YtafhimeoijmolaaO1
import Derived.Test.YtafhimeoijmolaaCoverSplitsM2
/- Written by wip/genprint.py: Lean functions with the Go functions' answers, and their contracts. -/
namespace Go.Proofs.Ytafhimeoijmolaa.G
open Go.RowKit Go.Proofs.YtafhimeoijmolaaW.PrintWords Go.Proofs.YtafhimeoijmolaaW.PrintLast Go.Proofs.YtafhimeoijmolaaW.PrintMore
attribute [local go_sem] max2_int min2_int max_two min_two max_three min_three max_four min_four   -- for this text's walks alone
set_option linter.unusedVariables false
set_option linter.unusedSimpArgs false

attribute [local go_sem high] eqA47
/-! ### headendref03_SameSubsets: function 30 -/
def headendref03_SameSubsets.l0 : Nat → List (S47) → List (S47) → Int → Option (Bool)
  | 0, _, _, _ => none
  | k + 1, x0, x1, x5 => if x5 < (x0.length : Int) then (if 0 ≤ x5 then (if x5 < (x1.length : Int) then (if (!(((rd_T47 x0 x5).f0) == ((rd_T47 x1 x5).f0)) || (!(((rd_T47 x0 x5).f1) == ((rd_T47 x1 x5).f1)))) = true then (some false) else (headendref03_SameSubsets.l0 k x0 x1 (wrap64 (x5 + 1)))) else (none)) else (none)) else (some true)
def headendref03_SameSubsets.f (k : Nat) (l0 : List (S47)) (l1 : List (S47)) : Option (Bool) := if (l0.length : Int) = (l1.length : Int) then (headendref03_SameSubsets.l0 k l0 l1 0) else (some false)
theorem headendref03_SameSubsets.mono_l : ∀ k, (∀ y0 y1 y2, LeO (headendref03_SameSubsets.l0 k y0 y1 y2) (headendref03_SameSubsets.l0 (k + 1) y0 y1 y2))
  | 0 => fun _ _ _ r h => by simp [headendref03_SameSubsets.l0] at h
  | k + 1 => by
    have ih0 := headendref03_SameSubsets.mono_l k
    · intro y0 y1 y2
      unfold headendref03_SameSubsets.l0
      repeat' first
      | (with_reducible exact ih0 _ _ _)
      | (with_reducible exact LeO.refl _)
      | (with_reducible exact LeO.none _)
      | (with_reducible refine LeO.ite ?_ ?_)
      | (with_reducible refine LeO.bind ?_ (fun _ => ?_))
      | exact ih0 _ _ _
      | exact LeO.none _
      | refine LeO.ite ?_ ?_
      | refine LeO.bind ?_ (fun _ => ?_)
theorem headendref03_SameSubsets.mono : ∀ a0 a1 k, LeO (headendref03_SameSubsets.f k a0 a1) (headendref03_SameSubsets.f (k + 1) a0 a1) := by
  intro a0 a1 k
  have ih0 := headendref03_SameSubsets.mono_l k
  unfold headendref03_SameSubsets.f
  repeat' first
      | (with_reducible exact ih0 _ _ _)
      | (with_reducible exact LeO.refl _)
      | (with_reducible exact LeO.none _)
      | (with_reducible refine LeO.ite ?_ ?_)
      | (with_reducible refine LeO.bind ?_ (fun _ => ?_))
      | exact ih0 _ _ _
      | exact LeO.none _
      | refine LeO.ite ?_ ?_
      | refine LeO.bind ?_ (fun _ => ?_)
set_option maxHeartbeats 8000000 in
set_option maxRecDepth 100000 in
theorem headendref03_SameSubsets.calls (k : Nat) (A0 : Option Addr) (c0 : Nat) (l0 : List (S47)) (A1 : Option Addr) (c1 : Nat) (l1 : List (S47)) (r : Bool) (w : World) (hr0 : Kd.C k47 w A0 l0.length l0) (hc0 : l0.length ≤ c0) (hr1 : Kd.C k47 w A1 l1.length l1) (hc1 : l1.length ≤ c1) (h : headendref03_SameSubsets.f k l0 l1 = some r) :
    Calls Try.prog 30 #[.slice A0 l0.length c0, .slice A1 l1.length c1] w fun e w' => e = .returned (.bool r) ∧ Drawn0 w w' := by
  have hu47 := Try.underlying47
  have HR0 := Aside0.mk hr0
  have HC0 := Aside0.mk hc0
  clear hr0 hc0
  have HR1 := Aside0.mk hr1
  have HC1 := Aside0.mk hc1
  clear hr1 hc1
  have H : (if (l0.length : Int) = (l1.length : Int) then (headendref03_SameSubsets.l0 k l0 l1 0) else (some false)) = some r := h
  clear h
  by_cases c3 : (l0.length : Int) = (l1.length : Int)
  · rw [if_pos c3] at H
    have c3b0 : ((l0.length : Int) == (l1.length : Int)) = true := beq_iff_eq.mpr c3
    have c3b1 : ((l0.length : Int) != (l1.length : Int)) = false := bne_eq_false_iff_eq.mpr c3
    have c3b2 : (l0.length == l1.length) = true := by first | simpa using c3 | (simp at c3 ⊢; omega)
    clear c3
    have H' := Aside0.mk H
    clear H
    go_enter Try.func30, Try.ntmps30
    go_wp2
    repeat (go_quiet (fail); try go_wp2)
    go_loopg [5] k (fun kq v5 w' => ∃ (x5_1 : Int), v5 = .int .i64 x5_1 ∧ Aside0 (headendref03_SameSubsets.l0 kq l0 l1 x5_1 = some r) ∧ Aside0 (kq ≤ k) ∧ Drawn0 w w')
    case atStart => exact ⟨(0), (by first | rfl | (simp; done) | (simp [*]; done)), H', ⟨Nat.le_refl _⟩, by repeat (first | exact Drawn0.refl _ | apply Drawn0.step)⟩
    case round =>
      clear H'
      try clear c1
      try clear p2
      try clear c3
      try clear c3b0
      try clear c3b1
      try clear c3b2
      obtain ⟨x5_1, rfl, HA, HK1, ⟨m1, rfl⟩⟩ := hrel
      cases gk with
      | zero => exact absurd HA.out (by simp [headendref03_SameSubsets.l0])
      | succ k1 =>
        have H := HA.out
        clear HA
        simp only [headendref03_SameSubsets.l0] at H
        by_cases c4 : x5_1 < (l0.length : Int)
        · rw [if_pos c4] at H
          have c4b0 : decide (x5_1 < (l0.length : Int)) = true := decide_eq_true c4
          clear c4
          by_cases c5 : 0 ≤ x5_1
          · rw [if_pos c5] at H
            have c5b0 : decide (0 ≤ x5_1) = true := decide_eq_true c5
            clear c5
            by_cases c6 : x5_1 < (l1.length : Int)
            · rw [if_pos c6] at H
              have c6b0 : decide (x5_1 < (l1.length : Int)) = true := decide_eq_true c6
              clear c6
              by_cases c7 : (!(((rd_T47 l0 x5_1).f0) == ((rd_T47 l1 x5_1).f0)) || (!(((rd_T47 l0 x5_1).f1) == ((rd_T47 l1 x5_1).f1)))) = true
              · rw [if_pos c7] at H
                have c7b0 : (!(((rd_T47 l0 x5_1).f0) == ((rd_T47 l1 x5_1).f0)) || (!(((rd_T47 l0 x5_1).f1) == ((rd_T47 l1 x5_1).f1)))) = true := c7
                clear c7
                obtain rfl := Option.some.inj H
                have p320 : 0 ≤ (x5_1 : Int) := of_decide_eq_true (by first | (with_reducible assumption) | assumption)
                have q320 : x5_1 < (l0.length : Int) := of_decide_eq_true (by first | (with_reducible assumption) | assumption)
                obtain ⟨ad320, e320, hx320_0, hx320_1⟩ := at_T47 HR0.out x5_1 p320 q320
                cases e320
                replace p320 := eq_true p320
                replace q320 := eq_true q320
                have p321 : 0 ≤ (x5_1 : Int) := of_decide_eq_true (by first | (with_reducible assumption) | assumption)
                have q321 : x5_1 < (l1.length : Int) := of_decide_eq_true (by first | (with_reducible assumption) | assumption)
                obtain ⟨ad321, e321, hx321_0, hx321_1⟩ := at_T47 HR1.out x5_1 p321 q321
                cases e321
                replace p321 := eq_true p321
                replace q321 := eq_true q321
                go_wp2
                repeat (go_quiet (fail); try go_wp2)
                go_ret
                exact ⟨by first | rfl | (simp; done) | (simp [*]; done), by repeat (first | exact Drawn0.refl _ | apply Drawn0.step)⟩
              · rw [if_neg c7] at H
                have c7b0 : (!(((rd_T47 l0 x5_1).f0) == ((rd_T47 l1 x5_1).f0)) || (!(((rd_T47 l0 x5_1).f1) == ((rd_T47 l1 x5_1).f1)))) = false := by simpa using c7
                clear c7
                have H' := Aside0.mk H
                clear H
                have p320 : 0 ≤ (x5_1 : Int) := of_decide_eq_true (by first | (with_reducible assumption) | assumption)
                have q320 : x5_1 < (l0.length : Int) := of_decide_eq_true (by first | (with_reducible assumption) | assumption)
                obtain ⟨ad320, e320, hx320_0, hx320_1⟩ := at_T47 HR0.out x5_1 p320 q320
                cases e320
                replace p320 := eq_true p320
                replace q320 := eq_true q320
                have p321 : 0 ≤ (x5_1 : Int) := of_decide_eq_true (by first | (with_reducible assumption) | assumption)
                have q321 : x5_1 < (l1.length : Int) := of_decide_eq_true (by first | (with_reducible assumption) | assumption)
                obtain ⟨ad321, e321, hx321_0, hx321_1⟩ := at_T47 HR1.out x5_1 p321 q321
                cases e321
                replace p321 := eq_true p321
                replace q321 := eq_true q321
                go_wp2
                repeat (go_quiet (fail); try go_wp2)
                go_roundg k1
                case measure => have := HK1.out; omega
                case rel => exact ⟨(wrap64 (x5_1 + 1)), (by first | rfl | (simp; done) | (simp [*]; done)), H', ⟨by have := HK1.out; omega⟩, by repeat (first | exact Drawn0.refl _ | apply Drawn0.step)⟩
            · rw [if_neg c6] at H
              exact absurd H (by simp)
          · rw [if_neg c5] at H
            exact absurd H (by simp)
        · rw [if_neg c4] at H
          have c4b0 : decide (x5_1 < (l0.length : Int)) = false := decide_eq_false c4
          clear c4
          obtain rfl := Option.some.inj H
          go_wp2
          repeat (go_quiet (fail); try go_wp2)
          go_ret
          exact ⟨by first | rfl | (simp; done) | (simp [*]; done), by repeat (first | exact Drawn0.refl _ | apply Drawn0.step)⟩
  · rw [if_neg c3] at H
    have c3b0 : ((l0.length : Int) == (l1.length : Int)) = false := beq_eq_false_iff_ne.mpr c3
    have c3b1 : ((l0.length : Int) != (l1.length : Int)) = true := bne_iff_ne.mpr c3
    have c3b2 : (l0.length == l1.length) = false := by first | simpa using c3 | (simp at c3 ⊢; omega)
    obtain rfl := Option.some.inj H
    go_enter Try.func30, Try.ntmps30
    go_wp2
    repeat (go_quiet (fail); try go_wp2)
    go_ret
    exact ⟨by first | rfl | (simp; done) | (simp [*]; done), by repeat (first | exact Drawn0.refl _ | apply Drawn0.step)⟩

end Go.Proofs.Ytafhimeoijmolaa.G

/- cover.Split: what it computes, and its contract. -/
namespace Go.Proofs.Ytafhimeoijmolaa.G
open Go.RowKit Go.Proofs.YtafhimeoijmolaaW.PrintWords Go.Proofs.YtafhimeoijmolaaW.PrintLast Go.Proofs.YtafhimeoijmolaaW.PrintMore
set_option linter.unusedVariables false
set_option linter.unusedSimpArgs false
set_option maxHeartbeats 2000000 in
set_option maxRecDepth 100000 in
theorem pair_calls (v w0 a b : Int) (w : World) :
    Calls Try.prog 76 #[.int .i64 v, .int .i64 w0, .int .i64 a, .int .i64 b] w fun e w' => ∃ v0 : Value, e = .returned (.tuple #[v0, .int .i64 0]) ∧ Kd.R k47 47 w' w.heap.size (fun _ => True) v0 [⟨v, w0⟩, ⟨a, b⟩] ∧ Below w.heap.size w w' := by
  go_enter Try.func76, Try.ntmps76
  go_wp2_with (((with_reducible refine gate_dst (N := 16) rfl ?_); refine Kd.R_lit (w0 := w) k47 w.heap.size 47 ?hg (N := 16) ?hd (xs := [⟨v, w0⟩, ⟨a, b⟩]) (inner := [.int .i64 v, .int .i64 w0, .int .i64 a, .int .i64 b]) (ok := fun _ => True) (okp := fun _ => True) ?hr ?hp (fun _ hk => hk) trivial (Below.refl _ _) (Nat.le_refl _) (by simp) ?_; (case hd => rfl); (case hg => rfl); (case hr => first | (go_simp; done) | (go_simp; rfl)); (case hp => exact (Reps.c2 (k47_mkM _ _ _ (⟨v, w0⟩ : S47)) (Reps.c2 (k47_mkM _ _ _ (⟨a, b⟩ : S47)) (Reps.none _ _)))); intro v1 w1 ho hb hg_ hnew_; have H1 := Aside0.mk ho; have H2 := Aside0.mk hb; clear hg_ hnew_ ho hb))
  go_ret2
  exact ⟨_, rfl, H1.out, H2.out⟩
theorem C_one47 {w : World} {g : Nat} {x0 x1 : Int} {t : TypeId} {m : Nat × Nat} (h : w.heap[g]? = some (.cells #[.int .i64 x0, .int .i64 x1] t m)) : Kd.C k47 w (some ⟨g, 0, none⟩) 1 [⟨x0, x1⟩] := by
  refine ⟨rfl, by omega, fun _ => ⟨_, rfl, fun j p hj => ?_⟩⟩
  match j, hj with
  | 0, hj =>
    obtain rfl : (⟨x0, x1⟩ : S47) = p := by simpa using hj
    refine ⟨_, rfl, k47_mk w ⟨x0, x1⟩, fun i u hu => ?_⟩
    match i, hu with
    | 0, hu => simp at hu; subst hu; simp [Addr.add, World.cell?, h]
    | 1, hu => simp at hu; subst hu; simp [Addr.add, World.cell?, h]
theorem blk_new (w : World) (o : Obj) : (w.alloc o).heap[w.heap.size]? = some o := World.alloc_heap_new w o
theorem blk_old {w : World} {g : Nat} {o o' : Obj} (h : w.heap[g]? = some o) : (w.alloc o').heap[g]? = some o := (Below.heap_alloc _ _ _ (Array.getElem?_eq_some_iff.1 h).1).trans h
theorem blk_to {w w' : World} {g : Nat} {o : Obj} (h : w.heap[g]? = some o) (hb : Below w.heap.size w w') : w'.heap[g]? = some o := (hb.block g (Array.getElem?_eq_some_iff.1 h).1).trans h
theorem blk_c {w : World} {g : Nat} {cs : Array Value} {t : TypeId} {m : Nat × Nat} (h : w.heap[g]? = some (.cells cs t m)) (j : Nat) (v : Value) (hv : cs[j]? = some v) : w.cell? ⟨g, j, none⟩ = some v := by simp [World.cell?, h, hv]
theorem below_undrew {W W' : World} {n : Nat} (h : Below (W.drewN n).heap.size (W.drewN n) W') : Below W.heap.size W W' := ⟨h.os, h.tape, h.output, h.size, h.block⟩
/-- What cover.Split answers: the subsets, and the error. -/
def cover_Split.f (a0_0 : Int) (a0_1 : Int) (a0_2 : Int) (a0_3 : Int) (a0_4 : Int) (a0_5 : Int) (a1_0 : Int) (a1_1 : Int) : Option (List S47 × Int) :=
  (cover_enter.f 70 a0_0 a0_1 a0_2 a0_3 a0_4 a0_5 [⟨a1_0, a1_1⟩]).bind fun t => if t.2.2.2 = 0 then
    (cover_tree_members.f 70 t.1 t.2.1 t.2.2.1 a1_0 a1_1).bind fun m => if (m.length : Int) = 1 then some ([], 6) else
      if t.1 = 1 then some ([⟨wrap64 (2 * a1_0), 0⟩, ⟨wrap64 (wrap64 (2 * a1_0) + 1), 0⟩], 0) else
      if a1_1 = 0 then some ([⟨1, 2⟩, ⟨1, 3⟩], 0) else
      (cover_node_toward.f a1_0 a1_1).bind fun c =>
        if c = a1_1 then (cover_node_sibling.f c).bind fun o => some ([⟨o, wrap64 (2 * o)⟩, ⟨o, wrap64 (wrap64 (2 * o) + 1)⟩], 0)
        else (cover_tree_subset.f 9 t.1 t.2.1 t.2.2.1 c a1_1).bind fun b => if b = true then some ([⟨a1_0, c⟩, ⟨c, a1_1⟩], 0) else (cover_tree_cut.f t.1 t.2.1 t.2.2.1 a1_0 a1_1).bind fun c2 => some ([⟨a1_0, c2⟩, ⟨c2, a1_1⟩], 0)
  else some ([], t.2.2.2)
set_option maxHeartbeats 4000000 in
set_option maxRecDepth 100000 in
theorem cover_Split.calls (a0_0 : Int) (a0_1 : Int) (a0_2 : Int) (a0_3 : Int) (a0_4 : Int) (a0_5 : Int) (a1_0 : Int) (a1_1 : Int) (r1 : List S47) (r2 : Int) (w : World) (h : cover_Split.f a0_0 a0_1 a0_2 a0_3 a0_4 a0_5 a1_0 a1_1 = some (r1, r2)) :
    Calls Try.prog 28 #[.agg #[.int .u8 a0_0, .int .i64 a0_1, .int .i64 a0_2, .int .u64 a0_3, .int .u64 a0_4, .int .u64 a0_5], .agg #[.int .i64 a1_0, .int .i64 a1_1]] w fun e w' => ∃ v0_ : Value, e = .returned (.tuple #[v0_, .int .i64 r2]) ∧ Kd.R k47 47 w' w.heap.size (fun _ => True) v0_ r1 ∧ Below w.heap.size w w' := by
  unfold cover_Split.f at h
  replace h := Option.bind_eq_some_iff.mp h
  obtain ⟨⟨k, d, s, e⟩, h1, h⟩ := h
  dsimp only at h
  have A1 := Aside0.mk h1
  have A0 := Aside0.mk h
  clear h h1
  go_enter Try.func28, Try.ntmps28
  go_wp2_with fail
  go_at_call 74
  refine (cover_enter.calls 70 a0_0 a0_1 a0_2 a0_3 a0_4 a0_5 _ _ [⟨a1_0, a1_1⟩] k d s e _ (C_one47 (t := 47) (m := (0, 0)) ?c1) (Nat.le_refl _) A1.out).mono ?_
  case c1 => have h := blk_new ((w.alloc (.cells #[.int .u8 a0_0, .int .i64 a0_1, .int .i64 a0_2, .int .u64 a0_3, .int .u64 a0_4, .int .u64 a0_5] 45)).alloc (.cells #[.int .i64 a1_0, .int .i64 a1_1] 47)) (.cells #[.int .i64 a1_0, .int .i64 a1_1] 47); simpa using h
  rintro e1 w1 ⟨rfl, hb1⟩
  have hX : w1.heap[w.heap.size + 1]? = some (.cells #[.int .i64 a1_0, .int .i64 a1_1] 47 (0, 0)) := by
    have h := blk_new (w.alloc (.cells #[.int .u8 a0_0, .int .i64 a0_1, .int .i64 a0_2, .int .u64 a0_3, .int .u64 a0_4, .int .u64 a0_5] 45)) (.cells #[.int .i64 a1_0, .int .i64 a1_1] 47)
    rw [World.size_alloc] at h
    exact blk_to (blk_old h) hb1
  have HB1 : Below w.heap.size w w1 := ((((Below.refl _ w).alloc (Nat.le_refl _) _).alloc (by simp) _).alloc (by simp; omega) _).trans (hb1.mono (by simp; omega))
  have BX := Aside0.mk hX; have BB := Aside0.mk HB1
  clear hX HB1 hb1
  have fin : ∀ (W W' : World) (cs : Array Value) (T : TypeId) (xs : List S47) (v0 : Value), Below w.heap.size w W → Kd.R k47 47 W' W.heap.size (fun _ => True) v0 xs → Below W.heap.size W W' → Kd.R k47 47 W' w.heap.size (fun _ => True) v0 xs ∧ Below w.heap.size w W' :=
    fun W W' cs T xs v0 h1 h2 h3 => ⟨Kd.R_lower h2 h1.size, h1.trans (h3.mono h1.size)⟩
  have Fin := Aside0.mk fin
  clear fin
  by_cases he : e = 0
  · have h := A0.out
    rw [if_pos he] at h
    replace h := Option.bind_eq_some_iff.mp h
    obtain ⟨m, h1, h⟩ := h
    have A2 := Aside0.mk h1
    have A3 := Aside0.mk h
    have b0 : (e != 0) = false := by simp [he]
    clear h h1 A0 he
    have cx0 : (w1.alloc (.cells #[.int .u8 k, .int .i64 d, .int .i64 s] 134)).cell? ⟨w.heap.size + 1, 0, none⟩ = some (.int .i64 a1_0) := blk_c (blk_old BX.out) 0 _ rfl
    have cx1 : (w1.alloc (.cells #[.int .u8 k, .int .i64 d, .int .i64 s] 134)).cell? ⟨w.heap.size + 1, 1, none⟩ = some (.int .i64 a1_1) := blk_c (blk_old BX.out) 1 _ rfl
    go_wp2_with fail
    go_at_call 75
    refine (cover_tree_members.calls 70 k d s a1_0 a1_1 m _ A2.out).mono ?_
    rintro e2 w2 ⟨v2, rfl, hm, hb2⟩
    obtain ⟨Am, cm, rfl, _, _⟩ := Kd.R_reads hm
    have BX2 := Aside0.mk (blk_to (blk_old (o' := .cells #[.int .u8 k, .int .i64 d, .int .i64 s] 134) BX.out) hb2)
    have BT2 := Aside0.mk (blk_to (blk_new w1 (.cells #[.int .u8 k, .int .i64 d, .int .i64 s] 134)) hb2)
    have BB2 := Aside0.mk ((BB.out.alloc BB.out.size (.cells #[.int .u8 k, .int .i64 d, .int .i64 s] 134)).trans (hb2.mono (by have := BB.out.size; simp; omega)))
    clear cx0 cx1 BX BB hb2 hm
    by_cases h1 : (m.length : Int) = 1
    · have h := A3.out
      rw [if_pos h1] at h
      simp only [Option.some.injEq, Prod.mk.injEq] at h
      obtain ⟨rfl, rfl⟩ := h
      have b1 : ((m.length : Int) == 1) = true := beq_iff_eq.mpr h1
      clear A3 h1
      go_wp2
      go_ret2
      exact ⟨_, rfl, Kd.R_nil _ _ _ _ _, BB2.out⟩
    · have b1 : ((m.length : Int) == 1) = false := beq_eq_false_iff_ne.mpr h1
      have h := A3.out
      rw [if_neg h1] at h
      have A4 := Aside0.mk h
      have ct0 : w2.cell? ⟨w1.heap.size, 0, none⟩ = some (.int .u8 k) := blk_c BT2.out 0 _ rfl
      have ct1 : w2.cell? ⟨w1.heap.size, 1, none⟩ = some (.int .i64 d) := blk_c BT2.out 1 _ rfl
      have ct2 : w2.cell? ⟨w1.heap.size, 2, none⟩ = some (.int .i64 s) := blk_c BT2.out 2 _ rfl
      have cx0 : w2.cell? ⟨w.heap.size + 1, 0, none⟩ = some (.int .i64 a1_0) := blk_c BX2.out 0 _ rfl
      have cx1 : w2.cell? ⟨w.heap.size + 1, 1, none⟩ = some (.int .i64 a1_1) := blk_c BX2.out 1 _ rfl
      clear h h1 A3
      by_cases h2 : k = 1
      · have h := A4.out
        rw [if_pos h2] at h
        simp only [Option.some.injEq, Prod.mk.injEq] at h
        obtain ⟨rfl, rfl⟩ := h
        have b2 : (k == 1) = true := beq_iff_eq.mpr h2
        clear A4 h2
        go_wp2_with fail
        go_at_call 76
        refine (pair_calls _ _ _ _ _).mono ?_
        rintro e3 w3 ⟨v3, rfl, hr3, hb3⟩
        have h3 := Fin.out _ _ #[] 0 _ _ BB2.out hr3 hb3
        have A5 := Aside0.mk h3
        clear h3 hr3 hb3
        go_wp2
        go_ret2
        exact ⟨_, rfl, A5.out.1, A5.out.2⟩
      · have b2 : (k == 1) = false := beq_eq_false_iff_ne.mpr h2
        have h := A4.out
        rw [if_neg h2] at h
        have A5 := Aside0.mk h
        clear h h2 A4
        by_cases h3 : a1_1 = 0
        · have h := A5.out
          rw [if_pos h3] at h
          simp only [Option.some.injEq, Prod.mk.injEq] at h
          obtain ⟨rfl, rfl⟩ := h
          have b3 : (a1_1 == 0) = true := beq_iff_eq.mpr h3
          clear A5 h3
          go_wp2_with fail
          go_at_call 76
          refine (pair_calls _ _ _ _ _).mono ?_
          rintro e3 w3 ⟨v3, rfl, hr3, hb3⟩
          have h3 := Fin.out _ _ #[] 0 _ _ BB2.out hr3 hb3
          have A5 := Aside0.mk h3
          clear h3 hr3 hb3
          go_wp2
          go_ret2
          exact ⟨_, rfl, A5.out.1, A5.out.2⟩
        · have b3 : (a1_1 == 0) = false := beq_eq_false_iff_ne.mpr h3
          have h := A5.out
          rw [if_neg h3] at h
          replace h := Option.bind_eq_some_iff.mp h
          obtain ⟨c, hc, h⟩ := h
          have A6 := Aside0.mk hc
          have A7 := Aside0.mk h
          clear h hc h3 A5
          go_wp2_with fail
          go_quiet (fail)
          go_wp2_with fail
          go_at_call 77
          refine (cover_node_toward.calls a1_0 a1_1 c _ A6.out).mono ?_
          rintro e3 w3 ⟨rfl, ⟨nd, rfl⟩⟩
          by_cases h4 : c = a1_1
          · have h := A7.out
            rw [if_pos h4] at h
            replace h := Option.bind_eq_some_iff.mp h
            obtain ⟨o, ho, h⟩ := h
            simp only [Option.some.injEq, Prod.mk.injEq] at h
            obtain ⟨rfl, rfl⟩ := h
            have A8 := Aside0.mk ho
            have b4 : (c == a1_1) = true := beq_iff_eq.mpr h4
            clear A7 h4 ho
            go_wp2_with fail
            go_at_call 78
            refine (cover_node_sibling.calls c o _ A8.out).mono ?_
            rintro e4 w4 ⟨rfl, ⟨nd2, rfl⟩⟩
            go_wp2_with fail
            go_at_call 76
            refine (pair_calls _ _ _ _ _).mono ?_
            rintro e5 w5 ⟨v3, rfl, hr3, hb3⟩
            have h3 := Fin.out w2 w5 #[] 0 _ _ BB2.out hr3 (below_undrew hb3)
            have A9 := Aside0.mk h3
            clear h3 hr3 hb3
            go_wp2
            go_ret2
            exact ⟨_, rfl, A9.out.1, A9.out.2⟩
          · have h := A7.out
            rw [if_neg h4] at h
            replace h := Option.bind_eq_some_iff.mp h
            obtain ⟨b, hb, h⟩ := h
            have A8 := Aside0.mk hb
            have A9 := Aside0.mk h
            have b4 : (c == a1_1) = false := beq_eq_false_iff_ne.mpr h4
            clear A7 h4 hb h
            go_wp2_with fail
            go_at_call 79
            refine (cover_tree_subset.calls 9 k d s c a1_1 b _ A8.out).mono ?_
            rintro e4 w4 ⟨rfl, hb4⟩
            replace hb4 := below_undrew hb4
            have BX4 := Aside0.mk (blk_to BX2.out hb4)
            have BT4 := Aside0.mk (blk_to BT2.out hb4)
            have BB4 := Aside0.mk (BB2.out.trans (hb4.mono BB2.out.size))
            clear hb4 cx0 cx1 ct0 ct1 ct2
            have ct0 : w4.cell? ⟨w1.heap.size, 0, none⟩ = some (.int .u8 k) := blk_c BT4.out 0 _ rfl
            have ct1 : w4.cell? ⟨w1.heap.size, 1, none⟩ = some (.int .i64 d) := blk_c BT4.out 1 _ rfl
            have ct2 : w4.cell? ⟨w1.heap.size, 2, none⟩ = some (.int .i64 s) := blk_c BT4.out 2 _ rfl
            have cx0 : w4.cell? ⟨w.heap.size + 1, 0, none⟩ = some (.int .i64 a1_0) := blk_c BX4.out 0 _ rfl
            have cx1 : w4.cell? ⟨w.heap.size + 1, 1, none⟩ = some (.int .i64 a1_1) := blk_c BX4.out 1 _ rfl
            cases b with
            | true =>
              have h := A9.out
              simp only [if_true, Option.some.injEq, Prod.mk.injEq] at h
              obtain ⟨rfl, rfl⟩ := h
              clear A9
              go_wp2_with fail
              go_at_call 76
              refine (pair_calls _ _ _ _ _).mono ?_
              rintro e5 w5 ⟨v3, rfl, hr3, hb3⟩
              have h3 := Fin.out w4 w5 #[] 0 _ _ BB4.out hr3 hb3
              have A9 := Aside0.mk h3
              clear h3 hr3 hb3
              go_wp2
              go_ret2
              exact ⟨_, rfl, A9.out.1, A9.out.2⟩
            | false =>
              have h := A9.out
              simp only [Bool.false_eq_true, if_false] at h
              replace h := Option.bind_eq_some_iff.mp h
              obtain ⟨c2, hc2, h⟩ := h
              simp only [Option.some.injEq, Prod.mk.injEq] at h
              obtain ⟨rfl, rfl⟩ := h
              have A10 := Aside0.mk hc2
              clear A9 hc2
              go_wp2_with fail
              go_at_call 80
              refine (cover_tree_cut.calls k d s a1_0 a1_1 c2 _ A10.out).mono ?_
              rintro e5 w5 ⟨rfl, hb5⟩
              have BX5 := Aside0.mk (blk_to BX4.out hb5)
              have BB5 := Aside0.mk (BB4.out.trans (hb5.mono BB4.out.size))
              clear hb5 cx0 cx1 ct0 ct1 ct2
              have cx0 : w5.cell? ⟨w.heap.size + 1, 0, none⟩ = some (.int .i64 a1_0) := blk_c BX5.out 0 _ rfl
              have cx1 : w5.cell? ⟨w.heap.size + 1, 1, none⟩ = some (.int .i64 a1_1) := blk_c BX5.out 1 _ rfl
              go_wp2_with fail
              go_at_call 76
              refine (pair_calls _ _ _ _ _).mono ?_
              rintro e6 w6 ⟨v3, rfl, hr3, hb3⟩
              have h3 := Fin.out w5 w6 #[] 0 _ _ BB5.out hr3 hb3
              have A9 := Aside0.mk h3
              clear h3 hr3 hb3
              go_wp2
              go_ret2
              exact ⟨_, rfl, A9.out.1, A9.out.2⟩
  · have h := A0.out
    rw [if_neg he] at h
    simp only [Option.some.injEq, Prod.mk.injEq] at h
    obtain ⟨rfl, rfl⟩ := h
    have b0 : (e != 0) = true := by simp [he]
    clear A0 he
    go_wp2
    go_ret2
    exact ⟨_, rfl, Kd.R_nil _ _ _ _ _, BB.out.alloc BB.out.size _⟩
end Go.Proofs.Ytafhimeoijmolaa.G

/- Written by wip/genprint.py: Lean functions with the Go functions' answers, and their contracts. -/
namespace Go.Proofs.Ytafhimeoijmolaa.G
open Go.RowKit Go.Proofs.YtafhimeoijmolaaW.PrintWords Go.Proofs.YtafhimeoijmolaaW.PrintLast Go.Proofs.YtafhimeoijmolaaW.PrintMore
attribute [local go_sem] max2_int min2_int max_two min_two max_three min_three max_four min_four   -- for this text's walks alone
set_option linter.unusedVariables false
set_option linter.unusedSimpArgs false

/-! ### headendlaw03_CoverSplits: function 4 -/
def headendlaw03_CoverSplits.f (k : Nat) (a0_0 : Int) (a0_1 : Int) (a0_2 : Int) (a0_3 : Int) (a0_4 : Int) (a0_5 : Int) (a1_0 : Int) (a1_1 : Int) : Option (Bool) := (cover_Split.f a0_0 a0_1 a0_2 a0_3 a0_4 a0_5 a1_0 a1_1).bind fun bt324 => ((headendref03_Split.f k a0_0 a0_1 a0_2 a0_3 a0_4 a0_5 a1_0 a1_1).bind fun bt328 => ((headendref03_SameSubsets.f k bt324.1 bt328.1).bind fun t332 => (if t332 = true then (some (bt324.2 == bt328.2)) else (some false))))
theorem headendlaw03_CoverSplits.mono : ∀ a0 a1 a2 a3 a4 a5 a6 a7 k, LeO (headendlaw03_CoverSplits.f k a0 a1 a2 a3 a4 a5 a6 a7) (headendlaw03_CoverSplits.f (k + 1) a0 a1 a2 a3 a4 a5 a6 a7) := by
  intro a0 a1 a2 a3 a4 a5 a6 a7 k
  unfold headendlaw03_CoverSplits.f
  repeat' first
      | (with_reducible exact headendref03_SameSubsets.mono _ _ _)
      | (with_reducible exact headendref03_Split.mono _ _ _ _ _ _ _ _ _)
      | (with_reducible exact LeO.refl _)
      | (with_reducible exact LeO.none _)
      | (with_reducible refine LeO.ite ?_ ?_)
      | (with_reducible refine LeO.bind ?_ (fun _ => ?_))
      | exact headendref03_SameSubsets.mono _ _ _
      | exact headendref03_Split.mono _ _ _ _ _ _ _ _ _
      | exact LeO.none _
      | refine LeO.ite ?_ ?_
      | refine LeO.bind ?_ (fun _ => ?_)
set_option maxHeartbeats 8000000 in
set_option maxRecDepth 100000 in
theorem headendlaw03_CoverSplits.calls (k : Nat) (a0_0 : Int) (a0_1 : Int) (a0_2 : Int) (a0_3 : Int) (a0_4 : Int) (a0_5 : Int) (a1_0 : Int) (a1_1 : Int) (r : Bool) (w : World) (h : headendlaw03_CoverSplits.f k a0_0 a0_1 a0_2 a0_3 a0_4 a0_5 a1_0 a1_1 = some r) :
    Calls Try.prog 4 #[.agg #[.int .u8 a0_0, .int .i64 a0_1, .int .i64 a0_2, .int .u64 a0_3, .int .u64 a0_4, .int .u64 a0_5], .agg #[.int .i64 a1_0, .int .i64 a1_1]] w fun e w' => e = .returned (.bool r) ∧ Below w.heap.size w w' := by
  have hu45 := Try.underlying45
  have hu47 := Try.underlying47
  have HB := Aside0.mk (Below.refl w.heap.size w)
  have H : ((cover_Split.f a0_0 a0_1 a0_2 a0_3 a0_4 a0_5 a1_0 a1_1).bind fun bt324 => ((headendref03_Split.f k a0_0 a0_1 a0_2 a0_3 a0_4 a0_5 a1_0 a1_1).bind fun bt328 => ((headendref03_SameSubsets.f k bt324.1 bt328.1).bind fun t332 => (if t332 = true then (some (bt324.2 == bt328.2)) else (some false))))) = some r := h
  clear h
  replace H := Option.bind_eq_some_iff.mp H
  obtain ⟨⟨t324, t327⟩, A30, H⟩ := H
  replace H : ((headendref03_Split.f k a0_0 a0_1 a0_2 a0_3 a0_4 a0_5 a1_0 a1_1).bind fun bt328 => ((headendref03_SameSubsets.f k t324 bt328.1).bind fun t332 => (if t332 = true then (some (t327 == bt328.2)) else (some false)))) = some r := H
  have A3 := Aside0.mk A30
  clear A30
  replace H := Option.bind_eq_some_iff.mp H
  obtain ⟨⟨t328, t331⟩, A40, H⟩ := H
  replace H : ((headendref03_SameSubsets.f k t324 t328).bind fun t332 => (if t332 = true then (some (t327 == t331)) else (some false))) = some r := H
  have A4 := Aside0.mk A40
  clear A40
  replace H := Option.bind_eq_some_iff.mp H
  obtain ⟨t332, A50, H⟩ := H
  replace H : (if t332 = true then (some (t327 == t331)) else (some false)) = some r := H
  have A5 := Aside0.mk A50
  clear A50
  by_cases c6 : t332 = true
  · subst c6
    have H1 : (some (t327 == t331)) = some r := by rw [if_pos rfl] at H; exact H
    clear H
    have H := H1
    clear H1
    obtain rfl := Option.some.inj H
    go_enter Try.func4, Try.ntmps4
    go_wp2_with (first | ((with_reducible refine gate_dst (N := 2) rfl ?_); refine box_event ?hg (N := 2) ?hd (cs := #[.int .u8 a0_0, .int .i64 a0_1, .int .i64 a0_2, .int .u64 a0_3, .int .u64 a0_4, .int .u64 a0_5]) (t := 45) ?hr ?_; (case hd => rfl); (case hg => rfl); (case hr => first | (go_simp; done) | (go_simp; rfl)); intro gb322 hg w7 hbox hb; have n0_ := Aside0.mk (below_step (by repeat (first | (with_reducible first | exact HB.out | apply below_alloc | apply pw_below_drewN | apply below_drew1) | exact HB.out)) hb); have n1_ := Aside0.mk (hbox); have n2_ := Aside0.mk ((by rw [hg]; exact (below_size (by repeat (first | (with_reducible first | exact HB.out | apply below_alloc | apply pw_below_drewN | apply below_drew1) | exact HB.out))) : w.heap.size ≤ gb322)); have n3_ := Aside0.mk ((by rw [hg]; exact (below_size (by repeat (first | (with_reducible first | exact HB.out | apply below_alloc | apply pw_below_drewN | apply below_drew1) | exact HB.out))) : w.heap.size ≤ gb322)); clear HB; have HB := n0_; have BK322 := n1_; have GW322 := n2_; have GE322 := n3_; clear n0_ n1_ n2_ n3_; clear hb hbox hg) | ((with_reducible refine gate_dst (N := 3) rfl ?_); refine box_event ?hg (N := 3) ?hd (cs := #[.int .i64 a1_0, .int .i64 a1_1]) (t := 47) ?hr ?_; (case hd => rfl); (case hg => rfl); (case hr => first | (go_simp; done) | (go_simp; rfl)); intro gb323 hg w8 hbox hb; have n0_ := Aside0.mk (blk_below (g := gb322) (o := .cells #[.int .u8 a0_0, .int .i64 a0_1, .int .i64 a0_2, .int .u64 a0_3, .int .u64 a0_4, .int .u64 a0_5] 45 (0, 0)) (by (with_reducible repeat (first | refine blk_drewN ?_ _ | refine blk_drew ?_ | refine blk_alloc ?_ _)); exact BK322.out) hb); have n1_ := Aside0.mk (below_step (by repeat (first | (with_reducible first | exact HB.out | apply below_alloc | apply pw_below_drewN | apply below_drew1 | refine below_set ?_ GE322.out) | exact HB.out)) hb); have n2_ := Aside0.mk (hbox); have n3_ := Aside0.mk ((by rw [hg]; exact (below_size (by repeat (first | (with_reducible first | exact HB.out | apply below_alloc | apply pw_below_drewN | apply below_drew1 | refine below_set ?_ GE322.out) | exact HB.out))) : w.heap.size ≤ gb323)); have n4_ := Aside0.mk ((by rw [hg]; exact (below_size (by repeat (first | (with_reducible first | exact HB.out | apply below_alloc | apply pw_below_drewN | apply below_drew1 | refine below_set ?_ GE322.out) | exact HB.out))) : w.heap.size ≤ gb323)); have n5_ := Aside0.mk ((by rw [hg]; exact Nat.ne_of_lt (blk_lt (g := gb322) (o := .cells #[.int .u8 a0_0, .int .i64 a0_1, .int .i64 a0_2, .int .u64 a0_3, .int .u64 a0_4, .int .u64 a0_5] 45 (0, 0)) (by (with_reducible repeat (first | refine blk_drewN ?_ _ | refine blk_drew ?_ | refine blk_alloc ?_ _)); exact BK322.out)) : gb322 ≠ gb323)); have n6_ := Aside0.mk ((by rw [hg]; exact Nat.ne_of_gt (blk_lt (g := gb322) (o := .cells #[.int .u8 a0_0, .int .i64 a0_1, .int .i64 a0_2, .int .u64 a0_3, .int .u64 a0_4, .int .u64 a0_5] 45 (0, 0)) (by (with_reducible repeat (first | refine blk_drewN ?_ _ | refine blk_drew ?_ | refine blk_alloc ?_ _)); exact BK322.out)) : gb323 ≠ gb322)); clear BK322; clear HB; have BK322 := n0_; have HB := n1_; have BK323 := n2_; have GW323 := n3_; have GE323 := n4_; have NB322_323 := n5_; have NB323_322 := n6_; clear n0_ n1_ n2_ n3_ n4_ n5_ n6_; clear hb hbox hg; have hnb9 := NB322_323.out; have hnc9 := NB323_322.out; have hcz10_0 : w8.cell? ⟨gb322, 0, none⟩ = some (.int .u8 a0_0) := (blk_cell BK322.out 0).trans rfl; have hcz10_1 : w8.cell? ⟨gb322, 1, none⟩ = some (.int .i64 a0_1) := (blk_cell BK322.out 1).trans rfl; have hcz10_2 : w8.cell? ⟨gb322, 2, none⟩ = some (.int .i64 a0_2) := (blk_cell BK322.out 2).trans rfl; have hcz10_3 : w8.cell? ⟨gb322, 3, none⟩ = some (.int .u64 a0_3) := (blk_cell BK322.out 3).trans rfl; have hcz10_4 : w8.cell? ⟨gb322, 4, none⟩ = some (.int .u64 a0_4) := (blk_cell BK322.out 4).trans rfl; have hcz10_5 : w8.cell? ⟨gb322, 5, none⟩ = some (.int .u64 a0_5) := (blk_cell BK322.out 5).trans rfl; have hfz10_0 := blk_frozen BK322.out 0; have hfz10_1 := blk_frozen BK322.out 1; have hfz10_2 := blk_frozen BK322.out 2; have hfz10_3 := blk_frozen BK322.out 3; have hfz10_4 := blk_frozen BK322.out 4; have hfz10_5 := blk_frozen BK322.out 5; have hcz11_0 : w8.cell? ⟨gb323, 0, none⟩ = some (.int .i64 a1_0) := (blk_cell BK323.out 0).trans rfl; have hcz11_1 : w8.cell? ⟨gb323, 1, none⟩ = some (.int .i64 a1_1) := (blk_cell BK323.out 1).trans rfl; have hfz11_0 := blk_frozen BK323.out 0; have hfz11_1 := blk_frozen BK323.out 1) | ((with_reducible refine gate_callee (f := 28) rfl ?_); refine goesL_ (some 12) rfl rfl Try.func28 (by kernel_rfl) rfl #[.agg #[.int .u8 a0_0, .int .i64 a0_1, .int .i64 a0_2, .int .u64 a0_3, .int .u64 a0_4, .int .u64 a0_5], .agg #[.int .i64 a1_0, .int .i64 a1_1]] rfl (by (try simp only [List.map_toArray, List.map_cons, List.map_nil]); first | done | rfl | (simp only [List.length_drop, List.length_take]; rfl)) ?_; (with_reducible refine (cover_Split.calls a0_0 a0_1 a0_2 a0_3 a0_4 a0_5 a1_0 a1_1 t324 t327 _ A3.out).mono ?_); rintro e w12 ⟨v325, rfl, ho0, hb⟩; refine ⟨_, rfl, ?_⟩; have n0_ := Aside0.mk (Kd.R_lower (Kd.R_newB ho0 (g := gb323) (o := .cells #[.int .i64 a1_0, .int .i64 a1_1] 47 (0, 0)) (by (with_reducible repeat (first | refine blk_drewN ?_ _ | refine blk_drew ?_ | refine blk_alloc ?_ _)); exact BK323.out)) (below_size (by repeat (first | (with_reducible first | exact HB.out | apply below_alloc | apply pw_below_drewN | apply below_drew1 | refine below_set ?_ GE322.out | refine below_set ?_ GE323.out) | exact HB.out)))); have n1_ := Aside0.mk (blk_below (g := gb322) (o := .cells #[.int .u8 a0_0, .int .i64 a0_1, .int .i64 a0_2, .int .u64 a0_3, .int .u64 a0_4, .int .u64 a0_5] 45 (0, 0)) (by (with_reducible repeat (first | refine blk_drewN ?_ _ | refine blk_drew ?_ | refine blk_alloc ?_ _)); exact BK322.out) hb); have n2_ := Aside0.mk (blk_below (g := gb323) (o := .cells #[.int .i64 a1_0, .int .i64 a1_1] 47 (0, 0)) (by (with_reducible repeat (first | refine blk_drewN ?_ _ | refine blk_drew ?_ | refine blk_alloc ?_ _)); exact BK323.out) hb); have n3_ := Aside0.mk (below_step (by repeat (first | (with_reducible first | exact HB.out | apply below_alloc | apply pw_below_drewN | apply below_drew1 | refine below_set ?_ GE322.out | refine below_set ?_ GE323.out) | exact HB.out)) hb); clear BK322; clear BK323; clear HB; have HO326 := n0_; have BK322 := n1_; have BK323 := n2_; have HB := n3_; clear n0_ n1_ n2_ n3_; (try clear hb); (try clear hb2); (try clear hk); (try clear hi); (try clear ho0); have hcz13_0 : w12.cell? ⟨gb322, 0, none⟩ = some (.int .u8 a0_0) := (blk_cell BK322.out 0).trans rfl; have hcz13_1 : w12.cell? ⟨gb322, 1, none⟩ = some (.int .i64 a0_1) := (blk_cell BK322.out 1).trans rfl; have hcz13_2 : w12.cell? ⟨gb322, 2, none⟩ = some (.int .i64 a0_2) := (blk_cell BK322.out 2).trans rfl; have hcz13_3 : w12.cell? ⟨gb322, 3, none⟩ = some (.int .u64 a0_3) := (blk_cell BK322.out 3).trans rfl; have hcz13_4 : w12.cell? ⟨gb322, 4, none⟩ = some (.int .u64 a0_4) := (blk_cell BK322.out 4).trans rfl; have hcz13_5 : w12.cell? ⟨gb322, 5, none⟩ = some (.int .u64 a0_5) := (blk_cell BK322.out 5).trans rfl; have hfz13_0 := blk_frozen BK322.out 0; have hfz13_1 := blk_frozen BK322.out 1; have hfz13_2 := blk_frozen BK322.out 2; have hfz13_3 := blk_frozen BK322.out 3; have hfz13_4 := blk_frozen BK322.out 4; have hfz13_5 := blk_frozen BK322.out 5; have hcz14_0 : w12.cell? ⟨gb323, 0, none⟩ = some (.int .i64 a1_0) := (blk_cell BK323.out 0).trans rfl; have hcz14_1 : w12.cell? ⟨gb323, 1, none⟩ = some (.int .i64 a1_1) := (blk_cell BK323.out 1).trans rfl; have hfz14_0 := blk_frozen BK323.out 0; have hfz14_1 := blk_frozen BK323.out 1) | ((with_reducible refine gate_callee (f := 29) rfl ?_); refine goesL_ (some 18) rfl rfl Try.func29 (by kernel_rfl) rfl #[.agg #[.int .u8 a0_0, .int .i64 a0_1, .int .i64 a0_2, .int .u64 a0_3, .int .u64 a0_4, .int .u64 a0_5], .agg #[.int .i64 a1_0, .int .i64 a1_1]] rfl (by (try simp only [List.map_toArray, List.map_cons, List.map_nil]); first | done | rfl | (simp only [List.length_drop, List.length_take]; rfl)) ?_; (with_reducible refine (headendref03_Split.calls k a0_0 a0_1 a0_2 a0_3 a0_4 a0_5 a1_0 a1_1 t328 t331 _ A4.out).mono ?_); rintro e w15 ⟨v329, rfl, ho0, hb⟩; refine ⟨_, rfl, ?_⟩; have n0_ := Aside0.mk (Kd.R_elder' (by (with_reducible repeat (first | apply Kd.R_alloc | apply Kd.R_drewN | apply Kd.R_drew)); exact HO326.out) (Kd.R_base ho0) hb); have n1_ := Aside0.mk (Kd.R_lower (Kd.R_newB (Kd.R_new' ho0 (Kd.R_lt (by (with_reducible repeat (first | apply Kd.R_alloc | apply Kd.R_drewN | apply Kd.R_drew)); exact HO326.out))) (g := gb323) (o := .cells #[.int .i64 a1_0, .int .i64 a1_1] 47 (0, 0)) (by (with_reducible repeat (first | refine blk_drewN ?_ _ | refine blk_drew ?_ | refine blk_alloc ?_ _)); exact BK323.out)) (below_size (by repeat (first | (with_reducible first | exact HB.out | apply below_alloc | apply pw_below_drewN | apply below_drew1 | refine below_set ?_ GE322.out | refine below_set ?_ GE323.out) | exact HB.out)))); have n2_ := Aside0.mk (blk_below (g := gb322) (o := .cells #[.int .u8 a0_0, .int .i64 a0_1, .int .i64 a0_2, .int .u64 a0_3, .int .u64 a0_4, .int .u64 a0_5] 45 (0, 0)) (by (with_reducible repeat (first | refine blk_drewN ?_ _ | refine blk_drew ?_ | refine blk_alloc ?_ _)); exact BK322.out) hb); have n3_ := Aside0.mk (blk_below (g := gb323) (o := .cells #[.int .i64 a1_0, .int .i64 a1_1] 47 (0, 0)) (by (with_reducible repeat (first | refine blk_drewN ?_ _ | refine blk_drew ?_ | refine blk_alloc ?_ _)); exact BK323.out) hb); have n4_ := Aside0.mk (below_step (by repeat (first | (with_reducible first | exact HB.out | apply below_alloc | apply pw_below_drewN | apply below_drew1 | refine below_set ?_ GE322.out | refine below_set ?_ GE323.out) | exact HB.out)) hb); clear HO326; clear BK322; clear BK323; clear HB; have HO326 := n0_; have HO330 := n1_; have BK322 := n2_; have BK323 := n3_; have HB := n4_; clear n0_ n1_ n2_ n3_ n4_; (try clear hb); (try clear hb2); (try clear hk); (try clear hi); (try clear ho0); obtain ⟨Ao16, co16, eo16⟩ := Kd.R_slice HO326.out; subst eo16; obtain ⟨Ao17, co17, eo17⟩ := Kd.R_slice HO330.out; subst eo17) | ((with_reducible refine gate_callee (f := 30) rfl ?_); refine goesL_ (some 23) rfl rfl Try.func30 (by kernel_rfl) rfl #[.slice Ao16 t324.length co16, .slice Ao17 t328.length co17] rfl (by (try simp only [List.map_toArray, List.map_cons, List.map_nil]); first | done | rfl | (simp only [List.length_drop, List.length_take]; rfl)) ?_; (with_reducible refine (headendref03_SameSubsets.calls k _ _ t324 _ _ t328 true _ ?side1 ?side2 ?side3 ?side4 A5.out).mono ?_); (case side1 => repeat (first | exact (Kd.R_reads' HO326.out).2.2 | (with_reducible refine Kd.C_alloc ?_ _) | (with_reducible refine Kd.C_drewN ?_ _) | (with_reducible refine Kd.C_drew ?_))); (case side2 => exact (Kd.R_reads' HO326.out).2.1); (case side3 => repeat (first | exact (Kd.R_reads' HO330.out).2.2 | (with_reducible refine Kd.C_alloc ?_ _) | (with_reducible refine Kd.C_drewN ?_ _) | (with_reducible refine Kd.C_drew ?_))); (case side4 => exact (Kd.R_reads' HO330.out).2.1); rintro e w' ⟨rfl, ⟨nd, rfl⟩⟩; refine ⟨_, rfl, ?_⟩))
    go_ret
    exact ⟨by first | rfl | (simp [errW_none, errW_some] <;> rfl) | (simp [*, errW_none, errW_some] <;> rfl), by repeat (first | (with_reducible first | exact HB.out | apply below_alloc | apply pw_below_drewN | apply below_drew1 | refine below_set ?_ GE322.out | refine below_set ?_ GE323.out) | exact HB.out)⟩
  · replace c6 := Bool.eq_false_iff.mpr c6
    subst c6
    have H1 : (some false) = some r := by rw [if_neg (show ¬ (false = true) by decide)] at H; exact H
    clear H
    have H := H1
    clear H1
    obtain rfl := Option.some.inj H
    go_enter Try.func4, Try.ntmps4
    go_wp2_with (first | ((with_reducible refine gate_dst (N := 2) rfl ?_); refine box_event ?hg (N := 2) ?hd (cs := #[.int .u8 a0_0, .int .i64 a0_1, .int .i64 a0_2, .int .u64 a0_3, .int .u64 a0_4, .int .u64 a0_5]) (t := 45) ?hr ?_; (case hd => rfl); (case hg => rfl); (case hr => first | (go_simp; done) | (go_simp; rfl)); intro gb322 hg w18 hbox hb; have n0_ := Aside0.mk (below_step (by repeat (first | (with_reducible first | exact HB.out | apply below_alloc | apply pw_below_drewN | apply below_drew1) | exact HB.out)) hb); have n1_ := Aside0.mk (hbox); have n2_ := Aside0.mk ((by rw [hg]; exact (below_size (by repeat (first | (with_reducible first | exact HB.out | apply below_alloc | apply pw_below_drewN | apply below_drew1) | exact HB.out))) : w.heap.size ≤ gb322)); have n3_ := Aside0.mk ((by rw [hg]; exact (below_size (by repeat (first | (with_reducible first | exact HB.out | apply below_alloc | apply pw_below_drewN | apply below_drew1) | exact HB.out))) : w.heap.size ≤ gb322)); clear HB; have HB := n0_; have BK322 := n1_; have GW322 := n2_; have GE322 := n3_; clear n0_ n1_ n2_ n3_; clear hb hbox hg) | ((with_reducible refine gate_dst (N := 3) rfl ?_); refine box_event ?hg (N := 3) ?hd (cs := #[.int .i64 a1_0, .int .i64 a1_1]) (t := 47) ?hr ?_; (case hd => rfl); (case hg => rfl); (case hr => first | (go_simp; done) | (go_simp; rfl)); intro gb323 hg w19 hbox hb; have n0_ := Aside0.mk (blk_below (g := gb322) (o := .cells #[.int .u8 a0_0, .int .i64 a0_1, .int .i64 a0_2, .int .u64 a0_3, .int .u64 a0_4, .int .u64 a0_5] 45 (0, 0)) (by (with_reducible repeat (first | refine blk_drewN ?_ _ | refine blk_drew ?_ | refine blk_alloc ?_ _)); exact BK322.out) hb); have n1_ := Aside0.mk (below_step (by repeat (first | (with_reducible first | exact HB.out | apply below_alloc | apply pw_below_drewN | apply below_drew1 | refine below_set ?_ GE322.out) | exact HB.out)) hb); have n2_ := Aside0.mk (hbox); have n3_ := Aside0.mk ((by rw [hg]; exact (below_size (by repeat (first | (with_reducible first | exact HB.out | apply below_alloc | apply pw_below_drewN | apply below_drew1 | refine below_set ?_ GE322.out) | exact HB.out))) : w.heap.size ≤ gb323)); have n4_ := Aside0.mk ((by rw [hg]; exact (below_size (by repeat (first | (with_reducible first | exact HB.out | apply below_alloc | apply pw_below_drewN | apply below_drew1 | refine below_set ?_ GE322.out) | exact HB.out))) : w.heap.size ≤ gb323)); have n5_ := Aside0.mk ((by rw [hg]; exact Nat.ne_of_lt (blk_lt (g := gb322) (o := .cells #[.int .u8 a0_0, .int .i64 a0_1, .int .i64 a0_2, .int .u64 a0_3, .int .u64 a0_4, .int .u64 a0_5] 45 (0, 0)) (by (with_reducible repeat (first | refine blk_drewN ?_ _ | refine blk_drew ?_ | refine blk_alloc ?_ _)); exact BK322.out)) : gb322 ≠ gb323)); have n6_ := Aside0.mk ((by rw [hg]; exact Nat.ne_of_gt (blk_lt (g := gb322) (o := .cells #[.int .u8 a0_0, .int .i64 a0_1, .int .i64 a0_2, .int .u64 a0_3, .int .u64 a0_4, .int .u64 a0_5] 45 (0, 0)) (by (with_reducible repeat (first | refine blk_drewN ?_ _ | refine blk_drew ?_ | refine blk_alloc ?_ _)); exact BK322.out)) : gb323 ≠ gb322)); clear BK322; clear HB; have BK322 := n0_; have HB := n1_; have BK323 := n2_; have GW323 := n3_; have GE323 := n4_; have NB322_323 := n5_; have NB323_322 := n6_; clear n0_ n1_ n2_ n3_ n4_ n5_ n6_; clear hb hbox hg; have hnb20 := NB322_323.out; have hnc20 := NB323_322.out; have hcz21_0 : w19.cell? ⟨gb322, 0, none⟩ = some (.int .u8 a0_0) := (blk_cell BK322.out 0).trans rfl; have hcz21_1 : w19.cell? ⟨gb322, 1, none⟩ = some (.int .i64 a0_1) := (blk_cell BK322.out 1).trans rfl; have hcz21_2 : w19.cell? ⟨gb322, 2, none⟩ = some (.int .i64 a0_2) := (blk_cell BK322.out 2).trans rfl; have hcz21_3 : w19.cell? ⟨gb322, 3, none⟩ = some (.int .u64 a0_3) := (blk_cell BK322.out 3).trans rfl; have hcz21_4 : w19.cell? ⟨gb322, 4, none⟩ = some (.int .u64 a0_4) := (blk_cell BK322.out 4).trans rfl; have hcz21_5 : w19.cell? ⟨gb322, 5, none⟩ = some (.int .u64 a0_5) := (blk_cell BK322.out 5).trans rfl; have hfz21_0 := blk_frozen BK322.out 0; have hfz21_1 := blk_frozen BK322.out 1; have hfz21_2 := blk_frozen BK322.out 2; have hfz21_3 := blk_frozen BK322.out 3; have hfz21_4 := blk_frozen BK322.out 4; have hfz21_5 := blk_frozen BK322.out 5; have hcz22_0 : w19.cell? ⟨gb323, 0, none⟩ = some (.int .i64 a1_0) := (blk_cell BK323.out 0).trans rfl; have hcz22_1 : w19.cell? ⟨gb323, 1, none⟩ = some (.int .i64 a1_1) := (blk_cell BK323.out 1).trans rfl; have hfz22_0 := blk_frozen BK323.out 0; have hfz22_1 := blk_frozen BK323.out 1) | ((with_reducible refine gate_callee (f := 28) rfl ?_); refine goesL_ (some 12) rfl rfl Try.func28 (by kernel_rfl) rfl #[.agg #[.int .u8 a0_0, .int .i64 a0_1, .int .i64 a0_2, .int .u64 a0_3, .int .u64 a0_4, .int .u64 a0_5], .agg #[.int .i64 a1_0, .int .i64 a1_1]] rfl (by (try simp only [List.map_toArray, List.map_cons, List.map_nil]); first | done | rfl | (simp only [List.length_drop, List.length_take]; rfl)) ?_; (with_reducible refine (cover_Split.calls a0_0 a0_1 a0_2 a0_3 a0_4 a0_5 a1_0 a1_1 t324 t327 _ A3.out).mono ?_); rintro e w23 ⟨v325, rfl, ho0, hb⟩; refine ⟨_, rfl, ?_⟩; have n0_ := Aside0.mk (Kd.R_lower (Kd.R_newB ho0 (g := gb323) (o := .cells #[.int .i64 a1_0, .int .i64 a1_1] 47 (0, 0)) (by (with_reducible repeat (first | refine blk_drewN ?_ _ | refine blk_drew ?_ | refine blk_alloc ?_ _)); exact BK323.out)) (below_size (by repeat (first | (with_reducible first | exact HB.out | apply below_alloc | apply pw_below_drewN | apply below_drew1 | refine below_set ?_ GE322.out | refine below_set ?_ GE323.out) | exact HB.out)))); have n1_ := Aside0.mk (blk_below (g := gb322) (o := .cells #[.int .u8 a0_0, .int .i64 a0_1, .int .i64 a0_2, .int .u64 a0_3, .int .u64 a0_4, .int .u64 a0_5] 45 (0, 0)) (by (with_reducible repeat (first | refine blk_drewN ?_ _ | refine blk_drew ?_ | refine blk_alloc ?_ _)); exact BK322.out) hb); have n2_ := Aside0.mk (blk_below (g := gb323) (o := .cells #[.int .i64 a1_0, .int .i64 a1_1] 47 (0, 0)) (by (with_reducible repeat (first | refine blk_drewN ?_ _ | refine blk_drew ?_ | refine blk_alloc ?_ _)); exact BK323.out) hb); have n3_ := Aside0.mk (below_step (by repeat (first | (with_reducible first | exact HB.out | apply below_alloc | apply pw_below_drewN | apply below_drew1 | refine below_set ?_ GE322.out | refine below_set ?_ GE323.out) | exact HB.out)) hb); clear BK322; clear BK323; clear HB; have HO326 := n0_; have BK322 := n1_; have BK323 := n2_; have HB := n3_; clear n0_ n1_ n2_ n3_; (try clear hb); (try clear hb2); (try clear hk); (try clear hi); (try clear ho0); have hcz24_0 : w23.cell? ⟨gb322, 0, none⟩ = some (.int .u8 a0_0) := (blk_cell BK322.out 0).trans rfl; have hcz24_1 : w23.cell? ⟨gb322, 1, none⟩ = some (.int .i64 a0_1) := (blk_cell BK322.out 1).trans rfl; have hcz24_2 : w23.cell? ⟨gb322, 2, none⟩ = some (.int .i64 a0_2) := (blk_cell BK322.out 2).trans rfl; have hcz24_3 : w23.cell? ⟨gb322, 3, none⟩ = some (.int .u64 a0_3) := (blk_cell BK322.out 3).trans rfl; have hcz24_4 : w23.cell? ⟨gb322, 4, none⟩ = some (.int .u64 a0_4) := (blk_cell BK322.out 4).trans rfl; have hcz24_5 : w23.cell? ⟨gb322, 5, none⟩ = some (.int .u64 a0_5) := (blk_cell BK322.out 5).trans rfl; have hfz24_0 := blk_frozen BK322.out 0; have hfz24_1 := blk_frozen BK322.out 1; have hfz24_2 := blk_frozen BK322.out 2; have hfz24_3 := blk_frozen BK322.out 3; have hfz24_4 := blk_frozen BK322.out 4; have hfz24_5 := blk_frozen BK322.out 5; have hcz25_0 : w23.cell? ⟨gb323, 0, none⟩ = some (.int .i64 a1_0) := (blk_cell BK323.out 0).trans rfl; have hcz25_1 : w23.cell? ⟨gb323, 1, none⟩ = some (.int .i64 a1_1) := (blk_cell BK323.out 1).trans rfl; have hfz25_0 := blk_frozen BK323.out 0; have hfz25_1 := blk_frozen BK323.out 1) | ((with_reducible refine gate_callee (f := 29) rfl ?_); refine goesL_ (some 18) rfl rfl Try.func29 (by kernel_rfl) rfl #[.agg #[.int .u8 a0_0, .int .i64 a0_1, .int .i64 a0_2, .int .u64 a0_3, .int .u64 a0_4, .int .u64 a0_5], .agg #[.int .i64 a1_0, .int .i64 a1_1]] rfl (by (try simp only [List.map_toArray, List.map_cons, List.map_nil]); first | done | rfl | (simp only [List.length_drop, List.length_take]; rfl)) ?_; (with_reducible refine (headendref03_Split.calls k a0_0 a0_1 a0_2 a0_3 a0_4 a0_5 a1_0 a1_1 t328 t331 _ A4.out).mono ?_); rintro e w26 ⟨v329, rfl, ho0, hb⟩; refine ⟨_, rfl, ?_⟩; have n0_ := Aside0.mk (Kd.R_elder' (by (with_reducible repeat (first | apply Kd.R_alloc | apply Kd.R_drewN | apply Kd.R_drew)); exact HO326.out) (Kd.R_base ho0) hb); have n1_ := Aside0.mk (Kd.R_lower (Kd.R_newB (Kd.R_new' ho0 (Kd.R_lt (by (with_reducible repeat (first | apply Kd.R_alloc | apply Kd.R_drewN | apply Kd.R_drew)); exact HO326.out))) (g := gb323) (o := .cells #[.int .i64 a1_0, .int .i64 a1_1] 47 (0, 0)) (by (with_reducible repeat (first | refine blk_drewN ?_ _ | refine blk_drew ?_ | refine blk_alloc ?_ _)); exact BK323.out)) (below_size (by repeat (first | (with_reducible first | exact HB.out | apply below_alloc | apply pw_below_drewN | apply below_drew1 | refine below_set ?_ GE322.out | refine below_set ?_ GE323.out) | exact HB.out)))); have n2_ := Aside0.mk (blk_below (g := gb322) (o := .cells #[.int .u8 a0_0, .int .i64 a0_1, .int .i64 a0_2, .int .u64 a0_3, .int .u64 a0_4, .int .u64 a0_5] 45 (0, 0)) (by (with_reducible repeat (first | refine blk_drewN ?_ _ | refine blk_drew ?_ | refine blk_alloc ?_ _)); exact BK322.out) hb); have n3_ := Aside0.mk (blk_below (g := gb323) (o := .cells #[.int .i64 a1_0, .int .i64 a1_1] 47 (0, 0)) (by (with_reducible repeat (first | refine blk_drewN ?_ _ | refine blk_drew ?_ | refine blk_alloc ?_ _)); exact BK323.out) hb); have n4_ := Aside0.mk (below_step (by repeat (first | (with_reducible first | exact HB.out | apply below_alloc | apply pw_below_drewN | apply below_drew1 | refine below_set ?_ GE322.out | refine below_set ?_ GE323.out) | exact HB.out)) hb); clear HO326; clear BK322; clear BK323; clear HB; have HO326 := n0_; have HO330 := n1_; have BK322 := n2_; have BK323 := n3_; have HB := n4_; clear n0_ n1_ n2_ n3_ n4_; (try clear hb); (try clear hb2); (try clear hk); (try clear hi); (try clear ho0); obtain ⟨Ao27, co27, eo27⟩ := Kd.R_slice HO326.out; subst eo27; obtain ⟨Ao28, co28, eo28⟩ := Kd.R_slice HO330.out; subst eo28) | ((with_reducible refine gate_callee (f := 30) rfl ?_); refine goesL_ (some 23) rfl rfl Try.func30 (by kernel_rfl) rfl #[.slice Ao27 t324.length co27, .slice Ao28 t328.length co28] rfl (by (try simp only [List.map_toArray, List.map_cons, List.map_nil]); first | done | rfl | (simp only [List.length_drop, List.length_take]; rfl)) ?_; (with_reducible refine (headendref03_SameSubsets.calls k _ _ t324 _ _ t328 false _ ?side1 ?side2 ?side3 ?side4 A5.out).mono ?_); (case side1 => repeat (first | exact (Kd.R_reads' HO326.out).2.2 | (with_reducible refine Kd.C_alloc ?_ _) | (with_reducible refine Kd.C_drewN ?_ _) | (with_reducible refine Kd.C_drew ?_))); (case side2 => exact (Kd.R_reads' HO326.out).2.1); (case side3 => repeat (first | exact (Kd.R_reads' HO330.out).2.2 | (with_reducible refine Kd.C_alloc ?_ _) | (with_reducible refine Kd.C_drewN ?_ _) | (with_reducible refine Kd.C_drew ?_))); (case side4 => exact (Kd.R_reads' HO330.out).2.1); rintro e w' ⟨rfl, ⟨nd, rfl⟩⟩; refine ⟨_, rfl, ?_⟩))
    go_ret
    exact ⟨by first | rfl | (simp [errW_none, errW_some] <;> rfl) | (simp [*, errW_none, errW_some] <;> rfl), by repeat (first | (with_reducible first | exact HB.out | apply below_alloc | apply pw_below_drewN | apply below_drew1 | refine below_set ?_ GE322.out | refine below_set ?_ GE323.out) | exact HB.out)⟩

end Go.Proofs.Ytafhimeoijmolaa.G

/- The plain laws of CoverSchemes and CoverSplits: what the program computes is what the specification computes. -/
namespace Go.Proofs.Ytafhimeoijmolaa.G
open Go.RowKit Go.Proofs.YtafhimeoijmolaaW.PrintWords Go.Proofs.YtafhimeoijmolaaW.PrintLast Go.Proofs.YtafhimeoijmolaaW.PrintMore
set_option linter.unusedVariables false
set_option linter.unusedSimpArgs false
theorem sameSubsets_loop (l : List S47) (hl : l.length < 1000000) : ∀ (n u k : Nat), u + n = l.length → n < k → headendref03_SameSubsets.l0 k l l (u : Int) = some true
  | 0, u, k, hu, hk => by
    obtain ⟨k, rfl⟩ : ∃ m, k = m + 1 := ⟨k - 1, by omega⟩
    simp only [headendref03_SameSubsets.l0]
    rw [if_neg (by omega)]
  | n + 1, u, k, hu, hk => by
    obtain ⟨k, rfl⟩ : ∃ m, k = m + 1 := ⟨k - 1, by omega⟩
    have hw1 : wrap64 ((u : Int) + 1) = ((u + 1 : Nat) : Int) := by unfold wrap64; omega
    simp only [headendref03_SameSubsets.l0]
    rw [if_pos (by omega), if_pos (by omega), if_pos (by omega)]
    simp only [beq_self_eq_true, Bool.not_true, Bool.or_self, Bool.false_eq_true, if_false]
    rw [hw1]
    exact sameSubsets_loop l hl n (u + 1) k (by omega) (by omega)
theorem sameSubsets_refl (l : List S47) (hl : l.length < 1000000) {k : Nat} (hk : l.length < k) : headendref03_SameSubsets.f k l l = some true := by
  unfold headendref03_SameSubsets.f
  rw [if_pos rfl]
  exact sameSubsets_loop l hl l.length 0 k (by omega) hk
/-- The program's Split at a valid scheme and a subset of it: one member, or the two subsets. -/
def splitN (a d v w : Nat) : List S47 × Int :=
  if (membersN d v w).length = 1 then ([], 6) else
  if a = 1 then ([⟨2 * v, 0⟩, ⟨2 * v + 1, 0⟩], 0) else
  if w = 0 then ([⟨1, 2⟩, ⟨1, 3⟩], 0) else
  let c := w >>> (Nat.log2 w - Nat.log2 v - 1)
  if c = w then ([⟨(c ^^^ 1 : Nat), 2 * (c ^^^ 1 : Nat)⟩, ⟨(c ^^^ 1 : Nat), 2 * (c ^^^ 1 : Nat) + 1⟩], 0) else
  let c2 := if subI a d c w then c else cutN (strd d) v w
  ([⟨v, c2⟩, ⟨c2, w⟩], 0)
theorem toward_facts : all2 128 128 (fun v w => !(blw w v && !Nat.beq w v) || (blw w (w >>> (Nat.log2 w - Nat.log2 v - 1)) && (Nat.ble 1 (w >>> (Nat.log2 w - Nat.log2 v - 1)) && (Nat.ble (w >>> (Nat.log2 w - Nat.log2 v - 1)) w && (Nat.beq ((nodesTo v w).headD 0) (w >>> (Nat.log2 w - Nat.log2 v - 1)) && Nat.ble 1 (nodesTo v w).length))))) = true := by kernel_rfl
theorem toward_props {v w : Nat} (hv : v < 128) (hw : w < 128) (hb : blw w v = true) (hne : w ≠ v) : blw w (w >>> (Nat.log2 w - Nat.log2 v - 1)) = true ∧ 1 ≤ w >>> (Nat.log2 w - Nat.log2 v - 1) ∧ w >>> (Nat.log2 w - Nat.log2 v - 1) ≤ w ∧
    ∃ r, nodesTo v w = (w >>> (Nat.log2 w - Nat.log2 v - 1)) :: r := by
  have h := all2_at toward_facts hv hw
  rw [hb, beq_ne hne] at h
  simp only [Bool.not_false, Bool.and_true, Bool.not_true, Bool.false_or, Bool.and_eq_true, Nat.ble_eq] at h
  obtain ⟨h1, h2, h3, h4, h5⟩ := h
  refine ⟨h1, h2, h3, ?_⟩
  cases e : nodesTo v w with
  | nil => rw [e] at h5; simp at h5
  | cons x r =>
    rw [e] at h4
    have := Nat.eq_of_beq_eq_true h4
    exact ⟨r, by rw [← this]; rfl⟩
theorem xor_lt (v : Nat) (h : v < 128) : v ^^^ 1 < 128 := by
  have := Nat.xor_lt_two_pow (n := 7) (x := v) (y := 1) (by omega) (by omega)
  omega
theorem bitsxor_n {v : Nat} (h : v < 128) : Go.bits .xor .i64 (v : Int) 1 = ((v ^^^ 1 : Nat) : Int) := by
  have h1 := sibling_n h
  unfold cover_node_sibling.f at h1
  exact Option.some.inj h1
theorem sub_below {a d n m : Nat} (ha : 1 ≤ a) (h : subI a d (n : Int) (m : Int) = true) (h1 : a ≠ 1) (h2 : m ≠ 0) : blw m n = true ∧ m ≠ n := by
  unfold subI at h
  simp only [Bool.and_eq_true, decide_eq_true_eq] at h
  obtain ⟨_, _, h3⟩ := h
  rw [if_neg h1, if_neg (by omega)] at h3
  simp only [Bool.and_eq_true, decide_eq_true_eq, Bool.not_eq_true', decide_eq_false_iff_not, Int.toNat_natCast] at h3
  exact ⟨h3.2.2.2.1, by omega⟩
theorem wrap_small {x : Int} (h0 : 0 ≤ x) (h : x < 1000000) : wrap64 x = x := by unfold wrap64; omega
theorem split_prog {a d n m : Nat} (ha : 1 ≤ a) (ha3 : a ≤ 3) (hd : d ≤ 6) (hs : subI a d (n : Int) (m : Int) = true) (hn : n < 128) (hm : m < 128) :
    cover_Split.f (a : Int) (d : Int) 0 0 0 0 (n : Int) (m : Int) = some (splitN a d n m) := by
  unfold cover_Split.f splitN
  rw [enter_one _ _ ha ha3 hd (by omega), if_pos hs]
  simp only [Option.bind_some, if_true]
  rw [members_n _ _ hd hn hm (by omega)]
  simp only [Option.bind_some, List.length_map]
  by_cases h1 : (membersN d n m).length = 1
  · rw [if_pos (by omega), if_pos h1]
  rw [if_neg (by omega), if_neg h1]
  by_cases h2 : a = 1
  · rw [if_pos (by omega), if_pos h2, wrap_small (by omega) (by omega), wrap_small (by omega) (by omega)]
  rw [if_neg (by omega), if_neg h2]
  by_cases h3 : m = 0
  · rw [if_pos (by omega), if_pos h3]
  rw [if_neg (by omega), if_neg h3]
  obtain ⟨hb, hne⟩ := sub_below ha hs h2 h3
  obtain ⟨p1, p2, p3, r, p4⟩ := toward_props hn hm hb hne
  rw [toward_n hn hm hb hne]
  simp only [Option.bind_some]
  generalize hc : m >>> (Nat.log2 m - Nat.log2 n - 1) = c at *
  have hc128 : c < 128 := by omega
  by_cases h4 : c = m
  · rw [if_pos (by omega), if_pos h4, sibling_n hc128]
    have := xor_lt c hc128
    simp only [Option.bind_some]
    rw [wrap_small (by omega) (by omega), wrap_small (by omega) (by omega)]
  · rw [if_neg (by omega), if_neg h4, subset_n _ _ ha ha3 hd (by omega)]
    simp only [Option.bind_some]
    cases hsc : subI a d (c : Int) (m : Int) with
    | true => rfl
    | false =>
      simp only [Bool.false_eq_true, if_false]
      rw [cut_n _ _ (strd_pos d) (strd_le d) hn hm hb hne]
      rfl
theorem split_ref {a d n m k : Nat} (ha : 1 ≤ a) (ha3 : a ≤ 3) (hd : d ≤ 6) (hs : subI a d (n : Int) (m : Int) = true) (hn1 : 1 ≤ n) (hn : n < 128) (hm : m < 128) (hk : 100 ≤ k) :
    headendref03_Split.f k (a : Int) (d : Int) 0 0 0 0 (n : Int) (m : Int) = some (splitN a d n m) := by
  unfold headendref03_Split.f splitN
  rw [rValid_good ha ha3 hd]
  simp only [Option.bind_some, if_true]
  rw [rSubset_n _ _ _ _ _ _ ha ha3 hd (by omega), hs]
  simp only [Option.bind_some, if_true]
  unfold headendref03_SplitOf.f
  rw [rMembers_n _ _ _ _ _ hd hn1 hn hm (by omega)]
  simp only [Option.bind_some, List.length_map]
  by_cases h1 : (membersN d n m).length = 1
  · rw [if_pos (by omega), if_pos h1]; rfl
  rw [if_neg (by omega), if_neg h1]
  by_cases h2 : a = 1
  · rw [if_pos (by omega), if_pos h2, wrap_small (by omega) (by omega), wrap_small (by omega) (by omega)]; rfl
  rw [if_neg (by omega), if_neg h2]
  by_cases h3 : m = 0
  · rw [if_pos (by omega), if_pos h3]; rfl
  rw [if_neg (by omega), if_neg h3]
  obtain ⟨hb, hne⟩ := sub_below ha hs h2 h3
  obtain ⟨p1, p2, p3, r, p4⟩ := toward_props hn hm hb hne
  rw [rPath_n hn hm hb (by omega), p4]
  simp only [Option.bind_some]
  generalize hc : m >>> (Nat.log2 m - Nat.log2 n - 1) = c at *
  have hc128 : c < 128 := by omega
  rw [if_pos (by simp only [List.length_map, List.length_cons]; omega)]
  have hrd : rd (List.map Int.ofNat (n :: c :: r)) 1 = (c : Int) := rfl
  rw [hrd]
  by_cases h4 : c = m
  · rw [if_pos (by omega), if_pos h4, bitsxor_n hc128]
    have := xor_lt c hc128
    rw [wrap_small (by omega) (by omega), wrap_small (by omega) (by omega)]; rfl
  · rw [if_neg (by omega), if_neg h4, rSubset_n _ _ _ _ _ _ ha ha3 hd (by omega)]
    simp only [Option.bind_some]
    cases hsc : subI a d (c : Int) (m : Int) with
    | true => rfl
    | false =>
      simp only [Bool.false_eq_true, if_false]
      rw [rBetween_n hd hn hm hb hne (by omega)]
      rfl
theorem splitN_len (a d v w : Nat) : (splitN a d v w).1.length ≤ 2 := by
  unfold splitN
  split
  · simp
  split
  · simp
  split
  · simp
  dsimp only
  split <;> simp
theorem CoverSplits_pure (a0 a1 a2 a3 a4 a5 v w : Int) : headendlaw03_CoverSplits.f 100 a0 a1 a2 a3 a4 a5 v w = some true := by
  unfold headendlaw03_CoverSplits.f
  by_cases hv : ValidI a0 a1 a2 a3 a4 a5
  · obtain ⟨a, d, rfl, rfl, ha, ha3, hd, rfl, rfl, rfl, rfl⟩ := hv.nat
    cases hs : subI a d v w with
    | true =>
      obtain ⟨n, m, rfl, rfl, hn1, _, hn, _, hm⟩ := subI_nat ha hd hs
      rw [split_prog ha ha3 hd hs hn hm, split_ref ha ha3 hd hs hn1 hn hm (by omega)]
      simp only [Option.bind_some]
      rw [sameSubsets_refl _ (by have := splitN_len a d n m; omega) (by have := splitN_len a d n m; omega)]
      simp
    | false =>
      have e1 : cover_Split.f (a : Int) (d : Int) 0 0 0 0 v w = some ([], 31) := by
        unfold cover_Split.f
        rw [enter_one _ _ ha ha3 hd (by omega), hs]
        rfl
      have e2 : headendref03_Split.f 100 (a : Int) (d : Int) 0 0 0 0 v w = some ([], 31) := by
        unfold headendref03_Split.f
        rw [rValid_good ha ha3 hd]
        simp only [Option.bind_some, if_true]
        rw [rSubset_n _ _ _ _ _ _ ha ha3 hd (by omega), hs]
        rfl
      rw [e1, e2]
      rfl
  · have e1 : cover_Split.f a0 a1 a2 a3 a4 a5 v w = some ([], 30) := by
      unfold cover_Split.f
      rw [enter_bad _ hv (by omega)]
      rfl
    have e2 : headendref03_Split.f 100 a0 a1 a2 a3 a4 a5 v w = some ([], 30) := by
      unfold headendref03_Split.f
      rw [rValid_bad hv]
      rfl
    rw [e1, e2]
    rfl
end Go.Proofs.Ytafhimeoijmolaa.G
namespace Go.Proofs.Ytafhimeoijmolaa.O
open Go.RowKit
theorem coverSplits_walk (s : Sch) (_ : True) (x : SubV) (_ : True) (W : World) : Calls Try.prog 4 #[s.val, x.val] W fun e w' => e = .returned (.bool true) ∧ Below W.heap.size W w' :=
  G.headendlaw03_CoverSplits.calls 100 s.k s.d s.g s.p s.q s.r x.n x.m true W (G.CoverSplits_pure _ _ _ _ _ _ _ _)
end Go.Proofs.Ytafhimeoijmolaa.O
