/- Texts of this claim, one behind the other, as far as they are used: X129, KG, KH, G74, X28. -/
import Derived.Deep.RegionWith
import Derived.Deep.QuietTactic
import Derived.BigQuiet
import Derived.Test.YtafhimeoijmolaaCoverKeysM2
import Derived.Test.YtafhimeoijmolaaCoverKeysM3
import Derived.Test.YtafhimeoijmolaaCoverKeysM11
import Derived.Test.YtafhimeoijmolaaCoverKeysM12
import Derived.Test.YtafhimeoijmolaaCoverKeysM14
import Derived.Test.YtafhimeoijmolaaCoverKeysM15
namespace Go.Proofs.Ytafhimeoijmolaa.G
open Go.RowKit Go.Shelf Go.Proofs.YtafhimeoijmolaaW.PrintWords Go.Proofs.Ytafhimeoijmolaa.R9
attribute [local go_sem] Oper.semAt_some
set_option linter.unusedVariables false
set_option linter.unusedSimpArgs false
theorem own9_drewN {β : Type} {B : Nat} {J : β → World → Prop} (h : Own9 B J) {s : β} {W : World} (hs : J s W) (m : Nat) : J s (W.drewN m) :=
  h.still hs ⟨rfl, rfl, rfl, Nat.le_refl _, fun _ _ _ => rfl⟩
set_option maxRecDepth 100000 in
set_option maxHeartbeats 1000000 in
theorem path9_in (n : Nat) (l Bf Bt B0 : Nat) (v0 t : Int) (k0 : Nat) (xs : List Int) (hp : pathF k0 v0 t = some xs) (J Jx : List Int → World → Prop)
    (W : World) (hJ : Own9 W.heap.size J)
    (hY : ∀ pre x W, J pre W → pre ++ [x] <+: xs → YieldAt Fence.wide (n - 1) Try.prog l #[.int .i64 x] W fun e W' =>
      (e = .returned (.bool true) ∧ J (pre ++ [x]) W' ∧ Kp9 W W' ∧ KeepsFrom B0 W W') ∨ (e = .returned (.bool false) ∧ Jx (pre ++ [x]) W' ∧ KeepsFrom B0 W W'))
    (hbf : Boxed W Bf 139 (.int .i64 v0)) (hbt : Boxed W Bt 139 (.int .i64 t)) (h0 : J [] W) :
    CallsIn Fence.wide n Try.prog 155 #[.func (.yield l) #[] #[], .pointer (some ⟨Bf, 0, none⟩), .pointer (some ⟨Bt, 0, none⟩)] W fun e W' => (∃ v, e = .returned v) ∧
      (J xs W' ∨ (∃ pre, pre <+: xs ∧ Jx pre W')) := by
  have hcf := hbf.cell
  refine callsIn_of_wp Try.func155 rfl trivial ?_ rfl
  simp only [Try.ntmps155, List.size_toArray, List.length_cons, List.length_nil, Nat.reduceAdd, Nat.reduceSub, Array.replicate_succ, Array.replicate_zero, List.push_toArray, List.append_toArray, List.nil_append, List.cons_append]
  gi_wp2
  gi_loopg [4] k0 (fun kx p wr => ∃ (pre rest : List Int) (v : Int), p = .int .i64 v ∧ Aside0 (xs = pre ++ rest) ∧ Aside0 (pathF kx v t = some rest) ∧ J pre wr ∧ Aside0 (Boxed wr Bt 139 (.int .i64 t)))
  case atStart => exact ⟨[], xs, v0, rfl, ⟨rfl⟩, ⟨hp⟩, h0, ⟨hbt⟩⟩
  case round =>
    obtain ⟨pre, rest, v, rfl, hx, hpp, hJs, hct1⟩ := hrel
    have hct2 := hct1.out.cell
    have hJ' := Aside0.mk hJ
    have hY' := Aside0.mk hY
    clear hJ hY hbt hbf hcf hp h0
    cases gk with
    | zero => exact absurd hpp.out (by simp [pathF])
    | succ kq =>
      by_cases hv : v = t
      · subst hv
        have hr : rest = [] := by
          have h := hpp.out
          simp only [pathF, if_true, Option.some.injEq] at h
          exact h.symm
        subst hr
        have e0 : (v != v) = false := by simp
        gi_wp2
        go_end0
        exact ⟨⟨_, rfl⟩, .inl (by have h := hx.out; rw [List.append_nil] at h; rw [h]; exact hJs)⟩
      · have e0 : (v != t) = true := by simp [hv]
        have hpp1 := hpp.out
        simp only [pathF, if_neg hv] at hpp1
        obtain ⟨x, hxt, hpp1⟩ := Option.bind_eq_some_iff.mp hpp1
        obtain ⟨rest', hr', rfl⟩ := Option.map_eq_some_iff.mp hpp1
        clear hpp hpp1 hv
        have hxt' := Aside0.mk hxt
        have hr2 := Aside0.mk hr'
        clear hxt hr'
        gi_wp2_with fail
        refine ⟨trivial, fun h => absurd h (by simp [Fence.wide]), ?_⟩
        refine (callsIn_wide.2 (cover_node_toward.calls v t x _ hxt'.out)).mono ?_
        rintro e w' ⟨rfl, ⟨nd, rfl⟩⟩
        have hlen : pre ++ [x] <+: xs := ⟨rest', by rw [hx.out]; simp⟩
        obtain ⟨fn, tmps, assign, body, hy, hR⟩ := hY'.out pre x (wr.drewN nd) (own9_drewN hJ'.out hJs nd) hlen
        have hct3 : (wr.drewN nd).cell? ⟨Bt, 0, none⟩ = some (.int .i64 t) := hct2
        gi_wp2
        refine ⟨fun h => absurd h (by simp [Fence.wide]), hR.mono ?_⟩
        rintro e W3 (⟨rfl, hJ3, hk3, _⟩ | ⟨rfl, hJx3, _⟩)
        · have hb3 : Boxed W3 Bt 139 (.int .i64 t) := hk3.boxed (show Boxed (wr.drewN nd) Bt 139 (.int .i64 t) from hct1.out) (.inr (.inl rfl))
          have hq3 := hb3.cell
          gi_wp2
          gi_roundg kq
          case measure => omega
          case rel => exact ⟨pre ++ [x], rest', x, rfl, ⟨by rw [hx.out]; simp⟩, hr2, hJ3, ⟨hb3⟩⟩
        · gi_wp2
          refine bodyPost_ret (results_none rfl _ _ _) rfl ?_
          exact ⟨⟨_, rfl⟩, .inr ⟨pre ++ [x], ⟨rest', by rw [hx.out]; simp⟩, hJx3⟩⟩
theorem path_seq9 (n : Nat) (Bf Bt : Nat) (v0 t : Int) (k0 : Nat) (xs : List Int) (hp : pathF k0 v0 t = some xs) (w : World)
    (hbf : Boxed w Bf 139 (.int .i64 v0)) (hbt : Boxed w Bt 139 (.int .i64 t)) :
    Seq9 Try.prog n 155 #[.pointer (some ⟨Bf, 0, none⟩), .pointer (some ⟨Bt, 0, none⟩)] (fun x : Int => #[Value.int .i64 x]) xs w := fun l J Jx W hW hJ _ hY h0 =>
  path9_in n l Bf Bt W.heap.size v0 t k0 xs hp J Jx W hJ hY (boxed_below hbf hW) (boxed_below hbt hW) h0
theorem keepsOthers_drewN {W W' : World} {n : Nat} (h : KeepsOthers (W.drewN n) W') : KeepsOthers W W' := ⟨h.size, h.same⟩
def innerF (a b c v : Int) : List Int → Option (List (Int × Int))
  | [] => some []
  | p :: ps => (cover_node_sibling.f p).bind fun w => (cover_tree_subset.f 9 a b c v w).bind fun s => (innerF a b c v ps).map fun r => if s = true then (v, w) :: r else r
theorem innerF_split {a b c v p : Int} {suf : List Int} : ∀ {pre : List Int} {r : List (Int × Int)}, innerF a b c v (pre ++ p :: suf) = some r →
    ∃ r1 w s r2, innerF a b c v pre = some r1 ∧ cover_node_sibling.f p = some w ∧ cover_tree_subset.f 9 a b c v w = some s ∧ r = r1 ++ (if s = true then [(v, w)] else []) ++ r2 ∧
      innerF a b c v (pre ++ [p]) = some (r1 ++ (if s = true then [(v, w)] else []))
  | [], r, h => by
    simp only [List.nil_append, innerF] at h ⊢
    obtain ⟨w, hw, h⟩ := Option.bind_eq_some_iff.mp h
    obtain ⟨s, hs, h⟩ := Option.bind_eq_some_iff.mp h
    obtain ⟨r2, hr2, rfl⟩ := Option.map_eq_some_iff.mp h
    refine ⟨[], w, s, r2, rfl, hw, hs, by cases s <;> simp, ?_⟩
    rw [hw]; simp only [Option.bind_some]; rw [hs]; cases s <;> simp
  | y :: pre, r, h => by
    simp only [List.cons_append, innerF] at h ⊢
    obtain ⟨w0, hw0, h⟩ := Option.bind_eq_some_iff.mp h
    obtain ⟨s0, hs0, h⟩ := Option.bind_eq_some_iff.mp h
    obtain ⟨r0, hr0, rfl⟩ := Option.map_eq_some_iff.mp h
    obtain ⟨r1, w, s, r2, e1, e2, e3, e4, e5⟩ := innerF_split hr0
    refine ⟨if s0 = true then (v, w0) :: r1 else r1, w, s, r2, ?_, e2, e3, ?_, ?_⟩
    · rw [hw0]; simp only [Option.bind_some]; rw [hs0]; simp only [Option.bind_some]; rw [e1]; rfl
    · rw [e4]; cases s0 <;> simp
    · rw [hw0]; simp only [Option.bind_some]; rw [hs0]; simp only [Option.bind_some]; rw [e5]; cases s0 <;> simp
def outerF (a b c leaf : Int) : Nat → Int → Option (List (Int × Int))
  | 0, _ => none
  | k + 1, v => if v = leaf then some [] else
      if a = 1 then (cover_node_toward.f v leaf).bind fun x => (outerF a b c leaf k x).map ((x, 0) :: ·)
      else (pathF 70 v leaf).bind fun ps => (innerF a b c v ps).bind fun r => (cover_node_toward.f v leaf).bind fun x => (outerF a b c leaf k x).map (r ++ ·)
def labelsF (a b c u : Int) : Option (List (Int × Int)) := (cover_tree_leaf.f a b c u).bind fun leaf => (outerF a b c leaf 70 1).map ((1, 0) :: ·)
def Y9 {α : Type} (J Jx : List α → World → Prop) (pre : List α) (B0 : Nat) (W : World) (bb : Bool) (W' : World) : Prop := (bb = true ∧ J pre W' ∧ Kp9 W W' ∧ KeepsFrom B0 W W') ∨ (bb = false ∧ Jx pre W' ∧ KeepsFrom B0 W W')
theorem yield_bool {α : Type} {n l B0 : Nat} {args : Array Value} {J Jx : List α → World → Prop} {pre : List α} {W : World} (h : YieldAt Fence.wide n Try.prog l args W fun e W' => (e = .returned (.bool true) ∧ J pre W' ∧ Kp9 W W' ∧ KeepsFrom B0 W W') ∨ (e = .returned (.bool false) ∧ Jx pre W' ∧ KeepsFrom B0 W W')) :
    ∃ q : FuncId × Array Value × Code × Code, (Instr.yield l args).run Try.prog W = .ok (.round l q.1 q.2.1 q.2.2.1 q.2.2.2) W ∧ RoundIn Fence.wide n Try.prog l q.1 q.2.1 q.2.2.1 q.2.2.2 W fun e W' => ∃ bb, e = .returned (.bool bb) ∧ Y9 J Jx pre B0 W bb W' := by
  obtain ⟨fn, tmps, assign, body, hy, hR⟩ := h
  exact ⟨(fn, tmps, assign, body), hy, hR.mono fun e W' h => h.elim (fun h => ⟨true, h.1, .inl ⟨rfl, h.2⟩⟩) (fun h => ⟨false, h.1, .inr ⟨rfl, h.2⟩⟩)⟩
theorem roundIn_wide {n m l l2 : Nat} {fn : FuncId} {tmps : Array Value} {assign body : Code} {W : World} {R : Ending → World → Prop} (h : RoundIn Fence.wide n Try.prog l fn tmps assign body W R) : RoundIn (Fence.wide.inRound l2) m Try.prog l fn tmps assign body W R :=
  ⟨h.1, fun c cs _ => h.2 c cs (room_wide _)⟩
structure Marks (B : Nat) (W : World) (Ds : List Nat) : Prop where
  nodup : Ds.Nodup
  at_ : ∀ D ∈ Ds, B ≤ D ∧ W.heap[D]? = some (.deferred (some []))
def markOf (D : Nat) : Deferred := { target := .collected D, args := #[] }
theorem leaves_marks {fn : Func} {tmps : Array Value} {R : Ending → World → Prop} {n B : Nat} {S : World → Prop} (hS : ∀ w D, B ≤ D → w.heap[D]? = some (.deferred (some [])) → S w → S (w.putObj D (.deferred none)))
    (hR : ∀ w, S w → LeavesIn Fence.wide n Try.prog fn tmps R [] .returning w) : ∀ (Ds : List Nat) (w : World), Marks B w Ds → S w → LeavesInM Fence.wide n Try.prog fn tmps R (Ds.map markOf) .returning w
  | [], w, _, hs => hR w hs
  | D :: Ds, w, hm, hs => by
    obtain ⟨h1, h2⟩ := hm.at_ D List.mem_cons_self
    refine ⟨by simp, .inl ⟨D, _, rfl, run_takeDeferred h2, leaves_marks hS hR Ds _ ⟨(List.nodup_cons.1 hm.nodup).2, fun E hE => ?_⟩ (hS w D h1 h2 hs)⟩⟩
    obtain ⟨h3, h4⟩ := hm.at_ E (List.mem_cons_of_mem _ hE)
    exact ⟨h3, (World.putObj_heap_other (fun e => by subst e; exact (List.nodup_cons.1 hm.nodup).1 hE)).trans h4⟩
theorem Marks.keep {B : Nat} {W W' : World} {Ds : List Nat} (h : Marks B W Ds) (hk : KeepsFrom B W W') : Marks B W' Ds := ⟨h.nodup, fun D hD => ⟨(h.at_ D hD).1, hk.same D _ (h.at_ D hD).1 (h.at_ D hD).2 rfl⟩⟩
theorem Marks.own {B B' : Nat} {X Y : World} {row : Option Nat} {Ds : List Nat} (h : Marks B X Ds) (hlt : ∀ D ∈ Ds, D < B') (hg : X.grownBy Y row) (hr : ∀ r, row = some r → OkRow X B' r) : Marks B Y Ds :=
  ⟨h.nodup, fun D hD => ⟨(h.at_ D hD).1, (hg.block D (Array.getElem?_eq_some_iff.1 (h.at_ D hD).2).1 (fun e => by have := (hr D e.symm).1; have := hlt D hD; omega)).trans (h.at_ D hD).2⟩⟩
theorem Marks.cons {B D : Nat} {X : World} {Ds : List Nat} (h : Marks B X Ds) (hB : B ≤ D) (hlt : ∀ E ∈ Ds, E < D) (hD : X.heap[D]? = some (.deferred (some []))) : Marks B X (D :: Ds) :=
  ⟨List.nodup_cons.2 ⟨fun hE => by have := hlt D hE; omega, h.nodup⟩, fun E hE => by rcases List.mem_cons.1 hE with rfl | hE; exact ⟨hB, hD⟩; exact h.at_ E hE⟩
def enc2 (x : Int × Int) : Array Value := #[.int .i64 x.1, .int .i64 x.2]
def RelL (l Bt Bu : Nat) (a b c u leaf : Int) (ys : List (Int × Int)) (J : List (Int × Int) → World → Prop) (W : World) (kx : Nat) (act : Act) (wr : World) : Prop :=
  ∃ (pre rest : List (Int × Int)) (v : Int) (Bv : Nat) (Ds : List Nat) (u6 u7 u14 u15 u16 u17 u18 u19 u20 u21 u22 u23 u24 u25 u26 u27 u28 u29 u30 u31 u32 u33 u34 u35 u36 u37 u38 u39 u40 u41 u42 u43 u44 u45 u46 u47 : Value), act = { tmps := #[.func (.yield l) #[] #[], .pointer (some ⟨Bt, 0, none⟩), .pointer (some ⟨Bu, 0, none⟩), .pointer (some ⟨W.heap.size, 0, none⟩), .int .i64 leaf, .pointer (some ⟨Bv, 0, none⟩), u6, u7, .agg #[.int .u8 a, .int .i64 b, .int .i64 c], .int .i64 u, .int .i64 leaf, .func (.yield l) #[] #[], .bool true, .bool false, u14, u15, u16, u17, u18, u19, u20, u21, u22, u23, u24, u25, u26, u27, u28, u29, u30, u31, u32, u33, u34, u35, u36, u37, u38, u39, u40, u41, u42, u43, u44, u45, u46, u47], defers := Ds.map markOf } ∧ Marks W.heap.size wr Ds ∧
    ys = pre ++ rest ∧ outerF a b c leaf kx v = some rest ∧ J ((1, 0) :: pre) wr ∧ Boxed wr Bv 139 (.int .i64 v) ∧ W.heap.size ≤ Bv ∧ Boxed wr W.heap.size 188 (.func (.yield l) #[] #[]) ∧
    wr.heap[Bt]? = some (.cells #[.int .u8 a, .int .i64 b, .int .i64 c] 134 (0, 0))
set_option maxRecDepth 100000 in
set_option maxHeartbeats 4000000 in
theorem labels1_sub (n : Nat) (l Bt Bu B0 : Nat) (a b c u : Int) (ha : a = 1) (xs : List (Int × Int)) (hx : labelsF a b c u = some xs) (J Jx : List (Int × Int) → World → Prop)
    (W : World) (hJ : Own9 W.heap.size J) (hJx : Own9 W.heap.size Jx)
    (hY : ∀ pre x W, J pre W → pre ++ [x] <+: xs → YieldAt Fence.wide (n - 1) Try.prog l (enc2 x) W fun e W' =>
      (e = .returned (.bool true) ∧ J (pre ++ [x]) W' ∧ Kp9 W W' ∧ KeepsFrom B0 W W') ∨ (e = .returned (.bool false) ∧ Jx (pre ++ [x]) W' ∧ KeepsFrom B0 W W'))
    (hbt : W.heap[Bt]? = some (.cells #[.int .u8 a, .int .i64 b, .int .i64 c] 134 (0, 0))) (hbu : Boxed W Bu 3 (.int .i64 u)) (h0 : J [] W) :
    CallsIn Fence.wide n Try.prog 129 #[.func (.yield l) #[] #[], .pointer (some ⟨Bt, 0, none⟩), .pointer (some ⟨Bu, 0, none⟩)] W fun e W' => (∃ v, e = .returned v) ∧
      (J xs W' ∨ (∃ pre, pre <+: xs ∧ Jx pre W')) := by
  obtain ⟨leaf, hleaf, hx⟩ := Option.bind_eq_some_iff.mp hx
  obtain ⟨ys, hys, rfl⟩ := Option.map_eq_some_iff.mp hx
  clear hx
  have hcu := hbu.cell
  have ct : ∀ j v, (#[Value.int .u8 a, .int .i64 b, .int .i64 c] : Array Value)[j]? = some v → W.cell? ⟨Bt, j, none⟩ = some v := fun j v h => by simp [World.cell?, hbt, h]
  have ct0 := ct 0 _ rfl
  have ct1 := ct 1 _ rfl
  have ct2 := ct 2 _ rfl
  have hltT : Bt < W.heap.size := (Array.getElem?_eq_some_iff.1 hbt).1
  have hltU : Bu < W.heap.size := hbu.lt
  clear ct
  have A1 := Aside0.mk hJ; have A2 := Aside0.mk hJx; have A3 := Aside0.mk hY; have A4 := Aside0.mk hleaf; have A5 := Aside0.mk hys; have A6 := Aside0.mk hbt; have A7 := Aside0.mk hbu
  have A20a := Aside0.mk ha
  clear hJ hJx hY hleaf hys hbt hbu ha
  refine callsIn_of_wp Try.func129 rfl trivial ?_ rfl
  simp only [Try.ntmps129, List.size_toArray, List.length_cons, List.length_nil, Nat.reduceAdd, Nat.reduceSub, Array.replicate_succ, Array.replicate_zero, List.push_toArray, List.append_toArray, List.nil_append, List.cons_append]
  gi_wp2_with fail
  refine ⟨trivial, fun h => absurd h (by simp [Fence.wide]), ?_⟩
  refine (callsIn_wide.2 (cover_tree_leaf.calls a b c u leaf _ A4.out)).mono ?_
  rintro e w1 ⟨rfl, hb1⟩
  have hJ1 : J [] w1 := Own9.below A1.out (Own9.alloc A1.out _ h0) hb1
  have bY := boxed_below (Boxed.new W 188 (.func (.yield l) #[] #[])) hb1
  have bT : w1.heap[Bt]? = some (.cells #[.int .u8 a, .int .i64 b, .int .i64 c] 134 (0, 0)) := (hb1.block Bt (by simp; omega)).trans ((Below.heap_alloc W _ Bt hltT).trans A6.out)
  have hsz : W.heap.size < w1.heap.size := by have := hb1.size; simp at this; omega
  obtain ⟨fn, tmps, assign, body, hy, hR⟩ := A3.out [] (1, 0) w1 hJ1 ⟨ys, rfl⟩
  dsimp only [enc2] at hy
  have cY := bY.cell
  have A8 := Aside0.mk bY; have A9 := Aside0.mk bT
  clear bY bT hb1 hcu ct0 ct1 ct2 h0
  gi_wp2
  refine ⟨fun h => absurd h (by simp [Fence.wide]), hR.mono ?_⟩
  clear hR hy
  rintro e w2 (⟨rfl, hJ2, hk2, _⟩ | ⟨rfl, hJx2, _⟩)
  · have bY2 := hk2.boxed A8.out (.inr (.inr rfl))
    have bT2 := hk2 _ _ _ _ A9.out (.inl rfl)
    have A10 := Aside0.mk bY2; have A11 := Aside0.mk bT2
    clear bY2 bT2 hk2 cY A8 A9 hJ1
    gi_wp2
    gi_loopg [5] 70 (fun kx p wr => ∃ (pre rest : List (Int × Int)) (v : Int) (Bv : Nat), p = .pointer (some ⟨Bv, 0, none⟩) ∧ Aside0 (ys = pre ++ rest) ∧ Aside0 (outerF a b c leaf kx v = some rest) ∧ J ((1, 0) :: pre) wr ∧
      Aside0 (Boxed wr Bv 139 (.int .i64 v)) ∧ W.heap.size ≤ Bv ∧ Aside0 (Boxed wr W.heap.size 188 (.func (.yield l) #[] #[])) ∧ Aside0 (wr.heap[Bt]? = some (.cells #[.int .u8 a, .int .i64 b, .int .i64 c] 134 (0, 0))))
    case atStart =>
      exact ⟨[], ys, 1, w2.heap.size, rfl, ⟨rfl⟩, A5, Own9.alloc A1.out _ hJ2, ⟨Boxed.new w2 139 _⟩, by have := A10.out.lt; omega, ⟨A10.out.alloc _⟩, ⟨(Below.heap_alloc _ _ _ (Array.getElem?_eq_some_iff.1 A11.out).1).trans A11.out⟩⟩
    case round =>
      clear A10 A11 hJ2 A5
      obtain ⟨pre, rest, v, Bv, rfl, A12, A13, hJ3, A14, hBv, A15, A16⟩ := hrel
      cases gk with
      | zero => exact absurd A13.out (by simp [outerF])
      | succ kq =>
        have c5 := A14.out.cell
        have f5 := A14.out.frozen
        by_cases hv : v = leaf
        · subst hv
          have e0 : (v != v) = false := by simp
          have hr : rest = [] := by
            have h := A13.out
            simp only [outerF, if_true, Option.some.injEq] at h
            exact h.symm
          subst hr
          gi_wp2
          go_end0
          exact ⟨⟨_, rfl⟩, .inl (by have h := A12.out; rw [List.append_nil] at h; rw [h]; exact hJ3)⟩
        · have e0 : (v != leaf) = true := by simp [hv]
          have hrest := A13.out
          simp only [outerF, if_neg hv] at hrest
          have A17 := Aside0.mk hv
          clear hv A13
          have ct0 : wr.cell? ⟨Bt, 0, none⟩ = some (.int .u8 a) := by simp [World.cell?, A16.out]
          have ct1 : wr.cell? ⟨Bt, 1, none⟩ = some (.int .i64 b) := by simp [World.cell?, A16.out]
          have ct2 : wr.cell? ⟨Bt, 2, none⟩ = some (.int .i64 c) := by simp [World.cell?, A16.out]
          have cY := A15.out.cell
          · have e1 : (a == 1) = true := by simp [A20a.out]
            rw [if_pos A20a.out] at hrest
            obtain ⟨x, hxt, hrest⟩ := Option.bind_eq_some_iff.mp hrest
            obtain ⟨rest', hr', rfl⟩ := Option.map_eq_some_iff.mp hrest
            have A18 := Aside0.mk hxt; have A19 := Aside0.mk hr'; have A20 := Aside0.mk A20a.out
            clear hrest hxt hr'
            gi_wp2_with fail
            have hyield := fun m => yield_bool (A3.out ((1, 0) :: pre) (x, 0) (wr.drewN m) (own9_drewN A1.out hJ3 m) ⟨rest', by rw [A12.out]; simp⟩)
            obtain ⟨q, hq⟩ := Classical.skolem.mp hyield
            have hy2 := fun m => (hq m).1
            have hR2 := fun m => (hq m).2
            clear hyield hq
            dsimp only [enc2] at hy2
            have A21 := Aside0.mk hR2
            clear hR2
            gi_region_with (first | (refine ⟨trivial, fun h => absurd h (by simp [Fence.wide]), (callsIn_wide.2 (cover_node_toward.calls v leaf x _ A18.out)).mono ?_⟩; rintro e w3 ⟨rfl, ⟨nd, rfl⟩⟩) | (refine ⟨fun h => absurd h (by simp [Fence.wide]), (A21.out _).mono ?_⟩; rintro e w3 ⟨bb, rfl, hbb⟩))
            all_goals
              clear hy2 A21 cY c5 f5 ct0 ct1 ct2
              rcases hbb with ⟨rfl, hJ4, hk4, _⟩ | ⟨rfl, hJx4, _⟩
              · have b5 : Boxed w3 Bv 139 (.int .i64 v) := hk4.boxed (show Boxed (wr.drewN (1 + nd)) Bv 139 (.int .i64 v) from A14.out) (.inr (.inl rfl))
                have bY3 : Boxed w3 W.heap.size 188 (.func (.yield l) #[] #[]) := hk4.boxed (show Boxed (wr.drewN (1 + nd)) _ 188 _ from A15.out) (.inr (.inr rfl))
                have bT3 := hk4 _ _ _ _ (show (wr.drewN (1 + nd)).heap[Bt]? = _ from A16.out) (.inl rfl)
                have c5 := b5.cell
                have f5 := b5.frozen
                have A22 := Aside0.mk b5; have A23 := Aside0.mk bY3; have A24 := Aside0.mk bT3
                clear b5 bY3 bT3 hk4
                gi_wp2_with fail
                refine ⟨trivial, fun h => absurd h (by simp [Fence.wide]), (callsIn_wide.2 (cover_node_toward.calls v leaf x _ A18.out)).mono ?_⟩
                rintro e w4 ⟨rfl, ⟨nd2, rfl⟩⟩
                gi_wp2
                gi_roundg kq
                case measure => omega
                case rel =>
                  have hle : W.heap.size ≤ w3.heap.size := by have := A23.out.lt; omega
                  have bN : Boxed ((w3.alloc (.cells #[.int .i64 v] 139)).drewN nd2) w3.heap.size 139 (.int .i64 v) := Boxed.new w3 139 _
                  refine ⟨pre ++ [(x, 0)], rest', x, w3.heap.size, rfl, ⟨by rw [A12.out]; simp⟩, A19, ?_, ⟨Boxed.set _ bN⟩, hle, ⟨?_⟩, ⟨?_⟩⟩
                  · exact A1.out _ _ _ (some w3.heap.size) (own9_drewN A1.out (Own9.alloc A1.out _ hJ4) nd2) (grownBy_setCell' _ _ _) (fun r e => by cases e; exact ⟨hle, _, bN, .inr ⟨_, _, _, rfl, .inr (.inl rfl)⟩⟩)
                  · exact Boxed.other (show Boxed ((w3.alloc (.cells #[.int .i64 v] 139)).drewN nd2) W.heap.size 188 _ from A23.out.alloc _) (fun e => by have := A23.out.lt; omega) _
                  · have hlt := (Array.getElem?_eq_some_iff.1 A24.out).1
                    exact (Below.heap_setCell _ _ _ _ (fun e => by have e' : Bt = w3.heap.size := e; omega)).trans ((Below.heap_alloc w3 _ Bt hlt).trans A24.out)
              · gi_wp2
                refine bodyPost_ret (results_none rfl _ _ _) rfl ?_
                exact ⟨⟨_, rfl⟩, .inr ⟨(1, 0) :: pre ++ [(x, 0)], ⟨rest', by rw [A12.out]; simp⟩, hJx4⟩⟩
  · gi_wp2
    refine bodyPost_ret (results_none rfl _ _ _) rfl ?_
    exact ⟨⟨_, rfl⟩, .inr ⟨[(1, 0)], ⟨ys, rfl⟩, hJx2⟩⟩
set_option maxRecDepth 100000 in
set_option maxHeartbeats 4000000 in
theorem labels1_dif (n : Nat) (hn : 3 ≤ n) (l Bt Bu B0 : Nat) (a b c u : Int) (ha : ¬ a = 1) (xs : List (Int × Int)) (hx : labelsF a b c u = some xs) (J Jx : List (Int × Int) → World → Prop)
    (W : World) (hB0 : B0 = W.heap.size) (hJ : Own9 W.heap.size J) (hJx : Own9 W.heap.size Jx)
    (hY : ∀ pre x W, J pre W → pre ++ [x] <+: xs → YieldAt Fence.wide (n - 1) Try.prog l (enc2 x) W fun e W' =>
      (e = .returned (.bool true) ∧ J (pre ++ [x]) W' ∧ Kp9 W W' ∧ KeepsFrom B0 W W') ∨ (e = .returned (.bool false) ∧ Jx (pre ++ [x]) W' ∧ KeepsFrom B0 W W'))
    (hbt : W.heap[Bt]? = some (.cells #[.int .u8 a, .int .i64 b, .int .i64 c] 134 (0, 0))) (hbu : Boxed W Bu 3 (.int .i64 u)) (h0 : J [] W) :
    CallsIn Fence.wide n Try.prog 129 #[.func (.yield l) #[] #[], .pointer (some ⟨Bt, 0, none⟩), .pointer (some ⟨Bu, 0, none⟩)] W fun e W' => (∃ v, e = .returned v) ∧
      (J xs W' ∨ (∃ pre, pre <+: xs ∧ Jx pre W')) := by
  obtain ⟨leaf, hleaf, hx⟩ := Option.bind_eq_some_iff.mp hx
  obtain ⟨ys, hys, rfl⟩ := Option.map_eq_some_iff.mp hx
  clear hx
  have hcu := hbu.cell
  have ct : ∀ j v, (#[Value.int .u8 a, .int .i64 b, .int .i64 c] : Array Value)[j]? = some v → W.cell? ⟨Bt, j, none⟩ = some v := fun j v h => by simp [World.cell?, hbt, h]
  have ct0 := ct 0 _ rfl
  have ct1 := ct 1 _ rfl
  have ct2 := ct 2 _ rfl
  have hltT : Bt < W.heap.size := (Array.getElem?_eq_some_iff.1 hbt).1
  have hltU : Bu < W.heap.size := hbu.lt
  clear ct
  have A1 := Aside0.mk hJ; have A2 := Aside0.mk hJx; have A3 := Aside0.mk hY; have A4 := Aside0.mk hleaf; have A5 := Aside0.mk hys; have A6 := Aside0.mk hbt; have A7 := Aside0.mk hbu
  have A20a := Aside0.mk ha
  clear hJ hJx hY hleaf hys hbt hbu ha
  refine callsIn_of_wp_marks Try.func129 rfl trivial ?_ rfl
  simp only [Try.ntmps129, List.size_toArray, List.length_cons, List.length_nil, Nat.reduceAdd, Nat.reduceSub, Array.replicate_succ, Array.replicate_zero, List.push_toArray, List.append_toArray, List.nil_append, List.cons_append]
  gi_wp2_with fail
  refine ⟨trivial, fun h => absurd h (by simp [Fence.wide]), ?_⟩
  refine (callsIn_wide.2 (cover_tree_leaf.calls a b c u leaf _ A4.out)).mono ?_
  rintro e w1 ⟨rfl, hb1⟩
  have hJ1 : J [] w1 := Own9.below A1.out (Own9.alloc A1.out _ h0) hb1
  have bY := boxed_below (Boxed.new W 188 (.func (.yield l) #[] #[])) hb1
  have bT : w1.heap[Bt]? = some (.cells #[.int .u8 a, .int .i64 b, .int .i64 c] 134 (0, 0)) := (hb1.block Bt (by simp; omega)).trans ((Below.heap_alloc W _ Bt hltT).trans A6.out)
  have hsz : W.heap.size < w1.heap.size := by have := hb1.size; simp at this; omega
  obtain ⟨fn, tmps, assign, body, hy, hR⟩ := A3.out [] (1, 0) w1 hJ1 ⟨ys, rfl⟩
  dsimp only [enc2] at hy
  have cY := bY.cell
  have A8 := Aside0.mk bY; have A9 := Aside0.mk bT
  clear bY bT hb1 hcu ct0 ct1 ct2 h0
  gi_wp2
  refine ⟨fun h => absurd h (by simp [Fence.wide]), hR.mono ?_⟩
  clear hR hy
  rintro e w2 (⟨rfl, hJ2, hk2, _⟩ | ⟨rfl, hJx2, _⟩)
  · have bY2 := hk2.boxed A8.out (.inr (.inr rfl))
    have bT2 := hk2 _ _ _ _ A9.out (.inl rfl)
    have A10 := Aside0.mk bY2; have A11 := Aside0.mk bT2
    clear bY2 bT2 hk2 cY A8 A9 hJ1
    gi_wp2
    refine wpIn_loop_ghost_k (RelL l Bt Bu a b c u leaf ys J W) 70 ?start ?round
    case start =>
      refine ⟨[], ys, 1, w2.heap.size, [], _, _, _, _, _, _, _, _, _, _, _, _, _, _, _, _, _, _, _, _, _, _, _, _, _, _, _, _, _, _, _, _, _, _, _, _, rfl, ⟨List.nodup_nil, fun _ h => by cases h⟩, rfl, A5.out, Own9.alloc A1.out _ hJ2, Boxed.new w2 139 _, by have := A10.out.lt; omega, A10.out.alloc _, (Below.heap_alloc _ _ _ (Array.getElem?_eq_some_iff.1 A11.out).1).trans A11.out⟩
    case round =>
      clear A10 A11 hJ2 A5
      intro gk act wr hrel Jg Kg hJg hKg
      obtain ⟨pre, rest, v, Bv, Ds, u6, u7, u14, u15, u16, u17, u18, u19, u20, u21, u22, u23, u24, u25, u26, u27, u28, u29, u30, u31, u32, u33, u34, u35, u36, u37, u38, u39, u40, u41, u42, u43, u44, u45, u46, u47, rfl, hmarks, B12, B13, hJ3, B14, hBv, B15, B16⟩ := hrel
      have AM := Aside0.mk hmarks; have A12 := Aside0.mk B12; have A13 := Aside0.mk B13; have A14 := Aside0.mk B14; have A15 := Aside0.mk B15; have A16 := Aside0.mk B16
      clear hmarks B12 B13 B14 B15 B16
      cases gk with
      | zero => exact absurd A13.out (by simp [outerF])
      | succ kq =>
        have c5 := A14.out.cell
        have f5 := A14.out.frozen
        by_cases hv : v = leaf
        · subst hv
          have e0 : (v != v) = false := by simp
          have hr : rest = [] := by
            have h := A13.out
            simp only [outerF, if_true, Option.some.injEq] at h
            exact h.symm
          subst hr
          gi_wp2
          refine leaves_marks (S := fun w => J ((1, 0) :: ys) w) (fun w D h1 h2 h3 => Own9.putObj A1.out _ h3 h1 h2 rfl) (fun w h => ⟨_, results_none rfl _ _ _, ⟨_, rfl⟩, .inl h⟩) Ds wr AM.out (by have h := A12.out; rw [List.append_nil] at h; rw [h]; exact hJ3)
        · have e0 : (v != leaf) = true := by simp [hv]
          have hrest := A13.out
          simp only [outerF, if_neg hv] at hrest
          have A17 := Aside0.mk hv
          clear hv A13
          have ct0 : wr.cell? ⟨Bt, 0, none⟩ = some (.int .u8 a) := by simp [World.cell?, A16.out]
          have ct1 : wr.cell? ⟨Bt, 1, none⟩ = some (.int .i64 b) := by simp [World.cell?, A16.out]
          have ct2 : wr.cell? ⟨Bt, 2, none⟩ = some (.int .i64 c) := by simp [World.cell?, A16.out]
          have cY := A15.out.cell
          · have e1 : (a == 1) = false := by simp [A20a.out]
            rw [if_neg A20a.out] at hrest
            obtain ⟨ps, hps, hrest⟩ := Option.bind_eq_some_iff.mp hrest
            obtain ⟨r, hr, hrest⟩ := Option.bind_eq_some_iff.mp hrest
            obtain ⟨x, hxt, hrest⟩ := Option.bind_eq_some_iff.mp hrest
            obtain ⟨rest', hr', rfl⟩ := Option.map_eq_some_iff.mp hrest
            have A18 := Aside0.mk hxt; have A19 := Aside0.mk hr'; have A21 := Aside0.mk hps; have A22 := Aside0.mk hr
            clear hrest hxt hr' hps hr
            gi_wp2_with fail
            refine ⟨trivial, fun h => absurd h (by simp [Fence.wide]), (callsIn_wide.2 (path_calls v leaf _)).mono ?_⟩
            rintro e w3 ⟨rfl, rfl⟩
            gi_wp2
            have hleB : W.heap.size ≤ wr.heap.size := by have := A15.out.lt; omega
            have hltD : ∀ D ∈ Ds, D < wr.heap.size := fun D hD => (Array.getElem?_eq_some_iff.1 (AM.out.at_ D hD).2).1
            have AD := Aside0.mk hltD
            clear hltD
            have hltTr := (Array.getElem?_eq_some_iff.1 A16.out).1
            have bF : Boxed ((wr.alloc (.cells #[.int .i64 v] 139)).alloc (.cells #[.int .i64 leaf] 139)) wr.heap.size 139 (.int .i64 v) := (Boxed.new wr 139 _).alloc _
            have bL : Boxed ((wr.alloc (.cells #[.int .i64 v] 139)).alloc (.cells #[.int .i64 leaf] 139)) (wr.heap.size + 1) 139 (.int .i64 leaf) := by have h := Boxed.new (wr.alloc (.cells #[.int .i64 v] 139)) 139 (.int .i64 leaf); rwa [World.size_alloc] at h
            refine wpIn_range9 (P := Try.prog) (gf := 155) (lb := #[.pointer (some ⟨wr.heap.size, 0, none⟩), .pointer (some ⟨wr.heap.size + 1, 0, none⟩)]) rfl (enters_of Try.func155 (by kernel_rfl) rfl)
              (path_seq9 (n - 1) wr.heap.size (wr.heap.size + 1) v leaf 70 ps A21.out _ bF bL) (Below.refl _ _) (fun _ => rfl)
              (fun ps' W' => ∃ r', innerF a b c v ps' = some r' ∧ J ((1, 0) :: pre ++ r') W' ∧ Boxed W' Bv 139 (.int .i64 v) ∧ Boxed W' W.heap.size 188 (.func (.yield l) #[] #[]) ∧ W'.heap[Bt]? = some (.cells #[.int .u8 a, .int .i64 b, .int .i64 c] 134 (0, 0)) ∧ Marks W.heap.size W' Ds)
              (fun cd ps' W' => cd = .ret ∧ Marks W.heap.size W' Ds ∧ ∃ q, q <+: (1, 0) :: ys ∧ Jx q W') ?hI ?hIx ?h0
              (fun p => { tmps := #[.func (.yield l) #[] #[], .pointer (some ⟨Bt, 0, none⟩), .pointer (some ⟨Bu, 0, none⟩), .pointer (some ⟨W.heap.size, 0, none⟩), .int .i64 leaf, .pointer (some ⟨Bv, 0, none⟩), .int .i64 p, u7,
                .agg #[.int .u8 a, .int .i64 b, .int .i64 c], .int .i64 u, .int .i64 leaf, .func (.yield l) #[] #[], .bool true, .bool false, .int .i64 v, .int .i64 leaf, .bool true, u17, u18, u19,
                .pointer (some ⟨Bt, 0, none⟩), .int .u8 a, .bool false, u23, u24, u25, u26, u27, u28, .int .i64 v, .int .i64 leaf, .func (.func 155) #[] #[.pointer (some ⟨wr.heap.size, 0, none⟩), .pointer (some ⟨wr.heap.size + 1, 0, none⟩)],
                .int .i64 p, u33, u34, u35, u36, u37, u38, u39, u40, u41, u42, u43, u44, u45, u46, u47], defers := [] }) ?assign ?body ?done ?stop
            case hI =>
              rintro s X Y row ⟨r', h1, h2, h3, h4, h5, h6⟩ hg hr
              have sz : ((wr.alloc (.cells #[.int .i64 v] 139)).alloc (.cells #[.int .i64 leaf] 139)).heap.size = wr.heap.size + 2 := by simp
              rw [sz] at hr
              have hBv2 := A14.out.lt
              refine ⟨r', h1, (A1.out.le (by omega)) _ X Y row h2 hg hr, own9_boxed (β := Unit) 139 (fun _ => .int .i64 v) (.inl (by omega)) () X Y row h3 hg hr, own9_boxed (β := Unit) 188 (fun _ => .func (.yield l) #[] #[]) (.inl (by have := A15.out.lt; omega)) () X Y row h4 hg hr, ?_, h6.own (fun D hD => by have := AD.out D hD; omega) hg hr⟩
              exact (hg.block _ (Array.getElem?_eq_some_iff.1 h5).1 (fun e => by have := (hr _ e.symm).1; omega)).trans h5
            case hIx =>
              rintro cd s X Y row ⟨h1, h6, q, h2, h3⟩ hg hr
              have sz : ((wr.alloc (.cells #[.int .i64 v] 139)).alloc (.cells #[.int .i64 leaf] 139)).heap.size = wr.heap.size + 2 := by simp
              rw [sz] at hr
              exact ⟨h1, h6.own (fun D hD => by have := AD.out D hD; omega) hg hr, q, h2, (A2.out.le (by omega)) _ X Y row h3 hg hr⟩
            case h0 =>
              refine ⟨[], rfl, by rw [List.append_nil]; exact Own9.alloc A1.out _ (Own9.alloc A1.out _ hJ3), (A14.out.alloc _).alloc _, (A15.out.alloc _).alloc _, ?_, AM.out.keep (((KeepsOthers.alloc _ _).trans (KeepsOthers.alloc _ _)).from _)⟩
              exact (Below.heap_alloc _ _ _ (by simp; omega)).trans ((Below.heap_alloc _ _ _ hltTr).trans A16.out)
            case assign =>
              intro l2 p W2 K hK
              gi_wp2
              exact hK
            case body =>
              rintro l2 ps' p W2 ⟨r', h1, h2, h3, h4, h5, h6⟩ ⟨suf, hsuf⟩
              have BM := Aside0.mk h6
              have hr := A22.out
              rw [← hsuf, List.append_assoc, List.singleton_append] at hr
              obtain ⟨r1, w', s, r2, e1, e2, e3, e4, e5⟩ := innerF_split hr
              obtain rfl : r1 = r' := Option.some.inj (e1.symm.trans h1)
              have B1 := Aside0.mk e2; have B2 := Aside0.mk e3; have B3 := Aside0.mk e4; have B4 := Aside0.mk e5; have B5 := Aside0.mk h3; have B6 := Aside0.mk h4; have B7 := Aside0.mk h5
              have A23 := A12
              clear e1 e2 e3 e4 e5 h1 hr hsuf h3 h4 h5 h6 A12 A22 A21 bF bL A14 A15 A16
              have ct0 : W2.cell? ⟨Bt, 0, none⟩ = some (.int .u8 a) := by simp [World.cell?, B7.out]
              have ct1 : W2.cell? ⟨Bt, 1, none⟩ = some (.int .i64 b) := by simp [World.cell?, B7.out]
              have ct2 : W2.cell? ⟨Bt, 2, none⟩ = some (.int .i64 c) := by simp [World.cell?, B7.out]
              have c5 := B5.out.cell
              gi_wp2_with fail
              refine ⟨trivial, fun h => absurd h (by simp [Fence.wide]), (CallsIn.inRound l2 (callsIn_wide.2 (cover_node_sibling.calls p w' _ B1.out))).mono ?_⟩
              rintro e w4 ⟨rfl, ⟨nd, rfl⟩⟩
              have ct0 : (W2.drewN nd).cell? ⟨Bt, 0, none⟩ = some (.int .u8 a) := ct0
              have ct1 : (W2.drewN nd).cell? ⟨Bt, 1, none⟩ = some (.int .i64 b) := ct1
              have ct2 : (W2.drewN nd).cell? ⟨Bt, 2, none⟩ = some (.int .i64 c) := ct2
              have c5 : (W2.drewN nd).cell? ⟨Bv, 0, none⟩ = some (.int .i64 v) := c5
              gi_wp2_with fail
              refine ⟨trivial, fun h => absurd h (by simp [Fence.wide]), (CallsIn.inRound l2 (callsIn_wide.2 (cover_tree_subset.calls 9 a b c v w' s _ B2.out))).mono ?_⟩
              rintro e w5 ⟨rfl, hb5⟩
              have hJ5 : J ((1, 0) :: pre ++ r1) w5 := Own9.below A1.out (own9_drewN A1.out h2 nd) hb5
              have b5 : Boxed w5 Bv 139 (.int .i64 v) := boxed_below (show Boxed (W2.drewN nd) _ _ _ from B5.out) hb5
              have b6 : Boxed w5 W.heap.size 188 (.func (.yield l) #[] #[]) := boxed_below (show Boxed (W2.drewN nd) _ _ _ from B6.out) hb5
              have b7 : w5.heap[Bt]? = some (.cells #[.int .u8 a, .int .i64 b, .int .i64 c] 134 (0, 0)) := (hb5.block Bt (Array.getElem?_eq_some_iff.1 B7.out).1).trans B7.out
              have k5 : Kp9 W2 w5 := Kp9.of_below (X := W2.drewN nd) hb5
              have o5 : KeepsOthers W2 w5 := keepsOthers_drewN (n := nd) (keepsOthers_below hb5)
              have c5 := b5.cell
              have c6 := b6.cell
              have C5 := Aside0.mk b5; have C6 := Aside0.mk b6; have C7 := Aside0.mk b7; have C8 := Aside0.mk k5; have C9 := Aside0.mk o5
              clear b5 b6 b7 k5 o5 hb5 ct0 ct1 ct2 B5 B6 B7 h2
              cases s with
              | false =>
                gi_wp2
                refine ⟨fun _ h => (by cases h), ?_⟩
                gi_wp2
                exact ⟨C9.out.from _, C8.out, r1, by have h := B4.out; simpa using h, hJ5, C5.out, C6.out, C7.out, BM.out.keep (C9.out.from _)⟩
              | true =>
                obtain ⟨q, hy2, hR2⟩ := yield_bool (A3.out ((1, 0) :: pre ++ r1) (v, w') w5 hJ5 ⟨r2 ++ rest', by rw [A23.out, B3.out]; simp⟩)
                dsimp only [enc2] at hy2
                gi_wp2
                refine ⟨fun h => absurd h (by simp [Fence.wide]), roundIn_wide (hR2.mono ?_)⟩
                rintro e w6 ⟨bb, rfl, hbb⟩
                clear hy2 hR2
                rcases hbb with ⟨rfl, hJ6, hk6, ho6⟩ | ⟨rfl, hJx6, ho6⟩
                · gi_wp2
                  refine ⟨?_, C8.out.trans hk6, r1 ++ [(v, w')], by have h := B4.out; simpa using h, by rw [← List.append_assoc]; exact hJ6, hk6.boxed C5.out (.inr (.inl rfl)), hk6.boxed C6.out (.inr (.inr rfl)), hk6 _ _ _ _ C7.out (.inl rfl), (BM.out.keep (C9.out.from _)).keep (hB0 ▸ ho6)⟩
                  refine (C9.out.from _).trans ⟨ho6.size, fun k o hk ho hc => ho6.same k o (by simp at hk; omega) ho hc⟩
                · gi_wp2
                  refine ⟨(C9.out.from _).trans ⟨ho6.size, fun k o hk ho hc => ho6.same k o (by simp at hk; omega) ho hc⟩, rfl, (BM.out.keep (C9.out.from _)).keep (hB0 ▸ ho6), (1, 0) :: pre ++ r1 ++ [(v, w')], ⟨r2 ++ rest', by rw [A23.out, B3.out]; simp⟩, hJx6⟩
            case done =>
              rintro D W3 hD ⟨r', h1, h2, h3, h4, h5, h6⟩ hK
              obtain rfl : r' = r := Option.some.inj (h1.symm.trans A22.out)
              have hsz2 : wr.heap.size + 2 ≤ D := by simp at hD; omega
              have B5 := Aside0.mk h3; have B6 := Aside0.mk h4; have B7 := Aside0.mk h5; have B8 := Aside0.mk hK; have B9 := Aside0.mk h6
              have c5 := h3.cell
              clear h1 h3 h4 h5 h6 hK hD bF bL
              gi_wp2_with fail
              refine ⟨trivial, fun h => absurd h (by simp [Fence.wide]), (callsIn_wide.2 (cover_node_toward.calls v leaf x _ A18.out)).mono ?_⟩
              rintro e w4 ⟨rfl, ⟨nd2, rfl⟩⟩
              gi_wp2
              refine Handed.intro kq (by omega) (hJg _ _ _ ?_)
              have hle : W.heap.size ≤ W3.heap.size := by have := B6.out.lt; omega
              have bN : Boxed ((W3.alloc (.cells #[.int .i64 v] 139)).drewN nd2) W3.heap.size 139 (.int .i64 v) := Boxed.new W3 139 _
              have hDlt := (Array.getElem?_eq_some_iff.1 B8.out).1
              refine ⟨pre ++ r', rest', x, W3.heap.size, D :: Ds, _, _, _, _, _, _, _, _, _, _, _, _, _, _, _, _, _, _, _, _, _, _, _, _, _, _, _, _, _, _, _, _, _, _, _, _, rfl, ?_, by rw [A12.out]; simp, A19.out, ?_, Boxed.set _ bN, hle, ?_, ?_⟩
              · have ko : KeepsFrom W.heap.size W3 (((W3.alloc (.cells #[.int .i64 v] 139)).drewN nd2).setCell ⟨W3.heap.size, 0, none⟩ (.int .i64 x)) := ((KeepsOthers.alloc W3 _).trans ⟨by simp, fun k o hk ho => (KeepsOthers.setCell ((W3.alloc (.cells #[.int .i64 v] 139)).drewN nd2) ⟨W3.heap.size, 0, none⟩ (.int .i64 x)).same k o hk ho⟩).from _
                exact (B9.out.cons (by omega) (fun E hE => by have := AD.out E hE; omega) B8.out).keep ko
              · exact A1.out _ _ _ (some W3.heap.size) (own9_drewN A1.out (Own9.alloc A1.out _ h2) nd2) (grownBy_setCell' _ _ _) (fun r e => by cases e; exact ⟨hle, _, bN, .inr ⟨_, _, _, rfl, .inr (.inl rfl)⟩⟩)
              · exact Boxed.other (show Boxed ((W3.alloc (.cells #[.int .i64 v] 139)).drewN nd2) W.heap.size 188 _ from B6.out.alloc _) (fun e => by have := B6.out.lt; omega) _
              · have hlt := (Array.getElem?_eq_some_iff.1 B7.out).1
                exact (Below.heap_setCell _ _ _ _ (fun e => by have e' : Bt = W3.heap.size := e; omega)).trans ((Below.heap_alloc W3 _ Bt hlt).trans B7.out)
            case stop =>
              rintro D cd pre' W3 hD hpre ⟨rfl, h6, q, h2, h3⟩ hK
              gi_wp2
              have hsz2 : wr.heap.size + 2 ≤ D := by simp at hD; omega
              exact leaves_marks (S := fun w => ∃ q, q <+: (1, 0) :: ys ∧ Jx q w) (fun w E e1 e2 e3 => by obtain ⟨q, e4, e5⟩ := e3; exact ⟨q, e4, Own9.putObj A2.out _ e5 e1 e2 rfl⟩) (fun w h => ⟨_, results_none rfl _ _ _, ⟨_, rfl⟩, .inr h⟩) (D :: Ds) W3 (h6.cons (by omega) (fun E hE => by have := AD.out E hE; omega) hK) ⟨q, h2, h3⟩
  · gi_wp2
    exact ⟨_, results_none rfl _ _ _, ⟨_, rfl⟩, .inr ⟨[(1, 0)], ⟨ys, rfl⟩, hJx2⟩⟩
theorem labels_calls (a b c u : Int) (w : World) :
    Calls Try.prog 82 #[.agg #[.int .u8 a, .int .i64 b, .int .i64 c], .int .i64 u] w fun e w' => e = .returned (.func (.func 129) #[] #[.pointer (some ⟨w.heap.size, 0, none⟩), .pointer (some ⟨w.heap.size + 1, 0, none⟩)]) ∧ w' = (w.alloc (.cells #[.int .u8 a, .int .i64 b, .int .i64 c] 134)).alloc (.cells #[.int .i64 u] 3) := by
  go_enter Try.func82, Try.ntmps82
  go_wp2
  go_ret
  exact ⟨rfl, rfl⟩
theorem labels_seq9 (n : Nat) (hn : 3 ≤ n) (Bt Bu : Nat) (a b c u : Int) (xs : List (Int × Int)) (hx : labelsF a b c u = some xs) (w : World)
    (hbt : w.heap[Bt]? = some (.cells #[.int .u8 a, .int .i64 b, .int .i64 c] 134 (0, 0))) (hbu : Boxed w Bu 3 (.int .i64 u)) :
    Seq9 Try.prog n 129 #[.pointer (some ⟨Bt, 0, none⟩), .pointer (some ⟨Bu, 0, none⟩)] enc2 xs w := fun l J Jx W hW hJ hJx hY h0 => by
  have h1 : W.heap[Bt]? = some (.cells #[.int .u8 a, .int .i64 b, .int .i64 c] 134 (0, 0)) := (hW.block Bt (Array.getElem?_eq_some_iff.1 hbt).1).trans hbt
  by_cases ha : a = 1
  · exact labels1_sub n l Bt Bu W.heap.size a b c u ha xs hx J Jx W hJ hJx hY h1 (boxed_below hbu hW) h0
  · exact labels1_dif n hn l Bt Bu W.heap.size a b c u ha xs hx J Jx W rfl hJ hJx hY h1 (boxed_below hbu hW) h0
end Go.Proofs.Ytafhimeoijmolaa.G
namespace Go.Proofs.Ytafhimeoijmolaa.K
open Go.RowKit Go.Shelf Go.Proofs.YtafhimeoijmolaaW.PrintWords Go.Proofs.YtafhimeoijmolaaW.PrintLast Go.Proofs.YtafhimeoijmolaaW.PrintMore Go.Proofs.Ytafhimeoijmolaa.G Go.Proofs.Ytafhimeoijmolaa.R9
attribute [local go_sem] Oper.semAt_some
set_option linter.unusedVariables false
set_option linter.unusedSimpArgs false
def descK (k : S26) (xs : List Int) : S26 := xs.foldl (fun k x => derK k (if Int.tmod x 2 = 1 then 32 else 31) 0) k
theorem own9_blk {β : Type} {B b t : Nat} (f : β → Array Value) (ht : ¬ Mine t) : Own9 B (fun s W => W.heap[b]? = some (.cells (f s) t (0, 0))) := fun s W W' row hs hg hr => by
  refine (hg.block b (Array.getElem?_eq_some_iff.1 hs).1 (fun e => ?_)).trans hs
  obtain ⟨_, o, h2, h3⟩ := hr b e.symm
  rw [hs] at h2
  cases h2
  rcases h3 with h3 | ⟨cs, m, T, h5, h6⟩
  · cases h3
  · cases h5; exact ht h6
theorem putK_kp {W : World} {g : Nat} {cs : Array Value} {t : TypeId} (h : W.heap[g]? = some (.cells cs t (0, 0))) (ht : ¬ Mine t) (k : S26) : Kp9 W (putK W g k) := by
  intro j cs' T m hx hT
  refine putK_obj hx (fun e => ?_) k
  subst e
  rw [h] at hx
  cases hx
  exact ht hT
theorem putK_others (W : World) (g : Nat) (k : S26) : KeepsOthers W (putK W g k) := by
  simp only [putK]
  have e : ∀ (X : World) (p : Addr) (v : Value), KeepsOthers W X → KeepsOthers W (X.setCell p v) := fun X p v h => h.trans (KeepsOthers.setCell _ _ _)
  repeat (refine e _ _ _ ?_)
  exact KeepsOthers.refl W
set_option maxHeartbeats 4000000 in
set_option maxRecDepth 100000 in
theorem descend_calls (k : S26) (v t : Int) (xs : List Int) (k0 : Nat) (hp : pathF k0 v t = some xs) (w : World) :
    Calls Try.prog 93 #[kv k, .int .i64 v, .int .i64 t] w fun e w' => e = .returned (kv (descK k xs)) ∧ Below w.heap.size w w' := by
  have hu26 := Try.underlying26
  have HP := Aside0.mk hp
  clear hp
  refine (callsIn_wide (n := 9)).1 ?_
  refine callsIn_of_wp_marks Try.func93 rfl trivial ?_ rfl
  simp only [Try.ntmps93, List.size_toArray, List.length_cons, List.length_nil, Nat.reduceAdd, Nat.reduceSub, Array.replicate_succ, Array.replicate_zero, List.push_toArray, List.append_toArray, List.nil_append, List.cons_append]
  gi_wp2_with fail
  refine ⟨trivial, (callsIn_wide.2 (path_calls v t _)).mono ?_⟩
  rintro e1 w1 ⟨rfl, rfl⟩
  simp only [World.size_alloc]
  gi_wp2
  obtain ⟨W0, hW0⟩ : ∃ W0, (((w.alloc (.cells (kc k) 26)).alloc (.cells #[.int .u8 0, .int .u8 0, .int .u8 0, .int .u8 0, .int .u8 0, .int .u8 0, .int .u8 0, .int .u8 0, .int .u8 0, .int .u8 0, .int .u8 0, .int .u8 0, .int .u8 0, .int .u8 0, .int .u8 0, .int .u8 0] 26)).alloc (.cells #[.int .i64 v] 139)).alloc (.cells #[.int .i64 t] 139) = W0 := ⟨_, rfl⟩
  have s0 : W0.heap.size = w.heap.size + 4 := by rw [← hW0]; simp
  have bK : W0.heap[w.heap.size]? = some (.cells (kc k) 26 (0, 0)) := by rw [← hW0]; exact blk_alloc (blk_alloc (blk_alloc (newAt rfl) _) _) _
  have bR : W0.heap[w.heap.size + 1]? = some (.cells (kc z26) 26 (0, 0)) := by rw [← hW0]; exact blk_alloc (blk_alloc (newAt (by simp)) _) _
  have bF : Boxed W0 (w.heap.size + 1 + 1) 139 (.int .i64 v) := by rw [← hW0]; exact blk_alloc (newAt (by simp)) _
  have bT : Boxed W0 (w.heap.size + 1 + 1 + 1) 139 (.int .i64 t) := by rw [← hW0]; exact newAt (by simp)
  have HB0 : Below w.heap.size w W0 := by rw [← hW0]; exact ((((Below.refl _ w).alloc (Nat.le_refl _) _).alloc (by simp) _).alloc (by simp; omega) _).alloc (by simp; omega) _
  rw [hW0]
  clear hW0
  refine wpIn_range9s (P := Try.prog) (gf := 155) (lb := #[.pointer (some ⟨w.heap.size + 1 + 1, 0, none⟩), .pointer (some ⟨w.heap.size + 1 + 1 + 1, 0, none⟩)]) rfl (enters_of Try.func155 (by kernel_rfl) rfl)
    (path_seq9 (9 - 1) _ _ v t k0 xs HP.out _ bF bT) (Below.refl _ _) (fun _ => rfl)
    (fun pre W => (W.heap[w.heap.size]? = some (.cells (kc (descK k pre)) 26 (0, 0)) ∧ W.heap[w.heap.size + 1]? = some (.cells (kc z26) 26 (0, 0))) ∧ Below w.heap.size w W) (fun _ _ _ => False) ?hI (fun _ _ _ _ _ hs _ _ => hs) ⟨⟨bK, bR⟩, HB0⟩ ?round ?done ?stop
  case hI => exact ((own9_blk _ (by intro h; rcases h with h | h | h <;> cases h)).and (own9_blk _ (by intro h; rcases h with h | h | h <;> cases h))).and (own9_below (Nat.le_refl _) (by omega))
  case round =>
    intro l pre x W hpx
    gi_wp2
    refine ⟨trivial, ?_⟩
    rintro W2 ⟨⟨b1, b2⟩, b3⟩
    obtain ⟨K0, hK0⟩ : ∃ K0, K0 = descK k pre := ⟨_, rfl⟩
    rw [← hK0] at b1
    obtain ⟨c0, c1, c2, c3, c4, c5, c6, c7, c8, c9, c10, c11, c12, c13, c14, c15⟩ := cells16 b1
    have HK0 := Aside0.mk hK0; have B1 := Aside0.mk b1; have B2 := Aside0.mk b2; have B3 := Aside0.mk b3
    clear b1 b2 b3 hK0 hpx
    by_cases hx : Int.tmod x 2 = 1
    · have e0 : (Int.tmod x 2 == 1) = true := beq_iff_eq.mpr hx
      have HX := Aside0.mk hx
      clear hx
      gi_wp2_with fail
      refine ⟨trivial, (CallsIn.inRound l (callsIn_wide.2 (Derive_calls K0 32 0 W2))).mono ?_⟩
      rintro e3 w3 ⟨rfl, hb3⟩
      obtain ⟨K, hK⟩ : ∃ K, K = derK K0 32 0 := ⟨_, rfl⟩
      rw [← hK]
      have b1 := blk_to B1.out hb3
      obtain ⟨d0, d1, d2, d3, d4, d5, d6, d7, d8, d9, d10, d11, d12, d13, d14, d15⟩ := cells16 b1
      obtain ⟨f0, f1, f2, f3, f4, f5, f6, f7, f8, f9, f10, f11, f12, f13, f14, f15⟩ := frozen16 b1
      have B4 := Aside0.mk b1; have B5 := Aside0.mk hb3; have HK := Aside0.mk hK
      clear b1 hb3 hK c0 c1 c2 c3 c4 c5 c6 c7 c8 c9 c10 c11 c12 c13 c14 c15
      gi_wp2
      have hk3 : KeepsOthers W2 w3 := keepsOthers_below B5.out
      refine ⟨(hk3.trans (putK_others _ _ _)).from _, (Kp9.of_below B5.out).trans (putK_kp B4.out (by intro h; rcases h with h | h | h <;> cases h) K), ⟨?_, ?_⟩, ?_⟩
      · have e : descK k (pre ++ [x]) = K := by
          rw [HK.out, HK0.out]; unfold descK; rw [List.foldl_append]; simp only [List.foldl_cons, List.foldl_nil]; rw [if_pos HX.out]
        rw [e]
        exact putK_at B4.out K
      · exact putK_far (blk_to B2.out B5.out) (by omega) K
      · exact putK_below (B3.out.trans (B5.out.mono B3.out.size)) (Nat.le_refl _)
    · have e0 : (Int.tmod x 2 == 1) = false := beq_eq_false_iff_ne.mpr hx
      have HX := Aside0.mk hx
      clear hx
      gi_wp2_with fail
      refine ⟨trivial, (CallsIn.inRound l (callsIn_wide.2 (Derive_calls K0 31 0 W2))).mono ?_⟩
      rintro e3 w3 ⟨rfl, hb3⟩
      obtain ⟨K, hK⟩ : ∃ K, K = derK K0 31 0 := ⟨_, rfl⟩
      rw [← hK]
      have b1 := blk_to B1.out hb3
      obtain ⟨d0, d1, d2, d3, d4, d5, d6, d7, d8, d9, d10, d11, d12, d13, d14, d15⟩ := cells16 b1
      obtain ⟨f0, f1, f2, f3, f4, f5, f6, f7, f8, f9, f10, f11, f12, f13, f14, f15⟩ := frozen16 b1
      have B4 := Aside0.mk b1; have B5 := Aside0.mk hb3; have HK := Aside0.mk hK
      clear b1 hb3 hK c0 c1 c2 c3 c4 c5 c6 c7 c8 c9 c10 c11 c12 c13 c14 c15
      gi_wp2
      have hk3 : KeepsOthers W2 w3 := keepsOthers_below B5.out
      refine ⟨(hk3.trans (putK_others _ _ _)).from _, (Kp9.of_below B5.out).trans (putK_kp B4.out (by intro h; rcases h with h | h | h <;> cases h) K), ⟨?_, ?_⟩, ?_⟩
      · have e : descK k (pre ++ [x]) = K := by
          rw [HK.out, HK0.out]; unfold descK; rw [List.foldl_append]; simp only [List.foldl_cons, List.foldl_nil]; rw [if_neg HX.out]
        rw [e]
        exact putK_at B4.out K
      · exact putK_far (blk_to B2.out B5.out) (by omega) K
      · exact putK_below (B3.out.trans (B5.out.mono B3.out.size)) (Nat.le_refl _)
  case done =>
    rintro D W hD ⟨⟨b1, b2⟩, b3⟩ hK
    obtain ⟨K0, hK0⟩ : ∃ K0, K0 = descK k xs := ⟨_, rfl⟩
    rw [← hK0] at b1
    obtain ⟨c0, c1, c2, c3, c4, c5, c6, c7, c8, c9, c10, c11, c12, c13, c14, c15⟩ := cells16 b1
    obtain ⟨d0, d1, d2, d3, d4, d5, d6, d7, d8, d9, d10, d11, d12, d13, d14, d15⟩ := cells16 b2
    obtain ⟨f0, f1, f2, f3, f4, f5, f6, f7, f8, f9, f10, f11, f12, f13, f14, f15⟩ := frozen16 b2
    have HK0 := Aside0.mk hK0; have B2 := Aside0.mk b2; have B3 := Aside0.mk b3; have HKD := Aside0.mk hK
    clear b1 b2 b3 hK0 hK
    gi_wp2
    refine ⟨by simp, .inl ⟨_, _, rfl, run_takeDeferred (putK_obj HKD.out (by omega) K0), ?_⟩⟩
    refine ⟨kv K0, results_cell_row rfl _ _ (w.heap.size + 1) 26 (kc K0) (0, 0) _ rfl ((World.putObj_heap_other (by omega)).trans (putK_at B2.out K0)) Try.underlying26 rfl (by kernel_rfl), by rw [HK0.out], ?_⟩
    have hb : Below w.heap.size w (putK W (w.heap.size + 1) K0) := putK_below B3.out (by omega)
    exact hb.trans (belowK_b (w := w) (Nat.le_refl _) _ D _ _ (by omega) (putK_obj HKD.out (by omega) K0) rfl rfl)
  case stop =>
    rintro D c pre W _ _ h _
    exact h.elim
end Go.Proofs.Ytafhimeoijmolaa.K
namespace Go.Proofs.Ytafhimeoijmolaa.K
open Go.RowKit  Go.Proofs.YtafhimeoijmolaaW.PrintWords Go.Proofs.YtafhimeoijmolaaW.PrintLast Go.Proofs.YtafhimeoijmolaaW.PrintMore Go.Proofs.Ytafhimeoijmolaa.G
set_option linter.unusedVariables false
set_option linter.unusedSimpArgs false
def keyI (a v t : Int) (xs : List Int) (root : S26) : S26 := if a = 1 then nodeK root v else if t = 0 then derK root 34 0 else derK (descK (nodeK root v) xs) 33 0
set_option maxHeartbeats 4000000 in
set_option maxRecDepth 100000 in
theorem ckey_calls (a b c v t : Int) (root : S26) (xs : List Int) (k0 : Nat) (hp : a ≠ 1 → t ≠ 0 → pathF k0 v t = some xs) (w : World) :
    Calls Try.prog 88 #[.agg #[.int .u8 a, .int .i64 b, .int .i64 c], kv root, .agg #[.int .i64 v, .int .i64 t]] w fun e w' => e = .returned (kv (keyI a v t xs root)) ∧ Below w.heap.size w w' := by
  obtain ⟨W0, hW0⟩ : ∃ W0, ((((w.alloc (.cells #[.int .u8 a, .int .i64 b, .int .i64 c] 134)).alloc (.cells (kc root) 26)).alloc (.cells #[.int .i64 v, .int .i64 t] 47)).alloc (.cells (kc z26) 26)) = W0 := ⟨_, rfl⟩
  have B0 := Aside0.mk (show W0.heap[w.heap.size]? = some (.cells #[.int .u8 a, .int .i64 b, .int .i64 c] 134 (0, 0)) by rw [← hW0]; exact (blk_alloc (blk_alloc (blk_alloc (newAt rfl) _) _) _))
  have B1 := Aside0.mk (show W0.heap[w.heap.size + 1]? = some (.cells (kc root) 26 (0, 0)) by rw [← hW0]; exact (blk_alloc (blk_alloc (newAt (by simp)) _) _))
  have B2 := Aside0.mk (show W0.heap[w.heap.size + 1 + 1]? = some (.cells #[.int .i64 v, .int .i64 t] 47 (0, 0)) by rw [← hW0]; exact (blk_alloc (newAt (by simp)) _))
  have B3 := Aside0.mk (show W0.heap[w.heap.size + 1 + 1 + 1]? = some (.cells (kc z26) 26 (0, 0)) by rw [← hW0]; exact (newAt (by simp)))
  have BB := Aside0.mk (show Below w.heap.size w W0 by rw [← hW0]; exact (((((Below.refl _ w).alloc (Nat.le_refl _) _).alloc (by simp) _).alloc (by simp; omega) _).alloc (by simp; omega) _))
  have BBs := Aside0.mk (show w.heap.size + 4 = W0.heap.size by rw [← hW0]; simp)
  have HW := Aside0.mk hW0
  clear hW0
  have HP := Aside0.mk hp
  obtain ⟨R, hR⟩ : ∃ R, R = keyI a v t xs root := ⟨_, rfl⟩
  rw [← hR]
  have HR := Aside0.mk hR
  clear hp hR
  go_enter Try.func88, Try.ntmps88
  go_wp2_with fail
  show Code.wp _ _ _ _ ((((w.alloc (.cells #[.int .u8 a, .int .i64 b, .int .i64 c] 134)).alloc (.cells (kc root) 26)).alloc (.cells #[.int .i64 v, .int .i64 t] 47)).alloc (.cells (kc z26) 26))
  rw [HW.out]
  have x0 := cat B2.out 0 (.int .i64 v) rfl
  have x1 := cat B2.out 1 (.int .i64 t) rfl
  go_quiet (fail)
  clear x0 x1
  have a0 : ∀ n, (W0.drewN n).cell? ⟨w.heap.size, 0, none⟩ = some (.int .u8 a) := fun n => cat B0.out 0 (.int .u8 a) rfl
  by_cases h1 : a = 1
  · have E1 := Aside0.mk (show R = nodeK root v from HR.out.trans (if_pos h1))
    have b1 : (a == 1) = true := beq_iff_eq.mpr h1
    clear h1
    go_wp2_with (first
      | ((with_reducible refine ldR rfl rfl (blk_drewN B1.out _) ?_ ?_ ?_); rfl; exact row26)
      | (go_at_call 94; refine (nodeKey_calls root v _).mono ?_; rintro e1 w1 ⟨rfl, hb1⟩; obtain ⟨K, hK⟩ : ∃ K, K = nodeK root v := ⟨_, rfl⟩; rw [← hK]; have HK := Aside0.mk hK; have HB := Aside0.mk hb1; clear hK hb1)
      | ((with_reducible refine stR rfl rfl (blk_to (blk_drewN B3.out _) HB.out) (kc K) ?_ ?_ ?_ ?_ ?_ ?_); rfl; rfl; exact row26; rfl; rfl; intro W2 P1))
    refine bodyPost_ret (results_cell_row rfl _ _ _ 26 _ (0, 0) _ rfl P1.at_ Try.underlying26 rfl (by kernel_rfl)) rfl ?_
    exact ⟨by rw [E1.out, HK.out], P1.below ((pw_below_drewN BB.out _).trans (HB.out.mono BB.out.size)) (by omega)⟩
  · have b1 : (a == 1) = false := beq_eq_false_iff_ne.mpr h1
    by_cases h2 : t = 0
    · have E1 := Aside0.mk (show R = derK root 34 0 by rw [HR.out]; unfold keyI; rw [if_neg h1, if_pos h2])
      have b2 : (t == 0) = true := beq_iff_eq.mpr h2
      clear h1 h2
      go_wp2_with (first
        | ((with_reducible refine ldR rfl rfl (blk_drewN B1.out _) ?_ ?_ ?_); rfl; exact row26)
        | (go_at_call 86; refine (Derive_calls root 34 0 _).mono ?_; rintro e1 w1 ⟨rfl, hb1⟩; obtain ⟨K, hK⟩ : ∃ K, K = derK root 34 0 := ⟨_, rfl⟩; rw [← hK]; have HK := Aside0.mk hK; have HB := Aside0.mk hb1; clear hK hb1)
        | ((with_reducible refine stR rfl rfl (blk_to (blk_drewN B3.out _) HB.out) (kc K) ?_ ?_ ?_ ?_ ?_ ?_); rfl; rfl; exact row26; rfl; rfl; intro W2 P1))
      refine bodyPost_ret (results_cell_row rfl _ _ _ 26 _ (0, 0) _ rfl P1.at_ Try.underlying26 rfl (by kernel_rfl)) rfl ?_
      exact ⟨by rw [E1.out, HK.out], P1.below ((pw_below_drewN BB.out _).trans (HB.out.mono BB.out.size)) (by omega)⟩
    · have E1 := Aside0.mk (show R = derK (descK (nodeK root v) xs) 33 0 by rw [HR.out]; unfold keyI; rw [if_neg h1, if_neg h2])
      have b2 : (t == 0) = false := beq_eq_false_iff_ne.mpr h2
      have HP2 := Aside0.mk (HP.out h1 h2)
      clear h1 h2 HP
      go_wp2_with (first
        | ((with_reducible refine ldR rfl rfl (blk_drewN B1.out _) ?_ ?_ ?_); rfl; exact row26)
        | (go_at_call 94; refine (nodeKey_calls root v _).mono ?_; rintro e1 w1 ⟨rfl, hb1⟩; obtain ⟨K, hK⟩ : ∃ K, K = nodeK root v := ⟨_, rfl⟩; rw [← hK]; have HK := Aside0.mk hK; have HB := Aside0.mk hb1; clear hK hb1)
        | (go_at_call 93; refine (descend_calls K v t xs k0 HP2.out _).mono ?_; rintro e2 w2 ⟨rfl, hb2⟩; obtain ⟨K2, hK⟩ : ∃ K2, K2 = descK K xs := ⟨_, rfl⟩; rw [← hK]; have HK2 := Aside0.mk hK; have HB2 := Aside0.mk hb2; clear hK hb2)
        | (go_at_call 135; refine (middle_calls K2 _).mono ?_; rintro e3 w3 ⟨rfl, hb3⟩; obtain ⟨K3, hK⟩ : ∃ K3, K3 = derK K2 33 0 := ⟨_, rfl⟩; rw [← hK]; have HK3 := Aside0.mk hK; have HB3 := Aside0.mk hb3; clear hK hb3)
        | ((with_reducible refine stR rfl rfl (blk_to (blk_to (blk_to (blk_drewN B3.out _) HB.out) HB2.out) HB3.out) (kc K3) ?_ ?_ ?_ ?_ ?_ ?_); rfl; rfl; exact row26; rfl; rfl; intro W2 P1))
      refine bodyPost_ret (results_cell_row rfl _ _ _ 26 _ (0, 0) _ rfl P1.at_ Try.underlying26 rfl (by kernel_rfl)) rfl ?_
      have hb : Below w.heap.size w w1 := (pw_below_drewN BB.out _).trans (HB.out.mono BB.out.size)
      have hb2 : Below w.heap.size w w2 := hb.trans (HB2.out.mono hb.size)
      exact ⟨by rw [E1.out, HK3.out, HK2.out, HK.out], P1.below (hb2.trans (HB3.out.mono hb2.size)) (by omega)⟩
end Go.Proofs.Ytafhimeoijmolaa.K
namespace Go.Proofs.Ytafhimeoijmolaa.G
open Go.RowKit Go.Proofs.YtafhimeoijmolaaW.PrintWords Go.Proofs.YtafhimeoijmolaaW.PrintLast Go.Proofs.YtafhimeoijmolaaW.PrintMore
attribute [local go_sem] max2_int min2_int max_two min_two max_three min_three max_four min_four   -- for this text's walks alone
set_option linter.unusedVariables false
set_option linter.unusedSimpArgs false
def cover_enter.l0 : Nat → List (S47) → Int → Int → Int → Int → Int → Option (Int × Int × Int × Int)
 | 0, _, _, _, _, _, _ => none
 | k + 1, x18, x19, x20, x392000, x392001, x392002 => if x20 < x19 then (if 0 ≤ x20 then (if x20 < (x18.length : Int) then ((cover_tree_subset.f k x392000 x392001 x392002 ((rd_T47 x18 x20).f0) ((rd_T47 x18 x20).f1)).bind fun t394 => (if t394 = true then (cover_enter.l0 k x18 x19 (wrap64 (x20 + 1)) x392000 x392001 x392002) else (some (0, 0, 0, 31)))) else (none)) else (none)) else (some (x392000, x392001, x392002, 0))
def cover_enter.f (k : Nat) (a0_0 : Int) (a0_1 : Int) (a0_2 : Int) (a0_3 : Int) (a0_4 : Int) (a0_5 : Int) (l1 : List (S47)) : Option (Int × Int × Int × Int) := (cover_treeOf.f k a0_0 a0_1 a0_2 a0_3 a0_4 a0_5).bind fun bt387 => (if bt387.2.2.2 = true then (cover_enter.l0 k l1 (l1.length : Int) 0 bt387.1 bt387.2.1 bt387.2.2.1) else (some (0, 0, 0, 30)))
set_option maxHeartbeats 8000000 in
set_option maxRecDepth 100000 in
theorem cover_enter.calls (k : Nat) (a0_0 : Int) (a0_1 : Int) (a0_2 : Int) (a0_3 : Int) (a0_4 : Int) (a0_5 : Int) (A1 : Option Addr) (c1 : Nat) (l1 : List (S47)) (r1 : Int) (r2 : Int) (r3 : Int) (r4 : Int) (w : World) (hr1 : Kd.C k47 w A1 l1.length l1) (hc1 : l1.length ≤ c1) (h : cover_enter.f k a0_0 a0_1 a0_2 a0_3 a0_4 a0_5 l1 = some (r1, r2, r3, r4)) :
  Calls Try.prog 74 #[.agg #[.int .u8 a0_0, .int .i64 a0_1, .int .i64 a0_2, .int .u64 a0_3, .int .u64 a0_4, .int .u64 a0_5], .slice A1 l1.length c1] w fun e w' => e = .returned (.tuple #[.agg #[.int .u8 r1, .int .i64 r2, .int .i64 r3], .int .i64 r4]) ∧ Below w.heap.size w w' := by
 have hu45 := Try.underlying45
 have hu134 := Try.underlying134
 have hu47 := Try.underlying47
 have HR1 := Aside0.mk hr1
 have HC1 := Aside0.mk hc1
 clear hr1 hc1
 have HB := Aside0.mk (Below.refl w.heap.size w)
 have H : ((cover_treeOf.f k a0_0 a0_1 a0_2 a0_3 a0_4 a0_5).bind fun bt387 => (if bt387.2.2.2 = true then (cover_enter.l0 k l1 (l1.length : Int) 0 bt387.1 bt387.2.1 bt387.2.2.1) else (some (0, 0, 0, 30)))) = some (r1, r2, r3, r4) := h
 clear h
 replace H := Option.bind_eq_some_iff.mp H
 obtain ⟨⟨t387, t388, t389, t390⟩, A30, H⟩ := H
 replace H : (if t390 = true then (cover_enter.l0 k l1 (l1.length : Int) 0 t387 t388 t389) else (some (0, 0, 0, 30))) = some (r1, r2, r3, r4) := H
 have A3 := Aside0.mk A30
 clear A30
 by_cases c4 : t390 = true
 ·subst c4
  have H1 : (cover_enter.l0 k l1 (l1.length : Int) 0 t387 t388 t389) = some (r1, r2, r3, r4) := by rw [if_pos rfl] at H; exact H
  clear H
  have H := H1
  clear H1
  have H' := Aside0.mk H
  clear H
  go_enter Try.func74, Try.ntmps74
  go_wp2_with (first | ((with_reducible refine gate_dst (N := 2) rfl ?_); refine box_event ?hg (N := 2) ?hd (cs := #[.int .u8 a0_0, .int .i64 a0_1, .int .i64 a0_2, .int .u64 a0_3, .int .u64 a0_4, .int .u64 a0_5]) (t := 45) ?hr ?_; (case hd => rfl); (case hg => rfl); (case hr => first | (go_simp; done) | (go_simp; rfl)); intro gb385 hg w5 hbox hb; have n0_ := Aside0.mk (below_step (by repeat (first | (with_reducible first | exact HB.out | apply below_alloc | apply pw_below_drewN | apply below_drew1) | exact HB.out)) hb); have n1_ := Aside0.mk (hbox); have n2_ := Aside0.mk ((by rw [hg]; exact (below_size (by repeat (first | (with_reducible first | exact HB.out | apply below_alloc | apply pw_below_drewN | apply below_drew1) | exact HB.out))) : w.heap.size ≤ gb385)); have n3_ := Aside0.mk ((by rw [hg]; exact (below_size (by repeat (first | (with_reducible first | exact HB.out | apply below_alloc | apply pw_below_drewN | apply below_drew1) | exact HB.out))) : w.heap.size ≤ gb385)); clear HB; have HB := n0_; have BK385 := n1_; have GW385 := n2_; have GE385 := n3_; clear n0_ n1_ n2_ n3_; clear hb hbox hg) | ((with_reducible refine gate_dst (N := 4) rfl ?_); refine box_event ?hg (N := 4) ?hd (cs := #[.int .u8 0, .int .i64 0, .int .i64 0]) (t := 134) ?hr ?_; (case hd => rfl); (case hg => rfl); (case hr => first | (go_simp; done) | (go_simp; rfl)); intro gb386 hg w6 hbox hb; have n0_ := Aside0.mk (blk_below (g := gb385) (o := .cells #[.int .u8 a0_0, .int .i64 a0_1, .int .i64 a0_2, .int .u64 a0_3, .int .u64 a0_4, .int .u64 a0_5] 45 (0, 0)) (by (with_reducible repeat (first | refine blk_drewN ?_ _ | refine blk_drew ?_ | refine blk_alloc ?_ _)); exact BK385.out) hb); have n1_ := Aside0.mk (below_step (by repeat (first | (with_reducible first | exact HB.out | apply below_alloc | apply pw_below_drewN | apply below_drew1 | refine below_set ?_ GE385.out) | exact HB.out)) hb); have n2_ := Aside0.mk (hbox); have n3_ := Aside0.mk ((by rw [hg]; exact (below_size (by repeat (first | (with_reducible first | exact HB.out | apply below_alloc | apply pw_below_drewN | apply below_drew1 | refine below_set ?_ GE385.out) | exact HB.out))) : w.heap.size ≤ gb386)); have n4_ := Aside0.mk ((by rw [hg]; exact (below_size (by repeat (first | (with_reducible first | exact HB.out | apply below_alloc | apply pw_below_drewN | apply below_drew1 | refine below_set ?_ GE385.out) | exact HB.out))) : w.heap.size ≤ gb386)); have n5_ := Aside0.mk ((by rw [hg]; exact Nat.ne_of_lt (blk_lt (g := gb385) (o := .cells #[.int .u8 a0_0, .int .i64 a0_1, .int .i64 a0_2, .int .u64 a0_3, .int .u64 a0_4, .int .u64 a0_5] 45 (0, 0)) (by (with_reducible repeat (first | refine blk_drewN ?_ _ | refine blk_drew ?_ | refine blk_alloc ?_ _)); exact BK385.out)) : gb385 ≠ gb386)); have n6_ := Aside0.mk ((by rw [hg]; exact Nat.ne_of_gt (blk_lt (g := gb385) (o := .cells #[.int .u8 a0_0, .int .i64 a0_1, .int .i64 a0_2, .int .u64 a0_3, .int .u64 a0_4, .int .u64 a0_5] 45 (0, 0)) (by (with_reducible repeat (first | refine blk_drewN ?_ _ | refine blk_drew ?_ | refine blk_alloc ?_ _)); exact BK385.out)) : gb386 ≠ gb385)); clear BK385; clear HB; have BK385 := n0_; have HB := n1_; have BK386 := n2_; have GW386 := n3_; have GE386 := n4_; have NB385_386 := n5_; have NB386_385 := n6_; clear n0_ n1_ n2_ n3_ n4_ n5_ n6_; clear hb hbox hg; have hnb7 := NB385_386.out; have hnc7 := NB386_385.out; have hcz8_0 : w6.cell? ⟨gb385, 0, none⟩ = some (.int .u8 a0_0) := (blk_cell BK385.out 0).trans rfl; have hcz8_1 : w6.cell? ⟨gb385, 1, none⟩ = some (.int .i64 a0_1) := (blk_cell BK385.out 1).trans rfl; have hcz8_2 : w6.cell? ⟨gb385, 2, none⟩ = some (.int .i64 a0_2) := (blk_cell BK385.out 2).trans rfl; have hcz8_3 : w6.cell? ⟨gb385, 3, none⟩ = some (.int .u64 a0_3) := (blk_cell BK385.out 3).trans rfl; have hcz8_4 : w6.cell? ⟨gb385, 4, none⟩ = some (.int .u64 a0_4) := (blk_cell BK385.out 4).trans rfl; have hcz8_5 : w6.cell? ⟨gb385, 5, none⟩ = some (.int .u64 a0_5) := (blk_cell BK385.out 5).trans rfl; have hfz8_0 := blk_frozen BK385.out 0; have hfz8_1 := blk_frozen BK385.out 1; have hfz8_2 := blk_frozen BK385.out 2; have hfz8_3 := blk_frozen BK385.out 3; have hfz8_4 := blk_frozen BK385.out 4; have hfz8_5 := blk_frozen BK385.out 5) | ((with_reducible refine gate_callee (f := 84) rfl ?_); refine goesL_ (some 12) rfl rfl Try.func84 (by kernel_rfl) rfl #[.agg #[.int .u8 a0_0, .int .i64 a0_1, .int .i64 a0_2, .int .u64 a0_3, .int .u64 a0_4, .int .u64 a0_5]] rfl (by (try simp only [List.map_toArray, List.map_cons, List.map_nil]); first | done | rfl | (simp only [List.length_drop, List.length_take]; rfl)) ?_; (with_reducible refine (cover_treeOf.calls k a0_0 a0_1 a0_2 a0_3 a0_4 a0_5 t387 t388 t389 true _ A3.out).mono ?_); rintro e w9 ⟨rfl, hb⟩; refine ⟨_, rfl, ?_⟩; have n0_ := Aside0.mk (blk_below (g := gb385) (o := .cells #[.int .u8 a0_0, .int .i64 a0_1, .int .i64 a0_2, .int .u64 a0_3, .int .u64 a0_4, .int .u64 a0_5] 45 (0, 0)) (by (with_reducible repeat (first | refine blk_drewN ?_ _ | refine blk_drew ?_ | refine blk_alloc ?_ _)); exact BK385.out) hb); have n1_ := Aside0.mk (blk_below (g := gb386) (o := .cells #[.int .u8 0, .int .i64 0, .int .i64 0] 134 (0, 0)) (by (with_reducible repeat (first | refine blk_drewN ?_ _ | refine blk_drew ?_ | refine blk_alloc ?_ _)); exact BK386.out) hb); have n2_ := Aside0.mk (below_step (by repeat (first | (with_reducible first | exact HB.out | apply below_alloc | apply pw_below_drewN | apply below_drew1 | refine below_set ?_ GE385.out | refine below_set ?_ GE386.out) | exact HB.out)) hb); clear BK385; clear BK386; clear HB; have BK385 := n0_; have BK386 := n1_; have HB := n2_; clear n0_ n1_ n2_; (try clear hb); (try clear hb2); (try clear hk); (try clear hi)) | ((with_reducible refine gate_dst (N := 6) rfl ?_); refine box_event ?hg (N := 6) ?hd (cs := #[.int .u8 0, .int .i64 0, .int .i64 0]) (t := 134) ?hr ?_; (case hd => rfl); (case hg => rfl); (case hr => first | (go_simp; done) | (go_simp; rfl)); intro gb391 hg w10 hbox hb; have n0_ := Aside0.mk (blk_below (g := gb385) (o := .cells #[.int .u8 a0_0, .int .i64 a0_1, .int .i64 a0_2, .int .u64 a0_3, .int .u64 a0_4, .int .u64 a0_5] 45 (0, 0)) (by (with_reducible repeat (first | refine blk_drewN ?_ _ | refine blk_drew ?_ | refine blk_alloc ?_ _)); exact BK385.out) hb); have n1_ := Aside0.mk (blk_below (g := gb386) (o := .cells #[.int .u8 0, .int .i64 0, .int .i64 0] 134 (0, 0)) (by (with_reducible repeat (first | refine blk_drewN ?_ _ | refine blk_drew ?_ | refine blk_alloc ?_ _)); exact BK386.out) hb); have n2_ := Aside0.mk (below_step (by repeat (first | (with_reducible first | exact HB.out | apply below_alloc | apply pw_below_drewN | apply below_drew1 | refine below_set ?_ GE385.out | refine below_set ?_ GE386.out) | exact HB.out)) hb); have n3_ := Aside0.mk (hbox); have n4_ := Aside0.mk ((by rw [hg]; exact (below_size (by repeat (first | (with_reducible first | exact HB.out | apply below_alloc | apply pw_below_drewN | apply below_drew1 | refine below_set ?_ GE385.out | refine below_set ?_ GE386.out) | exact HB.out))) : w.heap.size ≤ gb391)); have n5_ := Aside0.mk ((by rw [hg]; exact (below_size (by repeat (first | (with_reducible first | exact HB.out | apply below_alloc | apply pw_below_drewN | apply below_drew1 | refine below_set ?_ GE385.out | refine below_set ?_ GE386.out) | exact HB.out))) : w.heap.size ≤ gb391)); have n6_ := Aside0.mk ((by rw [hg]; exact Nat.ne_of_lt (blk_lt (g := gb385) (o := .cells #[.int .u8 a0_0, .int .i64 a0_1, .int .i64 a0_2, .int .u64 a0_3, .int .u64 a0_4, .int .u64 a0_5] 45 (0, 0)) (by (with_reducible repeat (first | refine blk_drewN ?_ _ | refine blk_drew ?_ | refine blk_alloc ?_ _)); exact BK385.out)) : gb385 ≠ gb391)); have n7_ := Aside0.mk ((by rw [hg]; exact Nat.ne_of_gt (blk_lt (g := gb385) (o := .cells #[.int .u8 a0_0, .int .i64 a0_1, .int .i64 a0_2, .int .u64 a0_3, .int .u64 a0_4, .int .u64 a0_5] 45 (0, 0)) (by (with_reducible repeat (first | refine blk_drewN ?_ _ | refine blk_drew ?_ | refine blk_alloc ?_ _)); exact BK385.out)) : gb391 ≠ gb385)); have n8_ := Aside0.mk ((by rw [hg]; exact Nat.ne_of_lt (blk_lt (g := gb386) (o := .cells #[.int .u8 0, .int .i64 0, .int .i64 0] 134 (0, 0)) (by (with_reducible repeat (first | refine blk_drewN ?_ _ | refine blk_drew ?_ | refine blk_alloc ?_ _)); exact BK386.out)) : gb386 ≠ gb391)); have n9_ := Aside0.mk ((by rw [hg]; exact Nat.ne_of_gt (blk_lt (g := gb386) (o := .cells #[.int .u8 0, .int .i64 0, .int .i64 0] 134 (0, 0)) (by (with_reducible repeat (first | refine blk_drewN ?_ _ | refine blk_drew ?_ | refine blk_alloc ?_ _)); exact BK386.out)) : gb391 ≠ gb386)); clear BK385; clear BK386; clear HB; have BK385 := n0_; have BK386 := n1_; have HB := n2_; have BK391 := n3_; have GW391 := n4_; have GE391 := n5_; have NB385_391 := n6_; have NB391_385 := n7_; have NB386_391 := n8_; have NB391_386 := n9_; clear n0_ n1_ n2_ n3_ n4_ n5_ n6_ n7_ n8_ n9_; clear hb hbox hg; have hnb11 := NB391_385.out; have hnc11 := NB385_391.out; have hnb12 := NB391_386.out; have hnc12 := NB386_391.out; have hcz13_0 : w10.cell? ⟨gb391, 0, none⟩ = some (.int .u8 0) := (blk_cell BK391.out 0).trans rfl; have hcz13_1 : w10.cell? ⟨gb391, 1, none⟩ = some (.int .i64 0) := (blk_cell BK391.out 1).trans rfl; have hcz13_2 : w10.cell? ⟨gb391, 2, none⟩ = some (.int .i64 0) := (blk_cell BK391.out 2).trans rfl; have hfz13_0 := blk_frozen BK391.out 0; have hfz13_1 := blk_frozen BK391.out 1; have hfz13_2 := blk_frozen BK391.out 2))
  go_loopg [20] k (fun kq v20 w' => ∃ (x20_1 : Int) (x387000_1 : Int) (x387001_1 : Int) (x387002_1 : Int), v20 = .int .i64 x20_1 ∧ Aside0 (cover_enter.l0 kq l1 (l1.length : Int) x20_1 t387 t388 t389 = some (r1, r2, r3, r4)) ∧ Aside0 (kq ≤ k) ∧ Aside0 (w'.heap[gb385]? = some (.cells #[.int .u8 a0_0, .int .i64 a0_1, .int .i64 a0_2, .int .u64 a0_3, .int .u64 a0_4, .int .u64 a0_5] 45 (0, 0))) ∧ Aside0 (w'.heap[gb386]? = some (.cells #[.int .u8 x387000_1, .int .i64 x387001_1, .int .i64 x387002_1] 134 (0, 0))) ∧ Aside0 (w'.heap[gb391]? = some (.cells #[.int .u8 t387, .int .i64 t388, .int .i64 t389] 134 (0, 0))) ∧ Aside0 (Below w.heap.size w w'))
  case atStart => exact ⟨(0), (0), (0), (0), (by first | rfl | (simp; done) | (simp [*]; done)), H', ⟨Nat.le_refl _⟩, ⟨by (with_reducible repeat (first | refine blk_drewN ?_ _ | refine blk_drew ?_ | refine blk_alloc ?_ _)); refine blk_far ?_ NB385_391.out _; (with_reducible repeat (first | refine blk_drewN ?_ _ | refine blk_drew ?_ | refine blk_alloc ?_ _)); refine blk_far ?_ NB385_391.out _; (with_reducible repeat (first | refine blk_drewN ?_ _ | refine blk_drew ?_ | refine blk_alloc ?_ _)); refine blk_far ?_ NB385_391.out _; (with_reducible repeat (first | refine blk_drewN ?_ _ | refine blk_drew ?_ | refine blk_alloc ?_ _)); exact BK385.out⟩, ⟨by (with_reducible repeat (first | refine blk_drewN ?_ _ | refine blk_drew ?_ | refine blk_alloc ?_ _)); refine blk_far ?_ NB386_391.out _; (with_reducible repeat (first | refine blk_drewN ?_ _ | refine blk_drew ?_ | refine blk_alloc ?_ _)); refine blk_far ?_ NB386_391.out _; (with_reducible repeat (first | refine blk_drewN ?_ _ | refine blk_drew ?_ | refine blk_alloc ?_ _)); refine blk_far ?_ NB386_391.out _; (with_reducible repeat (first | refine blk_drewN ?_ _ | refine blk_drew ?_ | refine blk_alloc ?_ _)); exact BK386.out⟩, ⟨by (with_reducible repeat (first | refine blk_drewN ?_ _ | refine blk_drew ?_ | refine blk_alloc ?_ _)); refine blk_put (cs := #[.int .u8 t387, .int .i64 t388, .int .i64 0]) ?_ 2 _ rfl; (with_reducible repeat (first | refine blk_drewN ?_ _ | refine blk_drew ?_ | refine blk_alloc ?_ _)); refine blk_put (cs := #[.int .u8 t387, .int .i64 0, .int .i64 0]) ?_ 1 _ rfl; (with_reducible repeat (first | refine blk_drewN ?_ _ | refine blk_drew ?_ | refine blk_alloc ?_ _)); refine blk_put (cs := #[.int .u8 0, .int .i64 0, .int .i64 0]) ?_ 0 _ rfl; (with_reducible repeat (first | refine blk_drewN ?_ _ | refine blk_drew ?_ | refine blk_alloc ?_ _)); exact BK391.out⟩, ⟨by repeat (first | (with_reducible first | exact HB.out | apply below_alloc | apply pw_below_drewN | apply below_drew1 | refine below_set ?_ GE385.out | refine below_set ?_ GE386.out | refine below_set ?_ GE391.out) | exact HB.out)⟩⟩
  case round =>
   clear H'
   try clear c1
   try clear p2
   try clear c4
   try clear c7
   try clear c8
   try clear c11
   try clear c12
   try clear hcz13_0
   try clear hcz13_1
   try clear hcz13_2
   try clear hcz8_0
   try clear hcz8_1
   try clear hcz8_2
   try clear hcz8_3
   try clear hcz8_4
   try clear hcz8_5
   try clear hfz13_0
   try clear hfz13_1
   try clear hfz13_2
   try clear hfz8_0
   try clear hfz8_1
   try clear hfz8_2
   try clear hfz8_3
   try clear hfz8_4
   try clear hfz8_5
   obtain ⟨x20_1, x387000_1, x387001_1, x387002_1, rfl, HA, HK1, BK385, BK386, BK391, HB⟩ := hrel
   cases gk with
   | zero => exact absurd HA.out (by simp [cover_enter.l0])
   | succ k1 =>
    have H := HA.out
    clear HA
    simp only [cover_enter.l0] at H
    by_cases c14 : x20_1 < (l1.length : Int)
    ·rw [if_pos c14] at H
     have c14b0 : decide (x20_1 < (l1.length : Int)) = true := decide_eq_true c14
     clear c14
     by_cases c15 : 0 ≤ x20_1
     ·rw [if_pos c15] at H
      have c15b0 : decide (0 ≤ x20_1) = true := decide_eq_true c15
      clear c15
      by_cases c16 : x20_1 < (l1.length : Int)
      ·rw [if_pos c16] at H
       have c16b0 : decide (x20_1 < (l1.length : Int)) = true := decide_eq_true c16
       clear c16
       replace H := Option.bind_eq_some_iff.mp H
       obtain ⟨t394, A170, H⟩ := H
       replace H : (if t394 = true then (cover_enter.l0 k1 l1 (l1.length : Int) (wrap64 (x20_1 + 1)) t387 t388 t389) else (some (0, 0, 0, 31))) = some (r1, r2, r3, r4) := H
       have A17 := Aside0.mk A170
       clear A170
       by_cases c18 : t394 = true
       ·subst c18
        have H1 : (cover_enter.l0 k1 l1 (l1.length : Int) (wrap64 (x20_1 + 1)) t387 t388 t389) = some (r1, r2, r3, r4) := by rw [if_pos rfl] at H; exact H
        clear H
        have H := H1
        clear H1
        have H' := Aside0.mk H
        clear H
        have p392 : 0 ≤ (x20_1 : Int) := of_decide_eq_true (by first | (with_reducible assumption) | assumption)
        have q392 : x20_1 < (l1.length : Int) := of_decide_eq_true (by first | (with_reducible assumption) | assumption)
        obtain ⟨ad392, e392, hx392_0, hx392_1⟩ := at_T47 HR1.out x20_1 p392 q392
        cases e392
        replace hx392_0 := (HB.out.cell (World.block_lt_of_cell? w _ hx392_0)).trans hx392_0
        replace hx392_1 := (HB.out.cell (World.block_lt_of_cell? w _ hx392_1)).trans hx392_1
        replace p392 := eq_true p392
        replace q392 := eq_true q392
        go_wp2_with (first | ((with_reducible refine gate_dst (N := 9) rfl ?_); refine box_event ?hg (N := 9) ?hd (cs := #[.int .i64 0, .int .i64 0]) (t := 47) ?hr ?_; (case hd => rfl); (case hg => rfl); (case hr => first | (go_simp; done) | (go_simp; rfl)); intro gb393 hg w19 hbox hb; have n0_ := Aside0.mk (blk_below (g := gb385) (o := .cells #[.int .u8 a0_0, .int .i64 a0_1, .int .i64 a0_2, .int .u64 a0_3, .int .u64 a0_4, .int .u64 a0_5] 45 (0, 0)) (by (with_reducible repeat (first | refine blk_drewN ?_ _ | refine blk_drew ?_ | refine blk_alloc ?_ _)); exact BK385.out) hb); have n1_ := Aside0.mk (blk_below (g := gb386) (o := .cells #[.int .u8 x387000_1, .int .i64 x387001_1, .int .i64 x387002_1] 134 (0, 0)) (by (with_reducible repeat (first | refine blk_drewN ?_ _ | refine blk_drew ?_ | refine blk_alloc ?_ _)); exact BK386.out) hb); have n2_ := Aside0.mk (blk_below (g := gb391) (o := .cells #[.int .u8 t387, .int .i64 t388, .int .i64 t389] 134 (0, 0)) (by (with_reducible repeat (first | refine blk_drewN ?_ _ | refine blk_drew ?_ | refine blk_alloc ?_ _)); exact BK391.out) hb); have n3_ := Aside0.mk (below_step (by repeat (first | (with_reducible first | exact HB.out | apply below_alloc | apply pw_below_drewN | apply below_drew1 | refine below_set ?_ GE385.out | refine below_set ?_ GE386.out | refine below_set ?_ GE391.out) | exact HB.out)) hb); have n4_ := Aside0.mk (hbox); have n5_ := Aside0.mk ((by rw [hg]; exact (below_size (by repeat (first | (with_reducible first | exact HB.out | apply below_alloc | apply pw_below_drewN | apply below_drew1 | refine below_set ?_ GE385.out | refine below_set ?_ GE386.out | refine below_set ?_ GE391.out) | exact HB.out))) : w.heap.size ≤ gb393)); have n6_ := Aside0.mk ((by rw [hg]; exact (below_size (by repeat (first | (with_reducible first | exact HB.out | apply below_alloc | apply pw_below_drewN | apply below_drew1 | refine below_set ?_ GE385.out | refine below_set ?_ GE386.out | refine below_set ?_ GE391.out) | exact HB.out))) : w.heap.size ≤ gb393)); have n7_ := Aside0.mk ((by rw [hg]; exact Nat.ne_of_lt (blk_lt (g := gb385) (o := .cells #[.int .u8 a0_0, .int .i64 a0_1, .int .i64 a0_2, .int .u64 a0_3, .int .u64 a0_4, .int .u64 a0_5] 45 (0, 0)) (by (with_reducible repeat (first | refine blk_drewN ?_ _ | refine blk_drew ?_ | refine blk_alloc ?_ _)); exact BK385.out)) : gb385 ≠ gb393)); have n8_ := Aside0.mk ((by rw [hg]; exact Nat.ne_of_gt (blk_lt (g := gb385) (o := .cells #[.int .u8 a0_0, .int .i64 a0_1, .int .i64 a0_2, .int .u64 a0_3, .int .u64 a0_4, .int .u64 a0_5] 45 (0, 0)) (by (with_reducible repeat (first | refine blk_drewN ?_ _ | refine blk_drew ?_ | refine blk_alloc ?_ _)); exact BK385.out)) : gb393 ≠ gb385)); have n9_ := Aside0.mk ((by rw [hg]; exact Nat.ne_of_lt (blk_lt (g := gb386) (o := .cells #[.int .u8 x387000_1, .int .i64 x387001_1, .int .i64 x387002_1] 134 (0, 0)) (by (with_reducible repeat (first | refine blk_drewN ?_ _ | refine blk_drew ?_ | refine blk_alloc ?_ _)); exact BK386.out)) : gb386 ≠ gb393)); have n10_ := Aside0.mk ((by rw [hg]; exact Nat.ne_of_gt (blk_lt (g := gb386) (o := .cells #[.int .u8 x387000_1, .int .i64 x387001_1, .int .i64 x387002_1] 134 (0, 0)) (by (with_reducible repeat (first | refine blk_drewN ?_ _ | refine blk_drew ?_ | refine blk_alloc ?_ _)); exact BK386.out)) : gb393 ≠ gb386)); have n11_ := Aside0.mk ((by rw [hg]; exact Nat.ne_of_lt (blk_lt (g := gb391) (o := .cells #[.int .u8 t387, .int .i64 t388, .int .i64 t389] 134 (0, 0)) (by (with_reducible repeat (first | refine blk_drewN ?_ _ | refine blk_drew ?_ | refine blk_alloc ?_ _)); exact BK391.out)) : gb391 ≠ gb393)); have n12_ := Aside0.mk ((by rw [hg]; exact Nat.ne_of_gt (blk_lt (g := gb391) (o := .cells #[.int .u8 t387, .int .i64 t388, .int .i64 t389] 134 (0, 0)) (by (with_reducible repeat (first | refine blk_drewN ?_ _ | refine blk_drew ?_ | refine blk_alloc ?_ _)); exact BK391.out)) : gb393 ≠ gb391)); clear BK385; clear BK386; clear BK391; clear HB; have BK385 := n0_; have BK386 := n1_; have BK391 := n2_; have HB := n3_; have BK393 := n4_; have GW393 := n5_; have GE393 := n6_; have NB385_393 := n7_; have NB393_385 := n8_; have NB386_393 := n9_; have NB393_386 := n10_; have NB391_393 := n11_; have NB393_391 := n12_; clear n0_ n1_ n2_ n3_ n4_ n5_ n6_ n7_ n8_ n9_ n10_ n11_ n12_; clear hb hbox hg; have hnb20 := NB393_385.out; have hnc20 := NB385_393.out; have hnb21 := NB393_386.out; have hnc21 := NB386_393.out; have hnb22 := NB393_391.out; have hnc22 := NB391_393.out; have hcz23_0 : w19.cell? ⟨gb393, 0, none⟩ = some (.int .i64 0) := (blk_cell BK393.out 0).trans rfl; have hcz23_1 : w19.cell? ⟨gb393, 1, none⟩ = some (.int .i64 0) := (blk_cell BK393.out 1).trans rfl; have hfz23_0 := blk_frozen BK393.out 0; have hfz23_1 := blk_frozen BK393.out 1; have hnb24 := NB391_385.out; have hnc24 := NB385_391.out; have hnb25 := NB391_386.out; have hnc25 := NB386_391.out; have hcz26_0 : w19.cell? ⟨gb391, 0, none⟩ = some (.int .u8 t387) := (blk_cell BK391.out 0).trans rfl; have hcz26_1 : w19.cell? ⟨gb391, 1, none⟩ = some (.int .i64 t388) := (blk_cell BK391.out 1).trans rfl; have hcz26_2 : w19.cell? ⟨gb391, 2, none⟩ = some (.int .i64 t389) := (blk_cell BK391.out 2).trans rfl; have hfz26_0 := blk_frozen BK391.out 0; have hfz26_1 := blk_frozen BK391.out 1; have hfz26_2 := blk_frozen BK391.out 2) | ((with_reducible refine gate_callee (f := 79) rfl ?_); refine goesL_ (some 26) rfl rfl Try.func79 (by kernel_rfl) rfl #[.agg #[.int .u8 t387, .int .i64 t388, .int .i64 t389], .agg #[.int .i64 ((rd_T47 l1 x20_1).f0), .int .i64 ((rd_T47 l1 x20_1).f1)]] rfl (by (try simp only [List.map_toArray, List.map_cons, List.map_nil]); first | done | rfl | (simp only [List.length_drop, List.length_take]; rfl)) ?_; (with_reducible refine (cover_tree_subset.calls k1 t387 t388 t389 ((rd_T47 l1 x20_1).f0) ((rd_T47 l1 x20_1).f1) true _ A17.out).mono ?_); rintro e w27 ⟨rfl, hb⟩; refine ⟨_, rfl, ?_⟩; have n0_ := Aside0.mk (blk_below (g := gb385) (o := .cells #[.int .u8 a0_0, .int .i64 a0_1, .int .i64 a0_2, .int .u64 a0_3, .int .u64 a0_4, .int .u64 a0_5] 45 (0, 0)) (by (with_reducible repeat (first | refine blk_drewN ?_ _ | refine blk_drew ?_ | refine blk_alloc ?_ _)); refine blk_far ?_ NB385_393.out _; (with_reducible repeat (first | refine blk_drewN ?_ _ | refine blk_drew ?_ | refine blk_alloc ?_ _)); refine blk_far ?_ NB385_393.out _; (with_reducible repeat (first | refine blk_drewN ?_ _ | refine blk_drew ?_ | refine blk_alloc ?_ _)); exact BK385.out) hb); have n1_ := Aside0.mk (blk_below (g := gb386) (o := .cells #[.int .u8 x387000_1, .int .i64 x387001_1, .int .i64 x387002_1] 134 (0, 0)) (by (with_reducible repeat (first | refine blk_drewN ?_ _ | refine blk_drew ?_ | refine blk_alloc ?_ _)); refine blk_far ?_ NB386_393.out _; (with_reducible repeat (first | refine blk_drewN ?_ _ | refine blk_drew ?_ | refine blk_alloc ?_ _)); refine blk_far ?_ NB386_393.out _; (with_reducible repeat (first | refine blk_drewN ?_ _ | refine blk_drew ?_ | refine blk_alloc ?_ _)); exact BK386.out) hb); have n2_ := Aside0.mk (blk_below (g := gb391) (o := .cells #[.int .u8 t387, .int .i64 t388, .int .i64 t389] 134 (0, 0)) (by (with_reducible repeat (first | refine blk_drewN ?_ _ | refine blk_drew ?_ | refine blk_alloc ?_ _)); refine blk_far ?_ NB391_393.out _; (with_reducible repeat (first | refine blk_drewN ?_ _ | refine blk_drew ?_ | refine blk_alloc ?_ _)); refine blk_far ?_ NB391_393.out _; (with_reducible repeat (first | refine blk_drewN ?_ _ | refine blk_drew ?_ | refine blk_alloc ?_ _)); exact BK391.out) hb); have n3_ := Aside0.mk (blk_below (g := gb393) (o := .cells #[.int .i64 ((rd_T47 l1 x20_1).f0), .int .i64 ((rd_T47 l1 x20_1).f1)] 47 (0, 0)) (by (with_reducible repeat (first | refine blk_drewN ?_ _ | refine blk_drew ?_ | refine blk_alloc ?_ _)); refine blk_put (cs := #[.int .i64 ((rd_T47 l1 x20_1).f0), .int .i64 0]) ?_ 1 _ rfl; (with_reducible repeat (first | refine blk_drewN ?_ _ | refine blk_drew ?_ | refine blk_alloc ?_ _)); refine blk_put (cs := #[.int .i64 0, .int .i64 0]) ?_ 0 _ rfl; (with_reducible repeat (first | refine blk_drewN ?_ _ | refine blk_drew ?_ | refine blk_alloc ?_ _)); exact BK393.out) hb); have n4_ := Aside0.mk (below_step (by repeat (first | (with_reducible first | exact HB.out | apply below_alloc | apply pw_below_drewN | apply below_drew1 | refine below_set ?_ GE385.out | refine below_set ?_ GE386.out | refine below_set ?_ GE391.out | refine below_set ?_ GE393.out) | exact HB.out)) hb); clear BK385; clear BK386; clear BK391; clear BK393; clear HB; have BK385 := n0_; have BK386 := n1_; have BK391 := n2_; have BK393 := n3_; have HB := n4_; clear n0_ n1_ n2_ n3_ n4_; (try clear hb); (try clear hb2); (try clear hk); (try clear hi)))
        go_roundg k1
        case measure => have := HK1.out; omega
        case rel => exact ⟨(wrap64 (x20_1 + 1)), (x387000_1), (x387001_1), (x387002_1), (by first | rfl | (simp; done) | (simp [*]; done)), H', ⟨by have := HK1.out; omega⟩, ⟨by (with_reducible repeat (first | refine blk_drewN ?_ _ | refine blk_drew ?_ | refine blk_alloc ?_ _)); exact BK385.out⟩, ⟨by (with_reducible repeat (first | refine blk_drewN ?_ _ | refine blk_drew ?_ | refine blk_alloc ?_ _)); exact BK386.out⟩, ⟨by (with_reducible repeat (first | refine blk_drewN ?_ _ | refine blk_drew ?_ | refine blk_alloc ?_ _)); exact BK391.out⟩, ⟨by repeat (first | (with_reducible first | exact HB.out | apply below_alloc | apply pw_below_drewN | apply below_drew1 | refine below_set ?_ GE385.out | refine below_set ?_ GE386.out | refine below_set ?_ GE391.out | refine below_set ?_ GE393.out) | exact HB.out)⟩⟩
       ·replace c18 := Bool.eq_false_iff.mpr c18
        subst c18
        have H1 : (some (0, 0, 0, 31)) = some (r1, r2, r3, r4) := by rw [if_neg (show ¬ (false = true) by decide)] at H; exact H
        clear H
        have H := H1
        clear H1
        simp only [Option.some.injEq, Prod.mk.injEq] at H
        obtain ⟨rfl, rfl, rfl, rfl⟩ := H
        have p392 : 0 ≤ (x20_1 : Int) := of_decide_eq_true (by first | (with_reducible assumption) | assumption)
        have q392 : x20_1 < (l1.length : Int) := of_decide_eq_true (by first | (with_reducible assumption) | assumption)
        obtain ⟨ad392, e392, hx392_0, hx392_1⟩ := at_T47 HR1.out x20_1 p392 q392
        cases e392
        replace hx392_0 := (HB.out.cell (World.block_lt_of_cell? w _ hx392_0)).trans hx392_0
        replace hx392_1 := (HB.out.cell (World.block_lt_of_cell? w _ hx392_1)).trans hx392_1
        replace p392 := eq_true p392
        replace q392 := eq_true q392
        go_wp2_with (first | ((with_reducible refine gate_dst (N := 9) rfl ?_); refine box_event ?hg (N := 9) ?hd (cs := #[.int .i64 0, .int .i64 0]) (t := 47) ?hr ?_; (case hd => rfl); (case hg => rfl); (case hr => first | (go_simp; done) | (go_simp; rfl)); intro gb393 hg w28 hbox hb; have n0_ := Aside0.mk (blk_below (g := gb385) (o := .cells #[.int .u8 a0_0, .int .i64 a0_1, .int .i64 a0_2, .int .u64 a0_3, .int .u64 a0_4, .int .u64 a0_5] 45 (0, 0)) (by (with_reducible repeat (first | refine blk_drewN ?_ _ | refine blk_drew ?_ | refine blk_alloc ?_ _)); exact BK385.out) hb); have n1_ := Aside0.mk (blk_below (g := gb386) (o := .cells #[.int .u8 x387000_1, .int .i64 x387001_1, .int .i64 x387002_1] 134 (0, 0)) (by (with_reducible repeat (first | refine blk_drewN ?_ _ | refine blk_drew ?_ | refine blk_alloc ?_ _)); exact BK386.out) hb); have n2_ := Aside0.mk (blk_below (g := gb391) (o := .cells #[.int .u8 t387, .int .i64 t388, .int .i64 t389] 134 (0, 0)) (by (with_reducible repeat (first | refine blk_drewN ?_ _ | refine blk_drew ?_ | refine blk_alloc ?_ _)); exact BK391.out) hb); have n3_ := Aside0.mk (below_step (by repeat (first | (with_reducible first | exact HB.out | apply below_alloc | apply pw_below_drewN | apply below_drew1 | refine below_set ?_ GE385.out | refine below_set ?_ GE386.out | refine below_set ?_ GE391.out) | exact HB.out)) hb); have n4_ := Aside0.mk (hbox); have n5_ := Aside0.mk ((by rw [hg]; exact (below_size (by repeat (first | (with_reducible first | exact HB.out | apply below_alloc | apply pw_below_drewN | apply below_drew1 | refine below_set ?_ GE385.out | refine below_set ?_ GE386.out | refine below_set ?_ GE391.out) | exact HB.out))) : w.heap.size ≤ gb393)); have n6_ := Aside0.mk ((by rw [hg]; exact (below_size (by repeat (first | (with_reducible first | exact HB.out | apply below_alloc | apply pw_below_drewN | apply below_drew1 | refine below_set ?_ GE385.out | refine below_set ?_ GE386.out | refine below_set ?_ GE391.out) | exact HB.out))) : w.heap.size ≤ gb393)); have n7_ := Aside0.mk ((by rw [hg]; exact Nat.ne_of_lt (blk_lt (g := gb385) (o := .cells #[.int .u8 a0_0, .int .i64 a0_1, .int .i64 a0_2, .int .u64 a0_3, .int .u64 a0_4, .int .u64 a0_5] 45 (0, 0)) (by (with_reducible repeat (first | refine blk_drewN ?_ _ | refine blk_drew ?_ | refine blk_alloc ?_ _)); exact BK385.out)) : gb385 ≠ gb393)); have n8_ := Aside0.mk ((by rw [hg]; exact Nat.ne_of_gt (blk_lt (g := gb385) (o := .cells #[.int .u8 a0_0, .int .i64 a0_1, .int .i64 a0_2, .int .u64 a0_3, .int .u64 a0_4, .int .u64 a0_5] 45 (0, 0)) (by (with_reducible repeat (first | refine blk_drewN ?_ _ | refine blk_drew ?_ | refine blk_alloc ?_ _)); exact BK385.out)) : gb393 ≠ gb385)); have n9_ := Aside0.mk ((by rw [hg]; exact Nat.ne_of_lt (blk_lt (g := gb386) (o := .cells #[.int .u8 x387000_1, .int .i64 x387001_1, .int .i64 x387002_1] 134 (0, 0)) (by (with_reducible repeat (first | refine blk_drewN ?_ _ | refine blk_drew ?_ | refine blk_alloc ?_ _)); exact BK386.out)) : gb386 ≠ gb393)); have n10_ := Aside0.mk ((by rw [hg]; exact Nat.ne_of_gt (blk_lt (g := gb386) (o := .cells #[.int .u8 x387000_1, .int .i64 x387001_1, .int .i64 x387002_1] 134 (0, 0)) (by (with_reducible repeat (first | refine blk_drewN ?_ _ | refine blk_drew ?_ | refine blk_alloc ?_ _)); exact BK386.out)) : gb393 ≠ gb386)); have n11_ := Aside0.mk ((by rw [hg]; exact Nat.ne_of_lt (blk_lt (g := gb391) (o := .cells #[.int .u8 t387, .int .i64 t388, .int .i64 t389] 134 (0, 0)) (by (with_reducible repeat (first | refine blk_drewN ?_ _ | refine blk_drew ?_ | refine blk_alloc ?_ _)); exact BK391.out)) : gb391 ≠ gb393)); have n12_ := Aside0.mk ((by rw [hg]; exact Nat.ne_of_gt (blk_lt (g := gb391) (o := .cells #[.int .u8 t387, .int .i64 t388, .int .i64 t389] 134 (0, 0)) (by (with_reducible repeat (first | refine blk_drewN ?_ _ | refine blk_drew ?_ | refine blk_alloc ?_ _)); exact BK391.out)) : gb393 ≠ gb391)); clear BK385; clear BK386; clear BK391; clear HB; have BK385 := n0_; have BK386 := n1_; have BK391 := n2_; have HB := n3_; have BK393 := n4_; have GW393 := n5_; have GE393 := n6_; have NB385_393 := n7_; have NB393_385 := n8_; have NB386_393 := n9_; have NB393_386 := n10_; have NB391_393 := n11_; have NB393_391 := n12_; clear n0_ n1_ n2_ n3_ n4_ n5_ n6_ n7_ n8_ n9_ n10_ n11_ n12_; clear hb hbox hg; have hnb29 := NB393_385.out; have hnc29 := NB385_393.out; have hnb30 := NB393_386.out; have hnc30 := NB386_393.out; have hnb31 := NB393_391.out; have hnc31 := NB391_393.out; have hcz32_0 : w28.cell? ⟨gb393, 0, none⟩ = some (.int .i64 0) := (blk_cell BK393.out 0).trans rfl; have hcz32_1 : w28.cell? ⟨gb393, 1, none⟩ = some (.int .i64 0) := (blk_cell BK393.out 1).trans rfl; have hfz32_0 := blk_frozen BK393.out 0; have hfz32_1 := blk_frozen BK393.out 1; have hnb33 := NB391_385.out; have hnc33 := NB385_391.out; have hnb34 := NB391_386.out; have hnc34 := NB386_391.out; have hcz35_0 : w28.cell? ⟨gb391, 0, none⟩ = some (.int .u8 t387) := (blk_cell BK391.out 0).trans rfl; have hcz35_1 : w28.cell? ⟨gb391, 1, none⟩ = some (.int .i64 t388) := (blk_cell BK391.out 1).trans rfl; have hcz35_2 : w28.cell? ⟨gb391, 2, none⟩ = some (.int .i64 t389) := (blk_cell BK391.out 2).trans rfl; have hfz35_0 := blk_frozen BK391.out 0; have hfz35_1 := blk_frozen BK391.out 1; have hfz35_2 := blk_frozen BK391.out 2) | ((with_reducible refine gate_callee (f := 79) rfl ?_); refine goesL_ (some 26) rfl rfl Try.func79 (by kernel_rfl) rfl #[.agg #[.int .u8 t387, .int .i64 t388, .int .i64 t389], .agg #[.int .i64 ((rd_T47 l1 x20_1).f0), .int .i64 ((rd_T47 l1 x20_1).f1)]] rfl (by (try simp only [List.map_toArray, List.map_cons, List.map_nil]); first | done | rfl | (simp only [List.length_drop, List.length_take]; rfl)) ?_; (with_reducible refine (cover_tree_subset.calls k1 t387 t388 t389 ((rd_T47 l1 x20_1).f0) ((rd_T47 l1 x20_1).f1) false _ A17.out).mono ?_); rintro e w36 ⟨rfl, hb⟩; refine ⟨_, rfl, ?_⟩; have n0_ := Aside0.mk (blk_below (g := gb385) (o := .cells #[.int .u8 a0_0, .int .i64 a0_1, .int .i64 a0_2, .int .u64 a0_3, .int .u64 a0_4, .int .u64 a0_5] 45 (0, 0)) (by (with_reducible repeat (first | refine blk_drewN ?_ _ | refine blk_drew ?_ | refine blk_alloc ?_ _)); refine blk_far ?_ NB385_393.out _; (with_reducible repeat (first | refine blk_drewN ?_ _ | refine blk_drew ?_ | refine blk_alloc ?_ _)); refine blk_far ?_ NB385_393.out _; (with_reducible repeat (first | refine blk_drewN ?_ _ | refine blk_drew ?_ | refine blk_alloc ?_ _)); exact BK385.out) hb); have n1_ := Aside0.mk (blk_below (g := gb386) (o := .cells #[.int .u8 x387000_1, .int .i64 x387001_1, .int .i64 x387002_1] 134 (0, 0)) (by (with_reducible repeat (first | refine blk_drewN ?_ _ | refine blk_drew ?_ | refine blk_alloc ?_ _)); refine blk_far ?_ NB386_393.out _; (with_reducible repeat (first | refine blk_drewN ?_ _ | refine blk_drew ?_ | refine blk_alloc ?_ _)); refine blk_far ?_ NB386_393.out _; (with_reducible repeat (first | refine blk_drewN ?_ _ | refine blk_drew ?_ | refine blk_alloc ?_ _)); exact BK386.out) hb); have n2_ := Aside0.mk (blk_below (g := gb391) (o := .cells #[.int .u8 t387, .int .i64 t388, .int .i64 t389] 134 (0, 0)) (by (with_reducible repeat (first | refine blk_drewN ?_ _ | refine blk_drew ?_ | refine blk_alloc ?_ _)); refine blk_far ?_ NB391_393.out _; (with_reducible repeat (first | refine blk_drewN ?_ _ | refine blk_drew ?_ | refine blk_alloc ?_ _)); refine blk_far ?_ NB391_393.out _; (with_reducible repeat (first | refine blk_drewN ?_ _ | refine blk_drew ?_ | refine blk_alloc ?_ _)); exact BK391.out) hb); have n3_ := Aside0.mk (blk_below (g := gb393) (o := .cells #[.int .i64 ((rd_T47 l1 x20_1).f0), .int .i64 ((rd_T47 l1 x20_1).f1)] 47 (0, 0)) (by (with_reducible repeat (first | refine blk_drewN ?_ _ | refine blk_drew ?_ | refine blk_alloc ?_ _)); refine blk_put (cs := #[.int .i64 ((rd_T47 l1 x20_1).f0), .int .i64 0]) ?_ 1 _ rfl; (with_reducible repeat (first | refine blk_drewN ?_ _ | refine blk_drew ?_ | refine blk_alloc ?_ _)); refine blk_put (cs := #[.int .i64 0, .int .i64 0]) ?_ 0 _ rfl; (with_reducible repeat (first | refine blk_drewN ?_ _ | refine blk_drew ?_ | refine blk_alloc ?_ _)); exact BK393.out) hb); have n4_ := Aside0.mk (below_step (by repeat (first | (with_reducible first | exact HB.out | apply below_alloc | apply pw_below_drewN | apply below_drew1 | refine below_set ?_ GE385.out | refine below_set ?_ GE386.out | refine below_set ?_ GE391.out | refine below_set ?_ GE393.out) | exact HB.out)) hb); clear BK385; clear BK386; clear BK391; clear BK393; clear HB; have BK385 := n0_; have BK386 := n1_; have BK391 := n2_; have BK393 := n3_; have HB := n4_; clear n0_ n1_ n2_ n3_ n4_; (try clear hb); (try clear hb2); (try clear hk); (try clear hi); have hnb37 := NB386_385.out; have hnc37 := NB385_386.out; have hcz38_0 : w36.cell? ⟨gb386, 0, none⟩ = some (.int .u8 x387000_1) := (blk_cell BK386.out 0).trans rfl; have hcz38_1 : w36.cell? ⟨gb386, 1, none⟩ = some (.int .i64 x387001_1) := (blk_cell BK386.out 1).trans rfl; have hcz38_2 : w36.cell? ⟨gb386, 2, none⟩ = some (.int .i64 x387002_1) := (blk_cell BK386.out 2).trans rfl; have hfz38_0 := blk_frozen BK386.out 0; have hfz38_1 := blk_frozen BK386.out 1; have hfz38_2 := blk_frozen BK386.out 2))
        refine bodyPost_ret (results_ct rfl _ _ gb386 134 #[.int .u8 0, .int .i64 0, .int .i64 0] (0, 0) _ rfl (by (with_reducible repeat (first | refine blk_drewN ?_ _ | refine blk_drew ?_ | refine blk_alloc ?_ _)); refine blk_put (cs := #[.int .u8 0, .int .i64 0, .int .i64 x387002_1]) ?_ 2 _ rfl; (with_reducible repeat (first | refine blk_drewN ?_ _ | refine blk_drew ?_ | refine blk_alloc ?_ _)); refine blk_put (cs := #[.int .u8 0, .int .i64 x387001_1, .int .i64 x387002_1]) ?_ 1 _ rfl; (with_reducible repeat (first | refine blk_drewN ?_ _ | refine blk_drew ?_ | refine blk_alloc ?_ _)); refine blk_put (cs := #[.int .u8 x387000_1, .int .i64 x387001_1, .int .i64 x387002_1]) ?_ 0 _ rfl; (with_reducible repeat (first | refine blk_drewN ?_ _ | refine blk_drew ?_ | refine blk_alloc ?_ _)); exact BK386.out) Try.underlying134 rfl (by kernel_rfl)) rfl ?_
        exact ⟨by first | rfl | (simp [errW_none, errW_some] <;> rfl) | (simp [*, errW_none, errW_some] <;> rfl), by repeat (first | (with_reducible first | exact HB.out | apply below_alloc | apply pw_below_drewN | apply below_drew1 | refine below_set ?_ GE385.out | refine below_set ?_ GE386.out | refine below_set ?_ GE391.out | refine below_set ?_ GE393.out) | exact HB.out)⟩
      ·rw [if_neg c16] at H
       exact absurd H (by simp)
     ·rw [if_neg c15] at H
      exact absurd H (by simp)
    ·rw [if_neg c14] at H
     have c14b0 : decide (x20_1 < (l1.length : Int)) = false := decide_eq_false c14
     clear c14
     simp only [Option.some.injEq, Prod.mk.injEq] at H
     obtain ⟨rfl, rfl, rfl, rfl⟩ := H
     have hnb39 := NB391_385.out
     have hnc39 := NB385_391.out
     have hnb40 := NB391_386.out
     have hnc40 := NB386_391.out
     have hcz41_0 : wr.cell? ⟨gb391, 0, none⟩ = some (.int .u8 t387) := (blk_cell BK391.out 0).trans rfl
     have hcz41_1 : wr.cell? ⟨gb391, 1, none⟩ = some (.int .i64 t388) := (blk_cell BK391.out 1).trans rfl
     have hcz41_2 : wr.cell? ⟨gb391, 2, none⟩ = some (.int .i64 t389) := (blk_cell BK391.out 2).trans rfl
     have hfz41_0 := blk_frozen BK391.out 0
     have hfz41_1 := blk_frozen BK391.out 1
     have hfz41_2 := blk_frozen BK391.out 2
     have hnb42 := NB386_385.out
     have hnc42 := NB385_386.out
     have hcz43_0 : wr.cell? ⟨gb386, 0, none⟩ = some (.int .u8 x387000_1) := (blk_cell BK386.out 0).trans rfl
     have hcz43_1 : wr.cell? ⟨gb386, 1, none⟩ = some (.int .i64 x387001_1) := (blk_cell BK386.out 1).trans rfl
     have hcz43_2 : wr.cell? ⟨gb386, 2, none⟩ = some (.int .i64 x387002_1) := (blk_cell BK386.out 2).trans rfl
     have hfz43_0 := blk_frozen BK386.out 0
     have hfz43_1 := blk_frozen BK386.out 1
     have hfz43_2 := blk_frozen BK386.out 2
     go_wp2
     refine bodyPost_ret (results_ct rfl _ _ gb386 134 #[.int .u8 t387, .int .i64 t388, .int .i64 t389] (0, 0) _ rfl (by (with_reducible repeat (first | refine blk_drewN ?_ _ | refine blk_drew ?_ | refine blk_alloc ?_ _)); refine blk_put (cs := #[.int .u8 t387, .int .i64 t388, .int .i64 x387002_1]) ?_ 2 _ rfl; (with_reducible repeat (first | refine blk_drewN ?_ _ | refine blk_drew ?_ | refine blk_alloc ?_ _)); refine blk_put (cs := #[.int .u8 t387, .int .i64 x387001_1, .int .i64 x387002_1]) ?_ 1 _ rfl; (with_reducible repeat (first | refine blk_drewN ?_ _ | refine blk_drew ?_ | refine blk_alloc ?_ _)); refine blk_put (cs := #[.int .u8 x387000_1, .int .i64 x387001_1, .int .i64 x387002_1]) ?_ 0 _ rfl; (with_reducible repeat (first | refine blk_drewN ?_ _ | refine blk_drew ?_ | refine blk_alloc ?_ _)); exact BK386.out) Try.underlying134 rfl (by kernel_rfl)) rfl ?_
     exact ⟨by first | rfl | (simp [errW_none, errW_some] <;> rfl) | (simp [*, errW_none, errW_some] <;> rfl), by repeat (first | (with_reducible first | exact HB.out | apply below_alloc | apply pw_below_drewN | apply below_drew1 | refine below_set ?_ GE385.out | refine below_set ?_ GE386.out | refine below_set ?_ GE391.out) | exact HB.out)⟩
 ·replace c4 := Bool.eq_false_iff.mpr c4
  subst c4
  have H1 : (some (0, 0, 0, 30)) = some (r1, r2, r3, r4) := by rw [if_neg (show ¬ (false = true) by decide)] at H; exact H
  clear H
  have H := H1
  clear H1
  simp only [Option.some.injEq, Prod.mk.injEq] at H
  obtain ⟨rfl, rfl, rfl, rfl⟩ := H
  go_enter Try.func74, Try.ntmps74
  go_wp2_with (first | ((with_reducible refine gate_dst (N := 2) rfl ?_); refine box_event ?hg (N := 2) ?hd (cs := #[.int .u8 a0_0, .int .i64 a0_1, .int .i64 a0_2, .int .u64 a0_3, .int .u64 a0_4, .int .u64 a0_5]) (t := 45) ?hr ?_; (case hd => rfl); (case hg => rfl); (case hr => first | (go_simp; done) | (go_simp; rfl)); intro gb385 hg w44 hbox hb; have n0_ := Aside0.mk (below_step (by repeat (first | (with_reducible first | exact HB.out | apply below_alloc | apply pw_below_drewN | apply below_drew1) | exact HB.out)) hb); have n1_ := Aside0.mk (hbox); have n2_ := Aside0.mk ((by rw [hg]; exact (below_size (by repeat (first | (with_reducible first | exact HB.out | apply below_alloc | apply pw_below_drewN | apply below_drew1) | exact HB.out))) : w.heap.size ≤ gb385)); have n3_ := Aside0.mk ((by rw [hg]; exact (below_size (by repeat (first | (with_reducible first | exact HB.out | apply below_alloc | apply pw_below_drewN | apply below_drew1) | exact HB.out))) : w.heap.size ≤ gb385)); clear HB; have HB := n0_; have BK385 := n1_; have GW385 := n2_; have GE385 := n3_; clear n0_ n1_ n2_ n3_; clear hb hbox hg) | ((with_reducible refine gate_dst (N := 4) rfl ?_); refine box_event ?hg (N := 4) ?hd (cs := #[.int .u8 0, .int .i64 0, .int .i64 0]) (t := 134) ?hr ?_; (case hd => rfl); (case hg => rfl); (case hr => first | (go_simp; done) | (go_simp; rfl)); intro gb386 hg w45 hbox hb; have n0_ := Aside0.mk (blk_below (g := gb385) (o := .cells #[.int .u8 a0_0, .int .i64 a0_1, .int .i64 a0_2, .int .u64 a0_3, .int .u64 a0_4, .int .u64 a0_5] 45 (0, 0)) (by (with_reducible repeat (first | refine blk_drewN ?_ _ | refine blk_drew ?_ | refine blk_alloc ?_ _)); exact BK385.out) hb); have n1_ := Aside0.mk (below_step (by repeat (first | (with_reducible first | exact HB.out | apply below_alloc | apply pw_below_drewN | apply below_drew1 | refine below_set ?_ GE385.out) | exact HB.out)) hb); have n2_ := Aside0.mk (hbox); have n3_ := Aside0.mk ((by rw [hg]; exact (below_size (by repeat (first | (with_reducible first | exact HB.out | apply below_alloc | apply pw_below_drewN | apply below_drew1 | refine below_set ?_ GE385.out) | exact HB.out))) : w.heap.size ≤ gb386)); have n4_ := Aside0.mk ((by rw [hg]; exact (below_size (by repeat (first | (with_reducible first | exact HB.out | apply below_alloc | apply pw_below_drewN | apply below_drew1 | refine below_set ?_ GE385.out) | exact HB.out))) : w.heap.size ≤ gb386)); have n5_ := Aside0.mk ((by rw [hg]; exact Nat.ne_of_lt (blk_lt (g := gb385) (o := .cells #[.int .u8 a0_0, .int .i64 a0_1, .int .i64 a0_2, .int .u64 a0_3, .int .u64 a0_4, .int .u64 a0_5] 45 (0, 0)) (by (with_reducible repeat (first | refine blk_drewN ?_ _ | refine blk_drew ?_ | refine blk_alloc ?_ _)); exact BK385.out)) : gb385 ≠ gb386)); have n6_ := Aside0.mk ((by rw [hg]; exact Nat.ne_of_gt (blk_lt (g := gb385) (o := .cells #[.int .u8 a0_0, .int .i64 a0_1, .int .i64 a0_2, .int .u64 a0_3, .int .u64 a0_4, .int .u64 a0_5] 45 (0, 0)) (by (with_reducible repeat (first | refine blk_drewN ?_ _ | refine blk_drew ?_ | refine blk_alloc ?_ _)); exact BK385.out)) : gb386 ≠ gb385)); clear BK385; clear HB; have BK385 := n0_; have HB := n1_; have BK386 := n2_; have GW386 := n3_; have GE386 := n4_; have NB385_386 := n5_; have NB386_385 := n6_; clear n0_ n1_ n2_ n3_ n4_ n5_ n6_; clear hb hbox hg; have hnb46 := NB385_386.out; have hnc46 := NB386_385.out; have hcz47_0 : w45.cell? ⟨gb385, 0, none⟩ = some (.int .u8 a0_0) := (blk_cell BK385.out 0).trans rfl; have hcz47_1 : w45.cell? ⟨gb385, 1, none⟩ = some (.int .i64 a0_1) := (blk_cell BK385.out 1).trans rfl; have hcz47_2 : w45.cell? ⟨gb385, 2, none⟩ = some (.int .i64 a0_2) := (blk_cell BK385.out 2).trans rfl; have hcz47_3 : w45.cell? ⟨gb385, 3, none⟩ = some (.int .u64 a0_3) := (blk_cell BK385.out 3).trans rfl; have hcz47_4 : w45.cell? ⟨gb385, 4, none⟩ = some (.int .u64 a0_4) := (blk_cell BK385.out 4).trans rfl; have hcz47_5 : w45.cell? ⟨gb385, 5, none⟩ = some (.int .u64 a0_5) := (blk_cell BK385.out 5).trans rfl; have hfz47_0 := blk_frozen BK385.out 0; have hfz47_1 := blk_frozen BK385.out 1; have hfz47_2 := blk_frozen BK385.out 2; have hfz47_3 := blk_frozen BK385.out 3; have hfz47_4 := blk_frozen BK385.out 4; have hfz47_5 := blk_frozen BK385.out 5) | ((with_reducible refine gate_callee (f := 84) rfl ?_); refine goesL_ (some 12) rfl rfl Try.func84 (by kernel_rfl) rfl #[.agg #[.int .u8 a0_0, .int .i64 a0_1, .int .i64 a0_2, .int .u64 a0_3, .int .u64 a0_4, .int .u64 a0_5]] rfl (by (try simp only [List.map_toArray, List.map_cons, List.map_nil]); first | done | rfl | (simp only [List.length_drop, List.length_take]; rfl)) ?_; (with_reducible refine (cover_treeOf.calls k a0_0 a0_1 a0_2 a0_3 a0_4 a0_5 t387 t388 t389 false _ A3.out).mono ?_); rintro e w48 ⟨rfl, hb⟩; refine ⟨_, rfl, ?_⟩; have n0_ := Aside0.mk (blk_below (g := gb385) (o := .cells #[.int .u8 a0_0, .int .i64 a0_1, .int .i64 a0_2, .int .u64 a0_3, .int .u64 a0_4, .int .u64 a0_5] 45 (0, 0)) (by (with_reducible repeat (first | refine blk_drewN ?_ _ | refine blk_drew ?_ | refine blk_alloc ?_ _)); exact BK385.out) hb); have n1_ := Aside0.mk (blk_below (g := gb386) (o := .cells #[.int .u8 0, .int .i64 0, .int .i64 0] 134 (0, 0)) (by (with_reducible repeat (first | refine blk_drewN ?_ _ | refine blk_drew ?_ | refine blk_alloc ?_ _)); exact BK386.out) hb); have n2_ := Aside0.mk (below_step (by repeat (first | (with_reducible first | exact HB.out | apply below_alloc | apply pw_below_drewN | apply below_drew1 | refine below_set ?_ GE385.out | refine below_set ?_ GE386.out) | exact HB.out)) hb); clear BK385; clear BK386; clear HB; have BK385 := n0_; have BK386 := n1_; have HB := n2_; clear n0_ n1_ n2_; (try clear hb); (try clear hb2); (try clear hk); (try clear hi)) | ((with_reducible refine gate_dst (N := 6) rfl ?_); refine box_event ?hg (N := 6) ?hd (cs := #[.int .u8 0, .int .i64 0, .int .i64 0]) (t := 134) ?hr ?_; (case hd => rfl); (case hg => rfl); (case hr => first | (go_simp; done) | (go_simp; rfl)); intro gb391 hg w49 hbox hb; have n0_ := Aside0.mk (blk_below (g := gb385) (o := .cells #[.int .u8 a0_0, .int .i64 a0_1, .int .i64 a0_2, .int .u64 a0_3, .int .u64 a0_4, .int .u64 a0_5] 45 (0, 0)) (by (with_reducible repeat (first | refine blk_drewN ?_ _ | refine blk_drew ?_ | refine blk_alloc ?_ _)); exact BK385.out) hb); have n1_ := Aside0.mk (blk_below (g := gb386) (o := .cells #[.int .u8 0, .int .i64 0, .int .i64 0] 134 (0, 0)) (by (with_reducible repeat (first | refine blk_drewN ?_ _ | refine blk_drew ?_ | refine blk_alloc ?_ _)); exact BK386.out) hb); have n2_ := Aside0.mk (below_step (by repeat (first | (with_reducible first | exact HB.out | apply below_alloc | apply pw_below_drewN | apply below_drew1 | refine below_set ?_ GE385.out | refine below_set ?_ GE386.out) | exact HB.out)) hb); have n3_ := Aside0.mk (hbox); have n4_ := Aside0.mk ((by rw [hg]; exact (below_size (by repeat (first | (with_reducible first | exact HB.out | apply below_alloc | apply pw_below_drewN | apply below_drew1 | refine below_set ?_ GE385.out | refine below_set ?_ GE386.out) | exact HB.out))) : w.heap.size ≤ gb391)); have n5_ := Aside0.mk ((by rw [hg]; exact (below_size (by repeat (first | (with_reducible first | exact HB.out | apply below_alloc | apply pw_below_drewN | apply below_drew1 | refine below_set ?_ GE385.out | refine below_set ?_ GE386.out) | exact HB.out))) : w.heap.size ≤ gb391)); have n6_ := Aside0.mk ((by rw [hg]; exact Nat.ne_of_lt (blk_lt (g := gb385) (o := .cells #[.int .u8 a0_0, .int .i64 a0_1, .int .i64 a0_2, .int .u64 a0_3, .int .u64 a0_4, .int .u64 a0_5] 45 (0, 0)) (by (with_reducible repeat (first | refine blk_drewN ?_ _ | refine blk_drew ?_ | refine blk_alloc ?_ _)); exact BK385.out)) : gb385 ≠ gb391)); have n7_ := Aside0.mk ((by rw [hg]; exact Nat.ne_of_gt (blk_lt (g := gb385) (o := .cells #[.int .u8 a0_0, .int .i64 a0_1, .int .i64 a0_2, .int .u64 a0_3, .int .u64 a0_4, .int .u64 a0_5] 45 (0, 0)) (by (with_reducible repeat (first | refine blk_drewN ?_ _ | refine blk_drew ?_ | refine blk_alloc ?_ _)); exact BK385.out)) : gb391 ≠ gb385)); have n8_ := Aside0.mk ((by rw [hg]; exact Nat.ne_of_lt (blk_lt (g := gb386) (o := .cells #[.int .u8 0, .int .i64 0, .int .i64 0] 134 (0, 0)) (by (with_reducible repeat (first | refine blk_drewN ?_ _ | refine blk_drew ?_ | refine blk_alloc ?_ _)); exact BK386.out)) : gb386 ≠ gb391)); have n9_ := Aside0.mk ((by rw [hg]; exact Nat.ne_of_gt (blk_lt (g := gb386) (o := .cells #[.int .u8 0, .int .i64 0, .int .i64 0] 134 (0, 0)) (by (with_reducible repeat (first | refine blk_drewN ?_ _ | refine blk_drew ?_ | refine blk_alloc ?_ _)); exact BK386.out)) : gb391 ≠ gb386)); clear BK385; clear BK386; clear HB; have BK385 := n0_; have BK386 := n1_; have HB := n2_; have BK391 := n3_; have GW391 := n4_; have GE391 := n5_; have NB385_391 := n6_; have NB391_385 := n7_; have NB386_391 := n8_; have NB391_386 := n9_; clear n0_ n1_ n2_ n3_ n4_ n5_ n6_ n7_ n8_ n9_; clear hb hbox hg; have hnb50 := NB391_385.out; have hnc50 := NB385_391.out; have hnb51 := NB391_386.out; have hnc51 := NB386_391.out; have hcz52_0 : w49.cell? ⟨gb391, 0, none⟩ = some (.int .u8 0) := (blk_cell BK391.out 0).trans rfl; have hcz52_1 : w49.cell? ⟨gb391, 1, none⟩ = some (.int .i64 0) := (blk_cell BK391.out 1).trans rfl; have hcz52_2 : w49.cell? ⟨gb391, 2, none⟩ = some (.int .i64 0) := (blk_cell BK391.out 2).trans rfl; have hfz52_0 := blk_frozen BK391.out 0; have hfz52_1 := blk_frozen BK391.out 1; have hfz52_2 := blk_frozen BK391.out 2; have hcz53_0 : w49.cell? ⟨gb386, 0, none⟩ = some (.int .u8 0) := (blk_cell BK386.out 0).trans rfl; have hcz53_1 : w49.cell? ⟨gb386, 1, none⟩ = some (.int .i64 0) := (blk_cell BK386.out 1).trans rfl; have hcz53_2 : w49.cell? ⟨gb386, 2, none⟩ = some (.int .i64 0) := (blk_cell BK386.out 2).trans rfl; have hfz53_0 := blk_frozen BK386.out 0; have hfz53_1 := blk_frozen BK386.out 1; have hfz53_2 := blk_frozen BK386.out 2))
  refine bodyPost_ret (results_ct rfl _ _ gb386 134 #[.int .u8 0, .int .i64 0, .int .i64 0] (0, 0) _ rfl (by (with_reducible repeat (first | refine blk_drewN ?_ _ | refine blk_drew ?_ | refine blk_alloc ?_ _)); refine blk_put (cs := #[.int .u8 0, .int .i64 0, .int .i64 0]) ?_ 2 _ rfl; (with_reducible repeat (first | refine blk_drewN ?_ _ | refine blk_drew ?_ | refine blk_alloc ?_ _)); refine blk_put (cs := #[.int .u8 0, .int .i64 0, .int .i64 0]) ?_ 1 _ rfl; (with_reducible repeat (first | refine blk_drewN ?_ _ | refine blk_drew ?_ | refine blk_alloc ?_ _)); refine blk_put (cs := #[.int .u8 0, .int .i64 0, .int .i64 0]) ?_ 0 _ rfl; (with_reducible repeat (first | refine blk_drewN ?_ _ | refine blk_drew ?_ | refine blk_alloc ?_ _)); refine blk_far ?_ NB386_391.out _; (with_reducible repeat (first | refine blk_drewN ?_ _ | refine blk_drew ?_ | refine blk_alloc ?_ _)); refine blk_far ?_ NB386_391.out _; (with_reducible repeat (first | refine blk_drewN ?_ _ | refine blk_drew ?_ | refine blk_alloc ?_ _)); refine blk_far ?_ NB386_391.out _; (with_reducible repeat (first | refine blk_drewN ?_ _ | refine blk_drew ?_ | refine blk_alloc ?_ _)); exact BK386.out) Try.underlying134 rfl (by kernel_rfl)) rfl ?_
  exact ⟨by first | rfl | (simp [errW_none, errW_some] <;> rfl) | (simp [*, errW_none, errW_some] <;> rfl), by repeat (first | (with_reducible first | exact HB.out | apply below_alloc | apply pw_below_drewN | apply below_drew1 | refine below_set ?_ GE385.out | refine below_set ?_ GE386.out | refine below_set ?_ GE391.out) | exact HB.out)⟩
end Go.Proofs.Ytafhimeoijmolaa.G
namespace Go.Proofs.Ytafhimeoijmolaa.G
open Go.RowKit Go.Proofs.YtafhimeoijmolaaW.PrintWords Go.Proofs.YtafhimeoijmolaaW.PrintLast Go.Proofs.YtafhimeoijmolaaW.PrintMore
set_option linter.unusedVariables false
set_option linter.unusedSimpArgs false
theorem C_one47 {w : World} {g : Nat} {x0 x1 : Int} {t : TypeId} {m : Nat × Nat} (h : w.heap[g]? = some (.cells #[.int .i64 x0, .int .i64 x1] t m)) : Kd.C k47 w (some ⟨g, 0, none⟩) 1 [⟨x0, x1⟩] := by
  refine ⟨rfl, by omega, fun _ => ⟨_, rfl, fun j p hj => ?_⟩⟩
  match j, hj with
  | 0, hj =>
    obtain rfl : (⟨x0, x1⟩ : S47) = p := by simpa using hj
    refine ⟨_, rfl, k47_mk w ⟨x0, x1⟩, fun i u hu => ?_⟩
    match i, hu with
    | 0, hu => simp at hu; subst hu; simp [Addr.add, World.cell?, h]
    | 1, hu => simp at hu; subst hu; simp [Addr.add, World.cell?, h]
theorem blk_new (w : World) (o : Obj) : (w.alloc o).heap[w.heap.size]? = some o := World.alloc_heap_new w o
theorem blk_to {w w' : World} {g : Nat} {o : Obj} (h : w.heap[g]? = some o) (hb : Below w.heap.size w w') : w'.heap[g]? = some o := (hb.block g (Array.getElem?_eq_some_iff.1 h).1).trans h
end Go.Proofs.Ytafhimeoijmolaa.G
