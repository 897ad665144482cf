/- Texts of this claim, one behind the other, as far as they are used: R7, K2, K3, K4, X155, X127, R9, K9. -/
import Derived.RangeFuncNested
import Derived.RangeFuncBound
import Derived.RangeFuncCalls
import Derived.RangeFuncLeaves
import Derived.Shelf.Abstract
import Derived.Shelf.RegionOpen
import Derived.WalkKit
import Derived.OwnWalkIn
import Derived.TacticsInMore
import Derived.LoopNIn
import Derived.LoopIn
import Derived.Sort.LoopGhostIn
import Derived.Test.YtafhimeoijmolaaCoverKeysM2
import Derived.Test.YtafhimeoijmolaaCoverKeysM11
namespace Go.Proofs.Ytafhimeoijmolaa.R7
open Go.RowKit Go.Shelf
set_option linter.unusedVariables false
def OwnB {β : Type} (B : Nat) (I : β → World → Prop) : Prop := ∀ s W W' row, I s W → W.grownBy W' row → (∀ r, row = some r → B ≤ r) → I s W'
structure Kept (B : Nat) (W W' : World) : Prop where
  size : W.heap.size ≤ W'.heap.size
  same : ∀ k, B ≤ k → k < W.heap.size → W'.heap[k]? = W.heap[k]?
theorem Kept.refl (B : Nat) (W : World) : Kept B W W := ⟨Nat.le_refl _, fun _ _ _ => rfl⟩
theorem Kept.trans {B : Nat} {X Y Z : World} (h : Kept B X Y) (k : Kept B Y Z) : Kept B X Z := ⟨Nat.le_trans h.size k.size, fun i h1 h2 => (k.same i h1 (Nat.lt_of_lt_of_le h2 h.size)).trans (h.same i h1 h2)⟩
theorem Kept.of_below {B : Nat} {X Y : World} (h : Below X.heap.size X Y) : Kept B X Y := ⟨h.size, fun k _ hk => h.block k hk⟩
theorem Kept.set {B : Nat} {W : World} {p : Addr} (hp : p.block < B) (v : Value) : Kept B W (W.setCell p v) := ⟨by simp, fun k hk _ => Below.heap_setCell W p v k (by omega)⟩
theorem OwnB.alloc {β : Type} {B : Nat} {I : β → World → Prop} (h : OwnB B I) {s : β} {W : World} (o : Obj) (hs : I s W) : I s (W.alloc o) := h s W _ none hs (World.grownBy_alloc W o none) (fun r e => by cases e)
theorem OwnB.below {β : Type} {B : Nat} {I : β → World → Prop} (h : OwnB B I) {s : β} {W W' : World} (hs : I s W) (hb : Below W.heap.size W W') : I s W' :=
  h s W W' none hs ⟨hb.os, hb.tape, hb.output, hb.size, fun k hk _ => hb.block k hk⟩ (fun r e => by cases e)
theorem OwnB.drewN {β : Type} {B : Nat} {I : β → World → Prop} (h : OwnB B I) {s : β} {W : World} (hs : I s W) (n : Nat) : I s (W.drewN n) := h s W _ none hs ⟨rfl, rfl, rfl, Nat.le_refl _, fun _ _ _ => rfl⟩ (fun r e => by cases e)
theorem OwnB.putObj {β : Type} {B : Nat} {I : β → World → Prop} (h : OwnB B I) {s : β} {W : World} {l : Nat} (o' : Obj) (hs : I s W) (hB : B ≤ l) : I s (W.putObj l o') :=
  h s W _ (some l) hs (grownBy_putObj' W l o') (fun r e => by cases e; exact hB)
theorem OwnB.set {β : Type} {B : Nat} {I : β → World → Prop} (h : OwnB B I) {s : β} {W : World} {p : Addr} (v : Value) (hs : I s W) (hB : B ≤ p.block) : I s (W.setCell p v) :=
  h s W _ (some p.block) hs ⟨rfl, rfl, rfl, by simp, fun k _ hr => Below.heap_setCell W p v k (fun e => hr (by rw [e]))⟩ (fun r e => by cases e; exact hB)
theorem OwnB.le {β : Type} {B B' : Nat} {I : β → World → Prop} (h : OwnB B I) (hB : B ≤ B') : OwnB B' I := fun s W W' row hs hg hr => h s W W' row hs hg (fun r e => Nat.le_trans hB (hr r e))
theorem OwnB.and {β : Type} {B : Nat} {I I' : β → World → Prop} (h : OwnB B I) (h' : OwnB B I') : OwnB B (fun s W => I s W ∧ I' s W) := fun s W W' row hs hg hr => ⟨h s W W' row hs.1 hg hr, h' s W W' row hs.2 hg hr⟩
theorem ownB_below {β : Type} {n₀ B : Nat} {w₀ : World} (hn : n₀ ≤ w₀.heap.size) (hB : n₀ ≤ B) : OwnB B (fun (_ : β) W => Below n₀ w₀ W) :=
  fun _ _ _ _ hs hg hr => hs.grown hg (Nat.le_trans hn hs.size) (fun k e => Nat.le_trans hB (hr k e))
theorem ownB_blk {β : Type} {B g : Nat} (f : β → Obj) (hb : g < B) : OwnB B (fun s W => W.heap[g]? = some (f s)) := fun s W W' row hs hg hr =>
  (hg.block g (Array.getElem?_eq_some_iff.1 hs).1 (fun e => by have := hr g e.symm; omega)).trans hs
def SeqB {α : Type} (P : Program) (n gf : Nat) (lb : Array Value) (encs : α → Array Value) (xs : List α) (w0 : World) : Prop :=
  ∀ (l : Nat) (J Jx : List α → World → Prop) (W : World), Below w0.heap.size w0 W → OwnB W.heap.size J → OwnB W.heap.size Jx →
    (∀ pre x W1, J pre W1 → pre ++ [x] <+: xs → YieldAt Fence.wide (n - 1) P l (encs x) W1 fun e W' =>
      (e = .returned (.bool true) ∧ J (pre ++ [x]) W' ∧ Kept W.heap.size W1 W') ∨ (e = .returned (.bool false) ∧ Jx (pre ++ [x]) W' ∧ Kept W.heap.size W1 W')) →
    J [] W →
    CallsIn Fence.wide n P gf (#[.func (.yield l) #[] #[]] ++ lb) W fun e W' => (∃ v, e = .returned v) ∧ (J xs W' ∨ (∃ pre, pre <+: xs ∧ Jx pre W'))
def postB {α : Type} (B : Nat) (I : List α → World → Prop) (Ix : Code → List α → World → Prop) (xs : List α) (W : World) : Exit → Act → World → Prop
  | .normal, _, W' => Kept B W W' ∧ I xs W'
  | .ret, _, W' => Kept B W W' ∧ Ix .ret xs W'
  | .exit id, _, W' => Kept B W W' ∧ Ix (.exit id) xs W'
  | .goto t, _, W' => Kept B W W' ∧ Ix (.goto t) xs W'
  | .panic _, _, _ => False
  | .outgrown, _, _ => False
theorem wpIn_rangeB {P : Program} {n : Nat} {α : Type} {g : Operand} {ps : Array Tmp} {assign body : Code} {Q : Exit → Act → World → Prop} {a : Act} {w : World}
    {gf : Nat} {lb : Array Value} (hg : a.eval g = .func (.func gf) #[] lb) (eg : ∀ args w, (callFunc gf args).run P w = .ok (.enter gf args) w)
    {encs : α → Array Value} {xs : List α} {w0 : World} (hseq : SeqB P (n - 1) gf lb encs xs w0) (hb0 : Below w0.heap.size w0 w) (hps : ∀ x, (encs x).size = ps.size)
    (I : List α → World → Prop) (Ix : Code → List α → World → Prop) (hI : OwnB w.heap.size I) (hIx : ∀ c, OwnB w.heap.size (Ix c)) (h0 : I [] w)
    (hround : ∀ (l : Nat) (pre : List α) (x : α) (W : World), pre ++ [x] <+: xs →
      assign.wpIn (Fence.wide.inRound l) (n - 1 - 1) P (Exit.then (fun a' W' => W' = W ∧ ∀ W2, I pre W2 → body.wpIn (Fence.wide.inRound l) (n - 1 - 1) P (postB w.heap.size I Ix (pre ++ [x]) W2) a' W2) (fun _ _ _ => False))
        { tmps := (ps.zip (encs x)).foldl (fun t (p, v) => t.setIfInBounds p v) a.tmps, defers := [] } W)
    (hdone : ∀ (D : Nat) (W : World), w.heap.size ≤ D → I xs W → W.heap[D]? = some (.deferred (some [])) → Q .normal { a with defers := { target := .collected D, args := #[] } :: a.defers } W)
    (hstop : ∀ (D : Nat) (c : Code) (pre : List α) (W : World), w.heap.size ≤ D → pre <+: xs → Ix c pre W → W.heap[D]? = some (.deferred (some [])) → c.wpIn Fence.wide n P Q { a with defers := { target := .collected D, args := #[] } :: a.defers } W) :
    (Code.rangeFunc g ps assign body).wpIn Fence.wide n P Q a w := by
  refine wpIn_rangeFunc ?_
  intro fn hfn
  generalize hD : w.heap.size = D at *
  -- the two blocks that the statement lays: the rounds' deferred calls (D), the record (D + 1)
  let rcd : LoopState → Option Code → Obj := fun st pe => .loop { state := st, pending := pe, fn, tmps := a.tmps, params := ps, assign, body, defers := D }
  obtain ⟨W1, hW1⟩ : ∃ W1, (w.alloc (.deferred (some []))).alloc (rcd .ready .none) = W1 := ⟨_, rfl⟩
  have s1 : W1.heap.size = D + 2 := by rw [← hW1]; simp; omega
  have hl1 : W1.heap[D + 1]? = some (rcd .ready .none) := by
    rw [← hW1]; have := World.alloc_heap_new (w.alloc (.deferred (some []))) (rcd .ready .none); rwa [World.size_alloc, hD] at this
  have hk1 : W1.heap[D]? = some (.deferred (some [])) := by
    rw [← hW1]; refine (Below.heap_alloc _ _ _ (by simp; omega)).trans ?_; have := World.alloc_heap_new w (.deferred (some [])); rwa [hD] at this
  have hi1 : I [] W1 := by rw [← hW1]; exact hI.alloc _ (hI.alloc _ h0)
  have hb1 : Below w0.heap.size w0 W1 := by
    rw [← hW1]; exact (hb0.alloc hb0.size _).alloc (by simp; have := hb0.size; omega) _
  refine ⟨D + 1, [{ target := .collected D, args := #[] }], W1, { target := .fn (.func gf) lb, args := #[.func (.yield (D + 1)) #[] #[]] }, W1, gf,
    #[.func (.yield (D + 1)) #[] #[]] ++ lb, W1, ?_, ?_, fun _ _ => trivial, ?_, fun h => absurd h (by simp [Fence.wide]), ?_⟩
  · have h := run_enterLoop_outer (P := P) (w := w) fn a.tmps ps assign body
    rw [hD] at h
    rw [← hW1]
    exact h
  · simp only [resolve, hg]
    simp [go_sem]
  · simp [invoke, go_sem, eg]
  -- what the statement itself keeps in mind beside the caller's facts
  have keep : ∀ {X Y : World} {row : Option Nat} {k : Nat} {o : Obj}, X.heap[k]? = some o → k < W1.heap.size → X.grownBy Y row → (∀ r, row = some r → W1.heap.size ≤ r) → Y.heap[k]? = some o := fun hx hk hg' hr =>
    (hg'.block _ (Array.getElem?_eq_some_iff.1 hx).1 (fun e => by have := hr _ e.symm; omega)).trans hx
  have rounds : ∀ (jump : Option Code) (X W3 : World), X.heap[D + 1]? = some (rcd .busy .none) → X.heap[D]? = some (.deferred (some [])) → Kept D X W3 →
      (Instr.endRound (D + 1) jump).run P W3 = .ok (.bool jump.isNone) (W3.putObj (D + 1) (rcd (if jump.isNone then .ready else .done) jump)) ∧ W3.heap[D + 1]? = some (rcd .busy .none) ∧
      (W3.putObj (D + 1) (rcd (if jump.isNone then .ready else .done) jump)).heap[D + 1]? = some (rcd (if jump.isNone then .ready else .done) jump) ∧
      (W3.putObj (D + 1) (rcd (if jump.isNone then .ready else .done) jump)).heap[D]? = some (.deferred (some [])) := fun jump X W3 hl hk h3 => by
    have hl3 := (h3.same _ (by omega) (Array.getElem?_eq_some_iff.1 hl).1).trans hl
    exact ⟨run_endRound (P := P) jump hl3, hl3, World.putObj_heap_same (Array.getElem?_eq_some_iff.1 hl3).1, (World.putObj_heap_other (by omega)).trans ((h3.same _ (Nat.le_refl _) (Array.getElem?_eq_some_iff.1 hk).1).trans hk)⟩
  refine (hseq (D + 1)
    (fun pre W => I pre W ∧ W.heap[D + 1]? = some (rcd .ready .none) ∧ W.heap[D]? = some (.deferred (some [])))
    (fun pre W => ∃ c, Ix c pre W ∧ W.heap[D + 1]? = some (rcd .done (some c)) ∧ W.heap[D]? = some (.deferred (some [])))
    W1 hb1
    (fun s X Y row hs hg' hr => ⟨(hI.le (by omega)) s X Y row hs.1 hg' hr, keep hs.2.1 (by omega) hg' hr, keep hs.2.2 (by omega) hg' hr⟩)
    (fun s X Y row hs hg' hr => by
      obtain ⟨c, hc, hl, hk⟩ := hs
      exact ⟨c, ((hIx c).le (by omega)) s X Y row hc hg' hr, keep hl (by omega) hg' hr, keep hk (by omega) hg' hr⟩)
    ?_ ⟨hi1, hl1, hk1⟩).mono ?_
  · rintro pre x W ⟨hi, hl, hk⟩ hpx
    refine ⟨fn, _, assign, body, run_yield (P := P) (args := encs x) hl (hps x), roundIn_of_wpIn hfn (wpIn_mono (hround _ pre x W hpx) ?_)⟩
    intro e0 a0 W' hp0
    have hp1 : W' = W ∧ ∀ W2, I pre W2 → body.wpIn (Fence.wide.inRound (D + 1)) (n - 1 - 1) P (postB D I Ix (pre ++ [x]) W2) a0 W2 := by cases e0 <;> first | exact hp0 | exact hp0.elim
    have he0 : e0 = .normal := by cases e0 <;> first | rfl | exact hp0.elim
    subst he0
    clear hp0
    obtain ⟨hW', hbody⟩ := hp1
    rw [hW']
    refine ⟨_, run_beginRound hl rfl, ?_⟩
    have hlt := (Array.getElem?_eq_some_iff.1 hl).1
    have hl2 : (W.putObj (D + 1) (rcd .busy .none)).heap[D + 1]? = some (rcd .busy .none) := World.putObj_heap_same hlt
    have hk2 : (W.putObj (D + 1) (rcd .busy .none)).heap[D]? = some (.deferred (some [])) := (World.putObj_heap_other (by omega)).trans hk
    have kf : ∀ (jump : Option Code) (W3 : World), Kept D (W.putObj (D + 1) (rcd .busy .none)) W3 → Kept W1.heap.size W (W3.putObj (D + 1) (rcd (if jump.isNone then .ready else .done) jump)) := fun jump W3 h3 =>
      ⟨by have := h3.size; simp at this ⊢; omega, fun k hk hlt => (World.putObj_heap_other (by omega)).trans ((h3.same k (by omega) (by simpa using hlt)).trans (World.putObj_heap_other (by omega)))⟩
    refine wpIn_mono (hbody _ (hI.putObj _ hi (by omega))) ?_
    rintro e a3 W3 hp
    cases e with
    | normal =>
      obtain ⟨hk3, hi3⟩ := hp
      obtain ⟨hr, hl3, hl4, hk4⟩ := rounds .none _ W3 hl2 hk2 hk3
      exact ⟨_, _, hr, .inl ⟨rfl, ⟨hI.putObj _ hi3 (by omega), hl4, hk4⟩, kf .none _ hk3⟩⟩
    | ret =>
      obtain ⟨hr, hl3, hl4, hk4⟩ := rounds (some .ret) _ W3 hl2 hk2 hp.1
      exact ⟨_, _, hr, .inr ⟨rfl, ⟨.ret, (hIx _).putObj _ hp.2 (by omega), hl4, hk4⟩, kf (some .ret) _ hp.1⟩⟩
    | exit id =>
      obtain ⟨hr, hl3, hl4, hk4⟩ := rounds (some (.exit id)) _ W3 hl2 hk2 hp.1
      exact ⟨_, _, hr, .inr ⟨rfl, ⟨.exit id, (hIx _).putObj _ hp.2 (by omega), hl4, hk4⟩, kf (some (.exit id)) _ hp.1⟩⟩
    | goto t =>
      obtain ⟨hr, hl3, hl4, hk4⟩ := rounds (some (.goto t)) _ W3 hl2 hk2 hp.1
      exact ⟨_, _, hr, .inr ⟨rfl, ⟨.goto t, (hIx _).putObj _ hp.2 (by omega), hl4, hk4⟩, kf (some (.goto t)) _ hp.1⟩⟩
    | panic ch => exact hp.elim
    | outgrown => exact hp.elim
  · rintro e W2 ⟨⟨v, rfl⟩, (⟨hi, hl, hk⟩ | ⟨pre, hSp, c, hi, hl, hk⟩)⟩
    · exact ⟨.none, _, run_endLoop (P := P) hl (by simp), hdone _ _ (Nat.le_refl _) (hI.putObj _ hi (by omega)) ((World.putObj_heap_other (by omega)).trans hk)⟩
    · exact ⟨some c, _, run_endLoop (P := P) hl (by simp), hstop _ c pre _ (Nat.le_refl _) hSp ((hIx c).putObj _ hi (by omega)) ((World.putObj_heap_other (by omega)).trans hk)⟩
end Go.Proofs.Ytafhimeoijmolaa.R7
namespace Go.Proofs.Ytafhimeoijmolaa.K
open Go.RowKit Go.Shelf Go.Proofs.YtafhimeoijmolaaW.PrintWords Go.Proofs.YtafhimeoijmolaaW.PrintLast Go.Proofs.YtafhimeoijmolaaW.PrintMore Go.Proofs.Ytafhimeoijmolaa.G Go.Proofs.Ytafhimeoijmolaa.R7
attribute [local go_sem] Oper.semAt_some
set_option linter.unusedVariables false
set_option linter.unusedSimpArgs false
def rl (a : Int) (s : Nat) : Int := Go.bits .or .u64 (IntKind.u64.wrap (a * 2 ^ s)) (a / 2 ^ (64 - s))
theorem rot_m8 (a : Int) : Z.bits_RotateLeft64.f a (-8) = some (rl a 56) := by
  have h1 : Go.bits .and .u64 (IntKind.u64.wrap (-8)) 63 = 56 := by kernel_rfl
  have h2 : IntKind.u64.wrap (64 - 56) = 8 := by kernel_rfl
  unfold Z.bits_RotateLeft64.f
  rw [h1, h2, if_pos (by decide), if_pos (by decide)]
  rfl
theorem rot_3 (a : Int) : Z.bits_RotateLeft64.f a 3 = some (rl a 3) := by
  have h1 : Go.bits .and .u64 (IntKind.u64.wrap 3) 63 = 3 := by kernel_rfl
  have h2 : IntKind.u64.wrap (64 - 3) = 61 := by kernel_rfl
  unfold Z.bits_RotateLeft64.f
  rw [h1, h2, if_pos (by decide), if_pos (by decide)]
  rfl
def rnd (p : Int × Int) (k : Int) : Int × Int :=
  (Go.bits .xor .u64 (IntKind.u64.wrap (rl p.1 56 + p.2)) k, Go.bits .xor .u64 (rl p.2 3) (Go.bits .xor .u64 (IntKind.u64.wrap (rl p.1 56 + p.2)) k))
abbrev pv (p : Int × Int) : Value := .agg #[.int .u64 p.1, .int .u64 p.2]
theorem round_calls (p : Int × Int) (k : Int) (w : World) :
    Calls Try.prog 133 #[pv p, .int .u64 k] w fun e w' => e = .returned (pv (rnd p k)) ∧ Below w.heap.size w w' :=
  Z.cipher_pair_round.calls p.1 p.2 k _ _ w (by unfold Z.cipher_pair_round.f; rw [rot_m8, rot_3]; rfl)
def blockOfK (tag c n : Int) : S26 := blockK (Go.bits .or .u64 (IntKind.u64.wrap (IntKind.u64.wrap tag * 72057594037927936)) c) n
set_option maxHeartbeats 4000000 in
set_option maxRecDepth 100000 in
theorem blockOf_calls (tag c n : Int) (w : World) :
    Calls Try.prog 130 #[.int .u8 tag, .int .u64 c, .int .u64 n] w fun e w' => e = .returned (kv (blockOfK tag c n)) ∧ Below w.heap.size w w' := by
  have hu191 := Try.underlying191
  have hu26 := Try.underlying26
  go_enter Try.func130, Try.ntmps130
  go_wp2_with fail
  go_at_call 134
  refine (block_calls _ _ _).mono ?_
  rintro e1 w1 ⟨rfl, hb1⟩
  have hB : w1.heap[w.heap.size]? = some (.cells (kc z26) 26 (0, 0)) := blk_to (newAt rfl) hb1
  obtain ⟨d0, d1, d2, d3, d4, d5, d6, d7, d8, d9, d10, d11, d12, d13, d14, d15⟩ := cells16 hB
  obtain ⟨f0, f1, f2, f3, f4, f5, f6, f7, f8, f9, f10, f11, f12, f13, f14, f15⟩ := frozen16 hB
  have hB' := Aside0.mk hB
  have hb1' := Aside0.mk hb1
  obtain ⟨K, hK⟩ : ∃ K, K = blockK (Go.bits .or .u64 (IntKind.u64.wrap (IntKind.u64.wrap tag * 72057594037927936)) c) n := ⟨_, rfl⟩
  rw [← hK]
  have hK' := Aside0.mk hK
  clear hB hb1 hK
  go_wp2
  refine bodyPost_ret (results_cell_row rfl _ _ w.heap.size 26 (kc K) (0, 0) _ rfl (putK_at hB'.out K) Try.underlying26 rfl (by kernel_rfl)) rfl ?_
  refine ⟨by rw [hK'.out]; rfl, putK_below ?_ (Nat.le_refl _)⟩
  exact ((Below.refl _ w).alloc (Nat.le_refl _) _).trans (hb1'.out.mono (by simp))
theorem keys_calls (k : S26) (w : World) :
    Calls Try.prog 132 #[kv k] w fun e w' => e = .returned (.func (.func 156) #[] #[.pointer (some ⟨w.heap.size, 0, none⟩)]) ∧ w' = w.alloc (.cells (kc k) 26 (0, 0)) := by
  have hu26 := Try.underlying26
  go_enter Try.func132, Try.ntmps132
  go_wp2
  go_ret
  exact ⟨rfl, rfl⟩
end Go.Proofs.Ytafhimeoijmolaa.K
namespace Go.Proofs.Ytafhimeoijmolaa.K
open Go.RowKit Go.Shelf Go.Proofs.YtafhimeoijmolaaW.PrintWords Go.Proofs.YtafhimeoijmolaaW.PrintLast Go.Proofs.YtafhimeoijmolaaW.PrintMore Go.Proofs.Ytafhimeoijmolaa.G Go.Proofs.Ytafhimeoijmolaa.R7
attribute [local go_sem] Oper.semAt_some
set_option linter.unusedVariables false
set_option linter.unusedSimpArgs false
def ks (p : Int × Int) : Nat → Int × Int
  | 0 => p
  | i + 1 => rnd (ks p i) i
def wds (k : S26) : Int × Int := (wordX k, wordY k)
def keysL (k : S26) : List (Int × Int) := (List.range 32).map fun (i : Nat) => ((i : Int), (ks (wds k) i).2)
theorem keysL_take (k : S26) (i : Nat) (hi : i < 32) : (keysL k).take i ++ [((i : Int), (ks (wds k) i).2)] = (keysL k).take (i + 1) := by
  have hl : i < (keysL k).length := by simp [keysL]; omega
  rw [List.take_add_one, List.getElem?_eq_getElem hl]
  simp [keysL]
abbrev enck (x : Int × Int) : Array Value := #[.int .i64 x.1, .int .u64 x.2]
set_option maxHeartbeats 4000000 in
set_option maxRecDepth 100000 in
theorem keys_seq (n : Nat) (Bk : Nat) (k : S26) (m : Nat × Nat) (w : World) (hk : w.heap[Bk]? = some (.cells (kc k) 26 m)) :
    SeqB Try.prog n 156 #[.pointer (some ⟨Bk, 0, none⟩)] enck (keysL k) w := by
  intro l J Jx W hW hJ hJx hY h0
  refine callsIn_of_wp Try.func156 rfl trivial ?_ rfl
  simp only [Try.ntmps156, List.size_toArray, List.length_cons, List.length_nil, Nat.reduceAdd, Nat.reduceSub, Array.replicate_succ, Array.replicate_zero, List.push_toArray, List.append_toArray, List.nil_append, List.cons_append]
  have hk1 : W.heap[Bk]? = some (.cells (kc k) 26 m) := blk_to hk hW
  obtain ⟨c0, c1, c2, c3, c4, c5, c6, c7, c8, c9, c10, c11, c12, c13, c14, c15⟩ := cells16 hk1
  have hu26 := Try.underlying26
  have hu191 := Try.underlying191
  have hJ' := Aside0.mk hJ; have hJx' := Aside0.mk hJx; have hY' := Aside0.mk hY; have h0' := Aside0.mk h0; have hW' := Aside0.mk hW
  clear hJ hJx hY h0 hW hk hk1
  gi_wp2_with fail
  refine ⟨trivial, fun h => absurd h (by simp [Fence.wide]), (callsIn_wide.2 (wordsOf_calls k W)).mono ?_⟩
  rintro e1 w1 ⟨rfl, hb1⟩
  have hb1' := Aside0.mk hb1
  have hJ1 := Aside0.mk (hJ'.out.below h0'.out hb1)
  clear hb1 h0' c0 c1 c2 c3 c4 c5 c6 c7 c8 c9 c10 c11 c12 c13 c14 c15
  gi_wp2
  gi_loopg [7] 32 (fun kx p wr => ∃ i : Nat, p = .int .i64 (i : Int) ∧ Aside0 (i + kx = 32) ∧ Aside0 (wr.heap[w1.heap.size]? = some (.cells #[.int .u64 (ks (wds k) i).1, .int .u64 (ks (wds k) i).2] 191 (0, 0))) ∧ Aside0 (J ((keysL k).take i) wr) ∧ Aside0 (w1.heap.size < wr.heap.size))
  case atStart => exact ⟨0, rfl, ⟨rfl⟩, ⟨newAt rfl⟩, ⟨hJ'.out.alloc _ hJ1.out⟩, ⟨by simp⟩⟩
  case round =>
    obtain ⟨i, rfl, HI, BP, HJ, HS⟩ := hrel
    by_cases hi : i < 32
    · have b0 : decide ((i : Int) < 32) = true := decide_eq_true (by omega)
      have hi' := Aside0.mk hi
      have hu : IntKind.u64.wrap (i : Int) = (i : Int) := by rw [IntKind.wrap_u64]; omega
      clear hi
      obtain ⟨q, hq⟩ : ∃ q, q = ks (wds k) i := ⟨_, rfl⟩
      have hq' := Aside0.mk hq
      have BP' := BP.out
      rw [← hq] at BP'
      have c0 := cat BP' 0 _ rfl
      have c1 := cat BP' 1 _ rfl
      have BP2 := Aside0.mk BP'
      clear BP' BP hq
      have hpx : (keysL k).take i ++ [((i : Int), q.2)] <+: keysL k := by rw [hq'.out, keysL_take k i hi'.out]; exact List.take_prefix _ _
      obtain ⟨fn, tmps, assign, body, hy, hR⟩ := hY'.out _ ((i : Int), q.2) wr HJ.out hpx
      have hR' := Aside0.mk hR
      have hy' := Aside0.mk hy
      clear hR hpx
      gi_wp2
      refine ⟨fun h => absurd h (by simp [Fence.wide]), hR'.out.mono ?_⟩
      rintro e W3 (⟨rfl, hJ3, hk3⟩ | ⟨rfl, hJx3, hk3⟩)
      · have BP3 : W3.heap[w1.heap.size]? = some (.cells #[.int .u64 q.1, .int .u64 q.2] 191 (0, 0)) := (hk3.same _ hb1'.out.size HS.out).trans BP2.out
        have c2 := cat BP3 0 (.int .u64 q.1) rfl
        have c3 := cat BP3 1 (.int .u64 q.2) rfl
        have BP4 := Aside0.mk BP3
        have HJ3 := Aside0.mk hJ3
        have HS3 := Aside0.mk (Nat.lt_of_lt_of_le HS.out hk3.size)
        clear BP3 hJ3 hk3 c0 c1
        gi_wp2_with fail
        refine ⟨trivial, fun h => absurd h (by simp [Fence.wide]), (callsIn_wide.2 (round_calls q i W3)).mono ?_⟩
        rintro e4 w4 ⟨rfl, hb4⟩
        have BP5 : w4.heap[w1.heap.size]? = some (.cells #[.int .u64 q.1, .int .u64 q.2] 191 (0, 0)) := blk_to BP4.out hb4
        have c4 := cat BP5 0 (.int .u64 q.1) rfl
        have c5 := cat BP5 1 (.int .u64 q.2) rfl
        have f4 := blk_frozen BP5 0
        have f5 := blk_frozen BP5 1
        have BP6 := Aside0.mk BP5
        have HJ4 := Aside0.mk (hJ'.out.below HJ3.out hb4)
        have HS4 := Aside0.mk (Nat.lt_of_lt_of_le HS3.out hb4.size)
        clear BP5 hb4 c2 c3
        gi_wp2
        obtain ⟨gq, rfl⟩ : ∃ gq, gk = gq + 1 := ⟨gk - 1, by have := hi'.out; have := HI.out; omega⟩
        gi_roundg gq
        case measure => omega
        case rel =>
          refine ⟨i + 1, by have := hi'.out; simp [wrap64]; omega, ⟨by have := HI.out; omega⟩, ⟨?_⟩, ⟨?_⟩, ⟨by simp; exact HS4.out⟩⟩
          · have h := put2 BP6.out (.int .u64 (rnd q i).1) (.int .u64 (rnd q i).2)
            rw [hq'.out] at h
            rw [hq'.out]
            exact h
          · rw [← keysL_take k i hi'.out, ← hq'.out]
            exact hJ'.out.set _ (hJ'.out.set _ HJ4.out (by have := hb1'.out.size; simp; omega)) (by have := hb1'.out.size; simp; omega)
      · gi_wp2
        refine bodyPost_ret (results_none rfl _ _ _) rfl ?_
        exact ⟨⟨_, rfl⟩, .inr ⟨_, by rw [hq'.out, keysL_take k i hi'.out]; exact List.take_prefix _ _, hJx3⟩⟩
    · have h32 : i = 32 := by have := HI.out; omega
      subst h32
      gi_wp2
      go_end0
      exact ⟨⟨_, rfl⟩, .inl (by have h := HJ.out; rwa [List.take_of_length_le (by simp [keysL])] at h)⟩
end Go.Proofs.Ytafhimeoijmolaa.K
namespace Go.Proofs.Ytafhimeoijmolaa.K
open Go.RowKit Go.Shelf Go.Proofs.YtafhimeoijmolaaW.PrintWords Go.Proofs.YtafhimeoijmolaaW.PrintLast Go.Proofs.YtafhimeoijmolaaW.PrintMore Go.Proofs.Ytafhimeoijmolaa.G Go.Proofs.Ytafhimeoijmolaa.R7
attribute [local go_sem] Oper.semAt_some
set_option linter.unusedVariables false
set_option linter.unusedSimpArgs false
theorem putK_obj {w : World} {g D : Nat} {o : Obj} (h : w.heap[D]? = some o) (hg : D ≠ g) (k : S26) : (putK w g k).heap[D]? = some o := by
  simp only [putK]
  have e : ∀ (W : World) (p : Addr) (v : Value), W.heap[D]? = some o → p.block = g → (W.setCell p v).heap[D]? = some o := fun W p v h1 h2 => (Below.heap_setCell W p v D (by omega)).trans h1
  repeat (refine e _ _ _ ?_ rfl)
  exact h
def encN (k p : Int × Int) : Nat → Int × Int
  | 0 => p
  | i + 1 => rnd (encN k p i) (ks k i).2
theorem keysL_at {k : S26} {pre : List (Int × Int)} {x : Int × Int} (h : pre ++ [x] <+: keysL k) : x = ((pre.length : Int), (ks (wds k) pre.length).2) ∧ pre.length < 32 := by
  have hl := h.length_le
  have hlt : pre.length < 32 := by simp [keysL] at hl; omega
  have e : (pre ++ [x])[pre.length]? = some x := by simp
  have e2 : (keysL k)[pre.length]? = some x := by
    obtain ⟨t, ht⟩ := h
    rw [← ht, List.getElem?_append_left (by simp)]
    exact e
  simp [keysL, hlt] at e2
  exact ⟨e2.symm, hlt⟩
def encK (k b : S26) : S26 := let q := encN (wds k) (wds b) 32; blockK q.1 q.2
set_option maxHeartbeats 4000000 in
set_option maxRecDepth 100000 in
theorem Encrypt_calls (k b : S26) (w : World) :
    Calls Try.prog 87 #[kv k, kv b] w fun e w' => e = .returned (kv (encK k b)) ∧ Below w.heap.size w w' := by
  have hu26 := Try.underlying26
  have hu191 := Try.underlying191
  refine (callsIn_wide (n := 9)).1 ?_
  refine callsIn_of_wp_marks Try.func87 rfl trivial ?_ rfl
  simp only [Try.ntmps87, List.size_toArray, List.length_cons, List.length_nil, Nat.reduceAdd, Nat.reduceSub, Array.replicate_succ, Array.replicate_zero, List.push_toArray, List.append_toArray, List.nil_append, List.cons_append]
  gi_wp2_with fail
  refine ⟨trivial, (callsIn_wide.2 (wordsOf_calls b _)).mono ?_⟩
  rintro e1 w1 ⟨rfl, hb1⟩
  have hK1 : w1.heap[w.heap.size]? = some (.cells (kc k) 26 (0, 0)) := blk_to (blk_alloc (blk_alloc (newAt rfl) _) _) hb1
  have hR1 : w1.heap[w.heap.size + 1 + 1]? = some (.cells (kc z26) 26 (0, 0)) := blk_to (newAt (by simp)) hb1
  have hB1 : Below w.heap.size w w1 := ((((Below.refl _ w).alloc (Nat.le_refl _) _).alloc (by simp) _).alloc (by simp; omega) _).trans (hb1.mono (by simp; omega))
  have hs1 : w.heap.size + 1 + 1 < w1.heap.size := by have := hb1.size; simp at this; omega
  clear hb1
  have HK1 := Aside0.mk hK1; have HR1 := Aside0.mk hR1; have HB1 := Aside0.mk hB1; have HS1 := Aside0.mk hs1
  obtain ⟨c0, c1, c2, c3, c4, c5, c6, c7, c8, c9, c10, c11, c12, c13, c14, c15⟩ := cells16 (blk_alloc hK1 (.cells #[.int .u64 (wordX b), .int .u64 (wordY b)] 191 (0, 0)))
  clear hK1 hR1 hB1 hs1
  gi_wp2_with fail
  refine ⟨trivial, (callsIn_wide.2 (keys_calls k _)).mono ?_⟩
  rintro e2 w2 ⟨rfl, rfl⟩
  clear c0 c1 c2 c3 c4 c5 c6 c7 c8 c9 c10 c11 c12 c13 c14 c15
  simp only [World.size_alloc]
  gi_wp2
  obtain ⟨W0, hW0⟩ : ∃ W0, (w1.alloc (.cells #[.int .u64 (wordX b), .int .u64 (wordY b)] 191)).alloc (.cells (kc k) 26) = W0 := ⟨_, rfl⟩
  have s0 : W0.heap.size = w1.heap.size + 2 := by rw [← hW0]; simp
  have bP : W0.heap[w1.heap.size]? = some (.cells #[.int .u64 (wordX b), .int .u64 (wordY b)] 191 (0, 0)) := by rw [← hW0]; exact blk_alloc (newAt rfl) _
  have bK : W0.heap[w1.heap.size + 1]? = some (.cells (kc k) 26 (0, 0)) := by rw [← hW0]; exact newAt (by simp)
  have bR : W0.heap[w.heap.size + 1 + 1]? = some (.cells (kc z26) 26 (0, 0)) := by rw [← hW0]; exact blk_alloc (blk_alloc HR1.out _) _
  have HB0 : Below w.heap.size w W0 := by rw [← hW0]; exact (HB1.out.alloc HB1.out.size _).alloc (by have := HB1.out.size; simp; omega) _
  rw [hW0]
  refine wpIn_rangeB (P := Try.prog) (gf := 156) (lb := #[.pointer (some ⟨w1.heap.size + 1, 0, none⟩)]) rfl (enters_of Try.func156 (by kernel_rfl) rfl)
    (keys_seq (9 - 1) _ k _ _ bK) (Below.refl _ _) (fun _ => rfl)
    (fun pre W => (W.heap[w1.heap.size]? = some (.cells #[.int .u64 (encN (wds k) (wds b) pre.length).1, .int .u64 (encN (wds k) (wds b) pre.length).2] 191 (0, 0)) ∧ W.heap[w.heap.size + 1 + 1]? = some (.cells (kc z26) 26 (0, 0))) ∧ Below w.heap.size w W) (fun _ _ _ => False) ?hI (fun _ _ _ _ _ hs _ _ => hs) ⟨⟨bP, bR⟩, HB0⟩ ?round ?done ?stop
  case hI => exact ((ownB_blk _ (by omega)).and (ownB_blk _ (by have := HS1.out; omega))).and (ownB_below (Nat.le_refl _) (by have := HS1.out; omega))
  case round =>
    intro l pre x W hpx
    obtain ⟨hx, hlt⟩ := keysL_at hpx
    simp only [enck]
    gi_wp2
    refine ⟨trivial, ?_⟩
    rintro W2 ⟨⟨b1, b2⟩, b3⟩
    obtain ⟨q, hq⟩ : ∃ q, q = encN (wds k) (wds b) pre.length := ⟨_, rfl⟩
    have hq' := Aside0.mk hq
    rw [← hq] at b1
    have c0 := cat b1 0 (.int .u64 q.1) rfl
    have c1 := cat b1 1 (.int .u64 q.2) rfl
    have B1 := Aside0.mk b1; have B2 := Aside0.mk b2; have B3 := Aside0.mk b3
    have hx' := Aside0.mk hx
    clear b1 b2 b3 hq hx hpx
    gi_wp2_with fail
    refine ⟨trivial, (CallsIn.inRound l (callsIn_wide.2 (round_calls q _ W2))).mono ?_⟩
    rintro e3 w3 ⟨rfl, hb3⟩
    have b1 : w3.heap[w1.heap.size]? = some (.cells #[.int .u64 q.1, .int .u64 q.2] 191 (0, 0)) := blk_to B1.out hb3
    have c2 := cat b1 0 (.int .u64 q.1) rfl
    have c3 := cat b1 1 (.int .u64 q.2) rfl
    have f2 := blk_frozen b1 0
    have f3 := blk_frozen b1 1
    have b2 := blk_to B2.out hb3
    have B4 := Aside0.mk b1; have B5 := Aside0.mk b2; have B6 := Aside0.mk hb3
    clear b1 b2 hb3 c0 c1
    gi_wp2
    refine ⟨(R7.Kept.of_below B6.out).trans ((R7.Kept.set (by show w1.heap.size < _; omega) _).trans (R7.Kept.set (by show w1.heap.size < _; omega) _)), ⟨?_, ?_⟩, ?_⟩
    · have h := put2 B4.out (.int .u64 (rnd q (ks (wds k) pre.length).2).1) (.int .u64 (rnd q (ks (wds k) pre.length).2).2)
      rw [List.length_append, List.length_singleton]
      rw [hq'.out] at h
      rw [hq'.out]
      exact h
    · exact blk_far (blk_far B5.out (by have := HS1.out; simp; omega) _) (by have := HS1.out; simp; omega) _
    · exact ((B3.out.trans (B6.out.mono B3.out.size)).setCell (by have := HS1.out; simp; omega) _).setCell (by have := HS1.out; simp; omega) _
  case done =>
    rintro D W hD ⟨⟨b1, b2⟩, b3⟩ hK
    rw [show (keysL k).length = 32 by simp [keysL]] at b1
    obtain ⟨q, hq⟩ : ∃ q, q = encN (wds k) (wds b) 32 := ⟨_, rfl⟩
    have hq' := Aside0.mk hq
    rw [← hq] at b1
    have c0 := cat b1 0 (.int .u64 q.1) rfl
    have c1 := cat b1 1 (.int .u64 q.2) rfl
    have B2 := Aside0.mk b2; have B3 := Aside0.mk b3; have HK := Aside0.mk hK
    clear b1 b2 b3 hq hK
    gi_wp2_with fail
    refine ⟨trivial, (callsIn_wide.2 (block_calls q.1 q.2 W)).mono ?_⟩
    rintro e3 w3 ⟨rfl, hb3⟩
    obtain ⟨K, hKK⟩ : ∃ K, K = blockK q.1 q.2 := ⟨_, rfl⟩
    rw [← hKK]
    have hK' := Aside0.mk hKK
    have b2 := blk_to B2.out hb3
    obtain ⟨d0, d1, d2, d3, d4, d5, d6, d7, d8, d9, d10, d11, d12, d13, d14, d15⟩ := cells16 b2
    obtain ⟨f0, f1, f2, f3, f4, f5, f6, f7, f8, f9, f10, f11, f12, f13, f14, f15⟩ := frozen16 b2
    have B4 := Aside0.mk b2; have B5 := Aside0.mk hb3
    clear b2 hb3 hKK c0 c1
    gi_wp2
    refine ⟨by simp, .inl ⟨_, _, rfl, run_takeDeferred (putK_obj (blk_to HK.out B5.out) (by have := HS1.out; omega) K), ?_⟩⟩
    refine ⟨kv K, results_cell_row rfl _ _ (w.heap.size + 1 + 1) 26 (kc K) (0, 0) _ rfl ((World.putObj_heap_other (by have := HS1.out; omega)).trans (putK_at B4.out K)) Try.underlying26 rfl (by kernel_rfl), by rw [hK'.out, hq'.out]; rfl, ?_⟩
    have hb : Below w.heap.size w (putK w3 (w.heap.size + 1 + 1) K) := putK_below (B3.out.trans (B5.out.mono B3.out.size)) (by omega)
    exact hb.trans (belowK_b (w := w) (Nat.le_refl _) _ D _ _ (by have := HS1.out; omega) (putK_obj (blk_to HK.out B5.out) (by have := HS1.out; omega) K) rfl rfl)
  case stop =>
    rintro D c pre W _ _ h _
    exact h.elim
end Go.Proofs.Ytafhimeoijmolaa.K
namespace Go.Proofs.Ytafhimeoijmolaa.G
open Go.RowKit Go.Shelf Go.Proofs.YtafhimeoijmolaaW.PrintWords
attribute [local go_sem] Oper.semAt_some
set_option linter.unusedVariables false
set_option linter.unusedSimpArgs false
def pathF : Nat → Int → Int → Option (List Int)
  | 0, _, _ => none
  | k + 1, v, t => if v = t then some [] else (cover_node_toward.f v t).bind fun x => (pathF k x t).map (x :: ·)
theorem abides_drewN {β : Type} {B : Nat} {J : β → World → Prop} (h : AbidesFrom B J) {s : β} {W : World} (hs : J s W) (m : Nat) : J s (W.drewN m) :=
  h s W _ none hs ⟨rfl, rfl, rfl, Nat.le_refl _, fun _ _ _ => rfl⟩ (fun r e => by cases e)
set_option maxRecDepth 100000 in
set_option maxHeartbeats 1000000 in
theorem path1_in (F : Fence) (n : Nat) (hw : F = Fence.wide) (h6 : F.fn 155) (hro : F.round = none) (l Bf Bt n₀ : Nat) (v0 t : Int) (k0 : Nat) (xs : List Int) (hp : pathF k0 v0 t = some xs) (J Jx : List Int → World → Prop)
    (W : World) (hJ : AbidesFrom W.heap.size J)
    (hY : ∀ pre x W, J pre W → pre.length < xs.length → YieldAt F (n - 1) Try.prog l #[.int .i64 x] W fun e W' =>
      (e = .returned (.bool true) ∧ J (pre ++ [x]) W' ∧ Below n₀ W W') ∨ (e = .returned (.bool false) ∧ Jx (pre ++ [x]) W'))
    (hBf : Bf < n₀) (hBt : Bt < n₀)
    (hcf : W.cell? ⟨Bf, 0, none⟩ = some (.int .i64 v0)) (hct : W.cell? ⟨Bt, 0, none⟩ = some (.int .i64 t)) (h0 : J [] W) :
    CallsIn F n Try.prog 155 #[.func (.yield l) #[] #[], .pointer (some ⟨Bf, 0, none⟩), .pointer (some ⟨Bt, 0, none⟩)] W fun e W' => (∃ v, e = .returned v) ∧
      ((∃ ys, ys = xs ∧ J ys W') ∨ (∃ pre, pre <+: xs ∧ Jx pre W')) := by
  subst hw
  refine callsIn_of_wp Try.func155 rfl h6 ?_ hro
  simp only [Try.ntmps155, List.size_toArray, List.length_cons, List.length_nil, Nat.reduceAdd, Nat.reduceSub, Array.replicate_succ, Array.replicate_zero, List.push_toArray, List.append_toArray, List.nil_append, List.cons_append]
  gi_wp2
  gi_loopg [4] k0 (fun kx p wr => ∃ (pre rest : List Int) (v : Int), p = .int .i64 v ∧ Aside0 (xs = pre ++ rest) ∧ Aside0 (pathF kx v t = some rest) ∧ J pre wr ∧ Aside0 (wr.cell? ⟨Bt, 0, none⟩ = some (.int .i64 t)))
  case atStart => exact ⟨[], xs, v0, rfl, ⟨rfl⟩, ⟨hp⟩, h0, ⟨hct⟩⟩
  case round =>
    obtain ⟨pre, rest, v, rfl, hx, hpp, hJs, hct1⟩ := hrel
    have hct2 := hct1.out
    have hJ' := Aside0.mk hJ
    have hY' := Aside0.mk hY
    clear hJ hY hct hcf hp h0
    cases gk with
    | zero => exact absurd hpp.out (by simp [pathF])
    | succ kq =>
      by_cases hv : v = t
      · subst hv
        have hr : rest = [] := by
          have h := hpp.out
          simp only [pathF, if_true, Option.some.injEq] at h
          exact h.symm
        subst hr
        have e0 : (v != v) = false := by simp
        gi_wp2
        go_end0
        exact ⟨⟨_, rfl⟩, .inl ⟨pre, by have h := hx.out; rw [List.append_nil] at h; exact h.symm, hJs⟩⟩
      · have e0 : (v != t) = true := by simp [hv]
        have hpp1 := hpp.out
        simp only [pathF, if_neg hv] at hpp1
        obtain ⟨x, hxt, hpp1⟩ := Option.bind_eq_some_iff.mp hpp1
        obtain ⟨rest', hr', rfl⟩ := Option.map_eq_some_iff.mp hpp1
        clear hpp hpp1 hv
        have hxt' := Aside0.mk hxt
        have hr2 := Aside0.mk hr'
        clear hxt hr'
        gi_wp2_with fail
        refine ⟨trivial, fun h => absurd h (by simp [Fence.wide]), ?_⟩
        refine (callsIn_wide.2 (cover_node_toward.calls v t x _ hxt'.out)).mono ?_
        rintro e w' ⟨rfl, ⟨nd, rfl⟩⟩
        have hlen : pre.length < xs.length := by rw [hx.out]; simp
        obtain ⟨fn, tmps, assign, body, hy, hR⟩ := hY'.out pre x (wr.drewN nd) (abides_drewN hJ'.out hJs nd) hlen
        have hct3 : (wr.drewN nd).cell? ⟨Bt, 0, none⟩ = some (.int .i64 t) := hct2
        gi_wp2
        refine ⟨fun h => absurd h (by simp [Fence.wide]), hR.mono ?_⟩
        rintro e W3 (⟨rfl, hJ3, hk3⟩ | ⟨rfl, hJx3⟩)
        · have hq3 : W3.cell? ⟨Bt, 0, none⟩ = some (.int .i64 t) := (hk3.cell (p := ⟨Bt, 0, none⟩) hBt).trans hct3
          gi_wp2
          gi_roundg kq
          case measure => omega
          case rel => exact ⟨pre ++ [x], rest', x, rfl, ⟨by rw [hx.out]; simp⟩, hr2, hJ3, ⟨hq3⟩⟩
        · gi_wp2
          refine bodyPost_ret (results_none rfl _ _ _) rfl ?_
          exact ⟨⟨_, rfl⟩, .inr ⟨pre ++ [x], ⟨rest', by rw [hx.out]; simp⟩, hJx3⟩⟩
theorem path_calls (v t : Int) (w : World) :
    Calls Try.prog 128 #[.int .i64 v, .int .i64 t] w fun e w' => e = .returned (.func (.func 155) #[] #[.pointer (some ⟨w.heap.size, 0, none⟩), .pointer (some ⟨w.heap.size + 1, 0, none⟩)]) ∧ w' = (w.alloc (.cells #[.int .i64 v] 139)).alloc (.cells #[.int .i64 t] 139) := by
  go_enter Try.func128, Try.ntmps128
  go_wp2
  go_ret
  exact ⟨rfl, rfl⟩
theorem path_stops (n : Nat) (Bf Bt n₀ : Nat) (v0 t : Int) (k0 : Nat) (xs : List Int) (hp : pathF k0 v0 t = some xs) (w : World) (hBf : Bf < n₀) (hBt : Bt < n₀) (hn₀ : n₀ ≤ w.heap.size)
    (hcf : w.cell? ⟨Bf, 0, none⟩ = some (.int .i64 v0)) (hct : w.cell? ⟨Bt, 0, none⟩ = some (.int .i64 t)) :
    SeqStopsK Fence.wide n Try.prog 155 #[.pointer (some ⟨Bf, 0, none⟩), .pointer (some ⟨Bt, 0, none⟩)] (fun x : Int => #[Value.int .i64 x]) (Below n₀) (fun ys => ys = xs) (fun pre => pre <+: xs) xs.length w := fun l J Jx W hW hJ _ hY h0 =>
  path1_in Fence.wide n rfl trivial rfl l Bf Bt n₀ v0 t k0 xs hp J Jx W hJ hY hBf hBt ((hW.cell (p := ⟨Bf, 0, none⟩) (by show Bf < _; omega)).trans hcf) ((hW.cell (p := ⟨Bt, 0, none⟩) (by show Bt < _; omega)).trans hct) h0
end Go.Proofs.Ytafhimeoijmolaa.G
namespace Go.Proofs.Ytafhimeoijmolaa.G
open Go.RowKit Go.Shelf Go.Proofs.YtafhimeoijmolaaW.PrintWords
attribute [local go_sem] Oper.semAt_some
set_option linter.unusedVariables false
set_option linter.unusedSimpArgs false
theorem keepsOthers_below {W W' : World} (h : Below W.heap.size W W') : KeepsOthers W W' := ⟨h.size, fun k o hk _ => by
  have hlt : k < W.heap.size := by
    rcases Nat.lt_or_ge k W.heap.size with h1 | h1
    · exact h1
    · rw [Array.getElem?_eq_none (by omega)] at hk; cases hk
  rw [h.block k hlt]; exact hk⟩
theorem boxed_below {W W' : World} {B : Nat} {t : TypeId} {v : Value} (h : Boxed W B t v) (hb : Below W.heap.size W W') : Boxed W' B t v := (hb.block B h.lt).trans h
theorem u64_range (x : Int) : 0 ≤ IntKind.u64.wrap x ∧ IntKind.u64.wrap x ≤ 18446744073709551615 := by
  simp only [IntKind.wrap, IntKind.bits, IntKind.signed]
  constructor
  · simp; omega
  · simp; omega
theorem level_total (x : Int) : ∃ s, cover_node_level.f x = some s := by
  unfold cover_node_level.f bits_Len.f
  obtain ⟨h0, h1⟩ := u64_range x
  rw [if_pos h0, if_pos h1]
  exact ⟨_, rfl⟩
theorem special_total (a b c x : Int) (hc : c ≠ 0) : ∃ s, cover_tree_special.f a b c x = some s := by
  unfold cover_tree_special.f
  obtain ⟨s, hs⟩ := level_total x
  rw [hs]
  simp only [Option.bind_some, if_neg hc]
  exact ⟨_, rfl⟩
def firstF (a b c : Int) : List Int → Option Int
  | [] => some 0
  | x :: xs => (cover_tree_special.f a b c x).bind fun s => if s = true then some x else firstF a b c xs
theorem firstF_none {a b c : Int} : ∀ {xs : List Int}, (∀ y ∈ xs, cover_tree_special.f a b c y = some false) → firstF a b c xs = some 0
  | [], _ => rfl
  | x :: xs, h => by
    simp only [firstF, h x List.mem_cons_self, Option.bind_some, Bool.false_eq_true, if_false]
    exact firstF_none fun y hy => h y (List.mem_cons_of_mem _ hy)
theorem firstF_found {a b c x : Int} (hx : cover_tree_special.f a b c x = some true) (r : List Int) : ∀ {pre : List Int}, (∀ y ∈ pre, cover_tree_special.f a b c y = some false) → firstF a b c (pre ++ [x] ++ r) = some x
  | [], _ => by simp [firstF, hx]
  | y :: pre, h => by
    simp only [List.cons_append, firstF, h y List.mem_cons_self, Option.bind_some, Bool.false_eq_true, if_false]
    exact firstF_found hx r fun y hy => h y (List.mem_cons_of_mem _ hy)
set_option maxHeartbeats 2000000 in
set_option maxRecDepth 100000 in
theorem first_in (n : Nat) (hn : 3 ≤ n) (a b c : Int) (hc0 : c ≠ 0) (Bf Bt : Nat) (v0 t : Int) (k0 : Nat) (xs : List Int) (hp : pathF k0 v0 t = some xs) (w : World) (hBf : Bf < w.heap.size) (hBt : Bt < w.heap.size)
    (hcf : w.cell? ⟨Bf, 0, none⟩ = some (.int .i64 v0)) (hct : w.cell? ⟨Bt, 0, none⟩ = some (.int .i64 t)) (r : Int) (hr : firstF a b c xs = some r) :
    CallsIn Fence.wide n Try.prog 127 #[.func (.func 155) #[] #[.pointer (some ⟨Bf, 0, none⟩), .pointer (some ⟨Bt, 0, none⟩)], .func (.func 102) #[.agg #[.int .u8 a, .int .i64 b, .int .i64 c]] #[]] w
      fun e w' => e = .returned (.int .i64 r) ∧ Below w.heap.size w w' := by
  have h1 : 1 ≤ n := by omega
  refine callsIn_of_wp_marks Try.func127 rfl trivial ?_ rfl
  simp only [Try.ntmps127, List.size_toArray, List.length_cons, List.length_nil, Nat.reduceAdd, Nat.reduceSub, Array.replicate_succ, Array.replicate_zero, List.push_toArray, List.append_toArray, List.nil_append, List.cons_append]
  gi_wp2
  obtain ⟨F, hF⟩ : ∃ F : Value, F = .func (.func 102) #[.agg #[.int .u8 a, .int .i64 b, .int .i64 c]] #[] := ⟨_, rfl⟩
  rw [← hF]
  have c0 := (Boxed.new w 166 F).alloc (.cells #[.int .i64 0] 139)
  have c1 := Boxed.new (w.alloc (.cells #[F] 166)) 139 (.int .i64 0)
  simp only [World.size_alloc] at c1
  have hB0 : Below w.heap.size w ((w.alloc (.cells #[F] 166)).alloc (.cells #[.int .i64 0] 139)) := ((Below.refl _ w).alloc (Nat.le_refl _) _).alloc (by simp) _
  have e102 : ∀ args w, (callFunc 102 args).run Try.prog w = .ok (.enter 102 args) w := enters_of Try.func102 (by kernel_rfl) rfl
  refine wpIn_rangeFunc_ownF rfl h1 (gf := 155) (lb := #[.pointer (some ⟨Bf, 0, none⟩), .pointer (some ⟨Bt, 0, none⟩)]) rfl trivial (enters_of Try.func155 (by kernel_rfl) rfl)
    (path_stops (n - 1) Bf Bt w.heap.size v0 t k0 xs hp _ hBf hBt (by simp; omega) ((hB0.cell (p := ⟨Bf, 0, none⟩) hBf).trans hcf) ((hB0.cell (p := ⟨Bt, 0, none⟩) hBt).trans hct)) belowK_t (belowK_b (by simp; omega)) (Below.refl _ _) (fun _ => rfl)
    (fun pre W => ((∀ y ∈ pre, cover_tree_special.f a b c y = some false) ∧ Boxed W w.heap.size 166 F ∧ Boxed W (w.heap.size + 1) 139 (.int .i64 0)) ∧ Below w.heap.size w W)
    (fun cd pre W => (cd = .ret ∧ ∃ pre' x, pre = pre' ++ [x] ∧ (∀ y ∈ pre', cover_tree_special.f a b c y = some false) ∧ cover_tree_special.f a b c x = some true ∧ Boxed W (w.heap.size + 1) 139 (.int .i64 x)) ∧ Below w.heap.size w W)
    (OwnFrom.and (Own.from (fun s A B row hs hg hr => ⟨hs.1, boxed_own _ _ (fun _ => F) s A B row hs.2.1 hg hr, boxed_own _ _ (fun _ => .int .i64 0) s A B row hs.2.2 hg hr⟩) _) (ownFrom_below (Nat.le_refl _) (by simp; omega)))
    (fun cd => OwnFrom.and (Own.from (fun s A B row hs hg hr => by obtain ⟨hc, pre', x, h1, h2, h3, h4⟩ := hs; exact ⟨hc, pre', x, h1, h2, h3, boxed_own _ _ (fun _ => .int .i64 x) s A B row h4 hg hr⟩) _) (ownFrom_below (Nat.le_refl _) (by simp; omega)))
    ⟨⟨by simp, c0, c1⟩, hB0⟩
    (fun x => { tmps := #[.func (.func 155) #[] #[.pointer (some ⟨Bf, 0, none⟩), .pointer (some ⟨Bt, 0, none⟩)], F, undef, .pointer (some ⟨w.heap.size, 0, none⟩), .pointer (some ⟨w.heap.size + 1, 0, none⟩), .int .i64 x, .func (.func 155) #[] #[.pointer (some ⟨Bf, 0, none⟩), .pointer (some ⟨Bt, 0, none⟩)], .int .i64 x, undef, undef, undef, undef], defers := [] }) ?assign ?body ?done ?stop
  case assign =>
    intro l x W K hK
    rw [hF] at hK
    gi_wp2
    exact hK
  case body =>
    rintro l pre x W ⟨⟨hp, hcw, hcr⟩, hB⟩ _
    obtain ⟨s, hs⟩ := special_total a b c x hc0
    have hs' := Aside0.mk hs
    clear hs hr
    rw [hF] at hcw
    have k0 := hcw.cell
    have hr0 := Aside0.mk hcr
    have hp0 := Aside0.mk hp
    clear hp hcr
    gi_wp2_with fail
    refine ⟨trivial, fun h => absurd h (by simp [Fence.wide]), (CallsIn.inRound l (callsIn_wide.2 (cover_tree_special.calls a b c x s _ hs'.out))).mono ?_⟩
    rintro e W1 ⟨rfl, hb1⟩
    have b1 := boxed_below hr0.out hb1
    have hc1 := b1.cell
    have hf1 := b1.frozen
    have bF := boxed_below hcw hb1
    have hB1 := Aside0.mk (hB.trans (hb1.mono hB.size))
    have hK1 := Aside0.mk (keepsOthers_below hb1)
    have hKp := Aside0.mk (hb1.mono hB.size)
    clear hb1 k0
    cases s with
    | true =>
      gi_wp2
      exact ⟨hK1.out.trans (KeepsOthers.setCell _ _ _), ⟨rfl, pre, x, rfl, hp0.out, hs'.out, b1.set _⟩, hB1.out.setCell (p := ⟨w.heap.size + 1, 0, none⟩) (by simp) _⟩
    | false =>
      gi_wp2
      exact ⟨hK1.out, hKp.out, ⟨fun y hy => (List.mem_append.1 hy).elim (hp0.out y) (fun e => by simp at e; subst e; exact hs'.out), hF ▸ bF, b1⟩, hB1.out⟩
  case done =>
    rintro D ys W hD rfl ⟨⟨hne, _, hcr⟩, hB⟩ hK
    have hc1 := hcr.cell
    have hf1 := hcr.frozen
    have hr0 : r = 0 := by rw [firstF_none hne] at hr; exact (Option.some.inj hr).symm
    subst hr0
    clear hr
    gi_wp2
    have hK' := (KeepsOthers.setCell W ⟨w.heap.size + 1, 0, none⟩ (.int .i64 0)).same D _ hK rfl
    refine ⟨by simp, .inl ⟨_, _, rfl, run_takeDeferred hK', ?_⟩⟩
    have hne2 : some (w.heap.size + 1) ≠ some D := by intro e; injection e with e; subst e; have := hcr; unfold Boxed at this; rw [this] at hK; cases hK
    have hc5 := ((hcr.set (.int .i64 0)).kept (grownBy_putObj' _ D (.deferred none)) hne2).cell
    refine ⟨.int .i64 0, ?_, rfl, (hB.setCell (p := ⟨w.heap.size + 1, 0, none⟩) (by simp) _).trans (belowK_b (w := w) (Nat.le_refl _) _ D _ _ (by simp at hD; omega) hK' rfl rfl)⟩
    simp [results, Try.f127, go_sem, hc5]
  case stop =>
    rintro D c pre W hD ⟨rest, hpre⟩ ⟨⟨rfl, pre', x, rfl, h1, h2, hcr⟩, hB⟩ hK
    have hr0 : r = x := by rw [← hpre, firstF_found h2 rest h1] at hr; exact (Option.some.inj hr).symm
    subst hr0
    clear hr
    gi_wp2
    refine ⟨by simp, .inl ⟨_, _, rfl, run_takeDeferred hK, ?_⟩⟩
    have hne2 : some (w.heap.size + 1) ≠ some D := by intro e; injection e with e; subst e; have := hcr; unfold Boxed at this; rw [this] at hK; cases hK
    have hc5 := (hcr.kept (grownBy_putObj' _ D (.deferred none)) hne2).cell
    refine ⟨.int .i64 r, ?_, rfl, hB.trans (belowK_b (w := w) (Nat.le_refl _) W D _ _ (by simp at hD; omega) hK rfl rfl)⟩
    simp [results, Try.f127, go_sem, hc5]
end Go.Proofs.Ytafhimeoijmolaa.G
namespace Go.Proofs.Ytafhimeoijmolaa.R9
open Go.RowKit Go.Shelf
set_option linter.unusedVariables false
def Mine (T : Nat) : Prop := T = 134 ∨ T = 139 ∨ T = 188
def OkRow (W : World) (B r : Nat) : Prop := B ≤ r ∧ ∃ o, W.heap[r]? = some o ∧ (o.isCells = false ∨ ∃ cs m T, o = .cells cs T m ∧ Mine T)
def Own9 {β : Type} (B : Nat) (I : β → World → Prop) : Prop :=
  ∀ s W W' row, I s W → W.grownBy W' row → (∀ r, row = some r → OkRow W B r) → I s W'
def Kp9 (W W' : World) : Prop := ∀ (k : Nat) (cs : Array Value) (T : TypeId) (m : Nat × Nat), W.heap[k]? = some (.cells cs T m) → Mine T → W'.heap[k]? = some (.cells cs T m)
theorem Kp9.refl (X : World) : Kp9 X X := fun _ _ _ _ hx _ => hx
theorem Kp9.trans {X Y Z : World} (h : Kp9 X Y) (k : Kp9 Y Z) : Kp9 X Z := fun i cs T m hx hT => k i cs T m (h i cs T m hx hT) hT
theorem Kp9.of_below {X Y : World} (h : Below X.heap.size X Y) : Kp9 X Y :=
  fun k cs T m hx _ => (h.block k (Array.getElem?_eq_some_iff.1 hx).1).trans hx
theorem Kp9.putObj {W : World} {l : Nat} {o : Obj} (o' : Obj) (hl : W.heap[l]? = some o) (ho : o.isCells = false) : Kp9 W (W.putObj l o') :=
  fun k cs T m hx _ => by
    by_cases e : k = l
    · subst e; rw [hl] at hx; cases hx; cases ho
    · exact (World.putObj_heap_other e).trans hx
theorem Kp9.grown {W W' : World} {row : Option Nat} (hg : W.grownBy W' row) (hr : ∀ r, row = some r → ∃ o, W.heap[r]? = some o ∧ ∀ cs m T, o = .cells cs T m → ¬ Mine T) : Kp9 W W' :=
  fun k cs T m hx hT => by
    refine (hg.block k (Array.getElem?_eq_some_iff.1 hx).1 (fun e => ?_)).trans hx
    obtain ⟨o, h1, h2⟩ := hr k e.symm
    rw [hx] at h1
    cases h1
    exact h2 _ _ _ rfl hT
theorem Kp9.set {W : World} {b o t : Nat} {cs : Array Value} {m : Nat × Nat} (hb : W.heap[b]? = some (.cells cs t m)) (ht : ¬ Mine t) (v : Value) : Kp9 W (W.setCell ⟨b, o, none⟩ v) :=
  fun k cs' T m' hx hT => by
    refine (Below.heap_setCell W ⟨b, o, none⟩ v k (fun e => ?_)).trans hx
    subst e
    rw [hb] at hx
    cases hx
    exact ht hT
theorem Kp9.boxed {W W' : World} {b t : Nat} {v : Value} (h : Kp9 W W') (hb : Boxed W b t v) (ht : Mine t) : Boxed W' b t v := h b _ t _ hb ht
theorem Own9.putObj {β : Type} {B : Nat} {I : β → World → Prop} (h : Own9 B I) {s : β} {W : World} {l : Nat} {o : Obj} (o' : Obj) (hs : I s W) (hB : B ≤ l) (hl : W.heap[l]? = some o) (ho : o.isCells = false) : I s (W.putObj l o') :=
  h s W _ (some l) hs (grownBy_putObj' W l o') (fun r e => by cases e; exact ⟨hB, o, hl, .inl ho⟩)
theorem Own9.still {β : Type} {B : Nat} {I : β → World → Prop} (h : Own9 B I) {s : β} {W W' : World} (hs : I s W) (hg : W.grownBy W' none) : I s W' := h s W W' none hs hg (fun r e => by cases e)
theorem Own9.alloc {β : Type} {B : Nat} {I : β → World → Prop} (h : Own9 B I) {s : β} {W : World} (o : Obj) (hs : I s W) : I s (W.alloc o) := h.still hs (World.grownBy_alloc W o none)
theorem Own9.below {β : Type} {B : Nat} {I : β → World → Prop} (h : Own9 B I) {s : β} {W W' : World} (hs : I s W) (hb : Below W.heap.size W W') : I s W' :=
  h.still hs ⟨hb.os, hb.tape, hb.output, hb.size, fun k hk _ => hb.block k hk⟩
theorem Own9.and {β : Type} {B : Nat} {I I' : β → World → Prop} (h : Own9 B I) (h' : Own9 B I') : Own9 B (fun s W => I s W ∧ I' s W) := fun s W W' row hs hg hr => ⟨h s W W' row hs.1 hg hr, h' s W W' row hs.2 hg hr⟩
theorem Own9.le {β : Type} {B B' : Nat} {I : β → World → Prop} (h : Own9 B I) (hB : B ≤ B') : Own9 B' I := fun s W W' row hs hg hr => h s W W' row hs hg (fun r e => ⟨Nat.le_trans hB (hr r e).1, (hr r e).2⟩)
theorem Own9.from {β : Type} {B : Nat} {I : β → World → Prop} (h : Own9 B I) : OwnFrom B I := fun s W W' row hs hg hr => h s W W' row hs hg (fun r e => by obtain ⟨h1, o, h2, h3⟩ := hr r e; exact ⟨h1, o, h2, .inl h3⟩)
theorem own9_below {β : Type} {n₀ B : Nat} {w₀ : World} (hn : n₀ ≤ w₀.heap.size) (hB : n₀ ≤ B) : Own9 B (fun (_ : β) W => Below n₀ w₀ W) :=
  fun _ _ _ _ hs hg hr => hs.grown hg (Nat.le_trans hn hs.size) (fun k e => Nat.le_trans hB (hr k e).1)
theorem own9_pure {β : Type} (B : Nat) (p : β → Prop) : Own9 B (fun s (_ : World) => p s) := fun _ _ _ _ hs _ _ => hs
theorem own9_boxed {β : Type} {B b : Nat} (t : TypeId) (f : β → Value) (hb : b < B ∨ ¬ Mine t) : Own9 B (fun s W => Boxed W b t (f s)) := fun s W W' row hs hg hr => by
  refine Boxed.kept hs hg (fun e => ?_)
  obtain ⟨h1, o, h2, h3⟩ := hr b e.symm
  rcases hb with hb | hb
  · omega
  · have h4 : W.heap[b]? = some (.cells #[f s] t (0, 0)) := hs
    rw [h4] at h2
    cases h2
    rcases h3 with h3 | ⟨cs, m, T, h5, h6⟩
    · cases h3
    · cases h5; exact hb h6
def Seq9 {α : Type} (P : Program) (n gf : Nat) (lb : Array Value) (encs : α → Array Value) (xs : List α) (w0 : World) : Prop :=
  ∀ (l : Nat) (J Jx : List α → World → Prop) (W : World), Below w0.heap.size w0 W → Own9 W.heap.size J → Own9 W.heap.size Jx →
    (∀ pre x W1, J pre W1 → pre ++ [x] <+: xs → YieldAt Fence.wide (n - 1) P l (encs x) W1 fun e W' =>
      (e = .returned (.bool true) ∧ J (pre ++ [x]) W' ∧ Kp9 W1 W' ∧ KeepsFrom W.heap.size W1 W') ∨ (e = .returned (.bool false) ∧ Jx (pre ++ [x]) W' ∧ KeepsFrom W.heap.size W1 W')) →
    J [] W →
    CallsIn Fence.wide n P gf (#[.func (.yield l) #[] #[]] ++ lb) W fun e W' => (∃ v, e = .returned v) ∧ (J xs W' ∨ (∃ pre, pre <+: xs ∧ Jx pre W'))
def post9 {α : Type} (B : Nat) (I : List α → World → Prop) (Ix : Code → List α → World → Prop) (xs : List α) (W : World) : Exit → Act → World → Prop
  | .normal, _, W' => KeepsFrom B W W' ∧ Kp9 W W' ∧ I xs W'
  | .ret, _, W' => KeepsFrom B W W' ∧ Ix .ret xs W'
  | .exit id, _, W' => KeepsFrom B W W' ∧ Ix (.exit id) xs W'
  | .goto t, _, W' => KeepsFrom B W W' ∧ Ix (.goto t) xs W'
  | .panic _, _, _ => False
  | .outgrown, _, _ => False
theorem wpIn_range9s {P : Program} {n : Nat} {α : Type} {g : Operand} {ps : Array Tmp} {assign body : Code} {Q : Exit → Act → World → Prop} {a : Act} {w : World}
    {gf : Nat} {lb : Array Value} (hg : a.eval g = .func (.func gf) #[] lb) (eg : ∀ args w, (callFunc gf args).run P w = .ok (.enter gf args) w)
    {encs : α → Array Value} {xs : List α} {w0 : World} (hseq : Seq9 P (n - 1) gf lb encs xs w0) (hb0 : Below w0.heap.size w0 w) (hps : ∀ x, (encs x).size = ps.size)
    (I : List α → World → Prop) (Ix : Code → List α → World → Prop) (hI : Own9 w.heap.size I) (hIx : ∀ c, Own9 w.heap.size (Ix c)) (h0 : I [] w)
    (hround : ∀ (l : Nat) (pre : List α) (x : α) (W : World), pre ++ [x] <+: xs →
      assign.wpIn (Fence.wide.inRound l) (n - 1 - 1) P (Exit.then (fun a' W' => W' = W ∧ ∀ W2, I pre W2 → body.wpIn (Fence.wide.inRound l) (n - 1 - 1) P (post9 w.heap.size I Ix (pre ++ [x]) W2) a' W2) (fun _ _ _ => False))
        { tmps := (ps.zip (encs x)).foldl (fun t (p, v) => t.setIfInBounds p v) a.tmps, defers := [] } W)
    (hdone : ∀ (D : Nat) (W : World), w.heap.size ≤ D → I xs W → W.heap[D]? = some (.deferred (some [])) → Q .normal { a with defers := { target := .collected D, args := #[] } :: a.defers } W)
    (hstop : ∀ (D : Nat) (c : Code) (pre : List α) (W : World), w.heap.size ≤ D → pre <+: xs → Ix c pre W → W.heap[D]? = some (.deferred (some [])) → c.wpIn Fence.wide n P Q { a with defers := { target := .collected D, args := #[] } :: a.defers } W) :
    (Code.rangeFunc g ps assign body).wpIn Fence.wide n P Q a w := by
  refine wpIn_rangeFunc ?_
  intro fn hfn
  generalize hD : w.heap.size = D at *
  -- the two blocks that the statement lays: the rounds' deferred calls (D), the record (D + 1)
  let rcd : LoopState → Option Code → Obj := fun st pe => .loop { state := st, pending := pe, fn, tmps := a.tmps, params := ps, assign, body, defers := D }
  obtain ⟨W1, hW1⟩ : ∃ W1, (w.alloc (.deferred (some []))).alloc (rcd .ready .none) = W1 := ⟨_, rfl⟩
  have s1 : W1.heap.size = D + 2 := by rw [← hW1]; simp; omega
  have hl1 : W1.heap[D + 1]? = some (rcd .ready .none) := by
    rw [← hW1]; have := World.alloc_heap_new (w.alloc (.deferred (some []))) (rcd .ready .none); rwa [World.size_alloc, hD] at this
  have hk1 : W1.heap[D]? = some (.deferred (some [])) := by
    rw [← hW1]; refine (Below.heap_alloc _ _ _ (by simp; omega)).trans ?_; have := World.alloc_heap_new w (.deferred (some [])); rwa [hD] at this
  have hi1 : I [] W1 := by rw [← hW1]; exact hI.alloc _ (hI.alloc _ h0)
  have hb1 : Below w0.heap.size w0 W1 := by
    rw [← hW1]; exact (hb0.alloc hb0.size _).alloc (by simp; have := hb0.size; omega) _
  refine ⟨D + 1, [{ target := .collected D, args := #[] }], W1, { target := .fn (.func gf) lb, args := #[.func (.yield (D + 1)) #[] #[]] }, W1, gf,
    #[.func (.yield (D + 1)) #[] #[]] ++ lb, W1, ?_, ?_, fun _ _ => trivial, ?_, fun h => absurd h (by simp [Fence.wide]), ?_⟩
  · have h := run_enterLoop_outer (P := P) (w := w) fn a.tmps ps assign body
    rw [hD] at h
    rw [← hW1]
    exact h
  · simp only [resolve, hg]
    simp [go_sem]
  · simp [invoke, go_sem, eg]
  -- what the statement itself keeps in mind beside the caller's facts
  have keep : ∀ {X Y : World} {row : Option Nat} {k : Nat} {o : Obj}, X.heap[k]? = some o → k < W1.heap.size → X.grownBy Y row → (∀ r, row = some r → OkRow X W1.heap.size r) → Y.heap[k]? = some o := fun hx hk hg' hr =>
    (hg'.block _ (Array.getElem?_eq_some_iff.1 hx).1 (fun e => by have := (hr _ e.symm).1; omega)).trans hx
  have rounds : ∀ (jump : Option Code) (X W3 : World), X.heap[D + 1]? = some (rcd .busy .none) → X.heap[D]? = some (.deferred (some [])) → KeepsFrom D X W3 →
      (Instr.endRound (D + 1) jump).run P W3 = .ok (.bool jump.isNone) (W3.putObj (D + 1) (rcd (if jump.isNone then .ready else .done) jump)) ∧ W3.heap[D + 1]? = some (rcd .busy .none) ∧
      (W3.putObj (D + 1) (rcd (if jump.isNone then .ready else .done) jump)).heap[D + 1]? = some (rcd (if jump.isNone then .ready else .done) jump) ∧
      (W3.putObj (D + 1) (rcd (if jump.isNone then .ready else .done) jump)).heap[D]? = some (.deferred (some [])) := fun jump X W3 hl hk h3 => by
    have hl3 := h3.same _ _ (by omega) hl rfl
    exact ⟨run_endRound (P := P) jump hl3, hl3, World.putObj_heap_same (Array.getElem?_eq_some_iff.1 hl3).1, (World.putObj_heap_other (by omega)).trans (h3.same _ _ (Nat.le_refl _) hk rfl)⟩
  refine (hseq (D + 1)
    (fun pre W => I pre W ∧ W.heap[D + 1]? = some (rcd .ready .none) ∧ W.heap[D]? = some (.deferred (some [])))
    (fun pre W => ∃ c, Ix c pre W ∧ W.heap[D + 1]? = some (rcd .done (some c)) ∧ W.heap[D]? = some (.deferred (some [])))
    W1 hb1
    (fun s X Y row hs hg' hr => ⟨(hI.le (by omega)) s X Y row hs.1 hg' hr, keep hs.2.1 (by omega) hg' hr, keep hs.2.2 (by omega) hg' hr⟩)
    (fun s X Y row hs hg' hr => by
      obtain ⟨c, hc, hl, hk⟩ := hs
      exact ⟨c, ((hIx c).le (by omega)) s X Y row hc hg' hr, keep hl (by omega) hg' hr, keep hk (by omega) hg' hr⟩)
    ?_ ⟨hi1, hl1, hk1⟩).mono ?_
  · rintro pre x W ⟨hi, hl, hk⟩ hpx
    refine ⟨fn, _, assign, body, run_yield (P := P) (args := encs x) hl (hps x), roundIn_of_wpIn hfn (wpIn_mono (hround _ pre x W hpx) ?_)⟩
    intro e0 a0 W' hp0
    have hp1 : W' = W ∧ ∀ W2, I pre W2 → body.wpIn (Fence.wide.inRound (D + 1)) (n - 1 - 1) P (post9 D I Ix (pre ++ [x]) W2) a0 W2 := by cases e0 <;> first | exact hp0 | exact hp0.elim
    have he0 : e0 = .normal := by cases e0 <;> first | rfl | exact hp0.elim
    subst he0
    clear hp0
    obtain ⟨hW', hbody⟩ := hp1
    rw [hW']
    refine ⟨_, run_beginRound hl rfl, ?_⟩
    have hlt := (Array.getElem?_eq_some_iff.1 hl).1
    have hl2 : (W.putObj (D + 1) (rcd .busy .none)).heap[D + 1]? = some (rcd .busy .none) := World.putObj_heap_same hlt
    have hk2 : (W.putObj (D + 1) (rcd .busy .none)).heap[D]? = some (.deferred (some [])) := (World.putObj_heap_other (by omega)).trans hk
    have kf : ∀ (jump : Option Code) (W3 : World), KeepsFrom D (W.putObj (D + 1) (rcd .busy .none)) W3 → KeepsFrom W1.heap.size W (W3.putObj (D + 1) (rcd (if jump.isNone then .ready else .done) jump)) := fun jump W3 h3 =>
      ⟨by have := h3.size; simp at this ⊢; omega, fun k o hk ho hc => (World.putObj_heap_other (by omega)).trans (h3.same k o (by omega) ((World.putObj_heap_other (by omega)).trans ho) hc)⟩
    have hw2 : Kp9 W (W.putObj (D + 1) (rcd .busy .none)) := Kp9.putObj _ hl rfl
    refine wpIn_mono (hbody _ (hI.putObj _ hi (by omega) hl rfl)) ?_
    rintro e a3 W3 hp
    cases e with
    | normal =>
      obtain ⟨hk3, hkp3, hi3⟩ := hp
      obtain ⟨hr, hl3, hl4, hk4⟩ := rounds .none _ W3 hl2 hk2 hk3
      exact ⟨_, _, hr, .inl ⟨rfl, ⟨hI.putObj _ hi3 (by omega) hl3 rfl, hl4, hk4⟩, (hw2.trans hkp3).trans (Kp9.putObj _ hl3 rfl), kf .none _ hk3⟩⟩
    | ret =>
      obtain ⟨hr, hl3, hl4, hk4⟩ := rounds (some .ret) _ W3 hl2 hk2 hp.1
      exact ⟨_, _, hr, .inr ⟨rfl, ⟨.ret, (hIx _).putObj _ hp.2 (by omega) hl3 rfl, hl4, hk4⟩, kf (some .ret) _ hp.1⟩⟩
    | exit id =>
      obtain ⟨hr, hl3, hl4, hk4⟩ := rounds (some (.exit id)) _ W3 hl2 hk2 hp.1
      exact ⟨_, _, hr, .inr ⟨rfl, ⟨.exit id, (hIx _).putObj _ hp.2 (by omega) hl3 rfl, hl4, hk4⟩, kf (some (.exit id)) _ hp.1⟩⟩
    | goto t =>
      obtain ⟨hr, hl3, hl4, hk4⟩ := rounds (some (.goto t)) _ W3 hl2 hk2 hp.1
      exact ⟨_, _, hr, .inr ⟨rfl, ⟨.goto t, (hIx _).putObj _ hp.2 (by omega) hl3 rfl, hl4, hk4⟩, kf (some (.goto t)) _ hp.1⟩⟩
    | panic ch => exact hp.elim
    | outgrown => exact hp.elim
  · rintro e W2 ⟨⟨v, rfl⟩, (⟨hi, hl, hk⟩ | ⟨pre, hSp, c, hi, hl, hk⟩)⟩
    · exact ⟨.none, _, run_endLoop (P := P) hl (by simp), hdone _ _ (Nat.le_refl _) (hI.putObj _ hi (by omega) hl rfl) ((World.putObj_heap_other (by omega)).trans hk)⟩
    · exact ⟨some c, _, run_endLoop (P := P) hl (by simp), hstop _ c pre _ (Nat.le_refl _) hSp ((hIx c).putObj _ hi (by omega) hl rfl) ((World.putObj_heap_other (by omega)).trans hk)⟩
theorem wpIn_range9 {P : Program} {n : Nat} {α : Type} {g : Operand} {ps : Array Tmp} {assign body : Code} {Q : Exit → Act → World → Prop} {a : Act} {w : World}
    {gf : Nat} {lb : Array Value} (hg : a.eval g = .func (.func gf) #[] lb) (eg : ∀ args w, (callFunc gf args).run P w = .ok (.enter gf args) w)
    {encs : α → Array Value} {xs : List α} {w0 : World} (hseq : Seq9 P (n - 1) gf lb encs xs w0) (hb0 : Below w0.heap.size w0 w) (hps : ∀ x, (encs x).size = ps.size)
    (I : List α → World → Prop) (Ix : Code → List α → World → Prop) (hI : Own9 w.heap.size I) (hIx : ∀ c, Own9 w.heap.size (Ix c)) (h0 : I [] w) (a₁ : α → Act)
    (hassign : ∀ (l : Nat) (x : α) (W : World) (K : Act → World → Prop), K (a₁ x) W →
      assign.wpIn (Fence.wide.inRound l) (n - 1 - 1) P (Exit.then K (fun _ _ _ => False)) { tmps := (ps.zip (encs x)).foldl (fun t (p, v) => t.setIfInBounds p v) a.tmps, defers := [] } W)
    (hbody : ∀ (l : Nat) (pre : List α) (x : α) (W : World), I pre W → pre ++ [x] <+: xs → body.wpIn (Fence.wide.inRound l) (n - 1 - 1) P (post9 w.heap.size I Ix (pre ++ [x]) W) (a₁ x) W)
    (hdone : ∀ (D : Nat) (W : World), w.heap.size ≤ D → I xs W → W.heap[D]? = some (.deferred (some [])) → Q .normal { a with defers := { target := .collected D, args := #[] } :: a.defers } W)
    (hstop : ∀ (D : Nat) (c : Code) (pre : List α) (W : World), w.heap.size ≤ D → pre <+: xs → Ix c pre W → W.heap[D]? = some (.deferred (some [])) → c.wpIn Fence.wide n P Q { a with defers := { target := .collected D, args := #[] } :: a.defers } W) :
    (Code.rangeFunc g ps assign body).wpIn Fence.wide n P Q a w :=
  wpIn_range9s hg eg hseq hb0 hps I Ix hI hIx h0 (fun l pre x W hp => hassign l x W _ ⟨rfl, fun W2 hi => hbody l pre x W2 hi hp⟩) hdone hstop
end Go.Proofs.Ytafhimeoijmolaa.R9
namespace Go.Proofs.Ytafhimeoijmolaa.K
open Go.RowKit Go.Shelf Go.Proofs.YtafhimeoijmolaaW.PrintWords Go.Proofs.YtafhimeoijmolaaW.PrintLast Go.Proofs.YtafhimeoijmolaaW.PrintMore Go.Proofs.Ytafhimeoijmolaa.G Go.Proofs.Ytafhimeoijmolaa.R7
attribute [local go_sem] Oper.semAt_some
set_option linter.unusedVariables false
set_option linter.unusedSimpArgs false
end Go.Proofs.Ytafhimeoijmolaa.K
