/- What values of the given types look like (structs of whole numbers by value). -/
import Derived.Test.YtafhimeoijmolaaRows
import Derived.WalkKit
import Derived.ProofKit
import Derived.OpenShut
import Derived.ShutString
import Derived.ChangeOld
import Derived.Below
import Derived.SizedLaws
namespace Go.Proofs.Ytafhimeoijmolaa.O
open Go.ChangeShapes Go.WideShapes Go.ChangeAt Go.RowKit
set_option linter.unusedVariables false
set_option maxRecDepth 100000 in
theorem own : ownKnob Try.prog.godebug = none := by kernel_rfl
set_option maxRecDepth 100000 in
theorem laidOut : laidOutB Try.prog = true := by kernel_rfl
set_option maxRecDepth 100000 in
theorem cell_int {W : World} {base : Nat} {t : TypeId} {k : IntKind} {v : Value} (ht : Try.prog.underlying t = some (.int k)) (h : Cell.okWide Try.prog W .any base t v) : ∃ n, v = .int k n := by
  simp only [ht, Cell.okWide] at h
  cases v <;> simp_all [Cell.ok]
set_option maxRecDepth 100000 in
theorem cell_slice {W : World} {base : Nat} {t e : TypeId} {v : Value} (ht : Try.prog.underlying t = some (.slice e)) (h : Cell.okWide Try.prog W .any base t v) : ∃ a n c, v = .slice a n c := by
  simp only [ht, Cell.okWide] at h
  cases v <;> simp_all [Cell.ok]
set_option maxRecDepth 100000 in
theorem open_row {W : World} {base : Nat} {t : TypeId} {v : Value} {ts : List TypeId} {m : Nat} (hu : (∃ fs, Try.prog.underlying t = some (.struct fs)) ∨ ∃ n e, Try.prog.underlying t = some (.array n e)) (hts : Try.prog.cellTypes Try.prog.depth t = some ts) (hm : Try.prog.cellsOf t = m) (hl : ts.length = m)
    (h : Value.okWide Try.prog W .any base t v) : ∃ cs : Array Value, v = .agg cs ∧ cs.size = m ∧ ∀ (i : Nat) (v : Value) (u : TypeId), cs[i]? = some v → ts[i]? = some u → Cell.okWide Try.prog W .any base u v := by
  have h1 : ∃ cs : Array Value, v = .agg cs ∧ cs.size = Try.prog.cellsOf t ∧ Row.okWide Try.prog W .any base t cs := by
    unfold Value.okWide at h
    rcases hu with ⟨fs, hu⟩ | ⟨n, e, hu⟩
    · simp only [hu] at h; exact h
    · simp only [hu] at h; exact h
  obtain ⟨cs, rfl, hs, ts', h2, _, h4⟩ := h1
  obtain rfl : ts = ts' := Option.some.inj (hts.symm.trans h2)
  refine ⟨cs, rfl, hs.trans hm, fun i v u hi hu' => ?_⟩
  obtain ⟨u', h5, h6⟩ := h4 i v hi
  have hlt : i < ts.length := (List.getElem?_eq_some_iff.1 hu').1
  rw [Nat.mod_eq_of_lt hlt, hu'] at h5
  obtain rfl := Option.some.inj h5
  exact h6
set_option maxRecDepth 100000 in
theorem arr2 {α : Type} {cs : Array α} (h : cs.size = 2) : ∃ a b, cs = #[a, b] := by
  obtain ⟨l⟩ := cs
  match l, h with
  | [a, b], _ => exact ⟨a, b, rfl⟩
set_option maxRecDepth 100000 in
theorem arr6 {α : Type} {cs : Array α} (h : cs.size = 6) : ∃ a b c d e f, cs = #[a, b, c, d, e, f] := by
  obtain ⟨l⟩ := cs
  match l, h with
  | [a, b, c, d, e, f], _ => exact ⟨a, b, c, d, e, f, rfl⟩
set_option maxRecDepth 100000 in
/-- api.Scheme. -/
theorem open45 {W : World} {base : Nat} {v : Value} (h : Value.okWide Try.prog W .any base 45 v) : ∃ a0 a1 a2 a3 a4 a5 : Int, v = .agg #[.int .u8 a0, .int .i64 a1, .int .i64 a2, .int .u64 a3, .int .u64 a4, .int .u64 a5] := by
  obtain ⟨cs, rfl, hs, hc⟩ := open_row (ts := [5, 3, 3, 23, 23, 23]) (.inl ⟨_, Try.underlying45⟩) (by kernel_rfl) (by kernel_rfl) rfl h
  obtain ⟨c0, c1, c2, c3, c4, c5, rfl⟩ := arr6 hs
  obtain ⟨a0, rfl⟩ := cell_int Try.underlying5 (hc 0 c0 5 rfl rfl)
  obtain ⟨a1, rfl⟩ := cell_int Try.underlying3 (hc 1 c1 3 rfl rfl)
  obtain ⟨a2, rfl⟩ := cell_int Try.underlying3 (hc 2 c2 3 rfl rfl)
  obtain ⟨a3, rfl⟩ := cell_int Try.underlying23 (hc 3 c3 23 rfl rfl)
  obtain ⟨a4, rfl⟩ := cell_int Try.underlying23 (hc 4 c4 23 rfl rfl)
  obtain ⟨a5, rfl⟩ := cell_int Try.underlying23 (hc 5 c5 23 rfl rfl)
  exact ⟨a0, a1, a2, a3, a4, a5, rfl⟩
set_option maxRecDepth 100000 in
/-- api.Subset. -/
theorem open47 {W : World} {base : Nat} {v : Value} (h : Value.okWide Try.prog W .any base 47 v) : ∃ a0 a1 : Int, v = .agg #[.int .i64 a0, .int .i64 a1] := by
  obtain ⟨cs, rfl, hs, hc⟩ := open_row (ts := [3, 3]) (.inl ⟨_, Try.underlying47⟩) (by kernel_rfl) (by kernel_rfl) rfl h
  obtain ⟨c0, c1, rfl⟩ := arr2 hs
  obtain ⟨a0, rfl⟩ := cell_int Try.underlying3 (hc 0 c0 3 rfl rfl)
  obtain ⟨a1, rfl⟩ := cell_int Try.underlying3 (hc 1 c1 3 rfl rfl)
  exact ⟨a0, a1, rfl⟩
/-- A scheme's six numbers, and the value. -/
structure Sch where
  k : Int
  d : Int
  g : Int
  p : Int
  q : Int
  r : Int
def Sch.val (s : Sch) : Value := .agg #[.int .u8 s.k, .int .i64 s.d, .int .i64 s.g, .int .u64 s.p, .int .u64 s.q, .int .u64 s.r]
structure SubV where
  n : Int
  m : Int
def SubV.val (s : SubV) : Value := .agg #[.int .i64 s.n, .int .i64 s.m]
section
variable {H : Type} {enc : TypeId × Value → H} {W : World} {base : Nat} {v : Value} {d : DataW H} {p : List MemPlace} {ts : List TypeId} {ds : List (DataW H)}
set_option maxRecDepth 100000 in
theorem arg45 (hsz : (DataW.weightsEach Try.prog ts ds).all (· ≤ reachBytes) = true) (hv : Value.okWide Try.prog W .any base 45 v) (h : DataW.Trod enc Try.prog W 0 (fun _ => true) true 45 v d p) (j : Nat) (h1 : ts[j]? = some 45) (h2 : ds[j]? = some d) :
    ∃ x : Sch, v = x.val ∧ True := by
  obtain ⟨a0, a1, a2, a3, a4, a5, rfl⟩ := open45 hv
  exact ⟨⟨a0, a1, a2, a3, a4, a5⟩, rfl, trivial⟩
set_option maxRecDepth 100000 in
theorem arg47 (hsz : (DataW.weightsEach Try.prog ts ds).all (· ≤ reachBytes) = true) (hv : Value.okWide Try.prog W .any base 47 v) (h : DataW.Trod enc Try.prog W 0 (fun _ => true) true 47 v d p) (j : Nat) (h1 : ts[j]? = some 47) (h2 : ds[j]? = some d) :
    ∃ x : SubV, v = x.val ∧ True := by
  obtain ⟨a0, a1, rfl⟩ := open47 hv
  exact ⟨⟨a0, a1⟩, rfl, trivial⟩
end
end Go.Proofs.Ytafhimeoijmolaa.O
