/- Texts of this claim, one behind the other, as far as they are used: O2, O3. -/
import Derived.Test.YtafhimeoijmolaaO1
import Derived.Deep.Slices
import Derived.Deep.Fields
import Derived.ChangeSame
import Derived.Test.YtafhimeoijmolaaCoverKeysM11
import Derived.Test.YtafhimeoijmolaaCoverKeysM19
namespace Go.Proofs.Ytafhimeoijmolaa.O
open Go.ChangeShapes Go.WideShapes Go.ChangeAt Go.RowKit Go.Deep Go.Proofs.Ytafhimeoijmolaa.G Go.Proofs.Ytafhimeoijmolaa.K Go.Proofs.YtafhimeoijmolaaW.PrintWords
set_option linter.unusedVariables false
set_option linter.unusedSimpArgs false
set_option maxRecDepth 100000 in
theorem cell_u8 {W : World} {base : Nat} {v : Value} (h : Cell.okWide Try.prog W .any base 5 v) : ∃ n, v = .int .u8 n ∧ 0 ≤ n ∧ n < 256 := by
  have ht := Try.underlying5
  simp only [ht, Cell.okWide] at h
  cases v <;> simp_all [Cell.ok]
  simp [IntKind.has, IntKind.min, IntKind.max, IntKind.signed, IntKind.bits] at h
  omega
theorem arr16 {α : Type} {cs : Array α} (h : cs.size = 16) : ∃ a b c d e f g i j k l m n o p q, cs = #[a, b, c, d, e, f, g, i, j, k, l, m, n, o, p, q] := by
  obtain ⟨l⟩ := cs
  match l, h with
  | [a, b, c, d, e, f, g, i, j, k, l, m, n, o, p, q], _ => exact ⟨a, b, c, d, e, f, g, i, j, k, l, m, n, o, p, q, rfl⟩
section
variable {H : Type} {enc : TypeId × Value → H} {W : World} {base : Nat} {v : Value} {d : DataW H} {p : List MemPlace} {ts : List TypeId} {ds : List (DataW H)}
set_option maxRecDepth 100000 in
theorem arg26 (hsz : (DataW.weightsEach Try.prog ts ds).all (· ≤ reachBytes) = true) (hv : Value.okWide Try.prog W .any base 26 v) (h : DataW.Trod enc Try.prog W 0 (fun _ => true) true 26 v d p) (j : Nat) (h1 : ts[j]? = some 26) (h2 : ds[j]? = some d) :
    ∃ k : S26, v = kv k ∧ KOK k := by
  obtain ⟨cs, rfl, hs, hc⟩ := open_row (ts := [5, 5, 5, 5, 5, 5, 5, 5, 5, 5, 5, 5, 5, 5, 5, 5]) (.inr ⟨_, _, Try.underlying26⟩) (by kernel_rfl) (by kernel_rfl) rfl hv
  obtain ⟨c0, c1, c2, c3, c4, c5, c6, c7, c8, c9, c10, c11, c12, c13, c14, c15, rfl⟩ := arr16 hs
  obtain ⟨a0, rfl, r0⟩ := cell_u8 (hc 0 c0 5 rfl rfl)
  obtain ⟨a1, rfl, r1⟩ := cell_u8 (hc 1 c1 5 rfl rfl)
  obtain ⟨a2, rfl, r2⟩ := cell_u8 (hc 2 c2 5 rfl rfl)
  obtain ⟨a3, rfl, r3⟩ := cell_u8 (hc 3 c3 5 rfl rfl)
  obtain ⟨a4, rfl, r4⟩ := cell_u8 (hc 4 c4 5 rfl rfl)
  obtain ⟨a5, rfl, r5⟩ := cell_u8 (hc 5 c5 5 rfl rfl)
  obtain ⟨a6, rfl, r6⟩ := cell_u8 (hc 6 c6 5 rfl rfl)
  obtain ⟨a7, rfl, r7⟩ := cell_u8 (hc 7 c7 5 rfl rfl)
  obtain ⟨a8, rfl, r8⟩ := cell_u8 (hc 8 c8 5 rfl rfl)
  obtain ⟨a9, rfl, r9⟩ := cell_u8 (hc 9 c9 5 rfl rfl)
  obtain ⟨a10, rfl, r10⟩ := cell_u8 (hc 10 c10 5 rfl rfl)
  obtain ⟨a11, rfl, r11⟩ := cell_u8 (hc 11 c11 5 rfl rfl)
  obtain ⟨a12, rfl, r12⟩ := cell_u8 (hc 12 c12 5 rfl rfl)
  obtain ⟨a13, rfl, r13⟩ := cell_u8 (hc 13 c13 5 rfl rfl)
  obtain ⟨a14, rfl, r14⟩ := cell_u8 (hc 14 c14 5 rfl rfl)
  obtain ⟨a15, rfl, r15⟩ := cell_u8 (hc 15 c15 5 rfl rfl)
  refine ⟨⟨a0, a1, a2, a3, a4, a5, a6, a7, a8, a9, a10, a11, a12, a13, a14, a15⟩, rfl, ?_⟩
  intro b hb
  simp only [K.bytesOf, List.mem_cons, List.not_mem_nil, or_false] at hb
  rcases hb with rfl | rfl | rfl | rfl | rfl | rfl | rfl | rfl | rfl | rfl | rfl | rfl | rfl | rfl | rfl | rfl <;> assumption
set_option maxRecDepth 100000 in
theorem slice_of {t e : TypeId} (ht : Try.prog.underlying t = some (.slice e)) (hv : Value.okWide Try.prog W .any base t v) : ∃ A n c, v = .slice A n c := by
  unfold Value.okWide at hv
  simp only [ht] at hv
  exact cell_slice ht hv
end
end Go.Proofs.Ytafhimeoijmolaa.O
namespace Go.Proofs.Ytafhimeoijmolaa.O
open Go.ChangeShapes Go.WideShapes Go.ChangeAt Go.RowKit Go.Deep Go.Proofs.Ytafhimeoijmolaa.G Go.Proofs.Ytafhimeoijmolaa.K Go.Proofs.YtafhimeoijmolaaW.PrintWords
set_option linter.unusedVariables false
set_option linter.unusedSimpArgs false
section
variable {H : Type} {enc : TypeId × Value → H} {W : World} {base : Nat} {v : Value} {d : DataW H} {p : List MemPlace} {ts : List TypeId} {ds : List (DataW H)}
set_option maxRecDepth 100000 in
theorem arg3 (hsz : (DataW.weightsEach Try.prog ts ds).all (· ≤ reachBytes) = true) (hv : Value.okWide Try.prog W .any base 3 v) (h : DataW.Trod enc Try.prog W 0 (fun _ => true) true 3 v d p) (j : Nat) (h1 : ts[j]? = some 3) (h2 : ds[j]? = some d) :
    ∃ n : Int, v = .int .i64 n ∧ True := by
  obtain ⟨n, hn, -, -, -⟩ := open_int Try.underlying3 hv h
  exact ⟨n, hn, trivial⟩
end
end Go.Proofs.Ytafhimeoijmolaa.O
