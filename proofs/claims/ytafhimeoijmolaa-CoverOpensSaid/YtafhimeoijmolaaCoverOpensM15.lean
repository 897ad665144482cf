/- Texts of this claim, one behind the other, as far as they are used: O2, O3. -/
import Derived.Test.YtafhimeoijmolaaO1
import Derived.Deep.Slices
import Derived.Deep.Fields
import Derived.ChangeSame
import Derived.Test.YtafhimeoijmolaaCoverOpensM5
import Derived.Test.YtafhimeoijmolaaCoverOpensM12
namespace Go.Proofs.Ytafhimeoijmolaa.O
open Go.ChangeShapes Go.WideShapes Go.ChangeAt Go.RowKit Go.Deep Go.Proofs.Ytafhimeoijmolaa.G Go.Proofs.Ytafhimeoijmolaa.K Go.Proofs.YtafhimeoijmolaaW.PrintWords
set_option linter.unusedVariables false
set_option linter.unusedSimpArgs false
set_option maxRecDepth 100000 in
theorem cell_u8 {W : World} {base : Nat} {v : Value} (h : Cell.okWide Try.prog W .any base 5 v) : ∃ n, v = .int .u8 n ∧ 0 ≤ n ∧ n < 256 := by
  have ht := Try.underlying5
  simp only [ht, Cell.okWide] at h
  cases v <;> simp_all [Cell.ok]
  simp [IntKind.has, IntKind.min, IntKind.max, IntKind.signed, IntKind.bits] at h
  omega
section
variable {H : Type} {enc : TypeId × Value → H} {W : World} {base : Nat} {v : Value} {d : DataW H} {p : List MemPlace} {ts : List TypeId} {ds : List (DataW H)}
end
end Go.Proofs.Ytafhimeoijmolaa.O
namespace Go.Proofs.Ytafhimeoijmolaa.O
open Go.ChangeShapes Go.WideShapes Go.ChangeAt Go.RowKit Go.Deep Go.Proofs.Ytafhimeoijmolaa.G Go.Proofs.Ytafhimeoijmolaa.K Go.Proofs.YtafhimeoijmolaaW.PrintWords
set_option linter.unusedVariables false
set_option linter.unusedSimpArgs false
section
variable {H : Type} {enc : TypeId × Value → H} {W : World} {base : Nat} {v : Value} {d : DataW H} {p : List MemPlace} {ts : List TypeId} {ds : List (DataW H)}
end
end Go.Proofs.Ytafhimeoijmolaa.O
