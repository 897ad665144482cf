/- Texts of this claim, one behind the other, as far as they are used: Shelf2. -/
import Derived.Shelf.SlicesQ.IndexFunc
import Derived.Test.YtafhimeoijmolaaProg
namespace Go.Proofs
open Go.Shelf
def Try.lcf_ren : Go.Shelf.Ren := ⟨fun | 8 => 106 | 6 => 145 | n => n, fun | 22 => 22 | 23 => 111 | 25 => 169 | 4 => 4 | 3 => 3 | 0 => 0 | n => n, fun | n => n⟩
theorem Try.lcf : Go.Proofs.SlLaysH0.n8 Try.prog Try.lcf_ren := {
  mixed := by kernel_rfl
  f6 := ⟨Try.f145.name, by decide, Try.func145.trans (congrArg some (by kernel_rfl))⟩
  f8 := ⟨Try.f106.name, by decide, Try.func106.trans (congrArg some (by kernel_rfl))⟩
  t0 := Try.underlying0
  a0 := Try.isAgg0
  z0 := Try.sizeOf0
  v0 := Try.zeroValue0
  t3 := Try.underlying3
  a3 := Try.isAgg3
  z3 := Try.sizeOf3
  v3 := Try.zeroValue3
  t4 := Try.underlying4
  a4 := Try.isAgg4
  z4 := Try.sizeOf4
  v4 := Try.zeroValue4
  t22 := Try.underlying22
  a22 := Try.isAgg22
  z22 := Try.sizeOf22
  v22 := Try.zeroValue22
  t25 := Try.underlying169
  a25 := Try.isAgg169
  z25 := Try.sizeOf169
  v25 := Try.zeroValue169 }
end Go.Proofs
