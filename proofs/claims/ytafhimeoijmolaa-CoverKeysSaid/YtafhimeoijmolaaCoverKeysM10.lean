/- Texts of this claim, one behind the other, as far as they are used: Shelf2. -/
import Derived.Shelf.SlicesQ.IndexFunc
import Derived.Test.YtafhimeoijmolaaProg
namespace Go.Proofs
open Go.Shelf
end Go.Proofs
