/- Functions of Go's library whose contracts the kit's shelf has: what they compute. -/
import Derived.Test.YtdcdndflfhaejaaDoorLibY
import Derived.Lib.ValidU
namespace Go.Proofs.YtdcdndflfhaejaaDoor
open Go.Sy
def utf8_ValidString (s : Str) : Option Bool := some (Lib.validD s.b)
end Go.Proofs.YtdcdndflfhaejaaDoor
