/-
  Parts.
-/
import Derived.Test.YtclbiihcbfnjmaaGreatK19
namespace Go.Proofs.YtclbiihcbfnjmaaGreat
section
open Go.RowKit

end
section
open Go.RowKit

end
end Go.Proofs.YtclbiihcbfnjmaaGreat
