/-
  Parts.
-/
import Derived.Test.YtclbiihcbfnjmaaGreatK2
import Derived.Test.YtclbiihcbfnjmaaGreatK8
import Derived.Test.YtclbiihcbfnjmaaGreatK14
import Derived.Test.YtclbiihcbfnjmaaGreatK11
import Derived.Test.YtclbiihcbfnjmaaGreatK19
namespace Go.Proofs.YtclbiihcbfnjmaaGreat
section
open Go.RowKit

end
section
open Go.RowKit

end
end Go.Proofs.YtclbiihcbfnjmaaGreat
