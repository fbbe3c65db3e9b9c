-- (what is not named in this seat's texts is left out)
import Derived.Test.YtjodekffbobmlaaWFloat
namespace Go.Proofs.YtjodekffbobmlaaW.PrintWords
open Go.RowKit
end Go.Proofs.YtjodekffbobmlaaW.PrintWords
