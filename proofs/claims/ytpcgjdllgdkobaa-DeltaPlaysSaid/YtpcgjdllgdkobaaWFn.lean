-- (what is not named in this seat's texts is left out)
import Derived.Test.YtpcgjdllgdkobaaWFloat
namespace Go.Proofs.YtpcgjdllgdkobaaW.PrintWords
open Go.RowKit
end Go.Proofs.YtpcgjdllgdkobaaW.PrintWords
