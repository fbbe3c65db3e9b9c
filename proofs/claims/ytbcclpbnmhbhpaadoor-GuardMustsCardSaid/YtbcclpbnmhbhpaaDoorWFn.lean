-- (what is not named in this seat's texts is left out)
import Derived.Test.YtbcclpbnmhbhpaaDoorWFloat
namespace Go.Proofs.YtbcclpbnmhbhpaaDoorW.PrintWords
open Go.RowKit
end Go.Proofs.YtbcclpbnmhbhpaaDoorW.PrintWords
