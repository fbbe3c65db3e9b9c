-- (what is not named in this seat's texts is left out)
import Derived.Test.YtpcipmhblknokaaWFloat
namespace Go.Proofs.YtpcipmhblknokaaW.PrintWords
open Go.RowKit
end Go.Proofs.YtpcipmhblknokaaW.PrintWords
