-- PRINTED BY print.sh 35421559b90ae4d0a3588c463048766b98c2df88dd9212a6774a882060cdf62d: not written by this session
-- (what is not named in this seat's texts is left out)
import Derived.Test.YtbcclpbnmhbhpaaDoorWWords
namespace Go.Proofs.YtbcclpbnmhbhpaaDoorW.PrintWords
open Go.RowKit
namespace Kd
end Kd
end Go.Proofs.YtbcclpbnmhbhpaaDoorW.PrintWords
