-- PRINTED BY print.sh 35421559b90ae4d0a3588c463048766b98c2df88dd9212a6774a882060cdf62d: not written by this session
-- (what is not named in this seat's texts is left out)
import Derived.Test.YtbcclpbnmhbhpaaDoorWWords
import Derived.Test.YtbcclpbnmhbhpaaDoorWLast
import Derived.Test.YtbcclpbnmhbhpaaDoorWQPut
import Derived.Test.YtbcclpbnmhbhpaaDoorWApart
import Derived.Test.YtbcclpbnmhbhpaaDoorWZeros
import Derived.Test.YtbcclpbnmhbhpaaDoorWFoot
import Derived.Test.YtbcclpbnmhbhpaaDoorWKept
import Derived.Test.YtbcclpbnmhbhpaaDoorWNEv
namespace Go.Proofs.YtbcclpbnmhbhpaaDoorW.PrintMore
open Go.RowKit Go.Proofs.YtbcclpbnmhbhpaaDoorW.PrintWords
namespace Kd
open Go.Proofs.YtbcclpbnmhbhpaaDoorW.PrintWords.Kd
end Kd
namespace Kd
open Go.Proofs.YtbcclpbnmhbhpaaDoorW.PrintWords.Kd
end Kd
theorem max2_int (k k' : IntKind) (x y : Int) : Builtin.max2 (.int k x) (.int k' y) = pure (.int k (if x < y then y else x)) := by simp only [Builtin.max2, gt_iff_lt]
theorem min2_int (k k' : IntKind) (x y : Int) : Builtin.min2 (.int k x) (.int k' y) = pure (.int k (if y < x then y else x)) := by simp only [Builtin.min2]
theorem max_two (ats : Array TypeId) (ty : TypeId) (a b : Value) : Builtin.max_ ats ty #[a, b] = (Builtin.max2 a b >>= fun s => pure s) := by simp only [Builtin.max_, List.foldlM_cons, List.foldlM_nil]
theorem min_two (ats : Array TypeId) (ty : TypeId) (a b : Value) : Builtin.min_ ats ty #[a, b] = (Builtin.min2 a b >>= fun s => pure s) := by simp only [Builtin.min_, List.foldlM_cons, List.foldlM_nil]
theorem max_three (ats : Array TypeId) (ty : TypeId) (a b c : Value) : Builtin.max_ ats ty #[a, b, c] = (Builtin.max2 a b >>= fun s => Builtin.max2 s c >>= fun s => pure s) := by simp only [Builtin.max_, List.foldlM_cons, List.foldlM_nil]
theorem min_three (ats : Array TypeId) (ty : TypeId) (a b c : Value) : Builtin.min_ ats ty #[a, b, c] = (Builtin.min2 a b >>= fun s => Builtin.min2 s c >>= fun s => pure s) := by simp only [Builtin.min_, List.foldlM_cons, List.foldlM_nil]
theorem max_four (ats : Array TypeId) (ty : TypeId) (a b c d : Value) : Builtin.max_ ats ty #[a, b, c, d] = (Builtin.max2 a b >>= fun s => Builtin.max2 s c >>= fun s => Builtin.max2 s d >>= fun s => pure s) := by simp only [Builtin.max_, List.foldlM_cons, List.foldlM_nil]
theorem min_four (ats : Array TypeId) (ty : TypeId) (a b c d : Value) : Builtin.min_ ats ty #[a, b, c, d] = (Builtin.min2 a b >>= fun s => Builtin.min2 s c >>= fun s => Builtin.min2 s d >>= fun s => pure s) := by simp only [Builtin.min_, List.foldlM_cons, List.foldlM_nil]
end Go.Proofs.YtbcclpbnmhbhpaaDoorW.PrintMore
namespace Go.Proofs.YtbcclpbnmhbhpaaDoorW.PrintWords
open Go.RowKit
namespace Kd
end Kd
end Go.Proofs.YtbcclpbnmhbhpaaDoorW.PrintWords
namespace Go.Proofs.YtbcclpbnmhbhpaaDoorW.PrintWords
open Go.RowKit
namespace Kd
def V {α : Type} (d : Kd α) (_e : Nat) (W : World) (_base : Nat) (ok : Nat → Prop) (v : Value) (xs : List α) : Prop := ∃ A c, v = .slice A xs.length c ∧ xs.length ≤ c ∧ F d W ok A xs.length xs
end Kd
end Go.Proofs.YtbcclpbnmhbhpaaDoorW.PrintWords
