/- Go functions of this seat as Lean functions, with proofs that the calls come to them. (Written by xprint.py, a program of this session, over the kit's print.) -/
import Derived.Test.YtajejidnidomgaaProg
import Derived.Below
import Derived.Deep.Draws
import Derived.Deep.AppendLies
import Derived.Maps.AppendAt
import Derived.OwnWalk
import Derived.Laws.BytesArg
import Derived.Laws.MakeOwn
import Derived.Laws.OwnMore
import Derived.Deep.OwnRows
import Derived.Tactics
import Derived.Lib.ConvBytes
import Derived.Laws.Slices
import Derived.WalkKit
import Derived.KernelRfl
import Derived.RowKit3
import Derived.Deep.LoopGhost
import Derived.Deep.QuietTactic
import Derived.BigQuiet
import Derived.WideLaws
import Derived.Deep.DeepCutAuto
import Derived.Deep.CutBlock
import Derived.Deep.RegionHeld3
import Derived.Laws.Rows
import Derived.Lib.AppendStr
import Derived.ArgAppend
import Derived.Laws.IdiomCopy
import Derived.OrdersHeld
import Derived.Laws.BitsLemmas
import Derived.RowKit
import Derived.Test.YtajejidnidomgaaWWords
import Derived.Test.YtajejidnidomgaaWLast
import Derived.Test.YtajejidnidomgaaWTab
import Derived.Test.YtajejidnidomgaaWFour
import Derived.Test.YtajejidnidomgaaWQPut
import Derived.Test.YtajejidnidomgaaWApart
import Derived.Test.YtajejidnidomgaaWArr
import Derived.Test.YtajejidnidomgaaWZeros
import Derived.Test.YtajejidnidomgaaWFoot
import Derived.Test.YtajejidnidomgaaWKept
import Derived.Test.YtajejidnidomgaaWShare
import Derived.Test.YtajejidnidomgaaWN
import Derived.Test.YtajejidnidomgaaWFootNe
import Derived.Test.YtajejidnidomgaaWAt
import Derived.Test.YtajejidnidomgaaWEqStruct
import Derived.Test.YtajejidnidomgaaWRepsOne
import Derived.Test.YtajejidnidomgaaWInv
import Derived.Test.YtajejidnidomgaaWInvWords
import Derived.Test.YtajejidnidomgaaWGuard
import Derived.Test.YtajejidnidomgaaWNEv
import Derived.Test.YtajejidnidomgaaWMore
import Derived.Test.YtajejidnidomgaaWFloat
namespace Go.Proofs.Ytajejidnidomgaa.XR
open Go.RowKit Go.Proofs.YtajejidnidomgaaW.PrintWords Go.Proofs.YtajejidnidomgaaW.PrintLast Go.Proofs.YtajejidnidomgaaW.PrintMore
attribute [local go_sem] max2_int min2_int max_two min_two max_three min_three max_four min_four   -- for this text's walks alone
set_option linter.unusedVariables false
set_option linter.unusedSimpArgs false



def errW : Option Int → Value
  | none => .nilIface
  | some c => .iface 0 (.int .i64 c)
theorem errW_none : errW none = .nilIface := rfl
theorem errW_some (c : Int) : errW (some c) = .iface 0 (.int .i64 c) := rfl

@[go_sem] theorem ext32 (b : Nat) (w : World) : (callFunc 32 #[.float .f64 b]).run Try.prog w = .ok (.value (.int .u64 (fbits b))) w := by
  rw [run_callFunc_extern (e := Extern.MathFloatBits.float64bits) Try.func32 (by kernel_rfl) (by kernel_rfl) (by kernel_rfl) (by kernel_rfl)]
  unfold fbits; rfl
@[go_sem] theorem ext36 (b : Int) (w : World) : (callFunc 36 #[.int .u64 b]).run Try.prog w = .ok (.value (.float .f64 (ffrom b))) w := by
  rw [run_callFunc_extern (e := Extern.MathFloatBits.float64frombits) Try.func36 (by kernel_rfl) (by kernel_rfl) (by kernel_rfl) (by kernel_rfl)]
  unfold ffrom; rfl
@[go_sem] theorem ext40 (b : Nat) (w : World) (h : froundOk b = true) : (callFunc 40 #[.float .f64 b]).run Try.prog w = .ok (.value (.float .f64 (fround .even b))) w := by
  rw [run_callFunc_extern (e := (Extern.MathFloor.toIntegral "math.RoundToEven" .even)) Try.func40 (by kernel_rfl) (by kernel_rfl) (by kernel_rfl) (by kernel_rfl)]
  rw [round_run _ _ _ _ _ h]; rfl
@[go_sem] theorem ext49 (b : Nat) (w : World) (h : froundOk b = true) : (callFunc 49 #[.float .f64 b]).run Try.prog w = .ok (.value (.float .f64 (fround .down b))) w := by
  rw [run_callFunc_extern (e := (Extern.MathFloor.toIntegral "math.archFloor" .down)) Try.func49 (by kernel_rfl) (by kernel_rfl) (by kernel_rfl) (by kernel_rfl)]
  rw [round_run _ _ _ _ _ h]; rfl
@[go_sem] theorem ext53 (b : Nat) (w : World) (h : froundOk b = true) : (callFunc 53 #[.float .f64 b]).run Try.prog w = .ok (.value (.float .f64 (fround .zero b))) w := by
  rw [run_callFunc_extern (e := (Extern.MathFloor.toIntegral "math.archTrunc" .zero)) Try.func53 (by kernel_rfl) (by kernel_rfl) (by kernel_rfl) (by kernel_rfl)]
  rw [round_run _ _ _ _ _ h]; rfl
theorem info22 : (Try.prog.info? 22).map (fun i => (i.zero, i.size, i.bytes)) = some (some (.float .f64 0), 1, 8) := by kernel_rfl
-- the values' own types
def rd_L1 (xs : List (List Nat)) (i : Int) : (List Nat) := xs.getD i.toNat ([] : List Nat)
theorem at_L1 {w : World} {A : Option Addr} {n : Nat} {xs : List (List Nat)} (h : Kd.C (Kd.slice 22 Kd.float64) w A n xs) (i : Int) (h0 : 0 ≤ i) (h1 : i < n) : ∃ ad A0 c0, A = some ad ∧ w.cell? (ad.add i.toNat) = some (.slice A0 (rd_L1 xs i).length c0) ∧ (rd_L1 xs i).length ≤ c0 ∧ Kd.float64.C w A0 (rd_L1 xs i).length (rd_L1 xs i) := by
  obtain ⟨ad, c, e, _, hK, hc0⟩ := Kd.C_get h ([] : List Nat) i h0 h1
  have hc : ∀ j u, c[j]? = some u → w.cell? (ad.add (i.toNat * 1 + j)) = some u := hc0
  obtain ⟨A0, c0, rfl, l0, g0⟩ := hK
  exact ⟨ad, A0, c0, e, by have hq := hc 0 _ rfl; rwa [Nat.mul_one, Nat.add_zero] at hq, l0, g0⟩

end Go.Proofs.Ytajejidnidomgaa.XR
