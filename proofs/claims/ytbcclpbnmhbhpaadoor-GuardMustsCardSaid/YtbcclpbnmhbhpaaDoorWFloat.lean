-- (what is not named in this seat's texts is left out)
import Derived.Test.YtbcclpbnmhbhpaaDoorWMore
import Derived.Test.YtbcclpbnmhbhpaaDoorWFoot
import Derived.Laws.FloatBits
import Derived.Laws.Externs
namespace Go.Proofs.YtbcclpbnmhbhpaaDoorW.PrintWords
open Go.RowKit
namespace Kd
def float64 : Kd Nat := scalar (Value.float .f64) (fun _ => rfl)
end Kd
def feq (a b : Nat) : Bool := Op.floatEq .f64 a b
def flt (a b : Nat) : Bool := FloatKind.f64.format.order a b == some .lt
def fle (a b : Nat) : Bool := FloatKind.f64.format.order a b == some .lt || FloatKind.f64.format.order a b == some .eq
def fadd (a b : Nat) : Nat := (FloatKind.f64.format.add a b).getD 0
def faddOk (a b : Nat) : Bool := (FloatKind.f64.format.add a b).isSome
def fsub (a b : Nat) : Nat := (FloatKind.f64.format.sub a b).getD 0
def fsubOk (a b : Nat) : Bool := (FloatKind.f64.format.sub a b).isSome
def fmul (a b : Nat) : Nat := (FloatKind.f64.format.mul a b).getD 0
def fmulOk (a b : Nat) : Bool := (FloatKind.f64.format.mul a b).isSome
def fdiv (a b : Nat) : Nat := (FloatKind.f64.format.div a b).getD 0
def fdivOk (a b : Nat) : Bool := (FloatKind.f64.format.div a b).isSome
def fofint (n : Int) : Nat := FloatKind.f64.nearest n
def ftoint (a : Nat) : Int := ((FloatKind.f64.decode a).toInt .zero).getD 0
def ftointOk (k : IntKind) (a : Nat) : Bool := match (FloatKind.f64.decode a).toInt .zero with
  | some n => decide (k.min ≤ n ∧ n ≤ k.max)
  | none => false
def fneg (a : Nat) : Nat := Op.negFloat .f64 a
def fbits (a : Nat) : Int := a
def ffrom (n : Int) : Nat := n.toNat
def fround (way : Ieee.Toward) (a : Nat) : Nat := match FloatKind.f64.decode a with
  | .nan _ _ => a
  | d => FloatKind.f64.encode (d.integral way)
def froundOk (a : Nat) : Bool := match FloatKind.f64.decode a with
  | .nan _ t => FloatKind.f64.format.quiet t == t
  | _ => true
theorem order_swap (x y : Nat) : FloatKind.f64.format.order y x = (FloatKind.f64.format.order x y).map Ordering.swap := by
  unfold Ieee.Format.order
  generalize FloatKind.f64.format.read x = a
  generalize FloatKind.f64.format.read y = b
  cases a <;> cases b <;> simp only [Ieee.Datum.order, Option.map_none, Option.map_some]
  · rename_i s m i t n j
    rw [Int.min_comm j i]
    exact congrArg some (Std.OrientedCmp.eq_swap (cmp := compare))
  · rename_i s m i t
    cases t <;> rfl
  · rename_i s t m i
    cases s <;> rfl
  · rename_i s t
    exact congrArg some (Std.OrientedCmp.eq_swap (cmp := compare))
theorem order_gt (a b : Nat) : (FloatKind.f64.format.order a b == some .gt) = (FloatKind.f64.format.order b a == some .lt) := by
  rw [order_swap a b]
  cases FloatKind.f64.format.order a b with
  | none => rfl
  | some o => cases o <;> rfl
theorem order_eq (a b : Nat) : (FloatKind.f64.format.order a b == some .eq) = (FloatKind.f64.format.order b a == some .eq) := by
  rw [order_swap a b]
  cases FloatKind.f64.format.order a b with
  | none => rfl
  | some o => cases o <;> rfl
section
variable (t : TypeId) (a b : Nat)
@[go_sem] theorem binOp_feq : binOp .eql t (.float .f64 a) (.float .f64 b) = pure (.bool (feq a b)) := by simp [binOp, Op.floatCmp, feq, Op.floatEq]
@[go_sem] theorem binOp_fneq : binOp .neq t (.float .f64 a) (.float .f64 b) = pure (.bool (!(feq a b))) := by simp [binOp, Op.floatCmp, feq, Op.floatEq, bne]
@[go_sem] theorem binOp_flt : binOp .lss t (.float .f64 a) (.float .f64 b) = pure (.bool (flt a b)) := by simp [binOp, Op.floatCmp, flt]
@[go_sem] theorem binOp_fle : binOp .leq t (.float .f64 a) (.float .f64 b) = pure (.bool (fle a b)) := by simp [binOp, Op.floatCmp, fle]
@[go_sem] theorem binOp_fgt : binOp .gtr t (.float .f64 a) (.float .f64 b) = pure (.bool (flt b a)) := by simp [binOp, Op.floatCmp, flt, order_gt a b]
@[go_sem] theorem binOp_fge : binOp .geq t (.float .f64 a) (.float .f64 b) = pure (.bool (fle b a)) := by simp [binOp, Op.floatCmp, fle, order_gt a b, order_eq a b]
@[go_sem] theorem binOp_fadd (h : faddOk a b = true) : binOp .add t (.float .f64 a) (.float .f64 b) = pure (.float .f64 (fadd a b)) := by
  obtain ⟨r, hr⟩ := Option.isSome_iff_exists.1 h
  simp [binOp, Op.floatArith, fadd, hr]
@[go_sem] theorem binOp_fsub (h : fsubOk a b = true) : binOp .sub t (.float .f64 a) (.float .f64 b) = pure (.float .f64 (fsub a b)) := by
  obtain ⟨r, hr⟩ := Option.isSome_iff_exists.1 h
  simp [binOp, Op.floatArith, fsub, hr]
@[go_sem] theorem binOp_fmul (h : fmulOk a b = true) : binOp .mul t (.float .f64 a) (.float .f64 b) = pure (.float .f64 (fmul a b)) := by
  obtain ⟨r, hr⟩ := Option.isSome_iff_exists.1 h
  simp [binOp, Op.floatArith, fmul, hr]
@[go_sem] theorem binOp_fdiv (h : fdivOk a b = true) : binOp .quo t (.float .f64 a) (.float .f64 b) = pure (.float .f64 (fdiv a b)) := by
  obtain ⟨r, hr⟩ := Option.isSome_iff_exists.1 h
  simp [binOp, Op.floatArith, fdiv, hr]
end
@[go_sem] theorem unary_fneg (a : Nat) : Op.unary .neg (.float .f64 a) = pure (.float .f64 (fneg a)) := rfl
@[go_sem] theorem run_fofint {P : Program} (w : World) (src dst : TypeId) (q : IntKind) (n : Int) (hs : (P.underlying src).isSome = true) (hd : P.underlying dst = some (.float .f64)) :
    (convert src dst (.int q n)).run P w = .ok (.float .f64 (fofint n)) w := by
  obtain ⟨u, hs'⟩ := Option.isSome_iff_exists.1 hs
  cases u <;> simp [convert, run_underlying hs', run_underlying hd, Conv.intToFloat, fofint]
@[go_sem] theorem run_fsame {P : Program} (w : World) (src dst : TypeId) (b : Nat) (hs : (P.underlying src).isSome = true) (hd : P.underlying dst = some (.float .f64)) :
    (convert src dst (.float .f64 b)).run P w = .ok (.float .f64 b) w := by
  obtain ⟨u, hs'⟩ := Option.isSome_iff_exists.1 hs
  cases u <;> simp [convert, run_underlying hs', run_underlying hd, Conv.floatToFloat]
@[go_sem] theorem run_ftoint {P : Program} (w : World) (src dst : TypeId) (b : Nat) (hs : (P.underlying src).isSome = true) (hd : P.underlying dst = some (.int (P.intKind dst))) (h : ftointOk (P.intKind dst) b = true) :
    (convert src dst (.float .f64 b)).run P w = .ok (.int (P.intKind dst) (ftoint b)) w := by
  obtain ⟨u, hs'⟩ := Option.isSome_iff_exists.1 hs
  generalize P.intKind dst = k at *
  unfold ftointOk at h
  split at h
  · rename_i n hn
    have hb : k.min ≤ n ∧ n ≤ k.max := of_decide_eq_true h
    cases u <;> simp [convert, run_underlying hs', run_underlying hd, Conv.floatToInt, hn, hb.1, hb.2, ftoint]
  · cases h
@[go_sem] theorem run_store_float (P : Program) (w : World) (a : Addr) (m : Mode) (k : FloatKind) (n : Nat) : (store a (.float k n) m).run P w = stored P w a (.float k n) m := run_store P w a _ m rfl
@[go_sem] theorem run_equalIn_float {P : Program} (w : World) (d : Nat) (t : TypeId) (a b : Nat) (h : P.underlying t = some (.float .f64)) : (Op.equalIn (d + 1) t (.float .f64 a) (.float .f64 b)).run P w = .ok (feq a b) w := by
  simp [Op.equalIn, run_underlying h, feq]
attribute [irreducible] feq flt fle fadd faddOk fsub fsubOk fmul fmulOk fdiv fdivOk fneg fofint ftoint ftointOk fbits ffrom fround froundOk
end Go.Proofs.YtbcclpbnmhbhpaaDoorW.PrintWords
