/- Go functions of this seat as Lean functions, with proofs that the calls come to them. (Written by xprint.py, a program of this session, over the kit's print.) -/
import Derived.Test.YtpcgjdllgdkobaaXDx0
import Derived.Test.YtpcgjdllgdkobaaXDx3
import Derived.Test.YtpcgjdllgdkobaaXDx4
import Derived.Test.YtpcgjdllgdkobaaXDx6
namespace Go.Proofs.Ytpcgjdllgdkobaa.XD
open Go.RowKit Go.Proofs.YtpcgjdllgdkobaaW.PrintWords Go.Proofs.YtpcgjdllgdkobaaW.PrintLast Go.Proofs.YtpcgjdllgdkobaaW.PrintMore
attribute [local go_sem] max2_int min2_int max_two min_two max_three min_three max_four min_four   -- for this text's walks alone
set_option linter.unusedVariables false
set_option linter.unusedSimpArgs false
open List renaming setIfInBounds_toArray → xA, set_cons_zero → xB, set_cons_succ → xC
open Go.Proofs.YtpcgjdllgdkobaaW.PrintWords renaming blk_drewN → bN, blk_drew → bD, blk_alloc → bA, below_set → bS, blk_frozen → bF, blk_cell → bC, cell_far → cF, blk_far → bZ, blk_below → bB, pw_below_drewN → bwN, below_drew1 → bw1, below_alloc → bwA
open Go.Proofs.YtpcgjdllgdkobaaW.PrintZ
open Bool renaming true → T,false → F

/-! ### message_Check: function 47 -/
mutual
def message_Check.j0 : Nat → Bool → Int → Bool → Int → Int → Int → Int → List (S61) → Int → Int → Int → Int → Int → Int → Int → Int → ByteArray → Int → Int → ByteArray → Option (Int)
 | 0, _, _, _, _, _, _, _, _, _, _, _, _, _, _, _, _, _, _, _, _ => none
 | k + 1, x3, x7, x29, x135000, x135001, x135002, x135003, x135004, x135005, x135006, x135007, x135008, x135009, x135010, x135011, x135012, x135013, x135014, x135015, x135016 => if x29 = true then (if x135001 > 0 then (if x135002 > 0 then (if x135003 > 0 then ((message_none.f x135005 x135006 x135007 x135008 x135009 x135010 x135011 x135012 x135013 x135014 x135015 x135016).bind fun t136 => (if t136 = true then (if (x135004.length : Int) ≤ 512 then (if x135000 = 2 then (message_Check.j1 k true x135000 x135001 x135002 x135003 x135004 x135005 x135006 x135007 x135008 x135009 x135010 x135011 x135012 x135013 x135014 x135015 x135016) else (message_Check.j1 k ((x135004.length : Int) == 0) x135000 x135001 x135002 x135003 x135004 x135005 x135006 x135007 x135008 x135009 x135010 x135011 x135012 x135013 x135014 x135015 x135016)) else (message_Check.j1 k false x135000 x135001 x135002 x135003 x135004 x135005 x135006 x135007 x135008 x135009 x135010 x135011 x135012 x135013 x135014 x135015 x135016)) else (message_Check.j1 k false x135000 x135001 x135002 x135003 x135004 x135005 x135006 x135007 x135008 x135009 x135010 x135011 x135012 x135013 x135014 x135015 x135016))) else (message_Check.j1 k false x135000 x135001 x135002 x135003 x135004 x135005 x135006 x135007 x135008 x135009 x135010 x135011 x135012 x135013 x135014 x135015 x135016)) else (message_Check.j1 k false x135000 x135001 x135002 x135003 x135004 x135005 x135006 x135007 x135008 x135009 x135010 x135011 x135012 x135013 x135014 x135015 x135016)) else (message_Check.j1 k false x135000 x135001 x135002 x135003 x135004 x135005 x135006 x135007 x135008 x135009 x135010 x135011 x135012 x135013 x135014 x135015 x135016)) else (if x7 = 4 then (if x135001 = 0 then (if x135002 = 0 then (if x135003 = 0 then (if (x135004.length : Int) = 0 then ((message_packet.f k x135005 x135006 x135007 x135008 x135009 x135010 x135011 x135012 x135013 x135014 x135015 x135016).bind fun t142 => (if t142 = true then (some 0) else (some 60))) else (some 60)) else (some 60)) else (some 60)) else (some 60)) else (if x3 = true then (some 0) else (some 60)))
def message_Check.j1 : Nat → Bool → Int → Int → Int → Int → List (S61) → Int → Int → Int → Int → Int → Int → Int → Int → ByteArray → Int → Int → ByteArray → Option (Int)
 | 0, _, _, _, _, _, _, _, _, _, _, _, _, _, _, _, _, _, _ => none
 | k + 1, x3, x135000, x135001, x135002, x135003, x135004, x135005, x135006, x135007, x135008, x135009, x135010, x135011, x135012, x135013, x135014, x135015, x135016 => message_Check.l0 k x3 x135004 (x135004.length : Int) 0 x135000 x135001 x135002 x135003 x135004 x135005 x135006 x135007 x135008 x135009 x135010 x135011 x135012 x135013 x135014 x135015 x135016
def message_Check.l0 : Nat → Bool → List (S61) → Int → Int → Int → Int → Int → Int → List (S61) → Int → Int → Int → Int → Int → Int → Int → Int → ByteArray → Int → Int → ByteArray → Option (Int)
 | 0, _, _, _, _, _, _, _, _, _, _, _, _, _, _, _, _, _, _, _, _, _ => none
 | k + 1, x3, x68, x69, x70, x135000, x135001, x135002, x135003, x135004, x135005, x135006, x135007, x135008, x135009, x135010, x135011, x135012, x135013, x135014, x135015, x135016 => if x70 < x69 then (if 0 ≤ x70 then (if x70 < (x68.length : Int) then (if x3 = true then ((message_news.f k ((rd_T61 x68 x70).f0) ((rd_T61 x68 x70).f1) ((rd_T61 x68 x70).f2) ((rd_T61 x68 x70).f3) ((rd_T61 x68 x70).f4)).bind fun t139 => (if t139 = true then (if x70 = 0 then (message_Check.l0 k true x68 x69 (wrap64 (x70 + 1)) x135000 x135001 x135002 x135003 x135004 x135005 x135006 x135007 x135008 x135009 x135010 x135011 x135012 x135013 x135014 x135015 x135016) else (if 0 ≤ (wrap64 (x70 - 1)) then (if (wrap64 (x70 - 1)) < (x135004.length : Int) then ((message_ahead.f ((rd_T61 x135004 (wrap64 (x70 - 1))).f0) ((rd_T61 x135004 (wrap64 (x70 - 1))).f1) ((rd_T61 x135004 (wrap64 (x70 - 1))).f2) ((rd_T61 x135004 (wrap64 (x70 - 1))).f3) ((rd_T61 x135004 (wrap64 (x70 - 1))).f4) ((rd_T61 x68 x70).f0) ((rd_T61 x68 x70).f1) ((rd_T61 x68 x70).f2) ((rd_T61 x68 x70).f3) ((rd_T61 x68 x70).f4)).bind fun t141 => (message_Check.l0 k t141 x68 x69 (wrap64 (x70 + 1)) x135000 x135001 x135002 x135003 x135004 x135005 x135006 x135007 x135008 x135009 x135010 x135011 x135012 x135013 x135014 x135015 x135016)) else (none)) else (none))) else (message_Check.l0 k false x68 x69 (wrap64 (x70 + 1)) x135000 x135001 x135002 x135003 x135004 x135005 x135006 x135007 x135008 x135009 x135010 x135011 x135012 x135013 x135014 x135015 x135016))) else (message_Check.l0 k false x68 x69 (wrap64 (x70 + 1)) x135000 x135001 x135002 x135003 x135004 x135005 x135006 x135007 x135008 x135009 x135010 x135011 x135012 x135013 x135014 x135015 x135016)) else (none)) else (none)) else (if x3 = true then (some 0) else (some 60))
end
def message_Check.f (k : Nat) (a0_0 : Int) (a0_1 : Int) (a0_2 : Int) (a0_3 : Int) (l0_4 : List (S61)) (a0_5 : Int) (a0_6 : Int) (a0_7 : Int) (a0_8 : Int) (a0_9 : Int) (a0_10 : Int) (a0_11 : Int) (a0_12 : Int) (a0_13 : ByteArray) (a0_14 : Int) (a0_15 : Int) (a0_16 : ByteArray) : Option (Int) := if a0_0 = 1 then (if a0_1 > 0 then (if a0_3 = 0 then (if (l0_4.length : Int) = 0 then ((message_none.f a0_5 a0_6 a0_7 a0_8 a0_9 a0_10 a0_11 a0_12 a0_13 a0_14 a0_15 a0_16).bind fun t135 => (if t135 = true then (some 0) else (some 60))) else (some 60)) else (some 60)) else (some 60)) else (if a0_0 = 2 then (message_Check.j0 k false a0_0 (a0_0 == 2) a0_0 a0_1 a0_2 a0_3 l0_4 a0_5 a0_6 a0_7 a0_8 a0_9 a0_10 a0_11 a0_12 a0_13 a0_14 a0_15 a0_16) else (message_Check.j0 k false a0_0 (a0_0 == 3) a0_0 a0_1 a0_2 a0_3 l0_4 a0_5 a0_6 a0_7 a0_8 a0_9 a0_10 a0_11 a0_12 a0_13 a0_14 a0_15 a0_16))
theorem message_Check.mono_l : ∀ k, (∀ y0 y1 y2 y3 y4 y5 y6 y7 y8 y9 y10 y11 y12 y13 y14 y15 y16 y17 y18 y19, LeO (message_Check.j0 k y0 y1 y2 y3 y4 y5 y6 y7 y8 y9 y10 y11 y12 y13 y14 y15 y16 y17 y18 y19) (message_Check.j0 (k + 1) y0 y1 y2 y3 y4 y5 y6 y7 y8 y9 y10 y11 y12 y13 y14 y15 y16 y17 y18 y19)) ∧ (∀ y0 y1 y2 y3 y4 y5 y6 y7 y8 y9 y10 y11 y12 y13 y14 y15 y16 y17, LeO (message_Check.j1 k y0 y1 y2 y3 y4 y5 y6 y7 y8 y9 y10 y11 y12 y13 y14 y15 y16 y17) (message_Check.j1 (k + 1) y0 y1 y2 y3 y4 y5 y6 y7 y8 y9 y10 y11 y12 y13 y14 y15 y16 y17)) ∧ (∀ y0 y1 y2 y3 y4 y5 y6 y7 y8 y9 y10 y11 y12 y13 y14 y15 y16 y17 y18 y19 y20, LeO (message_Check.l0 k y0 y1 y2 y3 y4 y5 y6 y7 y8 y9 y10 y11 y12 y13 y14 y15 y16 y17 y18 y19 y20) (message_Check.l0 (k + 1) y0 y1 y2 y3 y4 y5 y6 y7 y8 y9 y10 y11 y12 y13 y14 y15 y16 y17 y18 y19 y20))
 | 0 => ⟨fun _ _ _ _ _ _ _ _ _ _ _ _ _ _ _ _ _ _ _ _ r h => by simp [message_Check.j0] at h, fun _ _ _ _ _ _ _ _ _ _ _ _ _ _ _ _ _ _ r h => by simp [message_Check.j1] at h, fun _ _ _ _ _ _ _ _ _ _ _ _ _ _ _ _ _ _ _ _ _ r h => by simp [message_Check.l0] at h⟩
 | k + 1 => by
  obtain ⟨ih0,ih1,ih2⟩:=message_Check.mono_l k
  refine ⟨?_,?_,?_⟩
  ·intro y0 y1 y2 y3 y4 y5 y6 y7 y8 y9 y10 y11 y12 y13 y14 y15 y16 y17 y18 y19
   unfold message_Check.j0
   repeat' first
   | (with_reducible exact ih0 _ _ _ _ _ _ _ _ _ _ _ _ _ _ _ _ _ _ _ _)
   | (with_reducible exact ih1 _ _ _ _ _ _ _ _ _ _ _ _ _ _ _ _ _ _)
   | (with_reducible exact ih2 _ _ _ _ _ _ _ _ _ _ _ _ _ _ _ _ _ _ _ _ _)
   | (with_reducible exact message_news.mono _ _ _ _ _ _)
   | (with_reducible exact message_packet.mono _ _ _ _ _ _ _ _ _ _ _ _ _)
   | (with_reducible exact LeO.refl _)
   | (with_reducible exact LeO.none _)
   | (with_reducible refine LeO.ite ?_ ?_)
   | (with_reducible refine LeO.bind ?_ (fun _ => ?_))
   | exact ih0 _ _ _ _ _ _ _ _ _ _ _ _ _ _ _ _ _ _ _ _
   | exact ih1 _ _ _ _ _ _ _ _ _ _ _ _ _ _ _ _ _ _
   | exact ih2 _ _ _ _ _ _ _ _ _ _ _ _ _ _ _ _ _ _ _ _ _
   | exact message_news.mono _ _ _ _ _ _
   | exact message_packet.mono _ _ _ _ _ _ _ _ _ _ _ _ _
   | exact LeO.none _
   | refine LeO.ite ?_ ?_
   | refine LeO.bind ?_ (fun _ => ?_)
  ·intro y0 y1 y2 y3 y4 y5 y6 y7 y8 y9 y10 y11 y12 y13 y14 y15 y16 y17
   unfold message_Check.j1
   repeat' first
   | (with_reducible exact ih0 _ _ _ _ _ _ _ _ _ _ _ _ _ _ _ _ _ _ _ _)
   | (with_reducible exact ih1 _ _ _ _ _ _ _ _ _ _ _ _ _ _ _ _ _ _)
   | (with_reducible exact ih2 _ _ _ _ _ _ _ _ _ _ _ _ _ _ _ _ _ _ _ _ _)
   | (with_reducible exact message_news.mono _ _ _ _ _ _)
   | (with_reducible exact message_packet.mono _ _ _ _ _ _ _ _ _ _ _ _ _)
   | (with_reducible exact LeO.refl _)
   | (with_reducible exact LeO.none _)
   | (with_reducible refine LeO.ite ?_ ?_)
   | (with_reducible refine LeO.bind ?_ (fun _ => ?_))
   | exact ih0 _ _ _ _ _ _ _ _ _ _ _ _ _ _ _ _ _ _ _ _
   | exact ih1 _ _ _ _ _ _ _ _ _ _ _ _ _ _ _ _ _ _
   | exact ih2 _ _ _ _ _ _ _ _ _ _ _ _ _ _ _ _ _ _ _ _ _
   | exact message_news.mono _ _ _ _ _ _
   | exact message_packet.mono _ _ _ _ _ _ _ _ _ _ _ _ _
   | exact LeO.none _
   | refine LeO.ite ?_ ?_
   | refine LeO.bind ?_ (fun _ => ?_)
  ·intro y0 y1 y2 y3 y4 y5 y6 y7 y8 y9 y10 y11 y12 y13 y14 y15 y16 y17 y18 y19 y20
   unfold message_Check.l0
   repeat' first
   | (with_reducible exact ih0 _ _ _ _ _ _ _ _ _ _ _ _ _ _ _ _ _ _ _ _)
   | (with_reducible exact ih1 _ _ _ _ _ _ _ _ _ _ _ _ _ _ _ _ _ _)
   | (with_reducible exact ih2 _ _ _ _ _ _ _ _ _ _ _ _ _ _ _ _ _ _ _ _ _)
   | (with_reducible exact message_news.mono _ _ _ _ _ _)
   | (with_reducible exact message_packet.mono _ _ _ _ _ _ _ _ _ _ _ _ _)
   | (with_reducible exact LeO.refl _)
   | (with_reducible exact LeO.none _)
   | (with_reducible refine LeO.ite ?_ ?_)
   | (with_reducible refine LeO.bind ?_ (fun _ => ?_))
   | exact ih0 _ _ _ _ _ _ _ _ _ _ _ _ _ _ _ _ _ _ _ _
   | exact ih1 _ _ _ _ _ _ _ _ _ _ _ _ _ _ _ _ _ _
   | exact ih2 _ _ _ _ _ _ _ _ _ _ _ _ _ _ _ _ _ _ _ _ _
   | exact message_news.mono _ _ _ _ _ _
   | exact message_packet.mono _ _ _ _ _ _ _ _ _ _ _ _ _
   | exact LeO.none _
   | refine LeO.ite ?_ ?_
   | refine LeO.bind ?_ (fun _ => ?_)
theorem message_Check.mono : ∀ a0 a1 a2 a3 a4 a5 a6 a7 a8 a9 a10 a11 a12 a13 a14 a15 a16 k, LeO (message_Check.f k a0 a1 a2 a3 a4 a5 a6 a7 a8 a9 a10 a11 a12 a13 a14 a15 a16) (message_Check.f (k + 1) a0 a1 a2 a3 a4 a5 a6 a7 a8 a9 a10 a11 a12 a13 a14 a15 a16) := by
 intro a0 a1 a2 a3 a4 a5 a6 a7 a8 a9 a10 a11 a12 a13 a14 a15 a16 k
 obtain ⟨ih0,ih1,ih2⟩:=message_Check.mono_l k
 unfold message_Check.f
 repeat' first
   | (with_reducible exact ih0 _ _ _ _ _ _ _ _ _ _ _ _ _ _ _ _ _ _ _ _)
   | (with_reducible exact ih1 _ _ _ _ _ _ _ _ _ _ _ _ _ _ _ _ _ _)
   | (with_reducible exact ih2 _ _ _ _ _ _ _ _ _ _ _ _ _ _ _ _ _ _ _ _ _)
   | (with_reducible exact message_news.mono _ _ _ _ _ _)
   | (with_reducible exact message_packet.mono _ _ _ _ _ _ _ _ _ _ _ _ _)
   | (with_reducible exact LeO.refl _)
   | (with_reducible exact LeO.none _)
   | (with_reducible refine LeO.ite ?_ ?_)
   | (with_reducible refine LeO.bind ?_ (fun _ => ?_))
   | exact ih0 _ _ _ _ _ _ _ _ _ _ _ _ _ _ _ _ _ _ _ _
   | exact ih1 _ _ _ _ _ _ _ _ _ _ _ _ _ _ _ _ _ _
   | exact ih2 _ _ _ _ _ _ _ _ _ _ _ _ _ _ _ _ _ _ _ _ _
   | exact message_news.mono _ _ _ _ _ _
   | exact message_packet.mono _ _ _ _ _ _ _ _ _ _ _ _ _
   | exact LeO.none _
   | refine LeO.ite ?_ ?_
   | refine LeO.bind ?_ (fun _ => ?_)
def message_Check.T11 : Bool × List (List Nat × List Nat) := (true, [([], []), ([0], [0]), ([1], [1]), ([2, 1, 1], [1, 2]), ([1, 3], [1, 3]), ([4, 3], [4]), ([5], [5]), ([6, 5], [5, 6]), ([7, 5, 5], [5, 7]), ([8], [8]), ([9, 8], [8, 9]), ([8], [8]), ([11, 8], [8, 11]), ([10, 12, 8], [8, 10, 12]), ([13, 8], [8, 13]), ([8], [8]), ([14, 15, 8, 8], [8, 14, 15]), ([8, 16, 5], [5, 8, 16]), ([5, 17], [5, 17]), ([18, 16, 0, 1, 2, 3, 4, 5, 6, 7, 8, 9, 10, 11, 12, 13, 14, 15, 16, 17, 18], [0, 18])])
def message_Check.B11 : List Nat := [0, 1, 3, 7, 15, 31, 63, 127, 255, 511, 1023, 511, 2559, 8191, 16383, 511, 65535, 131071, 262143, 524287]
theorem message_Check.tab11 : rtab .any (opsOf Try.f47 11) = message_Check.T11 := by kernel_rfl
theorem message_Check.bits11 : waitsOk message_Check.T11.2 message_Check.B11 = true := by kernel_rfl
set_option maxHeartbeats 8000000 in
set_option maxRecDepth 100000 in
theorem message_Check.calls (k : Nat) (a0_0 : Int) (a0_1 : Int) (a0_2 : Int) (a0_3 : Int) (A0_4 : Option Addr) (c0_4 : Nat) (l0_4 : List (S61)) (a0_5 : Int) (a0_6 : Int) (a0_7 : Int) (a0_8 : Int) (a0_9 : Int) (a0_10 : Int) (a0_11 : Int) (a0_12 : Int) (a0_13 : ByteArray) (a0_14 : Int) (a0_15 : Int) (a0_16 : ByteArray) (r : Int) (w : World) (hr0_4 : Kd.C k61 w A0_4 l0_4.length l0_4) (hc0_4 : l0_4.length ≤ c0_4) (h : message_Check.f k a0_0 a0_1 a0_2 a0_3 l0_4 a0_5 a0_6 a0_7 a0_8 a0_9 a0_10 a0_11 a0_12 a0_13 a0_14 a0_15 a0_16 = some r) :
  Calls Try.prog 47 #[.agg #[.int .i64 a0_0,.int .u64 a0_1,.int .u64 a0_2,.int .u64 a0_3,.slice A0_4 l0_4.length c0_4,.int .i64 a0_5,.int .i64 a0_6,.int .i64 a0_7,.int .i64 a0_8,.int .i64 a0_9,.int .i64 a0_10,.int .u64 a0_11,.int .i64 a0_12,.string a0_13,.int .i64 a0_14,.int .i64 a0_15,.string a0_16]] w fun e w' => e = .returned (.int .i64 r) ∧ Below w.heap.size w w':=by
 have hu78:=Try.underlying78
 have hu76:=Try.underlying76
 have hu61:=Try.underlying61
 have HR0_4:=zA hr0_4
 have HC0_4:=zA hc0_4
 clear hr0_4 hc0_4
 have HB:=zA (Below.refl w.heap.size w)
 have H : (if a0_0 = 1 then (if a0_1 > 0 then (if a0_3 = 0 then (if (l0_4.length : Int) = 0 then ((message_none.f a0_5 a0_6 a0_7 a0_8 a0_9 a0_10 a0_11 a0_12 a0_13 a0_14 a0_15 a0_16).bind fun t135 => (if t135 = true then (some 0) else (some 60))) else (some 60)) else (some 60)) else (some 60)) else (if a0_0 = 2 then (message_Check.j0 k false a0_0 (a0_0 == 2) a0_0 a0_1 a0_2 a0_3 l0_4 a0_5 a0_6 a0_7 a0_8 a0_9 a0_10 a0_11 a0_12 a0_13 a0_14 a0_15 a0_16) else (message_Check.j0 k false a0_0 (a0_0 == 3) a0_0 a0_1 a0_2 a0_3 l0_4 a0_5 a0_6 a0_7 a0_8 a0_9 a0_10 a0_11 a0_12 a0_13 a0_14 a0_15 a0_16))) = some r:=h
 clear h
 by_cases c2 : a0_0 = 1
 ·rw [if_pos c2] at H
  have c2b0 : (a0_0 == 1) = true:=beq_iff_eq.mpr c2
  have c2b1 : (a0_0 != 1) = false:=bne_eq_false_iff_eq.mpr c2
  clear c2
  by_cases c3 : a0_1 > 0
  ·rw [if_pos c3] at H
   have c3b0 : decide (0 < a0_1) = true:=decide_eq_true c3
   clear c3
   by_cases c4 : a0_3 = 0
   ·rw [if_pos c4] at H
    have c4b0 : (a0_3 == 0) = true:=beq_iff_eq.mpr c4
    have c4b1 : (a0_3 != 0) = false:=bne_eq_false_iff_eq.mpr c4
    clear c4
    by_cases c5 : (l0_4.length : Int) = 0
    ·rw [if_pos c5] at H
     have c5b0 : ((l0_4.length : Int) == 0) = true:=beq_iff_eq.mpr c5
     have c5b1 : ((l0_4.length : Int) != 0) = false:=bne_eq_false_iff_eq.mpr c5
     clear c5
     replace H:=Option.bind_eq_some_iff.mp H
     obtain ⟨t135,A60,H⟩:=H
     (try dsimp only at H)
     have A6:=zA A60
     clear A60
     by_cases c7 : t135 = true
     ·subst c7
      rw [if_pos rfl] at H
      obtain rfl:=Option.some.inj H
      go_enter Try.func47,Try.ntmps47
      go_wp2_with (first|((with_reducible refine gate_dst (N:=1) rfl ?_);(try (refine gate_guard (by rfl) ?_;dsimp only));refine zb (N:=1) (cs:=#[.int .i64 a0_0,.int .u64 a0_1,.int .u64 a0_2,.int .u64 a0_3,.slice A0_4 l0_4.length c0_4,.int .i64 a0_5,.int .i64 a0_6,.int .i64 a0_7,.int .i64 a0_8,.int .i64 a0_9,.int .i64 a0_10,.int .u64 a0_11,.int .i64 a0_12,.string a0_13,.int .i64 a0_14,.int .i64 a0_15,.string a0_16]) (t:=78) ?_;intro G134 hg w8 hbox hb;have K134:=zA (hbox);have GW134:=zN HB hg;have GE134:=zN HB hg;replace HB:=zS HB hb;clear hb hbox hg;obtain ⟨hcz9_0,hcz9_1,hcz9_2,hcz9_3,hcz9_4,hcz9_5,hcz9_6,hcz9_7,hcz9_8,hcz9_9,hcz9_10,hcz9_11,hcz9_12,hcz9_13,hcz9_14,hcz9_15,hcz9_16,hfz9_0,hfz9_1,hfz9_2,hfz9_3,hfz9_4,hfz9_5,hfz9_6,hfz9_7,hfz9_8,hfz9_9,hfz9_10,hfz9_11,hfz9_12,hfz9_13,hfz9_14,hfz9_15,hfz9_16⟩:=zc17 K134)|(go_at_call 54;(with_reducible refine (message_none.calls a0_5 a0_6 a0_7 a0_8 a0_9 a0_10 a0_11 a0_12 a0_13 a0_14 a0_15 a0_16 true _ A6.out).mono ?_);rintro e w10 ⟨rfl,hb⟩;replace K134:=zB K134 hb;replace HB:=zS HB hb;(try clear hb)))
      go_ret
      exact ⟨zE,zH HB⟩
     ·replace c7:=Bool.eq_false_iff.mpr c7
      subst c7
      rw [if_neg (show ¬ (false = true) by decide)] at H
      obtain rfl:=Option.some.inj H
      go_enter Try.func47,Try.ntmps47
      go_wp2_with (first|((with_reducible refine gate_dst (N:=1) rfl ?_);(try (refine gate_guard (by rfl) ?_;dsimp only));refine zb (N:=1) (cs:=#[.int .i64 a0_0,.int .u64 a0_1,.int .u64 a0_2,.int .u64 a0_3,.slice A0_4 l0_4.length c0_4,.int .i64 a0_5,.int .i64 a0_6,.int .i64 a0_7,.int .i64 a0_8,.int .i64 a0_9,.int .i64 a0_10,.int .u64 a0_11,.int .i64 a0_12,.string a0_13,.int .i64 a0_14,.int .i64 a0_15,.string a0_16]) (t:=78) ?_;intro G134 hg w11 hbox hb;have K134:=zA (hbox);have GW134:=zN HB hg;have GE134:=zN HB hg;replace HB:=zS HB hb;clear hb hbox hg;obtain ⟨hcz12_0,hcz12_1,hcz12_2,hcz12_3,hcz12_4,hcz12_5,hcz12_6,hcz12_7,hcz12_8,hcz12_9,hcz12_10,hcz12_11,hcz12_12,hcz12_13,hcz12_14,hcz12_15,hcz12_16,hfz12_0,hfz12_1,hfz12_2,hfz12_3,hfz12_4,hfz12_5,hfz12_6,hfz12_7,hfz12_8,hfz12_9,hfz12_10,hfz12_11,hfz12_12,hfz12_13,hfz12_14,hfz12_15,hfz12_16⟩:=zc17 K134)|(go_at_call 54;(with_reducible refine (message_none.calls a0_5 a0_6 a0_7 a0_8 a0_9 a0_10 a0_11 a0_12 a0_13 a0_14 a0_15 a0_16 false _ A6.out).mono ?_);rintro e w13 ⟨rfl,hb⟩;replace K134:=zB K134 hb;replace HB:=zS HB hb;(try clear hb)))
      go_ret
      exact ⟨zE,zH HB⟩
    ·rw [if_neg c5] at H
     have c5b0 : ((l0_4.length : Int) == 0) = false:=beq_eq_false_iff_ne.mpr c5
     have c5b1 : ((l0_4.length : Int) != 0) = true:=bne_iff_ne.mpr c5
     have c5b2 : ¬ (l0_4 = []):=fun h_ => c5 (by rw [h_];rfl)
     obtain rfl:=Option.some.inj H
     go_enter Try.func47,Try.ntmps47
     go_wp2_with (first|((with_reducible refine gate_dst (N:=1) rfl ?_);(try (refine gate_guard (by rfl) ?_;dsimp only));refine zb (N:=1) (cs:=#[.int .i64 a0_0,.int .u64 a0_1,.int .u64 a0_2,.int .u64 a0_3,.slice A0_4 l0_4.length c0_4,.int .i64 a0_5,.int .i64 a0_6,.int .i64 a0_7,.int .i64 a0_8,.int .i64 a0_9,.int .i64 a0_10,.int .u64 a0_11,.int .i64 a0_12,.string a0_13,.int .i64 a0_14,.int .i64 a0_15,.string a0_16]) (t:=78) ?_;intro G134 hg w14 hbox hb;have K134:=zA (hbox);have GW134:=zN HB hg;have GE134:=zN HB hg;replace HB:=zS HB hb;clear hb hbox hg;obtain ⟨hcz15_0,hcz15_1,hcz15_2,hcz15_3,hcz15_4,hcz15_5,hcz15_6,hcz15_7,hcz15_8,hcz15_9,hcz15_10,hcz15_11,hcz15_12,hcz15_13,hcz15_14,hcz15_15,hcz15_16,hfz15_0,hfz15_1,hfz15_2,hfz15_3,hfz15_4,hfz15_5,hfz15_6,hfz15_7,hfz15_8,hfz15_9,hfz15_10,hfz15_11,hfz15_12,hfz15_13,hfz15_14,hfz15_15,hfz15_16⟩:=zc17 K134))
     go_ret
     exact ⟨zE,zH HB⟩
   ·rw [if_neg c4] at H
    have c4b0 : (a0_3 == 0) = false:=beq_eq_false_iff_ne.mpr c4
    have c4b1 : (a0_3 != 0) = true:=bne_iff_ne.mpr c4
    obtain rfl:=Option.some.inj H
    go_enter Try.func47,Try.ntmps47
    go_wp2_with (first|((with_reducible refine gate_dst (N:=1) rfl ?_);(try (refine gate_guard (by rfl) ?_;dsimp only));refine zb (N:=1) (cs:=#[.int .i64 a0_0,.int .u64 a0_1,.int .u64 a0_2,.int .u64 a0_3,.slice A0_4 l0_4.length c0_4,.int .i64 a0_5,.int .i64 a0_6,.int .i64 a0_7,.int .i64 a0_8,.int .i64 a0_9,.int .i64 a0_10,.int .u64 a0_11,.int .i64 a0_12,.string a0_13,.int .i64 a0_14,.int .i64 a0_15,.string a0_16]) (t:=78) ?_;intro G134 hg w16 hbox hb;have K134:=zA (hbox);have GW134:=zN HB hg;have GE134:=zN HB hg;replace HB:=zS HB hb;clear hb hbox hg;obtain ⟨hcz17_0,hcz17_1,hcz17_2,hcz17_3,hcz17_4,hcz17_5,hcz17_6,hcz17_7,hcz17_8,hcz17_9,hcz17_10,hcz17_11,hcz17_12,hcz17_13,hcz17_14,hcz17_15,hcz17_16,hfz17_0,hfz17_1,hfz17_2,hfz17_3,hfz17_4,hfz17_5,hfz17_6,hfz17_7,hfz17_8,hfz17_9,hfz17_10,hfz17_11,hfz17_12,hfz17_13,hfz17_14,hfz17_15,hfz17_16⟩:=zc17 K134))
    go_ret
    exact ⟨zE,zH HB⟩
  ·rw [if_neg c3] at H
   have c3b0 : decide (0 < a0_1) = false:=decide_eq_false c3
   clear c3
   obtain rfl:=Option.some.inj H
   go_enter Try.func47,Try.ntmps47
   go_wp2_with (first|((with_reducible refine gate_dst (N:=1) rfl ?_);(try (refine gate_guard (by rfl) ?_;dsimp only));refine zb (N:=1) (cs:=#[.int .i64 a0_0,.int .u64 a0_1,.int .u64 a0_2,.int .u64 a0_3,.slice A0_4 l0_4.length c0_4,.int .i64 a0_5,.int .i64 a0_6,.int .i64 a0_7,.int .i64 a0_8,.int .i64 a0_9,.int .i64 a0_10,.int .u64 a0_11,.int .i64 a0_12,.string a0_13,.int .i64 a0_14,.int .i64 a0_15,.string a0_16]) (t:=78) ?_;intro G134 hg w18 hbox hb;have K134:=zA (hbox);have GW134:=zN HB hg;have GE134:=zN HB hg;replace HB:=zS HB hb;clear hb hbox hg;obtain ⟨hcz19_0,hcz19_1,hcz19_2,hcz19_3,hcz19_4,hcz19_5,hcz19_6,hcz19_7,hcz19_8,hcz19_9,hcz19_10,hcz19_11,hcz19_12,hcz19_13,hcz19_14,hcz19_15,hcz19_16,hfz19_0,hfz19_1,hfz19_2,hfz19_3,hfz19_4,hfz19_5,hfz19_6,hfz19_7,hfz19_8,hfz19_9,hfz19_10,hfz19_11,hfz19_12,hfz19_13,hfz19_14,hfz19_15,hfz19_16⟩:=zc17 K134))
   go_ret
   exact ⟨zE,zH HB⟩
 ·rw [if_neg c2] at H
  have c2b0 : (a0_0 == 1) = false:=beq_eq_false_iff_ne.mpr c2
  have c2b1 : (a0_0 != 1) = true:=bne_iff_ne.mpr c2
  have HC20:=zA H
  clear H
  go_enter Try.func47,Try.ntmps47
  go_upto_if 29 with (first|((with_reducible refine gate_dst (N:=1) rfl ?_);(try (refine gate_guard (by rfl) ?_;dsimp only));refine zb (N:=1) (cs:=#[.int .i64 a0_0,.int .u64 a0_1,.int .u64 a0_2,.int .u64 a0_3,.slice A0_4 l0_4.length c0_4,.int .i64 a0_5,.int .i64 a0_6,.int .i64 a0_7,.int .i64 a0_8,.int .i64 a0_9,.int .i64 a0_10,.int .u64 a0_11,.int .i64 a0_12,.string a0_13,.int .i64 a0_14,.int .i64 a0_15,.string a0_16]) (t:=78) ?_;intro G134 hg w21 hbox hb;have K134:=zA (hbox);have GW134:=zN HB hg;have GE134:=zN HB hg;replace HB:=zS HB hb;clear hb hbox hg;obtain ⟨hcz22_0,hcz22_1,hcz22_2,hcz22_3,hcz22_4,hcz22_5,hcz22_6,hcz22_7,hcz22_8,hcz22_9,hcz22_10,hcz22_11,hcz22_12,hcz22_13,hcz22_14,hcz22_15,hcz22_16,hfz22_0,hfz22_1,hfz22_2,hfz22_3,hfz22_4,hfz22_5,hfz22_6,hfz22_7,hfz22_8,hfz22_9,hfz22_10,hfz22_11,hfz22_12,hfz22_13,hfz22_14,hfz22_15,hfz22_16⟩:=zc17 K134))
  (try simp only [Act.put,xA,xB,xC])
  go_cut [29] (fun v29 wc => ∃ (kq : Nat) (x29_19 : Bool),v29 = .bool x29_19 ∧ Aside0 (message_Check.j0 kq false a0_0 x29_19 a0_0 a0_1 a0_2 a0_3 l0_4 a0_5 a0_6 a0_7 a0_8 a0_9 a0_10 a0_11 a0_12 a0_13 a0_14 a0_15 a0_16 = some r) ∧ Aside0 (kq ≤ k) ∧ Aside0 (wc.heap[G134]? = some (.cells #[.int .i64 a0_0,.int .u64 a0_1,.int .u64 a0_2,.int .u64 a0_3,(.slice A0_4 l0_4.length c0_4),.int .i64 a0_5,.int .i64 a0_6,.int .i64 a0_7,.int .i64 a0_8,.int .i64 a0_9,.int .i64 a0_10,.int .u64 a0_11,.int .i64 a0_12,.string a0_13,.int .i64 a0_14,.int .i64 a0_15,.string a0_16] 78 (0,0))) ∧ Aside0 (Below w.heap.size w wc))
  case first =>
   have H:=HC20.out
   clear HC20
   by_cases c23 : a0_0 = 2
   ·rw [if_pos c23] at H
    have c23b0 : (a0_0 == 2) = true:=beq_iff_eq.mpr c23
    have c23b1 : (a0_0 != 2) = false:=bne_eq_false_iff_eq.mpr c23
    clear c23
    (first|rw [c23b0]|(simp only [i64_w,i32_w];rw [c23b0])|skip)
    have H':=zA H
    clear H
    go_wp2
    go_meet
    case rel => exact ⟨_,((a0_0 == 2)),ze,H',⟨zo⟩,⟨z1 K134.1⟩,⟨zH HB⟩⟩
   ·rw [if_neg c23] at H
    have c23b0 : (a0_0 == 2) = false:=beq_eq_false_iff_ne.mpr c23
    have c23b1 : (a0_0 != 2) = true:=bne_iff_ne.mpr c23
    (first|rw [c23b0]|(simp only [i64_w,i32_w];rw [c23b0])|skip)
    have H':=zA H
    clear H
    go_wp2
    go_meet
    case rel => exact ⟨_,((a0_0 == 3)),ze,H',⟨zo⟩,⟨z1 K134.1⟩,⟨zH HB⟩⟩
  case rest =>
   clear HC20
   try clear c2;try clear c2b0;try clear c2b1;try clear hcz22_0;try clear hcz22_1;try clear hcz22_10;try clear hcz22_11;try clear hcz22_12;try clear hcz22_13;try clear hcz22_14;try clear hcz22_15;try clear hcz22_16;try clear hcz22_2;try clear hcz22_3;try clear hcz22_4;try clear hcz22_5;try clear hcz22_6;try clear hcz22_7;try clear hcz22_8;try clear hcz22_9;try clear hfz22_0;try clear hfz22_1;try clear hfz22_10;try clear hfz22_11;try clear hfz22_12;try clear hfz22_13;try clear hfz22_14;try clear hfz22_15;try clear hfz22_16;try clear hfz22_2;try clear hfz22_3;try clear hfz22_4;try clear hfz22_5;try clear hfz22_6;try clear hfz22_7;try clear hfz22_8;try clear hfz22_9
   obtain ⟨kq,x29_19,rfl,HA,HJ19,K134,HB⟩:=hcut
   cases kq with
   | zero => exact absurd HA.out (by simp [message_Check.j0])
   | succ kj19 =>
    have H:=HA.out
    clear HA
    simp only [message_Check.j0] at H
    by_cases c24 : x29_19 = true
    ·subst c24
     rw [if_pos rfl] at H
     have HC25:=zA H
     clear H
     go_upto_region 7 with (fail)
     go_cut [3] (fun v3 wc => ∃ (kq : Nat) (x3_24 : Bool),v3 = .bool x3_24 ∧ Aside0 (message_Check.j1 kq x3_24 a0_0 a0_1 a0_2 a0_3 l0_4 a0_5 a0_6 a0_7 a0_8 a0_9 a0_10 a0_11 a0_12 a0_13 a0_14 a0_15 a0_16 = some r) ∧ Aside0 (kq ≤ kj19) ∧ Aside0 (wc.heap[G134]? = some (.cells #[.int .i64 a0_0,.int .u64 a0_1,.int .u64 a0_2,.int .u64 a0_3,(.slice A0_4 l0_4.length c0_4),.int .i64 a0_5,.int .i64 a0_6,.int .i64 a0_7,.int .i64 a0_8,.int .i64 a0_9,.int .i64 a0_10,.int .u64 a0_11,.int .i64 a0_12,.string a0_13,.int .i64 a0_14,.int .i64 a0_15,.string a0_16] 78 (0,0))) ∧ Aside0 (Below w.heap.size w wc))
     case first =>
      have H:=HC25.out
      clear HC25
      by_cases c26 : a0_1 > 0
      ·rw [if_pos c26] at H
       have c26b0 : decide (0 < a0_1) = true:=decide_eq_true c26
       clear c26
       (first|rw [c26b0]|(simp only [i64_w,i32_w];rw [c26b0])|skip)
       by_cases c27 : a0_2 > 0
       ·rw [if_pos c27] at H
        have c27b0 : decide (0 < a0_2) = true:=decide_eq_true c27
        clear c27
        by_cases c28 : a0_3 > 0
        ·rw [if_pos c28] at H
         have c28b0 : decide (0 < a0_3) = true:=decide_eq_true c28
         clear c28
         replace H:=Option.bind_eq_some_iff.mp H
         obtain ⟨t136,A290,H⟩:=H
         (try dsimp only at H)
         have A29:=zA A290
         clear A290
         by_cases c30 : t136 = true
         ·subst c30
          rw [if_pos rfl] at H
          by_cases c31 : (l0_4.length : Int) ≤ 512
          ·rw [if_pos c31] at H
           have c31b0 : decide ((l0_4.length : Int) ≤ 512) = true:=decide_eq_true c31
           have c31b1 : decide (l0_4.length ≤ 512) = true:=decide_eq_true (by omega)
           clear c31
           by_cases c32 : a0_0 = 2
           ·rw [if_pos c32] at H
            have c32b0 : (a0_0 == 2) = true:=beq_iff_eq.mpr c32
            have c32b1 : (a0_0 != 2) = false:=bne_eq_false_iff_eq.mpr c32
            clear c32
            have H':=zA H
            clear H
            obtain ⟨hcz33_0,hcz33_1,hcz33_2,hcz33_3,hcz33_4,hcz33_5,hcz33_6,hcz33_7,hcz33_8,hcz33_9,hcz33_10,hcz33_11,hcz33_12,hcz33_13,hcz33_14,hcz33_15,hcz33_16,hfz33_0,hfz33_1,hfz33_2,hfz33_3,hfz33_4,hfz33_5,hfz33_6,hfz33_7,hfz33_8,hfz33_9,hfz33_10,hfz33_11,hfz33_12,hfz33_13,hfz33_14,hfz33_15,hfz33_16⟩:=zc17 K134
            go_wp2_with (first|(go_at_call 54;(with_reducible refine (message_none.calls a0_5 a0_6 a0_7 a0_8 a0_9 a0_10 a0_11 a0_12 a0_13 a0_14 a0_15 a0_16 true _ A29.out).mono ?_);rintro e w34 ⟨rfl,hb⟩;replace K134:=zB K134 hb;replace HB:=zS HB hb;(try clear hb);obtain ⟨hcz35_0,hcz35_1,hcz35_2,hcz35_3,hcz35_4,hcz35_5,hcz35_6,hcz35_7,hcz35_8,hcz35_9,hcz35_10,hcz35_11,hcz35_12,hcz35_13,hcz35_14,hcz35_15,hcz35_16,hfz35_0,hfz35_1,hfz35_2,hfz35_3,hfz35_4,hfz35_5,hfz35_6,hfz35_7,hfz35_8,hfz35_9,hfz35_10,hfz35_11,hfz35_12,hfz35_13,hfz35_14,hfz35_15,hfz35_16⟩:=zc17 K134))
            go_meet
            case rel => exact ⟨_,(true),ze,H',⟨by have:=HJ19.out;first|omega|exact Nat.le_refl _⟩,⟨z1 K134.1⟩,⟨zH HB⟩⟩
           ·rw [if_neg c32] at H
            have c32b0 : (a0_0 == 2) = false:=beq_eq_false_iff_ne.mpr c32
            have c32b1 : (a0_0 != 2) = true:=bne_iff_ne.mpr c32
            have H':=zA H
            clear H
            obtain ⟨hcz36_0,hcz36_1,hcz36_2,hcz36_3,hcz36_4,hcz36_5,hcz36_6,hcz36_7,hcz36_8,hcz36_9,hcz36_10,hcz36_11,hcz36_12,hcz36_13,hcz36_14,hcz36_15,hcz36_16,hfz36_0,hfz36_1,hfz36_2,hfz36_3,hfz36_4,hfz36_5,hfz36_6,hfz36_7,hfz36_8,hfz36_9,hfz36_10,hfz36_11,hfz36_12,hfz36_13,hfz36_14,hfz36_15,hfz36_16⟩:=zc17 K134
            go_wp2_with (first|(go_at_call 54;(with_reducible refine (message_none.calls a0_5 a0_6 a0_7 a0_8 a0_9 a0_10 a0_11 a0_12 a0_13 a0_14 a0_15 a0_16 true _ A29.out).mono ?_);rintro e w37 ⟨rfl,hb⟩;replace K134:=zB K134 hb;replace HB:=zS HB hb;(try clear hb);obtain ⟨hcz38_0,hcz38_1,hcz38_2,hcz38_3,hcz38_4,hcz38_5,hcz38_6,hcz38_7,hcz38_8,hcz38_9,hcz38_10,hcz38_11,hcz38_12,hcz38_13,hcz38_14,hcz38_15,hcz38_16,hfz38_0,hfz38_1,hfz38_2,hfz38_3,hfz38_4,hfz38_5,hfz38_6,hfz38_7,hfz38_8,hfz38_9,hfz38_10,hfz38_11,hfz38_12,hfz38_13,hfz38_14,hfz38_15,hfz38_16⟩:=zc17 K134))
            go_meet
            case rel => exact ⟨_,(((l0_4.length : Int) == 0)),ze,H',⟨by have:=HJ19.out;first|omega|exact Nat.le_refl _⟩,⟨z1 K134.1⟩,⟨zH HB⟩⟩
          ·rw [if_neg c31] at H
           have c31b0 : decide ((l0_4.length : Int) ≤ 512) = false:=decide_eq_false c31
           have c31b1 : decide (l0_4.length ≤ 512) = false:=decide_eq_false (by omega)
           clear c31
           have H':=zA H
           clear H
           obtain ⟨hcz39_0,hcz39_1,hcz39_2,hcz39_3,hcz39_4,hcz39_5,hcz39_6,hcz39_7,hcz39_8,hcz39_9,hcz39_10,hcz39_11,hcz39_12,hcz39_13,hcz39_14,hcz39_15,hcz39_16,hfz39_0,hfz39_1,hfz39_2,hfz39_3,hfz39_4,hfz39_5,hfz39_6,hfz39_7,hfz39_8,hfz39_9,hfz39_10,hfz39_11,hfz39_12,hfz39_13,hfz39_14,hfz39_15,hfz39_16⟩:=zc17 K134
           go_wp2_with (first|(go_at_call 54;(with_reducible refine (message_none.calls a0_5 a0_6 a0_7 a0_8 a0_9 a0_10 a0_11 a0_12 a0_13 a0_14 a0_15 a0_16 true _ A29.out).mono ?_);rintro e w40 ⟨rfl,hb⟩;replace K134:=zB K134 hb;replace HB:=zS HB hb;(try clear hb);obtain ⟨hcz41_0,hcz41_1,hcz41_2,hcz41_3,hcz41_4,hcz41_5,hcz41_6,hcz41_7,hcz41_8,hcz41_9,hcz41_10,hcz41_11,hcz41_12,hcz41_13,hcz41_14,hcz41_15,hcz41_16,hfz41_0,hfz41_1,hfz41_2,hfz41_3,hfz41_4,hfz41_5,hfz41_6,hfz41_7,hfz41_8,hfz41_9,hfz41_10,hfz41_11,hfz41_12,hfz41_13,hfz41_14,hfz41_15,hfz41_16⟩:=zc17 K134))
           go_meet
           case rel => exact ⟨_,(false),ze,H',⟨by have:=HJ19.out;first|omega|exact Nat.le_refl _⟩,⟨z1 K134.1⟩,⟨zH HB⟩⟩
         ·replace c30:=Bool.eq_false_iff.mpr c30
          subst c30
          rw [if_neg (show ¬ (false = true) by decide)] at H
          have H':=zA H
          clear H
          obtain ⟨hcz42_0,hcz42_1,hcz42_2,hcz42_3,hcz42_4,hcz42_5,hcz42_6,hcz42_7,hcz42_8,hcz42_9,hcz42_10,hcz42_11,hcz42_12,hcz42_13,hcz42_14,hcz42_15,hcz42_16,hfz42_0,hfz42_1,hfz42_2,hfz42_3,hfz42_4,hfz42_5,hfz42_6,hfz42_7,hfz42_8,hfz42_9,hfz42_10,hfz42_11,hfz42_12,hfz42_13,hfz42_14,hfz42_15,hfz42_16⟩:=zc17 K134
          go_wp2_with (first|(go_at_call 54;(with_reducible refine (message_none.calls a0_5 a0_6 a0_7 a0_8 a0_9 a0_10 a0_11 a0_12 a0_13 a0_14 a0_15 a0_16 false _ A29.out).mono ?_);rintro e w43 ⟨rfl,hb⟩;replace K134:=zB K134 hb;replace HB:=zS HB hb;(try clear hb)))
          go_meet
          case rel => exact ⟨_,(false),ze,H',⟨by have:=HJ19.out;first|omega|exact Nat.le_refl _⟩,⟨z1 K134.1⟩,⟨zH HB⟩⟩
        ·rw [if_neg c28] at H
         have c28b0 : decide (0 < a0_3) = false:=decide_eq_false c28
         clear c28
         have H':=zA H
         clear H
         obtain ⟨hcz44_0,hcz44_1,hcz44_2,hcz44_3,hcz44_4,hcz44_5,hcz44_6,hcz44_7,hcz44_8,hcz44_9,hcz44_10,hcz44_11,hcz44_12,hcz44_13,hcz44_14,hcz44_15,hcz44_16,hfz44_0,hfz44_1,hfz44_2,hfz44_3,hfz44_4,hfz44_5,hfz44_6,hfz44_7,hfz44_8,hfz44_9,hfz44_10,hfz44_11,hfz44_12,hfz44_13,hfz44_14,hfz44_15,hfz44_16⟩:=zc17 K134
         go_wp2
         go_meet
         case rel => exact ⟨_,(false),ze,H',⟨by have:=HJ19.out;first|omega|exact Nat.le_refl _⟩,⟨z1 K134.1⟩,⟨zH HB⟩⟩
       ·rw [if_neg c27] at H
        have c27b0 : decide (0 < a0_2) = false:=decide_eq_false c27
        clear c27
        have H':=zA H
        clear H
        obtain ⟨hcz45_0,hcz45_1,hcz45_2,hcz45_3,hcz45_4,hcz45_5,hcz45_6,hcz45_7,hcz45_8,hcz45_9,hcz45_10,hcz45_11,hcz45_12,hcz45_13,hcz45_14,hcz45_15,hcz45_16,hfz45_0,hfz45_1,hfz45_2,hfz45_3,hfz45_4,hfz45_5,hfz45_6,hfz45_7,hfz45_8,hfz45_9,hfz45_10,hfz45_11,hfz45_12,hfz45_13,hfz45_14,hfz45_15,hfz45_16⟩:=zc17 K134
        go_wp2
        go_meet
        case rel => exact ⟨_,(false),ze,H',⟨by have:=HJ19.out;first|omega|exact Nat.le_refl _⟩,⟨z1 K134.1⟩,⟨zH HB⟩⟩
      ·rw [if_neg c26] at H
       have c26b0 : decide (0 < a0_1) = false:=decide_eq_false c26
       clear c26
       (first|rw [c26b0]|(simp only [i64_w,i32_w];rw [c26b0])|skip)
       have H':=zA H
       clear H
       obtain ⟨hcz46_0,hcz46_1,hcz46_2,hcz46_3,hcz46_4,hcz46_5,hcz46_6,hcz46_7,hcz46_8,hcz46_9,hcz46_10,hcz46_11,hcz46_12,hcz46_13,hcz46_14,hcz46_15,hcz46_16,hfz46_0,hfz46_1,hfz46_2,hfz46_3,hfz46_4,hfz46_5,hfz46_6,hfz46_7,hfz46_8,hfz46_9,hfz46_10,hfz46_11,hfz46_12,hfz46_13,hfz46_14,hfz46_15,hfz46_16⟩:=zc17 K134
       go_wp2
       go_meet
       case rel => exact ⟨_,(false),ze,H',⟨by have:=HJ19.out;first|omega|exact Nat.le_refl _⟩,⟨z1 K134.1⟩,⟨zH HB⟩⟩
     case rest =>
      clear HC25
      try clear c2;try clear c2b0;try clear c2b1;try clear c24;try clear hcz22_0;try clear hcz22_1;try clear hcz22_10;try clear hcz22_11;try clear hcz22_12;try clear hcz22_13;try clear hcz22_14;try clear hcz22_15;try clear hcz22_16;try clear hcz22_2;try clear hcz22_3;try clear hcz22_4;try clear hcz22_5;try clear hcz22_6;try clear hcz22_7;try clear hcz22_8;try clear hcz22_9;try clear hfz22_0;try clear hfz22_1;try clear hfz22_10;try clear hfz22_11;try clear hfz22_12;try clear hfz22_13;try clear hfz22_14;try clear hfz22_15;try clear hfz22_16;try clear hfz22_2;try clear hfz22_3;try clear hfz22_4;try clear hfz22_5;try clear hfz22_6;try clear hfz22_7;try clear hfz22_8;try clear hfz22_9
      obtain ⟨kq,x3_24,rfl,HA,HJ24,K134,HB⟩:=hcut
      cases kq with
      | zero => exact absurd HA.out (by simp [message_Check.j1])
      | succ kj24 =>
       have H:=HA.out
       clear HA
       simp only [message_Check.j1] at H
       have H':=zA H
       clear H
       obtain ⟨hcz47_0,hcz47_1,hcz47_2,hcz47_3,hcz47_4,hcz47_5,hcz47_6,hcz47_7,hcz47_8,hcz47_9,hcz47_10,hcz47_11,hcz47_12,hcz47_13,hcz47_14,hcz47_15,hcz47_16,hfz47_0,hfz47_1,hfz47_2,hfz47_3,hfz47_4,hfz47_5,hfz47_6,hfz47_7,hfz47_8,hfz47_9,hfz47_10,hfz47_11,hfz47_12,hfz47_13,hfz47_14,hfz47_15,hfz47_16⟩:=zc17 K134
       go_wp2
       go_loopg [3,70] kj24 (fun kq v3 v70 w' => ∃ (x3_3 : Bool) (x70_3 : Int),v3 = .bool x3_3 ∧ v70 = .int .i64 x70_3 ∧ Aside0 (message_Check.l0 kq x3_3 l0_4 (l0_4.length : Int) x70_3 a0_0 a0_1 a0_2 a0_3 l0_4 a0_5 a0_6 a0_7 a0_8 a0_9 a0_10 a0_11 a0_12 a0_13 a0_14 a0_15 a0_16 = some r) ∧ Aside0 (kq ≤ kj24) ∧ Aside0 (w'.heap[G134]? = some (.cells #[.int .i64 a0_0,.int .u64 a0_1,.int .u64 a0_2,.int .u64 a0_3,(.slice A0_4 l0_4.length c0_4),.int .i64 a0_5,.int .i64 a0_6,.int .i64 a0_7,.int .i64 a0_8,.int .i64 a0_9,.int .i64 a0_10,.int .u64 a0_11,.int .i64 a0_12,.string a0_13,.int .i64 a0_14,.int .i64 a0_15,.string a0_16] 78 (0,0))) ∧ Aside0 (Below w.heap.size w w'))
       case atStart => exact ⟨(x3_24),(0),ze,ze,H',⟨Nat.le_refl _⟩,⟨z1 K134.1⟩,⟨zH HB⟩⟩
       case round =>
        clear H'
        try clear hcz22_0;try clear hcz22_1;try clear hcz22_10;try clear hcz22_11;try clear hcz22_12;try clear hcz22_13;try clear hcz22_14;try clear hcz22_15;try clear hcz22_16;try clear hcz22_2;try clear hcz22_3;try clear hcz22_4;try clear hcz22_5;try clear hcz22_6;try clear hcz22_7;try clear hcz22_8;try clear hcz22_9;try clear hcz47_0;try clear hcz47_1;try clear hcz47_10;try clear hcz47_11;try clear hcz47_12;try clear hcz47_13;try clear hcz47_14;try clear hcz47_15;try clear hcz47_16;try clear hcz47_2;try clear hcz47_3;try clear hcz47_4;try clear hcz47_5;try clear hcz47_6;try clear hcz47_7;try clear hcz47_8;try clear hcz47_9;try clear hfz22_0;try clear hfz22_1;try clear hfz22_10;try clear hfz22_11;try clear hfz22_12;try clear hfz22_13;try clear hfz22_14;try clear hfz22_15;try clear hfz22_16;try clear hfz22_2;try clear hfz22_3;try clear hfz22_4;try clear hfz22_5;try clear hfz22_6;try clear hfz22_7;try clear hfz22_8;try clear hfz22_9;try clear hfz47_0;try clear hfz47_1;try clear hfz47_10;try clear hfz47_11;try clear hfz47_12;try clear hfz47_13;try clear hfz47_14;try clear hfz47_15;try clear hfz47_16;try clear hfz47_2;try clear hfz47_3;try clear hfz47_4;try clear hfz47_5;try clear hfz47_6;try clear hfz47_7;try clear hfz47_8;try clear hfz47_9
        obtain ⟨x3_3,x70_3,rfl,rfl,HA,HK3,K134,HB⟩:=hrel
        cases gk with
        | zero => exact absurd HA.out (by simp [message_Check.l0])
        | succ k3 =>
         have H:=HA.out
         clear HA
         simp only [message_Check.l0] at H
         by_cases c48 : x70_3 < (l0_4.length : Int)
         ·rw [if_pos c48] at H
          have c48b0 : decide (x70_3 < (l0_4.length : Int)) = true:=decide_eq_true c48
          clear c48
          by_cases c49 : 0 ≤ x70_3
          ·rw [if_pos c49] at H
           have c49b0 : decide (0 ≤ x70_3) = true:=decide_eq_true c49
           clear c49
           by_cases c50 : x70_3 < (l0_4.length : Int)
           ·rw [if_pos c50] at H
            have c50b0 : decide (x70_3 < (l0_4.length : Int)) = true:=decide_eq_true c50
            clear c50
            by_cases c51 : x3_3 = true
            ·subst c51
             rw [if_pos rfl] at H
             replace H:=Option.bind_eq_some_iff.mp H
             obtain ⟨t139,A520,H⟩:=H
             (try dsimp only at H)
             have A52:=zA A520
             clear A520
             by_cases c53 : t139 = true
             ·subst c53
              rw [if_pos rfl] at H
              by_cases c54 : x70_3 = 0
              ·rw [if_pos c54] at H
               have c54b0 : (x70_3 == 0) = true:=beq_iff_eq.mpr c54
               have c54b1 : (x70_3 != 0) = false:=bne_eq_false_iff_eq.mpr c54
               clear c54
               have H':=zA H
               clear H
               have p137 : 0 ≤ (x70_3 : Int):=zd
               have q137 : x70_3 < (l0_4.length : Int):=zd
               obtain ⟨ad137,e137,hx137_0,hx137_1,hx137_2,hx137_3,hx137_4⟩:=at_T61 HR0_4.out x70_3 p137 q137
               cases e137
               replace hx137_0:=zh HB hx137_0
               replace hx137_1:=zh HB hx137_1
               replace hx137_2:=zh HB hx137_2
               replace hx137_3:=zh HB hx137_3
               replace hx137_4:=zh HB hx137_4
               replace p137:=eq_true p137
               replace q137:=eq_true q137
               try go_wp2_with (first|((with_reducible refine gate_dst (N:=5) rfl ?_);(try (refine gate_guard (by rfl) ?_;dsimp only));refine zb (N:=5) (cs:=#[.int .i64 0,.int .i64 0,.float .f64 0,.float .f64 0,.int .i64 0]) (t:=61) ?_;intro G138 hg w55 hbox hb;have K138:=zA (hbox);have GW138:=zN HB hg;have GE138:=zN HB hg;replace HB:=zS HB hb;have NB134_138:=zL K134 hg;have NB138_134:=zG K134 hg;replace K134:=zB K134 hb;clear hb hbox hg;have:=NB138_134.1;have:=NB134_138.1;obtain ⟨hcz57_0,hcz57_1,hcz57_2,hcz57_3,hcz57_4,hfz57_0,hfz57_1,hfz57_2,hfz57_3,hfz57_4⟩:=zc5 K138)|((with_reducible refine gate_store (t:=61) (p:=5) rfl ?_);refine store_event (t:=61) (p:=5) (v:=?vo_w58) (w1:=(((((w55.setCell ⟨G138,0,none⟩ (.int .i64 ((rd_T61 l0_4 x70_3).f0))).setCell ⟨G138,1,none⟩ (.int .i64 ((rd_T61 l0_4 x70_3).f1))).setCell ⟨G138,2,none⟩ (.float .f64 ((rd_T61 l0_4 x70_3).f2))).setCell ⟨G138,3,none⟩ (.float .f64 ((rd_T61 l0_4 x70_3).f3))).setCell ⟨G138,4,none⟩ (.int .i64 ((rd_T61 l0_4 x70_3).f4)))) ?hg ?ho ?hn ?hr ?_;(case ho => rfl);(case hg => rfl);(case hn => rfl);(case hr => first|(go_simp;done)|(go_simp;rfl));intro w58 hw;replace K134:=zV hw K134;replace K138:=zVp hw (.cells #[.int .i64 ((rd_T61 l0_4 x70_3).f0),.int .i64 ((rd_T61 l0_4 x70_3).f1),.float .f64 ((rd_T61 l0_4 x70_3).f2),.float .f64 ((rd_T61 l0_4 x70_3).f3),.int .i64 ((rd_T61 l0_4 x70_3).f4)] 61 (0,0)) K138;replace HB:=zU hw HB;clear hw))
               replace K134:=zA (bD K134.1)
               replace K138:=zA (bD K138.1)
               replace HB:=zA (bw1 HB.1)
               refine start_ (n:=20) (S:=fun w' => w'.cell? ⟨G138,0,none⟩ = some (.int .i64 ((rd_T61 l0_4 x70_3).f0)) ∧ w'.cell? ⟨G138,1,none⟩ = some (.int .i64 ((rd_T61 l0_4 x70_3).f1)) ∧ w'.cell? ⟨G138,2,none⟩ = some (.float .f64 ((rd_T61 l0_4 x70_3).f2)) ∧ w'.cell? ⟨G138,3,none⟩ = some (.float .f64 ((rd_T61 l0_4 x70_3).f3)) ∧ w'.cell? ⟨G138,4,none⟩ = some (.int .i64 ((rd_T61 l0_4 x70_3).f4))) (ds:=[]) #[F,F,F,F,F,F,F,F,F,F,F,F,F,F,F,F,F,F,F,F] (by kernel_rfl) rfl rfl ⟨zk K138 0,zk K138 1,zk K138 2,zk K138 3,zk K138 4⟩ (fun hHeld => ?_);refine with_tabW message_Check.tab11 message_Check.bits11 (fun HT_ HW_ => ?_)
               generalize w58.drew = w59 at K134 K138 HB hHeld ⊢
               refine pz 0 75 #[T,F,F,F,F,F,F,F,F,F,F,F,F,F,F,F,F,F,F,F] HT_.1 ?_
               refine pz 1 76 #[T,T,F,F,F,F,F,F,F,F,F,F,F,F,F,F,F,F,F,F] HT_.1 ?_
               refine tz 2 77 #[T,T,T,F,F,F,F,F,F,F,F,F,F,F,F,F,F,F,F,F] HT_.1 HW_.1 hHeld ?_
               refine one_ (i:=3) (N:=some 78) #[T,T,T,T,F,F,F,F,F,F,F,F,F,F,F,F,F,F,F,F] rfl rfl (one_of HT_.out (by kernel_rfl)) (by decide) (fun K hK => ?_)
               refine zo_ Try.func55 #[.agg #[.int .i64 ((rd_T61 l0_4 x70_3).f0),.int .i64 ((rd_T61 l0_4 x70_3).f1),.float .f64 ((rd_T61 l0_4 x70_3).f2),.float .f64 ((rd_T61 l0_4 x70_3).f3),.int .i64 ((rd_T61 l0_4 x70_3).f4)]] ?_
               with_reducible refine (message_news.calls k3 ((rd_T61 l0_4 x70_3).f0) ((rd_T61 l0_4 x70_3).f1) ((rd_T61 l0_4 x70_3).f2) ((rd_T61 l0_4 x70_3).f3) ((rd_T61 l0_4 x70_3).f4) true _ A52.out).mono ?_
               rintro e w60 ⟨rfl,hb⟩
               refine ⟨_,rfl,?_⟩
               replace K134:=zB K134 hb
               replace K138:=zB K138 hb
               replace HB:=zS HB hb
               (try clear hb)
               (try clear hb2)
               (try clear hk)
               (try clear hi)
               refine hK.out _ _ ⟨zk K138 0,zk K138 1,zk K138 2,zk K138 3,zk K138 4⟩ (fun hHeld => ?_)
               clear hK K
               refine nz 78 ?_
               refine pz 4 79 #[T,T,T,T,T,F,F,F,F,F,F,F,F,F,F,F,F,F,F,F] HT_.1 ?_
               refine pz 5 80 #[T,T,T,T,T,T,F,F,F,F,F,F,F,F,F,F,F,F,F,F] HT_.1 ?_
               refine pz 6 81 #[T,T,T,T,T,T,T,F,F,F,F,F,F,F,F,F,F,F,F,F] HT_.1 ?_
               refine pz 7 82 #[T,T,T,T,T,T,T,T,F,F,F,F,F,F,F,F,F,F,F,F] HT_.1 ?_
               refine pz 8 83 #[T,T,T,T,T,T,T,T,T,F,F,F,F,F,F,F,F,F,F,F] HT_.1 ?_
               refine pu 9 84 #[T,T,T,T,T,T,T,T,T,T,F,F,F,F,F,F,F,F,F,F] HT_.1 ?_
               refine pu 10 85 #[T,T,T,T,T,T,T,T,T,T,T,F,F,F,F,F,F,F,F,F] HT_.1 ?_
               refine pu 11 86 #[T,T,T,T,T,T,T,T,T,T,T,T,F,F,F,F,F,F,F,F] HT_.1 ?_
               refine pu 12 87 #[T,T,T,T,T,T,T,T,T,T,T,T,T,F,F,F,F,F,F,F] HT_.1 ?_
               refine pu 13 88 #[T,T,T,T,T,T,T,T,T,T,T,T,T,T,F,F,F,F,F,F] HT_.1 ?_
               refine pu 14 89 #[T,T,T,T,T,T,T,T,T,T,T,T,T,T,T,F,F,F,F,F] HT_.1 ?_
               refine pu 15 90 #[T,T,T,T,T,T,T,T,T,T,T,T,T,T,T,T,F,F,F,F] HT_.1 ?_
               refine pu 16 91 #[T,T,T,T,T,T,T,T,T,T,T,T,T,T,T,T,T,F,F,F] HT_.1 ?_
               refine pz 17 92 #[T,T,T,T,T,T,T,T,T,T,T,T,T,T,T,T,T,T,F,F] HT_.1 ?_
               refine pz 18 93 #[T,T,T,T,T,T,T,T,T,T,T,T,T,T,T,T,T,T,T,F] HT_.1 ?_
               refine pz 19 3 #[T,T,T,T,T,T,T,T,T,T,T,T,T,T,T,T,T,T,T,T] HT_.1 ?_
               refine done_ (done_of HT_.out (by kernel_rfl)) ?_
               try go_wp2
               go_roundg k3
               case measure => have:=HJ19.out;have:=HJ24.out;have:=HK3.out;omega
               case rel => exact ⟨(true),(wrap64 (x70_3 + 1)),ze,ze,H',⟨by have:=HJ19.out;have:=HJ24.out;have:=HK3.out;omega⟩,⟨z1 K134.1⟩,⟨zH HB⟩⟩
              ·rw [if_neg c54] at H
               have c54b0 : (x70_3 == 0) = false:=beq_eq_false_iff_ne.mpr c54
               have c54b1 : (x70_3 != 0) = true:=bne_iff_ne.mpr c54
               obtain ⟨ji61,hji61⟩ : ∃ j_ : Int,(wrap64 (x70_3 - 1)) = j_:=⟨_,rfl⟩
               replace H : (if 0 ≤ (ji61) then (if (ji61) < (l0_4.length : Int) then ((message_ahead.f ((rd_T61 l0_4 (ji61)).f0) ((rd_T61 l0_4 (ji61)).f1) ((rd_T61 l0_4 (ji61)).f2) ((rd_T61 l0_4 (ji61)).f3) ((rd_T61 l0_4 (ji61)).f4) ((rd_T61 l0_4 x70_3).f0) ((rd_T61 l0_4 x70_3).f1) ((rd_T61 l0_4 x70_3).f2) ((rd_T61 l0_4 x70_3).f3) ((rd_T61 l0_4 x70_3).f4)).bind fun t141 => (message_Check.l0 k3 t141 l0_4 (l0_4.length : Int) (wrap64 (x70_3 + 1)) a0_0 a0_1 a0_2 a0_3 l0_4 a0_5 a0_6 a0_7 a0_8 a0_9 a0_10 a0_11 a0_12 a0_13 a0_14 a0_15 a0_16)) else (none)) else (none)) = some r:=by first|(rw [hji61] at H;exact H)|(simp only [hji61] at H ⊢;exact H)
               (try rw [hji61] at A52)
               have hji61w : (IntKind.i64.wrap (x70_3 - 1)) = ji61:=(i64_w _).trans hji61
               by_cases c62 : 0 ≤ (ji61)
               ·rw [if_pos c62] at H
                have c62b0 : decide (0 ≤ (ji61)) = true:=decide_eq_true c62
                clear c62
                by_cases c63 : (ji61) < (l0_4.length : Int)
                ·rw [if_pos c63] at H
                 have c63b0 : decide ((ji61) < (l0_4.length : Int)) = true:=decide_eq_true c63
                 clear c63
                 replace H:=Option.bind_eq_some_iff.mp H
                 obtain ⟨t141,A640,H⟩:=H
                 (try dsimp only at H)
                 have A64:=zA A640
                 clear A640
                 have H':=zA H
                 clear H
                 have p137 : 0 ≤ (x70_3 : Int):=zd
                 have q137 : x70_3 < (l0_4.length : Int):=zd
                 obtain ⟨ad137,e137,hx137_0,hx137_1,hx137_2,hx137_3,hx137_4⟩:=at_T61 HR0_4.out x70_3 p137 q137
                 cases e137
                 replace hx137_0:=zh HB hx137_0
                 replace hx137_1:=zh HB hx137_1
                 replace hx137_2:=zh HB hx137_2
                 replace hx137_3:=zh HB hx137_3
                 replace hx137_4:=zh HB hx137_4
                 replace p137:=eq_true p137
                 replace q137:=eq_true q137
                 try go_wp2_with (first|((with_reducible refine gate_dst (N:=5) rfl ?_);(try (refine gate_guard (by rfl) ?_;dsimp only));refine zb (N:=5) (cs:=#[.int .i64 0,.int .i64 0,.float .f64 0,.float .f64 0,.int .i64 0]) (t:=61) ?_;intro G138 hg w65 hbox hb;have K138:=zA (hbox);have GW138:=zN HB hg;have GE138:=zN HB hg;replace HB:=zS HB hb;have NB134_138:=zL K134 hg;have NB138_134:=zG K134 hg;replace K134:=zB K134 hb;clear hb hbox hg;have:=NB138_134.1;have:=NB134_138.1;obtain ⟨hcz67_0,hcz67_1,hcz67_2,hcz67_3,hcz67_4,hfz67_0,hfz67_1,hfz67_2,hfz67_3,hfz67_4⟩:=zc5 K138)|((with_reducible refine gate_store (t:=61) (p:=5) rfl ?_);refine store_event (t:=61) (p:=5) (v:=?vo_w68) (w1:=(((((w65.setCell ⟨G138,0,none⟩ (.int .i64 ((rd_T61 l0_4 x70_3).f0))).setCell ⟨G138,1,none⟩ (.int .i64 ((rd_T61 l0_4 x70_3).f1))).setCell ⟨G138,2,none⟩ (.float .f64 ((rd_T61 l0_4 x70_3).f2))).setCell ⟨G138,3,none⟩ (.float .f64 ((rd_T61 l0_4 x70_3).f3))).setCell ⟨G138,4,none⟩ (.int .i64 ((rd_T61 l0_4 x70_3).f4)))) ?hg ?ho ?hn ?hr ?_;(case ho => rfl);(case hg => rfl);(case hn => rfl);(case hr => first|(go_simp;done)|(go_simp;rfl));intro w68 hw;replace K134:=zV hw K134;replace K138:=zVp hw (.cells #[.int .i64 ((rd_T61 l0_4 x70_3).f0),.int .i64 ((rd_T61 l0_4 x70_3).f1),.float .f64 ((rd_T61 l0_4 x70_3).f2),.float .f64 ((rd_T61 l0_4 x70_3).f3),.int .i64 ((rd_T61 l0_4 x70_3).f4)] 61 (0,0)) K138;replace HB:=zU hw HB;clear hw))
                 replace K134:=zA (bD K134.1)
                 replace K138:=zA (bD K138.1)
                 replace HB:=zA (bw1 HB.1)
                 have p140 : 0 ≤ ((ji61) : Int):=zd
                 have q140 : (ji61) < (l0_4.length : Int):=zd
                 obtain ⟨ad140,e140,hx140_0,hx140_1,hx140_2,hx140_3,hx140_4⟩:=at_T61 HR0_4.out (ji61) p140 q140
                 have hw140_4:=hx140_4
                 have hw140_3:=hx140_3
                 have hw140_2:=hx140_2
                 have hw140_1:=hx140_1
                 have hw140_0:=hx140_0
                 obtain rfl : ad137 = ad140:=(by injection e140)
                 replace hx140_0:=zh HB hx140_0
                 replace hx140_1:=zh HB hx140_1
                 replace hx140_2:=zh HB hx140_2
                 replace hx140_3:=zh HB hx140_3
                 replace hx140_4:=zh HB hx140_4
                 replace p140:=eq_true p140
                 replace q140:=eq_true q140
                 refine start_ (n:=20) (S:=fun w' => w'.cell? ⟨G138,0,none⟩ = some (.int .i64 ((rd_T61 l0_4 x70_3).f0)) ∧ w'.cell? ⟨G138,1,none⟩ = some (.int .i64 ((rd_T61 l0_4 x70_3).f1)) ∧ w'.cell? ⟨G138,2,none⟩ = some (.float .f64 ((rd_T61 l0_4 x70_3).f2)) ∧ w'.cell? ⟨G138,3,none⟩ = some (.float .f64 ((rd_T61 l0_4 x70_3).f3)) ∧ w'.cell? ⟨G138,4,none⟩ = some (.int .i64 ((rd_T61 l0_4 x70_3).f4)) ∧ w'.cell? ⟨G134,0,none⟩ = some (.int .i64 a0_0) ∧ w'.cell? ⟨G134,1,none⟩ = some (.int .u64 a0_1) ∧ w'.cell? ⟨G134,2,none⟩ = some (.int .u64 a0_2) ∧ w'.cell? ⟨G134,3,none⟩ = some (.int .u64 a0_3) ∧ w'.cell? ⟨G134,4,none⟩ = some (.slice (some ad137) l0_4.length c0_4) ∧ w'.cell? ⟨G134,5,none⟩ = some (.int .i64 a0_5) ∧ w'.cell? ⟨G134,6,none⟩ = some (.int .i64 a0_6) ∧ w'.cell? ⟨G134,7,none⟩ = some (.int .i64 a0_7) ∧ w'.cell? ⟨G134,8,none⟩ = some (.int .i64 a0_8) ∧ w'.cell? ⟨G134,9,none⟩ = some (.int .i64 a0_9) ∧ w'.cell? ⟨G134,10,none⟩ = some (.int .i64 a0_10) ∧ w'.cell? ⟨G134,11,none⟩ = some (.int .u64 a0_11) ∧ w'.cell? ⟨G134,12,none⟩ = some (.int .i64 a0_12) ∧ w'.cell? ⟨G134,13,none⟩ = some (.string a0_13) ∧ w'.cell? ⟨G134,14,none⟩ = some (.int .i64 a0_14) ∧ w'.cell? ⟨G134,15,none⟩ = some (.int .i64 a0_15) ∧ w'.cell? ⟨G134,16,none⟩ = some (.string a0_16) ∧ w'.cell? (ad137.add (((ji61)).toNat * 5)) = some (.int .i64 ((rd_T61 l0_4 (ji61)).f0)) ∧ w'.cell? ⟨(ad137.add (((ji61)).toNat * 5)).block,(ad137.add (((ji61)).toNat * 5)).off + 1,none⟩ = some (.int .i64 ((rd_T61 l0_4 (ji61)).f1)) ∧ w'.cell? ⟨(ad137.add (((ji61)).toNat * 5)).block,(ad137.add (((ji61)).toNat * 5)).off + 2,none⟩ = some (.float .f64 ((rd_T61 l0_4 (ji61)).f2)) ∧ w'.cell? ⟨(ad137.add (((ji61)).toNat * 5)).block,(ad137.add (((ji61)).toNat * 5)).off + 3,none⟩ = some (.float .f64 ((rd_T61 l0_4 (ji61)).f3)) ∧ w'.cell? ⟨(ad137.add (((ji61)).toNat * 5)).block,(ad137.add (((ji61)).toNat * 5)).off + 4,none⟩ = some (.int .i64 ((rd_T61 l0_4 (ji61)).f4))) (ds:=[]) #[F,F,F,F,F,F,F,F,F,F,F,F,F,F,F,F,F,F,F,F] (by kernel_rfl) rfl rfl ⟨zk K138 0,zk K138 1,zk K138 2,zk K138 3,zk K138 4,zk K134 0,zk K134 1,zk K134 2,zk K134 3,zk K134 4,zk K134 5,zk K134 6,zk K134 7,zk K134 8,zk K134 9,zk K134 10,zk K134 11,zk K134 12,zk K134 13,zk K134 14,zk K134 15,zk K134 16,(zh HB hw140_0),(zh HB hw140_1),(zh HB hw140_2),(zh HB hw140_3),(zh HB hw140_4)⟩ (fun hHeld => ?_);refine with_tabW message_Check.tab11 message_Check.bits11 (fun HT_ HW_ => ?_)
                 generalize w68.drew = w69 at K134 K138 HB hx140_0 hx140_1 hx140_2 hx140_3 hx140_4 hHeld ⊢
                 refine pz 0 75 #[T,F,F,F,F,F,F,F,F,F,F,F,F,F,F,F,F,F,F,F] HT_.1 ?_
                 refine pz 1 76 #[T,T,F,F,F,F,F,F,F,F,F,F,F,F,F,F,F,F,F,F] HT_.1 ?_
                 refine tz 2 77 #[T,T,T,F,F,F,F,F,F,F,F,F,F,F,F,F,F,F,F,F] HT_.1 HW_.1 hHeld ?_
                 refine one_ (i:=3) (N:=some 78) #[T,T,T,T,F,F,F,F,F,F,F,F,F,F,F,F,F,F,F,F] rfl rfl (one_of HT_.out (by kernel_rfl)) (by decide) (fun K hK => ?_)
                 refine zo_ Try.func55 #[.agg #[.int .i64 ((rd_T61 l0_4 x70_3).f0),.int .i64 ((rd_T61 l0_4 x70_3).f1),.float .f64 ((rd_T61 l0_4 x70_3).f2),.float .f64 ((rd_T61 l0_4 x70_3).f3),.int .i64 ((rd_T61 l0_4 x70_3).f4)]] ?_
                 with_reducible refine (message_news.calls k3 ((rd_T61 l0_4 x70_3).f0) ((rd_T61 l0_4 x70_3).f1) ((rd_T61 l0_4 x70_3).f2) ((rd_T61 l0_4 x70_3).f3) ((rd_T61 l0_4 x70_3).f4) true _ A52.out).mono ?_
                 rintro e w70 ⟨rfl,hb⟩
                 refine ⟨_,rfl,?_⟩
                 replace K134:=zB K134 hb
                 replace K138:=zB K138 hb
                 replace HB:=zS HB hb
                 (try clear hb)
                 (try clear hb2)
                 (try clear hk)
                 (try clear hi)
                 refine hK.out _ _ ⟨zk K138 0,zk K138 1,zk K138 2,zk K138 3,zk K138 4,zk K134 0,zk K134 1,zk K134 2,zk K134 3,zk K134 4,zk K134 5,zk K134 6,zk K134 7,zk K134 8,zk K134 9,zk K134 10,zk K134 11,zk K134 12,zk K134 13,zk K134 14,zk K134 15,zk K134 16,(zh HB hw140_0),(zh HB hw140_1),(zh HB hw140_2),(zh HB hw140_3),(zh HB hw140_4)⟩ (fun hHeld => ?_)
                 clear hK K
                 refine nz 78 ?_
                 refine pz 4 79 #[T,T,T,T,T,F,F,F,F,F,F,F,F,F,F,F,F,F,F,F] HT_.1 ?_
                 refine pz 5 80 #[T,T,T,T,T,T,F,F,F,F,F,F,F,F,F,F,F,F,F,F] HT_.1 ?_
                 refine pz 6 81 #[T,T,T,T,T,T,T,F,F,F,F,F,F,F,F,F,F,F,F,F] HT_.1 ?_
                 refine pz 7 82 #[T,T,T,T,T,T,T,T,F,F,F,F,F,F,F,F,F,F,F,F] HT_.1 ?_
                 refine pz 8 83 #[T,T,T,T,T,T,T,T,T,F,F,F,F,F,F,F,F,F,F,F] HT_.1 ?_
                 refine pz 9 84 #[T,T,T,T,T,T,T,T,T,T,F,F,F,F,F,F,F,F,F,F] HT_.1 ?_
                 refine pz 11 86 #[T,T,T,T,T,T,T,T,T,T,F,T,F,F,F,F,F,F,F,F] HT_.1 ?_
                 refine pz 12 87 #[T,T,T,T,T,T,T,T,T,T,F,T,T,F,F,F,F,F,F,F] HT_.1 ?_
                 refine tz 10 85 #[T,T,T,T,T,T,T,T,T,T,T,T,T,F,F,F,F,F,F,F] HT_.1 HW_.1 hHeld ?_
                 refine pz 13 88 #[T,T,T,T,T,T,T,T,T,T,T,T,T,T,F,F,F,F,F,F] HT_.1 ?_
                 refine tz 14 89 #[T,T,T,T,T,T,T,T,T,T,T,T,T,T,T,F,F,F,F,F] HT_.1 HW_.1 hHeld ?_
                 refine tz 15 90 #[T,T,T,T,T,T,T,T,T,T,T,T,T,T,T,T,F,F,F,F] HT_.1 HW_.1 hHeld ?_
                 refine one_ (i:=16) (N:=some 91) #[T,T,T,T,T,T,T,T,T,T,T,T,T,T,T,T,T,F,F,F] rfl rfl (one_of HT_.out (by kernel_rfl)) (by decide) (fun K hK => ?_)
                 refine goes_ Try.func56 (by kernel_rfl) rfl #[.agg #[.int .i64 ((rd_T61 l0_4 (ji61)).f0),.int .i64 ((rd_T61 l0_4 (ji61)).f1),.float .f64 ((rd_T61 l0_4 (ji61)).f2),.float .f64 ((rd_T61 l0_4 (ji61)).f3),.int .i64 ((rd_T61 l0_4 (ji61)).f4)],.agg #[.int .i64 ((rd_T61 l0_4 x70_3).f0),.int .i64 ((rd_T61 l0_4 x70_3).f1),.float .f64 ((rd_T61 l0_4 x70_3).f2),.float .f64 ((rd_T61 l0_4 x70_3).f3),.int .i64 ((rd_T61 l0_4 x70_3).f4)]] (by rfl) rfl rfl (by (try simp only [List.map_toArray,List.map_cons,List.map_nil]);first|done|(simp only [hji61];rfl)|rfl|(simp only [List.length_drop,List.length_take];rfl)) ?_
                 with_reducible refine (message_ahead.calls ((rd_T61 l0_4 (ji61)).f0) ((rd_T61 l0_4 (ji61)).f1) ((rd_T61 l0_4 (ji61)).f2) ((rd_T61 l0_4 (ji61)).f3) ((rd_T61 l0_4 (ji61)).f4) ((rd_T61 l0_4 x70_3).f0) ((rd_T61 l0_4 x70_3).f1) ((rd_T61 l0_4 x70_3).f2) ((rd_T61 l0_4 x70_3).f3) ((rd_T61 l0_4 x70_3).f4) t141 _ A64.out).mono ?_
                 rintro e w71 ⟨rfl,hb⟩
                 refine ⟨_,rfl,?_⟩
                 replace K134:=zB K134 hb
                 replace K138:=zB K138 hb
                 replace HB:=zS HB hb
                 (try clear hb)
                 (try clear hb2)
                 (try clear hk)
                 (try clear hi)
                 refine hK.out _ _ ⟨zk K138 0,zk K138 1,zk K138 2,zk K138 3,zk K138 4,zk K134 0,zk K134 1,zk K134 2,zk K134 3,zk K134 4,zk K134 5,zk K134 6,zk K134 7,zk K134 8,zk K134 9,zk K134 10,zk K134 11,zk K134 12,zk K134 13,zk K134 14,zk K134 15,zk K134 16,(zh HB hw140_0),(zh HB hw140_1),(zh HB hw140_2),(zh HB hw140_3),(zh HB hw140_4)⟩ (fun hHeld => ?_)
                 clear hK K
                 refine nz 91 ?_
                 refine pz 17 92 #[T,T,T,T,T,T,T,T,T,T,T,T,T,T,T,T,T,T,F,F] HT_.1 ?_
                 refine pz 18 93 #[T,T,T,T,T,T,T,T,T,T,T,T,T,T,T,T,T,T,T,F] HT_.1 ?_
                 refine pz 19 3 #[T,T,T,T,T,T,T,T,T,T,T,T,T,T,T,T,T,T,T,T] HT_.1 ?_
                 refine done_ (done_of HT_.out (by kernel_rfl)) ?_
                 try go_wp2
                 go_roundg k3
                 case measure => have:=HJ19.out;have:=HJ24.out;have:=HK3.out;omega
                 case rel => exact ⟨(t141),(wrap64 (x70_3 + 1)),ze,ze,H',⟨by have:=HJ19.out;have:=HJ24.out;have:=HK3.out;omega⟩,⟨z1 K134.1⟩,⟨zH HB⟩⟩
                ·rw [if_neg c63] at H
                 exact absurd H (by simp)
               ·rw [if_neg c62] at H
                exact absurd H (by simp)
             ·replace c53:=Bool.eq_false_iff.mpr c53
              subst c53
              rw [if_neg (show ¬ (false = true) by decide)] at H
              have H':=zA H
              clear H
              have p137 : 0 ≤ (x70_3 : Int):=zd
              have q137 : x70_3 < (l0_4.length : Int):=zd
              obtain ⟨ad137,e137,hx137_0,hx137_1,hx137_2,hx137_3,hx137_4⟩:=at_T61 HR0_4.out x70_3 p137 q137
              cases e137
              replace hx137_0:=zh HB hx137_0
              replace hx137_1:=zh HB hx137_1
              replace hx137_2:=zh HB hx137_2
              replace hx137_3:=zh HB hx137_3
              replace hx137_4:=zh HB hx137_4
              replace p137:=eq_true p137
              replace q137:=eq_true q137
              try go_wp2_with (first|((with_reducible refine gate_dst (N:=5) rfl ?_);(try (refine gate_guard (by rfl) ?_;dsimp only));refine zb (N:=5) (cs:=#[.int .i64 0,.int .i64 0,.float .f64 0,.float .f64 0,.int .i64 0]) (t:=61) ?_;intro G138 hg w72 hbox hb;have K138:=zA (hbox);have GW138:=zN HB hg;have GE138:=zN HB hg;replace HB:=zS HB hb;have NB134_138:=zL K134 hg;have NB138_134:=zG K134 hg;replace K134:=zB K134 hb;clear hb hbox hg;have:=NB138_134.1;have:=NB134_138.1;obtain ⟨hcz74_0,hcz74_1,hcz74_2,hcz74_3,hcz74_4,hfz74_0,hfz74_1,hfz74_2,hfz74_3,hfz74_4⟩:=zc5 K138)|((with_reducible refine gate_store (t:=61) (p:=5) rfl ?_);refine store_event (t:=61) (p:=5) (v:=?vo_w75) (w1:=(((((w72.setCell ⟨G138,0,none⟩ (.int .i64 ((rd_T61 l0_4 x70_3).f0))).setCell ⟨G138,1,none⟩ (.int .i64 ((rd_T61 l0_4 x70_3).f1))).setCell ⟨G138,2,none⟩ (.float .f64 ((rd_T61 l0_4 x70_3).f2))).setCell ⟨G138,3,none⟩ (.float .f64 ((rd_T61 l0_4 x70_3).f3))).setCell ⟨G138,4,none⟩ (.int .i64 ((rd_T61 l0_4 x70_3).f4)))) ?hg ?ho ?hn ?hr ?_;(case ho => rfl);(case hg => rfl);(case hn => rfl);(case hr => first|(go_simp;done)|(go_simp;rfl));intro w75 hw;replace K134:=zV hw K134;replace K138:=zVp hw (.cells #[.int .i64 ((rd_T61 l0_4 x70_3).f0),.int .i64 ((rd_T61 l0_4 x70_3).f1),.float .f64 ((rd_T61 l0_4 x70_3).f2),.float .f64 ((rd_T61 l0_4 x70_3).f3),.int .i64 ((rd_T61 l0_4 x70_3).f4)] 61 (0,0)) K138;replace HB:=zU hw HB;clear hw))
              replace K134:=zA (bD K134.1)
              replace K138:=zA (bD K138.1)
              replace HB:=zA (bw1 HB.1)
              refine start_ (n:=20) (S:=fun w' => w'.cell? ⟨G138,0,none⟩ = some (.int .i64 ((rd_T61 l0_4 x70_3).f0)) ∧ w'.cell? ⟨G138,1,none⟩ = some (.int .i64 ((rd_T61 l0_4 x70_3).f1)) ∧ w'.cell? ⟨G138,2,none⟩ = some (.float .f64 ((rd_T61 l0_4 x70_3).f2)) ∧ w'.cell? ⟨G138,3,none⟩ = some (.float .f64 ((rd_T61 l0_4 x70_3).f3)) ∧ w'.cell? ⟨G138,4,none⟩ = some (.int .i64 ((rd_T61 l0_4 x70_3).f4))) (ds:=[]) #[F,F,F,F,F,F,F,F,F,F,F,F,F,F,F,F,F,F,F,F] (by kernel_rfl) rfl rfl ⟨zk K138 0,zk K138 1,zk K138 2,zk K138 3,zk K138 4⟩ (fun hHeld => ?_);refine with_tabW message_Check.tab11 message_Check.bits11 (fun HT_ HW_ => ?_)
              generalize w75.drew = w76 at K134 K138 HB hHeld ⊢
              refine pz 0 75 #[T,F,F,F,F,F,F,F,F,F,F,F,F,F,F,F,F,F,F,F] HT_.1 ?_
              refine pz 1 76 #[T,T,F,F,F,F,F,F,F,F,F,F,F,F,F,F,F,F,F,F] HT_.1 ?_
              refine tz 2 77 #[T,T,T,F,F,F,F,F,F,F,F,F,F,F,F,F,F,F,F,F] HT_.1 HW_.1 hHeld ?_
              refine one_ (i:=3) (N:=some 78) #[T,T,T,T,F,F,F,F,F,F,F,F,F,F,F,F,F,F,F,F] rfl rfl (one_of HT_.out (by kernel_rfl)) (by decide) (fun K hK => ?_)
              refine zo_ Try.func55 #[.agg #[.int .i64 ((rd_T61 l0_4 x70_3).f0),.int .i64 ((rd_T61 l0_4 x70_3).f1),.float .f64 ((rd_T61 l0_4 x70_3).f2),.float .f64 ((rd_T61 l0_4 x70_3).f3),.int .i64 ((rd_T61 l0_4 x70_3).f4)]] ?_
              with_reducible refine (message_news.calls k3 ((rd_T61 l0_4 x70_3).f0) ((rd_T61 l0_4 x70_3).f1) ((rd_T61 l0_4 x70_3).f2) ((rd_T61 l0_4 x70_3).f3) ((rd_T61 l0_4 x70_3).f4) false _ A52.out).mono ?_
              rintro e w77 ⟨rfl,hb⟩
              refine ⟨_,rfl,?_⟩
              replace K134:=zB K134 hb
              replace K138:=zB K138 hb
              replace HB:=zS HB hb
              (try clear hb)
              (try clear hb2)
              (try clear hk)
              (try clear hi)
              refine hK.out _ _ ⟨zk K138 0,zk K138 1,zk K138 2,zk K138 3,zk K138 4⟩ (fun hHeld => ?_)
              clear hK K
              refine nz 78 ?_
              refine pz 4 79 #[T,T,T,T,T,F,F,F,F,F,F,F,F,F,F,F,F,F,F,F] HT_.1 ?_
              refine pz 5 80 #[T,T,T,T,T,T,F,F,F,F,F,F,F,F,F,F,F,F,F,F] HT_.1 ?_
              refine pu 6 81 #[T,T,T,T,T,T,T,F,F,F,F,F,F,F,F,F,F,F,F,F] HT_.1 ?_
              refine pu 7 82 #[T,T,T,T,T,T,T,T,F,F,F,F,F,F,F,F,F,F,F,F] HT_.1 ?_
              refine pu 8 83 #[T,T,T,T,T,T,T,T,T,F,F,F,F,F,F,F,F,F,F,F] HT_.1 ?_
              refine pu 9 84 #[T,T,T,T,T,T,T,T,T,T,F,F,F,F,F,F,F,F,F,F] HT_.1 ?_
              refine pu 10 85 #[T,T,T,T,T,T,T,T,T,T,T,F,F,F,F,F,F,F,F,F] HT_.1 ?_
              refine pu 11 86 #[T,T,T,T,T,T,T,T,T,T,T,T,F,F,F,F,F,F,F,F] HT_.1 ?_
              refine pu 12 87 #[T,T,T,T,T,T,T,T,T,T,T,T,T,F,F,F,F,F,F,F] HT_.1 ?_
              refine pu 13 88 #[T,T,T,T,T,T,T,T,T,T,T,T,T,T,F,F,F,F,F,F] HT_.1 ?_
              refine pu 14 89 #[T,T,T,T,T,T,T,T,T,T,T,T,T,T,T,F,F,F,F,F] HT_.1 ?_
              refine pu 15 90 #[T,T,T,T,T,T,T,T,T,T,T,T,T,T,T,T,F,F,F,F] HT_.1 ?_
              refine pu 16 91 #[T,T,T,T,T,T,T,T,T,T,T,T,T,T,T,T,T,F,F,F] HT_.1 ?_
              refine pu 17 92 #[T,T,T,T,T,T,T,T,T,T,T,T,T,T,T,T,T,T,F,F] HT_.1 ?_
              refine pz 18 93 #[T,T,T,T,T,T,T,T,T,T,T,T,T,T,T,T,T,T,T,F] HT_.1 ?_
              refine pz 19 3 #[T,T,T,T,T,T,T,T,T,T,T,T,T,T,T,T,T,T,T,T] HT_.1 ?_
              refine done_ (done_of HT_.out (by kernel_rfl)) ?_
              try go_wp2
              go_roundg k3
              case measure => have:=HJ19.out;have:=HJ24.out;have:=HK3.out;omega
              case rel => exact ⟨(false),(wrap64 (x70_3 + 1)),ze,ze,H',⟨by have:=HJ19.out;have:=HJ24.out;have:=HK3.out;omega⟩,⟨z1 K134.1⟩,⟨zH HB⟩⟩
            ·replace c51:=Bool.eq_false_iff.mpr c51
             subst c51
             rw [if_neg (show ¬ (false = true) by decide)] at H
             have H':=zA H
             clear H
             have p137 : 0 ≤ (x70_3 : Int):=zd
             have q137 : x70_3 < (l0_4.length : Int):=zd
             obtain ⟨ad137,e137,hx137_0,hx137_1,hx137_2,hx137_3,hx137_4⟩:=at_T61 HR0_4.out x70_3 p137 q137
             cases e137
             replace hx137_0:=zh HB hx137_0
             replace hx137_1:=zh HB hx137_1
             replace hx137_2:=zh HB hx137_2
             replace hx137_3:=zh HB hx137_3
             replace hx137_4:=zh HB hx137_4
             replace p137:=eq_true p137
             replace q137:=eq_true q137
             try go_wp2_with (first|((with_reducible refine gate_dst (N:=5) rfl ?_);(try (refine gate_guard (by rfl) ?_;dsimp only));refine zb (N:=5) (cs:=#[.int .i64 0,.int .i64 0,.float .f64 0,.float .f64 0,.int .i64 0]) (t:=61) ?_;intro G138 hg w78 hbox hb;have K138:=zA (hbox);have GW138:=zN HB hg;have GE138:=zN HB hg;replace HB:=zS HB hb;have NB134_138:=zL K134 hg;have NB138_134:=zG K134 hg;replace K134:=zB K134 hb;clear hb hbox hg;have:=NB138_134.1;have:=NB134_138.1;obtain ⟨hcz80_0,hcz80_1,hcz80_2,hcz80_3,hcz80_4,hfz80_0,hfz80_1,hfz80_2,hfz80_3,hfz80_4⟩:=zc5 K138)|((with_reducible refine gate_store (t:=61) (p:=5) rfl ?_);refine store_event (t:=61) (p:=5) (v:=?vo_w81) (w1:=(((((w78.setCell ⟨G138,0,none⟩ (.int .i64 ((rd_T61 l0_4 x70_3).f0))).setCell ⟨G138,1,none⟩ (.int .i64 ((rd_T61 l0_4 x70_3).f1))).setCell ⟨G138,2,none⟩ (.float .f64 ((rd_T61 l0_4 x70_3).f2))).setCell ⟨G138,3,none⟩ (.float .f64 ((rd_T61 l0_4 x70_3).f3))).setCell ⟨G138,4,none⟩ (.int .i64 ((rd_T61 l0_4 x70_3).f4)))) ?hg ?ho ?hn ?hr ?_;(case ho => rfl);(case hg => rfl);(case hn => rfl);(case hr => first|(go_simp;done)|(go_simp;rfl));intro w81 hw;replace K134:=zV hw K134;replace K138:=zVp hw (.cells #[.int .i64 ((rd_T61 l0_4 x70_3).f0),.int .i64 ((rd_T61 l0_4 x70_3).f1),.float .f64 ((rd_T61 l0_4 x70_3).f2),.float .f64 ((rd_T61 l0_4 x70_3).f3),.int .i64 ((rd_T61 l0_4 x70_3).f4)] 61 (0,0)) K138;replace HB:=zU hw HB;clear hw))
             replace K134:=zA (bD K134.1)
             replace K138:=zA (bD K138.1)
             replace HB:=zA (bw1 HB.1)
             refine start_ (n:=20) (S:=fun w' => True) (ds:=[]) #[F,F,F,F,F,F,F,F,F,F,F,F,F,F,F,F,F,F,F,F] (by kernel_rfl) rfl rfl trivial (fun hHeld => ?_);refine with_tabW message_Check.tab11 message_Check.bits11 (fun HT_ HW_ => ?_)
             generalize w81.drew = w82 at K134 K138 HB hHeld ⊢
             refine pz 0 75 #[T,F,F,F,F,F,F,F,F,F,F,F,F,F,F,F,F,F,F,F] HT_.1 ?_
             refine pz 1 76 #[T,T,F,F,F,F,F,F,F,F,F,F,F,F,F,F,F,F,F,F] HT_.1 ?_
             refine pu 2 77 #[T,T,T,F,F,F,F,F,F,F,F,F,F,F,F,F,F,F,F,F] HT_.1 ?_
             refine pu 3 78 #[T,T,T,T,F,F,F,F,F,F,F,F,F,F,F,F,F,F,F,F] HT_.1 ?_
             refine pz 4 79 #[T,T,T,T,T,F,F,F,F,F,F,F,F,F,F,F,F,F,F,F] HT_.1 ?_
             refine pz 5 80 #[T,T,T,T,T,T,F,F,F,F,F,F,F,F,F,F,F,F,F,F] HT_.1 ?_
             refine pu 6 81 #[T,T,T,T,T,T,T,F,F,F,F,F,F,F,F,F,F,F,F,F] HT_.1 ?_
             refine pu 7 82 #[T,T,T,T,T,T,T,T,F,F,F,F,F,F,F,F,F,F,F,F] HT_.1 ?_
             refine pu 8 83 #[T,T,T,T,T,T,T,T,T,F,F,F,F,F,F,F,F,F,F,F] HT_.1 ?_
             refine pu 9 84 #[T,T,T,T,T,T,T,T,T,T,F,F,F,F,F,F,F,F,F,F] HT_.1 ?_
             refine pu 10 85 #[T,T,T,T,T,T,T,T,T,T,T,F,F,F,F,F,F,F,F,F] HT_.1 ?_
             refine pu 11 86 #[T,T,T,T,T,T,T,T,T,T,T,T,F,F,F,F,F,F,F,F] HT_.1 ?_
             refine pu 12 87 #[T,T,T,T,T,T,T,T,T,T,T,T,T,F,F,F,F,F,F,F] HT_.1 ?_
             refine pu 13 88 #[T,T,T,T,T,T,T,T,T,T,T,T,T,T,F,F,F,F,F,F] HT_.1 ?_
             refine pu 14 89 #[T,T,T,T,T,T,T,T,T,T,T,T,T,T,T,F,F,F,F,F] HT_.1 ?_
             refine pu 15 90 #[T,T,T,T,T,T,T,T,T,T,T,T,T,T,T,T,F,F,F,F] HT_.1 ?_
             refine pu 16 91 #[T,T,T,T,T,T,T,T,T,T,T,T,T,T,T,T,T,F,F,F] HT_.1 ?_
             refine pu 17 92 #[T,T,T,T,T,T,T,T,T,T,T,T,T,T,T,T,T,T,F,F] HT_.1 ?_
             refine pz 18 93 #[T,T,T,T,T,T,T,T,T,T,T,T,T,T,T,T,T,T,T,F] HT_.1 ?_
             refine pz 19 3 #[T,T,T,T,T,T,T,T,T,T,T,T,T,T,T,T,T,T,T,T] HT_.1 ?_
             refine done_ (done_of HT_.out (by kernel_rfl)) ?_
             try go_wp2
             go_roundg k3
             case measure => have:=HJ19.out;have:=HJ24.out;have:=HK3.out;omega
             case rel => exact ⟨(false),(wrap64 (x70_3 + 1)),ze,ze,H',⟨by have:=HJ19.out;have:=HJ24.out;have:=HK3.out;omega⟩,⟨z1 K134.1⟩,⟨zH HB⟩⟩
           ·rw [if_neg c50] at H
            exact absurd H (by simp)
          ·rw [if_neg c49] at H
           exact absurd H (by simp)
         ·rw [if_neg c48] at H
          have c48b0 : decide (x70_3 < (l0_4.length : Int)) = false:=decide_eq_false c48
          clear c48
          by_cases c83 : x3_3 = true
          ·subst c83
           rw [if_pos rfl] at H
           obtain rfl:=Option.some.inj H
           go_wp2
           go_ret
           exact ⟨zE,zH HB⟩
          ·replace c83:=Bool.eq_false_iff.mpr c83
           subst c83
           rw [if_neg (show ¬ (false = true) by decide)] at H
           obtain rfl:=Option.some.inj H
           go_wp2
           go_ret
           exact ⟨zE,zH HB⟩
    ·replace c24:=Bool.eq_false_iff.mpr c24
     subst c24
     rw [if_neg (show ¬ (false = true) by decide)] at H
     by_cases c84 : a0_0 = 4
     ·rw [if_pos c84] at H
      have c84b0 : (a0_0 == 4) = true:=beq_iff_eq.mpr c84
      have c84b1 : (a0_0 != 4) = false:=bne_eq_false_iff_eq.mpr c84
      clear c84
      by_cases c85 : a0_1 = 0
      ·rw [if_pos c85] at H
       have c85b0 : (a0_1 == 0) = true:=beq_iff_eq.mpr c85
       have c85b1 : (a0_1 != 0) = false:=bne_eq_false_iff_eq.mpr c85
       clear c85
       by_cases c86 : a0_2 = 0
       ·rw [if_pos c86] at H
        have c86b0 : (a0_2 == 0) = true:=beq_iff_eq.mpr c86
        have c86b1 : (a0_2 != 0) = false:=bne_eq_false_iff_eq.mpr c86
        clear c86
        by_cases c87 : a0_3 = 0
        ·rw [if_pos c87] at H
         have c87b0 : (a0_3 == 0) = true:=beq_iff_eq.mpr c87
         have c87b1 : (a0_3 != 0) = false:=bne_eq_false_iff_eq.mpr c87
         clear c87
         by_cases c88 : (l0_4.length : Int) = 0
         ·rw [if_pos c88] at H
          have c88b0 : ((l0_4.length : Int) == 0) = true:=beq_iff_eq.mpr c88
          have c88b1 : ((l0_4.length : Int) != 0) = false:=bne_eq_false_iff_eq.mpr c88
          clear c88
          replace H:=Option.bind_eq_some_iff.mp H
          obtain ⟨t142,A890,H⟩:=H
          (try dsimp only at H)
          have A89:=zA A890
          clear A890
          by_cases c90 : t142 = true
          ·subst c90
           rw [if_pos rfl] at H
           obtain rfl:=Option.some.inj H
           obtain ⟨hcz91_0,hcz91_1,hcz91_2,hcz91_3,hcz91_4,hcz91_5,hcz91_6,hcz91_7,hcz91_8,hcz91_9,hcz91_10,hcz91_11,hcz91_12,hcz91_13,hcz91_14,hcz91_15,hcz91_16,hfz91_0,hfz91_1,hfz91_2,hfz91_3,hfz91_4,hfz91_5,hfz91_6,hfz91_7,hfz91_8,hfz91_9,hfz91_10,hfz91_11,hfz91_12,hfz91_13,hfz91_14,hfz91_15,hfz91_16⟩:=zc17 K134
           go_wp2_with (first|(go_at_call 57;(with_reducible refine (message_packet.calls kj19 a0_5 a0_6 a0_7 a0_8 a0_9 a0_10 a0_11 a0_12 a0_13 a0_14 a0_15 a0_16 true _ A89.out).mono ?_);rintro e w92 ⟨rfl,hb⟩;replace K134:=zB K134 hb;replace HB:=zS HB hb;(try clear hb)))
           go_ret
           exact ⟨zE,zH HB⟩
          ·replace c90:=Bool.eq_false_iff.mpr c90
           subst c90
           rw [if_neg (show ¬ (false = true) by decide)] at H
           obtain rfl:=Option.some.inj H
           obtain ⟨hcz93_0,hcz93_1,hcz93_2,hcz93_3,hcz93_4,hcz93_5,hcz93_6,hcz93_7,hcz93_8,hcz93_9,hcz93_10,hcz93_11,hcz93_12,hcz93_13,hcz93_14,hcz93_15,hcz93_16,hfz93_0,hfz93_1,hfz93_2,hfz93_3,hfz93_4,hfz93_5,hfz93_6,hfz93_7,hfz93_8,hfz93_9,hfz93_10,hfz93_11,hfz93_12,hfz93_13,hfz93_14,hfz93_15,hfz93_16⟩:=zc17 K134
           go_wp2_with (first|(go_at_call 57;(with_reducible refine (message_packet.calls kj19 a0_5 a0_6 a0_7 a0_8 a0_9 a0_10 a0_11 a0_12 a0_13 a0_14 a0_15 a0_16 false _ A89.out).mono ?_);rintro e w94 ⟨rfl,hb⟩;replace K134:=zB K134 hb;replace HB:=zS HB hb;(try clear hb)))
           go_ret
           exact ⟨zE,zH HB⟩
         ·rw [if_neg c88] at H
          have c88b0 : ((l0_4.length : Int) == 0) = false:=beq_eq_false_iff_ne.mpr c88
          have c88b1 : ((l0_4.length : Int) != 0) = true:=bne_iff_ne.mpr c88
          have c88b2 : ¬ (l0_4 = []):=fun h_ => c88 (by rw [h_];rfl)
          obtain rfl:=Option.some.inj H
          obtain ⟨hcz95_0,hcz95_1,hcz95_2,hcz95_3,hcz95_4,hcz95_5,hcz95_6,hcz95_7,hcz95_8,hcz95_9,hcz95_10,hcz95_11,hcz95_12,hcz95_13,hcz95_14,hcz95_15,hcz95_16,hfz95_0,hfz95_1,hfz95_2,hfz95_3,hfz95_4,hfz95_5,hfz95_6,hfz95_7,hfz95_8,hfz95_9,hfz95_10,hfz95_11,hfz95_12,hfz95_13,hfz95_14,hfz95_15,hfz95_16⟩:=zc17 K134
          go_wp2
          go_ret
          exact ⟨zE,zH HB⟩
        ·rw [if_neg c87] at H
         have c87b0 : (a0_3 == 0) = false:=beq_eq_false_iff_ne.mpr c87
         have c87b1 : (a0_3 != 0) = true:=bne_iff_ne.mpr c87
         obtain rfl:=Option.some.inj H
         obtain ⟨hcz96_0,hcz96_1,hcz96_2,hcz96_3,hcz96_4,hcz96_5,hcz96_6,hcz96_7,hcz96_8,hcz96_9,hcz96_10,hcz96_11,hcz96_12,hcz96_13,hcz96_14,hcz96_15,hcz96_16,hfz96_0,hfz96_1,hfz96_2,hfz96_3,hfz96_4,hfz96_5,hfz96_6,hfz96_7,hfz96_8,hfz96_9,hfz96_10,hfz96_11,hfz96_12,hfz96_13,hfz96_14,hfz96_15,hfz96_16⟩:=zc17 K134
         go_wp2
         go_ret
         exact ⟨zE,zH HB⟩
       ·rw [if_neg c86] at H
        have c86b0 : (a0_2 == 0) = false:=beq_eq_false_iff_ne.mpr c86
        have c86b1 : (a0_2 != 0) = true:=bne_iff_ne.mpr c86
        obtain rfl:=Option.some.inj H
        obtain ⟨hcz97_0,hcz97_1,hcz97_2,hcz97_3,hcz97_4,hcz97_5,hcz97_6,hcz97_7,hcz97_8,hcz97_9,hcz97_10,hcz97_11,hcz97_12,hcz97_13,hcz97_14,hcz97_15,hcz97_16,hfz97_0,hfz97_1,hfz97_2,hfz97_3,hfz97_4,hfz97_5,hfz97_6,hfz97_7,hfz97_8,hfz97_9,hfz97_10,hfz97_11,hfz97_12,hfz97_13,hfz97_14,hfz97_15,hfz97_16⟩:=zc17 K134
        go_wp2
        go_ret
        exact ⟨zE,zH HB⟩
      ·rw [if_neg c85] at H
       have c85b0 : (a0_1 == 0) = false:=beq_eq_false_iff_ne.mpr c85
       have c85b1 : (a0_1 != 0) = true:=bne_iff_ne.mpr c85
       obtain rfl:=Option.some.inj H
       obtain ⟨hcz98_0,hcz98_1,hcz98_2,hcz98_3,hcz98_4,hcz98_5,hcz98_6,hcz98_7,hcz98_8,hcz98_9,hcz98_10,hcz98_11,hcz98_12,hcz98_13,hcz98_14,hcz98_15,hcz98_16,hfz98_0,hfz98_1,hfz98_2,hfz98_3,hfz98_4,hfz98_5,hfz98_6,hfz98_7,hfz98_8,hfz98_9,hfz98_10,hfz98_11,hfz98_12,hfz98_13,hfz98_14,hfz98_15,hfz98_16⟩:=zc17 K134
       go_wp2
       go_ret
       exact ⟨zE,zH HB⟩
     ·rw [if_neg c84] at H
      have c84b0 : (a0_0 == 4) = false:=beq_eq_false_iff_ne.mpr c84
      have c84b1 : (a0_0 != 4) = true:=bne_iff_ne.mpr c84
      by_cases c99 : false = true
      ·cases c99
      ·clear c99
       rw [if_neg (show ¬ (false = true) by decide)] at H
       obtain rfl:=Option.some.inj H
       go_wp2
       go_ret
       exact ⟨zE,zH HB⟩

end Go.Proofs.Ytpcgjdllgdkobaa.XD
