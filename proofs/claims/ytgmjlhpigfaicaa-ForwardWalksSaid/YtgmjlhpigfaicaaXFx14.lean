/- Go functions of this seat as Lean functions, with proofs that the calls come to them. (Written by xprint.py, a program of this session, over the kit's print.) -/
import Derived.Test.YtgmjlhpigfaicaaXFx0
import Derived.Test.YtgmjlhpigfaicaaXFx13
namespace Go.Proofs.Ytgmjlhpigfaicaa.XF
open Go.RowKit Go.Proofs.YtgmjlhpigfaicaaW.PrintWords Go.Proofs.YtgmjlhpigfaicaaW.PrintLast Go.Proofs.YtgmjlhpigfaicaaW.PrintMore
attribute [local go_sem] max2_int min2_int max_two min_two max_three min_three max_four min_four   -- for this text's walks alone
set_option linter.unusedVariables false
set_option linter.unusedSimpArgs false
open List renaming setIfInBounds_toArray → xA, set_cons_zero → xB, set_cons_succ → xC
open Go.Proofs.YtgmjlhpigfaicaaW.PrintWords renaming blk_drewN → bN, blk_drew → bD, blk_alloc → bA, below_set → bS, blk_frozen → bF, blk_cell → bC, cell_far → cF, blk_far → bZ, blk_below → bB, pw_below_drewN → bwN, below_drew1 → bw1, below_alloc → bwA
open Go.Proofs.YtgmjlhpigfaicaaW.PrintZ
open Bool renaming true → T,false → F

/-! ### beaconref06_MayPacket: function 59 -/
mutual
def beaconref06_MayPacket.j0 : Nat → Bool → Int → Int → Int → Int → Int → Int → Int → Int → ByteArray → Int → Int → ByteArray → Option (Bool)
 | 0, _, _, _, _, _, _, _, _, _, _, _, _, _ => none
 | k + 1, x46, x244000, x244001, x244002, x244003, x244004, x244005, x244006, x244007, x244008, x244009, x244010, x244011 => if x46 = true then (some false) else ((beaconref06_number.f x244009).bind fun t249 => (if t249 = true then (if x244010 = 0 then (beaconref06_MayPacket.j1 k true x244000 x244001 x244002 x244003 x244004 x244005 x244006 x244007 x244008 x244009 x244010 x244011) else ((beaconref06_number.f x244010).bind fun t250 => (beaconref06_MayPacket.j1 k t250 x244000 x244001 x244002 x244003 x244004 x244005 x244006 x244007 x244008 x244009 x244010 x244011))) else (beaconref06_MayPacket.j1 k false x244000 x244001 x244002 x244003 x244004 x244005 x244006 x244007 x244008 x244009 x244010 x244011)))
def beaconref06_MayPacket.j1 : Nat → Bool → Int → Int → Int → Int → Int → Int → Int → Int → ByteArray → Int → Int → ByteArray → Option (Bool)
 | 0, _, _, _, _, _, _, _, _, _, _, _, _, _ => none
 | k + 1, x3, x244000, x244001, x244002, x244003, x244004, x244005, x244006, x244007, x244008, x244009, x244010, x244011 => if x244009 = 0 then (beaconref06_MayPacket.j2 k x3 (x244010 == 0) x244000 x244001 x244002 x244003 x244004 x244005 x244006 x244007 x244008 x244009 x244010 x244011) else (beaconref06_MayPacket.j2 k x3 false x244000 x244001 x244002 x244003 x244004 x244005 x244006 x244007 x244008 x244009 x244010 x244011)
def beaconref06_MayPacket.j2 : Nat → Bool → Bool → Int → Int → Int → Int → Int → Int → Int → Int → ByteArray → Int → Int → ByteArray → Option (Bool)
 | 0, _, _, _, _, _, _, _, _, _, _, _, _, _, _ => none
 | k + 1, x3, x4, x244000, x244001, x244002, x244003, x244004, x244005, x244006, x244007, x244008, x244009, x244010, x244011 => if x244000 = 1 then (if x244007 = 0 then (if x244008.toList = ([] : List UInt8) then (if x4 = true then (some (decide ((x244011.size : Int) ≤ 1024))) else (some false)) else (some false)) else (some false)) else (if x244000 = 2 then (if x244007 = 0 then ((beaconref06_name.f k x244008).bind fun t251 => (if t251 = true then (if x3 = true then (some (x244011.toList == ([] : List UInt8))) else (some false)) else (some false))) else (some false)) else (if x244000 = 3 then (if x244007 = 0 then ((beaconref06_name.f k x244008).bind fun t252 => (if t252 = true then (if x4 = true then (some (x244011.toList == ([] : List UInt8))) else (some false)) else (some false))) else (some false)) else (if x244000 = 4 then ((beaconref06_name.f k x244008).bind fun t253 => (if t253 = true then (if x244011.toList = ([] : List UInt8) then (if x244007 = 0 then (if x3 = true then (some true) else (if x244007 = 1 then (some x4) else (some false))) else (if x244007 = 1 then (some x4) else (some false))) else (some false)) else (some false))) else (some false))))
end
def beaconref06_MayPacket.f (k : Nat) (a0_0 : Int) (a0_1 : Int) (a0_2 : Int) (a0_3 : Int) (a0_4 : Int) (a0_5 : Int) (a0_6 : Int) (a0_7 : Int) (a0_8 : ByteArray) (a0_9 : Int) (a0_10 : Int) (a0_11 : ByteArray) : Option (Bool) := (beaconref06_number.f a0_1).bind fun t244 => (if t244 = true then ((beaconref06_number.f a0_3).bind fun t245 => (if t245 = true then (if a0_2 = 0 then (if a0_4 = 0 then (if a0_5 < 0 then (beaconref06_MayPacket.j0 k true a0_0 a0_1 a0_2 a0_3 a0_4 a0_5 a0_6 a0_7 a0_8 a0_9 a0_10 a0_11) else (beaconref06_MayPacket.j0 k (decide (a0_5 > 65536)) a0_0 a0_1 a0_2 a0_3 a0_4 a0_5 a0_6 a0_7 a0_8 a0_9 a0_10 a0_11)) else ((beaconref06_number.f a0_4).bind fun t246 => (if t246 = true then (if a0_5 < 0 then (beaconref06_MayPacket.j0 k true a0_0 a0_1 a0_2 a0_3 a0_4 a0_5 a0_6 a0_7 a0_8 a0_9 a0_10 a0_11) else (beaconref06_MayPacket.j0 k (decide (a0_5 > 65536)) a0_0 a0_1 a0_2 a0_3 a0_4 a0_5 a0_6 a0_7 a0_8 a0_9 a0_10 a0_11)) else (beaconref06_MayPacket.j0 k true a0_0 a0_1 a0_2 a0_3 a0_4 a0_5 a0_6 a0_7 a0_8 a0_9 a0_10 a0_11)))) else ((beaconref06_number.f a0_2).bind fun t247 => (if t247 = true then (if a0_4 = 0 then (if a0_5 < 0 then (beaconref06_MayPacket.j0 k true a0_0 a0_1 a0_2 a0_3 a0_4 a0_5 a0_6 a0_7 a0_8 a0_9 a0_10 a0_11) else (beaconref06_MayPacket.j0 k (decide (a0_5 > 65536)) a0_0 a0_1 a0_2 a0_3 a0_4 a0_5 a0_6 a0_7 a0_8 a0_9 a0_10 a0_11)) else ((beaconref06_number.f a0_4).bind fun t248 => (if t248 = true then (if a0_5 < 0 then (beaconref06_MayPacket.j0 k true a0_0 a0_1 a0_2 a0_3 a0_4 a0_5 a0_6 a0_7 a0_8 a0_9 a0_10 a0_11) else (beaconref06_MayPacket.j0 k (decide (a0_5 > 65536)) a0_0 a0_1 a0_2 a0_3 a0_4 a0_5 a0_6 a0_7 a0_8 a0_9 a0_10 a0_11)) else (beaconref06_MayPacket.j0 k true a0_0 a0_1 a0_2 a0_3 a0_4 a0_5 a0_6 a0_7 a0_8 a0_9 a0_10 a0_11)))) else (beaconref06_MayPacket.j0 k true a0_0 a0_1 a0_2 a0_3 a0_4 a0_5 a0_6 a0_7 a0_8 a0_9 a0_10 a0_11)))) else (beaconref06_MayPacket.j0 k true a0_0 a0_1 a0_2 a0_3 a0_4 a0_5 a0_6 a0_7 a0_8 a0_9 a0_10 a0_11))) else (beaconref06_MayPacket.j0 k true a0_0 a0_1 a0_2 a0_3 a0_4 a0_5 a0_6 a0_7 a0_8 a0_9 a0_10 a0_11))
theorem beaconref06_MayPacket.mono_l : ∀ k, (∀ y0 y1 y2 y3 y4 y5 y6 y7 y8 y9 y10 y11 y12, LeO (beaconref06_MayPacket.j0 k y0 y1 y2 y3 y4 y5 y6 y7 y8 y9 y10 y11 y12) (beaconref06_MayPacket.j0 (k + 1) y0 y1 y2 y3 y4 y5 y6 y7 y8 y9 y10 y11 y12)) ∧ (∀ y0 y1 y2 y3 y4 y5 y6 y7 y8 y9 y10 y11 y12, LeO (beaconref06_MayPacket.j1 k y0 y1 y2 y3 y4 y5 y6 y7 y8 y9 y10 y11 y12) (beaconref06_MayPacket.j1 (k + 1) y0 y1 y2 y3 y4 y5 y6 y7 y8 y9 y10 y11 y12)) ∧ (∀ y0 y1 y2 y3 y4 y5 y6 y7 y8 y9 y10 y11 y12 y13, LeO (beaconref06_MayPacket.j2 k y0 y1 y2 y3 y4 y5 y6 y7 y8 y9 y10 y11 y12 y13) (beaconref06_MayPacket.j2 (k + 1) y0 y1 y2 y3 y4 y5 y6 y7 y8 y9 y10 y11 y12 y13))
 | 0 => ⟨fun _ _ _ _ _ _ _ _ _ _ _ _ _ r h => by simp [beaconref06_MayPacket.j0] at h, fun _ _ _ _ _ _ _ _ _ _ _ _ _ r h => by simp [beaconref06_MayPacket.j1] at h, fun _ _ _ _ _ _ _ _ _ _ _ _ _ _ r h => by simp [beaconref06_MayPacket.j2] at h⟩
 | k + 1 => by
  obtain ⟨ih0,ih1,ih2⟩:=beaconref06_MayPacket.mono_l k
  refine ⟨?_,?_,?_⟩
  ·intro y0 y1 y2 y3 y4 y5 y6 y7 y8 y9 y10 y11 y12
   unfold beaconref06_MayPacket.j0
   repeat' first
   | (with_reducible exact ih0 _ _ _ _ _ _ _ _ _ _ _ _ _)
   | (with_reducible exact ih1 _ _ _ _ _ _ _ _ _ _ _ _ _)
   | (with_reducible exact ih2 _ _ _ _ _ _ _ _ _ _ _ _ _ _)
   | (with_reducible exact beaconref06_name.mono _ _)
   | (with_reducible exact LeO.refl _)
   | (with_reducible exact LeO.none _)
   | (with_reducible refine LeO.ite ?_ ?_)
   | (with_reducible refine LeO.bind ?_ (fun _ => ?_))
   | exact ih0 _ _ _ _ _ _ _ _ _ _ _ _ _
   | exact ih1 _ _ _ _ _ _ _ _ _ _ _ _ _
   | exact ih2 _ _ _ _ _ _ _ _ _ _ _ _ _ _
   | exact beaconref06_name.mono _ _
   | exact LeO.none _
   | refine LeO.ite ?_ ?_
   | refine LeO.bind ?_ (fun _ => ?_)
  ·intro y0 y1 y2 y3 y4 y5 y6 y7 y8 y9 y10 y11 y12
   unfold beaconref06_MayPacket.j1
   repeat' first
   | (with_reducible exact ih0 _ _ _ _ _ _ _ _ _ _ _ _ _)
   | (with_reducible exact ih1 _ _ _ _ _ _ _ _ _ _ _ _ _)
   | (with_reducible exact ih2 _ _ _ _ _ _ _ _ _ _ _ _ _ _)
   | (with_reducible exact beaconref06_name.mono _ _)
   | (with_reducible exact LeO.refl _)
   | (with_reducible exact LeO.none _)
   | (with_reducible refine LeO.ite ?_ ?_)
   | (with_reducible refine LeO.bind ?_ (fun _ => ?_))
   | exact ih0 _ _ _ _ _ _ _ _ _ _ _ _ _
   | exact ih1 _ _ _ _ _ _ _ _ _ _ _ _ _
   | exact ih2 _ _ _ _ _ _ _ _ _ _ _ _ _ _
   | exact beaconref06_name.mono _ _
   | exact LeO.none _
   | refine LeO.ite ?_ ?_
   | refine LeO.bind ?_ (fun _ => ?_)
  ·intro y0 y1 y2 y3 y4 y5 y6 y7 y8 y9 y10 y11 y12 y13
   unfold beaconref06_MayPacket.j2
   repeat' first
   | (with_reducible exact ih0 _ _ _ _ _ _ _ _ _ _ _ _ _)
   | (with_reducible exact ih1 _ _ _ _ _ _ _ _ _ _ _ _ _)
   | (with_reducible exact ih2 _ _ _ _ _ _ _ _ _ _ _ _ _ _)
   | (with_reducible exact beaconref06_name.mono _ _)
   | (with_reducible exact LeO.refl _)
   | (with_reducible exact LeO.none _)
   | (with_reducible refine LeO.ite ?_ ?_)
   | (with_reducible refine LeO.bind ?_ (fun _ => ?_))
   | exact ih0 _ _ _ _ _ _ _ _ _ _ _ _ _
   | exact ih1 _ _ _ _ _ _ _ _ _ _ _ _ _
   | exact ih2 _ _ _ _ _ _ _ _ _ _ _ _ _ _
   | exact beaconref06_name.mono _ _
   | exact LeO.none _
   | refine LeO.ite ?_ ?_
   | refine LeO.bind ?_ (fun _ => ?_)
theorem beaconref06_MayPacket.mono : ∀ a0 a1 a2 a3 a4 a5 a6 a7 a8 a9 a10 a11 k, LeO (beaconref06_MayPacket.f k a0 a1 a2 a3 a4 a5 a6 a7 a8 a9 a10 a11) (beaconref06_MayPacket.f (k + 1) a0 a1 a2 a3 a4 a5 a6 a7 a8 a9 a10 a11) := by
 intro a0 a1 a2 a3 a4 a5 a6 a7 a8 a9 a10 a11 k
 obtain ⟨ih0,ih1,ih2⟩:=beaconref06_MayPacket.mono_l k
 unfold beaconref06_MayPacket.f
 repeat' first
   | (with_reducible exact ih0 _ _ _ _ _ _ _ _ _ _ _ _ _)
   | (with_reducible exact ih1 _ _ _ _ _ _ _ _ _ _ _ _ _)
   | (with_reducible exact ih2 _ _ _ _ _ _ _ _ _ _ _ _ _ _)
   | (with_reducible exact beaconref06_name.mono _ _)
   | (with_reducible exact LeO.refl _)
   | (with_reducible exact LeO.none _)
   | (with_reducible refine LeO.ite ?_ ?_)
   | (with_reducible refine LeO.bind ?_ (fun _ => ?_))
   | exact ih0 _ _ _ _ _ _ _ _ _ _ _ _ _
   | exact ih1 _ _ _ _ _ _ _ _ _ _ _ _ _
   | exact ih2 _ _ _ _ _ _ _ _ _ _ _ _ _ _
   | exact beaconref06_name.mono _ _
   | exact LeO.none _
   | refine LeO.ite ?_ ?_
   | refine LeO.bind ?_ (fun _ => ?_)
set_option maxHeartbeats 8000000 in
set_option maxRecDepth 100000 in
theorem beaconref06_MayPacket.calls (k : Nat) (a0_0 : Int) (a0_1 : Int) (a0_2 : Int) (a0_3 : Int) (a0_4 : Int) (a0_5 : Int) (a0_6 : Int) (a0_7 : Int) (a0_8 : ByteArray) (a0_9 : Int) (a0_10 : Int) (a0_11 : ByteArray) (r : Bool) (w : World) (h : beaconref06_MayPacket.f k a0_0 a0_1 a0_2 a0_3 a0_4 a0_5 a0_6 a0_7 a0_8 a0_9 a0_10 a0_11 = some r) :
  Calls Try.prog 59 #[.agg #[.int .i64 a0_0,.int .i64 a0_1,.int .i64 a0_2,.int .i64 a0_3,.int .i64 a0_4,.int .i64 a0_5,.int .u64 a0_6,.int .i64 a0_7,.string a0_8,.int .i64 a0_9,.int .i64 a0_10,.string a0_11]] w fun e w' => e = .returned (.bool r) ∧ Below w.heap.size w w':=by
 have hu48:=Try.underlying48;have HB:=zA (Below.refl w.heap.size w);have H : ((beaconref06_number.f a0_1).bind fun t244 => (if t244 = true then ((beaconref06_number.f a0_3).bind fun t245 => (if t245 = true then (if a0_2 = 0 then (if a0_4 = 0 then (if a0_5 < 0 then (beaconref06_MayPacket.j0 k true a0_0 a0_1 a0_2 a0_3 a0_4 a0_5 a0_6 a0_7 a0_8 a0_9 a0_10 a0_11) else (beaconref06_MayPacket.j0 k (decide (a0_5 > 65536)) a0_0 a0_1 a0_2 a0_3 a0_4 a0_5 a0_6 a0_7 a0_8 a0_9 a0_10 a0_11)) else ((beaconref06_number.f a0_4).bind fun t246 => (if t246 = true then (if a0_5 < 0 then (beaconref06_MayPacket.j0 k true a0_0 a0_1 a0_2 a0_3 a0_4 a0_5 a0_6 a0_7 a0_8 a0_9 a0_10 a0_11) else (beaconref06_MayPacket.j0 k (decide (a0_5 > 65536)) a0_0 a0_1 a0_2 a0_3 a0_4 a0_5 a0_6 a0_7 a0_8 a0_9 a0_10 a0_11)) else (beaconref06_MayPacket.j0 k true a0_0 a0_1 a0_2 a0_3 a0_4 a0_5 a0_6 a0_7 a0_8 a0_9 a0_10 a0_11)))) else ((beaconref06_number.f a0_2).bind fun t247 => (if t247 = true then (if a0_4 = 0 then (if a0_5 < 0 then (beaconref06_MayPacket.j0 k true a0_0 a0_1 a0_2 a0_3 a0_4 a0_5 a0_6 a0_7 a0_8 a0_9 a0_10 a0_11) else (beaconref06_MayPacket.j0 k (decide (a0_5 > 65536)) a0_0 a0_1 a0_2 a0_3 a0_4 a0_5 a0_6 a0_7 a0_8 a0_9 a0_10 a0_11)) else ((beaconref06_number.f a0_4).bind fun t248 => (if t248 = true then (if a0_5 < 0 then (beaconref06_MayPacket.j0 k true a0_0 a0_1 a0_2 a0_3 a0_4 a0_5 a0_6 a0_7 a0_8 a0_9 a0_10 a0_11) else (beaconref06_MayPacket.j0 k (decide (a0_5 > 65536)) a0_0 a0_1 a0_2 a0_3 a0_4 a0_5 a0_6 a0_7 a0_8 a0_9 a0_10 a0_11)) else (beaconref06_MayPacket.j0 k true a0_0 a0_1 a0_2 a0_3 a0_4 a0_5 a0_6 a0_7 a0_8 a0_9 a0_10 a0_11)))) else (beaconref06_MayPacket.j0 k true a0_0 a0_1 a0_2 a0_3 a0_4 a0_5 a0_6 a0_7 a0_8 a0_9 a0_10 a0_11)))) else (beaconref06_MayPacket.j0 k true a0_0 a0_1 a0_2 a0_3 a0_4 a0_5 a0_6 a0_7 a0_8 a0_9 a0_10 a0_11))) else (beaconref06_MayPacket.j0 k true a0_0 a0_1 a0_2 a0_3 a0_4 a0_5 a0_6 a0_7 a0_8 a0_9 a0_10 a0_11))) = some r:=h;clear h;have HC2:=zA H;clear H;go_enter Try.func59,Try.ntmps59
 go_upto_region 1 with (first|((with_reducible refine gate_dst (N:=1) rfl ?_);(try (refine gate_guard (by rfl) ?_;dsimp only));refine zb (N:=1) (cs:=#[.int .i64 a0_0,.int .i64 a0_1,.int .i64 a0_2,.int .i64 a0_3,.int .i64 a0_4,.int .i64 a0_5,.int .u64 a0_6,.int .i64 a0_7,.string a0_8,.int .i64 a0_9,.int .i64 a0_10,.string a0_11]) (t:=48) ?_;intro G243 hg w3 hbox hb;have K243:=zA (hbox);have GW243:=zN HB hg;have GE243:=zN HB hg;replace HB:=zS HB hb;clear hb hbox hg))
 (try simp only [Act.put,xA,xB,xC]);go_cut [46] (fun v46 wc => ∃ (kq : Nat) (x46_1 : Bool),v46 = .bool x46_1 ∧ Aside0 (beaconref06_MayPacket.j0 kq x46_1 a0_0 a0_1 a0_2 a0_3 a0_4 a0_5 a0_6 a0_7 a0_8 a0_9 a0_10 a0_11 = some r) ∧ Aside0 (kq ≤ k) ∧ Aside0 (wc.heap[G243]? = some (.cells #[.int .i64 a0_0,.int .i64 a0_1,.int .i64 a0_2,.int .i64 a0_3,.int .i64 a0_4,.int .i64 a0_5,.int .u64 a0_6,.int .i64 a0_7,.string a0_8,.int .i64 a0_9,.int .i64 a0_10,.string a0_11] 48 (0,0))) ∧ Aside0 (Below w.heap.size w wc))
 case first =>
  have H:=HC2.out;clear HC2;replace H:=Option.bind_eq_some_iff.mp H;obtain ⟨t244,A40,H⟩:=H;(try dsimp only at H);have A4:=zA A40;clear A40;by_cases c5 : t244 = true
  ·subst c5;rw [if_pos rfl] at H;replace H:=Option.bind_eq_some_iff.mp H;obtain ⟨t245,A60,H⟩:=H;(try dsimp only at H);have A6:=zA A60;clear A60;by_cases c7 : t245 = true
   ·subst c7;rw [if_pos rfl] at H;by_cases c8 : a0_2 = 0
    ·rw [if_pos c8] at H;have c8b0 : (a0_2 == 0) = true:=beq_iff_eq.mpr c8;have c8b1 : (a0_2 != 0) = false:=bne_eq_false_iff_eq.mpr c8;clear c8;(first|rw [c8b0]|(simp only [i64_w,i32_w];rw [c8b0])|skip)
     by_cases c9 : a0_4 = 0
     ·rw [if_pos c9] at H;have c9b0 : (a0_4 == 0) = true:=beq_iff_eq.mpr c9;have c9b1 : (a0_4 != 0) = false:=bne_eq_false_iff_eq.mpr c9;clear c9;by_cases c10 : a0_5 < 0
      ·rw [if_pos c10] at H;have c10b0 : decide (a0_5 < 0) = true:=decide_eq_true c10;clear c10;have H':=zA H;clear H;obtain ⟨_,_,_,_,_,_,_,_,_,_,_,_,_,_,_,_,_,_,_,_,_,_,_,_⟩:=zc12 K243;go_wp2_with (first|((with_reducible refine gate_callee (f:=79) rfl ?_);refine zg (some 7) Try.func79 #[.int .i64 a0_1] ?_;(with_reducible refine (beaconref06_number.calls a0_1 true _ A4.out).mono ?_);rintro e w' ⟨rfl,⟨nd,rfl⟩⟩;refine ⟨_,rfl,?_⟩)|(go_at_call 79;(with_reducible refine (beaconref06_number.calls a0_3 true _ A6.out).mono ?_);rintro e w' ⟨rfl,⟨nd,rfl⟩⟩))
       go_meet
       case rel => exact ⟨_,(true),ze,H',⟨zo⟩,⟨z1 K243.1⟩,⟨zH HB⟩⟩
      ·rw [if_neg c10] at H;have c10b0 : decide (a0_5 < 0) = false:=decide_eq_false c10;clear c10;have H':=zA H;clear H;obtain ⟨_,_,_,_,_,_,_,_,_,_,_,_,_,_,_,_,_,_,_,_,_,_,_,_⟩:=zc12 K243;go_wp2_with (first|((with_reducible refine gate_callee (f:=79) rfl ?_);refine zg (some 7) Try.func79 #[.int .i64 a0_1] ?_;(with_reducible refine (beaconref06_number.calls a0_1 true _ A4.out).mono ?_);rintro e w' ⟨rfl,⟨nd,rfl⟩⟩;refine ⟨_,rfl,?_⟩)|(go_at_call 79;(with_reducible refine (beaconref06_number.calls a0_3 true _ A6.out).mono ?_);rintro e w' ⟨rfl,⟨nd,rfl⟩⟩))
       go_meet
       case rel => exact ⟨_,(decide (a0_5 > 65536)),ze,H',⟨zo⟩,⟨z1 K243.1⟩,⟨zH HB⟩⟩
     ·rw [if_neg c9] at H;have c9b0 : (a0_4 == 0) = false:=beq_eq_false_iff_ne.mpr c9;have c9b1 : (a0_4 != 0) = true:=bne_iff_ne.mpr c9;replace H:=Option.bind_eq_some_iff.mp H;obtain ⟨t246,A130,H⟩:=H;(try dsimp only at H);have A13:=zA A130;clear A130;by_cases c14 : t246 = true
      ·subst c14;rw [if_pos rfl] at H;by_cases c15 : a0_5 < 0
       ·rw [if_pos c15] at H;have c15b0 : decide (a0_5 < 0) = true:=decide_eq_true c15;clear c15;have H':=zA H;clear H;obtain ⟨_,_,_,_,_,_,_,_,_,_,_,_,_,_,_,_,_,_,_,_,_,_,_,_⟩:=zc12 K243;go_wp2_with (first|((with_reducible refine gate_callee (f:=79) rfl ?_);refine zg (some 7) Try.func79 #[.int .i64 a0_1] ?_;(with_reducible refine (beaconref06_number.calls a0_1 true _ A4.out).mono ?_);rintro e w' ⟨rfl,⟨nd,rfl⟩⟩;refine ⟨_,rfl,?_⟩)|(go_at_call 79;(with_reducible refine (beaconref06_number.calls a0_3 true _ A6.out).mono ?_);rintro e w' ⟨rfl,⟨nd,rfl⟩⟩)|(go_at_call 79;(with_reducible refine (beaconref06_number.calls a0_4 true _ A13.out).mono ?_);rintro e w' ⟨rfl,⟨nd,rfl⟩⟩))
        go_meet
        case rel => exact ⟨_,(true),ze,H',⟨zo⟩,⟨z1 K243.1⟩,⟨zH HB⟩⟩
       ·rw [if_neg c15] at H;have c15b0 : decide (a0_5 < 0) = false:=decide_eq_false c15;clear c15;have H':=zA H;clear H;obtain ⟨_,_,_,_,_,_,_,_,_,_,_,_,_,_,_,_,_,_,_,_,_,_,_,_⟩:=zc12 K243;go_wp2_with (first|((with_reducible refine gate_callee (f:=79) rfl ?_);refine zg (some 7) Try.func79 #[.int .i64 a0_1] ?_;(with_reducible refine (beaconref06_number.calls a0_1 true _ A4.out).mono ?_);rintro e w' ⟨rfl,⟨nd,rfl⟩⟩;refine ⟨_,rfl,?_⟩)|(go_at_call 79;(with_reducible refine (beaconref06_number.calls a0_3 true _ A6.out).mono ?_);rintro e w' ⟨rfl,⟨nd,rfl⟩⟩)|(go_at_call 79;(with_reducible refine (beaconref06_number.calls a0_4 true _ A13.out).mono ?_);rintro e w' ⟨rfl,⟨nd,rfl⟩⟩))
        go_meet
        case rel => exact ⟨_,(decide (a0_5 > 65536)),ze,H',⟨zo⟩,⟨z1 K243.1⟩,⟨zH HB⟩⟩
      ·replace c14:=Bool.eq_false_iff.mpr c14;subst c14;rw [if_neg (show ¬ (false = true) by decide)] at H;have H':=zA H;clear H;obtain ⟨_,_,_,_,_,_,_,_,_,_,_,_,_,_,_,_,_,_,_,_,_,_,_,_⟩:=zc12 K243;go_wp2_with (first|((with_reducible refine gate_callee (f:=79) rfl ?_);refine zg (some 7) Try.func79 #[.int .i64 a0_1] ?_;(with_reducible refine (beaconref06_number.calls a0_1 true _ A4.out).mono ?_);rintro e w' ⟨rfl,⟨nd,rfl⟩⟩;refine ⟨_,rfl,?_⟩)|(go_at_call 79;(with_reducible refine (beaconref06_number.calls a0_3 true _ A6.out).mono ?_);rintro e w' ⟨rfl,⟨nd,rfl⟩⟩)|(go_at_call 79;(with_reducible refine (beaconref06_number.calls a0_4 false _ A13.out).mono ?_);rintro e w' ⟨rfl,⟨nd,rfl⟩⟩))
       go_meet
       case rel => exact ⟨_,(true),ze,H',⟨zo⟩,⟨z1 K243.1⟩,⟨zH HB⟩⟩
    ·rw [if_neg c8] at H;have c8b0 : (a0_2 == 0) = false:=beq_eq_false_iff_ne.mpr c8;have c8b1 : (a0_2 != 0) = true:=bne_iff_ne.mpr c8;(first|rw [c8b0]|(simp only [i64_w,i32_w];rw [c8b0])|skip)
     replace H:=Option.bind_eq_some_iff.mp H;obtain ⟨t247,A190,H⟩:=H;(try dsimp only at H);have A19:=zA A190;clear A190;by_cases c20 : t247 = true
     ·subst c20;rw [if_pos rfl] at H;by_cases c21 : a0_4 = 0
      ·rw [if_pos c21] at H;have c21b0 : (a0_4 == 0) = true:=beq_iff_eq.mpr c21;have c21b1 : (a0_4 != 0) = false:=bne_eq_false_iff_eq.mpr c21;clear c21;by_cases c22 : a0_5 < 0
       ·rw [if_pos c22] at H;have c22b0 : decide (a0_5 < 0) = true:=decide_eq_true c22;clear c22;have H':=zA H;clear H;obtain ⟨_,_,_,_,_,_,_,_,_,_,_,_,_,_,_,_,_,_,_,_,_,_,_,_⟩:=zc12 K243;go_wp2_with (first|((with_reducible refine gate_callee (f:=79) rfl ?_);refine zg (some 7) Try.func79 #[.int .i64 a0_1] ?_;(with_reducible refine (beaconref06_number.calls a0_1 true _ A4.out).mono ?_);rintro e w' ⟨rfl,⟨nd,rfl⟩⟩;refine ⟨_,rfl,?_⟩)|(go_at_call 79;(with_reducible refine (beaconref06_number.calls a0_3 true _ A6.out).mono ?_);rintro e w' ⟨rfl,⟨nd,rfl⟩⟩)|(go_at_call 79;(with_reducible refine (beaconref06_number.calls a0_2 true _ A19.out).mono ?_);rintro e w' ⟨rfl,⟨nd,rfl⟩⟩))
        go_meet
        case rel => exact ⟨_,(true),ze,H',⟨zo⟩,⟨z1 K243.1⟩,⟨zH HB⟩⟩
       ·rw [if_neg c22] at H;have c22b0 : decide (a0_5 < 0) = false:=decide_eq_false c22;clear c22;have H':=zA H;clear H;obtain ⟨_,_,_,_,_,_,_,_,_,_,_,_,_,_,_,_,_,_,_,_,_,_,_,_⟩:=zc12 K243;go_wp2_with (first|((with_reducible refine gate_callee (f:=79) rfl ?_);refine zg (some 7) Try.func79 #[.int .i64 a0_1] ?_;(with_reducible refine (beaconref06_number.calls a0_1 true _ A4.out).mono ?_);rintro e w' ⟨rfl,⟨nd,rfl⟩⟩;refine ⟨_,rfl,?_⟩)|(go_at_call 79;(with_reducible refine (beaconref06_number.calls a0_3 true _ A6.out).mono ?_);rintro e w' ⟨rfl,⟨nd,rfl⟩⟩)|(go_at_call 79;(with_reducible refine (beaconref06_number.calls a0_2 true _ A19.out).mono ?_);rintro e w' ⟨rfl,⟨nd,rfl⟩⟩))
        go_meet
        case rel => exact ⟨_,(decide (a0_5 > 65536)),ze,H',⟨zo⟩,⟨z1 K243.1⟩,⟨zH HB⟩⟩
      ·rw [if_neg c21] at H;have c21b0 : (a0_4 == 0) = false:=beq_eq_false_iff_ne.mpr c21;have c21b1 : (a0_4 != 0) = true:=bne_iff_ne.mpr c21;replace H:=Option.bind_eq_some_iff.mp H;obtain ⟨t248,A250,H⟩:=H;(try dsimp only at H);have A25:=zA A250;clear A250;by_cases c26 : t248 = true
       ·subst c26;rw [if_pos rfl] at H;by_cases c27 : a0_5 < 0
        ·rw [if_pos c27] at H;have c27b0 : decide (a0_5 < 0) = true:=decide_eq_true c27;clear c27;have H':=zA H;clear H;obtain ⟨_,_,_,_,_,_,_,_,_,_,_,_,_,_,_,_,_,_,_,_,_,_,_,_⟩:=zc12 K243;go_wp2_with (first|((with_reducible refine gate_callee (f:=79) rfl ?_);refine zg (some 7) Try.func79 #[.int .i64 a0_1] ?_;(with_reducible refine (beaconref06_number.calls a0_1 true _ A4.out).mono ?_);rintro e w' ⟨rfl,⟨nd,rfl⟩⟩;refine ⟨_,rfl,?_⟩)|(go_at_call 79;(with_reducible refine (beaconref06_number.calls a0_3 true _ A6.out).mono ?_);rintro e w' ⟨rfl,⟨nd,rfl⟩⟩)|(go_at_call 79;(with_reducible refine (beaconref06_number.calls a0_2 true _ A19.out).mono ?_);rintro e w' ⟨rfl,⟨nd,rfl⟩⟩)|(go_at_call 79;(with_reducible refine (beaconref06_number.calls a0_4 true _ A25.out).mono ?_);rintro e w' ⟨rfl,⟨nd,rfl⟩⟩))
         go_meet
         case rel => exact ⟨_,(true),ze,H',⟨zo⟩,⟨z1 K243.1⟩,⟨zH HB⟩⟩
        ·rw [if_neg c27] at H;have c27b0 : decide (a0_5 < 0) = false:=decide_eq_false c27;clear c27;have H':=zA H;clear H;obtain ⟨_,_,_,_,_,_,_,_,_,_,_,_,_,_,_,_,_,_,_,_,_,_,_,_⟩:=zc12 K243;go_wp2_with (first|((with_reducible refine gate_callee (f:=79) rfl ?_);refine zg (some 7) Try.func79 #[.int .i64 a0_1] ?_;(with_reducible refine (beaconref06_number.calls a0_1 true _ A4.out).mono ?_);rintro e w' ⟨rfl,⟨nd,rfl⟩⟩;refine ⟨_,rfl,?_⟩)|(go_at_call 79;(with_reducible refine (beaconref06_number.calls a0_3 true _ A6.out).mono ?_);rintro e w' ⟨rfl,⟨nd,rfl⟩⟩)|(go_at_call 79;(with_reducible refine (beaconref06_number.calls a0_2 true _ A19.out).mono ?_);rintro e w' ⟨rfl,⟨nd,rfl⟩⟩)|(go_at_call 79;(with_reducible refine (beaconref06_number.calls a0_4 true _ A25.out).mono ?_);rintro e w' ⟨rfl,⟨nd,rfl⟩⟩))
         go_meet
         case rel => exact ⟨_,(decide (a0_5 > 65536)),ze,H',⟨zo⟩,⟨z1 K243.1⟩,⟨zH HB⟩⟩
       ·replace c26:=Bool.eq_false_iff.mpr c26;subst c26;rw [if_neg (show ¬ (false = true) by decide)] at H;have H':=zA H;clear H;obtain ⟨_,_,_,_,_,_,_,_,_,_,_,_,_,_,_,_,_,_,_,_,_,_,_,_⟩:=zc12 K243;go_wp2_with (first|((with_reducible refine gate_callee (f:=79) rfl ?_);refine zg (some 7) Try.func79 #[.int .i64 a0_1] ?_;(with_reducible refine (beaconref06_number.calls a0_1 true _ A4.out).mono ?_);rintro e w' ⟨rfl,⟨nd,rfl⟩⟩;refine ⟨_,rfl,?_⟩)|(go_at_call 79;(with_reducible refine (beaconref06_number.calls a0_3 true _ A6.out).mono ?_);rintro e w' ⟨rfl,⟨nd,rfl⟩⟩)|(go_at_call 79;(with_reducible refine (beaconref06_number.calls a0_2 true _ A19.out).mono ?_);rintro e w' ⟨rfl,⟨nd,rfl⟩⟩)|(go_at_call 79;(with_reducible refine (beaconref06_number.calls a0_4 false _ A25.out).mono ?_);rintro e w' ⟨rfl,⟨nd,rfl⟩⟩))
        go_meet
        case rel => exact ⟨_,(true),ze,H',⟨zo⟩,⟨z1 K243.1⟩,⟨zH HB⟩⟩
     ·replace c20:=Bool.eq_false_iff.mpr c20;subst c20;rw [if_neg (show ¬ (false = true) by decide)] at H;have H':=zA H;clear H;obtain ⟨_,_,_,_,_,_,_,_,_,_,_,_,_,_,_,_,_,_,_,_,_,_,_,_⟩:=zc12 K243;go_wp2_with (first|((with_reducible refine gate_callee (f:=79) rfl ?_);refine zg (some 7) Try.func79 #[.int .i64 a0_1] ?_;(with_reducible refine (beaconref06_number.calls a0_1 true _ A4.out).mono ?_);rintro e w' ⟨rfl,⟨nd,rfl⟩⟩;refine ⟨_,rfl,?_⟩)|(go_at_call 79;(with_reducible refine (beaconref06_number.calls a0_3 true _ A6.out).mono ?_);rintro e w' ⟨rfl,⟨nd,rfl⟩⟩)|(go_at_call 79;(with_reducible refine (beaconref06_number.calls a0_2 false _ A19.out).mono ?_);rintro e w' ⟨rfl,⟨nd,rfl⟩⟩))
      go_meet
      case rel => exact ⟨_,(true),ze,H',⟨zo⟩,⟨z1 K243.1⟩,⟨zH HB⟩⟩
   ·replace c7:=Bool.eq_false_iff.mpr c7;subst c7;rw [if_neg (show ¬ (false = true) by decide)] at H;have H':=zA H;clear H;obtain ⟨_,_,_,_,_,_,_,_,_,_,_,_,_,_,_,_,_,_,_,_,_,_,_,_⟩:=zc12 K243;go_wp2_with (first|((with_reducible refine gate_callee (f:=79) rfl ?_);refine zg (some 7) Try.func79 #[.int .i64 a0_1] ?_;(with_reducible refine (beaconref06_number.calls a0_1 true _ A4.out).mono ?_);rintro e w' ⟨rfl,⟨nd,rfl⟩⟩;refine ⟨_,rfl,?_⟩)|(go_at_call 79;(with_reducible refine (beaconref06_number.calls a0_3 false _ A6.out).mono ?_);rintro e w' ⟨rfl,⟨nd,rfl⟩⟩))
    go_meet
    case rel => exact ⟨_,(true),ze,H',⟨zo⟩,⟨z1 K243.1⟩,⟨zH HB⟩⟩
  ·replace c5:=Bool.eq_false_iff.mpr c5;subst c5;rw [if_neg (show ¬ (false = true) by decide)] at H;have H':=zA H;clear H;obtain ⟨_,_,_,_,_,_,_,_,_,_,_,_,_,_,_,_,_,_,_,_,_,_,_,_⟩:=zc12 K243;go_wp2_with (first|((with_reducible refine gate_callee (f:=79) rfl ?_);refine zg (some 7) Try.func79 #[.int .i64 a0_1] ?_;(with_reducible refine (beaconref06_number.calls a0_1 false _ A4.out).mono ?_);rintro e w' ⟨rfl,⟨nd,rfl⟩⟩;refine ⟨_,rfl,?_⟩))
   go_meet
   case rel => exact ⟨_,(true),ze,H',⟨zo⟩,⟨z1 K243.1⟩,⟨zH HB⟩⟩
 case rest =>
  clear HC2;obtain ⟨kq,x46_1,rfl,HA,HJ1,K243,HB⟩:=hcut;cases kq with
  | zero => exact absurd HA.out (by simp [beaconref06_MayPacket.j0])
  | succ kj1 =>
   have H:=HA.out;clear HA;simp only [beaconref06_MayPacket.j0] at H;by_cases c34 : x46_1 = true
   ·subst c34;rw [if_pos rfl] at H;obtain rfl:=Option.some.inj H;go_wp2
    go_ret
    exact ⟨zE,zH HB⟩
   ·replace c34:=Bool.eq_false_iff.mpr c34;subst c34;rw [if_neg (show ¬ (false = true) by decide)] at H;have HC35:=zA H;clear H;go_upto_region 3 with (fail)
    go_cut [3] (fun v3 wc => ∃ (kq : Nat) (x3_34 : Bool),v3 = .bool x3_34 ∧ Aside0 (beaconref06_MayPacket.j1 kq x3_34 a0_0 a0_1 a0_2 a0_3 a0_4 a0_5 a0_6 a0_7 a0_8 a0_9 a0_10 a0_11 = some r) ∧ Aside0 (kq ≤ kj1) ∧ Aside0 (wc.heap[G243]? = some (.cells #[.int .i64 a0_0,.int .i64 a0_1,.int .i64 a0_2,.int .i64 a0_3,.int .i64 a0_4,.int .i64 a0_5,.int .u64 a0_6,.int .i64 a0_7,.string a0_8,.int .i64 a0_9,.int .i64 a0_10,.string a0_11] 48 (0,0))) ∧ Aside0 (Below w.heap.size w wc))
    case first =>
     have H:=HC35.out;clear HC35;replace H:=Option.bind_eq_some_iff.mp H;obtain ⟨t249,A360,H⟩:=H;(try dsimp only at H);have A36:=zA A360;clear A360;by_cases c37 : t249 = true
     ·subst c37;rw [if_pos rfl] at H;by_cases c38 : a0_10 = 0
      ·rw [if_pos c38] at H;have c38b0 : (a0_10 == 0) = true:=beq_iff_eq.mpr c38;have c38b1 : (a0_10 != 0) = false:=bne_eq_false_iff_eq.mpr c38;clear c38;(first|rw [c38b0]|(simp only [i64_w,i32_w];rw [c38b0])|skip)
       have H':=zA H;clear H;obtain ⟨_,_,_,_,_,_,_,_,_,_,_,_,_,_,_,_,_,_,_,_,_,_,_,_⟩:=zc12 K243;go_wp2_with (first|((with_reducible refine gate_callee (f:=79) rfl ?_);refine zg (some 49) Try.func79 #[.int .i64 a0_9] ?_;(with_reducible refine (beaconref06_number.calls a0_9 true _ A36.out).mono ?_);rintro e w' ⟨rfl,⟨nd,rfl⟩⟩;refine ⟨_,rfl,?_⟩))
       go_meet
       case rel => exact ⟨_,(true),ze,H',⟨by have:=HJ1.out;first|omega|exact Nat.le_refl _⟩,⟨z1 K243.1⟩,⟨zH HB⟩⟩
      ·rw [if_neg c38] at H;have c38b0 : (a0_10 == 0) = false:=beq_eq_false_iff_ne.mpr c38;have c38b1 : (a0_10 != 0) = true:=bne_iff_ne.mpr c38;(first|rw [c38b0]|(simp only [i64_w,i32_w];rw [c38b0])|skip)
       replace H:=Option.bind_eq_some_iff.mp H;obtain ⟨t250,A400,H⟩:=H;(try dsimp only at H);have A40:=zA A400;clear A400;have H':=zA H;clear H;obtain ⟨_,_,_,_,_,_,_,_,_,_,_,_,_,_,_,_,_,_,_,_,_,_,_,_⟩:=zc12 K243;go_wp2_with (first|((with_reducible refine gate_callee (f:=79) rfl ?_);refine zg (some 49) Try.func79 #[.int .i64 a0_9] ?_;(with_reducible refine (beaconref06_number.calls a0_9 true _ A36.out).mono ?_);rintro e w' ⟨rfl,⟨nd,rfl⟩⟩;refine ⟨_,rfl,?_⟩)|(go_at_call 79;(with_reducible refine (beaconref06_number.calls a0_10 t250 _ A40.out).mono ?_);rintro e w' ⟨rfl,⟨nd,rfl⟩⟩))
       go_meet
       case rel => exact ⟨_,(t250),ze,H',⟨by have:=HJ1.out;first|omega|exact Nat.le_refl _⟩,⟨z1 K243.1⟩,⟨zH HB⟩⟩
     ·replace c37:=Bool.eq_false_iff.mpr c37;subst c37;rw [if_neg (show ¬ (false = true) by decide)] at H;have H':=zA H;clear H;obtain ⟨_,_,_,_,_,_,_,_,_,_,_,_,_,_,_,_,_,_,_,_,_,_,_,_⟩:=zc12 K243;go_wp2_with (first|((with_reducible refine gate_callee (f:=79) rfl ?_);refine zg (some 49) Try.func79 #[.int .i64 a0_9] ?_;(with_reducible refine (beaconref06_number.calls a0_9 false _ A36.out).mono ?_);rintro e w' ⟨rfl,⟨nd,rfl⟩⟩;refine ⟨_,rfl,?_⟩))
      go_meet
      case rel => exact ⟨_,(false),ze,H',⟨by have:=HJ1.out;first|omega|exact Nat.le_refl _⟩,⟨z1 K243.1⟩,⟨zH HB⟩⟩
    case rest =>
     clear HC35;try clear c34
     obtain ⟨kq,x3_34,rfl,HA,HJ34,K243,HB⟩:=hcut;cases kq with
     | zero => exact absurd HA.out (by simp [beaconref06_MayPacket.j1])
     | succ kj34 =>
      have H:=HA.out;clear HA;simp only [beaconref06_MayPacket.j1] at H;have HC43:=zA H;clear H;go_upto_region 4 with (fail)
      go_cut [4] (fun v4 wc => ∃ (kq : Nat) (x4_42 : Bool),v4 = .bool x4_42 ∧ Aside0 (beaconref06_MayPacket.j2 kq x3_34 x4_42 a0_0 a0_1 a0_2 a0_3 a0_4 a0_5 a0_6 a0_7 a0_8 a0_9 a0_10 a0_11 = some r) ∧ Aside0 (kq ≤ kj34) ∧ Aside0 (wc.heap[G243]? = some (.cells #[.int .i64 a0_0,.int .i64 a0_1,.int .i64 a0_2,.int .i64 a0_3,.int .i64 a0_4,.int .i64 a0_5,.int .u64 a0_6,.int .i64 a0_7,.string a0_8,.int .i64 a0_9,.int .i64 a0_10,.string a0_11] 48 (0,0))) ∧ Aside0 (Below w.heap.size w wc))
      case first =>
       have H:=HC43.out;clear HC43;by_cases c44 : a0_9 = 0
       ·rw [if_pos c44] at H;have c44b0 : (a0_9 == 0) = true:=beq_iff_eq.mpr c44;have c44b1 : (a0_9 != 0) = false:=bne_eq_false_iff_eq.mpr c44;clear c44;(first|rw [c44b0]|(simp only [i64_w,i32_w];rw [c44b0])|skip)
        have H':=zA H;clear H;obtain ⟨_,_,_,_,_,_,_,_,_,_,_,_,_,_,_,_,_,_,_,_,_,_,_,_⟩:=zc12 K243;go_wp2
        go_meet
        case rel => exact ⟨_,((a0_10 == 0)),ze,H',⟨by have:=HJ1.out;have:=HJ34.out;first|omega|exact Nat.le_refl _⟩,⟨z1 K243.1⟩,⟨zH HB⟩⟩
       ·rw [if_neg c44] at H;have c44b0 : (a0_9 == 0) = false:=beq_eq_false_iff_ne.mpr c44;have c44b1 : (a0_9 != 0) = true:=bne_iff_ne.mpr c44;(first|rw [c44b0]|(simp only [i64_w,i32_w];rw [c44b0])|skip)
        have H':=zA H;clear H;obtain ⟨_,_,_,_,_,_,_,_,_,_,_,_,_,_,_,_,_,_,_,_,_,_,_,_⟩:=zc12 K243;go_wp2
        go_meet
        case rel => exact ⟨_,(false),ze,H',⟨by have:=HJ1.out;have:=HJ34.out;first|omega|exact Nat.le_refl _⟩,⟨z1 K243.1⟩,⟨zH HB⟩⟩
      case rest =>
       clear HC43;try clear c34
       obtain ⟨kq,x4_42,rfl,HA,HJ42,K243,HB⟩:=hcut;cases kq with
       | zero => exact absurd HA.out (by simp [beaconref06_MayPacket.j2])
       | succ kj42 =>
        have H:=HA.out;clear HA;simp only [beaconref06_MayPacket.j2] at H;by_cases c47 : a0_0 = 1
        ·rw [if_pos c47] at H;have c47b0 : (a0_0 == 1) = true:=beq_iff_eq.mpr c47;have c47b1 : (a0_0 != 1) = false:=bne_eq_false_iff_eq.mpr c47;clear c47;by_cases c48 : a0_7 = 0
         ·rw [if_pos c48] at H;have c48b0 : (a0_7 == 0) = true:=beq_iff_eq.mpr c48;have c48b1 : (a0_7 != 0) = false:=bne_eq_false_iff_eq.mpr c48;clear c48;by_cases c49 : a0_8.toList = ([] : List UInt8)
          ·rw [if_pos c49] at H;have c49b0 : (a0_8.toList == ([] : List UInt8)) = true:=beq_iff_eq.mpr c49;have c49b1 : (a0_8.toList != ([] : List UInt8)) = false:=bne_eq_false_iff_eq.mpr c49;clear c49;by_cases c50 : x4_42 = true
           ·subst c50;rw [if_pos rfl] at H;obtain rfl:=Option.some.inj H;obtain ⟨_,_,_,_,_,_,_,_,_,_,_,_,_,_,_,_,_,_,_,_,_,_,_,_⟩:=zc12 K243;go_wp2
            go_ret
            exact ⟨zE,zH HB⟩
           ·replace c50:=Bool.eq_false_iff.mpr c50;subst c50;rw [if_neg (show ¬ (false = true) by decide)] at H;obtain rfl:=Option.some.inj H;obtain ⟨_,_,_,_,_,_,_,_,_,_,_,_,_,_,_,_,_,_,_,_,_,_,_,_⟩:=zc12 K243;go_wp2
            go_ret
            exact ⟨zE,zH HB⟩
          ·rw [if_neg c49] at H;have c49b0 : (a0_8.toList == ([] : List UInt8)) = false:=beq_eq_false_iff_ne.mpr c49;have c49b1 : (a0_8.toList != ([] : List UInt8)) = true:=bne_iff_ne.mpr c49;obtain rfl:=Option.some.inj H;obtain ⟨_,_,_,_,_,_,_,_,_,_,_,_,_,_,_,_,_,_,_,_,_,_,_,_⟩:=zc12 K243;go_wp2
           go_ret
           exact ⟨zE,zH HB⟩
         ·rw [if_neg c48] at H;have c48b0 : (a0_7 == 0) = false:=beq_eq_false_iff_ne.mpr c48;have c48b1 : (a0_7 != 0) = true:=bne_iff_ne.mpr c48;obtain rfl:=Option.some.inj H;obtain ⟨_,_,_,_,_,_,_,_,_,_,_,_,_,_,_,_,_,_,_,_,_,_,_,_⟩:=zc12 K243;go_wp2
          go_ret
          exact ⟨zE,zH HB⟩
        ·rw [if_neg c47] at H;have c47b0 : (a0_0 == 1) = false:=beq_eq_false_iff_ne.mpr c47;have c47b1 : (a0_0 != 1) = true:=bne_iff_ne.mpr c47;by_cases c55 : a0_0 = 2
         ·rw [if_pos c55] at H;have c55b0 : (a0_0 == 2) = true:=beq_iff_eq.mpr c55;have c55b1 : (a0_0 != 2) = false:=bne_eq_false_iff_eq.mpr c55;clear c55;by_cases c56 : a0_7 = 0
          ·rw [if_pos c56] at H;have c56b0 : (a0_7 == 0) = true:=beq_iff_eq.mpr c56;have c56b1 : (a0_7 != 0) = false:=bne_eq_false_iff_eq.mpr c56;clear c56;replace H:=Option.bind_eq_some_iff.mp H;obtain ⟨t251,A570,H⟩:=H;(try dsimp only at H);have A57:=zA A570;clear A570;by_cases c58 : t251 = true
           ·subst c58;rw [if_pos rfl] at H;by_cases c59 : x3_34 = true
            ·subst c59;rw [if_pos rfl] at H;obtain rfl:=Option.some.inj H;obtain ⟨_,_,_,_,_,_,_,_,_,_,_,_,_,_,_,_,_,_,_,_,_,_,_,_⟩:=zc12 K243;go_wp2_with (first|(go_at_call 80;(with_reducible refine (beaconref06_name.calls kj42 a0_8 true _ A57.out).mono ?_);rintro e w' ⟨rfl,⟨nd,rfl⟩⟩))
             go_ret
             exact ⟨zE,zH HB⟩
            ·replace c59:=Bool.eq_false_iff.mpr c59;subst c59;rw [if_neg (show ¬ (false = true) by decide)] at H;obtain rfl:=Option.some.inj H;obtain ⟨_,_,_,_,_,_,_,_,_,_,_,_,_,_,_,_,_,_,_,_,_,_,_,_⟩:=zc12 K243;go_wp2_with (first|(go_at_call 80;(with_reducible refine (beaconref06_name.calls kj42 a0_8 true _ A57.out).mono ?_);rintro e w' ⟨rfl,⟨nd,rfl⟩⟩))
             go_ret
             exact ⟨zE,zH HB⟩
           ·replace c58:=Bool.eq_false_iff.mpr c58;subst c58;rw [if_neg (show ¬ (false = true) by decide)] at H;obtain rfl:=Option.some.inj H;obtain ⟨_,_,_,_,_,_,_,_,_,_,_,_,_,_,_,_,_,_,_,_,_,_,_,_⟩:=zc12 K243;go_wp2_with (first|(go_at_call 80;(with_reducible refine (beaconref06_name.calls kj42 a0_8 false _ A57.out).mono ?_);rintro e w' ⟨rfl,⟨nd,rfl⟩⟩))
            go_ret
            exact ⟨zE,zH HB⟩
          ·rw [if_neg c56] at H;have c56b0 : (a0_7 == 0) = false:=beq_eq_false_iff_ne.mpr c56;have c56b1 : (a0_7 != 0) = true:=bne_iff_ne.mpr c56;obtain rfl:=Option.some.inj H;obtain ⟨_,_,_,_,_,_,_,_,_,_,_,_,_,_,_,_,_,_,_,_,_,_,_,_⟩:=zc12 K243;go_wp2
           go_ret
           exact ⟨zE,zH HB⟩
         ·rw [if_neg c55] at H;have c55b0 : (a0_0 == 2) = false:=beq_eq_false_iff_ne.mpr c55;have c55b1 : (a0_0 != 2) = true:=bne_iff_ne.mpr c55;by_cases c64 : a0_0 = 3
          ·rw [if_pos c64] at H;have c64b0 : (a0_0 == 3) = true:=beq_iff_eq.mpr c64;have c64b1 : (a0_0 != 3) = false:=bne_eq_false_iff_eq.mpr c64;clear c64;by_cases c65 : a0_7 = 0
           ·rw [if_pos c65] at H;have c65b0 : (a0_7 == 0) = true:=beq_iff_eq.mpr c65;have c65b1 : (a0_7 != 0) = false:=bne_eq_false_iff_eq.mpr c65;clear c65;replace H:=Option.bind_eq_some_iff.mp H;obtain ⟨t252,A660,H⟩:=H;(try dsimp only at H);have A66:=zA A660;clear A660;by_cases c67 : t252 = true
            ·subst c67;rw [if_pos rfl] at H;by_cases c68 : x4_42 = true
             ·subst c68;rw [if_pos rfl] at H;obtain rfl:=Option.some.inj H;obtain ⟨_,_,_,_,_,_,_,_,_,_,_,_,_,_,_,_,_,_,_,_,_,_,_,_⟩:=zc12 K243;go_wp2_with (first|(go_at_call 80;(with_reducible refine (beaconref06_name.calls kj42 a0_8 true _ A66.out).mono ?_);rintro e w' ⟨rfl,⟨nd,rfl⟩⟩))
              go_ret
              exact ⟨zE,zH HB⟩
             ·replace c68:=Bool.eq_false_iff.mpr c68;subst c68;rw [if_neg (show ¬ (false = true) by decide)] at H;obtain rfl:=Option.some.inj H;obtain ⟨_,_,_,_,_,_,_,_,_,_,_,_,_,_,_,_,_,_,_,_,_,_,_,_⟩:=zc12 K243;go_wp2_with (first|(go_at_call 80;(with_reducible refine (beaconref06_name.calls kj42 a0_8 true _ A66.out).mono ?_);rintro e w' ⟨rfl,⟨nd,rfl⟩⟩))
              go_ret
              exact ⟨zE,zH HB⟩
            ·replace c67:=Bool.eq_false_iff.mpr c67;subst c67;rw [if_neg (show ¬ (false = true) by decide)] at H;obtain rfl:=Option.some.inj H;obtain ⟨_,_,_,_,_,_,_,_,_,_,_,_,_,_,_,_,_,_,_,_,_,_,_,_⟩:=zc12 K243;go_wp2_with (first|(go_at_call 80;(with_reducible refine (beaconref06_name.calls kj42 a0_8 false _ A66.out).mono ?_);rintro e w' ⟨rfl,⟨nd,rfl⟩⟩))
             go_ret
             exact ⟨zE,zH HB⟩
           ·rw [if_neg c65] at H;have c65b0 : (a0_7 == 0) = false:=beq_eq_false_iff_ne.mpr c65;have c65b1 : (a0_7 != 0) = true:=bne_iff_ne.mpr c65;obtain rfl:=Option.some.inj H;obtain ⟨_,_,_,_,_,_,_,_,_,_,_,_,_,_,_,_,_,_,_,_,_,_,_,_⟩:=zc12 K243;go_wp2
            go_ret
            exact ⟨zE,zH HB⟩
          ·rw [if_neg c64] at H;have c64b0 : (a0_0 == 3) = false:=beq_eq_false_iff_ne.mpr c64;have c64b1 : (a0_0 != 3) = true:=bne_iff_ne.mpr c64;by_cases c73 : a0_0 = 4
           ·rw [if_pos c73] at H;have c73b0 : (a0_0 == 4) = true:=beq_iff_eq.mpr c73;have c73b1 : (a0_0 != 4) = false:=bne_eq_false_iff_eq.mpr c73;clear c73;replace H:=Option.bind_eq_some_iff.mp H;obtain ⟨t253,A740,H⟩:=H;(try dsimp only at H);have A74:=zA A740;clear A740;by_cases c75 : t253 = true
            ·subst c75;rw [if_pos rfl] at H;by_cases c76 : a0_11.toList = ([] : List UInt8)
             ·rw [if_pos c76] at H;have c76b0 : (a0_11.toList == ([] : List UInt8)) = true:=beq_iff_eq.mpr c76;have c76b1 : (a0_11.toList != ([] : List UInt8)) = false:=bne_eq_false_iff_eq.mpr c76;clear c76;by_cases c77 : a0_7 = 0
              ·rw [if_pos c77] at H;have c77b0 : (a0_7 == 0) = true:=beq_iff_eq.mpr c77;have c77b1 : (a0_7 != 0) = false:=bne_eq_false_iff_eq.mpr c77;clear c77;by_cases c78 : x3_34 = true
               ·subst c78;rw [if_pos rfl] at H;obtain rfl:=Option.some.inj H;obtain ⟨_,_,_,_,_,_,_,_,_,_,_,_,_,_,_,_,_,_,_,_,_,_,_,_⟩:=zc12 K243;go_wp2_with (first|((with_reducible refine gate_callee (f:=80) rfl ?_);refine zg (some 129) Try.func80 #[.string a0_8] ?_;(with_reducible refine (beaconref06_name.calls kj42 a0_8 true _ A74.out).mono ?_);rintro e w' ⟨rfl,⟨nd,rfl⟩⟩;refine ⟨_,rfl,?_⟩))
                go_ret
                exact ⟨zE,zH HB⟩
               ·replace c78:=Bool.eq_false_iff.mpr c78;subst c78;rw [if_neg (show ¬ (false = true) by decide)] at H;by_cases c80 : a0_7 = 1
                ·rw [if_pos c80] at H;have c80b0 : (a0_7 == 1) = true:=beq_iff_eq.mpr c80;have c80b1 : (a0_7 != 1) = false:=bne_eq_false_iff_eq.mpr c80;clear c80;obtain rfl:=Option.some.inj H;obtain ⟨_,_,_,_,_,_,_,_,_,_,_,_,_,_,_,_,_,_,_,_,_,_,_,_⟩:=zc12 K243;go_wp2_with (first|((with_reducible refine gate_callee (f:=80) rfl ?_);refine zg (some 129) Try.func80 #[.string a0_8] ?_;(with_reducible refine (beaconref06_name.calls kj42 a0_8 true _ A74.out).mono ?_);rintro e w' ⟨rfl,⟨nd,rfl⟩⟩;refine ⟨_,rfl,?_⟩))
                 go_ret
                 exact ⟨zE,zH HB⟩
                ·rw [if_neg c80] at H;have c80b0 : (a0_7 == 1) = false:=beq_eq_false_iff_ne.mpr c80;have c80b1 : (a0_7 != 1) = true:=bne_iff_ne.mpr c80;obtain rfl:=Option.some.inj H;obtain ⟨_,_,_,_,_,_,_,_,_,_,_,_,_,_,_,_,_,_,_,_,_,_,_,_⟩:=zc12 K243;go_wp2_with (first|((with_reducible refine gate_callee (f:=80) rfl ?_);refine zg (some 129) Try.func80 #[.string a0_8] ?_;(with_reducible refine (beaconref06_name.calls kj42 a0_8 true _ A74.out).mono ?_);rintro e w' ⟨rfl,⟨nd,rfl⟩⟩;refine ⟨_,rfl,?_⟩))
                 go_ret
                 exact ⟨zE,zH HB⟩
              ·rw [if_neg c77] at H;have c77b0 : (a0_7 == 0) = false:=beq_eq_false_iff_ne.mpr c77;have c77b1 : (a0_7 != 0) = true:=bne_iff_ne.mpr c77;by_cases c83 : a0_7 = 1
               ·rw [if_pos c83] at H;have c83b0 : (a0_7 == 1) = true:=beq_iff_eq.mpr c83;have c83b1 : (a0_7 != 1) = false:=bne_eq_false_iff_eq.mpr c83;clear c83;obtain rfl:=Option.some.inj H;obtain ⟨_,_,_,_,_,_,_,_,_,_,_,_,_,_,_,_,_,_,_,_,_,_,_,_⟩:=zc12 K243;go_wp2_with (first|((with_reducible refine gate_callee (f:=80) rfl ?_);refine zg (some 129) Try.func80 #[.string a0_8] ?_;(with_reducible refine (beaconref06_name.calls kj42 a0_8 true _ A74.out).mono ?_);rintro e w' ⟨rfl,⟨nd,rfl⟩⟩;refine ⟨_,rfl,?_⟩))
                go_ret
                exact ⟨zE,zH HB⟩
               ·rw [if_neg c83] at H;have c83b0 : (a0_7 == 1) = false:=beq_eq_false_iff_ne.mpr c83;have c83b1 : (a0_7 != 1) = true:=bne_iff_ne.mpr c83;obtain rfl:=Option.some.inj H;obtain ⟨_,_,_,_,_,_,_,_,_,_,_,_,_,_,_,_,_,_,_,_,_,_,_,_⟩:=zc12 K243;go_wp2_with (first|((with_reducible refine gate_callee (f:=80) rfl ?_);refine zg (some 129) Try.func80 #[.string a0_8] ?_;(with_reducible refine (beaconref06_name.calls kj42 a0_8 true _ A74.out).mono ?_);rintro e w' ⟨rfl,⟨nd,rfl⟩⟩;refine ⟨_,rfl,?_⟩))
                go_ret
                exact ⟨zE,zH HB⟩
             ·rw [if_neg c76] at H;have c76b0 : (a0_11.toList == ([] : List UInt8)) = false:=beq_eq_false_iff_ne.mpr c76;have c76b1 : (a0_11.toList != ([] : List UInt8)) = true:=bne_iff_ne.mpr c76;obtain rfl:=Option.some.inj H;obtain ⟨_,_,_,_,_,_,_,_,_,_,_,_,_,_,_,_,_,_,_,_,_,_,_,_⟩:=zc12 K243;go_wp2_with (first|((with_reducible refine gate_callee (f:=80) rfl ?_);refine zg (some 129) Try.func80 #[.string a0_8] ?_;(with_reducible refine (beaconref06_name.calls kj42 a0_8 true _ A74.out).mono ?_);rintro e w' ⟨rfl,⟨nd,rfl⟩⟩;refine ⟨_,rfl,?_⟩))
              go_ret
              exact ⟨zE,zH HB⟩
            ·replace c75:=Bool.eq_false_iff.mpr c75;subst c75;rw [if_neg (show ¬ (false = true) by decide)] at H;obtain rfl:=Option.some.inj H;obtain ⟨_,_,_,_,_,_,_,_,_,_,_,_,_,_,_,_,_,_,_,_,_,_,_,_⟩:=zc12 K243;go_wp2_with (first|((with_reducible refine gate_callee (f:=80) rfl ?_);refine zg (some 129) Try.func80 #[.string a0_8] ?_;(with_reducible refine (beaconref06_name.calls kj42 a0_8 false _ A74.out).mono ?_);rintro e w' ⟨rfl,⟨nd,rfl⟩⟩;refine ⟨_,rfl,?_⟩))
             go_ret
             exact ⟨zE,zH HB⟩
           ·rw [if_neg c73] at H;have c73b0 : (a0_0 == 4) = false:=beq_eq_false_iff_ne.mpr c73;have c73b1 : (a0_0 != 4) = true:=bne_iff_ne.mpr c73;obtain rfl:=Option.some.inj H;obtain ⟨_,_,_,_,_,_,_,_,_,_,_,_,_,_,_,_,_,_,_,_,_,_,_,_⟩:=zc12 K243;go_wp2
            go_ret
            exact ⟨zE,zH HB⟩

end Go.Proofs.Ytgmjlhpigfaicaa.XF
