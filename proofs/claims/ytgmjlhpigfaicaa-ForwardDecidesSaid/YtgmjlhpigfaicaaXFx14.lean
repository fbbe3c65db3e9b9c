/- Go functions of this seat as Lean functions, with proofs that the calls come to them. (Written by xprint.py, a program of this session, over the kit's print.) -/
import Derived.Test.YtgmjlhpigfaicaaXFx0
import Derived.Test.YtgmjlhpigfaicaaXFx13
namespace Go.Proofs.Ytgmjlhpigfaicaa.XF
open Go.RowKit Go.Proofs.YtgmjlhpigfaicaaW.PrintWords Go.Proofs.YtgmjlhpigfaicaaW.PrintLast Go.Proofs.YtgmjlhpigfaicaaW.PrintMore
attribute [local go_sem] max2_int min2_int max_two min_two max_three min_three max_four min_four   -- for this text's walks alone
set_option linter.unusedVariables false
set_option linter.unusedSimpArgs false
open List renaming setIfInBounds_toArray → xA, set_cons_zero → xB, set_cons_succ → xC
open Go.Proofs.YtgmjlhpigfaicaaW.PrintWords renaming blk_drewN → bN, blk_drew → bD, blk_alloc → bA, below_set → bS, blk_frozen → bF, blk_cell → bC, cell_far → cF, blk_far → bZ, blk_below → bB, pw_below_drewN → bwN, below_drew1 → bw1, below_alloc → bwA
open Go.Proofs.YtgmjlhpigfaicaaW.PrintZ
open Bool renaming true → T,false → F

/-! ### beaconref06_MayPacket: function 59 -/
mutual
def beaconref06_MayPacket.j0 : Nat → Bool → Int → Int → Int → Int → Int → Int → Int → Int → ByteArray → Int → Int → ByteArray → Option (Bool)
 | 0, _, _, _, _, _, _, _, _, _, _, _, _, _ => none
 | k + 1, x46, x244000, x244001, x244002, x244003, x244004, x244005, x244006, x244007, x244008, x244009, x244010, x244011 => if x46 = true then (some false) else ((beaconref06_number.f x244009).bind fun t249 => (if t249 = true then (if x244010 = 0 then (beaconref06_MayPacket.j1 k true x244000 x244001 x244002 x244003 x244004 x244005 x244006 x244007 x244008 x244009 x244010 x244011) else ((beaconref06_number.f x244010).bind fun t250 => (beaconref06_MayPacket.j1 k t250 x244000 x244001 x244002 x244003 x244004 x244005 x244006 x244007 x244008 x244009 x244010 x244011))) else (beaconref06_MayPacket.j1 k false x244000 x244001 x244002 x244003 x244004 x244005 x244006 x244007 x244008 x244009 x244010 x244011)))
def beaconref06_MayPacket.j1 : Nat → Bool → Int → Int → Int → Int → Int → Int → Int → Int → ByteArray → Int → Int → ByteArray → Option (Bool)
 | 0, _, _, _, _, _, _, _, _, _, _, _, _, _ => none
 | k + 1, x3, x244000, x244001, x244002, x244003, x244004, x244005, x244006, x244007, x244008, x244009, x244010, x244011 => if x244009 = 0 then (beaconref06_MayPacket.j2 k x3 (x244010 == 0) x244000 x244001 x244002 x244003 x244004 x244005 x244006 x244007 x244008 x244009 x244010 x244011) else (beaconref06_MayPacket.j2 k x3 false x244000 x244001 x244002 x244003 x244004 x244005 x244006 x244007 x244008 x244009 x244010 x244011)
def beaconref06_MayPacket.j2 : Nat → Bool → Bool → Int → Int → Int → Int → Int → Int → Int → Int → ByteArray → Int → Int → ByteArray → Option (Bool)
 | 0, _, _, _, _, _, _, _, _, _, _, _, _, _, _ => none
 | k + 1, x3, x4, x244000, x244001, x244002, x244003, x244004, x244005, x244006, x244007, x244008, x244009, x244010, x244011 => if x244000 = 1 then (if x244007 = 0 then (if x244008.toList = ([] : List UInt8) then (if x4 = true then (some (decide ((x244011.size : Int) ≤ 1024))) else (some false)) else (some false)) else (some false)) else (if x244000 = 2 then (if x244007 = 0 then ((beaconref06_name.f k x244008).bind fun t251 => (if t251 = true then (if x3 = true then (some (x244011.toList == ([] : List UInt8))) else (some false)) else (some false))) else (some false)) else (if x244000 = 3 then (if x244007 = 0 then ((beaconref06_name.f k x244008).bind fun t252 => (if t252 = true then (if x4 = true then (some (x244011.toList == ([] : List UInt8))) else (some false)) else (some false))) else (some false)) else (if x244000 = 4 then ((beaconref06_name.f k x244008).bind fun t253 => (if t253 = true then (if x244011.toList = ([] : List UInt8) then (if x244007 = 0 then (if x3 = true then (some true) else (if x244007 = 1 then (some x4) else (some false))) else (if x244007 = 1 then (some x4) else (some false))) else (some false)) else (some false))) else (some false))))
end
def beaconref06_MayPacket.f (k : Nat) (a0_0 : Int) (a0_1 : Int) (a0_2 : Int) (a0_3 : Int) (a0_4 : Int) (a0_5 : Int) (a0_6 : Int) (a0_7 : Int) (a0_8 : ByteArray) (a0_9 : Int) (a0_10 : Int) (a0_11 : ByteArray) : Option (Bool) := (beaconref06_number.f a0_1).bind fun t244 => (if t244 = true then ((beaconref06_number.f a0_3).bind fun t245 => (if t245 = true then (if a0_2 = 0 then (if a0_4 = 0 then (if a0_5 < 0 then (beaconref06_MayPacket.j0 k true a0_0 a0_1 a0_2 a0_3 a0_4 a0_5 a0_6 a0_7 a0_8 a0_9 a0_10 a0_11) else (beaconref06_MayPacket.j0 k (decide (a0_5 > 65536)) a0_0 a0_1 a0_2 a0_3 a0_4 a0_5 a0_6 a0_7 a0_8 a0_9 a0_10 a0_11)) else ((beaconref06_number.f a0_4).bind fun t246 => (if t246 = true then (if a0_5 < 0 then (beaconref06_MayPacket.j0 k true a0_0 a0_1 a0_2 a0_3 a0_4 a0_5 a0_6 a0_7 a0_8 a0_9 a0_10 a0_11) else (beaconref06_MayPacket.j0 k (decide (a0_5 > 65536)) a0_0 a0_1 a0_2 a0_3 a0_4 a0_5 a0_6 a0_7 a0_8 a0_9 a0_10 a0_11)) else (beaconref06_MayPacket.j0 k true a0_0 a0_1 a0_2 a0_3 a0_4 a0_5 a0_6 a0_7 a0_8 a0_9 a0_10 a0_11)))) else ((beaconref06_number.f a0_2).bind fun t247 => (if t247 = true then (if a0_4 = 0 then (if a0_5 < 0 then (beaconref06_MayPacket.j0 k true a0_0 a0_1 a0_2 a0_3 a0_4 a0_5 a0_6 a0_7 a0_8 a0_9 a0_10 a0_11) else (beaconref06_MayPacket.j0 k (decide (a0_5 > 65536)) a0_0 a0_1 a0_2 a0_3 a0_4 a0_5 a0_6 a0_7 a0_8 a0_9 a0_10 a0_11)) else ((beaconref06_number.f a0_4).bind fun t248 => (if t248 = true then (if a0_5 < 0 then (beaconref06_MayPacket.j0 k true a0_0 a0_1 a0_2 a0_3 a0_4 a0_5 a0_6 a0_7 a0_8 a0_9 a0_10 a0_11) else (beaconref06_MayPacket.j0 k (decide (a0_5 > 65536)) a0_0 a0_1 a0_2 a0_3 a0_4 a0_5 a0_6 a0_7 a0_8 a0_9 a0_10 a0_11)) else (beaconref06_MayPacket.j0 k true a0_0 a0_1 a0_2 a0_3 a0_4 a0_5 a0_6 a0_7 a0_8 a0_9 a0_10 a0_11)))) else (beaconref06_MayPacket.j0 k true a0_0 a0_1 a0_2 a0_3 a0_4 a0_5 a0_6 a0_7 a0_8 a0_9 a0_10 a0_11)))) else (beaconref06_MayPacket.j0 k true a0_0 a0_1 a0_2 a0_3 a0_4 a0_5 a0_6 a0_7 a0_8 a0_9 a0_10 a0_11))) else (beaconref06_MayPacket.j0 k true a0_0 a0_1 a0_2 a0_3 a0_4 a0_5 a0_6 a0_7 a0_8 a0_9 a0_10 a0_11))
theorem beaconref06_MayPacket.mono_l : ∀ k, (∀ y0 y1 y2 y3 y4 y5 y6 y7 y8 y9 y10 y11 y12, LeO (beaconref06_MayPacket.j0 k y0 y1 y2 y3 y4 y5 y6 y7 y8 y9 y10 y11 y12) (beaconref06_MayPacket.j0 (k + 1) y0 y1 y2 y3 y4 y5 y6 y7 y8 y9 y10 y11 y12)) ∧ (∀ y0 y1 y2 y3 y4 y5 y6 y7 y8 y9 y10 y11 y12, LeO (beaconref06_MayPacket.j1 k y0 y1 y2 y3 y4 y5 y6 y7 y8 y9 y10 y11 y12) (beaconref06_MayPacket.j1 (k + 1) y0 y1 y2 y3 y4 y5 y6 y7 y8 y9 y10 y11 y12)) ∧ (∀ y0 y1 y2 y3 y4 y5 y6 y7 y8 y9 y10 y11 y12 y13, LeO (beaconref06_MayPacket.j2 k y0 y1 y2 y3 y4 y5 y6 y7 y8 y9 y10 y11 y12 y13) (beaconref06_MayPacket.j2 (k + 1) y0 y1 y2 y3 y4 y5 y6 y7 y8 y9 y10 y11 y12 y13))
 | 0 => ⟨fun _ _ _ _ _ _ _ _ _ _ _ _ _ r h => by simp [beaconref06_MayPacket.j0] at h, fun _ _ _ _ _ _ _ _ _ _ _ _ _ r h => by simp [beaconref06_MayPacket.j1] at h, fun _ _ _ _ _ _ _ _ _ _ _ _ _ _ r h => by simp [beaconref06_MayPacket.j2] at h⟩
 | k + 1 => by
  obtain ⟨ih0,ih1,ih2⟩:=beaconref06_MayPacket.mono_l k
  refine ⟨?_,?_,?_⟩
  ·intro y0 y1 y2 y3 y4 y5 y6 y7 y8 y9 y10 y11 y12
   unfold beaconref06_MayPacket.j0
   repeat' first
   | (with_reducible exact ih0 _ _ _ _ _ _ _ _ _ _ _ _ _)
   | (with_reducible exact ih1 _ _ _ _ _ _ _ _ _ _ _ _ _)
   | (with_reducible exact ih2 _ _ _ _ _ _ _ _ _ _ _ _ _ _)
   | (with_reducible exact beaconref06_name.mono _ _)
   | (with_reducible exact LeO.refl _)
   | (with_reducible exact LeO.none _)
   | (with_reducible refine LeO.ite ?_ ?_)
   | (with_reducible refine LeO.bind ?_ (fun _ => ?_))
   | exact ih0 _ _ _ _ _ _ _ _ _ _ _ _ _
   | exact ih1 _ _ _ _ _ _ _ _ _ _ _ _ _
   | exact ih2 _ _ _ _ _ _ _ _ _ _ _ _ _ _
   | exact beaconref06_name.mono _ _
   | exact LeO.none _
   | refine LeO.ite ?_ ?_
   | refine LeO.bind ?_ (fun _ => ?_)
  ·intro y0 y1 y2 y3 y4 y5 y6 y7 y8 y9 y10 y11 y12
   unfold beaconref06_MayPacket.j1
   repeat' first
   | (with_reducible exact ih0 _ _ _ _ _ _ _ _ _ _ _ _ _)
   | (with_reducible exact ih1 _ _ _ _ _ _ _ _ _ _ _ _ _)
   | (with_reducible exact ih2 _ _ _ _ _ _ _ _ _ _ _ _ _ _)
   | (with_reducible exact beaconref06_name.mono _ _)
   | (with_reducible exact LeO.refl _)
   | (with_reducible exact LeO.none _)
   | (with_reducible refine LeO.ite ?_ ?_)
   | (with_reducible refine LeO.bind ?_ (fun _ => ?_))
   | exact ih0 _ _ _ _ _ _ _ _ _ _ _ _ _
   | exact ih1 _ _ _ _ _ _ _ _ _ _ _ _ _
   | exact ih2 _ _ _ _ _ _ _ _ _ _ _ _ _ _
   | exact beaconref06_name.mono _ _
   | exact LeO.none _
   | refine LeO.ite ?_ ?_
   | refine LeO.bind ?_ (fun _ => ?_)
  ·intro y0 y1 y2 y3 y4 y5 y6 y7 y8 y9 y10 y11 y12 y13
   unfold beaconref06_MayPacket.j2
   repeat' first
   | (with_reducible exact ih0 _ _ _ _ _ _ _ _ _ _ _ _ _)
   | (with_reducible exact ih1 _ _ _ _ _ _ _ _ _ _ _ _ _)
   | (with_reducible exact ih2 _ _ _ _ _ _ _ _ _ _ _ _ _ _)
   | (with_reducible exact beaconref06_name.mono _ _)
   | (with_reducible exact LeO.refl _)
   | (with_reducible exact LeO.none _)
   | (with_reducible refine LeO.ite ?_ ?_)
   | (with_reducible refine LeO.bind ?_ (fun _ => ?_))
   | exact ih0 _ _ _ _ _ _ _ _ _ _ _ _ _
   | exact ih1 _ _ _ _ _ _ _ _ _ _ _ _ _
   | exact ih2 _ _ _ _ _ _ _ _ _ _ _ _ _ _
   | exact beaconref06_name.mono _ _
   | exact LeO.none _
   | refine LeO.ite ?_ ?_
   | refine LeO.bind ?_ (fun _ => ?_)
theorem beaconref06_MayPacket.mono : ∀ a0 a1 a2 a3 a4 a5 a6 a7 a8 a9 a10 a11 k, LeO (beaconref06_MayPacket.f k a0 a1 a2 a3 a4 a5 a6 a7 a8 a9 a10 a11) (beaconref06_MayPacket.f (k + 1) a0 a1 a2 a3 a4 a5 a6 a7 a8 a9 a10 a11) := by
 intro a0 a1 a2 a3 a4 a5 a6 a7 a8 a9 a10 a11 k
 obtain ⟨ih0,ih1,ih2⟩:=beaconref06_MayPacket.mono_l k
 unfold beaconref06_MayPacket.f
 repeat' first
   | (with_reducible exact ih0 _ _ _ _ _ _ _ _ _ _ _ _ _)
   | (with_reducible exact ih1 _ _ _ _ _ _ _ _ _ _ _ _ _)
   | (with_reducible exact ih2 _ _ _ _ _ _ _ _ _ _ _ _ _ _)
   | (with_reducible exact beaconref06_name.mono _ _)
   | (with_reducible exact LeO.refl _)
   | (with_reducible exact LeO.none _)
   | (with_reducible refine LeO.ite ?_ ?_)
   | (with_reducible refine LeO.bind ?_ (fun _ => ?_))
   | exact ih0 _ _ _ _ _ _ _ _ _ _ _ _ _
   | exact ih1 _ _ _ _ _ _ _ _ _ _ _ _ _
   | exact ih2 _ _ _ _ _ _ _ _ _ _ _ _ _ _
   | exact beaconref06_name.mono _ _
   | exact LeO.none _
   | refine LeO.ite ?_ ?_
   | refine LeO.bind ?_ (fun _ => ?_)
set_option maxHeartbeats 8000000 in
set_option maxRecDepth 100000 in
theorem beaconref06_MayPacket.calls (k : Nat) (a0_0 : Int) (a0_1 : Int) (a0_2 : Int) (a0_3 : Int) (a0_4 : Int) (a0_5 : Int) (a0_6 : Int) (a0_7 : Int) (a0_8 : ByteArray) (a0_9 : Int) (a0_10 : Int) (a0_11 : ByteArray) (r : Bool) (w : World) (h : beaconref06_MayPacket.f k a0_0 a0_1 a0_2 a0_3 a0_4 a0_5 a0_6 a0_7 a0_8 a0_9 a0_10 a0_11 = some r) :
  Calls Try.prog 59 #[.agg #[.int .i64 a0_0,.int .i64 a0_1,.int .i64 a0_2,.int .i64 a0_3,.int .i64 a0_4,.int .i64 a0_5,.int .u64 a0_6,.int .i64 a0_7,.string a0_8,.int .i64 a0_9,.int .i64 a0_10,.string a0_11]] w fun e w' => e = .returned (.bool r) ∧ Below w.heap.size w w':=by
 have hu48:=Try.underlying48
 have HB:=Aside0.mk (Below.refl w.heap.size w)
 have H : ((beaconref06_number.f a0_1).bind fun t244 => (if t244 = true then ((beaconref06_number.f a0_3).bind fun t245 => (if t245 = true then (if a0_2 = 0 then (if a0_4 = 0 then (if a0_5 < 0 then (beaconref06_MayPacket.j0 k true a0_0 a0_1 a0_2 a0_3 a0_4 a0_5 a0_6 a0_7 a0_8 a0_9 a0_10 a0_11) else (beaconref06_MayPacket.j0 k (decide (a0_5 > 65536)) a0_0 a0_1 a0_2 a0_3 a0_4 a0_5 a0_6 a0_7 a0_8 a0_9 a0_10 a0_11)) else ((beaconref06_number.f a0_4).bind fun t246 => (if t246 = true then (if a0_5 < 0 then (beaconref06_MayPacket.j0 k true a0_0 a0_1 a0_2 a0_3 a0_4 a0_5 a0_6 a0_7 a0_8 a0_9 a0_10 a0_11) else (beaconref06_MayPacket.j0 k (decide (a0_5 > 65536)) a0_0 a0_1 a0_2 a0_3 a0_4 a0_5 a0_6 a0_7 a0_8 a0_9 a0_10 a0_11)) else (beaconref06_MayPacket.j0 k true a0_0 a0_1 a0_2 a0_3 a0_4 a0_5 a0_6 a0_7 a0_8 a0_9 a0_10 a0_11)))) else ((beaconref06_number.f a0_2).bind fun t247 => (if t247 = true then (if a0_4 = 0 then (if a0_5 < 0 then (beaconref06_MayPacket.j0 k true a0_0 a0_1 a0_2 a0_3 a0_4 a0_5 a0_6 a0_7 a0_8 a0_9 a0_10 a0_11) else (beaconref06_MayPacket.j0 k (decide (a0_5 > 65536)) a0_0 a0_1 a0_2 a0_3 a0_4 a0_5 a0_6 a0_7 a0_8 a0_9 a0_10 a0_11)) else ((beaconref06_number.f a0_4).bind fun t248 => (if t248 = true then (if a0_5 < 0 then (beaconref06_MayPacket.j0 k true a0_0 a0_1 a0_2 a0_3 a0_4 a0_5 a0_6 a0_7 a0_8 a0_9 a0_10 a0_11) else (beaconref06_MayPacket.j0 k (decide (a0_5 > 65536)) a0_0 a0_1 a0_2 a0_3 a0_4 a0_5 a0_6 a0_7 a0_8 a0_9 a0_10 a0_11)) else (beaconref06_MayPacket.j0 k true a0_0 a0_1 a0_2 a0_3 a0_4 a0_5 a0_6 a0_7 a0_8 a0_9 a0_10 a0_11)))) else (beaconref06_MayPacket.j0 k true a0_0 a0_1 a0_2 a0_3 a0_4 a0_5 a0_6 a0_7 a0_8 a0_9 a0_10 a0_11)))) else (beaconref06_MayPacket.j0 k true a0_0 a0_1 a0_2 a0_3 a0_4 a0_5 a0_6 a0_7 a0_8 a0_9 a0_10 a0_11))) else (beaconref06_MayPacket.j0 k true a0_0 a0_1 a0_2 a0_3 a0_4 a0_5 a0_6 a0_7 a0_8 a0_9 a0_10 a0_11))) = some r:=h
 clear h
 have HC2:=Aside0.mk H
 clear H
 go_enter Try.func59,Try.ntmps59
 go_upto_region 1 with (first|((with_reducible refine gate_dst (N:=1) rfl ?_);(try (refine gate_guard (by rfl) ?_;dsimp only));refine zb (N:=1) (cs:=#[.int .i64 a0_0,.int .i64 a0_1,.int .i64 a0_2,.int .i64 a0_3,.int .i64 a0_4,.int .i64 a0_5,.int .u64 a0_6,.int .i64 a0_7,.string a0_8,.int .i64 a0_9,.int .i64 a0_10,.string a0_11]) (t:=48) ?_;intro G243 hg w3 hbox hb;have K243:=Aside0.mk (hbox);have GW243:=zN HB hg;have GE243:=zN HB hg;replace HB:=zS HB hb;clear hb hbox hg))
 (try simp only [Act.put,xA,xB,xC])
 go_cut [46] (fun v46 wc => ∃ (kq : Nat) (x46_1 : Bool),v46 = .bool x46_1 ∧ Aside0 (beaconref06_MayPacket.j0 kq x46_1 a0_0 a0_1 a0_2 a0_3 a0_4 a0_5 a0_6 a0_7 a0_8 a0_9 a0_10 a0_11 = some r) ∧ Aside0 (kq ≤ k) ∧ Aside0 (wc.heap[G243]? = some (.cells #[.int .i64 a0_0,.int .i64 a0_1,.int .i64 a0_2,.int .i64 a0_3,.int .i64 a0_4,.int .i64 a0_5,.int .u64 a0_6,.int .i64 a0_7,.string a0_8,.int .i64 a0_9,.int .i64 a0_10,.string a0_11] 48 (0,0))) ∧ Aside0 (Below w.heap.size w wc))
 case first =>
  have H:=HC2.out
  clear HC2
  replace H:=Option.bind_eq_some_iff.mp H
  obtain ⟨t244,A40,H⟩:=H
  (try dsimp only at H)
  have A4:=Aside0.mk A40
  clear A40
  by_cases c5 : t244 = true
  ·subst c5
   rw [if_pos rfl] at H
   replace H:=Option.bind_eq_some_iff.mp H
   obtain ⟨t245,A60,H⟩:=H
   (try dsimp only at H)
   have A6:=Aside0.mk A60
   clear A60
   by_cases c7 : t245 = true
   ·subst c7
    rw [if_pos rfl] at H
    by_cases c8 : a0_2 = 0
    ·rw [if_pos c8] at H
     have c8b0 : (a0_2 == 0) = true:=beq_iff_eq.mpr c8
     have c8b1 : (a0_2 != 0) = false:=bne_eq_false_iff_eq.mpr c8
     clear c8
     (first|rw [c8b0]|(simp only [i64_w,i32_w];rw [c8b0])|skip)
     by_cases c9 : a0_4 = 0
     ·rw [if_pos c9] at H
      have c9b0 : (a0_4 == 0) = true:=beq_iff_eq.mpr c9
      have c9b1 : (a0_4 != 0) = false:=bne_eq_false_iff_eq.mpr c9
      clear c9
      by_cases c10 : a0_5 < 0
      ·rw [if_pos c10] at H
       have c10b0 : decide (a0_5 < 0) = true:=decide_eq_true c10
       clear c10
       have H':=Aside0.mk H
       clear H
       obtain ⟨hcz11_0,hcz11_1,hcz11_2,hcz11_3,hcz11_4,hcz11_5,hcz11_6,hcz11_7,hcz11_8,hcz11_9,hcz11_10,hcz11_11,hfz11_0,hfz11_1,hfz11_2,hfz11_3,hfz11_4,hfz11_5,hfz11_6,hfz11_7,hfz11_8,hfz11_9,hfz11_10,hfz11_11⟩:=zc12 K243
       go_wp2_with (first|((with_reducible refine gate_callee (f:=79) rfl ?_);refine zg (some 7) Try.func79 #[.int .i64 a0_1] ?_;(with_reducible refine (beaconref06_number.calls a0_1 true _ A4.out).mono ?_);rintro e w' ⟨rfl,⟨nd,rfl⟩⟩;refine ⟨_,rfl,?_⟩)|(go_at_call 79;(with_reducible refine (beaconref06_number.calls a0_3 true _ A6.out).mono ?_);rintro e w' ⟨rfl,⟨nd,rfl⟩⟩))
       go_meet
       case rel => exact ⟨_,(true),ze,H',⟨zo⟩,⟨z1 K243.1⟩,⟨zH HB⟩⟩
      ·rw [if_neg c10] at H
       have c10b0 : decide (a0_5 < 0) = false:=decide_eq_false c10
       clear c10
       have H':=Aside0.mk H
       clear H
       obtain ⟨hcz12_0,hcz12_1,hcz12_2,hcz12_3,hcz12_4,hcz12_5,hcz12_6,hcz12_7,hcz12_8,hcz12_9,hcz12_10,hcz12_11,hfz12_0,hfz12_1,hfz12_2,hfz12_3,hfz12_4,hfz12_5,hfz12_6,hfz12_7,hfz12_8,hfz12_9,hfz12_10,hfz12_11⟩:=zc12 K243
       go_wp2_with (first|((with_reducible refine gate_callee (f:=79) rfl ?_);refine zg (some 7) Try.func79 #[.int .i64 a0_1] ?_;(with_reducible refine (beaconref06_number.calls a0_1 true _ A4.out).mono ?_);rintro e w' ⟨rfl,⟨nd,rfl⟩⟩;refine ⟨_,rfl,?_⟩)|(go_at_call 79;(with_reducible refine (beaconref06_number.calls a0_3 true _ A6.out).mono ?_);rintro e w' ⟨rfl,⟨nd,rfl⟩⟩))
       go_meet
       case rel => exact ⟨_,(decide (a0_5 > 65536)),ze,H',⟨zo⟩,⟨z1 K243.1⟩,⟨zH HB⟩⟩
     ·rw [if_neg c9] at H
      have c9b0 : (a0_4 == 0) = false:=beq_eq_false_iff_ne.mpr c9
      have c9b1 : (a0_4 != 0) = true:=bne_iff_ne.mpr c9
      replace H:=Option.bind_eq_some_iff.mp H
      obtain ⟨t246,A130,H⟩:=H
      (try dsimp only at H)
      have A13:=Aside0.mk A130
      clear A130
      by_cases c14 : t246 = true
      ·subst c14
       rw [if_pos rfl] at H
       by_cases c15 : a0_5 < 0
       ·rw [if_pos c15] at H
        have c15b0 : decide (a0_5 < 0) = true:=decide_eq_true c15
        clear c15
        have H':=Aside0.mk H
        clear H
        obtain ⟨hcz16_0,hcz16_1,hcz16_2,hcz16_3,hcz16_4,hcz16_5,hcz16_6,hcz16_7,hcz16_8,hcz16_9,hcz16_10,hcz16_11,hfz16_0,hfz16_1,hfz16_2,hfz16_3,hfz16_4,hfz16_5,hfz16_6,hfz16_7,hfz16_8,hfz16_9,hfz16_10,hfz16_11⟩:=zc12 K243
        go_wp2_with (first|((with_reducible refine gate_callee (f:=79) rfl ?_);refine zg (some 7) Try.func79 #[.int .i64 a0_1] ?_;(with_reducible refine (beaconref06_number.calls a0_1 true _ A4.out).mono ?_);rintro e w' ⟨rfl,⟨nd,rfl⟩⟩;refine ⟨_,rfl,?_⟩)|(go_at_call 79;(with_reducible refine (beaconref06_number.calls a0_3 true _ A6.out).mono ?_);rintro e w' ⟨rfl,⟨nd,rfl⟩⟩)|(go_at_call 79;(with_reducible refine (beaconref06_number.calls a0_4 true _ A13.out).mono ?_);rintro e w' ⟨rfl,⟨nd,rfl⟩⟩))
        go_meet
        case rel => exact ⟨_,(true),ze,H',⟨zo⟩,⟨z1 K243.1⟩,⟨zH HB⟩⟩
       ·rw [if_neg c15] at H
        have c15b0 : decide (a0_5 < 0) = false:=decide_eq_false c15
        clear c15
        have H':=Aside0.mk H
        clear H
        obtain ⟨hcz17_0,hcz17_1,hcz17_2,hcz17_3,hcz17_4,hcz17_5,hcz17_6,hcz17_7,hcz17_8,hcz17_9,hcz17_10,hcz17_11,hfz17_0,hfz17_1,hfz17_2,hfz17_3,hfz17_4,hfz17_5,hfz17_6,hfz17_7,hfz17_8,hfz17_9,hfz17_10,hfz17_11⟩:=zc12 K243
        go_wp2_with (first|((with_reducible refine gate_callee (f:=79) rfl ?_);refine zg (some 7) Try.func79 #[.int .i64 a0_1] ?_;(with_reducible refine (beaconref06_number.calls a0_1 true _ A4.out).mono ?_);rintro e w' ⟨rfl,⟨nd,rfl⟩⟩;refine ⟨_,rfl,?_⟩)|(go_at_call 79;(with_reducible refine (beaconref06_number.calls a0_3 true _ A6.out).mono ?_);rintro e w' ⟨rfl,⟨nd,rfl⟩⟩)|(go_at_call 79;(with_reducible refine (beaconref06_number.calls a0_4 true _ A13.out).mono ?_);rintro e w' ⟨rfl,⟨nd,rfl⟩⟩))
        go_meet
        case rel => exact ⟨_,(decide (a0_5 > 65536)),ze,H',⟨zo⟩,⟨z1 K243.1⟩,⟨zH HB⟩⟩
      ·replace c14:=Bool.eq_false_iff.mpr c14
       subst c14
       rw [if_neg (show ¬ (false = true) by decide)] at H
       have H':=Aside0.mk H
       clear H
       obtain ⟨hcz18_0,hcz18_1,hcz18_2,hcz18_3,hcz18_4,hcz18_5,hcz18_6,hcz18_7,hcz18_8,hcz18_9,hcz18_10,hcz18_11,hfz18_0,hfz18_1,hfz18_2,hfz18_3,hfz18_4,hfz18_5,hfz18_6,hfz18_7,hfz18_8,hfz18_9,hfz18_10,hfz18_11⟩:=zc12 K243
       go_wp2_with (first|((with_reducible refine gate_callee (f:=79) rfl ?_);refine zg (some 7) Try.func79 #[.int .i64 a0_1] ?_;(with_reducible refine (beaconref06_number.calls a0_1 true _ A4.out).mono ?_);rintro e w' ⟨rfl,⟨nd,rfl⟩⟩;refine ⟨_,rfl,?_⟩)|(go_at_call 79;(with_reducible refine (beaconref06_number.calls a0_3 true _ A6.out).mono ?_);rintro e w' ⟨rfl,⟨nd,rfl⟩⟩)|(go_at_call 79;(with_reducible refine (beaconref06_number.calls a0_4 false _ A13.out).mono ?_);rintro e w' ⟨rfl,⟨nd,rfl⟩⟩))
       go_meet
       case rel => exact ⟨_,(true),ze,H',⟨zo⟩,⟨z1 K243.1⟩,⟨zH HB⟩⟩
    ·rw [if_neg c8] at H
     have c8b0 : (a0_2 == 0) = false:=beq_eq_false_iff_ne.mpr c8
     have c8b1 : (a0_2 != 0) = true:=bne_iff_ne.mpr c8
     (first|rw [c8b0]|(simp only [i64_w,i32_w];rw [c8b0])|skip)
     replace H:=Option.bind_eq_some_iff.mp H
     obtain ⟨t247,A190,H⟩:=H
     (try dsimp only at H)
     have A19:=Aside0.mk A190
     clear A190
     by_cases c20 : t247 = true
     ·subst c20
      rw [if_pos rfl] at H
      by_cases c21 : a0_4 = 0
      ·rw [if_pos c21] at H
       have c21b0 : (a0_4 == 0) = true:=beq_iff_eq.mpr c21
       have c21b1 : (a0_4 != 0) = false:=bne_eq_false_iff_eq.mpr c21
       clear c21
       by_cases c22 : a0_5 < 0
       ·rw [if_pos c22] at H
        have c22b0 : decide (a0_5 < 0) = true:=decide_eq_true c22
        clear c22
        have H':=Aside0.mk H
        clear H
        obtain ⟨hcz23_0,hcz23_1,hcz23_2,hcz23_3,hcz23_4,hcz23_5,hcz23_6,hcz23_7,hcz23_8,hcz23_9,hcz23_10,hcz23_11,hfz23_0,hfz23_1,hfz23_2,hfz23_3,hfz23_4,hfz23_5,hfz23_6,hfz23_7,hfz23_8,hfz23_9,hfz23_10,hfz23_11⟩:=zc12 K243
        go_wp2_with (first|((with_reducible refine gate_callee (f:=79) rfl ?_);refine zg (some 7) Try.func79 #[.int .i64 a0_1] ?_;(with_reducible refine (beaconref06_number.calls a0_1 true _ A4.out).mono ?_);rintro e w' ⟨rfl,⟨nd,rfl⟩⟩;refine ⟨_,rfl,?_⟩)|(go_at_call 79;(with_reducible refine (beaconref06_number.calls a0_3 true _ A6.out).mono ?_);rintro e w' ⟨rfl,⟨nd,rfl⟩⟩)|(go_at_call 79;(with_reducible refine (beaconref06_number.calls a0_2 true _ A19.out).mono ?_);rintro e w' ⟨rfl,⟨nd,rfl⟩⟩))
        go_meet
        case rel => exact ⟨_,(true),ze,H',⟨zo⟩,⟨z1 K243.1⟩,⟨zH HB⟩⟩
       ·rw [if_neg c22] at H
        have c22b0 : decide (a0_5 < 0) = false:=decide_eq_false c22
        clear c22
        have H':=Aside0.mk H
        clear H
        obtain ⟨hcz24_0,hcz24_1,hcz24_2,hcz24_3,hcz24_4,hcz24_5,hcz24_6,hcz24_7,hcz24_8,hcz24_9,hcz24_10,hcz24_11,hfz24_0,hfz24_1,hfz24_2,hfz24_3,hfz24_4,hfz24_5,hfz24_6,hfz24_7,hfz24_8,hfz24_9,hfz24_10,hfz24_11⟩:=zc12 K243
        go_wp2_with (first|((with_reducible refine gate_callee (f:=79) rfl ?_);refine zg (some 7) Try.func79 #[.int .i64 a0_1] ?_;(with_reducible refine (beaconref06_number.calls a0_1 true _ A4.out).mono ?_);rintro e w' ⟨rfl,⟨nd,rfl⟩⟩;refine ⟨_,rfl,?_⟩)|(go_at_call 79;(with_reducible refine (beaconref06_number.calls a0_3 true _ A6.out).mono ?_);rintro e w' ⟨rfl,⟨nd,rfl⟩⟩)|(go_at_call 79;(with_reducible refine (beaconref06_number.calls a0_2 true _ A19.out).mono ?_);rintro e w' ⟨rfl,⟨nd,rfl⟩⟩))
        go_meet
        case rel => exact ⟨_,(decide (a0_5 > 65536)),ze,H',⟨zo⟩,⟨z1 K243.1⟩,⟨zH HB⟩⟩
      ·rw [if_neg c21] at H
       have c21b0 : (a0_4 == 0) = false:=beq_eq_false_iff_ne.mpr c21
       have c21b1 : (a0_4 != 0) = true:=bne_iff_ne.mpr c21
       replace H:=Option.bind_eq_some_iff.mp H
       obtain ⟨t248,A250,H⟩:=H
       (try dsimp only at H)
       have A25:=Aside0.mk A250
       clear A250
       by_cases c26 : t248 = true
       ·subst c26
        rw [if_pos rfl] at H
        by_cases c27 : a0_5 < 0
        ·rw [if_pos c27] at H
         have c27b0 : decide (a0_5 < 0) = true:=decide_eq_true c27
         clear c27
         have H':=Aside0.mk H
         clear H
         obtain ⟨hcz28_0,hcz28_1,hcz28_2,hcz28_3,hcz28_4,hcz28_5,hcz28_6,hcz28_7,hcz28_8,hcz28_9,hcz28_10,hcz28_11,hfz28_0,hfz28_1,hfz28_2,hfz28_3,hfz28_4,hfz28_5,hfz28_6,hfz28_7,hfz28_8,hfz28_9,hfz28_10,hfz28_11⟩:=zc12 K243
         go_wp2_with (first|((with_reducible refine gate_callee (f:=79) rfl ?_);refine zg (some 7) Try.func79 #[.int .i64 a0_1] ?_;(with_reducible refine (beaconref06_number.calls a0_1 true _ A4.out).mono ?_);rintro e w' ⟨rfl,⟨nd,rfl⟩⟩;refine ⟨_,rfl,?_⟩)|(go_at_call 79;(with_reducible refine (beaconref06_number.calls a0_3 true _ A6.out).mono ?_);rintro e w' ⟨rfl,⟨nd,rfl⟩⟩)|(go_at_call 79;(with_reducible refine (beaconref06_number.calls a0_2 true _ A19.out).mono ?_);rintro e w' ⟨rfl,⟨nd,rfl⟩⟩)|(go_at_call 79;(with_reducible refine (beaconref06_number.calls a0_4 true _ A25.out).mono ?_);rintro e w' ⟨rfl,⟨nd,rfl⟩⟩))
         go_meet
         case rel => exact ⟨_,(true),ze,H',⟨zo⟩,⟨z1 K243.1⟩,⟨zH HB⟩⟩
        ·rw [if_neg c27] at H
         have c27b0 : decide (a0_5 < 0) = false:=decide_eq_false c27
         clear c27
         have H':=Aside0.mk H
         clear H
         obtain ⟨hcz29_0,hcz29_1,hcz29_2,hcz29_3,hcz29_4,hcz29_5,hcz29_6,hcz29_7,hcz29_8,hcz29_9,hcz29_10,hcz29_11,hfz29_0,hfz29_1,hfz29_2,hfz29_3,hfz29_4,hfz29_5,hfz29_6,hfz29_7,hfz29_8,hfz29_9,hfz29_10,hfz29_11⟩:=zc12 K243
         go_wp2_with (first|((with_reducible refine gate_callee (f:=79) rfl ?_);refine zg (some 7) Try.func79 #[.int .i64 a0_1] ?_;(with_reducible refine (beaconref06_number.calls a0_1 true _ A4.out).mono ?_);rintro e w' ⟨rfl,⟨nd,rfl⟩⟩;refine ⟨_,rfl,?_⟩)|(go_at_call 79;(with_reducible refine (beaconref06_number.calls a0_3 true _ A6.out).mono ?_);rintro e w' ⟨rfl,⟨nd,rfl⟩⟩)|(go_at_call 79;(with_reducible refine (beaconref06_number.calls a0_2 true _ A19.out).mono ?_);rintro e w' ⟨rfl,⟨nd,rfl⟩⟩)|(go_at_call 79;(with_reducible refine (beaconref06_number.calls a0_4 true _ A25.out).mono ?_);rintro e w' ⟨rfl,⟨nd,rfl⟩⟩))
         go_meet
         case rel => exact ⟨_,(decide (a0_5 > 65536)),ze,H',⟨zo⟩,⟨z1 K243.1⟩,⟨zH HB⟩⟩
       ·replace c26:=Bool.eq_false_iff.mpr c26
        subst c26
        rw [if_neg (show ¬ (false = true) by decide)] at H
        have H':=Aside0.mk H
        clear H
        obtain ⟨hcz30_0,hcz30_1,hcz30_2,hcz30_3,hcz30_4,hcz30_5,hcz30_6,hcz30_7,hcz30_8,hcz30_9,hcz30_10,hcz30_11,hfz30_0,hfz30_1,hfz30_2,hfz30_3,hfz30_4,hfz30_5,hfz30_6,hfz30_7,hfz30_8,hfz30_9,hfz30_10,hfz30_11⟩:=zc12 K243
        go_wp2_with (first|((with_reducible refine gate_callee (f:=79) rfl ?_);refine zg (some 7) Try.func79 #[.int .i64 a0_1] ?_;(with_reducible refine (beaconref06_number.calls a0_1 true _ A4.out).mono ?_);rintro e w' ⟨rfl,⟨nd,rfl⟩⟩;refine ⟨_,rfl,?_⟩)|(go_at_call 79;(with_reducible refine (beaconref06_number.calls a0_3 true _ A6.out).mono ?_);rintro e w' ⟨rfl,⟨nd,rfl⟩⟩)|(go_at_call 79;(with_reducible refine (beaconref06_number.calls a0_2 true _ A19.out).mono ?_);rintro e w' ⟨rfl,⟨nd,rfl⟩⟩)|(go_at_call 79;(with_reducible refine (beaconref06_number.calls a0_4 false _ A25.out).mono ?_);rintro e w' ⟨rfl,⟨nd,rfl⟩⟩))
        go_meet
        case rel => exact ⟨_,(true),ze,H',⟨zo⟩,⟨z1 K243.1⟩,⟨zH HB⟩⟩
     ·replace c20:=Bool.eq_false_iff.mpr c20
      subst c20
      rw [if_neg (show ¬ (false = true) by decide)] at H
      have H':=Aside0.mk H
      clear H
      obtain ⟨hcz31_0,hcz31_1,hcz31_2,hcz31_3,hcz31_4,hcz31_5,hcz31_6,hcz31_7,hcz31_8,hcz31_9,hcz31_10,hcz31_11,hfz31_0,hfz31_1,hfz31_2,hfz31_3,hfz31_4,hfz31_5,hfz31_6,hfz31_7,hfz31_8,hfz31_9,hfz31_10,hfz31_11⟩:=zc12 K243
      go_wp2_with (first|((with_reducible refine gate_callee (f:=79) rfl ?_);refine zg (some 7) Try.func79 #[.int .i64 a0_1] ?_;(with_reducible refine (beaconref06_number.calls a0_1 true _ A4.out).mono ?_);rintro e w' ⟨rfl,⟨nd,rfl⟩⟩;refine ⟨_,rfl,?_⟩)|(go_at_call 79;(with_reducible refine (beaconref06_number.calls a0_3 true _ A6.out).mono ?_);rintro e w' ⟨rfl,⟨nd,rfl⟩⟩)|(go_at_call 79;(with_reducible refine (beaconref06_number.calls a0_2 false _ A19.out).mono ?_);rintro e w' ⟨rfl,⟨nd,rfl⟩⟩))
      go_meet
      case rel => exact ⟨_,(true),ze,H',⟨zo⟩,⟨z1 K243.1⟩,⟨zH HB⟩⟩
   ·replace c7:=Bool.eq_false_iff.mpr c7
    subst c7
    rw [if_neg (show ¬ (false = true) by decide)] at H
    have H':=Aside0.mk H
    clear H
    obtain ⟨hcz32_0,hcz32_1,hcz32_2,hcz32_3,hcz32_4,hcz32_5,hcz32_6,hcz32_7,hcz32_8,hcz32_9,hcz32_10,hcz32_11,hfz32_0,hfz32_1,hfz32_2,hfz32_3,hfz32_4,hfz32_5,hfz32_6,hfz32_7,hfz32_8,hfz32_9,hfz32_10,hfz32_11⟩:=zc12 K243
    go_wp2_with (first|((with_reducible refine gate_callee (f:=79) rfl ?_);refine zg (some 7) Try.func79 #[.int .i64 a0_1] ?_;(with_reducible refine (beaconref06_number.calls a0_1 true _ A4.out).mono ?_);rintro e w' ⟨rfl,⟨nd,rfl⟩⟩;refine ⟨_,rfl,?_⟩)|(go_at_call 79;(with_reducible refine (beaconref06_number.calls a0_3 false _ A6.out).mono ?_);rintro e w' ⟨rfl,⟨nd,rfl⟩⟩))
    go_meet
    case rel => exact ⟨_,(true),ze,H',⟨zo⟩,⟨z1 K243.1⟩,⟨zH HB⟩⟩
  ·replace c5:=Bool.eq_false_iff.mpr c5
   subst c5
   rw [if_neg (show ¬ (false = true) by decide)] at H
   have H':=Aside0.mk H
   clear H
   obtain ⟨hcz33_0,hcz33_1,hcz33_2,hcz33_3,hcz33_4,hcz33_5,hcz33_6,hcz33_7,hcz33_8,hcz33_9,hcz33_10,hcz33_11,hfz33_0,hfz33_1,hfz33_2,hfz33_3,hfz33_4,hfz33_5,hfz33_6,hfz33_7,hfz33_8,hfz33_9,hfz33_10,hfz33_11⟩:=zc12 K243
   go_wp2_with (first|((with_reducible refine gate_callee (f:=79) rfl ?_);refine zg (some 7) Try.func79 #[.int .i64 a0_1] ?_;(with_reducible refine (beaconref06_number.calls a0_1 false _ A4.out).mono ?_);rintro e w' ⟨rfl,⟨nd,rfl⟩⟩;refine ⟨_,rfl,?_⟩))
   go_meet
   case rel => exact ⟨_,(true),ze,H',⟨zo⟩,⟨z1 K243.1⟩,⟨zH HB⟩⟩
 case rest =>
  clear HC2
  obtain ⟨kq,x46_1,rfl,HA,HJ1,K243,HB⟩:=hcut
  cases kq with
  | zero => exact absurd HA.out (by simp [beaconref06_MayPacket.j0])
  | succ kj1 =>
   have H:=HA.out
   clear HA
   simp only [beaconref06_MayPacket.j0] at H
   by_cases c34 : x46_1 = true
   ·subst c34
    rw [if_pos rfl] at H
    obtain rfl:=Option.some.inj H
    go_wp2
    go_ret
    exact ⟨zE,zH HB⟩
   ·replace c34:=Bool.eq_false_iff.mpr c34
    subst c34
    rw [if_neg (show ¬ (false = true) by decide)] at H
    have HC35:=Aside0.mk H
    clear H
    go_upto_region 3 with (fail)
    go_cut [3] (fun v3 wc => ∃ (kq : Nat) (x3_34 : Bool),v3 = .bool x3_34 ∧ Aside0 (beaconref06_MayPacket.j1 kq x3_34 a0_0 a0_1 a0_2 a0_3 a0_4 a0_5 a0_6 a0_7 a0_8 a0_9 a0_10 a0_11 = some r) ∧ Aside0 (kq ≤ kj1) ∧ Aside0 (wc.heap[G243]? = some (.cells #[.int .i64 a0_0,.int .i64 a0_1,.int .i64 a0_2,.int .i64 a0_3,.int .i64 a0_4,.int .i64 a0_5,.int .u64 a0_6,.int .i64 a0_7,.string a0_8,.int .i64 a0_9,.int .i64 a0_10,.string a0_11] 48 (0,0))) ∧ Aside0 (Below w.heap.size w wc))
    case first =>
     have H:=HC35.out
     clear HC35
     replace H:=Option.bind_eq_some_iff.mp H
     obtain ⟨t249,A360,H⟩:=H
     (try dsimp only at H)
     have A36:=Aside0.mk A360
     clear A360
     by_cases c37 : t249 = true
     ·subst c37
      rw [if_pos rfl] at H
      by_cases c38 : a0_10 = 0
      ·rw [if_pos c38] at H
       have c38b0 : (a0_10 == 0) = true:=beq_iff_eq.mpr c38
       have c38b1 : (a0_10 != 0) = false:=bne_eq_false_iff_eq.mpr c38
       clear c38
       (first|rw [c38b0]|(simp only [i64_w,i32_w];rw [c38b0])|skip)
       have H':=Aside0.mk H
       clear H
       obtain ⟨hcz39_0,hcz39_1,hcz39_2,hcz39_3,hcz39_4,hcz39_5,hcz39_6,hcz39_7,hcz39_8,hcz39_9,hcz39_10,hcz39_11,hfz39_0,hfz39_1,hfz39_2,hfz39_3,hfz39_4,hfz39_5,hfz39_6,hfz39_7,hfz39_8,hfz39_9,hfz39_10,hfz39_11⟩:=zc12 K243
       go_wp2_with (first|((with_reducible refine gate_callee (f:=79) rfl ?_);refine zg (some 49) Try.func79 #[.int .i64 a0_9] ?_;(with_reducible refine (beaconref06_number.calls a0_9 true _ A36.out).mono ?_);rintro e w' ⟨rfl,⟨nd,rfl⟩⟩;refine ⟨_,rfl,?_⟩))
       go_meet
       case rel => exact ⟨_,(true),ze,H',⟨by have:=HJ1.out;first|omega|exact Nat.le_refl _⟩,⟨z1 K243.1⟩,⟨zH HB⟩⟩
      ·rw [if_neg c38] at H
       have c38b0 : (a0_10 == 0) = false:=beq_eq_false_iff_ne.mpr c38
       have c38b1 : (a0_10 != 0) = true:=bne_iff_ne.mpr c38
       (first|rw [c38b0]|(simp only [i64_w,i32_w];rw [c38b0])|skip)
       replace H:=Option.bind_eq_some_iff.mp H
       obtain ⟨t250,A400,H⟩:=H
       (try dsimp only at H)
       have A40:=Aside0.mk A400
       clear A400
       have H':=Aside0.mk H
       clear H
       obtain ⟨hcz41_0,hcz41_1,hcz41_2,hcz41_3,hcz41_4,hcz41_5,hcz41_6,hcz41_7,hcz41_8,hcz41_9,hcz41_10,hcz41_11,hfz41_0,hfz41_1,hfz41_2,hfz41_3,hfz41_4,hfz41_5,hfz41_6,hfz41_7,hfz41_8,hfz41_9,hfz41_10,hfz41_11⟩:=zc12 K243
       go_wp2_with (first|((with_reducible refine gate_callee (f:=79) rfl ?_);refine zg (some 49) Try.func79 #[.int .i64 a0_9] ?_;(with_reducible refine (beaconref06_number.calls a0_9 true _ A36.out).mono ?_);rintro e w' ⟨rfl,⟨nd,rfl⟩⟩;refine ⟨_,rfl,?_⟩)|(go_at_call 79;(with_reducible refine (beaconref06_number.calls a0_10 t250 _ A40.out).mono ?_);rintro e w' ⟨rfl,⟨nd,rfl⟩⟩))
       go_meet
       case rel => exact ⟨_,(t250),ze,H',⟨by have:=HJ1.out;first|omega|exact Nat.le_refl _⟩,⟨z1 K243.1⟩,⟨zH HB⟩⟩
     ·replace c37:=Bool.eq_false_iff.mpr c37
      subst c37
      rw [if_neg (show ¬ (false = true) by decide)] at H
      have H':=Aside0.mk H
      clear H
      obtain ⟨hcz42_0,hcz42_1,hcz42_2,hcz42_3,hcz42_4,hcz42_5,hcz42_6,hcz42_7,hcz42_8,hcz42_9,hcz42_10,hcz42_11,hfz42_0,hfz42_1,hfz42_2,hfz42_3,hfz42_4,hfz42_5,hfz42_6,hfz42_7,hfz42_8,hfz42_9,hfz42_10,hfz42_11⟩:=zc12 K243
      go_wp2_with (first|((with_reducible refine gate_callee (f:=79) rfl ?_);refine zg (some 49) Try.func79 #[.int .i64 a0_9] ?_;(with_reducible refine (beaconref06_number.calls a0_9 false _ A36.out).mono ?_);rintro e w' ⟨rfl,⟨nd,rfl⟩⟩;refine ⟨_,rfl,?_⟩))
      go_meet
      case rel => exact ⟨_,(false),ze,H',⟨by have:=HJ1.out;first|omega|exact Nat.le_refl _⟩,⟨z1 K243.1⟩,⟨zH HB⟩⟩
    case rest =>
     clear HC35
     try clear c34
     obtain ⟨kq,x3_34,rfl,HA,HJ34,K243,HB⟩:=hcut
     cases kq with
     | zero => exact absurd HA.out (by simp [beaconref06_MayPacket.j1])
     | succ kj34 =>
      have H:=HA.out
      clear HA
      simp only [beaconref06_MayPacket.j1] at H
      have HC43:=Aside0.mk H
      clear H
      go_upto_region 4 with (fail)
      go_cut [4] (fun v4 wc => ∃ (kq : Nat) (x4_42 : Bool),v4 = .bool x4_42 ∧ Aside0 (beaconref06_MayPacket.j2 kq x3_34 x4_42 a0_0 a0_1 a0_2 a0_3 a0_4 a0_5 a0_6 a0_7 a0_8 a0_9 a0_10 a0_11 = some r) ∧ Aside0 (kq ≤ kj34) ∧ Aside0 (wc.heap[G243]? = some (.cells #[.int .i64 a0_0,.int .i64 a0_1,.int .i64 a0_2,.int .i64 a0_3,.int .i64 a0_4,.int .i64 a0_5,.int .u64 a0_6,.int .i64 a0_7,.string a0_8,.int .i64 a0_9,.int .i64 a0_10,.string a0_11] 48 (0,0))) ∧ Aside0 (Below w.heap.size w wc))
      case first =>
       have H:=HC43.out
       clear HC43
       by_cases c44 : a0_9 = 0
       ·rw [if_pos c44] at H
        have c44b0 : (a0_9 == 0) = true:=beq_iff_eq.mpr c44
        have c44b1 : (a0_9 != 0) = false:=bne_eq_false_iff_eq.mpr c44
        clear c44
        (first|rw [c44b0]|(simp only [i64_w,i32_w];rw [c44b0])|skip)
        have H':=Aside0.mk H
        clear H
        obtain ⟨hcz45_0,hcz45_1,hcz45_2,hcz45_3,hcz45_4,hcz45_5,hcz45_6,hcz45_7,hcz45_8,hcz45_9,hcz45_10,hcz45_11,hfz45_0,hfz45_1,hfz45_2,hfz45_3,hfz45_4,hfz45_5,hfz45_6,hfz45_7,hfz45_8,hfz45_9,hfz45_10,hfz45_11⟩:=zc12 K243
        go_wp2
        go_meet
        case rel => exact ⟨_,((a0_10 == 0)),ze,H',⟨by have:=HJ1.out;have:=HJ34.out;first|omega|exact Nat.le_refl _⟩,⟨z1 K243.1⟩,⟨zH HB⟩⟩
       ·rw [if_neg c44] at H
        have c44b0 : (a0_9 == 0) = false:=beq_eq_false_iff_ne.mpr c44
        have c44b1 : (a0_9 != 0) = true:=bne_iff_ne.mpr c44
        (first|rw [c44b0]|(simp only [i64_w,i32_w];rw [c44b0])|skip)
        have H':=Aside0.mk H
        clear H
        obtain ⟨hcz46_0,hcz46_1,hcz46_2,hcz46_3,hcz46_4,hcz46_5,hcz46_6,hcz46_7,hcz46_8,hcz46_9,hcz46_10,hcz46_11,hfz46_0,hfz46_1,hfz46_2,hfz46_3,hfz46_4,hfz46_5,hfz46_6,hfz46_7,hfz46_8,hfz46_9,hfz46_10,hfz46_11⟩:=zc12 K243
        go_wp2
        go_meet
        case rel => exact ⟨_,(false),ze,H',⟨by have:=HJ1.out;have:=HJ34.out;first|omega|exact Nat.le_refl _⟩,⟨z1 K243.1⟩,⟨zH HB⟩⟩
      case rest =>
       clear HC43
       try clear c34
       obtain ⟨kq,x4_42,rfl,HA,HJ42,K243,HB⟩:=hcut
       cases kq with
       | zero => exact absurd HA.out (by simp [beaconref06_MayPacket.j2])
       | succ kj42 =>
        have H:=HA.out
        clear HA
        simp only [beaconref06_MayPacket.j2] at H
        by_cases c47 : a0_0 = 1
        ·rw [if_pos c47] at H
         have c47b0 : (a0_0 == 1) = true:=beq_iff_eq.mpr c47
         have c47b1 : (a0_0 != 1) = false:=bne_eq_false_iff_eq.mpr c47
         clear c47
         by_cases c48 : a0_7 = 0
         ·rw [if_pos c48] at H
          have c48b0 : (a0_7 == 0) = true:=beq_iff_eq.mpr c48
          have c48b1 : (a0_7 != 0) = false:=bne_eq_false_iff_eq.mpr c48
          clear c48
          by_cases c49 : a0_8.toList = ([] : List UInt8)
          ·rw [if_pos c49] at H
           have c49b0 : (a0_8.toList == ([] : List UInt8)) = true:=beq_iff_eq.mpr c49
           have c49b1 : (a0_8.toList != ([] : List UInt8)) = false:=bne_eq_false_iff_eq.mpr c49
           clear c49
           by_cases c50 : x4_42 = true
           ·subst c50
            rw [if_pos rfl] at H
            obtain rfl:=Option.some.inj H
            obtain ⟨hcz51_0,hcz51_1,hcz51_2,hcz51_3,hcz51_4,hcz51_5,hcz51_6,hcz51_7,hcz51_8,hcz51_9,hcz51_10,hcz51_11,hfz51_0,hfz51_1,hfz51_2,hfz51_3,hfz51_4,hfz51_5,hfz51_6,hfz51_7,hfz51_8,hfz51_9,hfz51_10,hfz51_11⟩:=zc12 K243
            go_wp2
            go_ret
            exact ⟨zE,zH HB⟩
           ·replace c50:=Bool.eq_false_iff.mpr c50
            subst c50
            rw [if_neg (show ¬ (false = true) by decide)] at H
            obtain rfl:=Option.some.inj H
            obtain ⟨hcz52_0,hcz52_1,hcz52_2,hcz52_3,hcz52_4,hcz52_5,hcz52_6,hcz52_7,hcz52_8,hcz52_9,hcz52_10,hcz52_11,hfz52_0,hfz52_1,hfz52_2,hfz52_3,hfz52_4,hfz52_5,hfz52_6,hfz52_7,hfz52_8,hfz52_9,hfz52_10,hfz52_11⟩:=zc12 K243
            go_wp2
            go_ret
            exact ⟨zE,zH HB⟩
          ·rw [if_neg c49] at H
           have c49b0 : (a0_8.toList == ([] : List UInt8)) = false:=beq_eq_false_iff_ne.mpr c49
           have c49b1 : (a0_8.toList != ([] : List UInt8)) = true:=bne_iff_ne.mpr c49
           obtain rfl:=Option.some.inj H
           obtain ⟨hcz53_0,hcz53_1,hcz53_2,hcz53_3,hcz53_4,hcz53_5,hcz53_6,hcz53_7,hcz53_8,hcz53_9,hcz53_10,hcz53_11,hfz53_0,hfz53_1,hfz53_2,hfz53_3,hfz53_4,hfz53_5,hfz53_6,hfz53_7,hfz53_8,hfz53_9,hfz53_10,hfz53_11⟩:=zc12 K243
           go_wp2
           go_ret
           exact ⟨zE,zH HB⟩
         ·rw [if_neg c48] at H
          have c48b0 : (a0_7 == 0) = false:=beq_eq_false_iff_ne.mpr c48
          have c48b1 : (a0_7 != 0) = true:=bne_iff_ne.mpr c48
          obtain rfl:=Option.some.inj H
          obtain ⟨hcz54_0,hcz54_1,hcz54_2,hcz54_3,hcz54_4,hcz54_5,hcz54_6,hcz54_7,hcz54_8,hcz54_9,hcz54_10,hcz54_11,hfz54_0,hfz54_1,hfz54_2,hfz54_3,hfz54_4,hfz54_5,hfz54_6,hfz54_7,hfz54_8,hfz54_9,hfz54_10,hfz54_11⟩:=zc12 K243
          go_wp2
          go_ret
          exact ⟨zE,zH HB⟩
        ·rw [if_neg c47] at H
         have c47b0 : (a0_0 == 1) = false:=beq_eq_false_iff_ne.mpr c47
         have c47b1 : (a0_0 != 1) = true:=bne_iff_ne.mpr c47
         by_cases c55 : a0_0 = 2
         ·rw [if_pos c55] at H
          have c55b0 : (a0_0 == 2) = true:=beq_iff_eq.mpr c55
          have c55b1 : (a0_0 != 2) = false:=bne_eq_false_iff_eq.mpr c55
          clear c55
          by_cases c56 : a0_7 = 0
          ·rw [if_pos c56] at H
           have c56b0 : (a0_7 == 0) = true:=beq_iff_eq.mpr c56
           have c56b1 : (a0_7 != 0) = false:=bne_eq_false_iff_eq.mpr c56
           clear c56
           replace H:=Option.bind_eq_some_iff.mp H
           obtain ⟨t251,A570,H⟩:=H
           (try dsimp only at H)
           have A57:=Aside0.mk A570
           clear A570
           by_cases c58 : t251 = true
           ·subst c58
            rw [if_pos rfl] at H
            by_cases c59 : x3_34 = true
            ·subst c59
             rw [if_pos rfl] at H
             obtain rfl:=Option.some.inj H
             obtain ⟨hcz60_0,hcz60_1,hcz60_2,hcz60_3,hcz60_4,hcz60_5,hcz60_6,hcz60_7,hcz60_8,hcz60_9,hcz60_10,hcz60_11,hfz60_0,hfz60_1,hfz60_2,hfz60_3,hfz60_4,hfz60_5,hfz60_6,hfz60_7,hfz60_8,hfz60_9,hfz60_10,hfz60_11⟩:=zc12 K243
             go_wp2_with (first|(go_at_call 80;(with_reducible refine (beaconref06_name.calls kj42 a0_8 true _ A57.out).mono ?_);rintro e w' ⟨rfl,⟨nd,rfl⟩⟩))
             go_ret
             exact ⟨zE,zH HB⟩
            ·replace c59:=Bool.eq_false_iff.mpr c59
             subst c59
             rw [if_neg (show ¬ (false = true) by decide)] at H
             obtain rfl:=Option.some.inj H
             obtain ⟨hcz61_0,hcz61_1,hcz61_2,hcz61_3,hcz61_4,hcz61_5,hcz61_6,hcz61_7,hcz61_8,hcz61_9,hcz61_10,hcz61_11,hfz61_0,hfz61_1,hfz61_2,hfz61_3,hfz61_4,hfz61_5,hfz61_6,hfz61_7,hfz61_8,hfz61_9,hfz61_10,hfz61_11⟩:=zc12 K243
             go_wp2_with (first|(go_at_call 80;(with_reducible refine (beaconref06_name.calls kj42 a0_8 true _ A57.out).mono ?_);rintro e w' ⟨rfl,⟨nd,rfl⟩⟩))
             go_ret
             exact ⟨zE,zH HB⟩
           ·replace c58:=Bool.eq_false_iff.mpr c58
            subst c58
            rw [if_neg (show ¬ (false = true) by decide)] at H
            obtain rfl:=Option.some.inj H
            obtain ⟨hcz62_0,hcz62_1,hcz62_2,hcz62_3,hcz62_4,hcz62_5,hcz62_6,hcz62_7,hcz62_8,hcz62_9,hcz62_10,hcz62_11,hfz62_0,hfz62_1,hfz62_2,hfz62_3,hfz62_4,hfz62_5,hfz62_6,hfz62_7,hfz62_8,hfz62_9,hfz62_10,hfz62_11⟩:=zc12 K243
            go_wp2_with (first|(go_at_call 80;(with_reducible refine (beaconref06_name.calls kj42 a0_8 false _ A57.out).mono ?_);rintro e w' ⟨rfl,⟨nd,rfl⟩⟩))
            go_ret
            exact ⟨zE,zH HB⟩
          ·rw [if_neg c56] at H
           have c56b0 : (a0_7 == 0) = false:=beq_eq_false_iff_ne.mpr c56
           have c56b1 : (a0_7 != 0) = true:=bne_iff_ne.mpr c56
           obtain rfl:=Option.some.inj H
           obtain ⟨hcz63_0,hcz63_1,hcz63_2,hcz63_3,hcz63_4,hcz63_5,hcz63_6,hcz63_7,hcz63_8,hcz63_9,hcz63_10,hcz63_11,hfz63_0,hfz63_1,hfz63_2,hfz63_3,hfz63_4,hfz63_5,hfz63_6,hfz63_7,hfz63_8,hfz63_9,hfz63_10,hfz63_11⟩:=zc12 K243
           go_wp2
           go_ret
           exact ⟨zE,zH HB⟩
         ·rw [if_neg c55] at H
          have c55b0 : (a0_0 == 2) = false:=beq_eq_false_iff_ne.mpr c55
          have c55b1 : (a0_0 != 2) = true:=bne_iff_ne.mpr c55
          by_cases c64 : a0_0 = 3
          ·rw [if_pos c64] at H
           have c64b0 : (a0_0 == 3) = true:=beq_iff_eq.mpr c64
           have c64b1 : (a0_0 != 3) = false:=bne_eq_false_iff_eq.mpr c64
           clear c64
           by_cases c65 : a0_7 = 0
           ·rw [if_pos c65] at H
            have c65b0 : (a0_7 == 0) = true:=beq_iff_eq.mpr c65
            have c65b1 : (a0_7 != 0) = false:=bne_eq_false_iff_eq.mpr c65
            clear c65
            replace H:=Option.bind_eq_some_iff.mp H
            obtain ⟨t252,A660,H⟩:=H
            (try dsimp only at H)
            have A66:=Aside0.mk A660
            clear A660
            by_cases c67 : t252 = true
            ·subst c67
             rw [if_pos rfl] at H
             by_cases c68 : x4_42 = true
             ·subst c68
              rw [if_pos rfl] at H
              obtain rfl:=Option.some.inj H
              obtain ⟨hcz69_0,hcz69_1,hcz69_2,hcz69_3,hcz69_4,hcz69_5,hcz69_6,hcz69_7,hcz69_8,hcz69_9,hcz69_10,hcz69_11,hfz69_0,hfz69_1,hfz69_2,hfz69_3,hfz69_4,hfz69_5,hfz69_6,hfz69_7,hfz69_8,hfz69_9,hfz69_10,hfz69_11⟩:=zc12 K243
              go_wp2_with (first|(go_at_call 80;(with_reducible refine (beaconref06_name.calls kj42 a0_8 true _ A66.out).mono ?_);rintro e w' ⟨rfl,⟨nd,rfl⟩⟩))
              go_ret
              exact ⟨zE,zH HB⟩
             ·replace c68:=Bool.eq_false_iff.mpr c68
              subst c68
              rw [if_neg (show ¬ (false = true) by decide)] at H
              obtain rfl:=Option.some.inj H
              obtain ⟨hcz70_0,hcz70_1,hcz70_2,hcz70_3,hcz70_4,hcz70_5,hcz70_6,hcz70_7,hcz70_8,hcz70_9,hcz70_10,hcz70_11,hfz70_0,hfz70_1,hfz70_2,hfz70_3,hfz70_4,hfz70_5,hfz70_6,hfz70_7,hfz70_8,hfz70_9,hfz70_10,hfz70_11⟩:=zc12 K243
              go_wp2_with (first|(go_at_call 80;(with_reducible refine (beaconref06_name.calls kj42 a0_8 true _ A66.out).mono ?_);rintro e w' ⟨rfl,⟨nd,rfl⟩⟩))
              go_ret
              exact ⟨zE,zH HB⟩
            ·replace c67:=Bool.eq_false_iff.mpr c67
             subst c67
             rw [if_neg (show ¬ (false = true) by decide)] at H
             obtain rfl:=Option.some.inj H
             obtain ⟨hcz71_0,hcz71_1,hcz71_2,hcz71_3,hcz71_4,hcz71_5,hcz71_6,hcz71_7,hcz71_8,hcz71_9,hcz71_10,hcz71_11,hfz71_0,hfz71_1,hfz71_2,hfz71_3,hfz71_4,hfz71_5,hfz71_6,hfz71_7,hfz71_8,hfz71_9,hfz71_10,hfz71_11⟩:=zc12 K243
             go_wp2_with (first|(go_at_call 80;(with_reducible refine (beaconref06_name.calls kj42 a0_8 false _ A66.out).mono ?_);rintro e w' ⟨rfl,⟨nd,rfl⟩⟩))
             go_ret
             exact ⟨zE,zH HB⟩
           ·rw [if_neg c65] at H
            have c65b0 : (a0_7 == 0) = false:=beq_eq_false_iff_ne.mpr c65
            have c65b1 : (a0_7 != 0) = true:=bne_iff_ne.mpr c65
            obtain rfl:=Option.some.inj H
            obtain ⟨hcz72_0,hcz72_1,hcz72_2,hcz72_3,hcz72_4,hcz72_5,hcz72_6,hcz72_7,hcz72_8,hcz72_9,hcz72_10,hcz72_11,hfz72_0,hfz72_1,hfz72_2,hfz72_3,hfz72_4,hfz72_5,hfz72_6,hfz72_7,hfz72_8,hfz72_9,hfz72_10,hfz72_11⟩:=zc12 K243
            go_wp2
            go_ret
            exact ⟨zE,zH HB⟩
          ·rw [if_neg c64] at H
           have c64b0 : (a0_0 == 3) = false:=beq_eq_false_iff_ne.mpr c64
           have c64b1 : (a0_0 != 3) = true:=bne_iff_ne.mpr c64
           by_cases c73 : a0_0 = 4
           ·rw [if_pos c73] at H
            have c73b0 : (a0_0 == 4) = true:=beq_iff_eq.mpr c73
            have c73b1 : (a0_0 != 4) = false:=bne_eq_false_iff_eq.mpr c73
            clear c73
            replace H:=Option.bind_eq_some_iff.mp H
            obtain ⟨t253,A740,H⟩:=H
            (try dsimp only at H)
            have A74:=Aside0.mk A740
            clear A740
            by_cases c75 : t253 = true
            ·subst c75
             rw [if_pos rfl] at H
             by_cases c76 : a0_11.toList = ([] : List UInt8)
             ·rw [if_pos c76] at H
              have c76b0 : (a0_11.toList == ([] : List UInt8)) = true:=beq_iff_eq.mpr c76
              have c76b1 : (a0_11.toList != ([] : List UInt8)) = false:=bne_eq_false_iff_eq.mpr c76
              clear c76
              by_cases c77 : a0_7 = 0
              ·rw [if_pos c77] at H
               have c77b0 : (a0_7 == 0) = true:=beq_iff_eq.mpr c77
               have c77b1 : (a0_7 != 0) = false:=bne_eq_false_iff_eq.mpr c77
               clear c77
               by_cases c78 : x3_34 = true
               ·subst c78
                rw [if_pos rfl] at H
                obtain rfl:=Option.some.inj H
                obtain ⟨hcz79_0,hcz79_1,hcz79_2,hcz79_3,hcz79_4,hcz79_5,hcz79_6,hcz79_7,hcz79_8,hcz79_9,hcz79_10,hcz79_11,hfz79_0,hfz79_1,hfz79_2,hfz79_3,hfz79_4,hfz79_5,hfz79_6,hfz79_7,hfz79_8,hfz79_9,hfz79_10,hfz79_11⟩:=zc12 K243
                go_wp2_with (first|((with_reducible refine gate_callee (f:=80) rfl ?_);refine zg (some 129) Try.func80 #[.string a0_8] ?_;(with_reducible refine (beaconref06_name.calls kj42 a0_8 true _ A74.out).mono ?_);rintro e w' ⟨rfl,⟨nd,rfl⟩⟩;refine ⟨_,rfl,?_⟩))
                go_ret
                exact ⟨zE,zH HB⟩
               ·replace c78:=Bool.eq_false_iff.mpr c78
                subst c78
                rw [if_neg (show ¬ (false = true) by decide)] at H
                by_cases c80 : a0_7 = 1
                ·rw [if_pos c80] at H
                 have c80b0 : (a0_7 == 1) = true:=beq_iff_eq.mpr c80
                 have c80b1 : (a0_7 != 1) = false:=bne_eq_false_iff_eq.mpr c80
                 clear c80
                 obtain rfl:=Option.some.inj H
                 obtain ⟨hcz81_0,hcz81_1,hcz81_2,hcz81_3,hcz81_4,hcz81_5,hcz81_6,hcz81_7,hcz81_8,hcz81_9,hcz81_10,hcz81_11,hfz81_0,hfz81_1,hfz81_2,hfz81_3,hfz81_4,hfz81_5,hfz81_6,hfz81_7,hfz81_8,hfz81_9,hfz81_10,hfz81_11⟩:=zc12 K243
                 go_wp2_with (first|((with_reducible refine gate_callee (f:=80) rfl ?_);refine zg (some 129) Try.func80 #[.string a0_8] ?_;(with_reducible refine (beaconref06_name.calls kj42 a0_8 true _ A74.out).mono ?_);rintro e w' ⟨rfl,⟨nd,rfl⟩⟩;refine ⟨_,rfl,?_⟩))
                 go_ret
                 exact ⟨zE,zH HB⟩
                ·rw [if_neg c80] at H
                 have c80b0 : (a0_7 == 1) = false:=beq_eq_false_iff_ne.mpr c80
                 have c80b1 : (a0_7 != 1) = true:=bne_iff_ne.mpr c80
                 obtain rfl:=Option.some.inj H
                 obtain ⟨hcz82_0,hcz82_1,hcz82_2,hcz82_3,hcz82_4,hcz82_5,hcz82_6,hcz82_7,hcz82_8,hcz82_9,hcz82_10,hcz82_11,hfz82_0,hfz82_1,hfz82_2,hfz82_3,hfz82_4,hfz82_5,hfz82_6,hfz82_7,hfz82_8,hfz82_9,hfz82_10,hfz82_11⟩:=zc12 K243
                 go_wp2_with (first|((with_reducible refine gate_callee (f:=80) rfl ?_);refine zg (some 129) Try.func80 #[.string a0_8] ?_;(with_reducible refine (beaconref06_name.calls kj42 a0_8 true _ A74.out).mono ?_);rintro e w' ⟨rfl,⟨nd,rfl⟩⟩;refine ⟨_,rfl,?_⟩))
                 go_ret
                 exact ⟨zE,zH HB⟩
              ·rw [if_neg c77] at H
               have c77b0 : (a0_7 == 0) = false:=beq_eq_false_iff_ne.mpr c77
               have c77b1 : (a0_7 != 0) = true:=bne_iff_ne.mpr c77
               by_cases c83 : a0_7 = 1
               ·rw [if_pos c83] at H
                have c83b0 : (a0_7 == 1) = true:=beq_iff_eq.mpr c83
                have c83b1 : (a0_7 != 1) = false:=bne_eq_false_iff_eq.mpr c83
                clear c83
                obtain rfl:=Option.some.inj H
                obtain ⟨hcz84_0,hcz84_1,hcz84_2,hcz84_3,hcz84_4,hcz84_5,hcz84_6,hcz84_7,hcz84_8,hcz84_9,hcz84_10,hcz84_11,hfz84_0,hfz84_1,hfz84_2,hfz84_3,hfz84_4,hfz84_5,hfz84_6,hfz84_7,hfz84_8,hfz84_9,hfz84_10,hfz84_11⟩:=zc12 K243
                go_wp2_with (first|((with_reducible refine gate_callee (f:=80) rfl ?_);refine zg (some 129) Try.func80 #[.string a0_8] ?_;(with_reducible refine (beaconref06_name.calls kj42 a0_8 true _ A74.out).mono ?_);rintro e w' ⟨rfl,⟨nd,rfl⟩⟩;refine ⟨_,rfl,?_⟩))
                go_ret
                exact ⟨zE,zH HB⟩
               ·rw [if_neg c83] at H
                have c83b0 : (a0_7 == 1) = false:=beq_eq_false_iff_ne.mpr c83
                have c83b1 : (a0_7 != 1) = true:=bne_iff_ne.mpr c83
                obtain rfl:=Option.some.inj H
                obtain ⟨hcz85_0,hcz85_1,hcz85_2,hcz85_3,hcz85_4,hcz85_5,hcz85_6,hcz85_7,hcz85_8,hcz85_9,hcz85_10,hcz85_11,hfz85_0,hfz85_1,hfz85_2,hfz85_3,hfz85_4,hfz85_5,hfz85_6,hfz85_7,hfz85_8,hfz85_9,hfz85_10,hfz85_11⟩:=zc12 K243
                go_wp2_with (first|((with_reducible refine gate_callee (f:=80) rfl ?_);refine zg (some 129) Try.func80 #[.string a0_8] ?_;(with_reducible refine (beaconref06_name.calls kj42 a0_8 true _ A74.out).mono ?_);rintro e w' ⟨rfl,⟨nd,rfl⟩⟩;refine ⟨_,rfl,?_⟩))
                go_ret
                exact ⟨zE,zH HB⟩
             ·rw [if_neg c76] at H
              have c76b0 : (a0_11.toList == ([] : List UInt8)) = false:=beq_eq_false_iff_ne.mpr c76
              have c76b1 : (a0_11.toList != ([] : List UInt8)) = true:=bne_iff_ne.mpr c76
              obtain rfl:=Option.some.inj H
              obtain ⟨hcz86_0,hcz86_1,hcz86_2,hcz86_3,hcz86_4,hcz86_5,hcz86_6,hcz86_7,hcz86_8,hcz86_9,hcz86_10,hcz86_11,hfz86_0,hfz86_1,hfz86_2,hfz86_3,hfz86_4,hfz86_5,hfz86_6,hfz86_7,hfz86_8,hfz86_9,hfz86_10,hfz86_11⟩:=zc12 K243
              go_wp2_with (first|((with_reducible refine gate_callee (f:=80) rfl ?_);refine zg (some 129) Try.func80 #[.string a0_8] ?_;(with_reducible refine (beaconref06_name.calls kj42 a0_8 true _ A74.out).mono ?_);rintro e w' ⟨rfl,⟨nd,rfl⟩⟩;refine ⟨_,rfl,?_⟩))
              go_ret
              exact ⟨zE,zH HB⟩
            ·replace c75:=Bool.eq_false_iff.mpr c75
             subst c75
             rw [if_neg (show ¬ (false = true) by decide)] at H
             obtain rfl:=Option.some.inj H
             obtain ⟨hcz87_0,hcz87_1,hcz87_2,hcz87_3,hcz87_4,hcz87_5,hcz87_6,hcz87_7,hcz87_8,hcz87_9,hcz87_10,hcz87_11,hfz87_0,hfz87_1,hfz87_2,hfz87_3,hfz87_4,hfz87_5,hfz87_6,hfz87_7,hfz87_8,hfz87_9,hfz87_10,hfz87_11⟩:=zc12 K243
             go_wp2_with (first|((with_reducible refine gate_callee (f:=80) rfl ?_);refine zg (some 129) Try.func80 #[.string a0_8] ?_;(with_reducible refine (beaconref06_name.calls kj42 a0_8 false _ A74.out).mono ?_);rintro e w' ⟨rfl,⟨nd,rfl⟩⟩;refine ⟨_,rfl,?_⟩))
             go_ret
             exact ⟨zE,zH HB⟩
           ·rw [if_neg c73] at H
            have c73b0 : (a0_0 == 4) = false:=beq_eq_false_iff_ne.mpr c73
            have c73b1 : (a0_0 != 4) = true:=bne_iff_ne.mpr c73
            obtain rfl:=Option.some.inj H
            obtain ⟨hcz88_0,hcz88_1,hcz88_2,hcz88_3,hcz88_4,hcz88_5,hcz88_6,hcz88_7,hcz88_8,hcz88_9,hcz88_10,hcz88_11,hfz88_0,hfz88_1,hfz88_2,hfz88_3,hfz88_4,hfz88_5,hfz88_6,hfz88_7,hfz88_8,hfz88_9,hfz88_10,hfz88_11⟩:=zc12 K243
            go_wp2
            go_ret
            exact ⟨zE,zH HB⟩

end Go.Proofs.Ytgmjlhpigfaicaa.XF
