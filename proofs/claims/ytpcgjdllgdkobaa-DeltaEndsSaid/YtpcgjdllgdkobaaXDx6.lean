/- Go functions of this seat as Lean functions, with proofs that the calls come to them. (Written by xprint.py, a program of this session, over the kit's print.) -/
import Derived.Test.YtpcgjdllgdkobaaXDx0
import Derived.Test.YtpcgjdllgdkobaaXDx3
import Derived.Test.YtpcgjdllgdkobaaXDx5
namespace Go.Proofs.Ytpcgjdllgdkobaa.XD
open Go.RowKit Go.Proofs.YtpcgjdllgdkobaaW.PrintWords Go.Proofs.YtpcgjdllgdkobaaW.PrintLast Go.Proofs.YtpcgjdllgdkobaaW.PrintMore
attribute [local go_sem] max2_int min2_int max_two min_two max_three min_three max_four min_four   -- for this text's walks alone
set_option linter.unusedVariables false
set_option linter.unusedSimpArgs false
open List renaming setIfInBounds_toArray → xA, set_cons_zero → xB, set_cons_succ → xC
open Go.Proofs.YtpcgjdllgdkobaaW.PrintWords renaming blk_drewN → bN, blk_drew → bD, blk_alloc → bA, below_set → bS, blk_frozen → bF, blk_cell → bC, cell_far → cF, blk_far → bZ, blk_below → bB, pw_below_drewN → bwN, below_drew1 → bw1, below_alloc → bwA
open Go.Proofs.YtpcgjdllgdkobaaW.PrintZ
open Bool renaming true → T,false → F

/-! ### message_packet: function 57 -/
mutual
def message_packet.j0 : Nat → Bool → Int → Int → Int → Int → Int → Int → Int → Int → ByteArray → Int → Int → ByteArray → Option (Bool)
 | 0, _, _, _, _, _, _, _, _, _, _, _, _, _ => none
 | k + 1, x47, x126000, x126001, x126002, x126003, x126004, x126005, x126006, x126007, x126008, x126009, x126010, x126011 => if x47 = true then (some false) else (if x126009 = 0 then (message_packet.j1 k false x126000 x126001 x126002 x126003 x126004 x126005 x126006 x126007 x126008 x126009 x126010 x126011) else ((message_number.f x126009).bind fun t131 => (if t131 = true then (if x126010 = 0 then (message_packet.j1 k true x126000 x126001 x126002 x126003 x126004 x126005 x126006 x126007 x126008 x126009 x126010 x126011) else ((message_number.f x126010).bind fun t132 => (message_packet.j1 k t132 x126000 x126001 x126002 x126003 x126004 x126005 x126006 x126007 x126008 x126009 x126010 x126011))) else (message_packet.j1 k false x126000 x126001 x126002 x126003 x126004 x126005 x126006 x126007 x126008 x126009 x126010 x126011))))
def message_packet.j1 : Nat → Bool → Int → Int → Int → Int → Int → Int → Int → Int → ByteArray → Int → Int → ByteArray → Option (Bool)
 | 0, _, _, _, _, _, _, _, _, _, _, _, _, _ => none
 | k + 1, x3, x126000, x126001, x126002, x126003, x126004, x126005, x126006, x126007, x126008, x126009, x126010, x126011 => if x126009 = 0 then (message_packet.j2 k x3 (x126010 == 0) x126000 x126001 x126002 x126003 x126004 x126005 x126006 x126007 x126008 x126009 x126010 x126011) else (message_packet.j2 k x3 false x126000 x126001 x126002 x126003 x126004 x126005 x126006 x126007 x126008 x126009 x126010 x126011)
def message_packet.j2 : Nat → Bool → Bool → Int → Int → Int → Int → Int → Int → Int → Int → ByteArray → Int → Int → ByteArray → Option (Bool)
 | 0, _, _, _, _, _, _, _, _, _, _, _, _, _, _ => none
 | k + 1, x3, x4, x126000, x126001, x126002, x126003, x126004, x126005, x126006, x126007, x126008, x126009, x126010, x126011 => (ident_CheckName.f k x126008).bind fun t133 => (if t133 = 0 then (message_packet.j3 k x3 x4 (x126011.toList == ([] : List UInt8)) x126000 x126001 x126002 x126003 x126004 x126005 x126006 x126007 x126008 x126009 x126010 x126011) else (message_packet.j3 k x3 x4 false x126000 x126001 x126002 x126003 x126004 x126005 x126006 x126007 x126008 x126009 x126010 x126011))
def message_packet.j3 : Nat → Bool → Bool → Bool → Int → Int → Int → Int → Int → Int → Int → Int → ByteArray → Int → Int → ByteArray → Option (Bool)
 | 0, _, _, _, _, _, _, _, _, _, _, _, _, _, _, _ => none
 | k + 1, x3, x4, x5, x126000, x126001, x126002, x126003, x126004, x126005, x126006, x126007, x126008, x126009, x126010, x126011 => if x126000 = 1 then (if x126007 = 0 then (if x126008.toList = ([] : List UInt8) then (if x4 = true then (some (decide ((x126011.size : Int) ≤ 1024))) else (some false)) else (some false)) else (some false)) else (if x126000 = 2 then (if x126007 = 0 then (if x5 = true then (some x3) else (some false)) else (some false)) else (if x126000 = 3 then (if x126007 = 0 then (if x5 = true then (some x4) else (some false)) else (some false)) else (if x126000 = 4 then (if x5 = true then (if x126007 = 0 then (if x3 = true then (some true) else (if x126007 = 1 then (some x4) else (some false))) else (if x126007 = 1 then (some x4) else (some false))) else (some false)) else (some false))))
end
def message_packet.f (k : Nat) (a0_0 : Int) (a0_1 : Int) (a0_2 : Int) (a0_3 : Int) (a0_4 : Int) (a0_5 : Int) (a0_6 : Int) (a0_7 : Int) (a0_8 : ByteArray) (a0_9 : Int) (a0_10 : Int) (a0_11 : ByteArray) : Option (Bool) := (message_number.f a0_1).bind fun t126 => (if t126 = true then ((message_number.f a0_3).bind fun t127 => (if t127 = true then (if a0_2 = 0 then (if a0_4 = 0 then (if a0_5 < 0 then (message_packet.j0 k true a0_0 a0_1 a0_2 a0_3 a0_4 a0_5 a0_6 a0_7 a0_8 a0_9 a0_10 a0_11) else (message_packet.j0 k (decide (a0_5 > 65536)) a0_0 a0_1 a0_2 a0_3 a0_4 a0_5 a0_6 a0_7 a0_8 a0_9 a0_10 a0_11)) else ((message_number.f a0_4).bind fun t128 => (if t128 = true then (if a0_5 < 0 then (message_packet.j0 k true a0_0 a0_1 a0_2 a0_3 a0_4 a0_5 a0_6 a0_7 a0_8 a0_9 a0_10 a0_11) else (message_packet.j0 k (decide (a0_5 > 65536)) a0_0 a0_1 a0_2 a0_3 a0_4 a0_5 a0_6 a0_7 a0_8 a0_9 a0_10 a0_11)) else (message_packet.j0 k true a0_0 a0_1 a0_2 a0_3 a0_4 a0_5 a0_6 a0_7 a0_8 a0_9 a0_10 a0_11)))) else ((message_number.f a0_2).bind fun t129 => (if t129 = true then (if a0_4 = 0 then (if a0_5 < 0 then (message_packet.j0 k true a0_0 a0_1 a0_2 a0_3 a0_4 a0_5 a0_6 a0_7 a0_8 a0_9 a0_10 a0_11) else (message_packet.j0 k (decide (a0_5 > 65536)) a0_0 a0_1 a0_2 a0_3 a0_4 a0_5 a0_6 a0_7 a0_8 a0_9 a0_10 a0_11)) else ((message_number.f a0_4).bind fun t130 => (if t130 = true then (if a0_5 < 0 then (message_packet.j0 k true a0_0 a0_1 a0_2 a0_3 a0_4 a0_5 a0_6 a0_7 a0_8 a0_9 a0_10 a0_11) else (message_packet.j0 k (decide (a0_5 > 65536)) a0_0 a0_1 a0_2 a0_3 a0_4 a0_5 a0_6 a0_7 a0_8 a0_9 a0_10 a0_11)) else (message_packet.j0 k true a0_0 a0_1 a0_2 a0_3 a0_4 a0_5 a0_6 a0_7 a0_8 a0_9 a0_10 a0_11)))) else (message_packet.j0 k true a0_0 a0_1 a0_2 a0_3 a0_4 a0_5 a0_6 a0_7 a0_8 a0_9 a0_10 a0_11)))) else (message_packet.j0 k true a0_0 a0_1 a0_2 a0_3 a0_4 a0_5 a0_6 a0_7 a0_8 a0_9 a0_10 a0_11))) else (message_packet.j0 k true a0_0 a0_1 a0_2 a0_3 a0_4 a0_5 a0_6 a0_7 a0_8 a0_9 a0_10 a0_11))
theorem message_packet.mono_l : ∀ k, (∀ y0 y1 y2 y3 y4 y5 y6 y7 y8 y9 y10 y11 y12, LeO (message_packet.j0 k y0 y1 y2 y3 y4 y5 y6 y7 y8 y9 y10 y11 y12) (message_packet.j0 (k + 1) y0 y1 y2 y3 y4 y5 y6 y7 y8 y9 y10 y11 y12)) ∧ (∀ y0 y1 y2 y3 y4 y5 y6 y7 y8 y9 y10 y11 y12, LeO (message_packet.j1 k y0 y1 y2 y3 y4 y5 y6 y7 y8 y9 y10 y11 y12) (message_packet.j1 (k + 1) y0 y1 y2 y3 y4 y5 y6 y7 y8 y9 y10 y11 y12)) ∧ (∀ y0 y1 y2 y3 y4 y5 y6 y7 y8 y9 y10 y11 y12 y13, LeO (message_packet.j2 k y0 y1 y2 y3 y4 y5 y6 y7 y8 y9 y10 y11 y12 y13) (message_packet.j2 (k + 1) y0 y1 y2 y3 y4 y5 y6 y7 y8 y9 y10 y11 y12 y13)) ∧ (∀ y0 y1 y2 y3 y4 y5 y6 y7 y8 y9 y10 y11 y12 y13 y14, LeO (message_packet.j3 k y0 y1 y2 y3 y4 y5 y6 y7 y8 y9 y10 y11 y12 y13 y14) (message_packet.j3 (k + 1) y0 y1 y2 y3 y4 y5 y6 y7 y8 y9 y10 y11 y12 y13 y14))
 | 0 => ⟨fun _ _ _ _ _ _ _ _ _ _ _ _ _ r h => by simp [message_packet.j0] at h, fun _ _ _ _ _ _ _ _ _ _ _ _ _ r h => by simp [message_packet.j1] at h, fun _ _ _ _ _ _ _ _ _ _ _ _ _ _ r h => by simp [message_packet.j2] at h, fun _ _ _ _ _ _ _ _ _ _ _ _ _ _ _ r h => by simp [message_packet.j3] at h⟩
 | k + 1 => by
  obtain ⟨ih0,ih1,ih2,ih3⟩:=message_packet.mono_l k
  refine ⟨?_,?_,?_,?_⟩
  ·intro y0 y1 y2 y3 y4 y5 y6 y7 y8 y9 y10 y11 y12
   unfold message_packet.j0
   repeat' first
   | (with_reducible exact ih0 _ _ _ _ _ _ _ _ _ _ _ _ _)
   | (with_reducible exact ih1 _ _ _ _ _ _ _ _ _ _ _ _ _)
   | (with_reducible exact ih2 _ _ _ _ _ _ _ _ _ _ _ _ _ _)
   | (with_reducible exact ih3 _ _ _ _ _ _ _ _ _ _ _ _ _ _ _)
   | (with_reducible exact ident_CheckName.mono _ _)
   | (with_reducible exact LeO.refl _)
   | (with_reducible exact LeO.none _)
   | (with_reducible refine LeO.ite ?_ ?_)
   | (with_reducible refine LeO.bind ?_ (fun _ => ?_))
   | exact ih0 _ _ _ _ _ _ _ _ _ _ _ _ _
   | exact ih1 _ _ _ _ _ _ _ _ _ _ _ _ _
   | exact ih2 _ _ _ _ _ _ _ _ _ _ _ _ _ _
   | exact ih3 _ _ _ _ _ _ _ _ _ _ _ _ _ _ _
   | exact ident_CheckName.mono _ _
   | exact LeO.none _
   | refine LeO.ite ?_ ?_
   | refine LeO.bind ?_ (fun _ => ?_)
  ·intro y0 y1 y2 y3 y4 y5 y6 y7 y8 y9 y10 y11 y12
   unfold message_packet.j1
   repeat' first
   | (with_reducible exact ih0 _ _ _ _ _ _ _ _ _ _ _ _ _)
   | (with_reducible exact ih1 _ _ _ _ _ _ _ _ _ _ _ _ _)
   | (with_reducible exact ih2 _ _ _ _ _ _ _ _ _ _ _ _ _ _)
   | (with_reducible exact ih3 _ _ _ _ _ _ _ _ _ _ _ _ _ _ _)
   | (with_reducible exact ident_CheckName.mono _ _)
   | (with_reducible exact LeO.refl _)
   | (with_reducible exact LeO.none _)
   | (with_reducible refine LeO.ite ?_ ?_)
   | (with_reducible refine LeO.bind ?_ (fun _ => ?_))
   | exact ih0 _ _ _ _ _ _ _ _ _ _ _ _ _
   | exact ih1 _ _ _ _ _ _ _ _ _ _ _ _ _
   | exact ih2 _ _ _ _ _ _ _ _ _ _ _ _ _ _
   | exact ih3 _ _ _ _ _ _ _ _ _ _ _ _ _ _ _
   | exact ident_CheckName.mono _ _
   | exact LeO.none _
   | refine LeO.ite ?_ ?_
   | refine LeO.bind ?_ (fun _ => ?_)
  ·intro y0 y1 y2 y3 y4 y5 y6 y7 y8 y9 y10 y11 y12 y13
   unfold message_packet.j2
   repeat' first
   | (with_reducible exact ih0 _ _ _ _ _ _ _ _ _ _ _ _ _)
   | (with_reducible exact ih1 _ _ _ _ _ _ _ _ _ _ _ _ _)
   | (with_reducible exact ih2 _ _ _ _ _ _ _ _ _ _ _ _ _ _)
   | (with_reducible exact ih3 _ _ _ _ _ _ _ _ _ _ _ _ _ _ _)
   | (with_reducible exact ident_CheckName.mono _ _)
   | (with_reducible exact LeO.refl _)
   | (with_reducible exact LeO.none _)
   | (with_reducible refine LeO.ite ?_ ?_)
   | (with_reducible refine LeO.bind ?_ (fun _ => ?_))
   | exact ih0 _ _ _ _ _ _ _ _ _ _ _ _ _
   | exact ih1 _ _ _ _ _ _ _ _ _ _ _ _ _
   | exact ih2 _ _ _ _ _ _ _ _ _ _ _ _ _ _
   | exact ih3 _ _ _ _ _ _ _ _ _ _ _ _ _ _ _
   | exact ident_CheckName.mono _ _
   | exact LeO.none _
   | refine LeO.ite ?_ ?_
   | refine LeO.bind ?_ (fun _ => ?_)
  ·intro y0 y1 y2 y3 y4 y5 y6 y7 y8 y9 y10 y11 y12 y13 y14
   unfold message_packet.j3
   repeat' first
   | (with_reducible exact ih0 _ _ _ _ _ _ _ _ _ _ _ _ _)
   | (with_reducible exact ih1 _ _ _ _ _ _ _ _ _ _ _ _ _)
   | (with_reducible exact ih2 _ _ _ _ _ _ _ _ _ _ _ _ _ _)
   | (with_reducible exact ih3 _ _ _ _ _ _ _ _ _ _ _ _ _ _ _)
   | (with_reducible exact ident_CheckName.mono _ _)
   | (with_reducible exact LeO.refl _)
   | (with_reducible exact LeO.none _)
   | (with_reducible refine LeO.ite ?_ ?_)
   | (with_reducible refine LeO.bind ?_ (fun _ => ?_))
   | exact ih0 _ _ _ _ _ _ _ _ _ _ _ _ _
   | exact ih1 _ _ _ _ _ _ _ _ _ _ _ _ _
   | exact ih2 _ _ _ _ _ _ _ _ _ _ _ _ _ _
   | exact ih3 _ _ _ _ _ _ _ _ _ _ _ _ _ _ _
   | exact ident_CheckName.mono _ _
   | exact LeO.none _
   | refine LeO.ite ?_ ?_
   | refine LeO.bind ?_ (fun _ => ?_)
theorem message_packet.mono : ∀ a0 a1 a2 a3 a4 a5 a6 a7 a8 a9 a10 a11 k, LeO (message_packet.f k a0 a1 a2 a3 a4 a5 a6 a7 a8 a9 a10 a11) (message_packet.f (k + 1) a0 a1 a2 a3 a4 a5 a6 a7 a8 a9 a10 a11) := by
 intro a0 a1 a2 a3 a4 a5 a6 a7 a8 a9 a10 a11 k
 obtain ⟨ih0,ih1,ih2,ih3⟩:=message_packet.mono_l k
 unfold message_packet.f
 repeat' first
   | (with_reducible exact ih0 _ _ _ _ _ _ _ _ _ _ _ _ _)
   | (with_reducible exact ih1 _ _ _ _ _ _ _ _ _ _ _ _ _)
   | (with_reducible exact ih2 _ _ _ _ _ _ _ _ _ _ _ _ _ _)
   | (with_reducible exact ih3 _ _ _ _ _ _ _ _ _ _ _ _ _ _ _)
   | (with_reducible exact ident_CheckName.mono _ _)
   | (with_reducible exact LeO.refl _)
   | (with_reducible exact LeO.none _)
   | (with_reducible refine LeO.ite ?_ ?_)
   | (with_reducible refine LeO.bind ?_ (fun _ => ?_))
   | exact ih0 _ _ _ _ _ _ _ _ _ _ _ _ _
   | exact ih1 _ _ _ _ _ _ _ _ _ _ _ _ _
   | exact ih2 _ _ _ _ _ _ _ _ _ _ _ _ _ _
   | exact ih3 _ _ _ _ _ _ _ _ _ _ _ _ _ _ _
   | exact ident_CheckName.mono _ _
   | exact LeO.none _
   | refine LeO.ite ?_ ?_
   | refine LeO.bind ?_ (fun _ => ?_)
set_option maxHeartbeats 8000000 in
set_option maxRecDepth 100000 in
theorem message_packet.calls (k : Nat) (a0_0 : Int) (a0_1 : Int) (a0_2 : Int) (a0_3 : Int) (a0_4 : Int) (a0_5 : Int) (a0_6 : Int) (a0_7 : Int) (a0_8 : ByteArray) (a0_9 : Int) (a0_10 : Int) (a0_11 : ByteArray) (r : Bool) (w : World) (h : message_packet.f k a0_0 a0_1 a0_2 a0_3 a0_4 a0_5 a0_6 a0_7 a0_8 a0_9 a0_10 a0_11 = some r) :
  Calls Try.prog 57 #[.agg #[.int .i64 a0_0,.int .i64 a0_1,.int .i64 a0_2,.int .i64 a0_3,.int .i64 a0_4,.int .i64 a0_5,.int .u64 a0_6,.int .i64 a0_7,.string a0_8,.int .i64 a0_9,.int .i64 a0_10,.string a0_11]] w fun e w' => e = .returned (.bool r) ∧ Below w.heap.size w w':=by
 have hu76:=Try.underlying76
 have HB:=zA (Below.refl w.heap.size w)
 have H : ((message_number.f a0_1).bind fun t126 => (if t126 = true then ((message_number.f a0_3).bind fun t127 => (if t127 = true then (if a0_2 = 0 then (if a0_4 = 0 then (if a0_5 < 0 then (message_packet.j0 k true a0_0 a0_1 a0_2 a0_3 a0_4 a0_5 a0_6 a0_7 a0_8 a0_9 a0_10 a0_11) else (message_packet.j0 k (decide (a0_5 > 65536)) a0_0 a0_1 a0_2 a0_3 a0_4 a0_5 a0_6 a0_7 a0_8 a0_9 a0_10 a0_11)) else ((message_number.f a0_4).bind fun t128 => (if t128 = true then (if a0_5 < 0 then (message_packet.j0 k true a0_0 a0_1 a0_2 a0_3 a0_4 a0_5 a0_6 a0_7 a0_8 a0_9 a0_10 a0_11) else (message_packet.j0 k (decide (a0_5 > 65536)) a0_0 a0_1 a0_2 a0_3 a0_4 a0_5 a0_6 a0_7 a0_8 a0_9 a0_10 a0_11)) else (message_packet.j0 k true a0_0 a0_1 a0_2 a0_3 a0_4 a0_5 a0_6 a0_7 a0_8 a0_9 a0_10 a0_11)))) else ((message_number.f a0_2).bind fun t129 => (if t129 = true then (if a0_4 = 0 then (if a0_5 < 0 then (message_packet.j0 k true a0_0 a0_1 a0_2 a0_3 a0_4 a0_5 a0_6 a0_7 a0_8 a0_9 a0_10 a0_11) else (message_packet.j0 k (decide (a0_5 > 65536)) a0_0 a0_1 a0_2 a0_3 a0_4 a0_5 a0_6 a0_7 a0_8 a0_9 a0_10 a0_11)) else ((message_number.f a0_4).bind fun t130 => (if t130 = true then (if a0_5 < 0 then (message_packet.j0 k true a0_0 a0_1 a0_2 a0_3 a0_4 a0_5 a0_6 a0_7 a0_8 a0_9 a0_10 a0_11) else (message_packet.j0 k (decide (a0_5 > 65536)) a0_0 a0_1 a0_2 a0_3 a0_4 a0_5 a0_6 a0_7 a0_8 a0_9 a0_10 a0_11)) else (message_packet.j0 k true a0_0 a0_1 a0_2 a0_3 a0_4 a0_5 a0_6 a0_7 a0_8 a0_9 a0_10 a0_11)))) else (message_packet.j0 k true a0_0 a0_1 a0_2 a0_3 a0_4 a0_5 a0_6 a0_7 a0_8 a0_9 a0_10 a0_11)))) else (message_packet.j0 k true a0_0 a0_1 a0_2 a0_3 a0_4 a0_5 a0_6 a0_7 a0_8 a0_9 a0_10 a0_11))) else (message_packet.j0 k true a0_0 a0_1 a0_2 a0_3 a0_4 a0_5 a0_6 a0_7 a0_8 a0_9 a0_10 a0_11))) = some r:=h
 clear h
 have HC2:=zA H
 clear H
 go_enter Try.func57,Try.ntmps57
 go_upto_region 1 with (first|((with_reducible refine gate_dst (N:=1) rfl ?_);(try (refine gate_guard (by rfl) ?_;dsimp only));refine zb (N:=1) (cs:=#[.int .i64 a0_0,.int .i64 a0_1,.int .i64 a0_2,.int .i64 a0_3,.int .i64 a0_4,.int .i64 a0_5,.int .u64 a0_6,.int .i64 a0_7,.string a0_8,.int .i64 a0_9,.int .i64 a0_10,.string a0_11]) (t:=76) ?_;intro G125 hg w3 hbox hb;have K125:=zA (hbox);have GW125:=zN HB hg;have GE125:=zN HB hg;replace HB:=zS HB hb;clear hb hbox hg))
 (try simp only [Act.put,xA,xB,xC])
 go_cut [47] (fun v47 wc => ∃ (kq : Nat) (x47_1 : Bool),v47 = .bool x47_1 ∧ Aside0 (message_packet.j0 kq x47_1 a0_0 a0_1 a0_2 a0_3 a0_4 a0_5 a0_6 a0_7 a0_8 a0_9 a0_10 a0_11 = some r) ∧ Aside0 (kq ≤ k) ∧ Aside0 (wc.heap[G125]? = some (.cells #[.int .i64 a0_0,.int .i64 a0_1,.int .i64 a0_2,.int .i64 a0_3,.int .i64 a0_4,.int .i64 a0_5,.int .u64 a0_6,.int .i64 a0_7,.string a0_8,.int .i64 a0_9,.int .i64 a0_10,.string a0_11] 76 (0,0))) ∧ Aside0 (Below w.heap.size w wc))
 case first =>
  have H:=HC2.out
  clear HC2
  replace H:=Option.bind_eq_some_iff.mp H
  obtain ⟨t126,A40,H⟩:=H
  (try dsimp only at H)
  have A4:=zA A40
  clear A40
  by_cases c5 : t126 = true
  ·subst c5
   rw [if_pos rfl] at H
   replace H:=Option.bind_eq_some_iff.mp H
   obtain ⟨t127,A60,H⟩:=H
   (try dsimp only at H)
   have A6:=zA A60
   clear A60
   by_cases c7 : t127 = true
   ·subst c7
    rw [if_pos rfl] at H
    by_cases c8 : a0_2 = 0
    ·rw [if_pos c8] at H
     have c8b0 : (a0_2 == 0) = true:=beq_iff_eq.mpr c8
     have c8b1 : (a0_2 != 0) = false:=bne_eq_false_iff_eq.mpr c8
     clear c8
     (first|rw [c8b0]|(simp only [i64_w,i32_w];rw [c8b0])|skip)
     by_cases c9 : a0_4 = 0
     ·rw [if_pos c9] at H
      have c9b0 : (a0_4 == 0) = true:=beq_iff_eq.mpr c9
      have c9b1 : (a0_4 != 0) = false:=bne_eq_false_iff_eq.mpr c9
      clear c9
      by_cases c10 : a0_5 < 0
      ·rw [if_pos c10] at H
       have c10b0 : decide (a0_5 < 0) = true:=decide_eq_true c10
       clear c10
       have H':=zA H
       clear H
       obtain ⟨hcz11_0,hcz11_1,hcz11_2,hcz11_3,hcz11_4,hcz11_5,hcz11_6,hcz11_7,hcz11_8,hcz11_9,hcz11_10,hcz11_11,hfz11_0,hfz11_1,hfz11_2,hfz11_3,hfz11_4,hfz11_5,hfz11_6,hfz11_7,hfz11_8,hfz11_9,hfz11_10,hfz11_11⟩:=zc12 K125
       go_wp2_with (first|((with_reducible refine gate_callee (f:=61) rfl ?_);refine zg (some 8) Try.func61 #[.int .i64 a0_1] ?_;(with_reducible refine (message_number.calls a0_1 true _ A4.out).mono ?_);rintro e w' ⟨rfl,⟨nd,rfl⟩⟩;refine ⟨_,rfl,?_⟩)|(go_at_call 61;(with_reducible refine (message_number.calls a0_3 true _ A6.out).mono ?_);rintro e w' ⟨rfl,⟨nd,rfl⟩⟩))
       go_meet
       case rel => exact ⟨_,(true),ze,H',⟨zo⟩,⟨z1 K125.1⟩,⟨zH HB⟩⟩
      ·rw [if_neg c10] at H
       have c10b0 : decide (a0_5 < 0) = false:=decide_eq_false c10
       clear c10
       have H':=zA H
       clear H
       obtain ⟨hcz12_0,hcz12_1,hcz12_2,hcz12_3,hcz12_4,hcz12_5,hcz12_6,hcz12_7,hcz12_8,hcz12_9,hcz12_10,hcz12_11,hfz12_0,hfz12_1,hfz12_2,hfz12_3,hfz12_4,hfz12_5,hfz12_6,hfz12_7,hfz12_8,hfz12_9,hfz12_10,hfz12_11⟩:=zc12 K125
       go_wp2_with (first|((with_reducible refine gate_callee (f:=61) rfl ?_);refine zg (some 8) Try.func61 #[.int .i64 a0_1] ?_;(with_reducible refine (message_number.calls a0_1 true _ A4.out).mono ?_);rintro e w' ⟨rfl,⟨nd,rfl⟩⟩;refine ⟨_,rfl,?_⟩)|(go_at_call 61;(with_reducible refine (message_number.calls a0_3 true _ A6.out).mono ?_);rintro e w' ⟨rfl,⟨nd,rfl⟩⟩))
       go_meet
       case rel => exact ⟨_,(decide (a0_5 > 65536)),ze,H',⟨zo⟩,⟨z1 K125.1⟩,⟨zH HB⟩⟩
     ·rw [if_neg c9] at H
      have c9b0 : (a0_4 == 0) = false:=beq_eq_false_iff_ne.mpr c9
      have c9b1 : (a0_4 != 0) = true:=bne_iff_ne.mpr c9
      replace H:=Option.bind_eq_some_iff.mp H
      obtain ⟨t128,A130,H⟩:=H
      (try dsimp only at H)
      have A13:=zA A130
      clear A130
      by_cases c14 : t128 = true
      ·subst c14
       rw [if_pos rfl] at H
       by_cases c15 : a0_5 < 0
       ·rw [if_pos c15] at H
        have c15b0 : decide (a0_5 < 0) = true:=decide_eq_true c15
        clear c15
        have H':=zA H
        clear H
        obtain ⟨hcz16_0,hcz16_1,hcz16_2,hcz16_3,hcz16_4,hcz16_5,hcz16_6,hcz16_7,hcz16_8,hcz16_9,hcz16_10,hcz16_11,hfz16_0,hfz16_1,hfz16_2,hfz16_3,hfz16_4,hfz16_5,hfz16_6,hfz16_7,hfz16_8,hfz16_9,hfz16_10,hfz16_11⟩:=zc12 K125
        go_wp2_with (first|((with_reducible refine gate_callee (f:=61) rfl ?_);refine zg (some 8) Try.func61 #[.int .i64 a0_1] ?_;(with_reducible refine (message_number.calls a0_1 true _ A4.out).mono ?_);rintro e w' ⟨rfl,⟨nd,rfl⟩⟩;refine ⟨_,rfl,?_⟩)|(go_at_call 61;(with_reducible refine (message_number.calls a0_3 true _ A6.out).mono ?_);rintro e w' ⟨rfl,⟨nd,rfl⟩⟩)|(go_at_call 61;(with_reducible refine (message_number.calls a0_4 true _ A13.out).mono ?_);rintro e w' ⟨rfl,⟨nd,rfl⟩⟩))
        go_meet
        case rel => exact ⟨_,(true),ze,H',⟨zo⟩,⟨z1 K125.1⟩,⟨zH HB⟩⟩
       ·rw [if_neg c15] at H
        have c15b0 : decide (a0_5 < 0) = false:=decide_eq_false c15
        clear c15
        have H':=zA H
        clear H
        obtain ⟨hcz17_0,hcz17_1,hcz17_2,hcz17_3,hcz17_4,hcz17_5,hcz17_6,hcz17_7,hcz17_8,hcz17_9,hcz17_10,hcz17_11,hfz17_0,hfz17_1,hfz17_2,hfz17_3,hfz17_4,hfz17_5,hfz17_6,hfz17_7,hfz17_8,hfz17_9,hfz17_10,hfz17_11⟩:=zc12 K125
        go_wp2_with (first|((with_reducible refine gate_callee (f:=61) rfl ?_);refine zg (some 8) Try.func61 #[.int .i64 a0_1] ?_;(with_reducible refine (message_number.calls a0_1 true _ A4.out).mono ?_);rintro e w' ⟨rfl,⟨nd,rfl⟩⟩;refine ⟨_,rfl,?_⟩)|(go_at_call 61;(with_reducible refine (message_number.calls a0_3 true _ A6.out).mono ?_);rintro e w' ⟨rfl,⟨nd,rfl⟩⟩)|(go_at_call 61;(with_reducible refine (message_number.calls a0_4 true _ A13.out).mono ?_);rintro e w' ⟨rfl,⟨nd,rfl⟩⟩))
        go_meet
        case rel => exact ⟨_,(decide (a0_5 > 65536)),ze,H',⟨zo⟩,⟨z1 K125.1⟩,⟨zH HB⟩⟩
      ·replace c14:=Bool.eq_false_iff.mpr c14
       subst c14
       rw [if_neg (show ¬ (false = true) by decide)] at H
       have H':=zA H
       clear H
       obtain ⟨hcz18_0,hcz18_1,hcz18_2,hcz18_3,hcz18_4,hcz18_5,hcz18_6,hcz18_7,hcz18_8,hcz18_9,hcz18_10,hcz18_11,hfz18_0,hfz18_1,hfz18_2,hfz18_3,hfz18_4,hfz18_5,hfz18_6,hfz18_7,hfz18_8,hfz18_9,hfz18_10,hfz18_11⟩:=zc12 K125
       go_wp2_with (first|((with_reducible refine gate_callee (f:=61) rfl ?_);refine zg (some 8) Try.func61 #[.int .i64 a0_1] ?_;(with_reducible refine (message_number.calls a0_1 true _ A4.out).mono ?_);rintro e w' ⟨rfl,⟨nd,rfl⟩⟩;refine ⟨_,rfl,?_⟩)|(go_at_call 61;(with_reducible refine (message_number.calls a0_3 true _ A6.out).mono ?_);rintro e w' ⟨rfl,⟨nd,rfl⟩⟩)|(go_at_call 61;(with_reducible refine (message_number.calls a0_4 false _ A13.out).mono ?_);rintro e w' ⟨rfl,⟨nd,rfl⟩⟩))
       go_meet
       case rel => exact ⟨_,(true),ze,H',⟨zo⟩,⟨z1 K125.1⟩,⟨zH HB⟩⟩
    ·rw [if_neg c8] at H
     have c8b0 : (a0_2 == 0) = false:=beq_eq_false_iff_ne.mpr c8
     have c8b1 : (a0_2 != 0) = true:=bne_iff_ne.mpr c8
     (first|rw [c8b0]|(simp only [i64_w,i32_w];rw [c8b0])|skip)
     replace H:=Option.bind_eq_some_iff.mp H
     obtain ⟨t129,A190,H⟩:=H
     (try dsimp only at H)
     have A19:=zA A190
     clear A190
     by_cases c20 : t129 = true
     ·subst c20
      rw [if_pos rfl] at H
      by_cases c21 : a0_4 = 0
      ·rw [if_pos c21] at H
       have c21b0 : (a0_4 == 0) = true:=beq_iff_eq.mpr c21
       have c21b1 : (a0_4 != 0) = false:=bne_eq_false_iff_eq.mpr c21
       clear c21
       by_cases c22 : a0_5 < 0
       ·rw [if_pos c22] at H
        have c22b0 : decide (a0_5 < 0) = true:=decide_eq_true c22
        clear c22
        have H':=zA H
        clear H
        obtain ⟨hcz23_0,hcz23_1,hcz23_2,hcz23_3,hcz23_4,hcz23_5,hcz23_6,hcz23_7,hcz23_8,hcz23_9,hcz23_10,hcz23_11,hfz23_0,hfz23_1,hfz23_2,hfz23_3,hfz23_4,hfz23_5,hfz23_6,hfz23_7,hfz23_8,hfz23_9,hfz23_10,hfz23_11⟩:=zc12 K125
        go_wp2_with (first|((with_reducible refine gate_callee (f:=61) rfl ?_);refine zg (some 8) Try.func61 #[.int .i64 a0_1] ?_;(with_reducible refine (message_number.calls a0_1 true _ A4.out).mono ?_);rintro e w' ⟨rfl,⟨nd,rfl⟩⟩;refine ⟨_,rfl,?_⟩)|(go_at_call 61;(with_reducible refine (message_number.calls a0_3 true _ A6.out).mono ?_);rintro e w' ⟨rfl,⟨nd,rfl⟩⟩)|(go_at_call 61;(with_reducible refine (message_number.calls a0_2 true _ A19.out).mono ?_);rintro e w' ⟨rfl,⟨nd,rfl⟩⟩))
        go_meet
        case rel => exact ⟨_,(true),ze,H',⟨zo⟩,⟨z1 K125.1⟩,⟨zH HB⟩⟩
       ·rw [if_neg c22] at H
        have c22b0 : decide (a0_5 < 0) = false:=decide_eq_false c22
        clear c22
        have H':=zA H
        clear H
        obtain ⟨hcz24_0,hcz24_1,hcz24_2,hcz24_3,hcz24_4,hcz24_5,hcz24_6,hcz24_7,hcz24_8,hcz24_9,hcz24_10,hcz24_11,hfz24_0,hfz24_1,hfz24_2,hfz24_3,hfz24_4,hfz24_5,hfz24_6,hfz24_7,hfz24_8,hfz24_9,hfz24_10,hfz24_11⟩:=zc12 K125
        go_wp2_with (first|((with_reducible refine gate_callee (f:=61) rfl ?_);refine zg (some 8) Try.func61 #[.int .i64 a0_1] ?_;(with_reducible refine (message_number.calls a0_1 true _ A4.out).mono ?_);rintro e w' ⟨rfl,⟨nd,rfl⟩⟩;refine ⟨_,rfl,?_⟩)|(go_at_call 61;(with_reducible refine (message_number.calls a0_3 true _ A6.out).mono ?_);rintro e w' ⟨rfl,⟨nd,rfl⟩⟩)|(go_at_call 61;(with_reducible refine (message_number.calls a0_2 true _ A19.out).mono ?_);rintro e w' ⟨rfl,⟨nd,rfl⟩⟩))
        go_meet
        case rel => exact ⟨_,(decide (a0_5 > 65536)),ze,H',⟨zo⟩,⟨z1 K125.1⟩,⟨zH HB⟩⟩
      ·rw [if_neg c21] at H
       have c21b0 : (a0_4 == 0) = false:=beq_eq_false_iff_ne.mpr c21
       have c21b1 : (a0_4 != 0) = true:=bne_iff_ne.mpr c21
       replace H:=Option.bind_eq_some_iff.mp H
       obtain ⟨t130,A250,H⟩:=H
       (try dsimp only at H)
       have A25:=zA A250
       clear A250
       by_cases c26 : t130 = true
       ·subst c26
        rw [if_pos rfl] at H
        by_cases c27 : a0_5 < 0
        ·rw [if_pos c27] at H
         have c27b0 : decide (a0_5 < 0) = true:=decide_eq_true c27
         clear c27
         have H':=zA H
         clear H
         obtain ⟨hcz28_0,hcz28_1,hcz28_2,hcz28_3,hcz28_4,hcz28_5,hcz28_6,hcz28_7,hcz28_8,hcz28_9,hcz28_10,hcz28_11,hfz28_0,hfz28_1,hfz28_2,hfz28_3,hfz28_4,hfz28_5,hfz28_6,hfz28_7,hfz28_8,hfz28_9,hfz28_10,hfz28_11⟩:=zc12 K125
         go_wp2_with (first|((with_reducible refine gate_callee (f:=61) rfl ?_);refine zg (some 8) Try.func61 #[.int .i64 a0_1] ?_;(with_reducible refine (message_number.calls a0_1 true _ A4.out).mono ?_);rintro e w' ⟨rfl,⟨nd,rfl⟩⟩;refine ⟨_,rfl,?_⟩)|(go_at_call 61;(with_reducible refine (message_number.calls a0_3 true _ A6.out).mono ?_);rintro e w' ⟨rfl,⟨nd,rfl⟩⟩)|(go_at_call 61;(with_reducible refine (message_number.calls a0_2 true _ A19.out).mono ?_);rintro e w' ⟨rfl,⟨nd,rfl⟩⟩)|(go_at_call 61;(with_reducible refine (message_number.calls a0_4 true _ A25.out).mono ?_);rintro e w' ⟨rfl,⟨nd,rfl⟩⟩))
         go_meet
         case rel => exact ⟨_,(true),ze,H',⟨zo⟩,⟨z1 K125.1⟩,⟨zH HB⟩⟩
        ·rw [if_neg c27] at H
         have c27b0 : decide (a0_5 < 0) = false:=decide_eq_false c27
         clear c27
         have H':=zA H
         clear H
         obtain ⟨hcz29_0,hcz29_1,hcz29_2,hcz29_3,hcz29_4,hcz29_5,hcz29_6,hcz29_7,hcz29_8,hcz29_9,hcz29_10,hcz29_11,hfz29_0,hfz29_1,hfz29_2,hfz29_3,hfz29_4,hfz29_5,hfz29_6,hfz29_7,hfz29_8,hfz29_9,hfz29_10,hfz29_11⟩:=zc12 K125
         go_wp2_with (first|((with_reducible refine gate_callee (f:=61) rfl ?_);refine zg (some 8) Try.func61 #[.int .i64 a0_1] ?_;(with_reducible refine (message_number.calls a0_1 true _ A4.out).mono ?_);rintro e w' ⟨rfl,⟨nd,rfl⟩⟩;refine ⟨_,rfl,?_⟩)|(go_at_call 61;(with_reducible refine (message_number.calls a0_3 true _ A6.out).mono ?_);rintro e w' ⟨rfl,⟨nd,rfl⟩⟩)|(go_at_call 61;(with_reducible refine (message_number.calls a0_2 true _ A19.out).mono ?_);rintro e w' ⟨rfl,⟨nd,rfl⟩⟩)|(go_at_call 61;(with_reducible refine (message_number.calls a0_4 true _ A25.out).mono ?_);rintro e w' ⟨rfl,⟨nd,rfl⟩⟩))
         go_meet
         case rel => exact ⟨_,(decide (a0_5 > 65536)),ze,H',⟨zo⟩,⟨z1 K125.1⟩,⟨zH HB⟩⟩
       ·replace c26:=Bool.eq_false_iff.mpr c26
        subst c26
        rw [if_neg (show ¬ (false = true) by decide)] at H
        have H':=zA H
        clear H
        obtain ⟨hcz30_0,hcz30_1,hcz30_2,hcz30_3,hcz30_4,hcz30_5,hcz30_6,hcz30_7,hcz30_8,hcz30_9,hcz30_10,hcz30_11,hfz30_0,hfz30_1,hfz30_2,hfz30_3,hfz30_4,hfz30_5,hfz30_6,hfz30_7,hfz30_8,hfz30_9,hfz30_10,hfz30_11⟩:=zc12 K125
        go_wp2_with (first|((with_reducible refine gate_callee (f:=61) rfl ?_);refine zg (some 8) Try.func61 #[.int .i64 a0_1] ?_;(with_reducible refine (message_number.calls a0_1 true _ A4.out).mono ?_);rintro e w' ⟨rfl,⟨nd,rfl⟩⟩;refine ⟨_,rfl,?_⟩)|(go_at_call 61;(with_reducible refine (message_number.calls a0_3 true _ A6.out).mono ?_);rintro e w' ⟨rfl,⟨nd,rfl⟩⟩)|(go_at_call 61;(with_reducible refine (message_number.calls a0_2 true _ A19.out).mono ?_);rintro e w' ⟨rfl,⟨nd,rfl⟩⟩)|(go_at_call 61;(with_reducible refine (message_number.calls a0_4 false _ A25.out).mono ?_);rintro e w' ⟨rfl,⟨nd,rfl⟩⟩))
        go_meet
        case rel => exact ⟨_,(true),ze,H',⟨zo⟩,⟨z1 K125.1⟩,⟨zH HB⟩⟩
     ·replace c20:=Bool.eq_false_iff.mpr c20
      subst c20
      rw [if_neg (show ¬ (false = true) by decide)] at H
      have H':=zA H
      clear H
      obtain ⟨hcz31_0,hcz31_1,hcz31_2,hcz31_3,hcz31_4,hcz31_5,hcz31_6,hcz31_7,hcz31_8,hcz31_9,hcz31_10,hcz31_11,hfz31_0,hfz31_1,hfz31_2,hfz31_3,hfz31_4,hfz31_5,hfz31_6,hfz31_7,hfz31_8,hfz31_9,hfz31_10,hfz31_11⟩:=zc12 K125
      go_wp2_with (first|((with_reducible refine gate_callee (f:=61) rfl ?_);refine zg (some 8) Try.func61 #[.int .i64 a0_1] ?_;(with_reducible refine (message_number.calls a0_1 true _ A4.out).mono ?_);rintro e w' ⟨rfl,⟨nd,rfl⟩⟩;refine ⟨_,rfl,?_⟩)|(go_at_call 61;(with_reducible refine (message_number.calls a0_3 true _ A6.out).mono ?_);rintro e w' ⟨rfl,⟨nd,rfl⟩⟩)|(go_at_call 61;(with_reducible refine (message_number.calls a0_2 false _ A19.out).mono ?_);rintro e w' ⟨rfl,⟨nd,rfl⟩⟩))
      go_meet
      case rel => exact ⟨_,(true),ze,H',⟨zo⟩,⟨z1 K125.1⟩,⟨zH HB⟩⟩
   ·replace c7:=Bool.eq_false_iff.mpr c7
    subst c7
    rw [if_neg (show ¬ (false = true) by decide)] at H
    have H':=zA H
    clear H
    obtain ⟨hcz32_0,hcz32_1,hcz32_2,hcz32_3,hcz32_4,hcz32_5,hcz32_6,hcz32_7,hcz32_8,hcz32_9,hcz32_10,hcz32_11,hfz32_0,hfz32_1,hfz32_2,hfz32_3,hfz32_4,hfz32_5,hfz32_6,hfz32_7,hfz32_8,hfz32_9,hfz32_10,hfz32_11⟩:=zc12 K125
    go_wp2_with (first|((with_reducible refine gate_callee (f:=61) rfl ?_);refine zg (some 8) Try.func61 #[.int .i64 a0_1] ?_;(with_reducible refine (message_number.calls a0_1 true _ A4.out).mono ?_);rintro e w' ⟨rfl,⟨nd,rfl⟩⟩;refine ⟨_,rfl,?_⟩)|(go_at_call 61;(with_reducible refine (message_number.calls a0_3 false _ A6.out).mono ?_);rintro e w' ⟨rfl,⟨nd,rfl⟩⟩))
    go_meet
    case rel => exact ⟨_,(true),ze,H',⟨zo⟩,⟨z1 K125.1⟩,⟨zH HB⟩⟩
  ·replace c5:=Bool.eq_false_iff.mpr c5
   subst c5
   rw [if_neg (show ¬ (false = true) by decide)] at H
   have H':=zA H
   clear H
   obtain ⟨hcz33_0,hcz33_1,hcz33_2,hcz33_3,hcz33_4,hcz33_5,hcz33_6,hcz33_7,hcz33_8,hcz33_9,hcz33_10,hcz33_11,hfz33_0,hfz33_1,hfz33_2,hfz33_3,hfz33_4,hfz33_5,hfz33_6,hfz33_7,hfz33_8,hfz33_9,hfz33_10,hfz33_11⟩:=zc12 K125
   go_wp2_with (first|((with_reducible refine gate_callee (f:=61) rfl ?_);refine zg (some 8) Try.func61 #[.int .i64 a0_1] ?_;(with_reducible refine (message_number.calls a0_1 false _ A4.out).mono ?_);rintro e w' ⟨rfl,⟨nd,rfl⟩⟩;refine ⟨_,rfl,?_⟩))
   go_meet
   case rel => exact ⟨_,(true),ze,H',⟨zo⟩,⟨z1 K125.1⟩,⟨zH HB⟩⟩
 case rest =>
  clear HC2
  obtain ⟨kq,x47_1,rfl,HA,HJ1,K125,HB⟩:=hcut
  cases kq with
  | zero => exact absurd HA.out (by simp [message_packet.j0])
  | succ kj1 =>
   have H:=HA.out
   clear HA
   simp only [message_packet.j0] at H
   by_cases c34 : x47_1 = true
   ·subst c34
    rw [if_pos rfl] at H
    obtain rfl:=Option.some.inj H
    go_wp2
    go_ret
    exact ⟨zE,zH HB⟩
   ·replace c34:=Bool.eq_false_iff.mpr c34
    subst c34
    rw [if_neg (show ¬ (false = true) by decide)] at H
    have HC35:=zA H
    clear H
    go_upto_region 3 with (fail)
    go_cut [3] (fun v3 wc => ∃ (kq : Nat) (x3_34 : Bool),v3 = .bool x3_34 ∧ Aside0 (message_packet.j1 kq x3_34 a0_0 a0_1 a0_2 a0_3 a0_4 a0_5 a0_6 a0_7 a0_8 a0_9 a0_10 a0_11 = some r) ∧ Aside0 (kq ≤ kj1) ∧ Aside0 (wc.heap[G125]? = some (.cells #[.int .i64 a0_0,.int .i64 a0_1,.int .i64 a0_2,.int .i64 a0_3,.int .i64 a0_4,.int .i64 a0_5,.int .u64 a0_6,.int .i64 a0_7,.string a0_8,.int .i64 a0_9,.int .i64 a0_10,.string a0_11] 76 (0,0))) ∧ Aside0 (Below w.heap.size w wc))
    case first =>
     have H:=HC35.out
     clear HC35
     by_cases c36 : a0_9 = 0
     ·rw [if_pos c36] at H
      have c36b0 : (a0_9 == 0) = true:=beq_iff_eq.mpr c36
      have c36b1 : (a0_9 != 0) = false:=bne_eq_false_iff_eq.mpr c36
      clear c36
      (first|rw [c36b0]|(simp only [i64_w,i32_w];rw [c36b0])|skip)
      have H':=zA H
      clear H
      obtain ⟨hcz37_0,hcz37_1,hcz37_2,hcz37_3,hcz37_4,hcz37_5,hcz37_6,hcz37_7,hcz37_8,hcz37_9,hcz37_10,hcz37_11,hfz37_0,hfz37_1,hfz37_2,hfz37_3,hfz37_4,hfz37_5,hfz37_6,hfz37_7,hfz37_8,hfz37_9,hfz37_10,hfz37_11⟩:=zc12 K125
      go_wp2
      go_meet
      case rel => exact ⟨_,(false),ze,H',⟨by have:=HJ1.out;first|omega|exact Nat.le_refl _⟩,⟨z1 K125.1⟩,⟨zH HB⟩⟩
     ·rw [if_neg c36] at H
      have c36b0 : (a0_9 == 0) = false:=beq_eq_false_iff_ne.mpr c36
      have c36b1 : (a0_9 != 0) = true:=bne_iff_ne.mpr c36
      (first|rw [c36b0]|(simp only [i64_w,i32_w];rw [c36b0])|skip)
      replace H:=Option.bind_eq_some_iff.mp H
      obtain ⟨t131,A380,H⟩:=H
      (try dsimp only at H)
      have A38:=zA A380
      clear A380
      by_cases c39 : t131 = true
      ·subst c39
       rw [if_pos rfl] at H
       by_cases c40 : a0_10 = 0
       ·rw [if_pos c40] at H
        have c40b0 : (a0_10 == 0) = true:=beq_iff_eq.mpr c40
        have c40b1 : (a0_10 != 0) = false:=bne_eq_false_iff_eq.mpr c40
        clear c40
        have H':=zA H
        clear H
        obtain ⟨hcz41_0,hcz41_1,hcz41_2,hcz41_3,hcz41_4,hcz41_5,hcz41_6,hcz41_7,hcz41_8,hcz41_9,hcz41_10,hcz41_11,hfz41_0,hfz41_1,hfz41_2,hfz41_3,hfz41_4,hfz41_5,hfz41_6,hfz41_7,hfz41_8,hfz41_9,hfz41_10,hfz41_11⟩:=zc12 K125
        go_wp2_with (first|(go_at_call 61;(with_reducible refine (message_number.calls a0_9 true _ A38.out).mono ?_);rintro e w' ⟨rfl,⟨nd,rfl⟩⟩))
        go_meet
        case rel => exact ⟨_,(true),ze,H',⟨by have:=HJ1.out;first|omega|exact Nat.le_refl _⟩,⟨z1 K125.1⟩,⟨zH HB⟩⟩
       ·rw [if_neg c40] at H
        have c40b0 : (a0_10 == 0) = false:=beq_eq_false_iff_ne.mpr c40
        have c40b1 : (a0_10 != 0) = true:=bne_iff_ne.mpr c40
        replace H:=Option.bind_eq_some_iff.mp H
        obtain ⟨t132,A420,H⟩:=H
        (try dsimp only at H)
        have A42:=zA A420
        clear A420
        have H':=zA H
        clear H
        obtain ⟨hcz43_0,hcz43_1,hcz43_2,hcz43_3,hcz43_4,hcz43_5,hcz43_6,hcz43_7,hcz43_8,hcz43_9,hcz43_10,hcz43_11,hfz43_0,hfz43_1,hfz43_2,hfz43_3,hfz43_4,hfz43_5,hfz43_6,hfz43_7,hfz43_8,hfz43_9,hfz43_10,hfz43_11⟩:=zc12 K125
        go_wp2_with (first|(go_at_call 61;(with_reducible refine (message_number.calls a0_9 true _ A38.out).mono ?_);rintro e w' ⟨rfl,⟨nd,rfl⟩⟩)|(go_at_call 61;(with_reducible refine (message_number.calls a0_10 t132 _ A42.out).mono ?_);rintro e w' ⟨rfl,⟨nd,rfl⟩⟩))
        go_meet
        case rel => exact ⟨_,(t132),ze,H',⟨by have:=HJ1.out;first|omega|exact Nat.le_refl _⟩,⟨z1 K125.1⟩,⟨zH HB⟩⟩
      ·replace c39:=Bool.eq_false_iff.mpr c39
       subst c39
       rw [if_neg (show ¬ (false = true) by decide)] at H
       have H':=zA H
       clear H
       obtain ⟨hcz44_0,hcz44_1,hcz44_2,hcz44_3,hcz44_4,hcz44_5,hcz44_6,hcz44_7,hcz44_8,hcz44_9,hcz44_10,hcz44_11,hfz44_0,hfz44_1,hfz44_2,hfz44_3,hfz44_4,hfz44_5,hfz44_6,hfz44_7,hfz44_8,hfz44_9,hfz44_10,hfz44_11⟩:=zc12 K125
       go_wp2_with (first|(go_at_call 61;(with_reducible refine (message_number.calls a0_9 false _ A38.out).mono ?_);rintro e w' ⟨rfl,⟨nd,rfl⟩⟩))
       go_meet
       case rel => exact ⟨_,(false),ze,H',⟨by have:=HJ1.out;first|omega|exact Nat.le_refl _⟩,⟨z1 K125.1⟩,⟨zH HB⟩⟩
    case rest =>
     clear HC35
     try clear c34
     obtain ⟨kq,x3_34,rfl,HA,HJ34,K125,HB⟩:=hcut
     cases kq with
     | zero => exact absurd HA.out (by simp [message_packet.j1])
     | succ kj34 =>
      have H:=HA.out
      clear HA
      simp only [message_packet.j1] at H
      have HC45:=zA H
      clear H
      go_upto_region 4 with (fail)
      go_cut [4] (fun v4 wc => ∃ (kq : Nat) (x4_44 : Bool),v4 = .bool x4_44 ∧ Aside0 (message_packet.j2 kq x3_34 x4_44 a0_0 a0_1 a0_2 a0_3 a0_4 a0_5 a0_6 a0_7 a0_8 a0_9 a0_10 a0_11 = some r) ∧ Aside0 (kq ≤ kj34) ∧ Aside0 (wc.heap[G125]? = some (.cells #[.int .i64 a0_0,.int .i64 a0_1,.int .i64 a0_2,.int .i64 a0_3,.int .i64 a0_4,.int .i64 a0_5,.int .u64 a0_6,.int .i64 a0_7,.string a0_8,.int .i64 a0_9,.int .i64 a0_10,.string a0_11] 76 (0,0))) ∧ Aside0 (Below w.heap.size w wc))
      case first =>
       have H:=HC45.out
       clear HC45
       by_cases c46 : a0_9 = 0
       ·rw [if_pos c46] at H
        have c46b0 : (a0_9 == 0) = true:=beq_iff_eq.mpr c46
        have c46b1 : (a0_9 != 0) = false:=bne_eq_false_iff_eq.mpr c46
        clear c46
        (first|rw [c46b0]|(simp only [i64_w,i32_w];rw [c46b0])|skip)
        have H':=zA H
        clear H
        obtain ⟨hcz47_0,hcz47_1,hcz47_2,hcz47_3,hcz47_4,hcz47_5,hcz47_6,hcz47_7,hcz47_8,hcz47_9,hcz47_10,hcz47_11,hfz47_0,hfz47_1,hfz47_2,hfz47_3,hfz47_4,hfz47_5,hfz47_6,hfz47_7,hfz47_8,hfz47_9,hfz47_10,hfz47_11⟩:=zc12 K125
        go_wp2
        go_meet
        case rel => exact ⟨_,((a0_10 == 0)),ze,H',⟨by have:=HJ1.out;have:=HJ34.out;first|omega|exact Nat.le_refl _⟩,⟨z1 K125.1⟩,⟨zH HB⟩⟩
       ·rw [if_neg c46] at H
        have c46b0 : (a0_9 == 0) = false:=beq_eq_false_iff_ne.mpr c46
        have c46b1 : (a0_9 != 0) = true:=bne_iff_ne.mpr c46
        (first|rw [c46b0]|(simp only [i64_w,i32_w];rw [c46b0])|skip)
        have H':=zA H
        clear H
        obtain ⟨hcz48_0,hcz48_1,hcz48_2,hcz48_3,hcz48_4,hcz48_5,hcz48_6,hcz48_7,hcz48_8,hcz48_9,hcz48_10,hcz48_11,hfz48_0,hfz48_1,hfz48_2,hfz48_3,hfz48_4,hfz48_5,hfz48_6,hfz48_7,hfz48_8,hfz48_9,hfz48_10,hfz48_11⟩:=zc12 K125
        go_wp2
        go_meet
        case rel => exact ⟨_,(false),ze,H',⟨by have:=HJ1.out;have:=HJ34.out;first|omega|exact Nat.le_refl _⟩,⟨z1 K125.1⟩,⟨zH HB⟩⟩
      case rest =>
       clear HC45
       try clear c34
       obtain ⟨kq,x4_44,rfl,HA,HJ44,K125,HB⟩:=hcut
       cases kq with
       | zero => exact absurd HA.out (by simp [message_packet.j2])
       | succ kj44 =>
        have H:=HA.out
        clear HA
        simp only [message_packet.j2] at H
        have HC49:=zA H
        clear H
        go_upto_region 5 with (fail)
        go_cut [5] (fun v5 wc => ∃ (kq : Nat) (x5_48 : Bool),v5 = .bool x5_48 ∧ Aside0 (message_packet.j3 kq x3_34 x4_44 x5_48 a0_0 a0_1 a0_2 a0_3 a0_4 a0_5 a0_6 a0_7 a0_8 a0_9 a0_10 a0_11 = some r) ∧ Aside0 (kq ≤ kj44) ∧ Aside0 (wc.heap[G125]? = some (.cells #[.int .i64 a0_0,.int .i64 a0_1,.int .i64 a0_2,.int .i64 a0_3,.int .i64 a0_4,.int .i64 a0_5,.int .u64 a0_6,.int .i64 a0_7,.string a0_8,.int .i64 a0_9,.int .i64 a0_10,.string a0_11] 76 (0,0))) ∧ Aside0 (Below w.heap.size w wc))
        case first =>
         have H:=HC49.out
         clear HC49
         replace H:=Option.bind_eq_some_iff.mp H
         obtain ⟨t133,A500,H⟩:=H
         (try dsimp only at H)
         have A50:=zA A500
         clear A500
         by_cases c51 : t133 = 0
         ·rw [if_pos c51] at H
          have c51b0 : (t133 == 0) = true:=beq_iff_eq.mpr c51
          have c51b1 : (t133 != 0) = false:=bne_eq_false_iff_eq.mpr c51
          clear c51
          (first|rw [c51b0]|(simp only [i64_w,i32_w];rw [c51b0])|skip)
          have H':=zA H
          clear H
          obtain ⟨hcz52_0,hcz52_1,hcz52_2,hcz52_3,hcz52_4,hcz52_5,hcz52_6,hcz52_7,hcz52_8,hcz52_9,hcz52_10,hcz52_11,hfz52_0,hfz52_1,hfz52_2,hfz52_3,hfz52_4,hfz52_5,hfz52_6,hfz52_7,hfz52_8,hfz52_9,hfz52_10,hfz52_11⟩:=zc12 K125
          go_wp2_with (first|((with_reducible refine gate_callee (f:=63) rfl ?_);refine zg (some 76) Try.func63 #[.string a0_8] ?_;(with_reducible refine (ident_CheckName.calls kj44 a0_8 t133 _ A50.out).mono ?_);rintro e w' ⟨rfl,⟨nd,rfl⟩⟩;refine ⟨_,rfl,?_⟩))
          go_meet
          case rel => exact ⟨_,((a0_11.toList == ([] : List UInt8))),ze,H',⟨by have:=HJ1.out;have:=HJ34.out;have:=HJ44.out;first|omega|exact Nat.le_refl _⟩,⟨z1 K125.1⟩,⟨zH HB⟩⟩
         ·rw [if_neg c51] at H
          have c51b0 : (t133 == 0) = false:=beq_eq_false_iff_ne.mpr c51
          have c51b1 : (t133 != 0) = true:=bne_iff_ne.mpr c51
          (first|rw [c51b0]|(simp only [i64_w,i32_w];rw [c51b0])|skip)
          have H':=zA H
          clear H
          obtain ⟨hcz53_0,hcz53_1,hcz53_2,hcz53_3,hcz53_4,hcz53_5,hcz53_6,hcz53_7,hcz53_8,hcz53_9,hcz53_10,hcz53_11,hfz53_0,hfz53_1,hfz53_2,hfz53_3,hfz53_4,hfz53_5,hfz53_6,hfz53_7,hfz53_8,hfz53_9,hfz53_10,hfz53_11⟩:=zc12 K125
          go_wp2_with (first|((with_reducible refine gate_callee (f:=63) rfl ?_);refine zg (some 76) Try.func63 #[.string a0_8] ?_;(with_reducible refine (ident_CheckName.calls kj44 a0_8 t133 _ A50.out).mono ?_);rintro e w' ⟨rfl,⟨nd,rfl⟩⟩;refine ⟨_,rfl,?_⟩))
          go_meet
          case rel => exact ⟨_,(false),ze,H',⟨by have:=HJ1.out;have:=HJ34.out;have:=HJ44.out;first|omega|exact Nat.le_refl _⟩,⟨z1 K125.1⟩,⟨zH HB⟩⟩
        case rest =>
         clear HC49
         try clear c34
         obtain ⟨kq,x5_48,rfl,HA,HJ48,K125,HB⟩:=hcut
         cases kq with
         | zero => exact absurd HA.out (by simp [message_packet.j3])
         | succ kj48 =>
          have H:=HA.out
          clear HA
          simp only [message_packet.j3] at H
          by_cases c54 : a0_0 = 1
          ·rw [if_pos c54] at H
           have c54b0 : (a0_0 == 1) = true:=beq_iff_eq.mpr c54
           have c54b1 : (a0_0 != 1) = false:=bne_eq_false_iff_eq.mpr c54
           clear c54
           by_cases c55 : a0_7 = 0
           ·rw [if_pos c55] at H
            have c55b0 : (a0_7 == 0) = true:=beq_iff_eq.mpr c55
            have c55b1 : (a0_7 != 0) = false:=bne_eq_false_iff_eq.mpr c55
            clear c55
            by_cases c56 : a0_8.toList = ([] : List UInt8)
            ·rw [if_pos c56] at H
             have c56b0 : (a0_8.toList == ([] : List UInt8)) = true:=beq_iff_eq.mpr c56
             have c56b1 : (a0_8.toList != ([] : List UInt8)) = false:=bne_eq_false_iff_eq.mpr c56
             clear c56
             by_cases c57 : x4_44 = true
             ·subst c57
              rw [if_pos rfl] at H
              obtain rfl:=Option.some.inj H
              obtain ⟨hcz58_0,hcz58_1,hcz58_2,hcz58_3,hcz58_4,hcz58_5,hcz58_6,hcz58_7,hcz58_8,hcz58_9,hcz58_10,hcz58_11,hfz58_0,hfz58_1,hfz58_2,hfz58_3,hfz58_4,hfz58_5,hfz58_6,hfz58_7,hfz58_8,hfz58_9,hfz58_10,hfz58_11⟩:=zc12 K125
              go_wp2
              go_ret
              exact ⟨zE,zH HB⟩
             ·replace c57:=Bool.eq_false_iff.mpr c57
              subst c57
              rw [if_neg (show ¬ (false = true) by decide)] at H
              obtain rfl:=Option.some.inj H
              obtain ⟨hcz59_0,hcz59_1,hcz59_2,hcz59_3,hcz59_4,hcz59_5,hcz59_6,hcz59_7,hcz59_8,hcz59_9,hcz59_10,hcz59_11,hfz59_0,hfz59_1,hfz59_2,hfz59_3,hfz59_4,hfz59_5,hfz59_6,hfz59_7,hfz59_8,hfz59_9,hfz59_10,hfz59_11⟩:=zc12 K125
              go_wp2
              go_ret
              exact ⟨zE,zH HB⟩
            ·rw [if_neg c56] at H
             have c56b0 : (a0_8.toList == ([] : List UInt8)) = false:=beq_eq_false_iff_ne.mpr c56
             have c56b1 : (a0_8.toList != ([] : List UInt8)) = true:=bne_iff_ne.mpr c56
             obtain rfl:=Option.some.inj H
             obtain ⟨hcz60_0,hcz60_1,hcz60_2,hcz60_3,hcz60_4,hcz60_5,hcz60_6,hcz60_7,hcz60_8,hcz60_9,hcz60_10,hcz60_11,hfz60_0,hfz60_1,hfz60_2,hfz60_3,hfz60_4,hfz60_5,hfz60_6,hfz60_7,hfz60_8,hfz60_9,hfz60_10,hfz60_11⟩:=zc12 K125
             go_wp2
             go_ret
             exact ⟨zE,zH HB⟩
           ·rw [if_neg c55] at H
            have c55b0 : (a0_7 == 0) = false:=beq_eq_false_iff_ne.mpr c55
            have c55b1 : (a0_7 != 0) = true:=bne_iff_ne.mpr c55
            obtain rfl:=Option.some.inj H
            obtain ⟨hcz61_0,hcz61_1,hcz61_2,hcz61_3,hcz61_4,hcz61_5,hcz61_6,hcz61_7,hcz61_8,hcz61_9,hcz61_10,hcz61_11,hfz61_0,hfz61_1,hfz61_2,hfz61_3,hfz61_4,hfz61_5,hfz61_6,hfz61_7,hfz61_8,hfz61_9,hfz61_10,hfz61_11⟩:=zc12 K125
            go_wp2
            go_ret
            exact ⟨zE,zH HB⟩
          ·rw [if_neg c54] at H
           have c54b0 : (a0_0 == 1) = false:=beq_eq_false_iff_ne.mpr c54
           have c54b1 : (a0_0 != 1) = true:=bne_iff_ne.mpr c54
           by_cases c62 : a0_0 = 2
           ·rw [if_pos c62] at H
            have c62b0 : (a0_0 == 2) = true:=beq_iff_eq.mpr c62
            have c62b1 : (a0_0 != 2) = false:=bne_eq_false_iff_eq.mpr c62
            clear c62
            by_cases c63 : a0_7 = 0
            ·rw [if_pos c63] at H
             have c63b0 : (a0_7 == 0) = true:=beq_iff_eq.mpr c63
             have c63b1 : (a0_7 != 0) = false:=bne_eq_false_iff_eq.mpr c63
             clear c63
             by_cases c64 : x5_48 = true
             ·subst c64
              rw [if_pos rfl] at H
              obtain rfl:=Option.some.inj H
              obtain ⟨hcz65_0,hcz65_1,hcz65_2,hcz65_3,hcz65_4,hcz65_5,hcz65_6,hcz65_7,hcz65_8,hcz65_9,hcz65_10,hcz65_11,hfz65_0,hfz65_1,hfz65_2,hfz65_3,hfz65_4,hfz65_5,hfz65_6,hfz65_7,hfz65_8,hfz65_9,hfz65_10,hfz65_11⟩:=zc12 K125
              go_wp2
              go_ret
              exact ⟨zE,zH HB⟩
             ·replace c64:=Bool.eq_false_iff.mpr c64
              subst c64
              rw [if_neg (show ¬ (false = true) by decide)] at H
              obtain rfl:=Option.some.inj H
              obtain ⟨hcz66_0,hcz66_1,hcz66_2,hcz66_3,hcz66_4,hcz66_5,hcz66_6,hcz66_7,hcz66_8,hcz66_9,hcz66_10,hcz66_11,hfz66_0,hfz66_1,hfz66_2,hfz66_3,hfz66_4,hfz66_5,hfz66_6,hfz66_7,hfz66_8,hfz66_9,hfz66_10,hfz66_11⟩:=zc12 K125
              go_wp2
              go_ret
              exact ⟨zE,zH HB⟩
            ·rw [if_neg c63] at H
             have c63b0 : (a0_7 == 0) = false:=beq_eq_false_iff_ne.mpr c63
             have c63b1 : (a0_7 != 0) = true:=bne_iff_ne.mpr c63
             obtain rfl:=Option.some.inj H
             obtain ⟨hcz67_0,hcz67_1,hcz67_2,hcz67_3,hcz67_4,hcz67_5,hcz67_6,hcz67_7,hcz67_8,hcz67_9,hcz67_10,hcz67_11,hfz67_0,hfz67_1,hfz67_2,hfz67_3,hfz67_4,hfz67_5,hfz67_6,hfz67_7,hfz67_8,hfz67_9,hfz67_10,hfz67_11⟩:=zc12 K125
             go_wp2
             go_ret
             exact ⟨zE,zH HB⟩
           ·rw [if_neg c62] at H
            have c62b0 : (a0_0 == 2) = false:=beq_eq_false_iff_ne.mpr c62
            have c62b1 : (a0_0 != 2) = true:=bne_iff_ne.mpr c62
            by_cases c68 : a0_0 = 3
            ·rw [if_pos c68] at H
             have c68b0 : (a0_0 == 3) = true:=beq_iff_eq.mpr c68
             have c68b1 : (a0_0 != 3) = false:=bne_eq_false_iff_eq.mpr c68
             clear c68
             by_cases c69 : a0_7 = 0
             ·rw [if_pos c69] at H
              have c69b0 : (a0_7 == 0) = true:=beq_iff_eq.mpr c69
              have c69b1 : (a0_7 != 0) = false:=bne_eq_false_iff_eq.mpr c69
              clear c69
              by_cases c70 : x5_48 = true
              ·subst c70
               rw [if_pos rfl] at H
               obtain rfl:=Option.some.inj H
               obtain ⟨hcz71_0,hcz71_1,hcz71_2,hcz71_3,hcz71_4,hcz71_5,hcz71_6,hcz71_7,hcz71_8,hcz71_9,hcz71_10,hcz71_11,hfz71_0,hfz71_1,hfz71_2,hfz71_3,hfz71_4,hfz71_5,hfz71_6,hfz71_7,hfz71_8,hfz71_9,hfz71_10,hfz71_11⟩:=zc12 K125
               go_wp2
               go_ret
               exact ⟨zE,zH HB⟩
              ·replace c70:=Bool.eq_false_iff.mpr c70
               subst c70
               rw [if_neg (show ¬ (false = true) by decide)] at H
               obtain rfl:=Option.some.inj H
               obtain ⟨hcz72_0,hcz72_1,hcz72_2,hcz72_3,hcz72_4,hcz72_5,hcz72_6,hcz72_7,hcz72_8,hcz72_9,hcz72_10,hcz72_11,hfz72_0,hfz72_1,hfz72_2,hfz72_3,hfz72_4,hfz72_5,hfz72_6,hfz72_7,hfz72_8,hfz72_9,hfz72_10,hfz72_11⟩:=zc12 K125
               go_wp2
               go_ret
               exact ⟨zE,zH HB⟩
             ·rw [if_neg c69] at H
              have c69b0 : (a0_7 == 0) = false:=beq_eq_false_iff_ne.mpr c69
              have c69b1 : (a0_7 != 0) = true:=bne_iff_ne.mpr c69
              obtain rfl:=Option.some.inj H
              obtain ⟨hcz73_0,hcz73_1,hcz73_2,hcz73_3,hcz73_4,hcz73_5,hcz73_6,hcz73_7,hcz73_8,hcz73_9,hcz73_10,hcz73_11,hfz73_0,hfz73_1,hfz73_2,hfz73_3,hfz73_4,hfz73_5,hfz73_6,hfz73_7,hfz73_8,hfz73_9,hfz73_10,hfz73_11⟩:=zc12 K125
              go_wp2
              go_ret
              exact ⟨zE,zH HB⟩
            ·rw [if_neg c68] at H
             have c68b0 : (a0_0 == 3) = false:=beq_eq_false_iff_ne.mpr c68
             have c68b1 : (a0_0 != 3) = true:=bne_iff_ne.mpr c68
             by_cases c74 : a0_0 = 4
             ·rw [if_pos c74] at H
              have c74b0 : (a0_0 == 4) = true:=beq_iff_eq.mpr c74
              have c74b1 : (a0_0 != 4) = false:=bne_eq_false_iff_eq.mpr c74
              clear c74
              by_cases c75 : x5_48 = true
              ·subst c75
               rw [if_pos rfl] at H
               by_cases c76 : a0_7 = 0
               ·rw [if_pos c76] at H
                have c76b0 : (a0_7 == 0) = true:=beq_iff_eq.mpr c76
                have c76b1 : (a0_7 != 0) = false:=bne_eq_false_iff_eq.mpr c76
                clear c76
                by_cases c77 : x3_34 = true
                ·subst c77
                 rw [if_pos rfl] at H
                 obtain rfl:=Option.some.inj H
                 obtain ⟨hcz78_0,hcz78_1,hcz78_2,hcz78_3,hcz78_4,hcz78_5,hcz78_6,hcz78_7,hcz78_8,hcz78_9,hcz78_10,hcz78_11,hfz78_0,hfz78_1,hfz78_2,hfz78_3,hfz78_4,hfz78_5,hfz78_6,hfz78_7,hfz78_8,hfz78_9,hfz78_10,hfz78_11⟩:=zc12 K125
                 go_wp2
                 go_ret
                 exact ⟨zE,zH HB⟩
                ·replace c77:=Bool.eq_false_iff.mpr c77
                 subst c77
                 rw [if_neg (show ¬ (false = true) by decide)] at H
                 by_cases c79 : a0_7 = 1
                 ·rw [if_pos c79] at H
                  have c79b0 : (a0_7 == 1) = true:=beq_iff_eq.mpr c79
                  have c79b1 : (a0_7 != 1) = false:=bne_eq_false_iff_eq.mpr c79
                  clear c79
                  obtain rfl:=Option.some.inj H
                  obtain ⟨hcz80_0,hcz80_1,hcz80_2,hcz80_3,hcz80_4,hcz80_5,hcz80_6,hcz80_7,hcz80_8,hcz80_9,hcz80_10,hcz80_11,hfz80_0,hfz80_1,hfz80_2,hfz80_3,hfz80_4,hfz80_5,hfz80_6,hfz80_7,hfz80_8,hfz80_9,hfz80_10,hfz80_11⟩:=zc12 K125
                  go_wp2
                  go_ret
                  exact ⟨zE,zH HB⟩
                 ·rw [if_neg c79] at H
                  have c79b0 : (a0_7 == 1) = false:=beq_eq_false_iff_ne.mpr c79
                  have c79b1 : (a0_7 != 1) = true:=bne_iff_ne.mpr c79
                  obtain rfl:=Option.some.inj H
                  obtain ⟨hcz81_0,hcz81_1,hcz81_2,hcz81_3,hcz81_4,hcz81_5,hcz81_6,hcz81_7,hcz81_8,hcz81_9,hcz81_10,hcz81_11,hfz81_0,hfz81_1,hfz81_2,hfz81_3,hfz81_4,hfz81_5,hfz81_6,hfz81_7,hfz81_8,hfz81_9,hfz81_10,hfz81_11⟩:=zc12 K125
                  go_wp2
                  go_ret
                  exact ⟨zE,zH HB⟩
               ·rw [if_neg c76] at H
                have c76b0 : (a0_7 == 0) = false:=beq_eq_false_iff_ne.mpr c76
                have c76b1 : (a0_7 != 0) = true:=bne_iff_ne.mpr c76
                by_cases c82 : a0_7 = 1
                ·rw [if_pos c82] at H
                 have c82b0 : (a0_7 == 1) = true:=beq_iff_eq.mpr c82
                 have c82b1 : (a0_7 != 1) = false:=bne_eq_false_iff_eq.mpr c82
                 clear c82
                 obtain rfl:=Option.some.inj H
                 obtain ⟨hcz83_0,hcz83_1,hcz83_2,hcz83_3,hcz83_4,hcz83_5,hcz83_6,hcz83_7,hcz83_8,hcz83_9,hcz83_10,hcz83_11,hfz83_0,hfz83_1,hfz83_2,hfz83_3,hfz83_4,hfz83_5,hfz83_6,hfz83_7,hfz83_8,hfz83_9,hfz83_10,hfz83_11⟩:=zc12 K125
                 go_wp2
                 go_ret
                 exact ⟨zE,zH HB⟩
                ·rw [if_neg c82] at H
                 have c82b0 : (a0_7 == 1) = false:=beq_eq_false_iff_ne.mpr c82
                 have c82b1 : (a0_7 != 1) = true:=bne_iff_ne.mpr c82
                 obtain rfl:=Option.some.inj H
                 obtain ⟨hcz84_0,hcz84_1,hcz84_2,hcz84_3,hcz84_4,hcz84_5,hcz84_6,hcz84_7,hcz84_8,hcz84_9,hcz84_10,hcz84_11,hfz84_0,hfz84_1,hfz84_2,hfz84_3,hfz84_4,hfz84_5,hfz84_6,hfz84_7,hfz84_8,hfz84_9,hfz84_10,hfz84_11⟩:=zc12 K125
                 go_wp2
                 go_ret
                 exact ⟨zE,zH HB⟩
              ·replace c75:=Bool.eq_false_iff.mpr c75
               subst c75
               rw [if_neg (show ¬ (false = true) by decide)] at H
               obtain rfl:=Option.some.inj H
               obtain ⟨hcz85_0,hcz85_1,hcz85_2,hcz85_3,hcz85_4,hcz85_5,hcz85_6,hcz85_7,hcz85_8,hcz85_9,hcz85_10,hcz85_11,hfz85_0,hfz85_1,hfz85_2,hfz85_3,hfz85_4,hfz85_5,hfz85_6,hfz85_7,hfz85_8,hfz85_9,hfz85_10,hfz85_11⟩:=zc12 K125
               go_wp2
               go_ret
               exact ⟨zE,zH HB⟩
             ·rw [if_neg c74] at H
              have c74b0 : (a0_0 == 4) = false:=beq_eq_false_iff_ne.mpr c74
              have c74b1 : (a0_0 != 4) = true:=bne_iff_ne.mpr c74
              obtain rfl:=Option.some.inj H
              obtain ⟨hcz86_0,hcz86_1,hcz86_2,hcz86_3,hcz86_4,hcz86_5,hcz86_6,hcz86_7,hcz86_8,hcz86_9,hcz86_10,hcz86_11,hfz86_0,hfz86_1,hfz86_2,hfz86_3,hfz86_4,hfz86_5,hfz86_6,hfz86_7,hfz86_8,hfz86_9,hfz86_10,hfz86_11⟩:=zc12 K125
              go_wp2
              go_ret
              exact ⟨zE,zH HB⟩

end Go.Proofs.Ytpcgjdllgdkobaa.XD
