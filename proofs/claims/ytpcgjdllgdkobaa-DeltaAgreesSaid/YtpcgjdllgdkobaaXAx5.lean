/- Go functions of this seat as Lean functions, with proofs that the calls come to them. (Written by xprint.py, a program of this session, over the kit's print.) -/
import Derived.Test.YtpcgjdllgdkobaaXAx0
import Derived.Test.YtpcgjdllgdkobaaXAx2
import Derived.Test.YtpcgjdllgdkobaaXAx4
namespace Go.Proofs.Ytpcgjdllgdkobaa.XA
open Go.RowKit Go.Proofs.YtpcgjdllgdkobaaW.PrintWords Go.Proofs.YtpcgjdllgdkobaaW.PrintLast Go.Proofs.YtpcgjdllgdkobaaW.PrintMore
attribute [local go_sem] max2_int min2_int max_two min_two max_three min_three max_four min_four   -- for this text's walks alone
set_option linter.unusedVariables false
set_option linter.unusedSimpArgs false
open List renaming setIfInBounds_toArray → xA, set_cons_zero → xB, set_cons_succ → xC
open Go.Proofs.YtpcgjdllgdkobaaW.PrintWords renaming blk_drewN → bN, blk_drew → bD, blk_alloc → bA, below_set → bS, blk_frozen → bF, blk_cell → bC, cell_far → cF, blk_far → bZ, blk_below → bB, pw_below_drewN → bwN, below_drew1 → bw1, below_alloc → bwA
open Go.Proofs.YtpcgjdllgdkobaaW.PrintZ
open Bool renaming true → T,false → F

/-! ### message_packet: function 57 -/
mutual
def message_packet.j0 : Nat → Bool → Int → Int → Int → Int → Int → Int → Int → Int → ByteArray → Int → Int → ByteArray → Option (Bool)
 | 0, _, _, _, _, _, _, _, _, _, _, _, _, _ => none
 | k + 1, x47, x124000, x124001, x124002, x124003, x124004, x124005, x124006, x124007, x124008, x124009, x124010, x124011 => if x47 = true then (some false) else (if x124009 = 0 then (message_packet.j1 k false x124000 x124001 x124002 x124003 x124004 x124005 x124006 x124007 x124008 x124009 x124010 x124011) else ((message_number.f x124009).bind fun t129 => (if t129 = true then (if x124010 = 0 then (message_packet.j1 k true x124000 x124001 x124002 x124003 x124004 x124005 x124006 x124007 x124008 x124009 x124010 x124011) else ((message_number.f x124010).bind fun t130 => (message_packet.j1 k t130 x124000 x124001 x124002 x124003 x124004 x124005 x124006 x124007 x124008 x124009 x124010 x124011))) else (message_packet.j1 k false x124000 x124001 x124002 x124003 x124004 x124005 x124006 x124007 x124008 x124009 x124010 x124011))))
def message_packet.j1 : Nat → Bool → Int → Int → Int → Int → Int → Int → Int → Int → ByteArray → Int → Int → ByteArray → Option (Bool)
 | 0, _, _, _, _, _, _, _, _, _, _, _, _, _ => none
 | k + 1, x3, x124000, x124001, x124002, x124003, x124004, x124005, x124006, x124007, x124008, x124009, x124010, x124011 => if x124009 = 0 then (message_packet.j2 k x3 (x124010 == 0) x124000 x124001 x124002 x124003 x124004 x124005 x124006 x124007 x124008 x124009 x124010 x124011) else (message_packet.j2 k x3 false x124000 x124001 x124002 x124003 x124004 x124005 x124006 x124007 x124008 x124009 x124010 x124011)
def message_packet.j2 : Nat → Bool → Bool → Int → Int → Int → Int → Int → Int → Int → Int → ByteArray → Int → Int → ByteArray → Option (Bool)
 | 0, _, _, _, _, _, _, _, _, _, _, _, _, _, _ => none
 | k + 1, x3, x4, x124000, x124001, x124002, x124003, x124004, x124005, x124006, x124007, x124008, x124009, x124010, x124011 => (ident_CheckName.f k x124008).bind fun t131 => (if t131 = 0 then (message_packet.j3 k x3 x4 (x124011.toList == ([] : List UInt8)) x124000 x124001 x124002 x124003 x124004 x124005 x124006 x124007 x124008 x124009 x124010 x124011) else (message_packet.j3 k x3 x4 false x124000 x124001 x124002 x124003 x124004 x124005 x124006 x124007 x124008 x124009 x124010 x124011))
def message_packet.j3 : Nat → Bool → Bool → Bool → Int → Int → Int → Int → Int → Int → Int → Int → ByteArray → Int → Int → ByteArray → Option (Bool)
 | 0, _, _, _, _, _, _, _, _, _, _, _, _, _, _, _ => none
 | k + 1, x3, x4, x5, x124000, x124001, x124002, x124003, x124004, x124005, x124006, x124007, x124008, x124009, x124010, x124011 => if x124000 = 1 then (if x124007 = 0 then (if x124008.toList = ([] : List UInt8) then (if x4 = true then (some (decide ((x124011.size : Int) ≤ 1024))) else (some false)) else (some false)) else (some false)) else (if x124000 = 2 then (if x124007 = 0 then (if x5 = true then (some x3) else (some false)) else (some false)) else (if x124000 = 3 then (if x124007 = 0 then (if x5 = true then (some x4) else (some false)) else (some false)) else (if x124000 = 4 then (if x5 = true then (if x124007 = 0 then (if x3 = true then (some true) else (if x124007 = 1 then (some x4) else (some false))) else (if x124007 = 1 then (some x4) else (some false))) else (some false)) else (some false))))
end
def message_packet.f (k : Nat) (a0_0 : Int) (a0_1 : Int) (a0_2 : Int) (a0_3 : Int) (a0_4 : Int) (a0_5 : Int) (a0_6 : Int) (a0_7 : Int) (a0_8 : ByteArray) (a0_9 : Int) (a0_10 : Int) (a0_11 : ByteArray) : Option (Bool) := (message_number.f a0_1).bind fun t124 => (if t124 = true then ((message_number.f a0_3).bind fun t125 => (if t125 = true then (if a0_2 = 0 then (if a0_4 = 0 then (if a0_5 < 0 then (message_packet.j0 k true a0_0 a0_1 a0_2 a0_3 a0_4 a0_5 a0_6 a0_7 a0_8 a0_9 a0_10 a0_11) else (message_packet.j0 k (decide (a0_5 > 65536)) a0_0 a0_1 a0_2 a0_3 a0_4 a0_5 a0_6 a0_7 a0_8 a0_9 a0_10 a0_11)) else ((message_number.f a0_4).bind fun t126 => (if t126 = true then (if a0_5 < 0 then (message_packet.j0 k true a0_0 a0_1 a0_2 a0_3 a0_4 a0_5 a0_6 a0_7 a0_8 a0_9 a0_10 a0_11) else (message_packet.j0 k (decide (a0_5 > 65536)) a0_0 a0_1 a0_2 a0_3 a0_4 a0_5 a0_6 a0_7 a0_8 a0_9 a0_10 a0_11)) else (message_packet.j0 k true a0_0 a0_1 a0_2 a0_3 a0_4 a0_5 a0_6 a0_7 a0_8 a0_9 a0_10 a0_11)))) else ((message_number.f a0_2).bind fun t127 => (if t127 = true then (if a0_4 = 0 then (if a0_5 < 0 then (message_packet.j0 k true a0_0 a0_1 a0_2 a0_3 a0_4 a0_5 a0_6 a0_7 a0_8 a0_9 a0_10 a0_11) else (message_packet.j0 k (decide (a0_5 > 65536)) a0_0 a0_1 a0_2 a0_3 a0_4 a0_5 a0_6 a0_7 a0_8 a0_9 a0_10 a0_11)) else ((message_number.f a0_4).bind fun t128 => (if t128 = true then (if a0_5 < 0 then (message_packet.j0 k true a0_0 a0_1 a0_2 a0_3 a0_4 a0_5 a0_6 a0_7 a0_8 a0_9 a0_10 a0_11) else (message_packet.j0 k (decide (a0_5 > 65536)) a0_0 a0_1 a0_2 a0_3 a0_4 a0_5 a0_6 a0_7 a0_8 a0_9 a0_10 a0_11)) else (message_packet.j0 k true a0_0 a0_1 a0_2 a0_3 a0_4 a0_5 a0_6 a0_7 a0_8 a0_9 a0_10 a0_11)))) else (message_packet.j0 k true a0_0 a0_1 a0_2 a0_3 a0_4 a0_5 a0_6 a0_7 a0_8 a0_9 a0_10 a0_11)))) else (message_packet.j0 k true a0_0 a0_1 a0_2 a0_3 a0_4 a0_5 a0_6 a0_7 a0_8 a0_9 a0_10 a0_11))) else (message_packet.j0 k true a0_0 a0_1 a0_2 a0_3 a0_4 a0_5 a0_6 a0_7 a0_8 a0_9 a0_10 a0_11))
theorem message_packet.mono_l : ∀ k, (∀ y0 y1 y2 y3 y4 y5 y6 y7 y8 y9 y10 y11 y12, LeO (message_packet.j0 k y0 y1 y2 y3 y4 y5 y6 y7 y8 y9 y10 y11 y12) (message_packet.j0 (k + 1) y0 y1 y2 y3 y4 y5 y6 y7 y8 y9 y10 y11 y12)) ∧ (∀ y0 y1 y2 y3 y4 y5 y6 y7 y8 y9 y10 y11 y12, LeO (message_packet.j1 k y0 y1 y2 y3 y4 y5 y6 y7 y8 y9 y10 y11 y12) (message_packet.j1 (k + 1) y0 y1 y2 y3 y4 y5 y6 y7 y8 y9 y10 y11 y12)) ∧ (∀ y0 y1 y2 y3 y4 y5 y6 y7 y8 y9 y10 y11 y12 y13, LeO (message_packet.j2 k y0 y1 y2 y3 y4 y5 y6 y7 y8 y9 y10 y11 y12 y13) (message_packet.j2 (k + 1) y0 y1 y2 y3 y4 y5 y6 y7 y8 y9 y10 y11 y12 y13)) ∧ (∀ y0 y1 y2 y3 y4 y5 y6 y7 y8 y9 y10 y11 y12 y13 y14, LeO (message_packet.j3 k y0 y1 y2 y3 y4 y5 y6 y7 y8 y9 y10 y11 y12 y13 y14) (message_packet.j3 (k + 1) y0 y1 y2 y3 y4 y5 y6 y7 y8 y9 y10 y11 y12 y13 y14))
 | 0 => ⟨fun _ _ _ _ _ _ _ _ _ _ _ _ _ r h => by simp [message_packet.j0] at h, fun _ _ _ _ _ _ _ _ _ _ _ _ _ r h => by simp [message_packet.j1] at h, fun _ _ _ _ _ _ _ _ _ _ _ _ _ _ r h => by simp [message_packet.j2] at h, fun _ _ _ _ _ _ _ _ _ _ _ _ _ _ _ r h => by simp [message_packet.j3] at h⟩
 | k + 1 => by
  obtain ⟨ih0,ih1,ih2,ih3⟩:=message_packet.mono_l k
  refine ⟨?_,?_,?_,?_⟩
  ·intro y0 y1 y2 y3 y4 y5 y6 y7 y8 y9 y10 y11 y12
   unfold message_packet.j0
   repeat' first
   | (with_reducible exact ih0 _ _ _ _ _ _ _ _ _ _ _ _ _)
   | (with_reducible exact ih1 _ _ _ _ _ _ _ _ _ _ _ _ _)
   | (with_reducible exact ih2 _ _ _ _ _ _ _ _ _ _ _ _ _ _)
   | (with_reducible exact ih3 _ _ _ _ _ _ _ _ _ _ _ _ _ _ _)
   | (with_reducible exact ident_CheckName.mono _ _)
   | (with_reducible exact LeO.refl _)
   | (with_reducible exact LeO.none _)
   | (with_reducible refine LeO.ite ?_ ?_)
   | (with_reducible refine LeO.bind ?_ (fun _ => ?_))
   | exact ih0 _ _ _ _ _ _ _ _ _ _ _ _ _
   | exact ih1 _ _ _ _ _ _ _ _ _ _ _ _ _
   | exact ih2 _ _ _ _ _ _ _ _ _ _ _ _ _ _
   | exact ih3 _ _ _ _ _ _ _ _ _ _ _ _ _ _ _
   | exact ident_CheckName.mono _ _
   | exact LeO.none _
   | refine LeO.ite ?_ ?_
   | refine LeO.bind ?_ (fun _ => ?_)
  ·intro y0 y1 y2 y3 y4 y5 y6 y7 y8 y9 y10 y11 y12
   unfold message_packet.j1
   repeat' first
   | (with_reducible exact ih0 _ _ _ _ _ _ _ _ _ _ _ _ _)
   | (with_reducible exact ih1 _ _ _ _ _ _ _ _ _ _ _ _ _)
   | (with_reducible exact ih2 _ _ _ _ _ _ _ _ _ _ _ _ _ _)
   | (with_reducible exact ih3 _ _ _ _ _ _ _ _ _ _ _ _ _ _ _)
   | (with_reducible exact ident_CheckName.mono _ _)
   | (with_reducible exact LeO.refl _)
   | (with_reducible exact LeO.none _)
   | (with_reducible refine LeO.ite ?_ ?_)
   | (with_reducible refine LeO.bind ?_ (fun _ => ?_))
   | exact ih0 _ _ _ _ _ _ _ _ _ _ _ _ _
   | exact ih1 _ _ _ _ _ _ _ _ _ _ _ _ _
   | exact ih2 _ _ _ _ _ _ _ _ _ _ _ _ _ _
   | exact ih3 _ _ _ _ _ _ _ _ _ _ _ _ _ _ _
   | exact ident_CheckName.mono _ _
   | exact LeO.none _
   | refine LeO.ite ?_ ?_
   | refine LeO.bind ?_ (fun _ => ?_)
  ·intro y0 y1 y2 y3 y4 y5 y6 y7 y8 y9 y10 y11 y12 y13
   unfold message_packet.j2
   repeat' first
   | (with_reducible exact ih0 _ _ _ _ _ _ _ _ _ _ _ _ _)
   | (with_reducible exact ih1 _ _ _ _ _ _ _ _ _ _ _ _ _)
   | (with_reducible exact ih2 _ _ _ _ _ _ _ _ _ _ _ _ _ _)
   | (with_reducible exact ih3 _ _ _ _ _ _ _ _ _ _ _ _ _ _ _)
   | (with_reducible exact ident_CheckName.mono _ _)
   | (with_reducible exact LeO.refl _)
   | (with_reducible exact LeO.none _)
   | (with_reducible refine LeO.ite ?_ ?_)
   | (with_reducible refine LeO.bind ?_ (fun _ => ?_))
   | exact ih0 _ _ _ _ _ _ _ _ _ _ _ _ _
   | exact ih1 _ _ _ _ _ _ _ _ _ _ _ _ _
   | exact ih2 _ _ _ _ _ _ _ _ _ _ _ _ _ _
   | exact ih3 _ _ _ _ _ _ _ _ _ _ _ _ _ _ _
   | exact ident_CheckName.mono _ _
   | exact LeO.none _
   | refine LeO.ite ?_ ?_
   | refine LeO.bind ?_ (fun _ => ?_)
  ·intro y0 y1 y2 y3 y4 y5 y6 y7 y8 y9 y10 y11 y12 y13 y14
   unfold message_packet.j3
   repeat' first
   | (with_reducible exact ih0 _ _ _ _ _ _ _ _ _ _ _ _ _)
   | (with_reducible exact ih1 _ _ _ _ _ _ _ _ _ _ _ _ _)
   | (with_reducible exact ih2 _ _ _ _ _ _ _ _ _ _ _ _ _ _)
   | (with_reducible exact ih3 _ _ _ _ _ _ _ _ _ _ _ _ _ _ _)
   | (with_reducible exact ident_CheckName.mono _ _)
   | (with_reducible exact LeO.refl _)
   | (with_reducible exact LeO.none _)
   | (with_reducible refine LeO.ite ?_ ?_)
   | (with_reducible refine LeO.bind ?_ (fun _ => ?_))
   | exact ih0 _ _ _ _ _ _ _ _ _ _ _ _ _
   | exact ih1 _ _ _ _ _ _ _ _ _ _ _ _ _
   | exact ih2 _ _ _ _ _ _ _ _ _ _ _ _ _ _
   | exact ih3 _ _ _ _ _ _ _ _ _ _ _ _ _ _ _
   | exact ident_CheckName.mono _ _
   | exact LeO.none _
   | refine LeO.ite ?_ ?_
   | refine LeO.bind ?_ (fun _ => ?_)
theorem message_packet.mono : ∀ a0 a1 a2 a3 a4 a5 a6 a7 a8 a9 a10 a11 k, LeO (message_packet.f k a0 a1 a2 a3 a4 a5 a6 a7 a8 a9 a10 a11) (message_packet.f (k + 1) a0 a1 a2 a3 a4 a5 a6 a7 a8 a9 a10 a11) := by
 intro a0 a1 a2 a3 a4 a5 a6 a7 a8 a9 a10 a11 k
 obtain ⟨ih0,ih1,ih2,ih3⟩:=message_packet.mono_l k
 unfold message_packet.f
 repeat' first
   | (with_reducible exact ih0 _ _ _ _ _ _ _ _ _ _ _ _ _)
   | (with_reducible exact ih1 _ _ _ _ _ _ _ _ _ _ _ _ _)
   | (with_reducible exact ih2 _ _ _ _ _ _ _ _ _ _ _ _ _ _)
   | (with_reducible exact ih3 _ _ _ _ _ _ _ _ _ _ _ _ _ _ _)
   | (with_reducible exact ident_CheckName.mono _ _)
   | (with_reducible exact LeO.refl _)
   | (with_reducible exact LeO.none _)
   | (with_reducible refine LeO.ite ?_ ?_)
   | (with_reducible refine LeO.bind ?_ (fun _ => ?_))
   | exact ih0 _ _ _ _ _ _ _ _ _ _ _ _ _
   | exact ih1 _ _ _ _ _ _ _ _ _ _ _ _ _
   | exact ih2 _ _ _ _ _ _ _ _ _ _ _ _ _ _
   | exact ih3 _ _ _ _ _ _ _ _ _ _ _ _ _ _ _
   | exact ident_CheckName.mono _ _
   | exact LeO.none _
   | refine LeO.ite ?_ ?_
   | refine LeO.bind ?_ (fun _ => ?_)
set_option maxHeartbeats 8000000 in
set_option maxRecDepth 100000 in
theorem message_packet.calls (k : Nat) (a0_0 : Int) (a0_1 : Int) (a0_2 : Int) (a0_3 : Int) (a0_4 : Int) (a0_5 : Int) (a0_6 : Int) (a0_7 : Int) (a0_8 : ByteArray) (a0_9 : Int) (a0_10 : Int) (a0_11 : ByteArray) (r : Bool) (w : World) (h : message_packet.f k a0_0 a0_1 a0_2 a0_3 a0_4 a0_5 a0_6 a0_7 a0_8 a0_9 a0_10 a0_11 = some r) :
  Calls Try.prog 57 #[.agg #[.int .i64 a0_0,.int .i64 a0_1,.int .i64 a0_2,.int .i64 a0_3,.int .i64 a0_4,.int .i64 a0_5,.int .u64 a0_6,.int .i64 a0_7,.string a0_8,.int .i64 a0_9,.int .i64 a0_10,.string a0_11]] w fun e w' => e = .returned (.bool r) ∧ Below w.heap.size w w':=by
 have hu76:=Try.underlying76;have HB:=zA (Below.refl w.heap.size w);have H : ((message_number.f a0_1).bind fun t124 => (if t124 = true then ((message_number.f a0_3).bind fun t125 => (if t125 = true then (if a0_2 = 0 then (if a0_4 = 0 then (if a0_5 < 0 then (message_packet.j0 k true a0_0 a0_1 a0_2 a0_3 a0_4 a0_5 a0_6 a0_7 a0_8 a0_9 a0_10 a0_11) else (message_packet.j0 k (decide (a0_5 > 65536)) a0_0 a0_1 a0_2 a0_3 a0_4 a0_5 a0_6 a0_7 a0_8 a0_9 a0_10 a0_11)) else ((message_number.f a0_4).bind fun t126 => (if t126 = true then (if a0_5 < 0 then (message_packet.j0 k true a0_0 a0_1 a0_2 a0_3 a0_4 a0_5 a0_6 a0_7 a0_8 a0_9 a0_10 a0_11) else (message_packet.j0 k (decide (a0_5 > 65536)) a0_0 a0_1 a0_2 a0_3 a0_4 a0_5 a0_6 a0_7 a0_8 a0_9 a0_10 a0_11)) else (message_packet.j0 k true a0_0 a0_1 a0_2 a0_3 a0_4 a0_5 a0_6 a0_7 a0_8 a0_9 a0_10 a0_11)))) else ((message_number.f a0_2).bind fun t127 => (if t127 = true then (if a0_4 = 0 then (if a0_5 < 0 then (message_packet.j0 k true a0_0 a0_1 a0_2 a0_3 a0_4 a0_5 a0_6 a0_7 a0_8 a0_9 a0_10 a0_11) else (message_packet.j0 k (decide (a0_5 > 65536)) a0_0 a0_1 a0_2 a0_3 a0_4 a0_5 a0_6 a0_7 a0_8 a0_9 a0_10 a0_11)) else ((message_number.f a0_4).bind fun t128 => (if t128 = true then (if a0_5 < 0 then (message_packet.j0 k true a0_0 a0_1 a0_2 a0_3 a0_4 a0_5 a0_6 a0_7 a0_8 a0_9 a0_10 a0_11) else (message_packet.j0 k (decide (a0_5 > 65536)) a0_0 a0_1 a0_2 a0_3 a0_4 a0_5 a0_6 a0_7 a0_8 a0_9 a0_10 a0_11)) else (message_packet.j0 k true a0_0 a0_1 a0_2 a0_3 a0_4 a0_5 a0_6 a0_7 a0_8 a0_9 a0_10 a0_11)))) else (message_packet.j0 k true a0_0 a0_1 a0_2 a0_3 a0_4 a0_5 a0_6 a0_7 a0_8 a0_9 a0_10 a0_11)))) else (message_packet.j0 k true a0_0 a0_1 a0_2 a0_3 a0_4 a0_5 a0_6 a0_7 a0_8 a0_9 a0_10 a0_11))) else (message_packet.j0 k true a0_0 a0_1 a0_2 a0_3 a0_4 a0_5 a0_6 a0_7 a0_8 a0_9 a0_10 a0_11))) = some r:=h;clear h;have HC2:=zA H;clear H;go_enter Try.func57,Try.ntmps57
 go_upto_region 1 with (first|((with_reducible refine gate_dst (N:=1) rfl ?_);(try (refine gate_guard (by rfl) ?_;dsimp only));refine zb (N:=1) (cs:=#[.int .i64 a0_0,.int .i64 a0_1,.int .i64 a0_2,.int .i64 a0_3,.int .i64 a0_4,.int .i64 a0_5,.int .u64 a0_6,.int .i64 a0_7,.string a0_8,.int .i64 a0_9,.int .i64 a0_10,.string a0_11]) (t:=76) ?_;intro G123 hg w3 hbox hb;have K123:=zA (hbox);have GW123:=zN HB hg;have GE123:=zN HB hg;replace HB:=zS HB hb;clear hb hbox hg))
 (try simp only [Act.put,xA,xB,xC]);go_cut [47] (fun v47 wc => ∃ (kq : Nat) (x47_1 : Bool),v47 = .bool x47_1 ∧ Aside0 (message_packet.j0 kq x47_1 a0_0 a0_1 a0_2 a0_3 a0_4 a0_5 a0_6 a0_7 a0_8 a0_9 a0_10 a0_11 = some r) ∧ Aside0 (kq ≤ k) ∧ Aside0 (wc.heap[G123]? = some (.cells #[.int .i64 a0_0,.int .i64 a0_1,.int .i64 a0_2,.int .i64 a0_3,.int .i64 a0_4,.int .i64 a0_5,.int .u64 a0_6,.int .i64 a0_7,.string a0_8,.int .i64 a0_9,.int .i64 a0_10,.string a0_11] 76 (0,0))) ∧ Aside0 (Below w.heap.size w wc))
 case first =>
  have H:=HC2.out;clear HC2;replace H:=Option.bind_eq_some_iff.mp H;obtain ⟨t124,A40,H⟩:=H;(try dsimp only at H);have A4:=zA A40;clear A40;by_cases c5 : t124 = true
  ·subst c5;rw [if_pos rfl] at H;replace H:=Option.bind_eq_some_iff.mp H;obtain ⟨t125,A60,H⟩:=H;(try dsimp only at H);have A6:=zA A60;clear A60;by_cases c7 : t125 = true
   ·subst c7;rw [if_pos rfl] at H;by_cases c8 : a0_2 = 0
    ·rw [if_pos c8] at H;have c8b0 : (a0_2 == 0) = true:=beq_iff_eq.mpr c8;have c8b1 : (a0_2 != 0) = false:=bne_eq_false_iff_eq.mpr c8;clear c8;(first|rw [c8b0]|(simp only [i64_w,i32_w];rw [c8b0])|skip)
     by_cases c9 : a0_4 = 0
     ·rw [if_pos c9] at H;have c9b0 : (a0_4 == 0) = true:=beq_iff_eq.mpr c9;have c9b1 : (a0_4 != 0) = false:=bne_eq_false_iff_eq.mpr c9;clear c9;by_cases c10 : a0_5 < 0
      ·rw [if_pos c10] at H;have c10b0 : decide (a0_5 < 0) = true:=decide_eq_true c10;clear c10;have H':=zA H;clear H;obtain ⟨_,_,_,_,_,_,_,_,_,_,_,_,_,_,_,_,_,_,_,_,_,_,_,_⟩:=zc12 K123;go_wp2_with (first|((with_reducible refine gate_callee (f:=61) rfl ?_);refine zg (some 8) Try.func61 #[.int .i64 a0_1] ?_;(with_reducible refine (message_number.calls a0_1 true _ A4.out).mono ?_);rintro e w' ⟨rfl,⟨nd,rfl⟩⟩;refine ⟨_,rfl,?_⟩)|(go_at_call 61;(with_reducible refine (message_number.calls a0_3 true _ A6.out).mono ?_);rintro e w' ⟨rfl,⟨nd,rfl⟩⟩))
       go_meet
       case rel => exact ⟨_,(true),ze,H',⟨zo⟩,⟨z1 K123.1⟩,⟨zH HB⟩⟩
      ·rw [if_neg c10] at H;have c10b0 : decide (a0_5 < 0) = false:=decide_eq_false c10;clear c10;have H':=zA H;clear H;obtain ⟨_,_,_,_,_,_,_,_,_,_,_,_,_,_,_,_,_,_,_,_,_,_,_,_⟩:=zc12 K123;go_wp2_with (first|((with_reducible refine gate_callee (f:=61) rfl ?_);refine zg (some 8) Try.func61 #[.int .i64 a0_1] ?_;(with_reducible refine (message_number.calls a0_1 true _ A4.out).mono ?_);rintro e w' ⟨rfl,⟨nd,rfl⟩⟩;refine ⟨_,rfl,?_⟩)|(go_at_call 61;(with_reducible refine (message_number.calls a0_3 true _ A6.out).mono ?_);rintro e w' ⟨rfl,⟨nd,rfl⟩⟩))
       go_meet
       case rel => exact ⟨_,(decide (a0_5 > 65536)),ze,H',⟨zo⟩,⟨z1 K123.1⟩,⟨zH HB⟩⟩
     ·rw [if_neg c9] at H;have c9b0 : (a0_4 == 0) = false:=beq_eq_false_iff_ne.mpr c9;have c9b1 : (a0_4 != 0) = true:=bne_iff_ne.mpr c9;replace H:=Option.bind_eq_some_iff.mp H;obtain ⟨t126,A130,H⟩:=H;(try dsimp only at H);have A13:=zA A130;clear A130;by_cases c14 : t126 = true
      ·subst c14;rw [if_pos rfl] at H;by_cases c15 : a0_5 < 0
       ·rw [if_pos c15] at H;have c15b0 : decide (a0_5 < 0) = true:=decide_eq_true c15;clear c15;have H':=zA H;clear H;obtain ⟨_,_,_,_,_,_,_,_,_,_,_,_,_,_,_,_,_,_,_,_,_,_,_,_⟩:=zc12 K123;go_wp2_with (first|((with_reducible refine gate_callee (f:=61) rfl ?_);refine zg (some 8) Try.func61 #[.int .i64 a0_1] ?_;(with_reducible refine (message_number.calls a0_1 true _ A4.out).mono ?_);rintro e w' ⟨rfl,⟨nd,rfl⟩⟩;refine ⟨_,rfl,?_⟩)|(go_at_call 61;(with_reducible refine (message_number.calls a0_3 true _ A6.out).mono ?_);rintro e w' ⟨rfl,⟨nd,rfl⟩⟩)|(go_at_call 61;(with_reducible refine (message_number.calls a0_4 true _ A13.out).mono ?_);rintro e w' ⟨rfl,⟨nd,rfl⟩⟩))
        go_meet
        case rel => exact ⟨_,(true),ze,H',⟨zo⟩,⟨z1 K123.1⟩,⟨zH HB⟩⟩
       ·rw [if_neg c15] at H;have c15b0 : decide (a0_5 < 0) = false:=decide_eq_false c15;clear c15;have H':=zA H;clear H;obtain ⟨_,_,_,_,_,_,_,_,_,_,_,_,_,_,_,_,_,_,_,_,_,_,_,_⟩:=zc12 K123;go_wp2_with (first|((with_reducible refine gate_callee (f:=61) rfl ?_);refine zg (some 8) Try.func61 #[.int .i64 a0_1] ?_;(with_reducible refine (message_number.calls a0_1 true _ A4.out).mono ?_);rintro e w' ⟨rfl,⟨nd,rfl⟩⟩;refine ⟨_,rfl,?_⟩)|(go_at_call 61;(with_reducible refine (message_number.calls a0_3 true _ A6.out).mono ?_);rintro e w' ⟨rfl,⟨nd,rfl⟩⟩)|(go_at_call 61;(with_reducible refine (message_number.calls a0_4 true _ A13.out).mono ?_);rintro e w' ⟨rfl,⟨nd,rfl⟩⟩))
        go_meet
        case rel => exact ⟨_,(decide (a0_5 > 65536)),ze,H',⟨zo⟩,⟨z1 K123.1⟩,⟨zH HB⟩⟩
      ·replace c14:=Bool.eq_false_iff.mpr c14;subst c14;rw [if_neg (show ¬ (false = true) by decide)] at H;have H':=zA H;clear H;obtain ⟨_,_,_,_,_,_,_,_,_,_,_,_,_,_,_,_,_,_,_,_,_,_,_,_⟩:=zc12 K123;go_wp2_with (first|((with_reducible refine gate_callee (f:=61) rfl ?_);refine zg (some 8) Try.func61 #[.int .i64 a0_1] ?_;(with_reducible refine (message_number.calls a0_1 true _ A4.out).mono ?_);rintro e w' ⟨rfl,⟨nd,rfl⟩⟩;refine ⟨_,rfl,?_⟩)|(go_at_call 61;(with_reducible refine (message_number.calls a0_3 true _ A6.out).mono ?_);rintro e w' ⟨rfl,⟨nd,rfl⟩⟩)|(go_at_call 61;(with_reducible refine (message_number.calls a0_4 false _ A13.out).mono ?_);rintro e w' ⟨rfl,⟨nd,rfl⟩⟩))
       go_meet
       case rel => exact ⟨_,(true),ze,H',⟨zo⟩,⟨z1 K123.1⟩,⟨zH HB⟩⟩
    ·rw [if_neg c8] at H;have c8b0 : (a0_2 == 0) = false:=beq_eq_false_iff_ne.mpr c8;have c8b1 : (a0_2 != 0) = true:=bne_iff_ne.mpr c8;(first|rw [c8b0]|(simp only [i64_w,i32_w];rw [c8b0])|skip)
     replace H:=Option.bind_eq_some_iff.mp H;obtain ⟨t127,A190,H⟩:=H;(try dsimp only at H);have A19:=zA A190;clear A190;by_cases c20 : t127 = true
     ·subst c20;rw [if_pos rfl] at H;by_cases c21 : a0_4 = 0
      ·rw [if_pos c21] at H;have c21b0 : (a0_4 == 0) = true:=beq_iff_eq.mpr c21;have c21b1 : (a0_4 != 0) = false:=bne_eq_false_iff_eq.mpr c21;clear c21;by_cases c22 : a0_5 < 0
       ·rw [if_pos c22] at H;have c22b0 : decide (a0_5 < 0) = true:=decide_eq_true c22;clear c22;have H':=zA H;clear H;obtain ⟨_,_,_,_,_,_,_,_,_,_,_,_,_,_,_,_,_,_,_,_,_,_,_,_⟩:=zc12 K123;go_wp2_with (first|((with_reducible refine gate_callee (f:=61) rfl ?_);refine zg (some 8) Try.func61 #[.int .i64 a0_1] ?_;(with_reducible refine (message_number.calls a0_1 true _ A4.out).mono ?_);rintro e w' ⟨rfl,⟨nd,rfl⟩⟩;refine ⟨_,rfl,?_⟩)|(go_at_call 61;(with_reducible refine (message_number.calls a0_3 true _ A6.out).mono ?_);rintro e w' ⟨rfl,⟨nd,rfl⟩⟩)|(go_at_call 61;(with_reducible refine (message_number.calls a0_2 true _ A19.out).mono ?_);rintro e w' ⟨rfl,⟨nd,rfl⟩⟩))
        go_meet
        case rel => exact ⟨_,(true),ze,H',⟨zo⟩,⟨z1 K123.1⟩,⟨zH HB⟩⟩
       ·rw [if_neg c22] at H;have c22b0 : decide (a0_5 < 0) = false:=decide_eq_false c22;clear c22;have H':=zA H;clear H;obtain ⟨_,_,_,_,_,_,_,_,_,_,_,_,_,_,_,_,_,_,_,_,_,_,_,_⟩:=zc12 K123;go_wp2_with (first|((with_reducible refine gate_callee (f:=61) rfl ?_);refine zg (some 8) Try.func61 #[.int .i64 a0_1] ?_;(with_reducible refine (message_number.calls a0_1 true _ A4.out).mono ?_);rintro e w' ⟨rfl,⟨nd,rfl⟩⟩;refine ⟨_,rfl,?_⟩)|(go_at_call 61;(with_reducible refine (message_number.calls a0_3 true _ A6.out).mono ?_);rintro e w' ⟨rfl,⟨nd,rfl⟩⟩)|(go_at_call 61;(with_reducible refine (message_number.calls a0_2 true _ A19.out).mono ?_);rintro e w' ⟨rfl,⟨nd,rfl⟩⟩))
        go_meet
        case rel => exact ⟨_,(decide (a0_5 > 65536)),ze,H',⟨zo⟩,⟨z1 K123.1⟩,⟨zH HB⟩⟩
      ·rw [if_neg c21] at H;have c21b0 : (a0_4 == 0) = false:=beq_eq_false_iff_ne.mpr c21;have c21b1 : (a0_4 != 0) = true:=bne_iff_ne.mpr c21;replace H:=Option.bind_eq_some_iff.mp H;obtain ⟨t128,A250,H⟩:=H;(try dsimp only at H);have A25:=zA A250;clear A250;by_cases c26 : t128 = true
       ·subst c26;rw [if_pos rfl] at H;by_cases c27 : a0_5 < 0
        ·rw [if_pos c27] at H;have c27b0 : decide (a0_5 < 0) = true:=decide_eq_true c27;clear c27;have H':=zA H;clear H;obtain ⟨_,_,_,_,_,_,_,_,_,_,_,_,_,_,_,_,_,_,_,_,_,_,_,_⟩:=zc12 K123;go_wp2_with (first|((with_reducible refine gate_callee (f:=61) rfl ?_);refine zg (some 8) Try.func61 #[.int .i64 a0_1] ?_;(with_reducible refine (message_number.calls a0_1 true _ A4.out).mono ?_);rintro e w' ⟨rfl,⟨nd,rfl⟩⟩;refine ⟨_,rfl,?_⟩)|(go_at_call 61;(with_reducible refine (message_number.calls a0_3 true _ A6.out).mono ?_);rintro e w' ⟨rfl,⟨nd,rfl⟩⟩)|(go_at_call 61;(with_reducible refine (message_number.calls a0_2 true _ A19.out).mono ?_);rintro e w' ⟨rfl,⟨nd,rfl⟩⟩)|(go_at_call 61;(with_reducible refine (message_number.calls a0_4 true _ A25.out).mono ?_);rintro e w' ⟨rfl,⟨nd,rfl⟩⟩))
         go_meet
         case rel => exact ⟨_,(true),ze,H',⟨zo⟩,⟨z1 K123.1⟩,⟨zH HB⟩⟩
        ·rw [if_neg c27] at H;have c27b0 : decide (a0_5 < 0) = false:=decide_eq_false c27;clear c27;have H':=zA H;clear H;obtain ⟨_,_,_,_,_,_,_,_,_,_,_,_,_,_,_,_,_,_,_,_,_,_,_,_⟩:=zc12 K123;go_wp2_with (first|((with_reducible refine gate_callee (f:=61) rfl ?_);refine zg (some 8) Try.func61 #[.int .i64 a0_1] ?_;(with_reducible refine (message_number.calls a0_1 true _ A4.out).mono ?_);rintro e w' ⟨rfl,⟨nd,rfl⟩⟩;refine ⟨_,rfl,?_⟩)|(go_at_call 61;(with_reducible refine (message_number.calls a0_3 true _ A6.out).mono ?_);rintro e w' ⟨rfl,⟨nd,rfl⟩⟩)|(go_at_call 61;(with_reducible refine (message_number.calls a0_2 true _ A19.out).mono ?_);rintro e w' ⟨rfl,⟨nd,rfl⟩⟩)|(go_at_call 61;(with_reducible refine (message_number.calls a0_4 true _ A25.out).mono ?_);rintro e w' ⟨rfl,⟨nd,rfl⟩⟩))
         go_meet
         case rel => exact ⟨_,(decide (a0_5 > 65536)),ze,H',⟨zo⟩,⟨z1 K123.1⟩,⟨zH HB⟩⟩
       ·replace c26:=Bool.eq_false_iff.mpr c26;subst c26;rw [if_neg (show ¬ (false = true) by decide)] at H;have H':=zA H;clear H;obtain ⟨_,_,_,_,_,_,_,_,_,_,_,_,_,_,_,_,_,_,_,_,_,_,_,_⟩:=zc12 K123;go_wp2_with (first|((with_reducible refine gate_callee (f:=61) rfl ?_);refine zg (some 8) Try.func61 #[.int .i64 a0_1] ?_;(with_reducible refine (message_number.calls a0_1 true _ A4.out).mono ?_);rintro e w' ⟨rfl,⟨nd,rfl⟩⟩;refine ⟨_,rfl,?_⟩)|(go_at_call 61;(with_reducible refine (message_number.calls a0_3 true _ A6.out).mono ?_);rintro e w' ⟨rfl,⟨nd,rfl⟩⟩)|(go_at_call 61;(with_reducible refine (message_number.calls a0_2 true _ A19.out).mono ?_);rintro e w' ⟨rfl,⟨nd,rfl⟩⟩)|(go_at_call 61;(with_reducible refine (message_number.calls a0_4 false _ A25.out).mono ?_);rintro e w' ⟨rfl,⟨nd,rfl⟩⟩))
        go_meet
        case rel => exact ⟨_,(true),ze,H',⟨zo⟩,⟨z1 K123.1⟩,⟨zH HB⟩⟩
     ·replace c20:=Bool.eq_false_iff.mpr c20;subst c20;rw [if_neg (show ¬ (false = true) by decide)] at H;have H':=zA H;clear H;obtain ⟨_,_,_,_,_,_,_,_,_,_,_,_,_,_,_,_,_,_,_,_,_,_,_,_⟩:=zc12 K123;go_wp2_with (first|((with_reducible refine gate_callee (f:=61) rfl ?_);refine zg (some 8) Try.func61 #[.int .i64 a0_1] ?_;(with_reducible refine (message_number.calls a0_1 true _ A4.out).mono ?_);rintro e w' ⟨rfl,⟨nd,rfl⟩⟩;refine ⟨_,rfl,?_⟩)|(go_at_call 61;(with_reducible refine (message_number.calls a0_3 true _ A6.out).mono ?_);rintro e w' ⟨rfl,⟨nd,rfl⟩⟩)|(go_at_call 61;(with_reducible refine (message_number.calls a0_2 false _ A19.out).mono ?_);rintro e w' ⟨rfl,⟨nd,rfl⟩⟩))
      go_meet
      case rel => exact ⟨_,(true),ze,H',⟨zo⟩,⟨z1 K123.1⟩,⟨zH HB⟩⟩
   ·replace c7:=Bool.eq_false_iff.mpr c7;subst c7;rw [if_neg (show ¬ (false = true) by decide)] at H;have H':=zA H;clear H;obtain ⟨_,_,_,_,_,_,_,_,_,_,_,_,_,_,_,_,_,_,_,_,_,_,_,_⟩:=zc12 K123;go_wp2_with (first|((with_reducible refine gate_callee (f:=61) rfl ?_);refine zg (some 8) Try.func61 #[.int .i64 a0_1] ?_;(with_reducible refine (message_number.calls a0_1 true _ A4.out).mono ?_);rintro e w' ⟨rfl,⟨nd,rfl⟩⟩;refine ⟨_,rfl,?_⟩)|(go_at_call 61;(with_reducible refine (message_number.calls a0_3 false _ A6.out).mono ?_);rintro e w' ⟨rfl,⟨nd,rfl⟩⟩))
    go_meet
    case rel => exact ⟨_,(true),ze,H',⟨zo⟩,⟨z1 K123.1⟩,⟨zH HB⟩⟩
  ·replace c5:=Bool.eq_false_iff.mpr c5;subst c5;rw [if_neg (show ¬ (false = true) by decide)] at H;have H':=zA H;clear H;obtain ⟨_,_,_,_,_,_,_,_,_,_,_,_,_,_,_,_,_,_,_,_,_,_,_,_⟩:=zc12 K123;go_wp2_with (first|((with_reducible refine gate_callee (f:=61) rfl ?_);refine zg (some 8) Try.func61 #[.int .i64 a0_1] ?_;(with_reducible refine (message_number.calls a0_1 false _ A4.out).mono ?_);rintro e w' ⟨rfl,⟨nd,rfl⟩⟩;refine ⟨_,rfl,?_⟩))
   go_meet
   case rel => exact ⟨_,(true),ze,H',⟨zo⟩,⟨z1 K123.1⟩,⟨zH HB⟩⟩
 case rest =>
  clear HC2;obtain ⟨kq,x47_1,rfl,HA,HJ1,K123,HB⟩:=hcut;cases kq with
  | zero => exact absurd HA.out (by simp [message_packet.j0])
  | succ kj1 =>
   have H:=HA.out;clear HA;simp only [message_packet.j0] at H;by_cases c34 : x47_1 = true
   ·subst c34;rw [if_pos rfl] at H;obtain rfl:=Option.some.inj H;go_wp2
    go_ret
    exact ⟨zE,zH HB⟩
   ·replace c34:=Bool.eq_false_iff.mpr c34;subst c34;rw [if_neg (show ¬ (false = true) by decide)] at H;have HC35:=zA H;clear H;go_upto_region 3 with (fail)
    go_cut [3] (fun v3 wc => ∃ (kq : Nat) (x3_34 : Bool),v3 = .bool x3_34 ∧ Aside0 (message_packet.j1 kq x3_34 a0_0 a0_1 a0_2 a0_3 a0_4 a0_5 a0_6 a0_7 a0_8 a0_9 a0_10 a0_11 = some r) ∧ Aside0 (kq ≤ kj1) ∧ Aside0 (wc.heap[G123]? = some (.cells #[.int .i64 a0_0,.int .i64 a0_1,.int .i64 a0_2,.int .i64 a0_3,.int .i64 a0_4,.int .i64 a0_5,.int .u64 a0_6,.int .i64 a0_7,.string a0_8,.int .i64 a0_9,.int .i64 a0_10,.string a0_11] 76 (0,0))) ∧ Aside0 (Below w.heap.size w wc))
    case first =>
     have H:=HC35.out;clear HC35;by_cases c36 : a0_9 = 0
     ·rw [if_pos c36] at H;have c36b0 : (a0_9 == 0) = true:=beq_iff_eq.mpr c36;have c36b1 : (a0_9 != 0) = false:=bne_eq_false_iff_eq.mpr c36;clear c36;(first|rw [c36b0]|(simp only [i64_w,i32_w];rw [c36b0])|skip)
      have H':=zA H;clear H;obtain ⟨_,_,_,_,_,_,_,_,_,_,_,_,_,_,_,_,_,_,_,_,_,_,_,_⟩:=zc12 K123;go_wp2
      go_meet
      case rel => exact ⟨_,(false),ze,H',⟨by have:=HJ1.out;first|omega|exact Nat.le_refl _⟩,⟨z1 K123.1⟩,⟨zH HB⟩⟩
     ·rw [if_neg c36] at H;have c36b0 : (a0_9 == 0) = false:=beq_eq_false_iff_ne.mpr c36;have c36b1 : (a0_9 != 0) = true:=bne_iff_ne.mpr c36;(first|rw [c36b0]|(simp only [i64_w,i32_w];rw [c36b0])|skip)
      replace H:=Option.bind_eq_some_iff.mp H;obtain ⟨t129,A380,H⟩:=H;(try dsimp only at H);have A38:=zA A380;clear A380;by_cases c39 : t129 = true
      ·subst c39;rw [if_pos rfl] at H;by_cases c40 : a0_10 = 0
       ·rw [if_pos c40] at H;have c40b0 : (a0_10 == 0) = true:=beq_iff_eq.mpr c40;have c40b1 : (a0_10 != 0) = false:=bne_eq_false_iff_eq.mpr c40;clear c40;have H':=zA H;clear H;obtain ⟨_,_,_,_,_,_,_,_,_,_,_,_,_,_,_,_,_,_,_,_,_,_,_,_⟩:=zc12 K123;go_wp2_with (first|(go_at_call 61;(with_reducible refine (message_number.calls a0_9 true _ A38.out).mono ?_);rintro e w' ⟨rfl,⟨nd,rfl⟩⟩))
        go_meet
        case rel => exact ⟨_,(true),ze,H',⟨by have:=HJ1.out;first|omega|exact Nat.le_refl _⟩,⟨z1 K123.1⟩,⟨zH HB⟩⟩
       ·rw [if_neg c40] at H;have c40b0 : (a0_10 == 0) = false:=beq_eq_false_iff_ne.mpr c40;have c40b1 : (a0_10 != 0) = true:=bne_iff_ne.mpr c40;replace H:=Option.bind_eq_some_iff.mp H;obtain ⟨t130,A420,H⟩:=H;(try dsimp only at H);have A42:=zA A420;clear A420;have H':=zA H;clear H;obtain ⟨_,_,_,_,_,_,_,_,_,_,_,_,_,_,_,_,_,_,_,_,_,_,_,_⟩:=zc12 K123;go_wp2_with (first|(go_at_call 61;(with_reducible refine (message_number.calls a0_9 true _ A38.out).mono ?_);rintro e w' ⟨rfl,⟨nd,rfl⟩⟩)|(go_at_call 61;(with_reducible refine (message_number.calls a0_10 t130 _ A42.out).mono ?_);rintro e w' ⟨rfl,⟨nd,rfl⟩⟩))
        go_meet
        case rel => exact ⟨_,(t130),ze,H',⟨by have:=HJ1.out;first|omega|exact Nat.le_refl _⟩,⟨z1 K123.1⟩,⟨zH HB⟩⟩
      ·replace c39:=Bool.eq_false_iff.mpr c39;subst c39;rw [if_neg (show ¬ (false = true) by decide)] at H;have H':=zA H;clear H;obtain ⟨_,_,_,_,_,_,_,_,_,_,_,_,_,_,_,_,_,_,_,_,_,_,_,_⟩:=zc12 K123;go_wp2_with (first|(go_at_call 61;(with_reducible refine (message_number.calls a0_9 false _ A38.out).mono ?_);rintro e w' ⟨rfl,⟨nd,rfl⟩⟩))
       go_meet
       case rel => exact ⟨_,(false),ze,H',⟨by have:=HJ1.out;first|omega|exact Nat.le_refl _⟩,⟨z1 K123.1⟩,⟨zH HB⟩⟩
    case rest =>
     clear HC35;try clear c34
     obtain ⟨kq,x3_34,rfl,HA,HJ34,K123,HB⟩:=hcut;cases kq with
     | zero => exact absurd HA.out (by simp [message_packet.j1])
     | succ kj34 =>
      have H:=HA.out;clear HA;simp only [message_packet.j1] at H;have HC45:=zA H;clear H;go_upto_region 4 with (fail)
      go_cut [4] (fun v4 wc => ∃ (kq : Nat) (x4_44 : Bool),v4 = .bool x4_44 ∧ Aside0 (message_packet.j2 kq x3_34 x4_44 a0_0 a0_1 a0_2 a0_3 a0_4 a0_5 a0_6 a0_7 a0_8 a0_9 a0_10 a0_11 = some r) ∧ Aside0 (kq ≤ kj34) ∧ Aside0 (wc.heap[G123]? = some (.cells #[.int .i64 a0_0,.int .i64 a0_1,.int .i64 a0_2,.int .i64 a0_3,.int .i64 a0_4,.int .i64 a0_5,.int .u64 a0_6,.int .i64 a0_7,.string a0_8,.int .i64 a0_9,.int .i64 a0_10,.string a0_11] 76 (0,0))) ∧ Aside0 (Below w.heap.size w wc))
      case first =>
       have H:=HC45.out;clear HC45;by_cases c46 : a0_9 = 0
       ·rw [if_pos c46] at H;have c46b0 : (a0_9 == 0) = true:=beq_iff_eq.mpr c46;have c46b1 : (a0_9 != 0) = false:=bne_eq_false_iff_eq.mpr c46;clear c46;(first|rw [c46b0]|(simp only [i64_w,i32_w];rw [c46b0])|skip)
        have H':=zA H;clear H;obtain ⟨_,_,_,_,_,_,_,_,_,_,_,_,_,_,_,_,_,_,_,_,_,_,_,_⟩:=zc12 K123;go_wp2
        go_meet
        case rel => exact ⟨_,((a0_10 == 0)),ze,H',⟨by have:=HJ1.out;have:=HJ34.out;first|omega|exact Nat.le_refl _⟩,⟨z1 K123.1⟩,⟨zH HB⟩⟩
       ·rw [if_neg c46] at H;have c46b0 : (a0_9 == 0) = false:=beq_eq_false_iff_ne.mpr c46;have c46b1 : (a0_9 != 0) = true:=bne_iff_ne.mpr c46;(first|rw [c46b0]|(simp only [i64_w,i32_w];rw [c46b0])|skip)
        have H':=zA H;clear H;obtain ⟨_,_,_,_,_,_,_,_,_,_,_,_,_,_,_,_,_,_,_,_,_,_,_,_⟩:=zc12 K123;go_wp2
        go_meet
        case rel => exact ⟨_,(false),ze,H',⟨by have:=HJ1.out;have:=HJ34.out;first|omega|exact Nat.le_refl _⟩,⟨z1 K123.1⟩,⟨zH HB⟩⟩
      case rest =>
       clear HC45;try clear c34
       obtain ⟨kq,x4_44,rfl,HA,HJ44,K123,HB⟩:=hcut;cases kq with
       | zero => exact absurd HA.out (by simp [message_packet.j2])
       | succ kj44 =>
        have H:=HA.out;clear HA;simp only [message_packet.j2] at H;have HC49:=zA H;clear H;go_upto_region 5 with (fail)
        go_cut [5] (fun v5 wc => ∃ (kq : Nat) (x5_48 : Bool),v5 = .bool x5_48 ∧ Aside0 (message_packet.j3 kq x3_34 x4_44 x5_48 a0_0 a0_1 a0_2 a0_3 a0_4 a0_5 a0_6 a0_7 a0_8 a0_9 a0_10 a0_11 = some r) ∧ Aside0 (kq ≤ kj44) ∧ Aside0 (wc.heap[G123]? = some (.cells #[.int .i64 a0_0,.int .i64 a0_1,.int .i64 a0_2,.int .i64 a0_3,.int .i64 a0_4,.int .i64 a0_5,.int .u64 a0_6,.int .i64 a0_7,.string a0_8,.int .i64 a0_9,.int .i64 a0_10,.string a0_11] 76 (0,0))) ∧ Aside0 (Below w.heap.size w wc))
        case first =>
         have H:=HC49.out;clear HC49;replace H:=Option.bind_eq_some_iff.mp H;obtain ⟨t131,A500,H⟩:=H;(try dsimp only at H);have A50:=zA A500;clear A500;by_cases c51 : t131 = 0
         ·rw [if_pos c51] at H;have c51b0 : (t131 == 0) = true:=beq_iff_eq.mpr c51;have c51b1 : (t131 != 0) = false:=bne_eq_false_iff_eq.mpr c51;clear c51;(first|rw [c51b0]|(simp only [i64_w,i32_w];rw [c51b0])|skip)
          have H':=zA H;clear H;obtain ⟨_,_,_,_,_,_,_,_,_,_,_,_,_,_,_,_,_,_,_,_,_,_,_,_⟩:=zc12 K123;go_wp2_with (first|((with_reducible refine gate_callee (f:=63) rfl ?_);refine zg (some 76) Try.func63 #[.string a0_8] ?_;(with_reducible refine (ident_CheckName.calls kj44 a0_8 t131 _ A50.out).mono ?_);rintro e w' ⟨rfl,⟨nd,rfl⟩⟩;refine ⟨_,rfl,?_⟩))
          go_meet
          case rel => exact ⟨_,((a0_11.toList == ([] : List UInt8))),ze,H',⟨by have:=HJ1.out;have:=HJ34.out;have:=HJ44.out;first|omega|exact Nat.le_refl _⟩,⟨z1 K123.1⟩,⟨zH HB⟩⟩
         ·rw [if_neg c51] at H;have c51b0 : (t131 == 0) = false:=beq_eq_false_iff_ne.mpr c51;have c51b1 : (t131 != 0) = true:=bne_iff_ne.mpr c51;(first|rw [c51b0]|(simp only [i64_w,i32_w];rw [c51b0])|skip)
          have H':=zA H;clear H;obtain ⟨_,_,_,_,_,_,_,_,_,_,_,_,_,_,_,_,_,_,_,_,_,_,_,_⟩:=zc12 K123;go_wp2_with (first|((with_reducible refine gate_callee (f:=63) rfl ?_);refine zg (some 76) Try.func63 #[.string a0_8] ?_;(with_reducible refine (ident_CheckName.calls kj44 a0_8 t131 _ A50.out).mono ?_);rintro e w' ⟨rfl,⟨nd,rfl⟩⟩;refine ⟨_,rfl,?_⟩))
          go_meet
          case rel => exact ⟨_,(false),ze,H',⟨by have:=HJ1.out;have:=HJ34.out;have:=HJ44.out;first|omega|exact Nat.le_refl _⟩,⟨z1 K123.1⟩,⟨zH HB⟩⟩
        case rest =>
         clear HC49;try clear c34
         obtain ⟨kq,x5_48,rfl,HA,HJ48,K123,HB⟩:=hcut;cases kq with
         | zero => exact absurd HA.out (by simp [message_packet.j3])
         | succ kj48 =>
          have H:=HA.out;clear HA;simp only [message_packet.j3] at H;by_cases c54 : a0_0 = 1
          ·rw [if_pos c54] at H;have c54b0 : (a0_0 == 1) = true:=beq_iff_eq.mpr c54;have c54b1 : (a0_0 != 1) = false:=bne_eq_false_iff_eq.mpr c54;clear c54;by_cases c55 : a0_7 = 0
           ·rw [if_pos c55] at H;have c55b0 : (a0_7 == 0) = true:=beq_iff_eq.mpr c55;have c55b1 : (a0_7 != 0) = false:=bne_eq_false_iff_eq.mpr c55;clear c55;by_cases c56 : a0_8.toList = ([] : List UInt8)
            ·rw [if_pos c56] at H;have c56b0 : (a0_8.toList == ([] : List UInt8)) = true:=beq_iff_eq.mpr c56;have c56b1 : (a0_8.toList != ([] : List UInt8)) = false:=bne_eq_false_iff_eq.mpr c56;clear c56;by_cases c57 : x4_44 = true
             ·subst c57;rw [if_pos rfl] at H;obtain rfl:=Option.some.inj H;obtain ⟨_,_,_,_,_,_,_,_,_,_,_,_,_,_,_,_,_,_,_,_,_,_,_,_⟩:=zc12 K123;go_wp2
              go_ret
              exact ⟨zE,zH HB⟩
             ·replace c57:=Bool.eq_false_iff.mpr c57;subst c57;rw [if_neg (show ¬ (false = true) by decide)] at H;obtain rfl:=Option.some.inj H;obtain ⟨_,_,_,_,_,_,_,_,_,_,_,_,_,_,_,_,_,_,_,_,_,_,_,_⟩:=zc12 K123;go_wp2
              go_ret
              exact ⟨zE,zH HB⟩
            ·rw [if_neg c56] at H;have c56b0 : (a0_8.toList == ([] : List UInt8)) = false:=beq_eq_false_iff_ne.mpr c56;have c56b1 : (a0_8.toList != ([] : List UInt8)) = true:=bne_iff_ne.mpr c56;obtain rfl:=Option.some.inj H;obtain ⟨_,_,_,_,_,_,_,_,_,_,_,_,_,_,_,_,_,_,_,_,_,_,_,_⟩:=zc12 K123;go_wp2
             go_ret
             exact ⟨zE,zH HB⟩
           ·rw [if_neg c55] at H;have c55b0 : (a0_7 == 0) = false:=beq_eq_false_iff_ne.mpr c55;have c55b1 : (a0_7 != 0) = true:=bne_iff_ne.mpr c55;obtain rfl:=Option.some.inj H;obtain ⟨_,_,_,_,_,_,_,_,_,_,_,_,_,_,_,_,_,_,_,_,_,_,_,_⟩:=zc12 K123;go_wp2
            go_ret
            exact ⟨zE,zH HB⟩
          ·rw [if_neg c54] at H;have c54b0 : (a0_0 == 1) = false:=beq_eq_false_iff_ne.mpr c54;have c54b1 : (a0_0 != 1) = true:=bne_iff_ne.mpr c54;by_cases c62 : a0_0 = 2
           ·rw [if_pos c62] at H;have c62b0 : (a0_0 == 2) = true:=beq_iff_eq.mpr c62;have c62b1 : (a0_0 != 2) = false:=bne_eq_false_iff_eq.mpr c62;clear c62;by_cases c63 : a0_7 = 0
            ·rw [if_pos c63] at H;have c63b0 : (a0_7 == 0) = true:=beq_iff_eq.mpr c63;have c63b1 : (a0_7 != 0) = false:=bne_eq_false_iff_eq.mpr c63;clear c63;by_cases c64 : x5_48 = true
             ·subst c64;rw [if_pos rfl] at H;obtain rfl:=Option.some.inj H;obtain ⟨_,_,_,_,_,_,_,_,_,_,_,_,_,_,_,_,_,_,_,_,_,_,_,_⟩:=zc12 K123;go_wp2
              go_ret
              exact ⟨zE,zH HB⟩
             ·replace c64:=Bool.eq_false_iff.mpr c64;subst c64;rw [if_neg (show ¬ (false = true) by decide)] at H;obtain rfl:=Option.some.inj H;obtain ⟨_,_,_,_,_,_,_,_,_,_,_,_,_,_,_,_,_,_,_,_,_,_,_,_⟩:=zc12 K123;go_wp2
              go_ret
              exact ⟨zE,zH HB⟩
            ·rw [if_neg c63] at H;have c63b0 : (a0_7 == 0) = false:=beq_eq_false_iff_ne.mpr c63;have c63b1 : (a0_7 != 0) = true:=bne_iff_ne.mpr c63;obtain rfl:=Option.some.inj H;obtain ⟨_,_,_,_,_,_,_,_,_,_,_,_,_,_,_,_,_,_,_,_,_,_,_,_⟩:=zc12 K123;go_wp2
             go_ret
             exact ⟨zE,zH HB⟩
           ·rw [if_neg c62] at H;have c62b0 : (a0_0 == 2) = false:=beq_eq_false_iff_ne.mpr c62;have c62b1 : (a0_0 != 2) = true:=bne_iff_ne.mpr c62;by_cases c68 : a0_0 = 3
            ·rw [if_pos c68] at H;have c68b0 : (a0_0 == 3) = true:=beq_iff_eq.mpr c68;have c68b1 : (a0_0 != 3) = false:=bne_eq_false_iff_eq.mpr c68;clear c68;by_cases c69 : a0_7 = 0
             ·rw [if_pos c69] at H;have c69b0 : (a0_7 == 0) = true:=beq_iff_eq.mpr c69;have c69b1 : (a0_7 != 0) = false:=bne_eq_false_iff_eq.mpr c69;clear c69;by_cases c70 : x5_48 = true
              ·subst c70;rw [if_pos rfl] at H;obtain rfl:=Option.some.inj H;obtain ⟨_,_,_,_,_,_,_,_,_,_,_,_,_,_,_,_,_,_,_,_,_,_,_,_⟩:=zc12 K123;go_wp2
               go_ret
               exact ⟨zE,zH HB⟩
              ·replace c70:=Bool.eq_false_iff.mpr c70;subst c70;rw [if_neg (show ¬ (false = true) by decide)] at H;obtain rfl:=Option.some.inj H;obtain ⟨_,_,_,_,_,_,_,_,_,_,_,_,_,_,_,_,_,_,_,_,_,_,_,_⟩:=zc12 K123;go_wp2
               go_ret
               exact ⟨zE,zH HB⟩
             ·rw [if_neg c69] at H;have c69b0 : (a0_7 == 0) = false:=beq_eq_false_iff_ne.mpr c69;have c69b1 : (a0_7 != 0) = true:=bne_iff_ne.mpr c69;obtain rfl:=Option.some.inj H;obtain ⟨_,_,_,_,_,_,_,_,_,_,_,_,_,_,_,_,_,_,_,_,_,_,_,_⟩:=zc12 K123;go_wp2
              go_ret
              exact ⟨zE,zH HB⟩
            ·rw [if_neg c68] at H;have c68b0 : (a0_0 == 3) = false:=beq_eq_false_iff_ne.mpr c68;have c68b1 : (a0_0 != 3) = true:=bne_iff_ne.mpr c68;by_cases c74 : a0_0 = 4
             ·rw [if_pos c74] at H;have c74b0 : (a0_0 == 4) = true:=beq_iff_eq.mpr c74;have c74b1 : (a0_0 != 4) = false:=bne_eq_false_iff_eq.mpr c74;clear c74;by_cases c75 : x5_48 = true
              ·subst c75;rw [if_pos rfl] at H;by_cases c76 : a0_7 = 0
               ·rw [if_pos c76] at H;have c76b0 : (a0_7 == 0) = true:=beq_iff_eq.mpr c76;have c76b1 : (a0_7 != 0) = false:=bne_eq_false_iff_eq.mpr c76;clear c76;by_cases c77 : x3_34 = true
                ·subst c77;rw [if_pos rfl] at H;obtain rfl:=Option.some.inj H;obtain ⟨_,_,_,_,_,_,_,_,_,_,_,_,_,_,_,_,_,_,_,_,_,_,_,_⟩:=zc12 K123;go_wp2
                 go_ret
                 exact ⟨zE,zH HB⟩
                ·replace c77:=Bool.eq_false_iff.mpr c77;subst c77;rw [if_neg (show ¬ (false = true) by decide)] at H;by_cases c79 : a0_7 = 1
                 ·rw [if_pos c79] at H;have c79b0 : (a0_7 == 1) = true:=beq_iff_eq.mpr c79;have c79b1 : (a0_7 != 1) = false:=bne_eq_false_iff_eq.mpr c79;clear c79;obtain rfl:=Option.some.inj H;obtain ⟨_,_,_,_,_,_,_,_,_,_,_,_,_,_,_,_,_,_,_,_,_,_,_,_⟩:=zc12 K123;go_wp2
                  go_ret
                  exact ⟨zE,zH HB⟩
                 ·rw [if_neg c79] at H;have c79b0 : (a0_7 == 1) = false:=beq_eq_false_iff_ne.mpr c79;have c79b1 : (a0_7 != 1) = true:=bne_iff_ne.mpr c79;obtain rfl:=Option.some.inj H;obtain ⟨_,_,_,_,_,_,_,_,_,_,_,_,_,_,_,_,_,_,_,_,_,_,_,_⟩:=zc12 K123;go_wp2
                  go_ret
                  exact ⟨zE,zH HB⟩
               ·rw [if_neg c76] at H;have c76b0 : (a0_7 == 0) = false:=beq_eq_false_iff_ne.mpr c76;have c76b1 : (a0_7 != 0) = true:=bne_iff_ne.mpr c76;by_cases c82 : a0_7 = 1
                ·rw [if_pos c82] at H;have c82b0 : (a0_7 == 1) = true:=beq_iff_eq.mpr c82;have c82b1 : (a0_7 != 1) = false:=bne_eq_false_iff_eq.mpr c82;clear c82;obtain rfl:=Option.some.inj H;obtain ⟨_,_,_,_,_,_,_,_,_,_,_,_,_,_,_,_,_,_,_,_,_,_,_,_⟩:=zc12 K123;go_wp2
                 go_ret
                 exact ⟨zE,zH HB⟩
                ·rw [if_neg c82] at H;have c82b0 : (a0_7 == 1) = false:=beq_eq_false_iff_ne.mpr c82;have c82b1 : (a0_7 != 1) = true:=bne_iff_ne.mpr c82;obtain rfl:=Option.some.inj H;obtain ⟨_,_,_,_,_,_,_,_,_,_,_,_,_,_,_,_,_,_,_,_,_,_,_,_⟩:=zc12 K123;go_wp2
                 go_ret
                 exact ⟨zE,zH HB⟩
              ·replace c75:=Bool.eq_false_iff.mpr c75;subst c75;rw [if_neg (show ¬ (false = true) by decide)] at H;obtain rfl:=Option.some.inj H;obtain ⟨_,_,_,_,_,_,_,_,_,_,_,_,_,_,_,_,_,_,_,_,_,_,_,_⟩:=zc12 K123;go_wp2
               go_ret
               exact ⟨zE,zH HB⟩
             ·rw [if_neg c74] at H;have c74b0 : (a0_0 == 4) = false:=beq_eq_false_iff_ne.mpr c74;have c74b1 : (a0_0 != 4) = true:=bne_iff_ne.mpr c74;obtain rfl:=Option.some.inj H;obtain ⟨_,_,_,_,_,_,_,_,_,_,_,_,_,_,_,_,_,_,_,_,_,_,_,_⟩:=zc12 K123;go_wp2
              go_ret
              exact ⟨zE,zH HB⟩

end Go.Proofs.Ytpcgjdllgdkobaa.XA
