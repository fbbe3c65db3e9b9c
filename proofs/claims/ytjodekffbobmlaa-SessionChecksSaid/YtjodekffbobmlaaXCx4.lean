/- Go functions of this seat as Lean functions, with proofs that the calls come to them. (Written by xprint.py, a program of this session, over the kit's print.) -/
import Derived.Test.YtjodekffbobmlaaXCx0
import Derived.Test.YtjodekffbobmlaaXCx1
import Derived.Test.YtjodekffbobmlaaXCx2
import Derived.Test.YtjodekffbobmlaaXCx3
namespace Go.Proofs.Ytjodekffbobmlaa.XC
open Go.RowKit Go.Proofs.YtjodekffbobmlaaW.PrintWords Go.Proofs.YtjodekffbobmlaaW.PrintLast Go.Proofs.YtjodekffbobmlaaW.PrintMore
attribute [local go_sem] max2_int min2_int max_two min_two max_three min_three max_four min_four   -- for this text's walks alone
set_option linter.unusedVariables false
set_option linter.unusedSimpArgs false
open List renaming setIfInBounds_toArray → xA, set_cons_zero → xB, set_cons_succ → xC
open Go.Proofs.YtjodekffbobmlaaW.PrintWords renaming blk_drewN → bN, blk_drew → bD, blk_alloc → bA, below_set → bS, blk_frozen → bF, blk_cell → bC, cell_far → cF, blk_far → bZ, blk_below → bB, pw_below_drewN → bwN, below_drew1 → bw1, below_alloc → bwA

/-! ### beaconlaw12_SessionChecks: function 6 -/
def beaconlaw12_SessionChecks.j0 : Nat → Int → Bool → Nat → Int → Int → Int → Int → Int → Int → Nat → Int → Int → Int → Int → Int → Int → Option (Bool)
 | 0, _, _, _, _, _, _, _, _, _, _, _, _, _, _, _, _ => none
 | k + 1, x1, x7, x169000, x169001, x169002, x169003, x169004, x169005, x169006, x177000, x177001, x177002, x177003, x177004, x177005, x177006 => (session_New.f x1).bind fun bt185 => ((beaconref12_New.f x1).bind fun bt191 => ((session_Check.f k x169000 x169001 x169002 x169003 x169004 x169005 x169006).bind fun t197 => ((beaconref12_Check.f k x169000 x169001 x169002 x169003 x169004 x169005 x169006).bind fun t198 => (if t197 = t198 then (if x7 = true then ((session_Check.f k x177000 x177001 x177002 x177003 x177004 x177005 x177006).bind fun t199 => (if t199 = 0 then ((beaconref12_Same.f bt185.1 bt185.2.1 bt185.2.2.1 bt185.2.2.2.1 bt191.1 bt191.2.1 bt191.2.2.1 bt191.2.2.2.1).bind fun t200 => (if t200 = true then (if bt185.2.2.2.2 = bt191.2.2.2.2 then ((beaconlaw12_awake.f k).bind fun t201 => (some t201)) else (some false)) else (some false))) else (some false))) else (some false)) else (some false)))))
def beaconlaw12_SessionChecks.f (k : Nat) (a0_0 : Nat) (a0_1 : Int) (a0_2 : Int) (a0_3 : Int) (a0_4 : Int) (a0_5 : Int) (a0_6 : Int) (a1 : Int) : Option (Bool) := (session_Usual.f).bind fun bt169 => ((beaconref12_Usual.f).bind fun bt177 => (if (feq bt169.1 bt177.1) = true then (if bt169.2.1 = bt177.2.1 then (if bt169.2.2.1 = bt177.2.2.1 then (if bt169.2.2.2.1 = bt177.2.2.2.1 then (if bt169.2.2.2.2.1 = bt177.2.2.2.2.1 then (if bt169.2.2.2.2.2.1 = bt177.2.2.2.2.2.1 then (beaconlaw12_SessionChecks.j0 k a1 (bt169.2.2.2.2.2.2 == bt177.2.2.2.2.2.2) a0_0 a0_1 a0_2 a0_3 a0_4 a0_5 a0_6 bt169.1 bt169.2.1 bt169.2.2.1 bt169.2.2.2.1 bt169.2.2.2.2.1 bt169.2.2.2.2.2.1 bt169.2.2.2.2.2.2) else (beaconlaw12_SessionChecks.j0 k a1 false a0_0 a0_1 a0_2 a0_3 a0_4 a0_5 a0_6 bt169.1 bt169.2.1 bt169.2.2.1 bt169.2.2.2.1 bt169.2.2.2.2.1 bt169.2.2.2.2.2.1 bt169.2.2.2.2.2.2)) else (beaconlaw12_SessionChecks.j0 k a1 false a0_0 a0_1 a0_2 a0_3 a0_4 a0_5 a0_6 bt169.1 bt169.2.1 bt169.2.2.1 bt169.2.2.2.1 bt169.2.2.2.2.1 bt169.2.2.2.2.2.1 bt169.2.2.2.2.2.2)) else (beaconlaw12_SessionChecks.j0 k a1 false a0_0 a0_1 a0_2 a0_3 a0_4 a0_5 a0_6 bt169.1 bt169.2.1 bt169.2.2.1 bt169.2.2.2.1 bt169.2.2.2.2.1 bt169.2.2.2.2.2.1 bt169.2.2.2.2.2.2)) else (beaconlaw12_SessionChecks.j0 k a1 false a0_0 a0_1 a0_2 a0_3 a0_4 a0_5 a0_6 bt169.1 bt169.2.1 bt169.2.2.1 bt169.2.2.2.1 bt169.2.2.2.2.1 bt169.2.2.2.2.2.1 bt169.2.2.2.2.2.2)) else (beaconlaw12_SessionChecks.j0 k a1 false a0_0 a0_1 a0_2 a0_3 a0_4 a0_5 a0_6 bt169.1 bt169.2.1 bt169.2.2.1 bt169.2.2.2.1 bt169.2.2.2.2.1 bt169.2.2.2.2.2.1 bt169.2.2.2.2.2.2)) else (beaconlaw12_SessionChecks.j0 k a1 false a0_0 a0_1 a0_2 a0_3 a0_4 a0_5 a0_6 bt169.1 bt169.2.1 bt169.2.2.1 bt169.2.2.2.1 bt169.2.2.2.2.1 bt169.2.2.2.2.2.1 bt169.2.2.2.2.2.2)))
theorem beaconlaw12_SessionChecks.mono_l : ∀ k, (∀ y0 y1 y2 y3 y4 y5 y6 y7 y8 y9 y10 y11 y12 y13 y14 y15, LeO (beaconlaw12_SessionChecks.j0 k y0 y1 y2 y3 y4 y5 y6 y7 y8 y9 y10 y11 y12 y13 y14 y15) (beaconlaw12_SessionChecks.j0 (k + 1) y0 y1 y2 y3 y4 y5 y6 y7 y8 y9 y10 y11 y12 y13 y14 y15))
 | 0 => fun _ _ _ _ _ _ _ _ _ _ _ _ _ _ _ _ r h => by simp [beaconlaw12_SessionChecks.j0] at h
 | k + 1 => by
  have ih0:=beaconlaw12_SessionChecks.mono_l k
  ·intro y0 y1 y2 y3 y4 y5 y6 y7 y8 y9 y10 y11 y12 y13 y14 y15
   unfold beaconlaw12_SessionChecks.j0
   repeat' first
   | (with_reducible exact ih0 _ _ _ _ _ _ _ _ _ _ _ _ _ _ _ _)
   | (with_reducible exact beaconlaw12_awake.mono _)
   | (with_reducible exact beaconref12_Check.mono _ _ _ _ _ _ _ _)
   | (with_reducible exact session_Check.mono _ _ _ _ _ _ _ _)
   | (with_reducible exact LeO.refl _)
   | (with_reducible exact LeO.none _)
   | (with_reducible refine LeO.ite ?_ ?_)
   | (with_reducible refine LeO.bind ?_ (fun _ => ?_))
   | exact ih0 _ _ _ _ _ _ _ _ _ _ _ _ _ _ _ _
   | exact beaconlaw12_awake.mono _
   | exact beaconref12_Check.mono _ _ _ _ _ _ _ _
   | exact session_Check.mono _ _ _ _ _ _ _ _
   | exact LeO.none _
   | refine LeO.ite ?_ ?_
   | refine LeO.bind ?_ (fun _ => ?_)
theorem beaconlaw12_SessionChecks.mono : ∀ a0 a1 a2 a3 a4 a5 a6 a7 k, LeO (beaconlaw12_SessionChecks.f k a0 a1 a2 a3 a4 a5 a6 a7) (beaconlaw12_SessionChecks.f (k + 1) a0 a1 a2 a3 a4 a5 a6 a7) := by
 intro a0 a1 a2 a3 a4 a5 a6 a7 k
 have ih0:=beaconlaw12_SessionChecks.mono_l k
 unfold beaconlaw12_SessionChecks.f
 repeat' first
   | (with_reducible exact ih0 _ _ _ _ _ _ _ _ _ _ _ _ _ _ _ _)
   | (with_reducible exact beaconlaw12_awake.mono _)
   | (with_reducible exact beaconref12_Check.mono _ _ _ _ _ _ _ _)
   | (with_reducible exact session_Check.mono _ _ _ _ _ _ _ _)
   | (with_reducible exact LeO.refl _)
   | (with_reducible exact LeO.none _)
   | (with_reducible refine LeO.ite ?_ ?_)
   | (with_reducible refine LeO.bind ?_ (fun _ => ?_))
   | exact ih0 _ _ _ _ _ _ _ _ _ _ _ _ _ _ _ _
   | exact beaconlaw12_awake.mono _
   | exact beaconref12_Check.mono _ _ _ _ _ _ _ _
   | exact session_Check.mono _ _ _ _ _ _ _ _
   | exact LeO.none _
   | refine LeO.ite ?_ ?_
   | refine LeO.bind ?_ (fun _ => ?_)
def beaconlaw12_SessionChecks.T6 : Bool × List (List Nat × List Nat) := (true, [([], []), ([0], [0]), ([], []), ([2, 1], [2]), ([1, 3], [1, 3]), ([4, 3], [4]), ([5], [5]), ([5, 6], [5, 6]), ([7, 5], [7]), ([8], [8]), ([9, 8, 8], [8, 9]), ([10, 8], [8, 10]), ([8, 11], [8, 11]), ([12, 10], [12]), ([13], [13]), ([13], [13]), ([14, 15, 13, 13], [13, 14, 15]), ([13, 16], [13, 16]), ([17, 16], [17]), ([18], [18]), ([18], [18]), ([19, 20, 18], [18, 19, 20]), ([18, 21], [18, 21]), ([22, 18], [22]), ([23, 23], [23]), ([23, 24], [23, 24]), ([25, 24, 0, 1, 2, 3, 4, 5, 6, 7, 8, 9, 10, 11, 12, 13, 14, 15, 16, 17, 18, 19, 20, 21, 22, 23, 24, 25], [25])])
def beaconlaw12_SessionChecks.B6 : List Nat := [0, 1, 0, 7, 15, 31, 63, 127, 255, 511, 1023, 2047, 4095, 8191, 16383, 16383, 65535, 131071, 262143, 524287, 524287, 2097151, 4194303, 8388607, 16777215, 33554431, 67108863]
theorem beaconlaw12_SessionChecks.tab6 : rtab .any (opsOf Try.f6 6) = beaconlaw12_SessionChecks.T6 := by kernel_rfl
theorem beaconlaw12_SessionChecks.bits6 : waitsOk beaconlaw12_SessionChecks.T6.2 beaconlaw12_SessionChecks.B6 = true := by kernel_rfl
set_option maxHeartbeats 2500000 in
set_option maxRecDepth 100000 in
theorem beaconlaw12_SessionChecks.calls (k : Nat) (a0_0 : Nat) (a0_1 : Int) (a0_2 : Int) (a0_3 : Int) (a0_4 : Int) (a0_5 : Int) (a0_6 : Int) (a1 : Int) (r : Bool) (w : World) (h : beaconlaw12_SessionChecks.f k a0_0 a0_1 a0_2 a0_3 a0_4 a0_5 a0_6 a1 = some r) :
  Calls Try.prog 6 #[.agg #[.float .f64 a0_0,.int .i64 a0_1,.int .i64 a0_2,.int .i64 a0_3,.int .i64 a0_4,.int .i64 a0_5,.int .i64 a0_6],.int .u64 a1] w fun e w' => e = .returned (.bool r) ∧ Below w.heap.size w w':=by
 have hu54:=Try.underlying54
 have hu26:=Try.underlying26
 have HB:=Aside0.mk (Below.refl w.heap.size w)
 have H : ((session_Usual.f).bind fun bt169 => ((beaconref12_Usual.f).bind fun bt177 => (if (feq bt169.1 bt177.1) = true then (if bt169.2.1 = bt177.2.1 then (if bt169.2.2.1 = bt177.2.2.1 then (if bt169.2.2.2.1 = bt177.2.2.2.1 then (if bt169.2.2.2.2.1 = bt177.2.2.2.2.1 then (if bt169.2.2.2.2.2.1 = bt177.2.2.2.2.2.1 then (beaconlaw12_SessionChecks.j0 k a1 (bt169.2.2.2.2.2.2 == bt177.2.2.2.2.2.2) a0_0 a0_1 a0_2 a0_3 a0_4 a0_5 a0_6 bt169.1 bt169.2.1 bt169.2.2.1 bt169.2.2.2.1 bt169.2.2.2.2.1 bt169.2.2.2.2.2.1 bt169.2.2.2.2.2.2) else (beaconlaw12_SessionChecks.j0 k a1 false a0_0 a0_1 a0_2 a0_3 a0_4 a0_5 a0_6 bt169.1 bt169.2.1 bt169.2.2.1 bt169.2.2.2.1 bt169.2.2.2.2.1 bt169.2.2.2.2.2.1 bt169.2.2.2.2.2.2)) else (beaconlaw12_SessionChecks.j0 k a1 false a0_0 a0_1 a0_2 a0_3 a0_4 a0_5 a0_6 bt169.1 bt169.2.1 bt169.2.2.1 bt169.2.2.2.1 bt169.2.2.2.2.1 bt169.2.2.2.2.2.1 bt169.2.2.2.2.2.2)) else (beaconlaw12_SessionChecks.j0 k a1 false a0_0 a0_1 a0_2 a0_3 a0_4 a0_5 a0_6 bt169.1 bt169.2.1 bt169.2.2.1 bt169.2.2.2.1 bt169.2.2.2.2.1 bt169.2.2.2.2.2.1 bt169.2.2.2.2.2.2)) else (beaconlaw12_SessionChecks.j0 k a1 false a0_0 a0_1 a0_2 a0_3 a0_4 a0_5 a0_6 bt169.1 bt169.2.1 bt169.2.2.1 bt169.2.2.2.1 bt169.2.2.2.2.1 bt169.2.2.2.2.2.1 bt169.2.2.2.2.2.2)) else (beaconlaw12_SessionChecks.j0 k a1 false a0_0 a0_1 a0_2 a0_3 a0_4 a0_5 a0_6 bt169.1 bt169.2.1 bt169.2.2.1 bt169.2.2.2.1 bt169.2.2.2.2.1 bt169.2.2.2.2.2.1 bt169.2.2.2.2.2.2)) else (beaconlaw12_SessionChecks.j0 k a1 false a0_0 a0_1 a0_2 a0_3 a0_4 a0_5 a0_6 bt169.1 bt169.2.1 bt169.2.2.1 bt169.2.2.2.1 bt169.2.2.2.2.1 bt169.2.2.2.2.2.1 bt169.2.2.2.2.2.2)))) = some r:=h
 clear h
 replace H:=Option.bind_eq_some_iff.mp H
 obtain ⟨⟨t169,t170,t171,t172,t173,t174,t175⟩,A30,H⟩:=H
 replace H : ((beaconref12_Usual.f).bind fun bt177 => (if (feq t169 bt177.1) = true then (if t170 = bt177.2.1 then (if t171 = bt177.2.2.1 then (if t172 = bt177.2.2.2.1 then (if t173 = bt177.2.2.2.2.1 then (if t174 = bt177.2.2.2.2.2.1 then (beaconlaw12_SessionChecks.j0 k a1 (t175 == bt177.2.2.2.2.2.2) a0_0 a0_1 a0_2 a0_3 a0_4 a0_5 a0_6 t169 t170 t171 t172 t173 t174 t175) else (beaconlaw12_SessionChecks.j0 k a1 false a0_0 a0_1 a0_2 a0_3 a0_4 a0_5 a0_6 t169 t170 t171 t172 t173 t174 t175)) else (beaconlaw12_SessionChecks.j0 k a1 false a0_0 a0_1 a0_2 a0_3 a0_4 a0_5 a0_6 t169 t170 t171 t172 t173 t174 t175)) else (beaconlaw12_SessionChecks.j0 k a1 false a0_0 a0_1 a0_2 a0_3 a0_4 a0_5 a0_6 t169 t170 t171 t172 t173 t174 t175)) else (beaconlaw12_SessionChecks.j0 k a1 false a0_0 a0_1 a0_2 a0_3 a0_4 a0_5 a0_6 t169 t170 t171 t172 t173 t174 t175)) else (beaconlaw12_SessionChecks.j0 k a1 false a0_0 a0_1 a0_2 a0_3 a0_4 a0_5 a0_6 t169 t170 t171 t172 t173 t174 t175)) else (beaconlaw12_SessionChecks.j0 k a1 false a0_0 a0_1 a0_2 a0_3 a0_4 a0_5 a0_6 t169 t170 t171 t172 t173 t174 t175))) = some r:=H
 have A3:=Aside0.mk A30
 clear A30
 replace H:=Option.bind_eq_some_iff.mp H
 obtain ⟨⟨t177,t178,t179,t180,t181,t182,t183⟩,A40,H⟩:=H
 replace H : (if (feq t169 t177) = true then (if t170 = t178 then (if t171 = t179 then (if t172 = t180 then (if t173 = t181 then (if t174 = t182 then (beaconlaw12_SessionChecks.j0 k a1 (t175 == t183) a0_0 a0_1 a0_2 a0_3 a0_4 a0_5 a0_6 t169 t170 t171 t172 t173 t174 t175) else (beaconlaw12_SessionChecks.j0 k a1 false a0_0 a0_1 a0_2 a0_3 a0_4 a0_5 a0_6 t169 t170 t171 t172 t173 t174 t175)) else (beaconlaw12_SessionChecks.j0 k a1 false a0_0 a0_1 a0_2 a0_3 a0_4 a0_5 a0_6 t169 t170 t171 t172 t173 t174 t175)) else (beaconlaw12_SessionChecks.j0 k a1 false a0_0 a0_1 a0_2 a0_3 a0_4 a0_5 a0_6 t169 t170 t171 t172 t173 t174 t175)) else (beaconlaw12_SessionChecks.j0 k a1 false a0_0 a0_1 a0_2 a0_3 a0_4 a0_5 a0_6 t169 t170 t171 t172 t173 t174 t175)) else (beaconlaw12_SessionChecks.j0 k a1 false a0_0 a0_1 a0_2 a0_3 a0_4 a0_5 a0_6 t169 t170 t171 t172 t173 t174 t175)) else (beaconlaw12_SessionChecks.j0 k a1 false a0_0 a0_1 a0_2 a0_3 a0_4 a0_5 a0_6 t169 t170 t171 t172 t173 t174 t175)) = some r:=H
 have A4:=Aside0.mk A40
 clear A40
 have HC5:=Aside0.mk H
 clear H
 go_enter Try.func6,Try.ntmps6
 go_upto_region 3 with (first|((with_reducible refine gate_dst (N:=2) rfl ?_);refine box_event ?hg (N:=2) ?hd (cs:=#[.float .f64 a0_0,.int .i64 a0_1,.int .i64 a0_2,.int .i64 a0_3,.int .i64 a0_4,.int .i64 a0_5,.int .i64 a0_6]) (t:=54) ?hr ?_;(case hd => rfl);(case hg => rfl);(case hr => first|(go_simp;done)|(go_simp;rfl));intro G168 hg w6 hbox hb;have n0_:=Aside0.mk (below_step (by repeat (first|(with_reducible first|exact HB.1|apply bwA|apply bwN|apply bw1)|exact HB.1)) hb);have n1_:=Aside0.mk (hbox);have n2_:=Aside0.mk ((by rw [hg];exact (below_size (by repeat (first|(with_reducible first|exact HB.1|apply bwA|apply bwN|apply bw1)|exact HB.1))) : w.heap.size ≤ G168));have n3_:=Aside0.mk ((by rw [hg];exact (below_size (by repeat (first|(with_reducible first|exact HB.1|apply bwA|apply bwN|apply bw1)|exact HB.1))) : w.heap.size ≤ G168));clear HB;have HB:=n0_;have K168:=n1_;have GW168:=n2_;have GE168:=n3_;clear n0_ n1_ n2_ n3_;clear hb hbox hg)|((with_reducible refine gate_callee (f:=22) rfl ?_);refine goesL_ (some 12) rfl rfl Try.func22 (by kernel_rfl) rfl #[] rfl (by (try simp only [List.map_toArray,List.map_cons,List.map_nil]);first|done|rfl|(simp only [List.length_drop,List.length_take];rfl)) ?_;(with_reducible refine (session_Usual.calls  t169 t170 t171 t172 t173 t174 t175 _ A3.out).mono ?_);rintro e w7 ⟨rfl,hb⟩;refine ⟨_,rfl,?_⟩;have n0_:=Aside0.mk (bB (by (with_reducible repeat first|apply bN|apply bD|apply bA);exact K168.1) hb);have n1_:=Aside0.mk (below_step (by repeat (first|(with_reducible first|exact HB.1|apply bwA|apply bwN|apply bw1|refine bS ?_ GE168.1)|exact HB.1)) hb);clear K168;clear HB;have K168:=n0_;have HB:=n1_;clear n0_ n1_;(try clear hb);(try clear hb2);(try clear hk);(try clear hi))|((with_reducible refine gate_dst (N:=5) rfl ?_);refine box_event ?hg (N:=5) ?hd (cs:=#[.float .f64 0,.int .i64 0,.int .i64 0,.int .i64 0,.int .i64 0,.int .i64 0,.int .i64 0]) (t:=54) ?hr ?_;(case hd => rfl);(case hg => rfl);(case hr => first|(go_simp;done)|(go_simp;rfl));intro G176 hg w8 hbox hb;have n0_:=Aside0.mk (bB (by (with_reducible repeat first|apply bN|apply bD|apply bA);exact K168.1) hb);have n1_:=Aside0.mk (below_step (by repeat (first|(with_reducible first|exact HB.1|apply bwA|apply bwN|apply bw1|refine bS ?_ GE168.1)|exact HB.1)) hb);have n2_:=Aside0.mk (hbox);have n3_:=Aside0.mk ((by rw [hg];exact (below_size (by repeat (first|(with_reducible first|exact HB.1|apply bwA|apply bwN|apply bw1|refine bS ?_ GE168.1)|exact HB.1))) : w.heap.size ≤ G176));have n4_:=Aside0.mk ((by rw [hg];exact (below_size (by repeat (first|(with_reducible first|exact HB.1|apply bwA|apply bwN|apply bw1|refine bS ?_ GE168.1)|exact HB.1))) : w.heap.size ≤ G176));have n5_:=Aside0.mk ((by rw [hg];exact Nat.ne_of_lt (blk_lt (g:=G168) (by (with_reducible repeat first|apply bN|apply bD|apply bA);exact K168.1)) : G168 ≠ G176));have n6_:=Aside0.mk ((by rw [hg];exact Nat.ne_of_gt (blk_lt (g:=G168) (by (with_reducible repeat first|apply bN|apply bD|apply bA);exact K168.1)) : G176 ≠ G168));clear K168;clear HB;have K168:=n0_;have HB:=n1_;have K176:=n2_;have GW176:=n3_;have GE176:=n4_;have NB168_176:=n5_;have NB176_168:=n6_;clear n0_ n1_ n2_ n3_ n4_ n5_ n6_;clear hb hbox hg;have hnb9:=NB176_168.1;have hnc9:=NB168_176.1;have hcz10_0 : w8.cell? ⟨G176,0,none⟩ = some (.float .f64 0):=(bC K176.1 0).trans rfl;have hcz10_1 : w8.cell? ⟨G176,1,none⟩ = some (.int .i64 0):=(bC K176.1 1).trans rfl;have hcz10_2 : w8.cell? ⟨G176,2,none⟩ = some (.int .i64 0):=(bC K176.1 2).trans rfl;have hcz10_3 : w8.cell? ⟨G176,3,none⟩ = some (.int .i64 0):=(bC K176.1 3).trans rfl;have hcz10_4 : w8.cell? ⟨G176,4,none⟩ = some (.int .i64 0):=(bC K176.1 4).trans rfl;have hcz10_5 : w8.cell? ⟨G176,5,none⟩ = some (.int .i64 0):=(bC K176.1 5).trans rfl;have hcz10_6 : w8.cell? ⟨G176,6,none⟩ = some (.int .i64 0):=(bC K176.1 6).trans rfl;have hfz10_0:=bF K176.1 0;have hfz10_1:=bF K176.1 1;have hfz10_2:=bF K176.1 2;have hfz10_3:=bF K176.1 3;have hfz10_4:=bF K176.1 4;have hfz10_5:=bF K176.1 5;have hfz10_6:=bF K176.1 6)|((with_reducible refine gate_store (t:=54) (p:=5) rfl ?_);refine store_event (t:=54) (p:=5) (v:=?vo_w11) (w1:=(((((((w8.setCell ⟨G176,0,none⟩ (.float .f64 t169)).setCell ⟨G176,1,none⟩ (.int .i64 t170)).setCell ⟨G176,2,none⟩ (.int .i64 t171)).setCell ⟨G176,3,none⟩ (.int .i64 t172)).setCell ⟨G176,4,none⟩ (.int .i64 t173)).setCell ⟨G176,5,none⟩ (.int .i64 t174)).setCell ⟨G176,6,none⟩ (.int .i64 t175))) ?hg ?ho ?hn ?hr ?_;(case ho => rfl);(case hg => rfl);(case hn => rfl);(case hr => first|(go_simp;done)|(go_simp;rfl));intro w11 hw;have n0_ : Aside0 (w11.heap[G168]? = some (.cells #[.float .f64 a0_0,.int .i64 a0_1,.int .i64 a0_2,.int .i64 a0_3,.int .i64 a0_4,.int .i64 a0_5,.int .i64 a0_6] 54 (0,0))):=⟨(by rw [hw];exact (by (with_reducible repeat first|apply bN|apply bD|apply bA);refine bZ ?_ NB168_176.1 _;(with_reducible repeat first|apply bN|apply bD|apply bA);refine bZ ?_ NB168_176.1 _;(with_reducible repeat first|apply bN|apply bD|apply bA);refine bZ ?_ NB168_176.1 _;(with_reducible repeat first|apply bN|apply bD|apply bA);refine bZ ?_ NB168_176.1 _;(with_reducible repeat first|apply bN|apply bD|apply bA);refine bZ ?_ NB168_176.1 _;(with_reducible repeat first|apply bN|apply bD|apply bA);refine bZ ?_ NB168_176.1 _;(with_reducible repeat first|apply bN|apply bD|apply bA);refine bZ ?_ NB168_176.1 _;(with_reducible repeat first|apply bN|apply bD|apply bA);exact K168.1))⟩;have n1_ : Aside0 (w11.heap[G176]? = some (.cells #[.float .f64 t169,.int .i64 t170,.int .i64 t171,.int .i64 t172,.int .i64 t173,.int .i64 t174,.int .i64 t175] 54 (0,0))):=⟨(by rw [hw];exact (by (with_reducible repeat first|apply bN|apply bD|apply bA);refine blk_put (cs:=#[.float .f64 t169,.int .i64 t170,.int .i64 t171,.int .i64 t172,.int .i64 t173,.int .i64 t174,.int .i64 0]) ?_ 6 _ rfl;(with_reducible repeat first|apply bN|apply bD|apply bA);refine blk_put (cs:=#[.float .f64 t169,.int .i64 t170,.int .i64 t171,.int .i64 t172,.int .i64 t173,.int .i64 0,.int .i64 0]) ?_ 5 _ rfl;(with_reducible repeat first|apply bN|apply bD|apply bA);refine blk_put (cs:=#[.float .f64 t169,.int .i64 t170,.int .i64 t171,.int .i64 t172,.int .i64 0,.int .i64 0,.int .i64 0]) ?_ 4 _ rfl;(with_reducible repeat first|apply bN|apply bD|apply bA);refine blk_put (cs:=#[.float .f64 t169,.int .i64 t170,.int .i64 t171,.int .i64 0,.int .i64 0,.int .i64 0,.int .i64 0]) ?_ 3 _ rfl;(with_reducible repeat first|apply bN|apply bD|apply bA);refine blk_put (cs:=#[.float .f64 t169,.int .i64 t170,.int .i64 0,.int .i64 0,.int .i64 0,.int .i64 0,.int .i64 0]) ?_ 2 _ rfl;(with_reducible repeat first|apply bN|apply bD|apply bA);refine blk_put (cs:=#[.float .f64 t169,.int .i64 0,.int .i64 0,.int .i64 0,.int .i64 0,.int .i64 0,.int .i64 0]) ?_ 1 _ rfl;(with_reducible repeat first|apply bN|apply bD|apply bA);refine blk_put (cs:=#[.float .f64 0,.int .i64 0,.int .i64 0,.int .i64 0,.int .i64 0,.int .i64 0,.int .i64 0]) ?_ 0 _ rfl;(with_reducible repeat first|apply bN|apply bD|apply bA);exact K176.1))⟩;have n2_ : Aside0 (Below w.heap.size w w11):=⟨(by rw [hw];exact (by repeat (first|(with_reducible first|exact HB.1|apply bwA|apply bwN|apply bw1|refine bS ?_ GE168.1|refine bS ?_ GE176.1)|exact HB.1)))⟩;clear hw;clear K168;clear K176;clear HB;have K168:=n0_;have K176:=n1_;have HB:=n2_;clear n0_ n1_ n2_)|((with_reducible refine gate_callee (f:=23) rfl ?_);refine goesL_ (some 13) rfl rfl Try.func23 (by kernel_rfl) rfl #[] rfl (by (try simp only [List.map_toArray,List.map_cons,List.map_nil]);first|done|rfl|(simp only [List.length_drop,List.length_take];rfl)) ?_;(with_reducible refine (beaconref12_Usual.calls  t177 t178 t179 t180 t181 t182 t183 _ A4.out).mono ?_);rintro e w12 ⟨rfl,hb⟩;refine ⟨_,rfl,?_⟩;have n0_:=Aside0.mk (bB (by (with_reducible repeat first|apply bN|apply bD|apply bA);exact K168.1) hb);have n1_:=Aside0.mk (bB (by (with_reducible repeat first|apply bN|apply bD|apply bA);exact K176.1) hb);have n2_:=Aside0.mk (below_step (by repeat (first|(with_reducible first|exact HB.1|apply bwA|apply bwN|apply bw1|refine bS ?_ GE168.1|refine bS ?_ GE176.1)|exact HB.1)) hb);clear K168;clear K176;clear HB;have K168:=n0_;have K176:=n1_;have HB:=n2_;clear n0_ n1_ n2_;(try clear hb);(try clear hb2);(try clear hk);(try clear hi))|((with_reducible refine gate_dst (N:=6) rfl ?_);refine box_event ?hg (N:=6) ?hd (cs:=#[.float .f64 0,.int .i64 0,.int .i64 0,.int .i64 0,.int .i64 0,.int .i64 0,.int .i64 0]) (t:=54) ?hr ?_;(case hd => rfl);(case hg => rfl);(case hr => first|(go_simp;done)|(go_simp;rfl));intro G184 hg w13 hbox hb;have n0_:=Aside0.mk (bB (by (with_reducible repeat first|apply bN|apply bD|apply bA);exact K168.1) hb);have n1_:=Aside0.mk (bB (by (with_reducible repeat first|apply bN|apply bD|apply bA);exact K176.1) hb);have n2_:=Aside0.mk (below_step (by repeat (first|(with_reducible first|exact HB.1|apply bwA|apply bwN|apply bw1|refine bS ?_ GE168.1|refine bS ?_ GE176.1)|exact HB.1)) hb);have n3_:=Aside0.mk (hbox);have n4_:=Aside0.mk ((by rw [hg];exact (below_size (by repeat (first|(with_reducible first|exact HB.1|apply bwA|apply bwN|apply bw1|refine bS ?_ GE168.1|refine bS ?_ GE176.1)|exact HB.1))) : w.heap.size ≤ G184));have n5_:=Aside0.mk ((by rw [hg];exact (below_size (by repeat (first|(with_reducible first|exact HB.1|apply bwA|apply bwN|apply bw1|refine bS ?_ GE168.1|refine bS ?_ GE176.1)|exact HB.1))) : w.heap.size ≤ G184));have n6_:=Aside0.mk ((by rw [hg];exact Nat.ne_of_lt (blk_lt (g:=G168) (by (with_reducible repeat first|apply bN|apply bD|apply bA);exact K168.1)) : G168 ≠ G184));have n7_:=Aside0.mk ((by rw [hg];exact Nat.ne_of_gt (blk_lt (g:=G168) (by (with_reducible repeat first|apply bN|apply bD|apply bA);exact K168.1)) : G184 ≠ G168));have n8_:=Aside0.mk ((by rw [hg];exact Nat.ne_of_lt (blk_lt (g:=G176) (by (with_reducible repeat first|apply bN|apply bD|apply bA);exact K176.1)) : G176 ≠ G184));have n9_:=Aside0.mk ((by rw [hg];exact Nat.ne_of_gt (blk_lt (g:=G176) (by (with_reducible repeat first|apply bN|apply bD|apply bA);exact K176.1)) : G184 ≠ G176));clear K168;clear K176;clear HB;have K168:=n0_;have K176:=n1_;have HB:=n2_;have K184:=n3_;have GW184:=n4_;have GE184:=n5_;have NB168_184:=n6_;have NB184_168:=n7_;have NB176_184:=n8_;have NB184_176:=n9_;clear n0_ n1_ n2_ n3_ n4_ n5_ n6_ n7_ n8_ n9_;clear hb hbox hg;have hnb14:=NB184_168.1;have hnc14:=NB168_184.1;have hnb15:=NB184_176.1;have hnc15:=NB176_184.1;have hcz16_0 : w13.cell? ⟨G184,0,none⟩ = some (.float .f64 0):=(bC K184.1 0).trans rfl;have hcz16_1 : w13.cell? ⟨G184,1,none⟩ = some (.int .i64 0):=(bC K184.1 1).trans rfl;have hcz16_2 : w13.cell? ⟨G184,2,none⟩ = some (.int .i64 0):=(bC K184.1 2).trans rfl;have hcz16_3 : w13.cell? ⟨G184,3,none⟩ = some (.int .i64 0):=(bC K184.1 3).trans rfl;have hcz16_4 : w13.cell? ⟨G184,4,none⟩ = some (.int .i64 0):=(bC K184.1 4).trans rfl;have hcz16_5 : w13.cell? ⟨G184,5,none⟩ = some (.int .i64 0):=(bC K184.1 5).trans rfl;have hcz16_6 : w13.cell? ⟨G184,6,none⟩ = some (.int .i64 0):=(bC K184.1 6).trans rfl;have hfz16_0:=bF K184.1 0;have hfz16_1:=bF K184.1 1;have hfz16_2:=bF K184.1 2;have hfz16_3:=bF K184.1 3;have hfz16_4:=bF K184.1 4;have hfz16_5:=bF K184.1 5;have hfz16_6:=bF K184.1 6)|((with_reducible refine gate_store (t:=54) (p:=6) rfl ?_);refine store_event (t:=54) (p:=6) (v:=?vo_w17) (w1:=(((((((w13.setCell ⟨G184,0,none⟩ (.float .f64 t177)).setCell ⟨G184,1,none⟩ (.int .i64 t178)).setCell ⟨G184,2,none⟩ (.int .i64 t179)).setCell ⟨G184,3,none⟩ (.int .i64 t180)).setCell ⟨G184,4,none⟩ (.int .i64 t181)).setCell ⟨G184,5,none⟩ (.int .i64 t182)).setCell ⟨G184,6,none⟩ (.int .i64 t183))) ?hg ?ho ?hn ?hr ?_;(case ho => rfl);(case hg => rfl);(case hn => rfl);(case hr => first|(go_simp;done)|(go_simp;rfl));intro w17 hw;have n0_ : Aside0 (w17.heap[G168]? = some (.cells #[.float .f64 a0_0,.int .i64 a0_1,.int .i64 a0_2,.int .i64 a0_3,.int .i64 a0_4,.int .i64 a0_5,.int .i64 a0_6] 54 (0,0))):=⟨(by rw [hw];exact (by (with_reducible repeat first|apply bN|apply bD|apply bA);refine bZ ?_ NB168_184.1 _;(with_reducible repeat first|apply bN|apply bD|apply bA);refine bZ ?_ NB168_184.1 _;(with_reducible repeat first|apply bN|apply bD|apply bA);refine bZ ?_ NB168_184.1 _;(with_reducible repeat first|apply bN|apply bD|apply bA);refine bZ ?_ NB168_184.1 _;(with_reducible repeat first|apply bN|apply bD|apply bA);refine bZ ?_ NB168_184.1 _;(with_reducible repeat first|apply bN|apply bD|apply bA);refine bZ ?_ NB168_184.1 _;(with_reducible repeat first|apply bN|apply bD|apply bA);refine bZ ?_ NB168_184.1 _;(with_reducible repeat first|apply bN|apply bD|apply bA);exact K168.1))⟩;have n1_ : Aside0 (w17.heap[G176]? = some (.cells #[.float .f64 t169,.int .i64 t170,.int .i64 t171,.int .i64 t172,.int .i64 t173,.int .i64 t174,.int .i64 t175] 54 (0,0))):=⟨(by rw [hw];exact (by (with_reducible repeat first|apply bN|apply bD|apply bA);refine bZ ?_ NB176_184.1 _;(with_reducible repeat first|apply bN|apply bD|apply bA);refine bZ ?_ NB176_184.1 _;(with_reducible repeat first|apply bN|apply bD|apply bA);refine bZ ?_ NB176_184.1 _;(with_reducible repeat first|apply bN|apply bD|apply bA);refine bZ ?_ NB176_184.1 _;(with_reducible repeat first|apply bN|apply bD|apply bA);refine bZ ?_ NB176_184.1 _;(with_reducible repeat first|apply bN|apply bD|apply bA);refine bZ ?_ NB176_184.1 _;(with_reducible repeat first|apply bN|apply bD|apply bA);refine bZ ?_ NB176_184.1 _;(with_reducible repeat first|apply bN|apply bD|apply bA);exact K176.1))⟩;have n2_ : Aside0 (w17.heap[G184]? = some (.cells #[.float .f64 t177,.int .i64 t178,.int .i64 t179,.int .i64 t180,.int .i64 t181,.int .i64 t182,.int .i64 t183] 54 (0,0))):=⟨(by rw [hw];exact (by (with_reducible repeat first|apply bN|apply bD|apply bA);refine blk_put (cs:=#[.float .f64 t177,.int .i64 t178,.int .i64 t179,.int .i64 t180,.int .i64 t181,.int .i64 t182,.int .i64 0]) ?_ 6 _ rfl;(with_reducible repeat first|apply bN|apply bD|apply bA);refine blk_put (cs:=#[.float .f64 t177,.int .i64 t178,.int .i64 t179,.int .i64 t180,.int .i64 t181,.int .i64 0,.int .i64 0]) ?_ 5 _ rfl;(with_reducible repeat first|apply bN|apply bD|apply bA);refine blk_put (cs:=#[.float .f64 t177,.int .i64 t178,.int .i64 t179,.int .i64 t180,.int .i64 0,.int .i64 0,.int .i64 0]) ?_ 4 _ rfl;(with_reducible repeat first|apply bN|apply bD|apply bA);refine blk_put (cs:=#[.float .f64 t177,.int .i64 t178,.int .i64 t179,.int .i64 0,.int .i64 0,.int .i64 0,.int .i64 0]) ?_ 3 _ rfl;(with_reducible repeat first|apply bN|apply bD|apply bA);refine blk_put (cs:=#[.float .f64 t177,.int .i64 t178,.int .i64 0,.int .i64 0,.int .i64 0,.int .i64 0,.int .i64 0]) ?_ 2 _ rfl;(with_reducible repeat first|apply bN|apply bD|apply bA);refine blk_put (cs:=#[.float .f64 t177,.int .i64 0,.int .i64 0,.int .i64 0,.int .i64 0,.int .i64 0,.int .i64 0]) ?_ 1 _ rfl;(with_reducible repeat first|apply bN|apply bD|apply bA);refine blk_put (cs:=#[.float .f64 0,.int .i64 0,.int .i64 0,.int .i64 0,.int .i64 0,.int .i64 0,.int .i64 0]) ?_ 0 _ rfl;(with_reducible repeat first|apply bN|apply bD|apply bA);exact K184.1))⟩;have n3_ : Aside0 (Below w.heap.size w w17):=⟨(by rw [hw];exact (by repeat (first|(with_reducible first|exact HB.1|apply bwA|apply bwN|apply bw1|refine bS ?_ GE168.1|refine bS ?_ GE176.1|refine bS ?_ GE184.1)|exact HB.1)))⟩;clear hw;clear K168;clear K176;clear K184;clear HB;have K168:=n0_;have K176:=n1_;have K184:=n2_;have HB:=n3_;clear n0_ n1_ n2_ n3_))
 (try simp only [Act.put,xA,xB,xC])
 go_cut [7] (fun v7 wc => ∃ (kq : Nat) (x7_4 : Bool),v7 = .bool x7_4 ∧ Aside0 (beaconlaw12_SessionChecks.j0 kq a1 x7_4 a0_0 a0_1 a0_2 a0_3 a0_4 a0_5 a0_6 t169 t170 t171 t172 t173 t174 t175 = some r) ∧ Aside0 (kq ≤ k) ∧ Aside0 (wc.heap[G168]? = some (.cells #[.float .f64 a0_0,.int .i64 a0_1,.int .i64 a0_2,.int .i64 a0_3,.int .i64 a0_4,.int .i64 a0_5,.int .i64 a0_6] 54 (0,0))) ∧ Aside0 (wc.heap[G176]? = some (.cells #[.float .f64 t169,.int .i64 t170,.int .i64 t171,.int .i64 t172,.int .i64 t173,.int .i64 t174,.int .i64 t175] 54 (0,0))) ∧ Aside0 (wc.heap[G184]? = some (.cells #[.float .f64 t177,.int .i64 t178,.int .i64 t179,.int .i64 t180,.int .i64 t181,.int .i64 t182,.int .i64 t183] 54 (0,0))) ∧ Aside0 (Below w.heap.size w wc))
 case first =>
  have H:=HC5.out
  clear HC5
  by_cases c18 : (feq t169 t177) = true
  ·rw [if_pos c18] at H
   have c18b0 : (feq t169 t177) = true:=c18
   clear c18
   (first|rw [c18b0]|(simp only [i64_w,i32_w];rw [c18b0])|skip)
   by_cases c19 : t170 = t178
   ·rw [if_pos c19] at H
    have c19b0 : (t170 == t178) = true:=beq_iff_eq.mpr c19
    have c19b1 : (t170 != t178) = false:=bne_eq_false_iff_eq.mpr c19
    clear c19
    by_cases c20 : t171 = t179
    ·rw [if_pos c20] at H
     have c20b0 : (t171 == t179) = true:=beq_iff_eq.mpr c20
     have c20b1 : (t171 != t179) = false:=bne_eq_false_iff_eq.mpr c20
     clear c20
     by_cases c21 : t172 = t180
     ·rw [if_pos c21] at H
      have c21b0 : (t172 == t180) = true:=beq_iff_eq.mpr c21
      have c21b1 : (t172 != t180) = false:=bne_eq_false_iff_eq.mpr c21
      clear c21
      by_cases c22 : t173 = t181
      ·rw [if_pos c22] at H
       have c22b0 : (t173 == t181) = true:=beq_iff_eq.mpr c22
       have c22b1 : (t173 != t181) = false:=bne_eq_false_iff_eq.mpr c22
       clear c22
       by_cases c23 : t174 = t182
       ·rw [if_pos c23] at H
        have c23b0 : (t174 == t182) = true:=beq_iff_eq.mpr c23
        have c23b1 : (t174 != t182) = false:=bne_eq_false_iff_eq.mpr c23
        clear c23
        have H':=Aside0.mk H
        clear H
        have hnb24:=NB176_168.1
        have hnc24:=NB168_176.1
        have hnb25:=NB176_184.1
        have hnc25:=NB184_176.1
        have hcz26_0 : w17.cell? ⟨G176,0,none⟩ = some (.float .f64 t169):=(bC K176.1 0).trans rfl
        have hcz26_1 : w17.cell? ⟨G176,1,none⟩ = some (.int .i64 t170):=(bC K176.1 1).trans rfl
        have hcz26_2 : w17.cell? ⟨G176,2,none⟩ = some (.int .i64 t171):=(bC K176.1 2).trans rfl
        have hcz26_3 : w17.cell? ⟨G176,3,none⟩ = some (.int .i64 t172):=(bC K176.1 3).trans rfl
        have hcz26_4 : w17.cell? ⟨G176,4,none⟩ = some (.int .i64 t173):=(bC K176.1 4).trans rfl
        have hcz26_5 : w17.cell? ⟨G176,5,none⟩ = some (.int .i64 t174):=(bC K176.1 5).trans rfl
        have hcz26_6 : w17.cell? ⟨G176,6,none⟩ = some (.int .i64 t175):=(bC K176.1 6).trans rfl
        have hfz26_0:=bF K176.1 0
        have hfz26_1:=bF K176.1 1
        have hfz26_2:=bF K176.1 2
        have hfz26_3:=bF K176.1 3
        have hfz26_4:=bF K176.1 4
        have hfz26_5:=bF K176.1 5
        have hfz26_6:=bF K176.1 6
        have hnb27:=NB184_168.1
        have hnc27:=NB168_184.1
        have hcz28_0 : w17.cell? ⟨G184,0,none⟩ = some (.float .f64 t177):=(bC K184.1 0).trans rfl
        have hcz28_1 : w17.cell? ⟨G184,1,none⟩ = some (.int .i64 t178):=(bC K184.1 1).trans rfl
        have hcz28_2 : w17.cell? ⟨G184,2,none⟩ = some (.int .i64 t179):=(bC K184.1 2).trans rfl
        have hcz28_3 : w17.cell? ⟨G184,3,none⟩ = some (.int .i64 t180):=(bC K184.1 3).trans rfl
        have hcz28_4 : w17.cell? ⟨G184,4,none⟩ = some (.int .i64 t181):=(bC K184.1 4).trans rfl
        have hcz28_5 : w17.cell? ⟨G184,5,none⟩ = some (.int .i64 t182):=(bC K184.1 5).trans rfl
        have hcz28_6 : w17.cell? ⟨G184,6,none⟩ = some (.int .i64 t183):=(bC K184.1 6).trans rfl
        have hfz28_0:=bF K184.1 0
        have hfz28_1:=bF K184.1 1
        have hfz28_2:=bF K184.1 2
        have hfz28_3:=bF K184.1 3
        have hfz28_4:=bF K184.1 4
        have hfz28_5:=bF K184.1 5
        have hfz28_6:=bF K184.1 6
        go_wp2
        go_meet
        case rel => exact ⟨_,((t175 == t183)),(by first|rfl|(simp;done)|(simp [*];done)),H',⟨by first|omega|exact Nat.le_refl _⟩,⟨by (with_reducible repeat first|apply bN|apply bD|apply bA);exact K168.1⟩,⟨by (with_reducible repeat first|apply bN|apply bD|apply bA);exact K176.1⟩,⟨by (with_reducible repeat first|apply bN|apply bD|apply bA);exact K184.1⟩,⟨by repeat (first|(with_reducible first|exact HB.1|apply bwA|apply bwN|apply bw1|refine bS ?_ GE168.1|refine bS ?_ GE176.1|refine bS ?_ GE184.1)|exact HB.1)⟩⟩
       ·rw [if_neg c23] at H
        have c23b0 : (t174 == t182) = false:=beq_eq_false_iff_ne.mpr c23
        have c23b1 : (t174 != t182) = true:=bne_iff_ne.mpr c23
        have H':=Aside0.mk H
        clear H
        have hnb29:=NB176_168.1
        have hnc29:=NB168_176.1
        have hnb30:=NB176_184.1
        have hnc30:=NB184_176.1
        have hcz31_0 : w17.cell? ⟨G176,0,none⟩ = some (.float .f64 t169):=(bC K176.1 0).trans rfl
        have hcz31_1 : w17.cell? ⟨G176,1,none⟩ = some (.int .i64 t170):=(bC K176.1 1).trans rfl
        have hcz31_2 : w17.cell? ⟨G176,2,none⟩ = some (.int .i64 t171):=(bC K176.1 2).trans rfl
        have hcz31_3 : w17.cell? ⟨G176,3,none⟩ = some (.int .i64 t172):=(bC K176.1 3).trans rfl
        have hcz31_4 : w17.cell? ⟨G176,4,none⟩ = some (.int .i64 t173):=(bC K176.1 4).trans rfl
        have hcz31_5 : w17.cell? ⟨G176,5,none⟩ = some (.int .i64 t174):=(bC K176.1 5).trans rfl
        have hcz31_6 : w17.cell? ⟨G176,6,none⟩ = some (.int .i64 t175):=(bC K176.1 6).trans rfl
        have hfz31_0:=bF K176.1 0
        have hfz31_1:=bF K176.1 1
        have hfz31_2:=bF K176.1 2
        have hfz31_3:=bF K176.1 3
        have hfz31_4:=bF K176.1 4
        have hfz31_5:=bF K176.1 5
        have hfz31_6:=bF K176.1 6
        have hnb32:=NB184_168.1
        have hnc32:=NB168_184.1
        have hcz33_0 : w17.cell? ⟨G184,0,none⟩ = some (.float .f64 t177):=(bC K184.1 0).trans rfl
        have hcz33_1 : w17.cell? ⟨G184,1,none⟩ = some (.int .i64 t178):=(bC K184.1 1).trans rfl
        have hcz33_2 : w17.cell? ⟨G184,2,none⟩ = some (.int .i64 t179):=(bC K184.1 2).trans rfl
        have hcz33_3 : w17.cell? ⟨G184,3,none⟩ = some (.int .i64 t180):=(bC K184.1 3).trans rfl
        have hcz33_4 : w17.cell? ⟨G184,4,none⟩ = some (.int .i64 t181):=(bC K184.1 4).trans rfl
        have hcz33_5 : w17.cell? ⟨G184,5,none⟩ = some (.int .i64 t182):=(bC K184.1 5).trans rfl
        have hcz33_6 : w17.cell? ⟨G184,6,none⟩ = some (.int .i64 t183):=(bC K184.1 6).trans rfl
        have hfz33_0:=bF K184.1 0
        have hfz33_1:=bF K184.1 1
        have hfz33_2:=bF K184.1 2
        have hfz33_3:=bF K184.1 3
        have hfz33_4:=bF K184.1 4
        have hfz33_5:=bF K184.1 5
        have hfz33_6:=bF K184.1 6
        go_wp2
        go_meet
        case rel => exact ⟨_,(false),(by first|rfl|(simp;done)|(simp [*];done)),H',⟨by first|omega|exact Nat.le_refl _⟩,⟨by (with_reducible repeat first|apply bN|apply bD|apply bA);exact K168.1⟩,⟨by (with_reducible repeat first|apply bN|apply bD|apply bA);exact K176.1⟩,⟨by (with_reducible repeat first|apply bN|apply bD|apply bA);exact K184.1⟩,⟨by repeat (first|(with_reducible first|exact HB.1|apply bwA|apply bwN|apply bw1|refine bS ?_ GE168.1|refine bS ?_ GE176.1|refine bS ?_ GE184.1)|exact HB.1)⟩⟩
      ·rw [if_neg c22] at H
       have c22b0 : (t173 == t181) = false:=beq_eq_false_iff_ne.mpr c22
       have c22b1 : (t173 != t181) = true:=bne_iff_ne.mpr c22
       have H':=Aside0.mk H
       clear H
       have hnb34:=NB176_168.1
       have hnc34:=NB168_176.1
       have hnb35:=NB176_184.1
       have hnc35:=NB184_176.1
       have hcz36_0 : w17.cell? ⟨G176,0,none⟩ = some (.float .f64 t169):=(bC K176.1 0).trans rfl
       have hcz36_1 : w17.cell? ⟨G176,1,none⟩ = some (.int .i64 t170):=(bC K176.1 1).trans rfl
       have hcz36_2 : w17.cell? ⟨G176,2,none⟩ = some (.int .i64 t171):=(bC K176.1 2).trans rfl
       have hcz36_3 : w17.cell? ⟨G176,3,none⟩ = some (.int .i64 t172):=(bC K176.1 3).trans rfl
       have hcz36_4 : w17.cell? ⟨G176,4,none⟩ = some (.int .i64 t173):=(bC K176.1 4).trans rfl
       have hcz36_5 : w17.cell? ⟨G176,5,none⟩ = some (.int .i64 t174):=(bC K176.1 5).trans rfl
       have hcz36_6 : w17.cell? ⟨G176,6,none⟩ = some (.int .i64 t175):=(bC K176.1 6).trans rfl
       have hfz36_0:=bF K176.1 0
       have hfz36_1:=bF K176.1 1
       have hfz36_2:=bF K176.1 2
       have hfz36_3:=bF K176.1 3
       have hfz36_4:=bF K176.1 4
       have hfz36_5:=bF K176.1 5
       have hfz36_6:=bF K176.1 6
       have hnb37:=NB184_168.1
       have hnc37:=NB168_184.1
       have hcz38_0 : w17.cell? ⟨G184,0,none⟩ = some (.float .f64 t177):=(bC K184.1 0).trans rfl
       have hcz38_1 : w17.cell? ⟨G184,1,none⟩ = some (.int .i64 t178):=(bC K184.1 1).trans rfl
       have hcz38_2 : w17.cell? ⟨G184,2,none⟩ = some (.int .i64 t179):=(bC K184.1 2).trans rfl
       have hcz38_3 : w17.cell? ⟨G184,3,none⟩ = some (.int .i64 t180):=(bC K184.1 3).trans rfl
       have hcz38_4 : w17.cell? ⟨G184,4,none⟩ = some (.int .i64 t181):=(bC K184.1 4).trans rfl
       have hcz38_5 : w17.cell? ⟨G184,5,none⟩ = some (.int .i64 t182):=(bC K184.1 5).trans rfl
       have hcz38_6 : w17.cell? ⟨G184,6,none⟩ = some (.int .i64 t183):=(bC K184.1 6).trans rfl
       have hfz38_0:=bF K184.1 0
       have hfz38_1:=bF K184.1 1
       have hfz38_2:=bF K184.1 2
       have hfz38_3:=bF K184.1 3
       have hfz38_4:=bF K184.1 4
       have hfz38_5:=bF K184.1 5
       have hfz38_6:=bF K184.1 6
       go_wp2
       go_meet
       case rel => exact ⟨_,(false),(by first|rfl|(simp;done)|(simp [*];done)),H',⟨by first|omega|exact Nat.le_refl _⟩,⟨by (with_reducible repeat first|apply bN|apply bD|apply bA);exact K168.1⟩,⟨by (with_reducible repeat first|apply bN|apply bD|apply bA);exact K176.1⟩,⟨by (with_reducible repeat first|apply bN|apply bD|apply bA);exact K184.1⟩,⟨by repeat (first|(with_reducible first|exact HB.1|apply bwA|apply bwN|apply bw1|refine bS ?_ GE168.1|refine bS ?_ GE176.1|refine bS ?_ GE184.1)|exact HB.1)⟩⟩
     ·rw [if_neg c21] at H
      have c21b0 : (t172 == t180) = false:=beq_eq_false_iff_ne.mpr c21
      have c21b1 : (t172 != t180) = true:=bne_iff_ne.mpr c21
      have H':=Aside0.mk H
      clear H
      have hnb39:=NB176_168.1
      have hnc39:=NB168_176.1
      have hnb40:=NB176_184.1
      have hnc40:=NB184_176.1
      have hcz41_0 : w17.cell? ⟨G176,0,none⟩ = some (.float .f64 t169):=(bC K176.1 0).trans rfl
      have hcz41_1 : w17.cell? ⟨G176,1,none⟩ = some (.int .i64 t170):=(bC K176.1 1).trans rfl
      have hcz41_2 : w17.cell? ⟨G176,2,none⟩ = some (.int .i64 t171):=(bC K176.1 2).trans rfl
      have hcz41_3 : w17.cell? ⟨G176,3,none⟩ = some (.int .i64 t172):=(bC K176.1 3).trans rfl
      have hcz41_4 : w17.cell? ⟨G176,4,none⟩ = some (.int .i64 t173):=(bC K176.1 4).trans rfl
      have hcz41_5 : w17.cell? ⟨G176,5,none⟩ = some (.int .i64 t174):=(bC K176.1 5).trans rfl
      have hcz41_6 : w17.cell? ⟨G176,6,none⟩ = some (.int .i64 t175):=(bC K176.1 6).trans rfl
      have hfz41_0:=bF K176.1 0
      have hfz41_1:=bF K176.1 1
      have hfz41_2:=bF K176.1 2
      have hfz41_3:=bF K176.1 3
      have hfz41_4:=bF K176.1 4
      have hfz41_5:=bF K176.1 5
      have hfz41_6:=bF K176.1 6
      have hnb42:=NB184_168.1
      have hnc42:=NB168_184.1
      have hcz43_0 : w17.cell? ⟨G184,0,none⟩ = some (.float .f64 t177):=(bC K184.1 0).trans rfl
      have hcz43_1 : w17.cell? ⟨G184,1,none⟩ = some (.int .i64 t178):=(bC K184.1 1).trans rfl
      have hcz43_2 : w17.cell? ⟨G184,2,none⟩ = some (.int .i64 t179):=(bC K184.1 2).trans rfl
      have hcz43_3 : w17.cell? ⟨G184,3,none⟩ = some (.int .i64 t180):=(bC K184.1 3).trans rfl
      have hcz43_4 : w17.cell? ⟨G184,4,none⟩ = some (.int .i64 t181):=(bC K184.1 4).trans rfl
      have hcz43_5 : w17.cell? ⟨G184,5,none⟩ = some (.int .i64 t182):=(bC K184.1 5).trans rfl
      have hcz43_6 : w17.cell? ⟨G184,6,none⟩ = some (.int .i64 t183):=(bC K184.1 6).trans rfl
      have hfz43_0:=bF K184.1 0
      have hfz43_1:=bF K184.1 1
      have hfz43_2:=bF K184.1 2
      have hfz43_3:=bF K184.1 3
      have hfz43_4:=bF K184.1 4
      have hfz43_5:=bF K184.1 5
      have hfz43_6:=bF K184.1 6
      go_wp2
      go_meet
      case rel => exact ⟨_,(false),(by first|rfl|(simp;done)|(simp [*];done)),H',⟨by first|omega|exact Nat.le_refl _⟩,⟨by (with_reducible repeat first|apply bN|apply bD|apply bA);exact K168.1⟩,⟨by (with_reducible repeat first|apply bN|apply bD|apply bA);exact K176.1⟩,⟨by (with_reducible repeat first|apply bN|apply bD|apply bA);exact K184.1⟩,⟨by repeat (first|(with_reducible first|exact HB.1|apply bwA|apply bwN|apply bw1|refine bS ?_ GE168.1|refine bS ?_ GE176.1|refine bS ?_ GE184.1)|exact HB.1)⟩⟩
    ·rw [if_neg c20] at H
     have c20b0 : (t171 == t179) = false:=beq_eq_false_iff_ne.mpr c20
     have c20b1 : (t171 != t179) = true:=bne_iff_ne.mpr c20
     have H':=Aside0.mk H
     clear H
     have hnb44:=NB176_168.1
     have hnc44:=NB168_176.1
     have hnb45:=NB176_184.1
     have hnc45:=NB184_176.1
     have hcz46_0 : w17.cell? ⟨G176,0,none⟩ = some (.float .f64 t169):=(bC K176.1 0).trans rfl
     have hcz46_1 : w17.cell? ⟨G176,1,none⟩ = some (.int .i64 t170):=(bC K176.1 1).trans rfl
     have hcz46_2 : w17.cell? ⟨G176,2,none⟩ = some (.int .i64 t171):=(bC K176.1 2).trans rfl
     have hcz46_3 : w17.cell? ⟨G176,3,none⟩ = some (.int .i64 t172):=(bC K176.1 3).trans rfl
     have hcz46_4 : w17.cell? ⟨G176,4,none⟩ = some (.int .i64 t173):=(bC K176.1 4).trans rfl
     have hcz46_5 : w17.cell? ⟨G176,5,none⟩ = some (.int .i64 t174):=(bC K176.1 5).trans rfl
     have hcz46_6 : w17.cell? ⟨G176,6,none⟩ = some (.int .i64 t175):=(bC K176.1 6).trans rfl
     have hfz46_0:=bF K176.1 0
     have hfz46_1:=bF K176.1 1
     have hfz46_2:=bF K176.1 2
     have hfz46_3:=bF K176.1 3
     have hfz46_4:=bF K176.1 4
     have hfz46_5:=bF K176.1 5
     have hfz46_6:=bF K176.1 6
     have hnb47:=NB184_168.1
     have hnc47:=NB168_184.1
     have hcz48_0 : w17.cell? ⟨G184,0,none⟩ = some (.float .f64 t177):=(bC K184.1 0).trans rfl
     have hcz48_1 : w17.cell? ⟨G184,1,none⟩ = some (.int .i64 t178):=(bC K184.1 1).trans rfl
     have hcz48_2 : w17.cell? ⟨G184,2,none⟩ = some (.int .i64 t179):=(bC K184.1 2).trans rfl
     have hcz48_3 : w17.cell? ⟨G184,3,none⟩ = some (.int .i64 t180):=(bC K184.1 3).trans rfl
     have hcz48_4 : w17.cell? ⟨G184,4,none⟩ = some (.int .i64 t181):=(bC K184.1 4).trans rfl
     have hcz48_5 : w17.cell? ⟨G184,5,none⟩ = some (.int .i64 t182):=(bC K184.1 5).trans rfl
     have hcz48_6 : w17.cell? ⟨G184,6,none⟩ = some (.int .i64 t183):=(bC K184.1 6).trans rfl
     have hfz48_0:=bF K184.1 0
     have hfz48_1:=bF K184.1 1
     have hfz48_2:=bF K184.1 2
     have hfz48_3:=bF K184.1 3
     have hfz48_4:=bF K184.1 4
     have hfz48_5:=bF K184.1 5
     have hfz48_6:=bF K184.1 6
     go_wp2
     go_meet
     case rel => exact ⟨_,(false),(by first|rfl|(simp;done)|(simp [*];done)),H',⟨by first|omega|exact Nat.le_refl _⟩,⟨by (with_reducible repeat first|apply bN|apply bD|apply bA);exact K168.1⟩,⟨by (with_reducible repeat first|apply bN|apply bD|apply bA);exact K176.1⟩,⟨by (with_reducible repeat first|apply bN|apply bD|apply bA);exact K184.1⟩,⟨by repeat (first|(with_reducible first|exact HB.1|apply bwA|apply bwN|apply bw1|refine bS ?_ GE168.1|refine bS ?_ GE176.1|refine bS ?_ GE184.1)|exact HB.1)⟩⟩
   ·rw [if_neg c19] at H
    have c19b0 : (t170 == t178) = false:=beq_eq_false_iff_ne.mpr c19
    have c19b1 : (t170 != t178) = true:=bne_iff_ne.mpr c19
    have H':=Aside0.mk H
    clear H
    have hnb49:=NB176_168.1
    have hnc49:=NB168_176.1
    have hnb50:=NB176_184.1
    have hnc50:=NB184_176.1
    have hcz51_0 : w17.cell? ⟨G176,0,none⟩ = some (.float .f64 t169):=(bC K176.1 0).trans rfl
    have hcz51_1 : w17.cell? ⟨G176,1,none⟩ = some (.int .i64 t170):=(bC K176.1 1).trans rfl
    have hcz51_2 : w17.cell? ⟨G176,2,none⟩ = some (.int .i64 t171):=(bC K176.1 2).trans rfl
    have hcz51_3 : w17.cell? ⟨G176,3,none⟩ = some (.int .i64 t172):=(bC K176.1 3).trans rfl
    have hcz51_4 : w17.cell? ⟨G176,4,none⟩ = some (.int .i64 t173):=(bC K176.1 4).trans rfl
    have hcz51_5 : w17.cell? ⟨G176,5,none⟩ = some (.int .i64 t174):=(bC K176.1 5).trans rfl
    have hcz51_6 : w17.cell? ⟨G176,6,none⟩ = some (.int .i64 t175):=(bC K176.1 6).trans rfl
    have hfz51_0:=bF K176.1 0
    have hfz51_1:=bF K176.1 1
    have hfz51_2:=bF K176.1 2
    have hfz51_3:=bF K176.1 3
    have hfz51_4:=bF K176.1 4
    have hfz51_5:=bF K176.1 5
    have hfz51_6:=bF K176.1 6
    have hnb52:=NB184_168.1
    have hnc52:=NB168_184.1
    have hcz53_0 : w17.cell? ⟨G184,0,none⟩ = some (.float .f64 t177):=(bC K184.1 0).trans rfl
    have hcz53_1 : w17.cell? ⟨G184,1,none⟩ = some (.int .i64 t178):=(bC K184.1 1).trans rfl
    have hcz53_2 : w17.cell? ⟨G184,2,none⟩ = some (.int .i64 t179):=(bC K184.1 2).trans rfl
    have hcz53_3 : w17.cell? ⟨G184,3,none⟩ = some (.int .i64 t180):=(bC K184.1 3).trans rfl
    have hcz53_4 : w17.cell? ⟨G184,4,none⟩ = some (.int .i64 t181):=(bC K184.1 4).trans rfl
    have hcz53_5 : w17.cell? ⟨G184,5,none⟩ = some (.int .i64 t182):=(bC K184.1 5).trans rfl
    have hcz53_6 : w17.cell? ⟨G184,6,none⟩ = some (.int .i64 t183):=(bC K184.1 6).trans rfl
    have hfz53_0:=bF K184.1 0
    have hfz53_1:=bF K184.1 1
    have hfz53_2:=bF K184.1 2
    have hfz53_3:=bF K184.1 3
    have hfz53_4:=bF K184.1 4
    have hfz53_5:=bF K184.1 5
    have hfz53_6:=bF K184.1 6
    go_wp2
    go_meet
    case rel => exact ⟨_,(false),(by first|rfl|(simp;done)|(simp [*];done)),H',⟨by first|omega|exact Nat.le_refl _⟩,⟨by (with_reducible repeat first|apply bN|apply bD|apply bA);exact K168.1⟩,⟨by (with_reducible repeat first|apply bN|apply bD|apply bA);exact K176.1⟩,⟨by (with_reducible repeat first|apply bN|apply bD|apply bA);exact K184.1⟩,⟨by repeat (first|(with_reducible first|exact HB.1|apply bwA|apply bwN|apply bw1|refine bS ?_ GE168.1|refine bS ?_ GE176.1|refine bS ?_ GE184.1)|exact HB.1)⟩⟩
  ·rw [if_neg c18] at H
   have c18b0 : (feq t169 t177) = false:=by simpa using c18
   clear c18
   (first|rw [c18b0]|(simp only [i64_w,i32_w];rw [c18b0])|skip)
   have H':=Aside0.mk H
   clear H
   have hnb54:=NB176_168.1
   have hnc54:=NB168_176.1
   have hnb55:=NB176_184.1
   have hnc55:=NB184_176.1
   have hcz56_0 : w17.cell? ⟨G176,0,none⟩ = some (.float .f64 t169):=(bC K176.1 0).trans rfl
   have hcz56_1 : w17.cell? ⟨G176,1,none⟩ = some (.int .i64 t170):=(bC K176.1 1).trans rfl
   have hcz56_2 : w17.cell? ⟨G176,2,none⟩ = some (.int .i64 t171):=(bC K176.1 2).trans rfl
   have hcz56_3 : w17.cell? ⟨G176,3,none⟩ = some (.int .i64 t172):=(bC K176.1 3).trans rfl
   have hcz56_4 : w17.cell? ⟨G176,4,none⟩ = some (.int .i64 t173):=(bC K176.1 4).trans rfl
   have hcz56_5 : w17.cell? ⟨G176,5,none⟩ = some (.int .i64 t174):=(bC K176.1 5).trans rfl
   have hcz56_6 : w17.cell? ⟨G176,6,none⟩ = some (.int .i64 t175):=(bC K176.1 6).trans rfl
   have hfz56_0:=bF K176.1 0
   have hfz56_1:=bF K176.1 1
   have hfz56_2:=bF K176.1 2
   have hfz56_3:=bF K176.1 3
   have hfz56_4:=bF K176.1 4
   have hfz56_5:=bF K176.1 5
   have hfz56_6:=bF K176.1 6
   have hnb57:=NB184_168.1
   have hnc57:=NB168_184.1
   have hcz58_0 : w17.cell? ⟨G184,0,none⟩ = some (.float .f64 t177):=(bC K184.1 0).trans rfl
   have hcz58_1 : w17.cell? ⟨G184,1,none⟩ = some (.int .i64 t178):=(bC K184.1 1).trans rfl
   have hcz58_2 : w17.cell? ⟨G184,2,none⟩ = some (.int .i64 t179):=(bC K184.1 2).trans rfl
   have hcz58_3 : w17.cell? ⟨G184,3,none⟩ = some (.int .i64 t180):=(bC K184.1 3).trans rfl
   have hcz58_4 : w17.cell? ⟨G184,4,none⟩ = some (.int .i64 t181):=(bC K184.1 4).trans rfl
   have hcz58_5 : w17.cell? ⟨G184,5,none⟩ = some (.int .i64 t182):=(bC K184.1 5).trans rfl
   have hcz58_6 : w17.cell? ⟨G184,6,none⟩ = some (.int .i64 t183):=(bC K184.1 6).trans rfl
   have hfz58_0:=bF K184.1 0
   have hfz58_1:=bF K184.1 1
   have hfz58_2:=bF K184.1 2
   have hfz58_3:=bF K184.1 3
   have hfz58_4:=bF K184.1 4
   have hfz58_5:=bF K184.1 5
   have hfz58_6:=bF K184.1 6
   go_wp2
   go_meet
   case rel => exact ⟨_,(false),(by first|rfl|(simp;done)|(simp [*];done)),H',⟨by first|omega|exact Nat.le_refl _⟩,⟨by (with_reducible repeat first|apply bN|apply bD|apply bA);exact K168.1⟩,⟨by (with_reducible repeat first|apply bN|apply bD|apply bA);exact K176.1⟩,⟨by (with_reducible repeat first|apply bN|apply bD|apply bA);exact K184.1⟩,⟨by repeat (first|(with_reducible first|exact HB.1|apply bwA|apply bwN|apply bw1|refine bS ?_ GE168.1|refine bS ?_ GE176.1|refine bS ?_ GE184.1)|exact HB.1)⟩⟩
 case rest =>
  clear HC5
  try clear c1
  try clear c2
  try clear p2
  try clear c3
  try clear c4
  try clear c5
  try clear c6
  try clear c9
  try clear c14
  try clear c15
  try clear c18
  try clear c18b0
  try clear c19
  try clear c19b0
  try clear c19b1
  try clear c20
  try clear c20b0
  try clear c20b1
  try clear c21
  try clear c21b0
  try clear c21b1
  try clear c22
  try clear c22b0
  try clear c22b1
  try clear c23
  try clear c23b0
  try clear c23b1
  try clear c24
  try clear c25
  try clear c27
  try clear c29
  try clear c30
  try clear c32
  try clear c34
  try clear c35
  try clear c37
  try clear c39
  try clear c40
  try clear c42
  try clear c44
  try clear c45
  try clear c47
  try clear c49
  try clear c50
  try clear c52
  try clear c54
  try clear c55
  try clear c57
  try clear hcz10_0
  try clear hcz10_1
  try clear hcz10_2
  try clear hcz10_3
  try clear hcz10_4
  try clear hcz10_5
  try clear hcz10_6
  try clear hcz16_0
  try clear hcz16_1
  try clear hcz16_2
  try clear hcz16_3
  try clear hcz16_4
  try clear hcz16_5
  try clear hcz16_6
  try clear hcz26_0
  try clear hcz26_1
  try clear hcz26_2
  try clear hcz26_3
  try clear hcz26_4
  try clear hcz26_5
  try clear hcz26_6
  try clear hcz28_0
  try clear hcz28_1
  try clear hcz28_2
  try clear hcz28_3
  try clear hcz28_4
  try clear hcz28_5
  try clear hcz28_6
  try clear hcz31_0
  try clear hcz31_1
  try clear hcz31_2
  try clear hcz31_3
  try clear hcz31_4
  try clear hcz31_5
  try clear hcz31_6
  try clear hcz33_0
  try clear hcz33_1
  try clear hcz33_2
  try clear hcz33_3
  try clear hcz33_4
  try clear hcz33_5
  try clear hcz33_6
  try clear hcz36_0
  try clear hcz36_1
  try clear hcz36_2
  try clear hcz36_3
  try clear hcz36_4
  try clear hcz36_5
  try clear hcz36_6
  try clear hcz38_0
  try clear hcz38_1
  try clear hcz38_2
  try clear hcz38_3
  try clear hcz38_4
  try clear hcz38_5
  try clear hcz38_6
  try clear hcz41_0
  try clear hcz41_1
  try clear hcz41_2
  try clear hcz41_3
  try clear hcz41_4
  try clear hcz41_5
  try clear hcz41_6
  try clear hcz43_0
  try clear hcz43_1
  try clear hcz43_2
  try clear hcz43_3
  try clear hcz43_4
  try clear hcz43_5
  try clear hcz43_6
  try clear hcz46_0
  try clear hcz46_1
  try clear hcz46_2
  try clear hcz46_3
  try clear hcz46_4
  try clear hcz46_5
  try clear hcz46_6
  try clear hcz48_0
  try clear hcz48_1
  try clear hcz48_2
  try clear hcz48_3
  try clear hcz48_4
  try clear hcz48_5
  try clear hcz48_6
  try clear hcz51_0
  try clear hcz51_1
  try clear hcz51_2
  try clear hcz51_3
  try clear hcz51_4
  try clear hcz51_5
  try clear hcz51_6
  try clear hcz53_0
  try clear hcz53_1
  try clear hcz53_2
  try clear hcz53_3
  try clear hcz53_4
  try clear hcz53_5
  try clear hcz53_6
  try clear hcz56_0
  try clear hcz56_1
  try clear hcz56_2
  try clear hcz56_3
  try clear hcz56_4
  try clear hcz56_5
  try clear hcz56_6
  try clear hcz58_0
  try clear hcz58_1
  try clear hcz58_2
  try clear hcz58_3
  try clear hcz58_4
  try clear hcz58_5
  try clear hcz58_6
  try clear hfz10_0
  try clear hfz10_1
  try clear hfz10_2
  try clear hfz10_3
  try clear hfz10_4
  try clear hfz10_5
  try clear hfz10_6
  try clear hfz16_0
  try clear hfz16_1
  try clear hfz16_2
  try clear hfz16_3
  try clear hfz16_4
  try clear hfz16_5
  try clear hfz16_6
  try clear hfz26_0
  try clear hfz26_1
  try clear hfz26_2
  try clear hfz26_3
  try clear hfz26_4
  try clear hfz26_5
  try clear hfz26_6
  try clear hfz28_0
  try clear hfz28_1
  try clear hfz28_2
  try clear hfz28_3
  try clear hfz28_4
  try clear hfz28_5
  try clear hfz28_6
  try clear hfz31_0
  try clear hfz31_1
  try clear hfz31_2
  try clear hfz31_3
  try clear hfz31_4
  try clear hfz31_5
  try clear hfz31_6
  try clear hfz33_0
  try clear hfz33_1
  try clear hfz33_2
  try clear hfz33_3
  try clear hfz33_4
  try clear hfz33_5
  try clear hfz33_6
  try clear hfz36_0
  try clear hfz36_1
  try clear hfz36_2
  try clear hfz36_3
  try clear hfz36_4
  try clear hfz36_5
  try clear hfz36_6
  try clear hfz38_0
  try clear hfz38_1
  try clear hfz38_2
  try clear hfz38_3
  try clear hfz38_4
  try clear hfz38_5
  try clear hfz38_6
  try clear hfz41_0
  try clear hfz41_1
  try clear hfz41_2
  try clear hfz41_3
  try clear hfz41_4
  try clear hfz41_5
  try clear hfz41_6
  try clear hfz43_0
  try clear hfz43_1
  try clear hfz43_2
  try clear hfz43_3
  try clear hfz43_4
  try clear hfz43_5
  try clear hfz43_6
  try clear hfz46_0
  try clear hfz46_1
  try clear hfz46_2
  try clear hfz46_3
  try clear hfz46_4
  try clear hfz46_5
  try clear hfz46_6
  try clear hfz48_0
  try clear hfz48_1
  try clear hfz48_2
  try clear hfz48_3
  try clear hfz48_4
  try clear hfz48_5
  try clear hfz48_6
  try clear hfz51_0
  try clear hfz51_1
  try clear hfz51_2
  try clear hfz51_3
  try clear hfz51_4
  try clear hfz51_5
  try clear hfz51_6
  try clear hfz53_0
  try clear hfz53_1
  try clear hfz53_2
  try clear hfz53_3
  try clear hfz53_4
  try clear hfz53_5
  try clear hfz53_6
  try clear hfz56_0
  try clear hfz56_1
  try clear hfz56_2
  try clear hfz56_3
  try clear hfz56_4
  try clear hfz56_5
  try clear hfz56_6
  try clear hfz58_0
  try clear hfz58_1
  try clear hfz58_2
  try clear hfz58_3
  try clear hfz58_4
  try clear hfz58_5
  try clear hfz58_6
  obtain ⟨kq,x7_4,rfl,HA,HJ4,K168,K176,K184,HB⟩:=hcut
  cases kq with
  | zero => exact absurd HA.out (by simp [beaconlaw12_SessionChecks.j0])
  | succ kj4 =>
   have H:=HA.out
   clear HA
   simp only [beaconlaw12_SessionChecks.j0] at H
   replace H:=Option.bind_eq_some_iff.mp H
   obtain ⟨⟨t185,t186,t187,t188,t189⟩,A590,H⟩:=H
   replace H : ((beaconref12_New.f a1).bind fun bt191 => ((session_Check.f kj4 a0_0 a0_1 a0_2 a0_3 a0_4 a0_5 a0_6).bind fun t197 => ((beaconref12_Check.f kj4 a0_0 a0_1 a0_2 a0_3 a0_4 a0_5 a0_6).bind fun t198 => (if t197 = t198 then (if x7_4 = true then ((session_Check.f kj4 t169 t170 t171 t172 t173 t174 t175).bind fun t199 => (if t199 = 0 then ((beaconref12_Same.f t185 t186 t187 t188 bt191.1 bt191.2.1 bt191.2.2.1 bt191.2.2.2.1).bind fun t200 => (if t200 = true then (if t189 = bt191.2.2.2.2 then ((beaconlaw12_awake.f kj4).bind fun t201 => (some t201)) else (some false)) else (some false))) else (some false))) else (some false)) else (some false))))) = some r:=H
   have A59:=Aside0.mk A590
   clear A590
   replace H:=Option.bind_eq_some_iff.mp H
   obtain ⟨⟨t191,t192,t193,t194,t195⟩,A600,H⟩:=H
   replace H : ((session_Check.f kj4 a0_0 a0_1 a0_2 a0_3 a0_4 a0_5 a0_6).bind fun t197 => ((beaconref12_Check.f kj4 a0_0 a0_1 a0_2 a0_3 a0_4 a0_5 a0_6).bind fun t198 => (if t197 = t198 then (if x7_4 = true then ((session_Check.f kj4 t169 t170 t171 t172 t173 t174 t175).bind fun t199 => (if t199 = 0 then ((beaconref12_Same.f t185 t186 t187 t188 t191 t192 t193 t194).bind fun t200 => (if t200 = true then (if t189 = t195 then ((beaconlaw12_awake.f kj4).bind fun t201 => (some t201)) else (some false)) else (some false))) else (some false))) else (some false)) else (some false)))) = some r:=H
   have A60:=Aside0.mk A600
   clear A600
   replace H:=Option.bind_eq_some_iff.mp H
   obtain ⟨t197,A610,H⟩:=H
   replace H : ((beaconref12_Check.f kj4 a0_0 a0_1 a0_2 a0_3 a0_4 a0_5 a0_6).bind fun t198 => (if t197 = t198 then (if x7_4 = true then ((session_Check.f kj4 t169 t170 t171 t172 t173 t174 t175).bind fun t199 => (if t199 = 0 then ((beaconref12_Same.f t185 t186 t187 t188 t191 t192 t193 t194).bind fun t200 => (if t200 = true then (if t189 = t195 then ((beaconlaw12_awake.f kj4).bind fun t201 => (some t201)) else (some false)) else (some false))) else (some false))) else (some false)) else (some false))) = some r:=H
   have A61:=Aside0.mk A610
   clear A610
   replace H:=Option.bind_eq_some_iff.mp H
   obtain ⟨t198,A620,H⟩:=H
   replace H : (if t197 = t198 then (if x7_4 = true then ((session_Check.f kj4 t169 t170 t171 t172 t173 t174 t175).bind fun t199 => (if t199 = 0 then ((beaconref12_Same.f t185 t186 t187 t188 t191 t192 t193 t194).bind fun t200 => (if t200 = true then (if t189 = t195 then ((beaconlaw12_awake.f kj4).bind fun t201 => (some t201)) else (some false)) else (some false))) else (some false))) else (some false)) else (some false)) = some r:=H
   have A62:=Aside0.mk A620
   clear A620
   by_cases c63 : t197 = t198
   ·rw [if_pos c63] at H
    have c63b0 : (t197 == t198) = true:=beq_iff_eq.mpr c63
    have c63b1 : (t197 != t198) = false:=bne_eq_false_iff_eq.mpr c63
    clear c63
    by_cases c64 : x7_4 = true
    ·subst c64
     have H1 : ((session_Check.f kj4 t169 t170 t171 t172 t173 t174 t175).bind fun t199 => (if t199 = 0 then ((beaconref12_Same.f t185 t186 t187 t188 t191 t192 t193 t194).bind fun t200 => (if t200 = true then (if t189 = t195 then ((beaconlaw12_awake.f kj4).bind fun t201 => (some t201)) else (some false)) else (some false))) else (some false))) = some r:=by rw [if_pos rfl] at H;exact H
     clear H
     have H:=H1
     clear H1
     replace H:=Option.bind_eq_some_iff.mp H
     obtain ⟨t199,A650,H⟩:=H
     replace H : (if t199 = 0 then ((beaconref12_Same.f t185 t186 t187 t188 t191 t192 t193 t194).bind fun t200 => (if t200 = true then (if t189 = t195 then ((beaconlaw12_awake.f kj4).bind fun t201 => (some t201)) else (some false)) else (some false))) else (some false)) = some r:=H
     have A65:=Aside0.mk A650
     clear A650
     by_cases c66 : t199 = 0
     ·rw [if_pos c66] at H
      have c66b0 : (t199 == 0) = true:=beq_iff_eq.mpr c66
      have c66b1 : (t199 != 0) = false:=bne_eq_false_iff_eq.mpr c66
      clear c66
      replace H:=Option.bind_eq_some_iff.mp H
      obtain ⟨t200,A670,H⟩:=H
      replace H : (if t200 = true then (if t189 = t195 then ((beaconlaw12_awake.f kj4).bind fun t201 => (some t201)) else (some false)) else (some false)) = some r:=H
      have A67:=Aside0.mk A670
      clear A670
      by_cases c68 : t200 = true
      ·subst c68
       have H1 : (if t189 = t195 then ((beaconlaw12_awake.f kj4).bind fun t201 => (some t201)) else (some false)) = some r:=by rw [if_pos rfl] at H;exact H
       clear H
       have H:=H1
       clear H1
       by_cases c69 : t189 = t195
       ·rw [if_pos c69] at H
        have c69b0 : (t189 == t195) = true:=beq_iff_eq.mpr c69
        have c69b1 : (t189 != t195) = false:=bne_eq_false_iff_eq.mpr c69
        clear c69
        replace H:=Option.bind_eq_some_iff.mp H
        obtain ⟨t201,A700,H⟩:=H
        replace H : (some t201) = some r:=H
        have A70:=Aside0.mk A700
        clear A700
        obtain rfl:=Option.some.inj H
        try go_wp2_with (first|((with_reducible refine gate_callee (f:=7) rfl ?_);refine goesL_ (some 63) rfl rfl Try.func7 (by kernel_rfl) rfl #[.int .u64 a1] rfl (by (try simp only [List.map_toArray,List.map_cons,List.map_nil]);first|done|rfl|(simp only [List.length_drop,List.length_take];rfl)) ?_;(with_reducible refine (session_New.calls a1 t185 t186 t187 t188 t189 _ A59.out).mono ?_);rintro e w71 ⟨rfl,hb⟩;refine ⟨_,rfl,?_⟩;have n0_:=Aside0.mk (bB (by (with_reducible repeat first|apply bN|apply bD|apply bA);exact K168.1) hb);have n1_:=Aside0.mk (bB (by (with_reducible repeat first|apply bN|apply bD|apply bA);exact K176.1) hb);have n2_:=Aside0.mk (bB (by (with_reducible repeat first|apply bN|apply bD|apply bA);exact K184.1) hb);have n3_:=Aside0.mk (below_step (by repeat (first|(with_reducible first|exact HB.1|apply bwA|apply bwN|apply bw1|refine bS ?_ GE168.1|refine bS ?_ GE176.1|refine bS ?_ GE184.1)|exact HB.1)) hb);clear K168;clear K176;clear K184;clear HB;have K168:=n0_;have K176:=n1_;have K184:=n2_;have HB:=n3_;clear n0_ n1_ n2_ n3_;(try clear hb);(try clear hb2);(try clear hk);(try clear hi))|((with_reducible refine gate_dst (N:=8) rfl ?_);refine box_event ?hg (N:=8) ?hd (cs:=#[.int .u64 0,.int .u64 0,.bool false,.int .i64 0]) (t:=26) ?hr ?_;(case hd => rfl);(case hg => rfl);(case hr => first|(go_simp;done)|(go_simp;rfl));intro G190 hg w72 hbox hb;have n0_:=Aside0.mk (bB (by (with_reducible repeat first|apply bN|apply bD|apply bA);exact K168.1) hb);have n1_:=Aside0.mk (bB (by (with_reducible repeat first|apply bN|apply bD|apply bA);exact K176.1) hb);have n2_:=Aside0.mk (bB (by (with_reducible repeat first|apply bN|apply bD|apply bA);exact K184.1) hb);have n3_:=Aside0.mk (below_step (by repeat (first|(with_reducible first|exact HB.1|apply bwA|apply bwN|apply bw1|refine bS ?_ GE168.1|refine bS ?_ GE176.1|refine bS ?_ GE184.1)|exact HB.1)) hb);have n4_:=Aside0.mk (hbox);have n5_:=Aside0.mk ((by rw [hg];exact (below_size (by repeat (first|(with_reducible first|exact HB.1|apply bwA|apply bwN|apply bw1|refine bS ?_ GE168.1|refine bS ?_ GE176.1|refine bS ?_ GE184.1)|exact HB.1))) : w.heap.size ≤ G190));have n6_:=Aside0.mk ((by rw [hg];exact (below_size (by repeat (first|(with_reducible first|exact HB.1|apply bwA|apply bwN|apply bw1|refine bS ?_ GE168.1|refine bS ?_ GE176.1|refine bS ?_ GE184.1)|exact HB.1))) : w.heap.size ≤ G190));have n7_:=Aside0.mk ((by rw [hg];exact Nat.ne_of_lt (blk_lt (g:=G168) (by (with_reducible repeat first|apply bN|apply bD|apply bA);exact K168.1)) : G168 ≠ G190));have n8_:=Aside0.mk ((by rw [hg];exact Nat.ne_of_gt (blk_lt (g:=G168) (by (with_reducible repeat first|apply bN|apply bD|apply bA);exact K168.1)) : G190 ≠ G168));have n9_:=Aside0.mk ((by rw [hg];exact Nat.ne_of_lt (blk_lt (g:=G176) (by (with_reducible repeat first|apply bN|apply bD|apply bA);exact K176.1)) : G176 ≠ G190));have n10_:=Aside0.mk ((by rw [hg];exact Nat.ne_of_gt (blk_lt (g:=G176) (by (with_reducible repeat first|apply bN|apply bD|apply bA);exact K176.1)) : G190 ≠ G176));have n11_:=Aside0.mk ((by rw [hg];exact Nat.ne_of_lt (blk_lt (g:=G184) (by (with_reducible repeat first|apply bN|apply bD|apply bA);exact K184.1)) : G184 ≠ G190));have n12_:=Aside0.mk ((by rw [hg];exact Nat.ne_of_gt (blk_lt (g:=G184) (by (with_reducible repeat first|apply bN|apply bD|apply bA);exact K184.1)) : G190 ≠ G184));clear K168;clear K176;clear K184;clear HB;have K168:=n0_;have K176:=n1_;have K184:=n2_;have HB:=n3_;have K190:=n4_;have GW190:=n5_;have GE190:=n6_;have NB168_190:=n7_;have NB190_168:=n8_;have NB176_190:=n9_;have NB190_176:=n10_;have NB184_190:=n11_;have NB190_184:=n12_;clear n0_ n1_ n2_ n3_ n4_ n5_ n6_ n7_ n8_ n9_ n10_ n11_ n12_;clear hb hbox hg;have hnb73:=NB190_168.1;have hnc73:=NB168_190.1;have hnb74:=NB190_176.1;have hnc74:=NB176_190.1;have hnb75:=NB190_184.1;have hnc75:=NB184_190.1;have hcz76_0 : w72.cell? ⟨G190,0,none⟩ = some (.int .u64 0):=(bC K190.1 0).trans rfl;have hcz76_1 : w72.cell? ⟨G190,1,none⟩ = some (.int .u64 0):=(bC K190.1 1).trans rfl;have hcz76_2 : w72.cell? ⟨G190,2,none⟩ = some (.bool false):=(bC K190.1 2).trans rfl;have hcz76_3 : w72.cell? ⟨G190,3,none⟩ = some (.int .i64 0):=(bC K190.1 3).trans rfl;have hfz76_0:=bF K190.1 0;have hfz76_1:=bF K190.1 1;have hfz76_2:=bF K190.1 2;have hfz76_3:=bF K190.1 3)|((with_reducible refine gate_store (t:=26) (p:=8) rfl ?_);refine store_event (t:=26) (p:=8) (v:=?vo_w77) (w1:=((((w72.setCell ⟨G190,0,none⟩ (.int .u64 t185)).setCell ⟨G190,1,none⟩ (.int .u64 t186)).setCell ⟨G190,2,none⟩ (.bool t187)).setCell ⟨G190,3,none⟩ (.int .i64 t188))) ?hg ?ho ?hn ?hr ?_;(case ho => rfl);(case hg => rfl);(case hn => rfl);(case hr => first|(go_simp;done)|(go_simp;rfl));intro w77 hw;have n0_ : Aside0 (w77.heap[G168]? = some (.cells #[.float .f64 a0_0,.int .i64 a0_1,.int .i64 a0_2,.int .i64 a0_3,.int .i64 a0_4,.int .i64 a0_5,.int .i64 a0_6] 54 (0,0))):=⟨(by rw [hw];exact (by (with_reducible repeat first|apply bN|apply bD|apply bA);refine bZ ?_ NB168_190.1 _;(with_reducible repeat first|apply bN|apply bD|apply bA);refine bZ ?_ NB168_190.1 _;(with_reducible repeat first|apply bN|apply bD|apply bA);refine bZ ?_ NB168_190.1 _;(with_reducible repeat first|apply bN|apply bD|apply bA);refine bZ ?_ NB168_190.1 _;(with_reducible repeat first|apply bN|apply bD|apply bA);exact K168.1))⟩;have n1_ : Aside0 (w77.heap[G176]? = some (.cells #[.float .f64 t169,.int .i64 t170,.int .i64 t171,.int .i64 t172,.int .i64 t173,.int .i64 t174,.int .i64 t175] 54 (0,0))):=⟨(by rw [hw];exact (by (with_reducible repeat first|apply bN|apply bD|apply bA);refine bZ ?_ NB176_190.1 _;(with_reducible repeat first|apply bN|apply bD|apply bA);refine bZ ?_ NB176_190.1 _;(with_reducible repeat first|apply bN|apply bD|apply bA);refine bZ ?_ NB176_190.1 _;(with_reducible repeat first|apply bN|apply bD|apply bA);refine bZ ?_ NB176_190.1 _;(with_reducible repeat first|apply bN|apply bD|apply bA);exact K176.1))⟩;have n2_ : Aside0 (w77.heap[G184]? = some (.cells #[.float .f64 t177,.int .i64 t178,.int .i64 t179,.int .i64 t180,.int .i64 t181,.int .i64 t182,.int .i64 t183] 54 (0,0))):=⟨(by rw [hw];exact (by (with_reducible repeat first|apply bN|apply bD|apply bA);refine bZ ?_ NB184_190.1 _;(with_reducible repeat first|apply bN|apply bD|apply bA);refine bZ ?_ NB184_190.1 _;(with_reducible repeat first|apply bN|apply bD|apply bA);refine bZ ?_ NB184_190.1 _;(with_reducible repeat first|apply bN|apply bD|apply bA);refine bZ ?_ NB184_190.1 _;(with_reducible repeat first|apply bN|apply bD|apply bA);exact K184.1))⟩;have n3_ : Aside0 (w77.heap[G190]? = some (.cells #[.int .u64 t185,.int .u64 t186,.bool t187,.int .i64 t188] 26 (0,0))):=⟨(by rw [hw];exact (by (with_reducible repeat first|apply bN|apply bD|apply bA);refine blk_put (cs:=#[.int .u64 t185,.int .u64 t186,.bool t187,.int .i64 0]) ?_ 3 _ rfl;(with_reducible repeat first|apply bN|apply bD|apply bA);refine blk_put (cs:=#[.int .u64 t185,.int .u64 t186,.bool false,.int .i64 0]) ?_ 2 _ rfl;(with_reducible repeat first|apply bN|apply bD|apply bA);refine blk_put (cs:=#[.int .u64 t185,.int .u64 0,.bool false,.int .i64 0]) ?_ 1 _ rfl;(with_reducible repeat first|apply bN|apply bD|apply bA);refine blk_put (cs:=#[.int .u64 0,.int .u64 0,.bool false,.int .i64 0]) ?_ 0 _ rfl;(with_reducible repeat first|apply bN|apply bD|apply bA);exact K190.1))⟩;have n4_ : Aside0 (Below w.heap.size w w77):=⟨(by rw [hw];exact (by repeat (first|(with_reducible first|exact HB.1|apply bwA|apply bwN|apply bw1|refine bS ?_ GE168.1|refine bS ?_ GE176.1|refine bS ?_ GE184.1|refine bS ?_ GE190.1)|exact HB.1)))⟩;clear hw;clear K168;clear K176;clear K184;clear K190;clear HB;have K168:=n0_;have K176:=n1_;have K184:=n2_;have K190:=n3_;have HB:=n4_;clear n0_ n1_ n2_ n3_ n4_)|((with_reducible refine gate_callee (f:=24) rfl ?_);refine goesL_ (some 68) rfl rfl Try.func24 (by kernel_rfl) rfl #[.int .u64 a1] rfl (by (try simp only [List.map_toArray,List.map_cons,List.map_nil]);first|done|rfl|(simp only [List.length_drop,List.length_take];rfl)) ?_;(with_reducible refine (beaconref12_New.calls a1 t191 t192 t193 t194 t195 _ A60.out).mono ?_);rintro e w78 ⟨rfl,hb⟩;refine ⟨_,rfl,?_⟩;have n0_:=Aside0.mk (bB (by (with_reducible repeat first|apply bN|apply bD|apply bA);exact K168.1) hb);have n1_:=Aside0.mk (bB (by (with_reducible repeat first|apply bN|apply bD|apply bA);exact K176.1) hb);have n2_:=Aside0.mk (bB (by (with_reducible repeat first|apply bN|apply bD|apply bA);exact K184.1) hb);have n3_:=Aside0.mk (bB (by (with_reducible repeat first|apply bN|apply bD|apply bA);exact K190.1) hb);have n4_:=Aside0.mk (below_step (by repeat (first|(with_reducible first|exact HB.1|apply bwA|apply bwN|apply bw1|refine bS ?_ GE168.1|refine bS ?_ GE176.1|refine bS ?_ GE184.1|refine bS ?_ GE190.1)|exact HB.1)) hb);clear K168;clear K176;clear K184;clear K190;clear HB;have K168:=n0_;have K176:=n1_;have K184:=n2_;have K190:=n3_;have HB:=n4_;clear n0_ n1_ n2_ n3_ n4_;(try clear hb);(try clear hb2);(try clear hk);(try clear hi))|((with_reducible refine gate_dst (N:=10) rfl ?_);refine box_event ?hg (N:=10) ?hd (cs:=#[.int .u64 0,.int .u64 0,.bool false,.int .i64 0]) (t:=26) ?hr ?_;(case hd => rfl);(case hg => rfl);(case hr => first|(go_simp;done)|(go_simp;rfl));intro G196 hg w79 hbox hb;have n0_:=Aside0.mk (bB (by (with_reducible repeat first|apply bN|apply bD|apply bA);exact K168.1) hb);have n1_:=Aside0.mk (bB (by (with_reducible repeat first|apply bN|apply bD|apply bA);exact K176.1) hb);have n2_:=Aside0.mk (bB (by (with_reducible repeat first|apply bN|apply bD|apply bA);exact K184.1) hb);have n3_:=Aside0.mk (bB (by (with_reducible repeat first|apply bN|apply bD|apply bA);exact K190.1) hb);have n4_:=Aside0.mk (below_step (by repeat (first|(with_reducible first|exact HB.1|apply bwA|apply bwN|apply bw1|refine bS ?_ GE168.1|refine bS ?_ GE176.1|refine bS ?_ GE184.1|refine bS ?_ GE190.1)|exact HB.1)) hb);have n5_:=Aside0.mk (hbox);have n6_:=Aside0.mk ((by rw [hg];exact (below_size (by repeat (first|(with_reducible first|exact HB.1|apply bwA|apply bwN|apply bw1|refine bS ?_ GE168.1|refine bS ?_ GE176.1|refine bS ?_ GE184.1|refine bS ?_ GE190.1)|exact HB.1))) : w.heap.size ≤ G196));have n7_:=Aside0.mk ((by rw [hg];exact (below_size (by repeat (first|(with_reducible first|exact HB.1|apply bwA|apply bwN|apply bw1|refine bS ?_ GE168.1|refine bS ?_ GE176.1|refine bS ?_ GE184.1|refine bS ?_ GE190.1)|exact HB.1))) : w.heap.size ≤ G196));have n8_:=Aside0.mk ((by rw [hg];exact Nat.ne_of_lt (blk_lt (g:=G168) (by (with_reducible repeat first|apply bN|apply bD|apply bA);exact K168.1)) : G168 ≠ G196));have n9_:=Aside0.mk ((by rw [hg];exact Nat.ne_of_gt (blk_lt (g:=G168) (by (with_reducible repeat first|apply bN|apply bD|apply bA);exact K168.1)) : G196 ≠ G168));have n10_:=Aside0.mk ((by rw [hg];exact Nat.ne_of_lt (blk_lt (g:=G176) (by (with_reducible repeat first|apply bN|apply bD|apply bA);exact K176.1)) : G176 ≠ G196));have n11_:=Aside0.mk ((by rw [hg];exact Nat.ne_of_gt (blk_lt (g:=G176) (by (with_reducible repeat first|apply bN|apply bD|apply bA);exact K176.1)) : G196 ≠ G176));have n12_:=Aside0.mk ((by rw [hg];exact Nat.ne_of_lt (blk_lt (g:=G184) (by (with_reducible repeat first|apply bN|apply bD|apply bA);exact K184.1)) : G184 ≠ G196));have n13_:=Aside0.mk ((by rw [hg];exact Nat.ne_of_gt (blk_lt (g:=G184) (by (with_reducible repeat first|apply bN|apply bD|apply bA);exact K184.1)) : G196 ≠ G184));have n14_:=Aside0.mk ((by rw [hg];exact Nat.ne_of_lt (blk_lt (g:=G190) (by (with_reducible repeat first|apply bN|apply bD|apply bA);exact K190.1)) : G190 ≠ G196));have n15_:=Aside0.mk ((by rw [hg];exact Nat.ne_of_gt (blk_lt (g:=G190) (by (with_reducible repeat first|apply bN|apply bD|apply bA);exact K190.1)) : G196 ≠ G190));clear K168;clear K176;clear K184;clear K190;clear HB;have K168:=n0_;have K176:=n1_;have K184:=n2_;have K190:=n3_;have HB:=n4_;have K196:=n5_;have GW196:=n6_;have GE196:=n7_;have NB168_196:=n8_;have NB196_168:=n9_;have NB176_196:=n10_;have NB196_176:=n11_;have NB184_196:=n12_;have NB196_184:=n13_;have NB190_196:=n14_;have NB196_190:=n15_;clear n0_ n1_ n2_ n3_ n4_ n5_ n6_ n7_ n8_ n9_ n10_ n11_ n12_ n13_ n14_ n15_;clear hb hbox hg;have hnb80:=NB196_168.1;have hnc80:=NB168_196.1;have hnb81:=NB196_176.1;have hnc81:=NB176_196.1;have hnb82:=NB196_184.1;have hnc82:=NB184_196.1;have hnb83:=NB196_190.1;have hnc83:=NB190_196.1;have hcz84_0 : w79.cell? ⟨G196,0,none⟩ = some (.int .u64 0):=(bC K196.1 0).trans rfl;have hcz84_1 : w79.cell? ⟨G196,1,none⟩ = some (.int .u64 0):=(bC K196.1 1).trans rfl;have hcz84_2 : w79.cell? ⟨G196,2,none⟩ = some (.bool false):=(bC K196.1 2).trans rfl;have hcz84_3 : w79.cell? ⟨G196,3,none⟩ = some (.int .i64 0):=(bC K196.1 3).trans rfl;have hfz84_0:=bF K196.1 0;have hfz84_1:=bF K196.1 1;have hfz84_2:=bF K196.1 2;have hfz84_3:=bF K196.1 3)|((with_reducible refine gate_store (t:=26) (p:=10) rfl ?_);refine store_event (t:=26) (p:=10) (v:=?vo_w85) (w1:=((((w79.setCell ⟨G196,0,none⟩ (.int .u64 t191)).setCell ⟨G196,1,none⟩ (.int .u64 t192)).setCell ⟨G196,2,none⟩ (.bool t193)).setCell ⟨G196,3,none⟩ (.int .i64 t194))) ?hg ?ho ?hn ?hr ?_;(case ho => rfl);(case hg => rfl);(case hn => rfl);(case hr => first|(go_simp;done)|(go_simp;rfl));intro w85 hw;have n0_ : Aside0 (w85.heap[G168]? = some (.cells #[.float .f64 a0_0,.int .i64 a0_1,.int .i64 a0_2,.int .i64 a0_3,.int .i64 a0_4,.int .i64 a0_5,.int .i64 a0_6] 54 (0,0))):=⟨(by rw [hw];exact (by (with_reducible repeat first|apply bN|apply bD|apply bA);refine bZ ?_ NB168_196.1 _;(with_reducible repeat first|apply bN|apply bD|apply bA);refine bZ ?_ NB168_196.1 _;(with_reducible repeat first|apply bN|apply bD|apply bA);refine bZ ?_ NB168_196.1 _;(with_reducible repeat first|apply bN|apply bD|apply bA);refine bZ ?_ NB168_196.1 _;(with_reducible repeat first|apply bN|apply bD|apply bA);exact K168.1))⟩;have n1_ : Aside0 (w85.heap[G176]? = some (.cells #[.float .f64 t169,.int .i64 t170,.int .i64 t171,.int .i64 t172,.int .i64 t173,.int .i64 t174,.int .i64 t175] 54 (0,0))):=⟨(by rw [hw];exact (by (with_reducible repeat first|apply bN|apply bD|apply bA);refine bZ ?_ NB176_196.1 _;(with_reducible repeat first|apply bN|apply bD|apply bA);refine bZ ?_ NB176_196.1 _;(with_reducible repeat first|apply bN|apply bD|apply bA);refine bZ ?_ NB176_196.1 _;(with_reducible repeat first|apply bN|apply bD|apply bA);refine bZ ?_ NB176_196.1 _;(with_reducible repeat first|apply bN|apply bD|apply bA);exact K176.1))⟩;have n2_ : Aside0 (w85.heap[G184]? = some (.cells #[.float .f64 t177,.int .i64 t178,.int .i64 t179,.int .i64 t180,.int .i64 t181,.int .i64 t182,.int .i64 t183] 54 (0,0))):=⟨(by rw [hw];exact (by (with_reducible repeat first|apply bN|apply bD|apply bA);refine bZ ?_ NB184_196.1 _;(with_reducible repeat first|apply bN|apply bD|apply bA);refine bZ ?_ NB184_196.1 _;(with_reducible repeat first|apply bN|apply bD|apply bA);refine bZ ?_ NB184_196.1 _;(with_reducible repeat first|apply bN|apply bD|apply bA);refine bZ ?_ NB184_196.1 _;(with_reducible repeat first|apply bN|apply bD|apply bA);exact K184.1))⟩;have n3_ : Aside0 (w85.heap[G190]? = some (.cells #[.int .u64 t185,.int .u64 t186,.bool t187,.int .i64 t188] 26 (0,0))):=⟨(by rw [hw];exact (by (with_reducible repeat first|apply bN|apply bD|apply bA);refine bZ ?_ NB190_196.1 _;(with_reducible repeat first|apply bN|apply bD|apply bA);refine bZ ?_ NB190_196.1 _;(with_reducible repeat first|apply bN|apply bD|apply bA);refine bZ ?_ NB190_196.1 _;(with_reducible repeat first|apply bN|apply bD|apply bA);refine bZ ?_ NB190_196.1 _;(with_reducible repeat first|apply bN|apply bD|apply bA);exact K190.1))⟩;have n4_ : Aside0 (w85.heap[G196]? = some (.cells #[.int .u64 t191,.int .u64 t192,.bool t193,.int .i64 t194] 26 (0,0))):=⟨(by rw [hw];exact (by (with_reducible repeat first|apply bN|apply bD|apply bA);refine blk_put (cs:=#[.int .u64 t191,.int .u64 t192,.bool t193,.int .i64 0]) ?_ 3 _ rfl;(with_reducible repeat first|apply bN|apply bD|apply bA);refine blk_put (cs:=#[.int .u64 t191,.int .u64 t192,.bool false,.int .i64 0]) ?_ 2 _ rfl;(with_reducible repeat first|apply bN|apply bD|apply bA);refine blk_put (cs:=#[.int .u64 t191,.int .u64 0,.bool false,.int .i64 0]) ?_ 1 _ rfl;(with_reducible repeat first|apply bN|apply bD|apply bA);refine blk_put (cs:=#[.int .u64 0,.int .u64 0,.bool false,.int .i64 0]) ?_ 0 _ rfl;(with_reducible repeat first|apply bN|apply bD|apply bA);exact K196.1))⟩;have n5_ : Aside0 (Below w.heap.size w w85):=⟨(by rw [hw];exact (by repeat (first|(with_reducible first|exact HB.1|apply bwA|apply bwN|apply bw1|refine bS ?_ GE168.1|refine bS ?_ GE176.1|refine bS ?_ GE184.1|refine bS ?_ GE190.1|refine bS ?_ GE196.1)|exact HB.1)))⟩;clear hw;clear K168;clear K176;clear K184;clear K190;clear K196;clear HB;have K168:=n0_;have K176:=n1_;have K184:=n2_;have K190:=n3_;have K196:=n4_;have HB:=n5_;clear n0_ n1_ n2_ n3_ n4_ n5_))
        have n0_:=Aside0.mk (bD K168.1)
        have n1_:=Aside0.mk (bD K176.1)
        have n2_:=Aside0.mk (bD K184.1)
        have n3_:=Aside0.mk (bD K190.1)
        have n4_:=Aside0.mk (bD K196.1)
        have n5_:=Aside0.mk (bw1 HB.1)
        clear K168
        clear K176
        clear K184
        clear K190
        clear K196
        clear HB
        have K168:=n0_
        have K176:=n1_
        have K184:=n2_
        have K190:=n3_
        have K196:=n4_
        have HB:=n5_
        clear n0_ n1_ n2_ n3_ n4_ n5_
        refine start_ (n:=27) (S:=fun w' => w'.cell? ⟨G168,0,none⟩ = some (.float .f64 a0_0) ∧ w'.cell? ⟨G168,1,none⟩ = some (.int .i64 a0_1) ∧ w'.cell? ⟨G168,2,none⟩ = some (.int .i64 a0_2) ∧ w'.cell? ⟨G168,3,none⟩ = some (.int .i64 a0_3) ∧ w'.cell? ⟨G168,4,none⟩ = some (.int .i64 a0_4) ∧ w'.cell? ⟨G168,5,none⟩ = some (.int .i64 a0_5) ∧ w'.cell? ⟨G168,6,none⟩ = some (.int .i64 a0_6) ∧ w'.cell? ⟨G176,0,none⟩ = some (.float .f64 t169) ∧ w'.cell? ⟨G176,1,none⟩ = some (.int .i64 t170) ∧ w'.cell? ⟨G176,2,none⟩ = some (.int .i64 t171) ∧ w'.cell? ⟨G176,3,none⟩ = some (.int .i64 t172) ∧ w'.cell? ⟨G176,4,none⟩ = some (.int .i64 t173) ∧ w'.cell? ⟨G176,5,none⟩ = some (.int .i64 t174) ∧ w'.cell? ⟨G176,6,none⟩ = some (.int .i64 t175) ∧ w'.cell? ⟨G190,0,none⟩ = some (.int .u64 t185) ∧ w'.cell? ⟨G190,1,none⟩ = some (.int .u64 t186) ∧ w'.cell? ⟨G190,2,none⟩ = some (.bool t187) ∧ w'.cell? ⟨G190,3,none⟩ = some (.int .i64 t188) ∧ w'.cell? ⟨G196,0,none⟩ = some (.int .u64 t191) ∧ w'.cell? ⟨G196,1,none⟩ = some (.int .u64 t192) ∧ w'.cell? ⟨G196,2,none⟩ = some (.bool t193) ∧ w'.cell? ⟨G196,3,none⟩ = some (.int .i64 t194)) (ds:=[]) #[false,false,false,false,false,false,false,false,false,false,false,false,false,false,false,false,false,false,false,false,false,false,false,false,false,false,false] (by kernel_rfl) rfl rfl ⟨(bC K168.1 0).trans rfl,(bC K168.1 1).trans rfl,(bC K168.1 2).trans rfl,(bC K168.1 3).trans rfl,(bC K168.1 4).trans rfl,(bC K168.1 5).trans rfl,(bC K168.1 6).trans rfl,(bC K176.1 0).trans rfl,(bC K176.1 1).trans rfl,(bC K176.1 2).trans rfl,(bC K176.1 3).trans rfl,(bC K176.1 4).trans rfl,(bC K176.1 5).trans rfl,(bC K176.1 6).trans rfl,(bC K190.1 0).trans rfl,(bC K190.1 1).trans rfl,(bC K190.1 2).trans rfl,(bC K190.1 3).trans rfl,(bC K196.1 0).trans rfl,(bC K196.1 1).trans rfl,(bC K196.1 2).trans rfl,(bC K196.1 3).trans rfl⟩ (fun hHeld => ?_);refine with_tabW beaconlaw12_SessionChecks.tab6 beaconlaw12_SessionChecks.bits6 (fun HT_ HW_ => ?_)
        generalize w85.drew = w86 at K168 K176 K184 K190 K196 HB hHeld ⊢
        refine take_ (i:=0) (N:=some 71) (v:=?_) (a':=?_) #[true,false,false,false,false,false,false,false,false,false,false,false,false,false,false,false,false,false,false,false,false,false,false,false,false,false,false] rfl rfl (take_ofW HT_.out HW_.out (by kernel_rfl)) (fun _ _ _ h => h) (Or.inl ⟨by rfl,?_⟩) hHeld ?_ ?_
        rotate_left
        ·rintro w' ⟨s0,s1,s2,s3,s4,s5,s6,s7,s8,s9,s10,s11,s12,s13,s14,s15,s16,s17,s18,s19,s20,s21⟩
         go_simp
         with_reducible rfl
        rotate_left
        ·simp only [Act.put,xA,xB,xC,i64_w,i32_w]
         rfl
        refine take_ (i:=2) (N:=some 73) (v:=?_) (a':=?_) #[true,false,true,false,false,false,false,false,false,false,false,false,false,false,false,false,false,false,false,false,false,false,false,false,false,false,false] rfl rfl (take_ofW HT_.out HW_.out (by kernel_rfl)) (fun _ _ _ h => h) (Or.inl ⟨by rfl,?_⟩) hHeld ?_ ?_
        rotate_left
        ·rintro w' ⟨s0,s1,s2,s3,s4,s5,s6,s7,s8,s9,s10,s11,s12,s13,s14,s15,s16,s17,s18,s19,s20,s21⟩
         go_simp
         with_reducible rfl
        rotate_left
        ·simp only [Act.put,xA,xB,xC,i64_w,i32_w]
         rfl
        refine one_ (i:=1) (N:=some 72) #[true,true,true,false,false,false,false,false,false,false,false,false,false,false,false,false,false,false,false,false,false,false,false,false,false,false,false] rfl rfl (one_of HT_.out (by kernel_rfl)) (by decide) (fun K hK => ?_)
        refine goes_ Try.func25 (by kernel_rfl) rfl #[.agg #[.float .f64 a0_0,.int .i64 a0_1,.int .i64 a0_2,.int .i64 a0_3,.int .i64 a0_4,.int .i64 a0_5,.int .i64 a0_6]] (by rfl) rfl rfl (by (try simp only [List.map_toArray,List.map_cons,List.map_nil]);first|done|rfl|(simp only [List.length_drop,List.length_take];rfl)) ?_
        with_reducible refine (session_Check.calls kj4 a0_0 a0_1 a0_2 a0_3 a0_4 a0_5 a0_6 t197 _ A61.out).mono ?_
        rintro e w87 ⟨rfl,hb⟩
        refine ⟨_,rfl,?_⟩
        have n0_:=Aside0.mk (bB (by (with_reducible repeat first|apply bN|apply bD|apply bA);exact K168.1) hb)
        have n1_:=Aside0.mk (bB (by (with_reducible repeat first|apply bN|apply bD|apply bA);exact K176.1) hb)
        have n2_:=Aside0.mk (bB (by (with_reducible repeat first|apply bN|apply bD|apply bA);exact K184.1) hb)
        have n3_:=Aside0.mk (bB (by (with_reducible repeat first|apply bN|apply bD|apply bA);exact K190.1) hb)
        have n4_:=Aside0.mk (bB (by (with_reducible repeat first|apply bN|apply bD|apply bA);exact K196.1) hb)
        have n5_:=Aside0.mk (below_step (by repeat (first|(with_reducible first|exact HB.1|apply bwA|apply bwN|apply bw1|refine bS ?_ GE168.1|refine bS ?_ GE176.1|refine bS ?_ GE184.1|refine bS ?_ GE190.1|refine bS ?_ GE196.1)|exact HB.1)) hb)
        clear K168
        clear K176
        clear K184
        clear K190
        clear K196
        clear HB
        have K168:=n0_
        have K176:=n1_
        have K184:=n2_
        have K190:=n3_
        have K196:=n4_
        have HB:=n5_
        clear n0_ n1_ n2_ n3_ n4_ n5_
        (try clear hb)
        (try clear hb2)
        (try clear hk)
        (try clear hi)
        refine hK.out _ _ ⟨(bC K168.1 0).trans rfl,(bC K168.1 1).trans rfl,(bC K168.1 2).trans rfl,(bC K168.1 3).trans rfl,(bC K168.1 4).trans rfl,(bC K168.1 5).trans rfl,(bC K168.1 6).trans rfl,(bC K176.1 0).trans rfl,(bC K176.1 1).trans rfl,(bC K176.1 2).trans rfl,(bC K176.1 3).trans rfl,(bC K176.1 4).trans rfl,(bC K176.1 5).trans rfl,(bC K176.1 6).trans rfl,(bC K190.1 0).trans rfl,(bC K190.1 1).trans rfl,(bC K190.1 2).trans rfl,(bC K190.1 3).trans rfl,(bC K196.1 0).trans rfl,(bC K196.1 1).trans rfl,(bC K196.1 2).trans rfl,(bC K196.1 3).trans rfl⟩ (fun hHeld => ?_)
        clear hK K
        refine norm_ (a':=?_) ?_ ?_
        rotate_left
        ·show Act.put _ (some 72) _ = _
         simp only [Act.put,xA,xB,xC,i64_w,i32_w]
         rfl
        refine one_ (i:=3) (N:=some 74) #[true,true,true,true,false,false,false,false,false,false,false,false,false,false,false,false,false,false,false,false,false,false,false,false,false,false,false] rfl rfl (one_of HT_.out (by kernel_rfl)) (by decide) (fun K hK => ?_)
        refine goes_ Try.func26 (by kernel_rfl) rfl #[.agg #[.float .f64 a0_0,.int .i64 a0_1,.int .i64 a0_2,.int .i64 a0_3,.int .i64 a0_4,.int .i64 a0_5,.int .i64 a0_6]] (by rfl) rfl rfl (by (try simp only [List.map_toArray,List.map_cons,List.map_nil]);first|done|rfl|(simp only [List.length_drop,List.length_take];rfl)) ?_
        with_reducible refine (beaconref12_Check.calls kj4 a0_0 a0_1 a0_2 a0_3 a0_4 a0_5 a0_6 t198 _ A62.out).mono ?_
        rintro e w88 ⟨rfl,hb⟩
        refine ⟨_,rfl,?_⟩
        have n0_:=Aside0.mk (bB (by (with_reducible repeat first|apply bN|apply bD|apply bA);exact K168.1) hb)
        have n1_:=Aside0.mk (bB (by (with_reducible repeat first|apply bN|apply bD|apply bA);exact K176.1) hb)
        have n2_:=Aside0.mk (bB (by (with_reducible repeat first|apply bN|apply bD|apply bA);exact K184.1) hb)
        have n3_:=Aside0.mk (bB (by (with_reducible repeat first|apply bN|apply bD|apply bA);exact K190.1) hb)
        have n4_:=Aside0.mk (bB (by (with_reducible repeat first|apply bN|apply bD|apply bA);exact K196.1) hb)
        have n5_:=Aside0.mk (below_step (by repeat (first|(with_reducible first|exact HB.1|apply bwA|apply bwN|apply bw1|refine bS ?_ GE168.1|refine bS ?_ GE176.1|refine bS ?_ GE184.1|refine bS ?_ GE190.1|refine bS ?_ GE196.1)|exact HB.1)) hb)
        clear K168
        clear K176
        clear K184
        clear K190
        clear K196
        clear HB
        have K168:=n0_
        have K176:=n1_
        have K184:=n2_
        have K190:=n3_
        have K196:=n4_
        have HB:=n5_
        clear n0_ n1_ n2_ n3_ n4_ n5_
        (try clear hb)
        (try clear hb2)
        (try clear hk)
        (try clear hi)
        refine hK.out _ _ ⟨(bC K168.1 0).trans rfl,(bC K168.1 1).trans rfl,(bC K168.1 2).trans rfl,(bC K168.1 3).trans rfl,(bC K168.1 4).trans rfl,(bC K168.1 5).trans rfl,(bC K168.1 6).trans rfl,(bC K176.1 0).trans rfl,(bC K176.1 1).trans rfl,(bC K176.1 2).trans rfl,(bC K176.1 3).trans rfl,(bC K176.1 4).trans rfl,(bC K176.1 5).trans rfl,(bC K176.1 6).trans rfl,(bC K190.1 0).trans rfl,(bC K190.1 1).trans rfl,(bC K190.1 2).trans rfl,(bC K190.1 3).trans rfl,(bC K196.1 0).trans rfl,(bC K196.1 1).trans rfl,(bC K196.1 2).trans rfl,(bC K196.1 3).trans rfl⟩ (fun hHeld => ?_)
        clear hK K
        refine norm_ (a':=?_) ?_ ?_
        rotate_left
        ·show Act.put _ (some 74) _ = _
         simp only [Act.put,xA,xB,xC,i64_w,i32_w]
         rfl
        refine pure_ (i:=4) (N:=some 75) (v:=?_) (a':=?_) #[true,true,true,true,true,false,false,false,false,false,false,false,false,false,false,false,false,false,false,false,false,false,false,false,false,false,false] rfl rfl (any_of HT_.out (by kernel_rfl)) (fun _ _ _ h => h) (Or.inl ⟨by rfl,?_⟩) ?_ ?_
        rotate_left
        ·intro w'
         go_simp
         with_reducible rfl
        rotate_left
        ·simp only [Act.put,xA,xB,xC,i64_w,i32_w]
         rfl
        refine pure_ (i:=5) (N:=some 76) (v:=?_) (a':=?_) #[true,true,true,true,true,true,false,false,false,false,false,false,false,false,false,false,false,false,false,false,false,false,false,false,false,false,false] rfl rfl (any_of HT_.out (by kernel_rfl)) (fun _ _ _ h => h) (Or.inl ⟨by rfl,?_⟩) ?_ ?_
        rotate_left
        ·intro w'
         go_simp
         with_reducible rfl
        rotate_left
        ·simp only [Act.put,xA,xB,xC,i64_w,i32_w]
         rfl
        refine pure_ (i:=6) (N:=some 77) (v:=?_) (a':=?_) #[true,true,true,true,true,true,true,false,false,false,false,false,false,false,false,false,false,false,false,false,false,false,false,false,false,false,false] rfl rfl (any_of HT_.out (by kernel_rfl)) (fun _ _ _ h => h) (Or.inl ⟨by rfl,?_⟩) ?_ ?_
        rotate_left
        ·intro w'
         go_simp
         with_reducible rfl
        rotate_left
        ·simp only [Act.put,xA,xB,xC,i64_w,i32_w]
         rfl
        refine pure_ (i:=7) (N:=some 78) (v:=?_) (a':=?_) #[true,true,true,true,true,true,true,true,false,false,false,false,false,false,false,false,false,false,false,false,false,false,false,false,false,false,false] rfl rfl (any_of HT_.out (by kernel_rfl)) (fun _ _ _ h => h) (Or.inl ⟨by rfl,?_⟩) ?_ ?_
        rotate_left
        ·intro w'
         go_simp
         with_reducible rfl
        rotate_left
        ·simp only [Act.put,xA,xB,xC,i64_w,i32_w]
         rfl
        refine pure_ (i:=8) (N:=some 79) (v:=?_) (a':=?_) #[true,true,true,true,true,true,true,true,true,false,false,false,false,false,false,false,false,false,false,false,false,false,false,false,false,false,false] rfl rfl (any_of HT_.out (by kernel_rfl)) (fun _ _ _ h => h) (Or.inl ⟨by rfl,?_⟩) ?_ ?_
        rotate_left
        ·intro w'
         go_simp
         with_reducible rfl
        rotate_left
        ·simp only [Act.put,xA,xB,xC,i64_w,i32_w]
         rfl
        refine take_ (i:=9) (N:=some 80) (v:=?_) (a':=?_) #[true,true,true,true,true,true,true,true,true,true,false,false,false,false,false,false,false,false,false,false,false,false,false,false,false,false,false] rfl rfl (take_ofW HT_.out HW_.out (by kernel_rfl)) (fun _ _ _ h => h) (Or.inl ⟨by rfl,?_⟩) hHeld ?_ ?_
        rotate_left
        ·rintro w' ⟨s0,s1,s2,s3,s4,s5,s6,s7,s8,s9,s10,s11,s12,s13,s14,s15,s16,s17,s18,s19,s20,s21⟩
         go_simp
         with_reducible rfl
        rotate_left
        ·simp only [Act.put,xA,xB,xC,i64_w,i32_w]
         rfl
        refine one_ (i:=10) (N:=some 81) #[true,true,true,true,true,true,true,true,true,true,true,false,false,false,false,false,false,false,false,false,false,false,false,false,false,false,false] rfl rfl (one_of HT_.out (by kernel_rfl)) (by decide) (fun K hK => ?_)
        refine goes_ Try.func25 (by kernel_rfl) rfl #[.agg #[.float .f64 t169,.int .i64 t170,.int .i64 t171,.int .i64 t172,.int .i64 t173,.int .i64 t174,.int .i64 t175]] (by rfl) rfl rfl (by (try simp only [List.map_toArray,List.map_cons,List.map_nil]);first|done|rfl|(simp only [List.length_drop,List.length_take];rfl)) ?_
        with_reducible refine (session_Check.calls kj4 t169 t170 t171 t172 t173 t174 t175 t199 _ A65.out).mono ?_
        rintro e w89 ⟨rfl,hb⟩
        refine ⟨_,rfl,?_⟩
        have n0_:=Aside0.mk (bB (by (with_reducible repeat first|apply bN|apply bD|apply bA);exact K168.1) hb)
        have n1_:=Aside0.mk (bB (by (with_reducible repeat first|apply bN|apply bD|apply bA);exact K176.1) hb)
        have n2_:=Aside0.mk (bB (by (with_reducible repeat first|apply bN|apply bD|apply bA);exact K184.1) hb)
        have n3_:=Aside0.mk (bB (by (with_reducible repeat first|apply bN|apply bD|apply bA);exact K190.1) hb)
        have n4_:=Aside0.mk (bB (by (with_reducible repeat first|apply bN|apply bD|apply bA);exact K196.1) hb)
        have n5_:=Aside0.mk (below_step (by repeat (first|(with_reducible first|exact HB.1|apply bwA|apply bwN|apply bw1|refine bS ?_ GE168.1|refine bS ?_ GE176.1|refine bS ?_ GE184.1|refine bS ?_ GE190.1|refine bS ?_ GE196.1)|exact HB.1)) hb)
        clear K168
        clear K176
        clear K184
        clear K190
        clear K196
        clear HB
        have K168:=n0_
        have K176:=n1_
        have K184:=n2_
        have K190:=n3_
        have K196:=n4_
        have HB:=n5_
        clear n0_ n1_ n2_ n3_ n4_ n5_
        (try clear hb)
        (try clear hb2)
        (try clear hk)
        (try clear hi)
        refine hK.out _ _ ⟨(bC K168.1 0).trans rfl,(bC K168.1 1).trans rfl,(bC K168.1 2).trans rfl,(bC K168.1 3).trans rfl,(bC K168.1 4).trans rfl,(bC K168.1 5).trans rfl,(bC K168.1 6).trans rfl,(bC K176.1 0).trans rfl,(bC K176.1 1).trans rfl,(bC K176.1 2).trans rfl,(bC K176.1 3).trans rfl,(bC K176.1 4).trans rfl,(bC K176.1 5).trans rfl,(bC K176.1 6).trans rfl,(bC K190.1 0).trans rfl,(bC K190.1 1).trans rfl,(bC K190.1 2).trans rfl,(bC K190.1 3).trans rfl,(bC K196.1 0).trans rfl,(bC K196.1 1).trans rfl,(bC K196.1 2).trans rfl,(bC K196.1 3).trans rfl⟩ (fun hHeld => ?_)
        clear hK K
        refine norm_ (a':=?_) ?_ ?_
        rotate_left
        ·show Act.put _ (some 81) _ = _
         simp only [Act.put,xA,xB,xC,i64_w,i32_w]
         rfl
        refine pure_ (i:=11) (N:=some 82) (v:=?_) (a':=?_) #[true,true,true,true,true,true,true,true,true,true,true,true,false,false,false,false,false,false,false,false,false,false,false,false,false,false,false] rfl rfl (any_of HT_.out (by kernel_rfl)) (fun _ _ _ h => h) (Or.inl ⟨by rfl,?_⟩) ?_ ?_
        rotate_left
        ·intro w'
         go_simp
         with_reducible rfl
        rotate_left
        ·simp only [Act.put,xA,xB,xC,i64_w,i32_w]
         rfl
        refine pure_ (i:=12) (N:=some 83) (v:=?_) (a':=?_) #[true,true,true,true,true,true,true,true,true,true,true,true,true,false,false,false,false,false,false,false,false,false,false,false,false,false,false] rfl rfl (any_of HT_.out (by kernel_rfl)) (fun _ _ _ h => h) (Or.inl ⟨by rfl,?_⟩) ?_ ?_
        rotate_left
        ·intro w'
         go_simp
         with_reducible rfl
        rotate_left
        ·simp only [Act.put,xA,xB,xC,i64_w,i32_w]
         rfl
        refine pure_ (i:=13) (N:=some 84) (v:=?_) (a':=?_) #[true,true,true,true,true,true,true,true,true,true,true,true,true,true,false,false,false,false,false,false,false,false,false,false,false,false,false] rfl rfl (any_of HT_.out (by kernel_rfl)) (fun _ _ _ h => h) (Or.inl ⟨by rfl,?_⟩) ?_ ?_
        rotate_left
        ·intro w'
         go_simp
         with_reducible rfl
        rotate_left
        ·simp only [Act.put,xA,xB,xC,i64_w,i32_w]
         rfl
        refine take_ (i:=14) (N:=some 85) (v:=?_) (a':=?_) #[true,true,true,true,true,true,true,true,true,true,true,true,true,true,true,false,false,false,false,false,false,false,false,false,false,false,false] rfl rfl (take_ofW HT_.out HW_.out (by kernel_rfl)) (fun _ _ _ h => h) (Or.inl ⟨by rfl,?_⟩) hHeld ?_ ?_
        rotate_left
        ·rintro w' ⟨s0,s1,s2,s3,s4,s5,s6,s7,s8,s9,s10,s11,s12,s13,s14,s15,s16,s17,s18,s19,s20,s21⟩
         go_simp
         with_reducible rfl
        rotate_left
        ·simp only [Act.put,xA,xB,xC,i64_w,i32_w]
         rfl
        refine take_ (i:=15) (N:=some 86) (v:=?_) (a':=?_) #[true,true,true,true,true,true,true,true,true,true,true,true,true,true,true,true,false,false,false,false,false,false,false,false,false,false,false] rfl rfl (take_ofW HT_.out HW_.out (by kernel_rfl)) (fun _ _ _ h => h) (Or.inl ⟨by rfl,?_⟩) hHeld ?_ ?_
        rotate_left
        ·rintro w' ⟨s0,s1,s2,s3,s4,s5,s6,s7,s8,s9,s10,s11,s12,s13,s14,s15,s16,s17,s18,s19,s20,s21⟩
         go_simp
         with_reducible rfl
        rotate_left
        ·simp only [Act.put,xA,xB,xC,i64_w,i32_w]
         rfl
        refine one_ (i:=16) (N:=some 87) #[true,true,true,true,true,true,true,true,true,true,true,true,true,true,true,true,true,false,false,false,false,false,false,false,false,false,false] rfl rfl (one_of HT_.out (by kernel_rfl)) (by decide) (fun K hK => ?_)
        refine goes_ Try.func20 (by kernel_rfl) rfl #[.agg #[.int .u64 t185,.int .u64 t186,.bool t187,.int .i64 t188],.agg #[.int .u64 t191,.int .u64 t192,.bool t193,.int .i64 t194]] (by rfl) rfl rfl (by (try simp only [List.map_toArray,List.map_cons,List.map_nil]);first|done|rfl|(simp only [List.length_drop,List.length_take];rfl)) ?_
        with_reducible refine (beaconref12_Same.calls t185 t186 t187 t188 t191 t192 t193 t194 true _ A67.out).mono ?_
        rintro e w90 ⟨rfl,hb⟩
        refine ⟨_,rfl,?_⟩
        have n0_:=Aside0.mk (bB (by (with_reducible repeat first|apply bN|apply bD|apply bA);exact K168.1) hb)
        have n1_:=Aside0.mk (bB (by (with_reducible repeat first|apply bN|apply bD|apply bA);exact K176.1) hb)
        have n2_:=Aside0.mk (bB (by (with_reducible repeat first|apply bN|apply bD|apply bA);exact K184.1) hb)
        have n3_:=Aside0.mk (bB (by (with_reducible repeat first|apply bN|apply bD|apply bA);exact K190.1) hb)
        have n4_:=Aside0.mk (bB (by (with_reducible repeat first|apply bN|apply bD|apply bA);exact K196.1) hb)
        have n5_:=Aside0.mk (below_step (by repeat (first|(with_reducible first|exact HB.1|apply bwA|apply bwN|apply bw1|refine bS ?_ GE168.1|refine bS ?_ GE176.1|refine bS ?_ GE184.1|refine bS ?_ GE190.1|refine bS ?_ GE196.1)|exact HB.1)) hb)
        clear K168
        clear K176
        clear K184
        clear K190
        clear K196
        clear HB
        have K168:=n0_
        have K176:=n1_
        have K184:=n2_
        have K190:=n3_
        have K196:=n4_
        have HB:=n5_
        clear n0_ n1_ n2_ n3_ n4_ n5_
        (try clear hb)
        (try clear hb2)
        (try clear hk)
        (try clear hi)
        refine hK.out _ _ ⟨(bC K168.1 0).trans rfl,(bC K168.1 1).trans rfl,(bC K168.1 2).trans rfl,(bC K168.1 3).trans rfl,(bC K168.1 4).trans rfl,(bC K168.1 5).trans rfl,(bC K168.1 6).trans rfl,(bC K176.1 0).trans rfl,(bC K176.1 1).trans rfl,(bC K176.1 2).trans rfl,(bC K176.1 3).trans rfl,(bC K176.1 4).trans rfl,(bC K176.1 5).trans rfl,(bC K176.1 6).trans rfl,(bC K190.1 0).trans rfl,(bC K190.1 1).trans rfl,(bC K190.1 2).trans rfl,(bC K190.1 3).trans rfl,(bC K196.1 0).trans rfl,(bC K196.1 1).trans rfl,(bC K196.1 2).trans rfl,(bC K196.1 3).trans rfl⟩ (fun hHeld => ?_)
        clear hK K
        refine norm_ (a':=?_) ?_ ?_
        rotate_left
        ·show Act.put _ (some 87) _ = _
         simp only [Act.put,xA,xB,xC,i64_w,i32_w]
         rfl
        refine pure_ (i:=17) (N:=some 88) (v:=?_) (a':=?_) #[true,true,true,true,true,true,true,true,true,true,true,true,true,true,true,true,true,true,false,false,false,false,false,false,false,false,false] rfl rfl (any_of HT_.out (by kernel_rfl)) (fun _ _ _ h => h) (Or.inl ⟨by rfl,?_⟩) ?_ ?_
        rotate_left
        ·intro w'
         go_simp
         with_reducible rfl
        rotate_left
        ·simp only [Act.put,xA,xB,xC,i64_w,i32_w]
         rfl
        refine pure_ (i:=18) (N:=some 89) (v:=?_) (a':=?_) #[true,true,true,true,true,true,true,true,true,true,true,true,true,true,true,true,true,true,true,false,false,false,false,false,false,false,false] rfl rfl (any_of HT_.out (by kernel_rfl)) (fun _ _ _ h => h) (Or.inl ⟨by rfl,?_⟩) ?_ ?_
        rotate_left
        ·intro w'
         go_simp
         with_reducible rfl
        rotate_left
        ·simp only [Act.put,xA,xB,xC,i64_w,i32_w]
         rfl
        refine pure_ (i:=19) (N:=some 90) (v:=?_) (a':=?_) #[true,true,true,true,true,true,true,true,true,true,true,true,true,true,true,true,true,true,true,true,false,false,false,false,false,false,false] rfl rfl (any_of HT_.out (by kernel_rfl)) (fun _ _ _ h => h) (Or.inl ⟨by rfl,?_⟩) ?_ ?_
        rotate_left
        ·intro w'
         go_simp
         with_reducible rfl
        rotate_left
        ·simp only [Act.put,xA,xB,xC,i64_w,i32_w]
         rfl
        refine pure_ (i:=20) (N:=some 91) (v:=?_) (a':=?_) #[true,true,true,true,true,true,true,true,true,true,true,true,true,true,true,true,true,true,true,true,true,false,false,false,false,false,false] rfl rfl (any_of HT_.out (by kernel_rfl)) (fun _ _ _ h => h) (Or.inl ⟨by rfl,?_⟩) ?_ ?_
        rotate_left
        ·intro w'
         go_simp
         with_reducible rfl
        rotate_left
        ·simp only [Act.put,xA,xB,xC,i64_w,i32_w]
         rfl
        refine pure_ (i:=21) (N:=some 92) (v:=?_) (a':=?_) #[true,true,true,true,true,true,true,true,true,true,true,true,true,true,true,true,true,true,true,true,true,true,false,false,false,false,false] rfl rfl (any_of HT_.out (by kernel_rfl)) (fun _ _ _ h => h) (Or.inl ⟨by rfl,?_⟩) ?_ ?_
        rotate_left
        ·intro w'
         go_simp
         with_reducible rfl
        rotate_left
        ·simp only [Act.put,xA,xB,xC,i64_w,i32_w]
         rfl
        refine pure_ (i:=22) (N:=some 93) (v:=?_) (a':=?_) #[true,true,true,true,true,true,true,true,true,true,true,true,true,true,true,true,true,true,true,true,true,true,true,false,false,false,false] rfl rfl (any_of HT_.out (by kernel_rfl)) (fun _ _ _ h => h) (Or.inl ⟨by rfl,?_⟩) ?_ ?_
        rotate_left
        ·intro w'
         go_simp
         with_reducible rfl
        rotate_left
        ·simp only [Act.put,xA,xB,xC,i64_w,i32_w]
         rfl
        refine pure_ (i:=23) (N:=some 94) (v:=?_) (a':=?_) #[true,true,true,true,true,true,true,true,true,true,true,true,true,true,true,true,true,true,true,true,true,true,true,true,false,false,false] rfl rfl (any_of HT_.out (by kernel_rfl)) (fun _ _ _ h => h) (Or.inl ⟨by rfl,?_⟩) ?_ ?_
        rotate_left
        ·intro w'
         go_simp
         with_reducible rfl
        rotate_left
        ·simp only [Act.put,xA,xB,xC,i64_w,i32_w]
         rfl
        refine one_ (i:=24) (N:=some 95) #[true,true,true,true,true,true,true,true,true,true,true,true,true,true,true,true,true,true,true,true,true,true,true,true,true,false,false] rfl rfl (one_of HT_.out (by kernel_rfl)) (by decide) (fun K hK => ?_)
        refine goes_ Try.func8 (by kernel_rfl) rfl #[] (by rfl) rfl rfl (by (try simp only [List.map_toArray,List.map_cons,List.map_nil]);first|done|rfl|(simp only [List.length_drop,List.length_take];rfl)) ?_
        with_reducible refine (beaconlaw12_awake.calls kj4  t201 _ A70.out).mono ?_
        rintro e w91 ⟨rfl,hb⟩
        refine ⟨_,rfl,?_⟩
        have n0_:=Aside0.mk (bB (by (with_reducible repeat first|apply bN|apply bD|apply bA);exact K168.1) hb)
        have n1_:=Aside0.mk (bB (by (with_reducible repeat first|apply bN|apply bD|apply bA);exact K176.1) hb)
        have n2_:=Aside0.mk (bB (by (with_reducible repeat first|apply bN|apply bD|apply bA);exact K184.1) hb)
        have n3_:=Aside0.mk (bB (by (with_reducible repeat first|apply bN|apply bD|apply bA);exact K190.1) hb)
        have n4_:=Aside0.mk (bB (by (with_reducible repeat first|apply bN|apply bD|apply bA);exact K196.1) hb)
        have n5_:=Aside0.mk (below_step (by repeat (first|(with_reducible first|exact HB.1|apply bwA|apply bwN|apply bw1|refine bS ?_ GE168.1|refine bS ?_ GE176.1|refine bS ?_ GE184.1|refine bS ?_ GE190.1|refine bS ?_ GE196.1)|exact HB.1)) hb)
        clear K168
        clear K176
        clear K184
        clear K190
        clear K196
        clear HB
        have K168:=n0_
        have K176:=n1_
        have K184:=n2_
        have K190:=n3_
        have K196:=n4_
        have HB:=n5_
        clear n0_ n1_ n2_ n3_ n4_ n5_
        (try clear hb)
        (try clear hb2)
        (try clear hk)
        (try clear hi)
        refine hK.out _ _ ⟨(bC K168.1 0).trans rfl,(bC K168.1 1).trans rfl,(bC K168.1 2).trans rfl,(bC K168.1 3).trans rfl,(bC K168.1 4).trans rfl,(bC K168.1 5).trans rfl,(bC K168.1 6).trans rfl,(bC K176.1 0).trans rfl,(bC K176.1 1).trans rfl,(bC K176.1 2).trans rfl,(bC K176.1 3).trans rfl,(bC K176.1 4).trans rfl,(bC K176.1 5).trans rfl,(bC K176.1 6).trans rfl,(bC K190.1 0).trans rfl,(bC K190.1 1).trans rfl,(bC K190.1 2).trans rfl,(bC K190.1 3).trans rfl,(bC K196.1 0).trans rfl,(bC K196.1 1).trans rfl,(bC K196.1 2).trans rfl,(bC K196.1 3).trans rfl⟩ (fun hHeld => ?_)
        clear hK K
        refine norm_ (a':=?_) ?_ ?_
        rotate_left
        ·show Act.put _ (some 95) _ = _
         simp only [Act.put,xA,xB,xC,i64_w,i32_w]
         rfl
        refine pure_ (i:=25) (N:=some 96) (v:=?_) (a':=?_) #[true,true,true,true,true,true,true,true,true,true,true,true,true,true,true,true,true,true,true,true,true,true,true,true,true,true,false] rfl rfl (any_of HT_.out (by kernel_rfl)) (fun _ _ _ h => h) (Or.inl ⟨by rfl,?_⟩) ?_ ?_
        rotate_left
        ·intro w'
         go_simp
         with_reducible rfl
        rotate_left
        ·simp only [Act.put,xA,xB,xC,i64_w,i32_w]
         rfl
        refine pure_ (i:=26) (N:=some 4) (v:=?_) (a':=?_) #[true,true,true,true,true,true,true,true,true,true,true,true,true,true,true,true,true,true,true,true,true,true,true,true,true,true,true] rfl rfl (any_of HT_.out (by kernel_rfl)) (fun _ _ _ h => h) (Or.inl ⟨by rfl,?_⟩) ?_ ?_
        rotate_left
        ·intro w'
         go_simp
         with_reducible rfl
        rotate_left
        ·simp only [Act.put,xA,xB,xC,i64_w,i32_w]
         rfl
        refine done_ (done_of HT_.out (by kernel_rfl)) ?_
        try go_wp2
        go_ret
        exact ⟨by first|rfl|(simp [errW_none,errW_some] <;> rfl)|(simp [*,errW_none,errW_some] <;> rfl),by repeat (first|(with_reducible first|exact HB.1|apply bwA|apply bwN|apply bw1|refine bS ?_ GE168.1|refine bS ?_ GE176.1|refine bS ?_ GE184.1|refine bS ?_ GE190.1|refine bS ?_ GE196.1)|exact HB.1)⟩
       ·rw [if_neg c69] at H
        have c69b0 : (t189 == t195) = false:=beq_eq_false_iff_ne.mpr c69
        have c69b1 : (t189 != t195) = true:=bne_iff_ne.mpr c69
        obtain rfl:=Option.some.inj H
        try go_wp2_with (first|((with_reducible refine gate_callee (f:=7) rfl ?_);refine goesL_ (some 63) rfl rfl Try.func7 (by kernel_rfl) rfl #[.int .u64 a1] rfl (by (try simp only [List.map_toArray,List.map_cons,List.map_nil]);first|done|rfl|(simp only [List.length_drop,List.length_take];rfl)) ?_;(with_reducible refine (session_New.calls a1 t185 t186 t187 t188 t189 _ A59.out).mono ?_);rintro e w92 ⟨rfl,hb⟩;refine ⟨_,rfl,?_⟩;have n0_:=Aside0.mk (bB (by (with_reducible repeat first|apply bN|apply bD|apply bA);exact K168.1) hb);have n1_:=Aside0.mk (bB (by (with_reducible repeat first|apply bN|apply bD|apply bA);exact K176.1) hb);have n2_:=Aside0.mk (bB (by (with_reducible repeat first|apply bN|apply bD|apply bA);exact K184.1) hb);have n3_:=Aside0.mk (below_step (by repeat (first|(with_reducible first|exact HB.1|apply bwA|apply bwN|apply bw1|refine bS ?_ GE168.1|refine bS ?_ GE176.1|refine bS ?_ GE184.1)|exact HB.1)) hb);clear K168;clear K176;clear K184;clear HB;have K168:=n0_;have K176:=n1_;have K184:=n2_;have HB:=n3_;clear n0_ n1_ n2_ n3_;(try clear hb);(try clear hb2);(try clear hk);(try clear hi))|((with_reducible refine gate_dst (N:=8) rfl ?_);refine box_event ?hg (N:=8) ?hd (cs:=#[.int .u64 0,.int .u64 0,.bool false,.int .i64 0]) (t:=26) ?hr ?_;(case hd => rfl);(case hg => rfl);(case hr => first|(go_simp;done)|(go_simp;rfl));intro G190 hg w93 hbox hb;have n0_:=Aside0.mk (bB (by (with_reducible repeat first|apply bN|apply bD|apply bA);exact K168.1) hb);have n1_:=Aside0.mk (bB (by (with_reducible repeat first|apply bN|apply bD|apply bA);exact K176.1) hb);have n2_:=Aside0.mk (bB (by (with_reducible repeat first|apply bN|apply bD|apply bA);exact K184.1) hb);have n3_:=Aside0.mk (below_step (by repeat (first|(with_reducible first|exact HB.1|apply bwA|apply bwN|apply bw1|refine bS ?_ GE168.1|refine bS ?_ GE176.1|refine bS ?_ GE184.1)|exact HB.1)) hb);have n4_:=Aside0.mk (hbox);have n5_:=Aside0.mk ((by rw [hg];exact (below_size (by repeat (first|(with_reducible first|exact HB.1|apply bwA|apply bwN|apply bw1|refine bS ?_ GE168.1|refine bS ?_ GE176.1|refine bS ?_ GE184.1)|exact HB.1))) : w.heap.size ≤ G190));have n6_:=Aside0.mk ((by rw [hg];exact (below_size (by repeat (first|(with_reducible first|exact HB.1|apply bwA|apply bwN|apply bw1|refine bS ?_ GE168.1|refine bS ?_ GE176.1|refine bS ?_ GE184.1)|exact HB.1))) : w.heap.size ≤ G190));have n7_:=Aside0.mk ((by rw [hg];exact Nat.ne_of_lt (blk_lt (g:=G168) (by (with_reducible repeat first|apply bN|apply bD|apply bA);exact K168.1)) : G168 ≠ G190));have n8_:=Aside0.mk ((by rw [hg];exact Nat.ne_of_gt (blk_lt (g:=G168) (by (with_reducible repeat first|apply bN|apply bD|apply bA);exact K168.1)) : G190 ≠ G168));have n9_:=Aside0.mk ((by rw [hg];exact Nat.ne_of_lt (blk_lt (g:=G176) (by (with_reducible repeat first|apply bN|apply bD|apply bA);exact K176.1)) : G176 ≠ G190));have n10_:=Aside0.mk ((by rw [hg];exact Nat.ne_of_gt (blk_lt (g:=G176) (by (with_reducible repeat first|apply bN|apply bD|apply bA);exact K176.1)) : G190 ≠ G176));have n11_:=Aside0.mk ((by rw [hg];exact Nat.ne_of_lt (blk_lt (g:=G184) (by (with_reducible repeat first|apply bN|apply bD|apply bA);exact K184.1)) : G184 ≠ G190));have n12_:=Aside0.mk ((by rw [hg];exact Nat.ne_of_gt (blk_lt (g:=G184) (by (with_reducible repeat first|apply bN|apply bD|apply bA);exact K184.1)) : G190 ≠ G184));clear K168;clear K176;clear K184;clear HB;have K168:=n0_;have K176:=n1_;have K184:=n2_;have HB:=n3_;have K190:=n4_;have GW190:=n5_;have GE190:=n6_;have NB168_190:=n7_;have NB190_168:=n8_;have NB176_190:=n9_;have NB190_176:=n10_;have NB184_190:=n11_;have NB190_184:=n12_;clear n0_ n1_ n2_ n3_ n4_ n5_ n6_ n7_ n8_ n9_ n10_ n11_ n12_;clear hb hbox hg;have hnb94:=NB190_168.1;have hnc94:=NB168_190.1;have hnb95:=NB190_176.1;have hnc95:=NB176_190.1;have hnb96:=NB190_184.1;have hnc96:=NB184_190.1;have hcz97_0 : w93.cell? ⟨G190,0,none⟩ = some (.int .u64 0):=(bC K190.1 0).trans rfl;have hcz97_1 : w93.cell? ⟨G190,1,none⟩ = some (.int .u64 0):=(bC K190.1 1).trans rfl;have hcz97_2 : w93.cell? ⟨G190,2,none⟩ = some (.bool false):=(bC K190.1 2).trans rfl;have hcz97_3 : w93.cell? ⟨G190,3,none⟩ = some (.int .i64 0):=(bC K190.1 3).trans rfl;have hfz97_0:=bF K190.1 0;have hfz97_1:=bF K190.1 1;have hfz97_2:=bF K190.1 2;have hfz97_3:=bF K190.1 3)|((with_reducible refine gate_store (t:=26) (p:=8) rfl ?_);refine store_event (t:=26) (p:=8) (v:=?vo_w98) (w1:=((((w93.setCell ⟨G190,0,none⟩ (.int .u64 t185)).setCell ⟨G190,1,none⟩ (.int .u64 t186)).setCell ⟨G190,2,none⟩ (.bool t187)).setCell ⟨G190,3,none⟩ (.int .i64 t188))) ?hg ?ho ?hn ?hr ?_;(case ho => rfl);(case hg => rfl);(case hn => rfl);(case hr => first|(go_simp;done)|(go_simp;rfl));intro w98 hw;have n0_ : Aside0 (w98.heap[G168]? = some (.cells #[.float .f64 a0_0,.int .i64 a0_1,.int .i64 a0_2,.int .i64 a0_3,.int .i64 a0_4,.int .i64 a0_5,.int .i64 a0_6] 54 (0,0))):=⟨(by rw [hw];exact (by (with_reducible repeat first|apply bN|apply bD|apply bA);refine bZ ?_ NB168_190.1 _;(with_reducible repeat first|apply bN|apply bD|apply bA);refine bZ ?_ NB168_190.1 _;(with_reducible repeat first|apply bN|apply bD|apply bA);refine bZ ?_ NB168_190.1 _;(with_reducible repeat first|apply bN|apply bD|apply bA);refine bZ ?_ NB168_190.1 _;(with_reducible repeat first|apply bN|apply bD|apply bA);exact K168.1))⟩;have n1_ : Aside0 (w98.heap[G176]? = some (.cells #[.float .f64 t169,.int .i64 t170,.int .i64 t171,.int .i64 t172,.int .i64 t173,.int .i64 t174,.int .i64 t175] 54 (0,0))):=⟨(by rw [hw];exact (by (with_reducible repeat first|apply bN|apply bD|apply bA);refine bZ ?_ NB176_190.1 _;(with_reducible repeat first|apply bN|apply bD|apply bA);refine bZ ?_ NB176_190.1 _;(with_reducible repeat first|apply bN|apply bD|apply bA);refine bZ ?_ NB176_190.1 _;(with_reducible repeat first|apply bN|apply bD|apply bA);refine bZ ?_ NB176_190.1 _;(with_reducible repeat first|apply bN|apply bD|apply bA);exact K176.1))⟩;have n2_ : Aside0 (w98.heap[G184]? = some (.cells #[.float .f64 t177,.int .i64 t178,.int .i64 t179,.int .i64 t180,.int .i64 t181,.int .i64 t182,.int .i64 t183] 54 (0,0))):=⟨(by rw [hw];exact (by (with_reducible repeat first|apply bN|apply bD|apply bA);refine bZ ?_ NB184_190.1 _;(with_reducible repeat first|apply bN|apply bD|apply bA);refine bZ ?_ NB184_190.1 _;(with_reducible repeat first|apply bN|apply bD|apply bA);refine bZ ?_ NB184_190.1 _;(with_reducible repeat first|apply bN|apply bD|apply bA);refine bZ ?_ NB184_190.1 _;(with_reducible repeat first|apply bN|apply bD|apply bA);exact K184.1))⟩;have n3_ : Aside0 (w98.heap[G190]? = some (.cells #[.int .u64 t185,.int .u64 t186,.bool t187,.int .i64 t188] 26 (0,0))):=⟨(by rw [hw];exact (by (with_reducible repeat first|apply bN|apply bD|apply bA);refine blk_put (cs:=#[.int .u64 t185,.int .u64 t186,.bool t187,.int .i64 0]) ?_ 3 _ rfl;(with_reducible repeat first|apply bN|apply bD|apply bA);refine blk_put (cs:=#[.int .u64 t185,.int .u64 t186,.bool false,.int .i64 0]) ?_ 2 _ rfl;(with_reducible repeat first|apply bN|apply bD|apply bA);refine blk_put (cs:=#[.int .u64 t185,.int .u64 0,.bool false,.int .i64 0]) ?_ 1 _ rfl;(with_reducible repeat first|apply bN|apply bD|apply bA);refine blk_put (cs:=#[.int .u64 0,.int .u64 0,.bool false,.int .i64 0]) ?_ 0 _ rfl;(with_reducible repeat first|apply bN|apply bD|apply bA);exact K190.1))⟩;have n4_ : Aside0 (Below w.heap.size w w98):=⟨(by rw [hw];exact (by repeat (first|(with_reducible first|exact HB.1|apply bwA|apply bwN|apply bw1|refine bS ?_ GE168.1|refine bS ?_ GE176.1|refine bS ?_ GE184.1|refine bS ?_ GE190.1)|exact HB.1)))⟩;clear hw;clear K168;clear K176;clear K184;clear K190;clear HB;have K168:=n0_;have K176:=n1_;have K184:=n2_;have K190:=n3_;have HB:=n4_;clear n0_ n1_ n2_ n3_ n4_)|((with_reducible refine gate_callee (f:=24) rfl ?_);refine goesL_ (some 68) rfl rfl Try.func24 (by kernel_rfl) rfl #[.int .u64 a1] rfl (by (try simp only [List.map_toArray,List.map_cons,List.map_nil]);first|done|rfl|(simp only [List.length_drop,List.length_take];rfl)) ?_;(with_reducible refine (beaconref12_New.calls a1 t191 t192 t193 t194 t195 _ A60.out).mono ?_);rintro e w99 ⟨rfl,hb⟩;refine ⟨_,rfl,?_⟩;have n0_:=Aside0.mk (bB (by (with_reducible repeat first|apply bN|apply bD|apply bA);exact K168.1) hb);have n1_:=Aside0.mk (bB (by (with_reducible repeat first|apply bN|apply bD|apply bA);exact K176.1) hb);have n2_:=Aside0.mk (bB (by (with_reducible repeat first|apply bN|apply bD|apply bA);exact K184.1) hb);have n3_:=Aside0.mk (bB (by (with_reducible repeat first|apply bN|apply bD|apply bA);exact K190.1) hb);have n4_:=Aside0.mk (below_step (by repeat (first|(with_reducible first|exact HB.1|apply bwA|apply bwN|apply bw1|refine bS ?_ GE168.1|refine bS ?_ GE176.1|refine bS ?_ GE184.1|refine bS ?_ GE190.1)|exact HB.1)) hb);clear K168;clear K176;clear K184;clear K190;clear HB;have K168:=n0_;have K176:=n1_;have K184:=n2_;have K190:=n3_;have HB:=n4_;clear n0_ n1_ n2_ n3_ n4_;(try clear hb);(try clear hb2);(try clear hk);(try clear hi))|((with_reducible refine gate_dst (N:=10) rfl ?_);refine box_event ?hg (N:=10) ?hd (cs:=#[.int .u64 0,.int .u64 0,.bool false,.int .i64 0]) (t:=26) ?hr ?_;(case hd => rfl);(case hg => rfl);(case hr => first|(go_simp;done)|(go_simp;rfl));intro G196 hg w100 hbox hb;have n0_:=Aside0.mk (bB (by (with_reducible repeat first|apply bN|apply bD|apply bA);exact K168.1) hb);have n1_:=Aside0.mk (bB (by (with_reducible repeat first|apply bN|apply bD|apply bA);exact K176.1) hb);have n2_:=Aside0.mk (bB (by (with_reducible repeat first|apply bN|apply bD|apply bA);exact K184.1) hb);have n3_:=Aside0.mk (bB (by (with_reducible repeat first|apply bN|apply bD|apply bA);exact K190.1) hb);have n4_:=Aside0.mk (below_step (by repeat (first|(with_reducible first|exact HB.1|apply bwA|apply bwN|apply bw1|refine bS ?_ GE168.1|refine bS ?_ GE176.1|refine bS ?_ GE184.1|refine bS ?_ GE190.1)|exact HB.1)) hb);have n5_:=Aside0.mk (hbox);have n6_:=Aside0.mk ((by rw [hg];exact (below_size (by repeat (first|(with_reducible first|exact HB.1|apply bwA|apply bwN|apply bw1|refine bS ?_ GE168.1|refine bS ?_ GE176.1|refine bS ?_ GE184.1|refine bS ?_ GE190.1)|exact HB.1))) : w.heap.size ≤ G196));have n7_:=Aside0.mk ((by rw [hg];exact (below_size (by repeat (first|(with_reducible first|exact HB.1|apply bwA|apply bwN|apply bw1|refine bS ?_ GE168.1|refine bS ?_ GE176.1|refine bS ?_ GE184.1|refine bS ?_ GE190.1)|exact HB.1))) : w.heap.size ≤ G196));have n8_:=Aside0.mk ((by rw [hg];exact Nat.ne_of_lt (blk_lt (g:=G168) (by (with_reducible repeat first|apply bN|apply bD|apply bA);exact K168.1)) : G168 ≠ G196));have n9_:=Aside0.mk ((by rw [hg];exact Nat.ne_of_gt (blk_lt (g:=G168) (by (with_reducible repeat first|apply bN|apply bD|apply bA);exact K168.1)) : G196 ≠ G168));have n10_:=Aside0.mk ((by rw [hg];exact Nat.ne_of_lt (blk_lt (g:=G176) (by (with_reducible repeat first|apply bN|apply bD|apply bA);exact K176.1)) : G176 ≠ G196));have n11_:=Aside0.mk ((by rw [hg];exact Nat.ne_of_gt (blk_lt (g:=G176) (by (with_reducible repeat first|apply bN|apply bD|apply bA);exact K176.1)) : G196 ≠ G176));have n12_:=Aside0.mk ((by rw [hg];exact Nat.ne_of_lt (blk_lt (g:=G184) (by (with_reducible repeat first|apply bN|apply bD|apply bA);exact K184.1)) : G184 ≠ G196));have n13_:=Aside0.mk ((by rw [hg];exact Nat.ne_of_gt (blk_lt (g:=G184) (by (with_reducible repeat first|apply bN|apply bD|apply bA);exact K184.1)) : G196 ≠ G184));have n14_:=Aside0.mk ((by rw [hg];exact Nat.ne_of_lt (blk_lt (g:=G190) (by (with_reducible repeat first|apply bN|apply bD|apply bA);exact K190.1)) : G190 ≠ G196));have n15_:=Aside0.mk ((by rw [hg];exact Nat.ne_of_gt (blk_lt (g:=G190) (by (with_reducible repeat first|apply bN|apply bD|apply bA);exact K190.1)) : G196 ≠ G190));clear K168;clear K176;clear K184;clear K190;clear HB;have K168:=n0_;have K176:=n1_;have K184:=n2_;have K190:=n3_;have HB:=n4_;have K196:=n5_;have GW196:=n6_;have GE196:=n7_;have NB168_196:=n8_;have NB196_168:=n9_;have NB176_196:=n10_;have NB196_176:=n11_;have NB184_196:=n12_;have NB196_184:=n13_;have NB190_196:=n14_;have NB196_190:=n15_;clear n0_ n1_ n2_ n3_ n4_ n5_ n6_ n7_ n8_ n9_ n10_ n11_ n12_ n13_ n14_ n15_;clear hb hbox hg;have hnb101:=NB196_168.1;have hnc101:=NB168_196.1;have hnb102:=NB196_176.1;have hnc102:=NB176_196.1;have hnb103:=NB196_184.1;have hnc103:=NB184_196.1;have hnb104:=NB196_190.1;have hnc104:=NB190_196.1;have hcz105_0 : w100.cell? ⟨G196,0,none⟩ = some (.int .u64 0):=(bC K196.1 0).trans rfl;have hcz105_1 : w100.cell? ⟨G196,1,none⟩ = some (.int .u64 0):=(bC K196.1 1).trans rfl;have hcz105_2 : w100.cell? ⟨G196,2,none⟩ = some (.bool false):=(bC K196.1 2).trans rfl;have hcz105_3 : w100.cell? ⟨G196,3,none⟩ = some (.int .i64 0):=(bC K196.1 3).trans rfl;have hfz105_0:=bF K196.1 0;have hfz105_1:=bF K196.1 1;have hfz105_2:=bF K196.1 2;have hfz105_3:=bF K196.1 3)|((with_reducible refine gate_store (t:=26) (p:=10) rfl ?_);refine store_event (t:=26) (p:=10) (v:=?vo_w106) (w1:=((((w100.setCell ⟨G196,0,none⟩ (.int .u64 t191)).setCell ⟨G196,1,none⟩ (.int .u64 t192)).setCell ⟨G196,2,none⟩ (.bool t193)).setCell ⟨G196,3,none⟩ (.int .i64 t194))) ?hg ?ho ?hn ?hr ?_;(case ho => rfl);(case hg => rfl);(case hn => rfl);(case hr => first|(go_simp;done)|(go_simp;rfl));intro w106 hw;have n0_ : Aside0 (w106.heap[G168]? = some (.cells #[.float .f64 a0_0,.int .i64 a0_1,.int .i64 a0_2,.int .i64 a0_3,.int .i64 a0_4,.int .i64 a0_5,.int .i64 a0_6] 54 (0,0))):=⟨(by rw [hw];exact (by (with_reducible repeat first|apply bN|apply bD|apply bA);refine bZ ?_ NB168_196.1 _;(with_reducible repeat first|apply bN|apply bD|apply bA);refine bZ ?_ NB168_196.1 _;(with_reducible repeat first|apply bN|apply bD|apply bA);refine bZ ?_ NB168_196.1 _;(with_reducible repeat first|apply bN|apply bD|apply bA);refine bZ ?_ NB168_196.1 _;(with_reducible repeat first|apply bN|apply bD|apply bA);exact K168.1))⟩;have n1_ : Aside0 (w106.heap[G176]? = some (.cells #[.float .f64 t169,.int .i64 t170,.int .i64 t171,.int .i64 t172,.int .i64 t173,.int .i64 t174,.int .i64 t175] 54 (0,0))):=⟨(by rw [hw];exact (by (with_reducible repeat first|apply bN|apply bD|apply bA);refine bZ ?_ NB176_196.1 _;(with_reducible repeat first|apply bN|apply bD|apply bA);refine bZ ?_ NB176_196.1 _;(with_reducible repeat first|apply bN|apply bD|apply bA);refine bZ ?_ NB176_196.1 _;(with_reducible repeat first|apply bN|apply bD|apply bA);refine bZ ?_ NB176_196.1 _;(with_reducible repeat first|apply bN|apply bD|apply bA);exact K176.1))⟩;have n2_ : Aside0 (w106.heap[G184]? = some (.cells #[.float .f64 t177,.int .i64 t178,.int .i64 t179,.int .i64 t180,.int .i64 t181,.int .i64 t182,.int .i64 t183] 54 (0,0))):=⟨(by rw [hw];exact (by (with_reducible repeat first|apply bN|apply bD|apply bA);refine bZ ?_ NB184_196.1 _;(with_reducible repeat first|apply bN|apply bD|apply bA);refine bZ ?_ NB184_196.1 _;(with_reducible repeat first|apply bN|apply bD|apply bA);refine bZ ?_ NB184_196.1 _;(with_reducible repeat first|apply bN|apply bD|apply bA);refine bZ ?_ NB184_196.1 _;(with_reducible repeat first|apply bN|apply bD|apply bA);exact K184.1))⟩;have n3_ : Aside0 (w106.heap[G190]? = some (.cells #[.int .u64 t185,.int .u64 t186,.bool t187,.int .i64 t188] 26 (0,0))):=⟨(by rw [hw];exact (by (with_reducible repeat first|apply bN|apply bD|apply bA);refine bZ ?_ NB190_196.1 _;(with_reducible repeat first|apply bN|apply bD|apply bA);refine bZ ?_ NB190_196.1 _;(with_reducible repeat first|apply bN|apply bD|apply bA);refine bZ ?_ NB190_196.1 _;(with_reducible repeat first|apply bN|apply bD|apply bA);refine bZ ?_ NB190_196.1 _;(with_reducible repeat first|apply bN|apply bD|apply bA);exact K190.1))⟩;have n4_ : Aside0 (w106.heap[G196]? = some (.cells #[.int .u64 t191,.int .u64 t192,.bool t193,.int .i64 t194] 26 (0,0))):=⟨(by rw [hw];exact (by (with_reducible repeat first|apply bN|apply bD|apply bA);refine blk_put (cs:=#[.int .u64 t191,.int .u64 t192,.bool t193,.int .i64 0]) ?_ 3 _ rfl;(with_reducible repeat first|apply bN|apply bD|apply bA);refine blk_put (cs:=#[.int .u64 t191,.int .u64 t192,.bool false,.int .i64 0]) ?_ 2 _ rfl;(with_reducible repeat first|apply bN|apply bD|apply bA);refine blk_put (cs:=#[.int .u64 t191,.int .u64 0,.bool false,.int .i64 0]) ?_ 1 _ rfl;(with_reducible repeat first|apply bN|apply bD|apply bA);refine blk_put (cs:=#[.int .u64 0,.int .u64 0,.bool false,.int .i64 0]) ?_ 0 _ rfl;(with_reducible repeat first|apply bN|apply bD|apply bA);exact K196.1))⟩;have n5_ : Aside0 (Below w.heap.size w w106):=⟨(by rw [hw];exact (by repeat (first|(with_reducible first|exact HB.1|apply bwA|apply bwN|apply bw1|refine bS ?_ GE168.1|refine bS ?_ GE176.1|refine bS ?_ GE184.1|refine bS ?_ GE190.1|refine bS ?_ GE196.1)|exact HB.1)))⟩;clear hw;clear K168;clear K176;clear K184;clear K190;clear K196;clear HB;have K168:=n0_;have K176:=n1_;have K184:=n2_;have K190:=n3_;have K196:=n4_;have HB:=n5_;clear n0_ n1_ n2_ n3_ n4_ n5_))
        have n0_:=Aside0.mk (bD K168.1)
        have n1_:=Aside0.mk (bD K176.1)
        have n2_:=Aside0.mk (bD K184.1)
        have n3_:=Aside0.mk (bD K190.1)
        have n4_:=Aside0.mk (bD K196.1)
        have n5_:=Aside0.mk (bw1 HB.1)
        clear K168
        clear K176
        clear K184
        clear K190
        clear K196
        clear HB
        have K168:=n0_
        have K176:=n1_
        have K184:=n2_
        have K190:=n3_
        have K196:=n4_
        have HB:=n5_
        clear n0_ n1_ n2_ n3_ n4_ n5_
        refine start_ (n:=27) (S:=fun w' => w'.cell? ⟨G168,0,none⟩ = some (.float .f64 a0_0) ∧ w'.cell? ⟨G168,1,none⟩ = some (.int .i64 a0_1) ∧ w'.cell? ⟨G168,2,none⟩ = some (.int .i64 a0_2) ∧ w'.cell? ⟨G168,3,none⟩ = some (.int .i64 a0_3) ∧ w'.cell? ⟨G168,4,none⟩ = some (.int .i64 a0_4) ∧ w'.cell? ⟨G168,5,none⟩ = some (.int .i64 a0_5) ∧ w'.cell? ⟨G168,6,none⟩ = some (.int .i64 a0_6) ∧ w'.cell? ⟨G176,0,none⟩ = some (.float .f64 t169) ∧ w'.cell? ⟨G176,1,none⟩ = some (.int .i64 t170) ∧ w'.cell? ⟨G176,2,none⟩ = some (.int .i64 t171) ∧ w'.cell? ⟨G176,3,none⟩ = some (.int .i64 t172) ∧ w'.cell? ⟨G176,4,none⟩ = some (.int .i64 t173) ∧ w'.cell? ⟨G176,5,none⟩ = some (.int .i64 t174) ∧ w'.cell? ⟨G176,6,none⟩ = some (.int .i64 t175) ∧ w'.cell? ⟨G190,0,none⟩ = some (.int .u64 t185) ∧ w'.cell? ⟨G190,1,none⟩ = some (.int .u64 t186) ∧ w'.cell? ⟨G190,2,none⟩ = some (.bool t187) ∧ w'.cell? ⟨G190,3,none⟩ = some (.int .i64 t188) ∧ w'.cell? ⟨G196,0,none⟩ = some (.int .u64 t191) ∧ w'.cell? ⟨G196,1,none⟩ = some (.int .u64 t192) ∧ w'.cell? ⟨G196,2,none⟩ = some (.bool t193) ∧ w'.cell? ⟨G196,3,none⟩ = some (.int .i64 t194)) (ds:=[]) #[false,false,false,false,false,false,false,false,false,false,false,false,false,false,false,false,false,false,false,false,false,false,false,false,false,false,false] (by kernel_rfl) rfl rfl ⟨(bC K168.1 0).trans rfl,(bC K168.1 1).trans rfl,(bC K168.1 2).trans rfl,(bC K168.1 3).trans rfl,(bC K168.1 4).trans rfl,(bC K168.1 5).trans rfl,(bC K168.1 6).trans rfl,(bC K176.1 0).trans rfl,(bC K176.1 1).trans rfl,(bC K176.1 2).trans rfl,(bC K176.1 3).trans rfl,(bC K176.1 4).trans rfl,(bC K176.1 5).trans rfl,(bC K176.1 6).trans rfl,(bC K190.1 0).trans rfl,(bC K190.1 1).trans rfl,(bC K190.1 2).trans rfl,(bC K190.1 3).trans rfl,(bC K196.1 0).trans rfl,(bC K196.1 1).trans rfl,(bC K196.1 2).trans rfl,(bC K196.1 3).trans rfl⟩ (fun hHeld => ?_);refine with_tabW beaconlaw12_SessionChecks.tab6 beaconlaw12_SessionChecks.bits6 (fun HT_ HW_ => ?_)
        generalize w106.drew = w107 at K168 K176 K184 K190 K196 HB hHeld ⊢
        refine take_ (i:=0) (N:=some 71) (v:=?_) (a':=?_) #[true,false,false,false,false,false,false,false,false,false,false,false,false,false,false,false,false,false,false,false,false,false,false,false,false,false,false] rfl rfl (take_ofW HT_.out HW_.out (by kernel_rfl)) (fun _ _ _ h => h) (Or.inl ⟨by rfl,?_⟩) hHeld ?_ ?_
        rotate_left
        ·rintro w' ⟨s0,s1,s2,s3,s4,s5,s6,s7,s8,s9,s10,s11,s12,s13,s14,s15,s16,s17,s18,s19,s20,s21⟩
         go_simp
         with_reducible rfl
        rotate_left
        ·simp only [Act.put,xA,xB,xC,i64_w,i32_w]
         rfl
        refine take_ (i:=2) (N:=some 73) (v:=?_) (a':=?_) #[true,false,true,false,false,false,false,false,false,false,false,false,false,false,false,false,false,false,false,false,false,false,false,false,false,false,false] rfl rfl (take_ofW HT_.out HW_.out (by kernel_rfl)) (fun _ _ _ h => h) (Or.inl ⟨by rfl,?_⟩) hHeld ?_ ?_
        rotate_left
        ·rintro w' ⟨s0,s1,s2,s3,s4,s5,s6,s7,s8,s9,s10,s11,s12,s13,s14,s15,s16,s17,s18,s19,s20,s21⟩
         go_simp
         with_reducible rfl
        rotate_left
        ·simp only [Act.put,xA,xB,xC,i64_w,i32_w]
         rfl
        refine one_ (i:=1) (N:=some 72) #[true,true,true,false,false,false,false,false,false,false,false,false,false,false,false,false,false,false,false,false,false,false,false,false,false,false,false] rfl rfl (one_of HT_.out (by kernel_rfl)) (by decide) (fun K hK => ?_)
        refine goes_ Try.func25 (by kernel_rfl) rfl #[.agg #[.float .f64 a0_0,.int .i64 a0_1,.int .i64 a0_2,.int .i64 a0_3,.int .i64 a0_4,.int .i64 a0_5,.int .i64 a0_6]] (by rfl) rfl rfl (by (try simp only [List.map_toArray,List.map_cons,List.map_nil]);first|done|rfl|(simp only [List.length_drop,List.length_take];rfl)) ?_
        with_reducible refine (session_Check.calls kj4 a0_0 a0_1 a0_2 a0_3 a0_4 a0_5 a0_6 t197 _ A61.out).mono ?_
        rintro e w108 ⟨rfl,hb⟩
        refine ⟨_,rfl,?_⟩
        have n0_:=Aside0.mk (bB (by (with_reducible repeat first|apply bN|apply bD|apply bA);exact K168.1) hb)
        have n1_:=Aside0.mk (bB (by (with_reducible repeat first|apply bN|apply bD|apply bA);exact K176.1) hb)
        have n2_:=Aside0.mk (bB (by (with_reducible repeat first|apply bN|apply bD|apply bA);exact K184.1) hb)
        have n3_:=Aside0.mk (bB (by (with_reducible repeat first|apply bN|apply bD|apply bA);exact K190.1) hb)
        have n4_:=Aside0.mk (bB (by (with_reducible repeat first|apply bN|apply bD|apply bA);exact K196.1) hb)
        have n5_:=Aside0.mk (below_step (by repeat (first|(with_reducible first|exact HB.1|apply bwA|apply bwN|apply bw1|refine bS ?_ GE168.1|refine bS ?_ GE176.1|refine bS ?_ GE184.1|refine bS ?_ GE190.1|refine bS ?_ GE196.1)|exact HB.1)) hb)
        clear K168
        clear K176
        clear K184
        clear K190
        clear K196
        clear HB
        have K168:=n0_
        have K176:=n1_
        have K184:=n2_
        have K190:=n3_
        have K196:=n4_
        have HB:=n5_
        clear n0_ n1_ n2_ n3_ n4_ n5_
        (try clear hb)
        (try clear hb2)
        (try clear hk)
        (try clear hi)
        refine hK.out _ _ ⟨(bC K168.1 0).trans rfl,(bC K168.1 1).trans rfl,(bC K168.1 2).trans rfl,(bC K168.1 3).trans rfl,(bC K168.1 4).trans rfl,(bC K168.1 5).trans rfl,(bC K168.1 6).trans rfl,(bC K176.1 0).trans rfl,(bC K176.1 1).trans rfl,(bC K176.1 2).trans rfl,(bC K176.1 3).trans rfl,(bC K176.1 4).trans rfl,(bC K176.1 5).trans rfl,(bC K176.1 6).trans rfl,(bC K190.1 0).trans rfl,(bC K190.1 1).trans rfl,(bC K190.1 2).trans rfl,(bC K190.1 3).trans rfl,(bC K196.1 0).trans rfl,(bC K196.1 1).trans rfl,(bC K196.1 2).trans rfl,(bC K196.1 3).trans rfl⟩ (fun hHeld => ?_)
        clear hK K
        refine norm_ (a':=?_) ?_ ?_
        rotate_left
        ·show Act.put _ (some 72) _ = _
         simp only [Act.put,xA,xB,xC,i64_w,i32_w]
         rfl
        refine one_ (i:=3) (N:=some 74) #[true,true,true,true,false,false,false,false,false,false,false,false,false,false,false,false,false,false,false,false,false,false,false,false,false,false,false] rfl rfl (one_of HT_.out (by kernel_rfl)) (by decide) (fun K hK => ?_)
        refine goes_ Try.func26 (by kernel_rfl) rfl #[.agg #[.float .f64 a0_0,.int .i64 a0_1,.int .i64 a0_2,.int .i64 a0_3,.int .i64 a0_4,.int .i64 a0_5,.int .i64 a0_6]] (by rfl) rfl rfl (by (try simp only [List.map_toArray,List.map_cons,List.map_nil]);first|done|rfl|(simp only [List.length_drop,List.length_take];rfl)) ?_
        with_reducible refine (beaconref12_Check.calls kj4 a0_0 a0_1 a0_2 a0_3 a0_4 a0_5 a0_6 t198 _ A62.out).mono ?_
        rintro e w109 ⟨rfl,hb⟩
        refine ⟨_,rfl,?_⟩
        have n0_:=Aside0.mk (bB (by (with_reducible repeat first|apply bN|apply bD|apply bA);exact K168.1) hb)
        have n1_:=Aside0.mk (bB (by (with_reducible repeat first|apply bN|apply bD|apply bA);exact K176.1) hb)
        have n2_:=Aside0.mk (bB (by (with_reducible repeat first|apply bN|apply bD|apply bA);exact K184.1) hb)
        have n3_:=Aside0.mk (bB (by (with_reducible repeat first|apply bN|apply bD|apply bA);exact K190.1) hb)
        have n4_:=Aside0.mk (bB (by (with_reducible repeat first|apply bN|apply bD|apply bA);exact K196.1) hb)
        have n5_:=Aside0.mk (below_step (by repeat (first|(with_reducible first|exact HB.1|apply bwA|apply bwN|apply bw1|refine bS ?_ GE168.1|refine bS ?_ GE176.1|refine bS ?_ GE184.1|refine bS ?_ GE190.1|refine bS ?_ GE196.1)|exact HB.1)) hb)
        clear K168
        clear K176
        clear K184
        clear K190
        clear K196
        clear HB
        have K168:=n0_
        have K176:=n1_
        have K184:=n2_
        have K190:=n3_
        have K196:=n4_
        have HB:=n5_
        clear n0_ n1_ n2_ n3_ n4_ n5_
        (try clear hb)
        (try clear hb2)
        (try clear hk)
        (try clear hi)
        refine hK.out _ _ ⟨(bC K168.1 0).trans rfl,(bC K168.1 1).trans rfl,(bC K168.1 2).trans rfl,(bC K168.1 3).trans rfl,(bC K168.1 4).trans rfl,(bC K168.1 5).trans rfl,(bC K168.1 6).trans rfl,(bC K176.1 0).trans rfl,(bC K176.1 1).trans rfl,(bC K176.1 2).trans rfl,(bC K176.1 3).trans rfl,(bC K176.1 4).trans rfl,(bC K176.1 5).trans rfl,(bC K176.1 6).trans rfl,(bC K190.1 0).trans rfl,(bC K190.1 1).trans rfl,(bC K190.1 2).trans rfl,(bC K190.1 3).trans rfl,(bC K196.1 0).trans rfl,(bC K196.1 1).trans rfl,(bC K196.1 2).trans rfl,(bC K196.1 3).trans rfl⟩ (fun hHeld => ?_)
        clear hK K
        refine norm_ (a':=?_) ?_ ?_
        rotate_left
        ·show Act.put _ (some 74) _ = _
         simp only [Act.put,xA,xB,xC,i64_w,i32_w]
         rfl
        refine pure_ (i:=4) (N:=some 75) (v:=?_) (a':=?_) #[true,true,true,true,true,false,false,false,false,false,false,false,false,false,false,false,false,false,false,false,false,false,false,false,false,false,false] rfl rfl (any_of HT_.out (by kernel_rfl)) (fun _ _ _ h => h) (Or.inl ⟨by rfl,?_⟩) ?_ ?_
        rotate_left
        ·intro w'
         go_simp
         with_reducible rfl
        rotate_left
        ·simp only [Act.put,xA,xB,xC,i64_w,i32_w]
         rfl
        refine pure_ (i:=5) (N:=some 76) (v:=?_) (a':=?_) #[true,true,true,true,true,true,false,false,false,false,false,false,false,false,false,false,false,false,false,false,false,false,false,false,false,false,false] rfl rfl (any_of HT_.out (by kernel_rfl)) (fun _ _ _ h => h) (Or.inl ⟨by rfl,?_⟩) ?_ ?_
        rotate_left
        ·intro w'
         go_simp
         with_reducible rfl
        rotate_left
        ·simp only [Act.put,xA,xB,xC,i64_w,i32_w]
         rfl
        refine pure_ (i:=6) (N:=some 77) (v:=?_) (a':=?_) #[true,true,true,true,true,true,true,false,false,false,false,false,false,false,false,false,false,false,false,false,false,false,false,false,false,false,false] rfl rfl (any_of HT_.out (by kernel_rfl)) (fun _ _ _ h => h) (Or.inl ⟨by rfl,?_⟩) ?_ ?_
        rotate_left
        ·intro w'
         go_simp
         with_reducible rfl
        rotate_left
        ·simp only [Act.put,xA,xB,xC,i64_w,i32_w]
         rfl
        refine pure_ (i:=7) (N:=some 78) (v:=?_) (a':=?_) #[true,true,true,true,true,true,true,true,false,false,false,false,false,false,false,false,false,false,false,false,false,false,false,false,false,false,false] rfl rfl (any_of HT_.out (by kernel_rfl)) (fun _ _ _ h => h) (Or.inl ⟨by rfl,?_⟩) ?_ ?_
        rotate_left
        ·intro w'
         go_simp
         with_reducible rfl
        rotate_left
        ·simp only [Act.put,xA,xB,xC,i64_w,i32_w]
         rfl
        refine pure_ (i:=8) (N:=some 79) (v:=?_) (a':=?_) #[true,true,true,true,true,true,true,true,true,false,false,false,false,false,false,false,false,false,false,false,false,false,false,false,false,false,false] rfl rfl (any_of HT_.out (by kernel_rfl)) (fun _ _ _ h => h) (Or.inl ⟨by rfl,?_⟩) ?_ ?_
        rotate_left
        ·intro w'
         go_simp
         with_reducible rfl
        rotate_left
        ·simp only [Act.put,xA,xB,xC,i64_w,i32_w]
         rfl
        refine take_ (i:=9) (N:=some 80) (v:=?_) (a':=?_) #[true,true,true,true,true,true,true,true,true,true,false,false,false,false,false,false,false,false,false,false,false,false,false,false,false,false,false] rfl rfl (take_ofW HT_.out HW_.out (by kernel_rfl)) (fun _ _ _ h => h) (Or.inl ⟨by rfl,?_⟩) hHeld ?_ ?_
        rotate_left
        ·rintro w' ⟨s0,s1,s2,s3,s4,s5,s6,s7,s8,s9,s10,s11,s12,s13,s14,s15,s16,s17,s18,s19,s20,s21⟩
         go_simp
         with_reducible rfl
        rotate_left
        ·simp only [Act.put,xA,xB,xC,i64_w,i32_w]
         rfl
        refine one_ (i:=10) (N:=some 81) #[true,true,true,true,true,true,true,true,true,true,true,false,false,false,false,false,false,false,false,false,false,false,false,false,false,false,false] rfl rfl (one_of HT_.out (by kernel_rfl)) (by decide) (fun K hK => ?_)
        refine goes_ Try.func25 (by kernel_rfl) rfl #[.agg #[.float .f64 t169,.int .i64 t170,.int .i64 t171,.int .i64 t172,.int .i64 t173,.int .i64 t174,.int .i64 t175]] (by rfl) rfl rfl (by (try simp only [List.map_toArray,List.map_cons,List.map_nil]);first|done|rfl|(simp only [List.length_drop,List.length_take];rfl)) ?_
        with_reducible refine (session_Check.calls kj4 t169 t170 t171 t172 t173 t174 t175 t199 _ A65.out).mono ?_
        rintro e w110 ⟨rfl,hb⟩
        refine ⟨_,rfl,?_⟩
        have n0_:=Aside0.mk (bB (by (with_reducible repeat first|apply bN|apply bD|apply bA);exact K168.1) hb)
        have n1_:=Aside0.mk (bB (by (with_reducible repeat first|apply bN|apply bD|apply bA);exact K176.1) hb)
        have n2_:=Aside0.mk (bB (by (with_reducible repeat first|apply bN|apply bD|apply bA);exact K184.1) hb)
        have n3_:=Aside0.mk (bB (by (with_reducible repeat first|apply bN|apply bD|apply bA);exact K190.1) hb)
        have n4_:=Aside0.mk (bB (by (with_reducible repeat first|apply bN|apply bD|apply bA);exact K196.1) hb)
        have n5_:=Aside0.mk (below_step (by repeat (first|(with_reducible first|exact HB.1|apply bwA|apply bwN|apply bw1|refine bS ?_ GE168.1|refine bS ?_ GE176.1|refine bS ?_ GE184.1|refine bS ?_ GE190.1|refine bS ?_ GE196.1)|exact HB.1)) hb)
        clear K168
        clear K176
        clear K184
        clear K190
        clear K196
        clear HB
        have K168:=n0_
        have K176:=n1_
        have K184:=n2_
        have K190:=n3_
        have K196:=n4_
        have HB:=n5_
        clear n0_ n1_ n2_ n3_ n4_ n5_
        (try clear hb)
        (try clear hb2)
        (try clear hk)
        (try clear hi)
        refine hK.out _ _ ⟨(bC K168.1 0).trans rfl,(bC K168.1 1).trans rfl,(bC K168.1 2).trans rfl,(bC K168.1 3).trans rfl,(bC K168.1 4).trans rfl,(bC K168.1 5).trans rfl,(bC K168.1 6).trans rfl,(bC K176.1 0).trans rfl,(bC K176.1 1).trans rfl,(bC K176.1 2).trans rfl,(bC K176.1 3).trans rfl,(bC K176.1 4).trans rfl,(bC K176.1 5).trans rfl,(bC K176.1 6).trans rfl,(bC K190.1 0).trans rfl,(bC K190.1 1).trans rfl,(bC K190.1 2).trans rfl,(bC K190.1 3).trans rfl,(bC K196.1 0).trans rfl,(bC K196.1 1).trans rfl,(bC K196.1 2).trans rfl,(bC K196.1 3).trans rfl⟩ (fun hHeld => ?_)
        clear hK K
        refine norm_ (a':=?_) ?_ ?_
        rotate_left
        ·show Act.put _ (some 81) _ = _
         simp only [Act.put,xA,xB,xC,i64_w,i32_w]
         rfl
        refine pure_ (i:=11) (N:=some 82) (v:=?_) (a':=?_) #[true,true,true,true,true,true,true,true,true,true,true,true,false,false,false,false,false,false,false,false,false,false,false,false,false,false,false] rfl rfl (any_of HT_.out (by kernel_rfl)) (fun _ _ _ h => h) (Or.inl ⟨by rfl,?_⟩) ?_ ?_
        rotate_left
        ·intro w'
         go_simp
         with_reducible rfl
        rotate_left
        ·simp only [Act.put,xA,xB,xC,i64_w,i32_w]
         rfl
        refine pure_ (i:=12) (N:=some 83) (v:=?_) (a':=?_) #[true,true,true,true,true,true,true,true,true,true,true,true,true,false,false,false,false,false,false,false,false,false,false,false,false,false,false] rfl rfl (any_of HT_.out (by kernel_rfl)) (fun _ _ _ h => h) (Or.inl ⟨by rfl,?_⟩) ?_ ?_
        rotate_left
        ·intro w'
         go_simp
         with_reducible rfl
        rotate_left
        ·simp only [Act.put,xA,xB,xC,i64_w,i32_w]
         rfl
        refine pure_ (i:=13) (N:=some 84) (v:=?_) (a':=?_) #[true,true,true,true,true,true,true,true,true,true,true,true,true,true,false,false,false,false,false,false,false,false,false,false,false,false,false] rfl rfl (any_of HT_.out (by kernel_rfl)) (fun _ _ _ h => h) (Or.inl ⟨by rfl,?_⟩) ?_ ?_
        rotate_left
        ·intro w'
         go_simp
         with_reducible rfl
        rotate_left
        ·simp only [Act.put,xA,xB,xC,i64_w,i32_w]
         rfl
        refine take_ (i:=14) (N:=some 85) (v:=?_) (a':=?_) #[true,true,true,true,true,true,true,true,true,true,true,true,true,true,true,false,false,false,false,false,false,false,false,false,false,false,false] rfl rfl (take_ofW HT_.out HW_.out (by kernel_rfl)) (fun _ _ _ h => h) (Or.inl ⟨by rfl,?_⟩) hHeld ?_ ?_
        rotate_left
        ·rintro w' ⟨s0,s1,s2,s3,s4,s5,s6,s7,s8,s9,s10,s11,s12,s13,s14,s15,s16,s17,s18,s19,s20,s21⟩
         go_simp
         with_reducible rfl
        rotate_left
        ·simp only [Act.put,xA,xB,xC,i64_w,i32_w]
         rfl
        refine take_ (i:=15) (N:=some 86) (v:=?_) (a':=?_) #[true,true,true,true,true,true,true,true,true,true,true,true,true,true,true,true,false,false,false,false,false,false,false,false,false,false,false] rfl rfl (take_ofW HT_.out HW_.out (by kernel_rfl)) (fun _ _ _ h => h) (Or.inl ⟨by rfl,?_⟩) hHeld ?_ ?_
        rotate_left
        ·rintro w' ⟨s0,s1,s2,s3,s4,s5,s6,s7,s8,s9,s10,s11,s12,s13,s14,s15,s16,s17,s18,s19,s20,s21⟩
         go_simp
         with_reducible rfl
        rotate_left
        ·simp only [Act.put,xA,xB,xC,i64_w,i32_w]
         rfl
        refine one_ (i:=16) (N:=some 87) #[true,true,true,true,true,true,true,true,true,true,true,true,true,true,true,true,true,false,false,false,false,false,false,false,false,false,false] rfl rfl (one_of HT_.out (by kernel_rfl)) (by decide) (fun K hK => ?_)
        refine goes_ Try.func20 (by kernel_rfl) rfl #[.agg #[.int .u64 t185,.int .u64 t186,.bool t187,.int .i64 t188],.agg #[.int .u64 t191,.int .u64 t192,.bool t193,.int .i64 t194]] (by rfl) rfl rfl (by (try simp only [List.map_toArray,List.map_cons,List.map_nil]);first|done|rfl|(simp only [List.length_drop,List.length_take];rfl)) ?_
        with_reducible refine (beaconref12_Same.calls t185 t186 t187 t188 t191 t192 t193 t194 true _ A67.out).mono ?_
        rintro e w111 ⟨rfl,hb⟩
        refine ⟨_,rfl,?_⟩
        have n0_:=Aside0.mk (bB (by (with_reducible repeat first|apply bN|apply bD|apply bA);exact K168.1) hb)
        have n1_:=Aside0.mk (bB (by (with_reducible repeat first|apply bN|apply bD|apply bA);exact K176.1) hb)
        have n2_:=Aside0.mk (bB (by (with_reducible repeat first|apply bN|apply bD|apply bA);exact K184.1) hb)
        have n3_:=Aside0.mk (bB (by (with_reducible repeat first|apply bN|apply bD|apply bA);exact K190.1) hb)
        have n4_:=Aside0.mk (bB (by (with_reducible repeat first|apply bN|apply bD|apply bA);exact K196.1) hb)
        have n5_:=Aside0.mk (below_step (by repeat (first|(with_reducible first|exact HB.1|apply bwA|apply bwN|apply bw1|refine bS ?_ GE168.1|refine bS ?_ GE176.1|refine bS ?_ GE184.1|refine bS ?_ GE190.1|refine bS ?_ GE196.1)|exact HB.1)) hb)
        clear K168
        clear K176
        clear K184
        clear K190
        clear K196
        clear HB
        have K168:=n0_
        have K176:=n1_
        have K184:=n2_
        have K190:=n3_
        have K196:=n4_
        have HB:=n5_
        clear n0_ n1_ n2_ n3_ n4_ n5_
        (try clear hb)
        (try clear hb2)
        (try clear hk)
        (try clear hi)
        refine hK.out _ _ ⟨(bC K168.1 0).trans rfl,(bC K168.1 1).trans rfl,(bC K168.1 2).trans rfl,(bC K168.1 3).trans rfl,(bC K168.1 4).trans rfl,(bC K168.1 5).trans rfl,(bC K168.1 6).trans rfl,(bC K176.1 0).trans rfl,(bC K176.1 1).trans rfl,(bC K176.1 2).trans rfl,(bC K176.1 3).trans rfl,(bC K176.1 4).trans rfl,(bC K176.1 5).trans rfl,(bC K176.1 6).trans rfl,(bC K190.1 0).trans rfl,(bC K190.1 1).trans rfl,(bC K190.1 2).trans rfl,(bC K190.1 3).trans rfl,(bC K196.1 0).trans rfl,(bC K196.1 1).trans rfl,(bC K196.1 2).trans rfl,(bC K196.1 3).trans rfl⟩ (fun hHeld => ?_)
        clear hK K
        refine norm_ (a':=?_) ?_ ?_
        rotate_left
        ·show Act.put _ (some 87) _ = _
         simp only [Act.put,xA,xB,xC,i64_w,i32_w]
         rfl
        refine pure_ (i:=17) (N:=some 88) (v:=?_) (a':=?_) #[true,true,true,true,true,true,true,true,true,true,true,true,true,true,true,true,true,true,false,false,false,false,false,false,false,false,false] rfl rfl (any_of HT_.out (by kernel_rfl)) (fun _ _ _ h => h) (Or.inl ⟨by rfl,?_⟩) ?_ ?_
        rotate_left
        ·intro w'
         go_simp
         with_reducible rfl
        rotate_left
        ·simp only [Act.put,xA,xB,xC,i64_w,i32_w]
         rfl
        refine pure_ (i:=18) (N:=some 89) (v:=?_) (a':=?_) #[true,true,true,true,true,true,true,true,true,true,true,true,true,true,true,true,true,true,true,false,false,false,false,false,false,false,false] rfl rfl (any_of HT_.out (by kernel_rfl)) (fun _ _ _ h => h) (Or.inl ⟨by rfl,?_⟩) ?_ ?_
        rotate_left
        ·intro w'
         go_simp
         with_reducible rfl
        rotate_left
        ·simp only [Act.put,xA,xB,xC,i64_w,i32_w]
         rfl
        refine pure_ (i:=19) (N:=some 90) (v:=?_) (a':=?_) #[true,true,true,true,true,true,true,true,true,true,true,true,true,true,true,true,true,true,true,true,false,false,false,false,false,false,false] rfl rfl (any_of HT_.out (by kernel_rfl)) (fun _ _ _ h => h) (Or.inl ⟨by rfl,?_⟩) ?_ ?_
        rotate_left
        ·intro w'
         go_simp
         with_reducible rfl
        rotate_left
        ·simp only [Act.put,xA,xB,xC,i64_w,i32_w]
         rfl
        refine pure_ (i:=20) (N:=some 91) (v:=?_) (a':=?_) #[true,true,true,true,true,true,true,true,true,true,true,true,true,true,true,true,true,true,true,true,true,false,false,false,false,false,false] rfl rfl (any_of HT_.out (by kernel_rfl)) (fun _ _ _ h => h) (Or.inl ⟨by rfl,?_⟩) ?_ ?_
        rotate_left
        ·intro w'
         go_simp
         with_reducible rfl
        rotate_left
        ·simp only [Act.put,xA,xB,xC,i64_w,i32_w]
         rfl
        refine pure_ (i:=21) (N:=some 92) (v:=?_) (a':=?_) #[true,true,true,true,true,true,true,true,true,true,true,true,true,true,true,true,true,true,true,true,true,true,false,false,false,false,false] rfl rfl (any_of HT_.out (by kernel_rfl)) (fun _ _ _ h => h) (Or.inl ⟨by rfl,?_⟩) ?_ ?_
        rotate_left
        ·intro w'
         go_simp
         with_reducible rfl
        rotate_left
        ·simp only [Act.put,xA,xB,xC,i64_w,i32_w]
         rfl
        refine pure_ (i:=22) (N:=some 93) (v:=?_) (a':=?_) #[true,true,true,true,true,true,true,true,true,true,true,true,true,true,true,true,true,true,true,true,true,true,true,false,false,false,false] rfl rfl (any_of HT_.out (by kernel_rfl)) (fun _ _ _ h => h) (Or.inl ⟨by rfl,?_⟩) ?_ ?_
        rotate_left
        ·intro w'
         go_simp
         with_reducible rfl
        rotate_left
        ·simp only [Act.put,xA,xB,xC,i64_w,i32_w]
         rfl
        refine pure_ (i:=23) (N:=some 94) (v:=?_) (a':=?_) #[true,true,true,true,true,true,true,true,true,true,true,true,true,true,true,true,true,true,true,true,true,true,true,true,false,false,false] rfl rfl (any_of HT_.out (by kernel_rfl)) (fun _ _ _ h => h) (Or.inl ⟨by rfl,?_⟩) ?_ ?_
        rotate_left
        ·intro w'
         go_simp
         with_reducible rfl
        rotate_left
        ·simp only [Act.put,xA,xB,xC,i64_w,i32_w]
         rfl
        refine pure_ (i:=24) (N:=some 95) (v:=undef) (a':=?_) #[true,true,true,true,true,true,true,true,true,true,true,true,true,true,true,true,true,true,true,true,true,true,true,true,true,false,false] rfl rfl (any_of HT_.out (by kernel_rfl)) (fun _ _ _ h => h) (Or.inr ⟨by rfl,rfl⟩) ?_ ?_
        rotate_left
        ·simp only [Act.put,xA,xB,xC,i64_w,i32_w]
         rfl
        refine pure_ (i:=25) (N:=some 96) (v:=?_) (a':=?_) #[true,true,true,true,true,true,true,true,true,true,true,true,true,true,true,true,true,true,true,true,true,true,true,true,true,true,false] rfl rfl (any_of HT_.out (by kernel_rfl)) (fun _ _ _ h => h) (Or.inl ⟨by rfl,?_⟩) ?_ ?_
        rotate_left
        ·intro w'
         go_simp
         with_reducible rfl
        rotate_left
        ·simp only [Act.put,xA,xB,xC,i64_w,i32_w]
         rfl
        refine pure_ (i:=26) (N:=some 4) (v:=?_) (a':=?_) #[true,true,true,true,true,true,true,true,true,true,true,true,true,true,true,true,true,true,true,true,true,true,true,true,true,true,true] rfl rfl (any_of HT_.out (by kernel_rfl)) (fun _ _ _ h => h) (Or.inl ⟨by rfl,?_⟩) ?_ ?_
        rotate_left
        ·intro w'
         go_simp
         with_reducible rfl
        rotate_left
        ·simp only [Act.put,xA,xB,xC,i64_w,i32_w]
         rfl
        refine done_ (done_of HT_.out (by kernel_rfl)) ?_
        try go_wp2
        go_ret
        exact ⟨by first|rfl|(simp [errW_none,errW_some] <;> rfl)|(simp [*,errW_none,errW_some] <;> rfl),by repeat (first|(with_reducible first|exact HB.1|apply bwA|apply bwN|apply bw1|refine bS ?_ GE168.1|refine bS ?_ GE176.1|refine bS ?_ GE184.1|refine bS ?_ GE190.1|refine bS ?_ GE196.1)|exact HB.1)⟩
      ·replace c68:=Bool.eq_false_iff.mpr c68
       subst c68
       have H1 : (some false) = some r:=by rw [if_neg (show ¬ (false = true) by decide)] at H;exact H
       clear H
       have H:=H1
       clear H1
       obtain rfl:=Option.some.inj H
       try go_wp2_with (first|((with_reducible refine gate_callee (f:=7) rfl ?_);refine goesL_ (some 63) rfl rfl Try.func7 (by kernel_rfl) rfl #[.int .u64 a1] rfl (by (try simp only [List.map_toArray,List.map_cons,List.map_nil]);first|done|rfl|(simp only [List.length_drop,List.length_take];rfl)) ?_;(with_reducible refine (session_New.calls a1 t185 t186 t187 t188 t189 _ A59.out).mono ?_);rintro e w112 ⟨rfl,hb⟩;refine ⟨_,rfl,?_⟩;have n0_:=Aside0.mk (bB (by (with_reducible repeat first|apply bN|apply bD|apply bA);exact K168.1) hb);have n1_:=Aside0.mk (bB (by (with_reducible repeat first|apply bN|apply bD|apply bA);exact K176.1) hb);have n2_:=Aside0.mk (bB (by (with_reducible repeat first|apply bN|apply bD|apply bA);exact K184.1) hb);have n3_:=Aside0.mk (below_step (by repeat (first|(with_reducible first|exact HB.1|apply bwA|apply bwN|apply bw1|refine bS ?_ GE168.1|refine bS ?_ GE176.1|refine bS ?_ GE184.1)|exact HB.1)) hb);clear K168;clear K176;clear K184;clear HB;have K168:=n0_;have K176:=n1_;have K184:=n2_;have HB:=n3_;clear n0_ n1_ n2_ n3_;(try clear hb);(try clear hb2);(try clear hk);(try clear hi))|((with_reducible refine gate_dst (N:=8) rfl ?_);refine box_event ?hg (N:=8) ?hd (cs:=#[.int .u64 0,.int .u64 0,.bool false,.int .i64 0]) (t:=26) ?hr ?_;(case hd => rfl);(case hg => rfl);(case hr => first|(go_simp;done)|(go_simp;rfl));intro G190 hg w113 hbox hb;have n0_:=Aside0.mk (bB (by (with_reducible repeat first|apply bN|apply bD|apply bA);exact K168.1) hb);have n1_:=Aside0.mk (bB (by (with_reducible repeat first|apply bN|apply bD|apply bA);exact K176.1) hb);have n2_:=Aside0.mk (bB (by (with_reducible repeat first|apply bN|apply bD|apply bA);exact K184.1) hb);have n3_:=Aside0.mk (below_step (by repeat (first|(with_reducible first|exact HB.1|apply bwA|apply bwN|apply bw1|refine bS ?_ GE168.1|refine bS ?_ GE176.1|refine bS ?_ GE184.1)|exact HB.1)) hb);have n4_:=Aside0.mk (hbox);have n5_:=Aside0.mk ((by rw [hg];exact (below_size (by repeat (first|(with_reducible first|exact HB.1|apply bwA|apply bwN|apply bw1|refine bS ?_ GE168.1|refine bS ?_ GE176.1|refine bS ?_ GE184.1)|exact HB.1))) : w.heap.size ≤ G190));have n6_:=Aside0.mk ((by rw [hg];exact (below_size (by repeat (first|(with_reducible first|exact HB.1|apply bwA|apply bwN|apply bw1|refine bS ?_ GE168.1|refine bS ?_ GE176.1|refine bS ?_ GE184.1)|exact HB.1))) : w.heap.size ≤ G190));have n7_:=Aside0.mk ((by rw [hg];exact Nat.ne_of_lt (blk_lt (g:=G168) (by (with_reducible repeat first|apply bN|apply bD|apply bA);exact K168.1)) : G168 ≠ G190));have n8_:=Aside0.mk ((by rw [hg];exact Nat.ne_of_gt (blk_lt (g:=G168) (by (with_reducible repeat first|apply bN|apply bD|apply bA);exact K168.1)) : G190 ≠ G168));have n9_:=Aside0.mk ((by rw [hg];exact Nat.ne_of_lt (blk_lt (g:=G176) (by (with_reducible repeat first|apply bN|apply bD|apply bA);exact K176.1)) : G176 ≠ G190));have n10_:=Aside0.mk ((by rw [hg];exact Nat.ne_of_gt (blk_lt (g:=G176) (by (with_reducible repeat first|apply bN|apply bD|apply bA);exact K176.1)) : G190 ≠ G176));have n11_:=Aside0.mk ((by rw [hg];exact Nat.ne_of_lt (blk_lt (g:=G184) (by (with_reducible repeat first|apply bN|apply bD|apply bA);exact K184.1)) : G184 ≠ G190));have n12_:=Aside0.mk ((by rw [hg];exact Nat.ne_of_gt (blk_lt (g:=G184) (by (with_reducible repeat first|apply bN|apply bD|apply bA);exact K184.1)) : G190 ≠ G184));clear K168;clear K176;clear K184;clear HB;have K168:=n0_;have K176:=n1_;have K184:=n2_;have HB:=n3_;have K190:=n4_;have GW190:=n5_;have GE190:=n6_;have NB168_190:=n7_;have NB190_168:=n8_;have NB176_190:=n9_;have NB190_176:=n10_;have NB184_190:=n11_;have NB190_184:=n12_;clear n0_ n1_ n2_ n3_ n4_ n5_ n6_ n7_ n8_ n9_ n10_ n11_ n12_;clear hb hbox hg;have hnb114:=NB190_168.1;have hnc114:=NB168_190.1;have hnb115:=NB190_176.1;have hnc115:=NB176_190.1;have hnb116:=NB190_184.1;have hnc116:=NB184_190.1;have hcz117_0 : w113.cell? ⟨G190,0,none⟩ = some (.int .u64 0):=(bC K190.1 0).trans rfl;have hcz117_1 : w113.cell? ⟨G190,1,none⟩ = some (.int .u64 0):=(bC K190.1 1).trans rfl;have hcz117_2 : w113.cell? ⟨G190,2,none⟩ = some (.bool false):=(bC K190.1 2).trans rfl;have hcz117_3 : w113.cell? ⟨G190,3,none⟩ = some (.int .i64 0):=(bC K190.1 3).trans rfl;have hfz117_0:=bF K190.1 0;have hfz117_1:=bF K190.1 1;have hfz117_2:=bF K190.1 2;have hfz117_3:=bF K190.1 3)|((with_reducible refine gate_store (t:=26) (p:=8) rfl ?_);refine store_event (t:=26) (p:=8) (v:=?vo_w118) (w1:=((((w113.setCell ⟨G190,0,none⟩ (.int .u64 t185)).setCell ⟨G190,1,none⟩ (.int .u64 t186)).setCell ⟨G190,2,none⟩ (.bool t187)).setCell ⟨G190,3,none⟩ (.int .i64 t188))) ?hg ?ho ?hn ?hr ?_;(case ho => rfl);(case hg => rfl);(case hn => rfl);(case hr => first|(go_simp;done)|(go_simp;rfl));intro w118 hw;have n0_ : Aside0 (w118.heap[G168]? = some (.cells #[.float .f64 a0_0,.int .i64 a0_1,.int .i64 a0_2,.int .i64 a0_3,.int .i64 a0_4,.int .i64 a0_5,.int .i64 a0_6] 54 (0,0))):=⟨(by rw [hw];exact (by (with_reducible repeat first|apply bN|apply bD|apply bA);refine bZ ?_ NB168_190.1 _;(with_reducible repeat first|apply bN|apply bD|apply bA);refine bZ ?_ NB168_190.1 _;(with_reducible repeat first|apply bN|apply bD|apply bA);refine bZ ?_ NB168_190.1 _;(with_reducible repeat first|apply bN|apply bD|apply bA);refine bZ ?_ NB168_190.1 _;(with_reducible repeat first|apply bN|apply bD|apply bA);exact K168.1))⟩;have n1_ : Aside0 (w118.heap[G176]? = some (.cells #[.float .f64 t169,.int .i64 t170,.int .i64 t171,.int .i64 t172,.int .i64 t173,.int .i64 t174,.int .i64 t175] 54 (0,0))):=⟨(by rw [hw];exact (by (with_reducible repeat first|apply bN|apply bD|apply bA);refine bZ ?_ NB176_190.1 _;(with_reducible repeat first|apply bN|apply bD|apply bA);refine bZ ?_ NB176_190.1 _;(with_reducible repeat first|apply bN|apply bD|apply bA);refine bZ ?_ NB176_190.1 _;(with_reducible repeat first|apply bN|apply bD|apply bA);refine bZ ?_ NB176_190.1 _;(with_reducible repeat first|apply bN|apply bD|apply bA);exact K176.1))⟩;have n2_ : Aside0 (w118.heap[G184]? = some (.cells #[.float .f64 t177,.int .i64 t178,.int .i64 t179,.int .i64 t180,.int .i64 t181,.int .i64 t182,.int .i64 t183] 54 (0,0))):=⟨(by rw [hw];exact (by (with_reducible repeat first|apply bN|apply bD|apply bA);refine bZ ?_ NB184_190.1 _;(with_reducible repeat first|apply bN|apply bD|apply bA);refine bZ ?_ NB184_190.1 _;(with_reducible repeat first|apply bN|apply bD|apply bA);refine bZ ?_ NB184_190.1 _;(with_reducible repeat first|apply bN|apply bD|apply bA);refine bZ ?_ NB184_190.1 _;(with_reducible repeat first|apply bN|apply bD|apply bA);exact K184.1))⟩;have n3_ : Aside0 (w118.heap[G190]? = some (.cells #[.int .u64 t185,.int .u64 t186,.bool t187,.int .i64 t188] 26 (0,0))):=⟨(by rw [hw];exact (by (with_reducible repeat first|apply bN|apply bD|apply bA);refine blk_put (cs:=#[.int .u64 t185,.int .u64 t186,.bool t187,.int .i64 0]) ?_ 3 _ rfl;(with_reducible repeat first|apply bN|apply bD|apply bA);refine blk_put (cs:=#[.int .u64 t185,.int .u64 t186,.bool false,.int .i64 0]) ?_ 2 _ rfl;(with_reducible repeat first|apply bN|apply bD|apply bA);refine blk_put (cs:=#[.int .u64 t185,.int .u64 0,.bool false,.int .i64 0]) ?_ 1 _ rfl;(with_reducible repeat first|apply bN|apply bD|apply bA);refine blk_put (cs:=#[.int .u64 0,.int .u64 0,.bool false,.int .i64 0]) ?_ 0 _ rfl;(with_reducible repeat first|apply bN|apply bD|apply bA);exact K190.1))⟩;have n4_ : Aside0 (Below w.heap.size w w118):=⟨(by rw [hw];exact (by repeat (first|(with_reducible first|exact HB.1|apply bwA|apply bwN|apply bw1|refine bS ?_ GE168.1|refine bS ?_ GE176.1|refine bS ?_ GE184.1|refine bS ?_ GE190.1)|exact HB.1)))⟩;clear hw;clear K168;clear K176;clear K184;clear K190;clear HB;have K168:=n0_;have K176:=n1_;have K184:=n2_;have K190:=n3_;have HB:=n4_;clear n0_ n1_ n2_ n3_ n4_)|((with_reducible refine gate_callee (f:=24) rfl ?_);refine goesL_ (some 68) rfl rfl Try.func24 (by kernel_rfl) rfl #[.int .u64 a1] rfl (by (try simp only [List.map_toArray,List.map_cons,List.map_nil]);first|done|rfl|(simp only [List.length_drop,List.length_take];rfl)) ?_;(with_reducible refine (beaconref12_New.calls a1 t191 t192 t193 t194 t195 _ A60.out).mono ?_);rintro e w119 ⟨rfl,hb⟩;refine ⟨_,rfl,?_⟩;have n0_:=Aside0.mk (bB (by (with_reducible repeat first|apply bN|apply bD|apply bA);exact K168.1) hb);have n1_:=Aside0.mk (bB (by (with_reducible repeat first|apply bN|apply bD|apply bA);exact K176.1) hb);have n2_:=Aside0.mk (bB (by (with_reducible repeat first|apply bN|apply bD|apply bA);exact K184.1) hb);have n3_:=Aside0.mk (bB (by (with_reducible repeat first|apply bN|apply bD|apply bA);exact K190.1) hb);have n4_:=Aside0.mk (below_step (by repeat (first|(with_reducible first|exact HB.1|apply bwA|apply bwN|apply bw1|refine bS ?_ GE168.1|refine bS ?_ GE176.1|refine bS ?_ GE184.1|refine bS ?_ GE190.1)|exact HB.1)) hb);clear K168;clear K176;clear K184;clear K190;clear HB;have K168:=n0_;have K176:=n1_;have K184:=n2_;have K190:=n3_;have HB:=n4_;clear n0_ n1_ n2_ n3_ n4_;(try clear hb);(try clear hb2);(try clear hk);(try clear hi))|((with_reducible refine gate_dst (N:=10) rfl ?_);refine box_event ?hg (N:=10) ?hd (cs:=#[.int .u64 0,.int .u64 0,.bool false,.int .i64 0]) (t:=26) ?hr ?_;(case hd => rfl);(case hg => rfl);(case hr => first|(go_simp;done)|(go_simp;rfl));intro G196 hg w120 hbox hb;have n0_:=Aside0.mk (bB (by (with_reducible repeat first|apply bN|apply bD|apply bA);exact K168.1) hb);have n1_:=Aside0.mk (bB (by (with_reducible repeat first|apply bN|apply bD|apply bA);exact K176.1) hb);have n2_:=Aside0.mk (bB (by (with_reducible repeat first|apply bN|apply bD|apply bA);exact K184.1) hb);have n3_:=Aside0.mk (bB (by (with_reducible repeat first|apply bN|apply bD|apply bA);exact K190.1) hb);have n4_:=Aside0.mk (below_step (by repeat (first|(with_reducible first|exact HB.1|apply bwA|apply bwN|apply bw1|refine bS ?_ GE168.1|refine bS ?_ GE176.1|refine bS ?_ GE184.1|refine bS ?_ GE190.1)|exact HB.1)) hb);have n5_:=Aside0.mk (hbox);have n6_:=Aside0.mk ((by rw [hg];exact (below_size (by repeat (first|(with_reducible first|exact HB.1|apply bwA|apply bwN|apply bw1|refine bS ?_ GE168.1|refine bS ?_ GE176.1|refine bS ?_ GE184.1|refine bS ?_ GE190.1)|exact HB.1))) : w.heap.size ≤ G196));have n7_:=Aside0.mk ((by rw [hg];exact (below_size (by repeat (first|(with_reducible first|exact HB.1|apply bwA|apply bwN|apply bw1|refine bS ?_ GE168.1|refine bS ?_ GE176.1|refine bS ?_ GE184.1|refine bS ?_ GE190.1)|exact HB.1))) : w.heap.size ≤ G196));have n8_:=Aside0.mk ((by rw [hg];exact Nat.ne_of_lt (blk_lt (g:=G168) (by (with_reducible repeat first|apply bN|apply bD|apply bA);exact K168.1)) : G168 ≠ G196));have n9_:=Aside0.mk ((by rw [hg];exact Nat.ne_of_gt (blk_lt (g:=G168) (by (with_reducible repeat first|apply bN|apply bD|apply bA);exact K168.1)) : G196 ≠ G168));have n10_:=Aside0.mk ((by rw [hg];exact Nat.ne_of_lt (blk_lt (g:=G176) (by (with_reducible repeat first|apply bN|apply bD|apply bA);exact K176.1)) : G176 ≠ G196));have n11_:=Aside0.mk ((by rw [hg];exact Nat.ne_of_gt (blk_lt (g:=G176) (by (with_reducible repeat first|apply bN|apply bD|apply bA);exact K176.1)) : G196 ≠ G176));have n12_:=Aside0.mk ((by rw [hg];exact Nat.ne_of_lt (blk_lt (g:=G184) (by (with_reducible repeat first|apply bN|apply bD|apply bA);exact K184.1)) : G184 ≠ G196));have n13_:=Aside0.mk ((by rw [hg];exact Nat.ne_of_gt (blk_lt (g:=G184) (by (with_reducible repeat first|apply bN|apply bD|apply bA);exact K184.1)) : G196 ≠ G184));have n14_:=Aside0.mk ((by rw [hg];exact Nat.ne_of_lt (blk_lt (g:=G190) (by (with_reducible repeat first|apply bN|apply bD|apply bA);exact K190.1)) : G190 ≠ G196));have n15_:=Aside0.mk ((by rw [hg];exact Nat.ne_of_gt (blk_lt (g:=G190) (by (with_reducible repeat first|apply bN|apply bD|apply bA);exact K190.1)) : G196 ≠ G190));clear K168;clear K176;clear K184;clear K190;clear HB;have K168:=n0_;have K176:=n1_;have K184:=n2_;have K190:=n3_;have HB:=n4_;have K196:=n5_;have GW196:=n6_;have GE196:=n7_;have NB168_196:=n8_;have NB196_168:=n9_;have NB176_196:=n10_;have NB196_176:=n11_;have NB184_196:=n12_;have NB196_184:=n13_;have NB190_196:=n14_;have NB196_190:=n15_;clear n0_ n1_ n2_ n3_ n4_ n5_ n6_ n7_ n8_ n9_ n10_ n11_ n12_ n13_ n14_ n15_;clear hb hbox hg;have hnb121:=NB196_168.1;have hnc121:=NB168_196.1;have hnb122:=NB196_176.1;have hnc122:=NB176_196.1;have hnb123:=NB196_184.1;have hnc123:=NB184_196.1;have hnb124:=NB196_190.1;have hnc124:=NB190_196.1;have hcz125_0 : w120.cell? ⟨G196,0,none⟩ = some (.int .u64 0):=(bC K196.1 0).trans rfl;have hcz125_1 : w120.cell? ⟨G196,1,none⟩ = some (.int .u64 0):=(bC K196.1 1).trans rfl;have hcz125_2 : w120.cell? ⟨G196,2,none⟩ = some (.bool false):=(bC K196.1 2).trans rfl;have hcz125_3 : w120.cell? ⟨G196,3,none⟩ = some (.int .i64 0):=(bC K196.1 3).trans rfl;have hfz125_0:=bF K196.1 0;have hfz125_1:=bF K196.1 1;have hfz125_2:=bF K196.1 2;have hfz125_3:=bF K196.1 3)|((with_reducible refine gate_store (t:=26) (p:=10) rfl ?_);refine store_event (t:=26) (p:=10) (v:=?vo_w126) (w1:=((((w120.setCell ⟨G196,0,none⟩ (.int .u64 t191)).setCell ⟨G196,1,none⟩ (.int .u64 t192)).setCell ⟨G196,2,none⟩ (.bool t193)).setCell ⟨G196,3,none⟩ (.int .i64 t194))) ?hg ?ho ?hn ?hr ?_;(case ho => rfl);(case hg => rfl);(case hn => rfl);(case hr => first|(go_simp;done)|(go_simp;rfl));intro w126 hw;have n0_ : Aside0 (w126.heap[G168]? = some (.cells #[.float .f64 a0_0,.int .i64 a0_1,.int .i64 a0_2,.int .i64 a0_3,.int .i64 a0_4,.int .i64 a0_5,.int .i64 a0_6] 54 (0,0))):=⟨(by rw [hw];exact (by (with_reducible repeat first|apply bN|apply bD|apply bA);refine bZ ?_ NB168_196.1 _;(with_reducible repeat first|apply bN|apply bD|apply bA);refine bZ ?_ NB168_196.1 _;(with_reducible repeat first|apply bN|apply bD|apply bA);refine bZ ?_ NB168_196.1 _;(with_reducible repeat first|apply bN|apply bD|apply bA);refine bZ ?_ NB168_196.1 _;(with_reducible repeat first|apply bN|apply bD|apply bA);exact K168.1))⟩;have n1_ : Aside0 (w126.heap[G176]? = some (.cells #[.float .f64 t169,.int .i64 t170,.int .i64 t171,.int .i64 t172,.int .i64 t173,.int .i64 t174,.int .i64 t175] 54 (0,0))):=⟨(by rw [hw];exact (by (with_reducible repeat first|apply bN|apply bD|apply bA);refine bZ ?_ NB176_196.1 _;(with_reducible repeat first|apply bN|apply bD|apply bA);refine bZ ?_ NB176_196.1 _;(with_reducible repeat first|apply bN|apply bD|apply bA);refine bZ ?_ NB176_196.1 _;(with_reducible repeat first|apply bN|apply bD|apply bA);refine bZ ?_ NB176_196.1 _;(with_reducible repeat first|apply bN|apply bD|apply bA);exact K176.1))⟩;have n2_ : Aside0 (w126.heap[G184]? = some (.cells #[.float .f64 t177,.int .i64 t178,.int .i64 t179,.int .i64 t180,.int .i64 t181,.int .i64 t182,.int .i64 t183] 54 (0,0))):=⟨(by rw [hw];exact (by (with_reducible repeat first|apply bN|apply bD|apply bA);refine bZ ?_ NB184_196.1 _;(with_reducible repeat first|apply bN|apply bD|apply bA);refine bZ ?_ NB184_196.1 _;(with_reducible repeat first|apply bN|apply bD|apply bA);refine bZ ?_ NB184_196.1 _;(with_reducible repeat first|apply bN|apply bD|apply bA);refine bZ ?_ NB184_196.1 _;(with_reducible repeat first|apply bN|apply bD|apply bA);exact K184.1))⟩;have n3_ : Aside0 (w126.heap[G190]? = some (.cells #[.int .u64 t185,.int .u64 t186,.bool t187,.int .i64 t188] 26 (0,0))):=⟨(by rw [hw];exact (by (with_reducible repeat first|apply bN|apply bD|apply bA);refine bZ ?_ NB190_196.1 _;(with_reducible repeat first|apply bN|apply bD|apply bA);refine bZ ?_ NB190_196.1 _;(with_reducible repeat first|apply bN|apply bD|apply bA);refine bZ ?_ NB190_196.1 _;(with_reducible repeat first|apply bN|apply bD|apply bA);refine bZ ?_ NB190_196.1 _;(with_reducible repeat first|apply bN|apply bD|apply bA);exact K190.1))⟩;have n4_ : Aside0 (w126.heap[G196]? = some (.cells #[.int .u64 t191,.int .u64 t192,.bool t193,.int .i64 t194] 26 (0,0))):=⟨(by rw [hw];exact (by (with_reducible repeat first|apply bN|apply bD|apply bA);refine blk_put (cs:=#[.int .u64 t191,.int .u64 t192,.bool t193,.int .i64 0]) ?_ 3 _ rfl;(with_reducible repeat first|apply bN|apply bD|apply bA);refine blk_put (cs:=#[.int .u64 t191,.int .u64 t192,.bool false,.int .i64 0]) ?_ 2 _ rfl;(with_reducible repeat first|apply bN|apply bD|apply bA);refine blk_put (cs:=#[.int .u64 t191,.int .u64 0,.bool false,.int .i64 0]) ?_ 1 _ rfl;(with_reducible repeat first|apply bN|apply bD|apply bA);refine blk_put (cs:=#[.int .u64 0,.int .u64 0,.bool false,.int .i64 0]) ?_ 0 _ rfl;(with_reducible repeat first|apply bN|apply bD|apply bA);exact K196.1))⟩;have n5_ : Aside0 (Below w.heap.size w w126):=⟨(by rw [hw];exact (by repeat (first|(with_reducible first|exact HB.1|apply bwA|apply bwN|apply bw1|refine bS ?_ GE168.1|refine bS ?_ GE176.1|refine bS ?_ GE184.1|refine bS ?_ GE190.1|refine bS ?_ GE196.1)|exact HB.1)))⟩;clear hw;clear K168;clear K176;clear K184;clear K190;clear K196;clear HB;have K168:=n0_;have K176:=n1_;have K184:=n2_;have K190:=n3_;have K196:=n4_;have HB:=n5_;clear n0_ n1_ n2_ n3_ n4_ n5_))
       have n0_:=Aside0.mk (bD K168.1)
       have n1_:=Aside0.mk (bD K176.1)
       have n2_:=Aside0.mk (bD K184.1)
       have n3_:=Aside0.mk (bD K190.1)
       have n4_:=Aside0.mk (bD K196.1)
       have n5_:=Aside0.mk (bw1 HB.1)
       clear K168
       clear K176
       clear K184
       clear K190
       clear K196
       clear HB
       have K168:=n0_
       have K176:=n1_
       have K184:=n2_
       have K190:=n3_
       have K196:=n4_
       have HB:=n5_
       clear n0_ n1_ n2_ n3_ n4_ n5_
       refine start_ (n:=27) (S:=fun w' => w'.cell? ⟨G168,0,none⟩ = some (.float .f64 a0_0) ∧ w'.cell? ⟨G168,1,none⟩ = some (.int .i64 a0_1) ∧ w'.cell? ⟨G168,2,none⟩ = some (.int .i64 a0_2) ∧ w'.cell? ⟨G168,3,none⟩ = some (.int .i64 a0_3) ∧ w'.cell? ⟨G168,4,none⟩ = some (.int .i64 a0_4) ∧ w'.cell? ⟨G168,5,none⟩ = some (.int .i64 a0_5) ∧ w'.cell? ⟨G168,6,none⟩ = some (.int .i64 a0_6) ∧ w'.cell? ⟨G176,0,none⟩ = some (.float .f64 t169) ∧ w'.cell? ⟨G176,1,none⟩ = some (.int .i64 t170) ∧ w'.cell? ⟨G176,2,none⟩ = some (.int .i64 t171) ∧ w'.cell? ⟨G176,3,none⟩ = some (.int .i64 t172) ∧ w'.cell? ⟨G176,4,none⟩ = some (.int .i64 t173) ∧ w'.cell? ⟨G176,5,none⟩ = some (.int .i64 t174) ∧ w'.cell? ⟨G176,6,none⟩ = some (.int .i64 t175) ∧ w'.cell? ⟨G190,0,none⟩ = some (.int .u64 t185) ∧ w'.cell? ⟨G190,1,none⟩ = some (.int .u64 t186) ∧ w'.cell? ⟨G190,2,none⟩ = some (.bool t187) ∧ w'.cell? ⟨G190,3,none⟩ = some (.int .i64 t188) ∧ w'.cell? ⟨G196,0,none⟩ = some (.int .u64 t191) ∧ w'.cell? ⟨G196,1,none⟩ = some (.int .u64 t192) ∧ w'.cell? ⟨G196,2,none⟩ = some (.bool t193) ∧ w'.cell? ⟨G196,3,none⟩ = some (.int .i64 t194)) (ds:=[]) #[false,false,false,false,false,false,false,false,false,false,false,false,false,false,false,false,false,false,false,false,false,false,false,false,false,false,false] (by kernel_rfl) rfl rfl ⟨(bC K168.1 0).trans rfl,(bC K168.1 1).trans rfl,(bC K168.1 2).trans rfl,(bC K168.1 3).trans rfl,(bC K168.1 4).trans rfl,(bC K168.1 5).trans rfl,(bC K168.1 6).trans rfl,(bC K176.1 0).trans rfl,(bC K176.1 1).trans rfl,(bC K176.1 2).trans rfl,(bC K176.1 3).trans rfl,(bC K176.1 4).trans rfl,(bC K176.1 5).trans rfl,(bC K176.1 6).trans rfl,(bC K190.1 0).trans rfl,(bC K190.1 1).trans rfl,(bC K190.1 2).trans rfl,(bC K190.1 3).trans rfl,(bC K196.1 0).trans rfl,(bC K196.1 1).trans rfl,(bC K196.1 2).trans rfl,(bC K196.1 3).trans rfl⟩ (fun hHeld => ?_);refine with_tabW beaconlaw12_SessionChecks.tab6 beaconlaw12_SessionChecks.bits6 (fun HT_ HW_ => ?_)
       generalize w126.drew = w127 at K168 K176 K184 K190 K196 HB hHeld ⊢
       refine take_ (i:=0) (N:=some 71) (v:=?_) (a':=?_) #[true,false,false,false,false,false,false,false,false,false,false,false,false,false,false,false,false,false,false,false,false,false,false,false,false,false,false] rfl rfl (take_ofW HT_.out HW_.out (by kernel_rfl)) (fun _ _ _ h => h) (Or.inl ⟨by rfl,?_⟩) hHeld ?_ ?_
       rotate_left
       ·rintro w' ⟨s0,s1,s2,s3,s4,s5,s6,s7,s8,s9,s10,s11,s12,s13,s14,s15,s16,s17,s18,s19,s20,s21⟩
        go_simp
        with_reducible rfl
       rotate_left
       ·simp only [Act.put,xA,xB,xC,i64_w,i32_w]
        rfl
       refine take_ (i:=2) (N:=some 73) (v:=?_) (a':=?_) #[true,false,true,false,false,false,false,false,false,false,false,false,false,false,false,false,false,false,false,false,false,false,false,false,false,false,false] rfl rfl (take_ofW HT_.out HW_.out (by kernel_rfl)) (fun _ _ _ h => h) (Or.inl ⟨by rfl,?_⟩) hHeld ?_ ?_
       rotate_left
       ·rintro w' ⟨s0,s1,s2,s3,s4,s5,s6,s7,s8,s9,s10,s11,s12,s13,s14,s15,s16,s17,s18,s19,s20,s21⟩
        go_simp
        with_reducible rfl
       rotate_left
       ·simp only [Act.put,xA,xB,xC,i64_w,i32_w]
        rfl
       refine one_ (i:=1) (N:=some 72) #[true,true,true,false,false,false,false,false,false,false,false,false,false,false,false,false,false,false,false,false,false,false,false,false,false,false,false] rfl rfl (one_of HT_.out (by kernel_rfl)) (by decide) (fun K hK => ?_)
       refine goes_ Try.func25 (by kernel_rfl) rfl #[.agg #[.float .f64 a0_0,.int .i64 a0_1,.int .i64 a0_2,.int .i64 a0_3,.int .i64 a0_4,.int .i64 a0_5,.int .i64 a0_6]] (by rfl) rfl rfl (by (try simp only [List.map_toArray,List.map_cons,List.map_nil]);first|done|rfl|(simp only [List.length_drop,List.length_take];rfl)) ?_
       with_reducible refine (session_Check.calls kj4 a0_0 a0_1 a0_2 a0_3 a0_4 a0_5 a0_6 t197 _ A61.out).mono ?_
       rintro e w128 ⟨rfl,hb⟩
       refine ⟨_,rfl,?_⟩
       have n0_:=Aside0.mk (bB (by (with_reducible repeat first|apply bN|apply bD|apply bA);exact K168.1) hb)
       have n1_:=Aside0.mk (bB (by (with_reducible repeat first|apply bN|apply bD|apply bA);exact K176.1) hb)
       have n2_:=Aside0.mk (bB (by (with_reducible repeat first|apply bN|apply bD|apply bA);exact K184.1) hb)
       have n3_:=Aside0.mk (bB (by (with_reducible repeat first|apply bN|apply bD|apply bA);exact K190.1) hb)
       have n4_:=Aside0.mk (bB (by (with_reducible repeat first|apply bN|apply bD|apply bA);exact K196.1) hb)
       have n5_:=Aside0.mk (below_step (by repeat (first|(with_reducible first|exact HB.1|apply bwA|apply bwN|apply bw1|refine bS ?_ GE168.1|refine bS ?_ GE176.1|refine bS ?_ GE184.1|refine bS ?_ GE190.1|refine bS ?_ GE196.1)|exact HB.1)) hb)
       clear K168
       clear K176
       clear K184
       clear K190
       clear K196
       clear HB
       have K168:=n0_
       have K176:=n1_
       have K184:=n2_
       have K190:=n3_
       have K196:=n4_
       have HB:=n5_
       clear n0_ n1_ n2_ n3_ n4_ n5_
       (try clear hb)
       (try clear hb2)
       (try clear hk)
       (try clear hi)
       refine hK.out _ _ ⟨(bC K168.1 0).trans rfl,(bC K168.1 1).trans rfl,(bC K168.1 2).trans rfl,(bC K168.1 3).trans rfl,(bC K168.1 4).trans rfl,(bC K168.1 5).trans rfl,(bC K168.1 6).trans rfl,(bC K176.1 0).trans rfl,(bC K176.1 1).trans rfl,(bC K176.1 2).trans rfl,(bC K176.1 3).trans rfl,(bC K176.1 4).trans rfl,(bC K176.1 5).trans rfl,(bC K176.1 6).trans rfl,(bC K190.1 0).trans rfl,(bC K190.1 1).trans rfl,(bC K190.1 2).trans rfl,(bC K190.1 3).trans rfl,(bC K196.1 0).trans rfl,(bC K196.1 1).trans rfl,(bC K196.1 2).trans rfl,(bC K196.1 3).trans rfl⟩ (fun hHeld => ?_)
       clear hK K
       refine norm_ (a':=?_) ?_ ?_
       rotate_left
       ·show Act.put _ (some 72) _ = _
        simp only [Act.put,xA,xB,xC,i64_w,i32_w]
        rfl
       refine one_ (i:=3) (N:=some 74) #[true,true,true,true,false,false,false,false,false,false,false,false,false,false,false,false,false,false,false,false,false,false,false,false,false,false,false] rfl rfl (one_of HT_.out (by kernel_rfl)) (by decide) (fun K hK => ?_)
       refine goes_ Try.func26 (by kernel_rfl) rfl #[.agg #[.float .f64 a0_0,.int .i64 a0_1,.int .i64 a0_2,.int .i64 a0_3,.int .i64 a0_4,.int .i64 a0_5,.int .i64 a0_6]] (by rfl) rfl rfl (by (try simp only [List.map_toArray,List.map_cons,List.map_nil]);first|done|rfl|(simp only [List.length_drop,List.length_take];rfl)) ?_
       with_reducible refine (beaconref12_Check.calls kj4 a0_0 a0_1 a0_2 a0_3 a0_4 a0_5 a0_6 t198 _ A62.out).mono ?_
       rintro e w129 ⟨rfl,hb⟩
       refine ⟨_,rfl,?_⟩
       have n0_:=Aside0.mk (bB (by (with_reducible repeat first|apply bN|apply bD|apply bA);exact K168.1) hb)
       have n1_:=Aside0.mk (bB (by (with_reducible repeat first|apply bN|apply bD|apply bA);exact K176.1) hb)
       have n2_:=Aside0.mk (bB (by (with_reducible repeat first|apply bN|apply bD|apply bA);exact K184.1) hb)
       have n3_:=Aside0.mk (bB (by (with_reducible repeat first|apply bN|apply bD|apply bA);exact K190.1) hb)
       have n4_:=Aside0.mk (bB (by (with_reducible repeat first|apply bN|apply bD|apply bA);exact K196.1) hb)
       have n5_:=Aside0.mk (below_step (by repeat (first|(with_reducible first|exact HB.1|apply bwA|apply bwN|apply bw1|refine bS ?_ GE168.1|refine bS ?_ GE176.1|refine bS ?_ GE184.1|refine bS ?_ GE190.1|refine bS ?_ GE196.1)|exact HB.1)) hb)
       clear K168
       clear K176
       clear K184
       clear K190
       clear K196
       clear HB
       have K168:=n0_
       have K176:=n1_
       have K184:=n2_
       have K190:=n3_
       have K196:=n4_
       have HB:=n5_
       clear n0_ n1_ n2_ n3_ n4_ n5_
       (try clear hb)
       (try clear hb2)
       (try clear hk)
       (try clear hi)
       refine hK.out _ _ ⟨(bC K168.1 0).trans rfl,(bC K168.1 1).trans rfl,(bC K168.1 2).trans rfl,(bC K168.1 3).trans rfl,(bC K168.1 4).trans rfl,(bC K168.1 5).trans rfl,(bC K168.1 6).trans rfl,(bC K176.1 0).trans rfl,(bC K176.1 1).trans rfl,(bC K176.1 2).trans rfl,(bC K176.1 3).trans rfl,(bC K176.1 4).trans rfl,(bC K176.1 5).trans rfl,(bC K176.1 6).trans rfl,(bC K190.1 0).trans rfl,(bC K190.1 1).trans rfl,(bC K190.1 2).trans rfl,(bC K190.1 3).trans rfl,(bC K196.1 0).trans rfl,(bC K196.1 1).trans rfl,(bC K196.1 2).trans rfl,(bC K196.1 3).trans rfl⟩ (fun hHeld => ?_)
       clear hK K
       refine norm_ (a':=?_) ?_ ?_
       rotate_left
       ·show Act.put _ (some 74) _ = _
        simp only [Act.put,xA,xB,xC,i64_w,i32_w]
        rfl
       refine pure_ (i:=4) (N:=some 75) (v:=?_) (a':=?_) #[true,true,true,true,true,false,false,false,false,false,false,false,false,false,false,false,false,false,false,false,false,false,false,false,false,false,false] rfl rfl (any_of HT_.out (by kernel_rfl)) (fun _ _ _ h => h) (Or.inl ⟨by rfl,?_⟩) ?_ ?_
       rotate_left
       ·intro w'
        go_simp
        with_reducible rfl
       rotate_left
       ·simp only [Act.put,xA,xB,xC,i64_w,i32_w]
        rfl
       refine pure_ (i:=5) (N:=some 76) (v:=?_) (a':=?_) #[true,true,true,true,true,true,false,false,false,false,false,false,false,false,false,false,false,false,false,false,false,false,false,false,false,false,false] rfl rfl (any_of HT_.out (by kernel_rfl)) (fun _ _ _ h => h) (Or.inl ⟨by rfl,?_⟩) ?_ ?_
       rotate_left
       ·intro w'
        go_simp
        with_reducible rfl
       rotate_left
       ·simp only [Act.put,xA,xB,xC,i64_w,i32_w]
        rfl
       refine pure_ (i:=6) (N:=some 77) (v:=?_) (a':=?_) #[true,true,true,true,true,true,true,false,false,false,false,false,false,false,false,false,false,false,false,false,false,false,false,false,false,false,false] rfl rfl (any_of HT_.out (by kernel_rfl)) (fun _ _ _ h => h) (Or.inl ⟨by rfl,?_⟩) ?_ ?_
       rotate_left
       ·intro w'
        go_simp
        with_reducible rfl
       rotate_left
       ·simp only [Act.put,xA,xB,xC,i64_w,i32_w]
        rfl
       refine pure_ (i:=7) (N:=some 78) (v:=?_) (a':=?_) #[true,true,true,true,true,true,true,true,false,false,false,false,false,false,false,false,false,false,false,false,false,false,false,false,false,false,false] rfl rfl (any_of HT_.out (by kernel_rfl)) (fun _ _ _ h => h) (Or.inl ⟨by rfl,?_⟩) ?_ ?_
       rotate_left
       ·intro w'
        go_simp
        with_reducible rfl
       rotate_left
       ·simp only [Act.put,xA,xB,xC,i64_w,i32_w]
        rfl
       refine pure_ (i:=8) (N:=some 79) (v:=?_) (a':=?_) #[true,true,true,true,true,true,true,true,true,false,false,false,false,false,false,false,false,false,false,false,false,false,false,false,false,false,false] rfl rfl (any_of HT_.out (by kernel_rfl)) (fun _ _ _ h => h) (Or.inl ⟨by rfl,?_⟩) ?_ ?_
       rotate_left
       ·intro w'
        go_simp
        with_reducible rfl
       rotate_left
       ·simp only [Act.put,xA,xB,xC,i64_w,i32_w]
        rfl
       refine take_ (i:=9) (N:=some 80) (v:=?_) (a':=?_) #[true,true,true,true,true,true,true,true,true,true,false,false,false,false,false,false,false,false,false,false,false,false,false,false,false,false,false] rfl rfl (take_ofW HT_.out HW_.out (by kernel_rfl)) (fun _ _ _ h => h) (Or.inl ⟨by rfl,?_⟩) hHeld ?_ ?_
       rotate_left
       ·rintro w' ⟨s0,s1,s2,s3,s4,s5,s6,s7,s8,s9,s10,s11,s12,s13,s14,s15,s16,s17,s18,s19,s20,s21⟩
        go_simp
        with_reducible rfl
       rotate_left
       ·simp only [Act.put,xA,xB,xC,i64_w,i32_w]
        rfl
       refine one_ (i:=10) (N:=some 81) #[true,true,true,true,true,true,true,true,true,true,true,false,false,false,false,false,false,false,false,false,false,false,false,false,false,false,false] rfl rfl (one_of HT_.out (by kernel_rfl)) (by decide) (fun K hK => ?_)
       refine goes_ Try.func25 (by kernel_rfl) rfl #[.agg #[.float .f64 t169,.int .i64 t170,.int .i64 t171,.int .i64 t172,.int .i64 t173,.int .i64 t174,.int .i64 t175]] (by rfl) rfl rfl (by (try simp only [List.map_toArray,List.map_cons,List.map_nil]);first|done|rfl|(simp only [List.length_drop,List.length_take];rfl)) ?_
       with_reducible refine (session_Check.calls kj4 t169 t170 t171 t172 t173 t174 t175 t199 _ A65.out).mono ?_
       rintro e w130 ⟨rfl,hb⟩
       refine ⟨_,rfl,?_⟩
       have n0_:=Aside0.mk (bB (by (with_reducible repeat first|apply bN|apply bD|apply bA);exact K168.1) hb)
       have n1_:=Aside0.mk (bB (by (with_reducible repeat first|apply bN|apply bD|apply bA);exact K176.1) hb)
       have n2_:=Aside0.mk (bB (by (with_reducible repeat first|apply bN|apply bD|apply bA);exact K184.1) hb)
       have n3_:=Aside0.mk (bB (by (with_reducible repeat first|apply bN|apply bD|apply bA);exact K190.1) hb)
       have n4_:=Aside0.mk (bB (by (with_reducible repeat first|apply bN|apply bD|apply bA);exact K196.1) hb)
       have n5_:=Aside0.mk (below_step (by repeat (first|(with_reducible first|exact HB.1|apply bwA|apply bwN|apply bw1|refine bS ?_ GE168.1|refine bS ?_ GE176.1|refine bS ?_ GE184.1|refine bS ?_ GE190.1|refine bS ?_ GE196.1)|exact HB.1)) hb)
       clear K168
       clear K176
       clear K184
       clear K190
       clear K196
       clear HB
       have K168:=n0_
       have K176:=n1_
       have K184:=n2_
       have K190:=n3_
       have K196:=n4_
       have HB:=n5_
       clear n0_ n1_ n2_ n3_ n4_ n5_
       (try clear hb)
       (try clear hb2)
       (try clear hk)
       (try clear hi)
       refine hK.out _ _ ⟨(bC K168.1 0).trans rfl,(bC K168.1 1).trans rfl,(bC K168.1 2).trans rfl,(bC K168.1 3).trans rfl,(bC K168.1 4).trans rfl,(bC K168.1 5).trans rfl,(bC K168.1 6).trans rfl,(bC K176.1 0).trans rfl,(bC K176.1 1).trans rfl,(bC K176.1 2).trans rfl,(bC K176.1 3).trans rfl,(bC K176.1 4).trans rfl,(bC K176.1 5).trans rfl,(bC K176.1 6).trans rfl,(bC K190.1 0).trans rfl,(bC K190.1 1).trans rfl,(bC K190.1 2).trans rfl,(bC K190.1 3).trans rfl,(bC K196.1 0).trans rfl,(bC K196.1 1).trans rfl,(bC K196.1 2).trans rfl,(bC K196.1 3).trans rfl⟩ (fun hHeld => ?_)
       clear hK K
       refine norm_ (a':=?_) ?_ ?_
       rotate_left
       ·show Act.put _ (some 81) _ = _
        simp only [Act.put,xA,xB,xC,i64_w,i32_w]
        rfl
       refine pure_ (i:=11) (N:=some 82) (v:=?_) (a':=?_) #[true,true,true,true,true,true,true,true,true,true,true,true,false,false,false,false,false,false,false,false,false,false,false,false,false,false,false] rfl rfl (any_of HT_.out (by kernel_rfl)) (fun _ _ _ h => h) (Or.inl ⟨by rfl,?_⟩) ?_ ?_
       rotate_left
       ·intro w'
        go_simp
        with_reducible rfl
       rotate_left
       ·simp only [Act.put,xA,xB,xC,i64_w,i32_w]
        rfl
       refine pure_ (i:=12) (N:=some 83) (v:=?_) (a':=?_) #[true,true,true,true,true,true,true,true,true,true,true,true,true,false,false,false,false,false,false,false,false,false,false,false,false,false,false] rfl rfl (any_of HT_.out (by kernel_rfl)) (fun _ _ _ h => h) (Or.inl ⟨by rfl,?_⟩) ?_ ?_
       rotate_left
       ·intro w'
        go_simp
        with_reducible rfl
       rotate_left
       ·simp only [Act.put,xA,xB,xC,i64_w,i32_w]
        rfl
       refine pure_ (i:=13) (N:=some 84) (v:=?_) (a':=?_) #[true,true,true,true,true,true,true,true,true,true,true,true,true,true,false,false,false,false,false,false,false,false,false,false,false,false,false] rfl rfl (any_of HT_.out (by kernel_rfl)) (fun _ _ _ h => h) (Or.inl ⟨by rfl,?_⟩) ?_ ?_
       rotate_left
       ·intro w'
        go_simp
        with_reducible rfl
       rotate_left
       ·simp only [Act.put,xA,xB,xC,i64_w,i32_w]
        rfl
       refine take_ (i:=14) (N:=some 85) (v:=?_) (a':=?_) #[true,true,true,true,true,true,true,true,true,true,true,true,true,true,true,false,false,false,false,false,false,false,false,false,false,false,false] rfl rfl (take_ofW HT_.out HW_.out (by kernel_rfl)) (fun _ _ _ h => h) (Or.inl ⟨by rfl,?_⟩) hHeld ?_ ?_
       rotate_left
       ·rintro w' ⟨s0,s1,s2,s3,s4,s5,s6,s7,s8,s9,s10,s11,s12,s13,s14,s15,s16,s17,s18,s19,s20,s21⟩
        go_simp
        with_reducible rfl
       rotate_left
       ·simp only [Act.put,xA,xB,xC,i64_w,i32_w]
        rfl
       refine take_ (i:=15) (N:=some 86) (v:=?_) (a':=?_) #[true,true,true,true,true,true,true,true,true,true,true,true,true,true,true,true,false,false,false,false,false,false,false,false,false,false,false] rfl rfl (take_ofW HT_.out HW_.out (by kernel_rfl)) (fun _ _ _ h => h) (Or.inl ⟨by rfl,?_⟩) hHeld ?_ ?_
       rotate_left
       ·rintro w' ⟨s0,s1,s2,s3,s4,s5,s6,s7,s8,s9,s10,s11,s12,s13,s14,s15,s16,s17,s18,s19,s20,s21⟩
        go_simp
        with_reducible rfl
       rotate_left
       ·simp only [Act.put,xA,xB,xC,i64_w,i32_w]
        rfl
       refine one_ (i:=16) (N:=some 87) #[true,true,true,true,true,true,true,true,true,true,true,true,true,true,true,true,true,false,false,false,false,false,false,false,false,false,false] rfl rfl (one_of HT_.out (by kernel_rfl)) (by decide) (fun K hK => ?_)
       refine goes_ Try.func20 (by kernel_rfl) rfl #[.agg #[.int .u64 t185,.int .u64 t186,.bool t187,.int .i64 t188],.agg #[.int .u64 t191,.int .u64 t192,.bool t193,.int .i64 t194]] (by rfl) rfl rfl (by (try simp only [List.map_toArray,List.map_cons,List.map_nil]);first|done|rfl|(simp only [List.length_drop,List.length_take];rfl)) ?_
       with_reducible refine (beaconref12_Same.calls t185 t186 t187 t188 t191 t192 t193 t194 false _ A67.out).mono ?_
       rintro e w131 ⟨rfl,hb⟩
       refine ⟨_,rfl,?_⟩
       have n0_:=Aside0.mk (bB (by (with_reducible repeat first|apply bN|apply bD|apply bA);exact K168.1) hb)
       have n1_:=Aside0.mk (bB (by (with_reducible repeat first|apply bN|apply bD|apply bA);exact K176.1) hb)
       have n2_:=Aside0.mk (bB (by (with_reducible repeat first|apply bN|apply bD|apply bA);exact K184.1) hb)
       have n3_:=Aside0.mk (bB (by (with_reducible repeat first|apply bN|apply bD|apply bA);exact K190.1) hb)
       have n4_:=Aside0.mk (bB (by (with_reducible repeat first|apply bN|apply bD|apply bA);exact K196.1) hb)
       have n5_:=Aside0.mk (below_step (by repeat (first|(with_reducible first|exact HB.1|apply bwA|apply bwN|apply bw1|refine bS ?_ GE168.1|refine bS ?_ GE176.1|refine bS ?_ GE184.1|refine bS ?_ GE190.1|refine bS ?_ GE196.1)|exact HB.1)) hb)
       clear K168
       clear K176
       clear K184
       clear K190
       clear K196
       clear HB
       have K168:=n0_
       have K176:=n1_
       have K184:=n2_
       have K190:=n3_
       have K196:=n4_
       have HB:=n5_
       clear n0_ n1_ n2_ n3_ n4_ n5_
       (try clear hb)
       (try clear hb2)
       (try clear hk)
       (try clear hi)
       refine hK.out _ _ ⟨(bC K168.1 0).trans rfl,(bC K168.1 1).trans rfl,(bC K168.1 2).trans rfl,(bC K168.1 3).trans rfl,(bC K168.1 4).trans rfl,(bC K168.1 5).trans rfl,(bC K168.1 6).trans rfl,(bC K176.1 0).trans rfl,(bC K176.1 1).trans rfl,(bC K176.1 2).trans rfl,(bC K176.1 3).trans rfl,(bC K176.1 4).trans rfl,(bC K176.1 5).trans rfl,(bC K176.1 6).trans rfl,(bC K190.1 0).trans rfl,(bC K190.1 1).trans rfl,(bC K190.1 2).trans rfl,(bC K190.1 3).trans rfl,(bC K196.1 0).trans rfl,(bC K196.1 1).trans rfl,(bC K196.1 2).trans rfl,(bC K196.1 3).trans rfl⟩ (fun hHeld => ?_)
       clear hK K
       refine norm_ (a':=?_) ?_ ?_
       rotate_left
       ·show Act.put _ (some 87) _ = _
        simp only [Act.put,xA,xB,xC,i64_w,i32_w]
        rfl
       refine pure_ (i:=17) (N:=some 88) (v:=?_) (a':=?_) #[true,true,true,true,true,true,true,true,true,true,true,true,true,true,true,true,true,true,false,false,false,false,false,false,false,false,false] rfl rfl (any_of HT_.out (by kernel_rfl)) (fun _ _ _ h => h) (Or.inl ⟨by rfl,?_⟩) ?_ ?_
       rotate_left
       ·intro w'
        go_simp
        with_reducible rfl
       rotate_left
       ·simp only [Act.put,xA,xB,xC,i64_w,i32_w]
        rfl
       refine pure_ (i:=18) (N:=some 89) (v:=?_) (a':=?_) #[true,true,true,true,true,true,true,true,true,true,true,true,true,true,true,true,true,true,true,false,false,false,false,false,false,false,false] rfl rfl (any_of HT_.out (by kernel_rfl)) (fun _ _ _ h => h) (Or.inl ⟨by rfl,?_⟩) ?_ ?_
       rotate_left
       ·intro w'
        go_simp
        with_reducible rfl
       rotate_left
       ·simp only [Act.put,xA,xB,xC,i64_w,i32_w]
        rfl
       refine pure_ (i:=19) (N:=some 90) (v:=undef) (a':=?_) #[true,true,true,true,true,true,true,true,true,true,true,true,true,true,true,true,true,true,true,true,false,false,false,false,false,false,false] rfl rfl (any_of HT_.out (by kernel_rfl)) (fun _ _ _ h => h) (Or.inr ⟨by rfl,rfl⟩) ?_ ?_
       rotate_left
       ·simp only [Act.put,xA,xB,xC,i64_w,i32_w]
        rfl
       refine pure_ (i:=20) (N:=some 91) (v:=undef) (a':=?_) #[true,true,true,true,true,true,true,true,true,true,true,true,true,true,true,true,true,true,true,true,true,false,false,false,false,false,false] rfl rfl (any_of HT_.out (by kernel_rfl)) (fun _ _ _ h => h) (Or.inr ⟨by rfl,rfl⟩) ?_ ?_
       rotate_left
       ·simp only [Act.put,xA,xB,xC,i64_w,i32_w]
        rfl
       refine pure_ (i:=21) (N:=some 92) (v:=undef) (a':=?_) #[true,true,true,true,true,true,true,true,true,true,true,true,true,true,true,true,true,true,true,true,true,true,false,false,false,false,false] rfl rfl (any_of HT_.out (by kernel_rfl)) (fun _ _ _ h => h) (Or.inr ⟨by rfl,rfl⟩) ?_ ?_
       rotate_left
       ·simp only [Act.put,xA,xB,xC,i64_w,i32_w]
        rfl
       refine pure_ (i:=22) (N:=some 93) (v:=?_) (a':=?_) #[true,true,true,true,true,true,true,true,true,true,true,true,true,true,true,true,true,true,true,true,true,true,true,false,false,false,false] rfl rfl (any_of HT_.out (by kernel_rfl)) (fun _ _ _ h => h) (Or.inl ⟨by rfl,?_⟩) ?_ ?_
       rotate_left
       ·intro w'
        go_simp
        with_reducible rfl
       rotate_left
       ·simp only [Act.put,xA,xB,xC,i64_w,i32_w]
        rfl
       refine pure_ (i:=23) (N:=some 94) (v:=?_) (a':=?_) #[true,true,true,true,true,true,true,true,true,true,true,true,true,true,true,true,true,true,true,true,true,true,true,true,false,false,false] rfl rfl (any_of HT_.out (by kernel_rfl)) (fun _ _ _ h => h) (Or.inl ⟨by rfl,?_⟩) ?_ ?_
       rotate_left
       ·intro w'
        go_simp
        with_reducible rfl
       rotate_left
       ·simp only [Act.put,xA,xB,xC,i64_w,i32_w]
        rfl
       refine pure_ (i:=24) (N:=some 95) (v:=undef) (a':=?_) #[true,true,true,true,true,true,true,true,true,true,true,true,true,true,true,true,true,true,true,true,true,true,true,true,true,false,false] rfl rfl (any_of HT_.out (by kernel_rfl)) (fun _ _ _ h => h) (Or.inr ⟨by rfl,rfl⟩) ?_ ?_
       rotate_left
       ·simp only [Act.put,xA,xB,xC,i64_w,i32_w]
        rfl
       refine pure_ (i:=25) (N:=some 96) (v:=?_) (a':=?_) #[true,true,true,true,true,true,true,true,true,true,true,true,true,true,true,true,true,true,true,true,true,true,true,true,true,true,false] rfl rfl (any_of HT_.out (by kernel_rfl)) (fun _ _ _ h => h) (Or.inl ⟨by rfl,?_⟩) ?_ ?_
       rotate_left
       ·intro w'
        go_simp
        with_reducible rfl
       rotate_left
       ·simp only [Act.put,xA,xB,xC,i64_w,i32_w]
        rfl
       refine pure_ (i:=26) (N:=some 4) (v:=?_) (a':=?_) #[true,true,true,true,true,true,true,true,true,true,true,true,true,true,true,true,true,true,true,true,true,true,true,true,true,true,true] rfl rfl (any_of HT_.out (by kernel_rfl)) (fun _ _ _ h => h) (Or.inl ⟨by rfl,?_⟩) ?_ ?_
       rotate_left
       ·intro w'
        go_simp
        with_reducible rfl
       rotate_left
       ·simp only [Act.put,xA,xB,xC,i64_w,i32_w]
        rfl
       refine done_ (done_of HT_.out (by kernel_rfl)) ?_
       try go_wp2
       go_ret
       exact ⟨by first|rfl|(simp [errW_none,errW_some] <;> rfl)|(simp [*,errW_none,errW_some] <;> rfl),by repeat (first|(with_reducible first|exact HB.1|apply bwA|apply bwN|apply bw1|refine bS ?_ GE168.1|refine bS ?_ GE176.1|refine bS ?_ GE184.1|refine bS ?_ GE190.1|refine bS ?_ GE196.1)|exact HB.1)⟩
     ·rw [if_neg c66] at H
      have c66b0 : (t199 == 0) = false:=beq_eq_false_iff_ne.mpr c66
      have c66b1 : (t199 != 0) = true:=bne_iff_ne.mpr c66
      obtain rfl:=Option.some.inj H
      try go_wp2_with (first|((with_reducible refine gate_callee (f:=7) rfl ?_);refine goesL_ (some 63) rfl rfl Try.func7 (by kernel_rfl) rfl #[.int .u64 a1] rfl (by (try simp only [List.map_toArray,List.map_cons,List.map_nil]);first|done|rfl|(simp only [List.length_drop,List.length_take];rfl)) ?_;(with_reducible refine (session_New.calls a1 t185 t186 t187 t188 t189 _ A59.out).mono ?_);rintro e w132 ⟨rfl,hb⟩;refine ⟨_,rfl,?_⟩;have n0_:=Aside0.mk (bB (by (with_reducible repeat first|apply bN|apply bD|apply bA);exact K168.1) hb);have n1_:=Aside0.mk (bB (by (with_reducible repeat first|apply bN|apply bD|apply bA);exact K176.1) hb);have n2_:=Aside0.mk (bB (by (with_reducible repeat first|apply bN|apply bD|apply bA);exact K184.1) hb);have n3_:=Aside0.mk (below_step (by repeat (first|(with_reducible first|exact HB.1|apply bwA|apply bwN|apply bw1|refine bS ?_ GE168.1|refine bS ?_ GE176.1|refine bS ?_ GE184.1)|exact HB.1)) hb);clear K168;clear K176;clear K184;clear HB;have K168:=n0_;have K176:=n1_;have K184:=n2_;have HB:=n3_;clear n0_ n1_ n2_ n3_;(try clear hb);(try clear hb2);(try clear hk);(try clear hi))|((with_reducible refine gate_dst (N:=8) rfl ?_);refine box_event ?hg (N:=8) ?hd (cs:=#[.int .u64 0,.int .u64 0,.bool false,.int .i64 0]) (t:=26) ?hr ?_;(case hd => rfl);(case hg => rfl);(case hr => first|(go_simp;done)|(go_simp;rfl));intro G190 hg w133 hbox hb;have n0_:=Aside0.mk (bB (by (with_reducible repeat first|apply bN|apply bD|apply bA);exact K168.1) hb);have n1_:=Aside0.mk (bB (by (with_reducible repeat first|apply bN|apply bD|apply bA);exact K176.1) hb);have n2_:=Aside0.mk (bB (by (with_reducible repeat first|apply bN|apply bD|apply bA);exact K184.1) hb);have n3_:=Aside0.mk (below_step (by repeat (first|(with_reducible first|exact HB.1|apply bwA|apply bwN|apply bw1|refine bS ?_ GE168.1|refine bS ?_ GE176.1|refine bS ?_ GE184.1)|exact HB.1)) hb);have n4_:=Aside0.mk (hbox);have n5_:=Aside0.mk ((by rw [hg];exact (below_size (by repeat (first|(with_reducible first|exact HB.1|apply bwA|apply bwN|apply bw1|refine bS ?_ GE168.1|refine bS ?_ GE176.1|refine bS ?_ GE184.1)|exact HB.1))) : w.heap.size ≤ G190));have n6_:=Aside0.mk ((by rw [hg];exact (below_size (by repeat (first|(with_reducible first|exact HB.1|apply bwA|apply bwN|apply bw1|refine bS ?_ GE168.1|refine bS ?_ GE176.1|refine bS ?_ GE184.1)|exact HB.1))) : w.heap.size ≤ G190));have n7_:=Aside0.mk ((by rw [hg];exact Nat.ne_of_lt (blk_lt (g:=G168) (by (with_reducible repeat first|apply bN|apply bD|apply bA);exact K168.1)) : G168 ≠ G190));have n8_:=Aside0.mk ((by rw [hg];exact Nat.ne_of_gt (blk_lt (g:=G168) (by (with_reducible repeat first|apply bN|apply bD|apply bA);exact K168.1)) : G190 ≠ G168));have n9_:=Aside0.mk ((by rw [hg];exact Nat.ne_of_lt (blk_lt (g:=G176) (by (with_reducible repeat first|apply bN|apply bD|apply bA);exact K176.1)) : G176 ≠ G190));have n10_:=Aside0.mk ((by rw [hg];exact Nat.ne_of_gt (blk_lt (g:=G176) (by (with_reducible repeat first|apply bN|apply bD|apply bA);exact K176.1)) : G190 ≠ G176));have n11_:=Aside0.mk ((by rw [hg];exact Nat.ne_of_lt (blk_lt (g:=G184) (by (with_reducible repeat first|apply bN|apply bD|apply bA);exact K184.1)) : G184 ≠ G190));have n12_:=Aside0.mk ((by rw [hg];exact Nat.ne_of_gt (blk_lt (g:=G184) (by (with_reducible repeat first|apply bN|apply bD|apply bA);exact K184.1)) : G190 ≠ G184));clear K168;clear K176;clear K184;clear HB;have K168:=n0_;have K176:=n1_;have K184:=n2_;have HB:=n3_;have K190:=n4_;have GW190:=n5_;have GE190:=n6_;have NB168_190:=n7_;have NB190_168:=n8_;have NB176_190:=n9_;have NB190_176:=n10_;have NB184_190:=n11_;have NB190_184:=n12_;clear n0_ n1_ n2_ n3_ n4_ n5_ n6_ n7_ n8_ n9_ n10_ n11_ n12_;clear hb hbox hg;have hnb134:=NB190_168.1;have hnc134:=NB168_190.1;have hnb135:=NB190_176.1;have hnc135:=NB176_190.1;have hnb136:=NB190_184.1;have hnc136:=NB184_190.1;have hcz137_0 : w133.cell? ⟨G190,0,none⟩ = some (.int .u64 0):=(bC K190.1 0).trans rfl;have hcz137_1 : w133.cell? ⟨G190,1,none⟩ = some (.int .u64 0):=(bC K190.1 1).trans rfl;have hcz137_2 : w133.cell? ⟨G190,2,none⟩ = some (.bool false):=(bC K190.1 2).trans rfl;have hcz137_3 : w133.cell? ⟨G190,3,none⟩ = some (.int .i64 0):=(bC K190.1 3).trans rfl;have hfz137_0:=bF K190.1 0;have hfz137_1:=bF K190.1 1;have hfz137_2:=bF K190.1 2;have hfz137_3:=bF K190.1 3)|((with_reducible refine gate_store (t:=26) (p:=8) rfl ?_);refine store_event (t:=26) (p:=8) (v:=?vo_w138) (w1:=((((w133.setCell ⟨G190,0,none⟩ (.int .u64 t185)).setCell ⟨G190,1,none⟩ (.int .u64 t186)).setCell ⟨G190,2,none⟩ (.bool t187)).setCell ⟨G190,3,none⟩ (.int .i64 t188))) ?hg ?ho ?hn ?hr ?_;(case ho => rfl);(case hg => rfl);(case hn => rfl);(case hr => first|(go_simp;done)|(go_simp;rfl));intro w138 hw;have n0_ : Aside0 (w138.heap[G168]? = some (.cells #[.float .f64 a0_0,.int .i64 a0_1,.int .i64 a0_2,.int .i64 a0_3,.int .i64 a0_4,.int .i64 a0_5,.int .i64 a0_6] 54 (0,0))):=⟨(by rw [hw];exact (by (with_reducible repeat first|apply bN|apply bD|apply bA);refine bZ ?_ NB168_190.1 _;(with_reducible repeat first|apply bN|apply bD|apply bA);refine bZ ?_ NB168_190.1 _;(with_reducible repeat first|apply bN|apply bD|apply bA);refine bZ ?_ NB168_190.1 _;(with_reducible repeat first|apply bN|apply bD|apply bA);refine bZ ?_ NB168_190.1 _;(with_reducible repeat first|apply bN|apply bD|apply bA);exact K168.1))⟩;have n1_ : Aside0 (w138.heap[G176]? = some (.cells #[.float .f64 t169,.int .i64 t170,.int .i64 t171,.int .i64 t172,.int .i64 t173,.int .i64 t174,.int .i64 t175] 54 (0,0))):=⟨(by rw [hw];exact (by (with_reducible repeat first|apply bN|apply bD|apply bA);refine bZ ?_ NB176_190.1 _;(with_reducible repeat first|apply bN|apply bD|apply bA);refine bZ ?_ NB176_190.1 _;(with_reducible repeat first|apply bN|apply bD|apply bA);refine bZ ?_ NB176_190.1 _;(with_reducible repeat first|apply bN|apply bD|apply bA);refine bZ ?_ NB176_190.1 _;(with_reducible repeat first|apply bN|apply bD|apply bA);exact K176.1))⟩;have n2_ : Aside0 (w138.heap[G184]? = some (.cells #[.float .f64 t177,.int .i64 t178,.int .i64 t179,.int .i64 t180,.int .i64 t181,.int .i64 t182,.int .i64 t183] 54 (0,0))):=⟨(by rw [hw];exact (by (with_reducible repeat first|apply bN|apply bD|apply bA);refine bZ ?_ NB184_190.1 _;(with_reducible repeat first|apply bN|apply bD|apply bA);refine bZ ?_ NB184_190.1 _;(with_reducible repeat first|apply bN|apply bD|apply bA);refine bZ ?_ NB184_190.1 _;(with_reducible repeat first|apply bN|apply bD|apply bA);refine bZ ?_ NB184_190.1 _;(with_reducible repeat first|apply bN|apply bD|apply bA);exact K184.1))⟩;have n3_ : Aside0 (w138.heap[G190]? = some (.cells #[.int .u64 t185,.int .u64 t186,.bool t187,.int .i64 t188] 26 (0,0))):=⟨(by rw [hw];exact (by (with_reducible repeat first|apply bN|apply bD|apply bA);refine blk_put (cs:=#[.int .u64 t185,.int .u64 t186,.bool t187,.int .i64 0]) ?_ 3 _ rfl;(with_reducible repeat first|apply bN|apply bD|apply bA);refine blk_put (cs:=#[.int .u64 t185,.int .u64 t186,.bool false,.int .i64 0]) ?_ 2 _ rfl;(with_reducible repeat first|apply bN|apply bD|apply bA);refine blk_put (cs:=#[.int .u64 t185,.int .u64 0,.bool false,.int .i64 0]) ?_ 1 _ rfl;(with_reducible repeat first|apply bN|apply bD|apply bA);refine blk_put (cs:=#[.int .u64 0,.int .u64 0,.bool false,.int .i64 0]) ?_ 0 _ rfl;(with_reducible repeat first|apply bN|apply bD|apply bA);exact K190.1))⟩;have n4_ : Aside0 (Below w.heap.size w w138):=⟨(by rw [hw];exact (by repeat (first|(with_reducible first|exact HB.1|apply bwA|apply bwN|apply bw1|refine bS ?_ GE168.1|refine bS ?_ GE176.1|refine bS ?_ GE184.1|refine bS ?_ GE190.1)|exact HB.1)))⟩;clear hw;clear K168;clear K176;clear K184;clear K190;clear HB;have K168:=n0_;have K176:=n1_;have K184:=n2_;have K190:=n3_;have HB:=n4_;clear n0_ n1_ n2_ n3_ n4_)|((with_reducible refine gate_callee (f:=24) rfl ?_);refine goesL_ (some 68) rfl rfl Try.func24 (by kernel_rfl) rfl #[.int .u64 a1] rfl (by (try simp only [List.map_toArray,List.map_cons,List.map_nil]);first|done|rfl|(simp only [List.length_drop,List.length_take];rfl)) ?_;(with_reducible refine (beaconref12_New.calls a1 t191 t192 t193 t194 t195 _ A60.out).mono ?_);rintro e w139 ⟨rfl,hb⟩;refine ⟨_,rfl,?_⟩;have n0_:=Aside0.mk (bB (by (with_reducible repeat first|apply bN|apply bD|apply bA);exact K168.1) hb);have n1_:=Aside0.mk (bB (by (with_reducible repeat first|apply bN|apply bD|apply bA);exact K176.1) hb);have n2_:=Aside0.mk (bB (by (with_reducible repeat first|apply bN|apply bD|apply bA);exact K184.1) hb);have n3_:=Aside0.mk (bB (by (with_reducible repeat first|apply bN|apply bD|apply bA);exact K190.1) hb);have n4_:=Aside0.mk (below_step (by repeat (first|(with_reducible first|exact HB.1|apply bwA|apply bwN|apply bw1|refine bS ?_ GE168.1|refine bS ?_ GE176.1|refine bS ?_ GE184.1|refine bS ?_ GE190.1)|exact HB.1)) hb);clear K168;clear K176;clear K184;clear K190;clear HB;have K168:=n0_;have K176:=n1_;have K184:=n2_;have K190:=n3_;have HB:=n4_;clear n0_ n1_ n2_ n3_ n4_;(try clear hb);(try clear hb2);(try clear hk);(try clear hi))|((with_reducible refine gate_dst (N:=10) rfl ?_);refine box_event ?hg (N:=10) ?hd (cs:=#[.int .u64 0,.int .u64 0,.bool false,.int .i64 0]) (t:=26) ?hr ?_;(case hd => rfl);(case hg => rfl);(case hr => first|(go_simp;done)|(go_simp;rfl));intro G196 hg w140 hbox hb;have n0_:=Aside0.mk (bB (by (with_reducible repeat first|apply bN|apply bD|apply bA);exact K168.1) hb);have n1_:=Aside0.mk (bB (by (with_reducible repeat first|apply bN|apply bD|apply bA);exact K176.1) hb);have n2_:=Aside0.mk (bB (by (with_reducible repeat first|apply bN|apply bD|apply bA);exact K184.1) hb);have n3_:=Aside0.mk (bB (by (with_reducible repeat first|apply bN|apply bD|apply bA);exact K190.1) hb);have n4_:=Aside0.mk (below_step (by repeat (first|(with_reducible first|exact HB.1|apply bwA|apply bwN|apply bw1|refine bS ?_ GE168.1|refine bS ?_ GE176.1|refine bS ?_ GE184.1|refine bS ?_ GE190.1)|exact HB.1)) hb);have n5_:=Aside0.mk (hbox);have n6_:=Aside0.mk ((by rw [hg];exact (below_size (by repeat (first|(with_reducible first|exact HB.1|apply bwA|apply bwN|apply bw1|refine bS ?_ GE168.1|refine bS ?_ GE176.1|refine bS ?_ GE184.1|refine bS ?_ GE190.1)|exact HB.1))) : w.heap.size ≤ G196));have n7_:=Aside0.mk ((by rw [hg];exact (below_size (by repeat (first|(with_reducible first|exact HB.1|apply bwA|apply bwN|apply bw1|refine bS ?_ GE168.1|refine bS ?_ GE176.1|refine bS ?_ GE184.1|refine bS ?_ GE190.1)|exact HB.1))) : w.heap.size ≤ G196));have n8_:=Aside0.mk ((by rw [hg];exact Nat.ne_of_lt (blk_lt (g:=G168) (by (with_reducible repeat first|apply bN|apply bD|apply bA);exact K168.1)) : G168 ≠ G196));have n9_:=Aside0.mk ((by rw [hg];exact Nat.ne_of_gt (blk_lt (g:=G168) (by (with_reducible repeat first|apply bN|apply bD|apply bA);exact K168.1)) : G196 ≠ G168));have n10_:=Aside0.mk ((by rw [hg];exact Nat.ne_of_lt (blk_lt (g:=G176) (by (with_reducible repeat first|apply bN|apply bD|apply bA);exact K176.1)) : G176 ≠ G196));have n11_:=Aside0.mk ((by rw [hg];exact Nat.ne_of_gt (blk_lt (g:=G176) (by (with_reducible repeat first|apply bN|apply bD|apply bA);exact K176.1)) : G196 ≠ G176));have n12_:=Aside0.mk ((by rw [hg];exact Nat.ne_of_lt (blk_lt (g:=G184) (by (with_reducible repeat first|apply bN|apply bD|apply bA);exact K184.1)) : G184 ≠ G196));have n13_:=Aside0.mk ((by rw [hg];exact Nat.ne_of_gt (blk_lt (g:=G184) (by (with_reducible repeat first|apply bN|apply bD|apply bA);exact K184.1)) : G196 ≠ G184));have n14_:=Aside0.mk ((by rw [hg];exact Nat.ne_of_lt (blk_lt (g:=G190) (by (with_reducible repeat first|apply bN|apply bD|apply bA);exact K190.1)) : G190 ≠ G196));have n15_:=Aside0.mk ((by rw [hg];exact Nat.ne_of_gt (blk_lt (g:=G190) (by (with_reducible repeat first|apply bN|apply bD|apply bA);exact K190.1)) : G196 ≠ G190));clear K168;clear K176;clear K184;clear K190;clear HB;have K168:=n0_;have K176:=n1_;have K184:=n2_;have K190:=n3_;have HB:=n4_;have K196:=n5_;have GW196:=n6_;have GE196:=n7_;have NB168_196:=n8_;have NB196_168:=n9_;have NB176_196:=n10_;have NB196_176:=n11_;have NB184_196:=n12_;have NB196_184:=n13_;have NB190_196:=n14_;have NB196_190:=n15_;clear n0_ n1_ n2_ n3_ n4_ n5_ n6_ n7_ n8_ n9_ n10_ n11_ n12_ n13_ n14_ n15_;clear hb hbox hg;have hnb141:=NB196_168.1;have hnc141:=NB168_196.1;have hnb142:=NB196_176.1;have hnc142:=NB176_196.1;have hnb143:=NB196_184.1;have hnc143:=NB184_196.1;have hnb144:=NB196_190.1;have hnc144:=NB190_196.1;have hcz145_0 : w140.cell? ⟨G196,0,none⟩ = some (.int .u64 0):=(bC K196.1 0).trans rfl;have hcz145_1 : w140.cell? ⟨G196,1,none⟩ = some (.int .u64 0):=(bC K196.1 1).trans rfl;have hcz145_2 : w140.cell? ⟨G196,2,none⟩ = some (.bool false):=(bC K196.1 2).trans rfl;have hcz145_3 : w140.cell? ⟨G196,3,none⟩ = some (.int .i64 0):=(bC K196.1 3).trans rfl;have hfz145_0:=bF K196.1 0;have hfz145_1:=bF K196.1 1;have hfz145_2:=bF K196.1 2;have hfz145_3:=bF K196.1 3)|((with_reducible refine gate_store (t:=26) (p:=10) rfl ?_);refine store_event (t:=26) (p:=10) (v:=?vo_w146) (w1:=((((w140.setCell ⟨G196,0,none⟩ (.int .u64 t191)).setCell ⟨G196,1,none⟩ (.int .u64 t192)).setCell ⟨G196,2,none⟩ (.bool t193)).setCell ⟨G196,3,none⟩ (.int .i64 t194))) ?hg ?ho ?hn ?hr ?_;(case ho => rfl);(case hg => rfl);(case hn => rfl);(case hr => first|(go_simp;done)|(go_simp;rfl));intro w146 hw;have n0_ : Aside0 (w146.heap[G168]? = some (.cells #[.float .f64 a0_0,.int .i64 a0_1,.int .i64 a0_2,.int .i64 a0_3,.int .i64 a0_4,.int .i64 a0_5,.int .i64 a0_6] 54 (0,0))):=⟨(by rw [hw];exact (by (with_reducible repeat first|apply bN|apply bD|apply bA);refine bZ ?_ NB168_196.1 _;(with_reducible repeat first|apply bN|apply bD|apply bA);refine bZ ?_ NB168_196.1 _;(with_reducible repeat first|apply bN|apply bD|apply bA);refine bZ ?_ NB168_196.1 _;(with_reducible repeat first|apply bN|apply bD|apply bA);refine bZ ?_ NB168_196.1 _;(with_reducible repeat first|apply bN|apply bD|apply bA);exact K168.1))⟩;have n1_ : Aside0 (w146.heap[G176]? = some (.cells #[.float .f64 t169,.int .i64 t170,.int .i64 t171,.int .i64 t172,.int .i64 t173,.int .i64 t174,.int .i64 t175] 54 (0,0))):=⟨(by rw [hw];exact (by (with_reducible repeat first|apply bN|apply bD|apply bA);refine bZ ?_ NB176_196.1 _;(with_reducible repeat first|apply bN|apply bD|apply bA);refine bZ ?_ NB176_196.1 _;(with_reducible repeat first|apply bN|apply bD|apply bA);refine bZ ?_ NB176_196.1 _;(with_reducible repeat first|apply bN|apply bD|apply bA);refine bZ ?_ NB176_196.1 _;(with_reducible repeat first|apply bN|apply bD|apply bA);exact K176.1))⟩;have n2_ : Aside0 (w146.heap[G184]? = some (.cells #[.float .f64 t177,.int .i64 t178,.int .i64 t179,.int .i64 t180,.int .i64 t181,.int .i64 t182,.int .i64 t183] 54 (0,0))):=⟨(by rw [hw];exact (by (with_reducible repeat first|apply bN|apply bD|apply bA);refine bZ ?_ NB184_196.1 _;(with_reducible repeat first|apply bN|apply bD|apply bA);refine bZ ?_ NB184_196.1 _;(with_reducible repeat first|apply bN|apply bD|apply bA);refine bZ ?_ NB184_196.1 _;(with_reducible repeat first|apply bN|apply bD|apply bA);refine bZ ?_ NB184_196.1 _;(with_reducible repeat first|apply bN|apply bD|apply bA);exact K184.1))⟩;have n3_ : Aside0 (w146.heap[G190]? = some (.cells #[.int .u64 t185,.int .u64 t186,.bool t187,.int .i64 t188] 26 (0,0))):=⟨(by rw [hw];exact (by (with_reducible repeat first|apply bN|apply bD|apply bA);refine bZ ?_ NB190_196.1 _;(with_reducible repeat first|apply bN|apply bD|apply bA);refine bZ ?_ NB190_196.1 _;(with_reducible repeat first|apply bN|apply bD|apply bA);refine bZ ?_ NB190_196.1 _;(with_reducible repeat first|apply bN|apply bD|apply bA);refine bZ ?_ NB190_196.1 _;(with_reducible repeat first|apply bN|apply bD|apply bA);exact K190.1))⟩;have n4_ : Aside0 (w146.heap[G196]? = some (.cells #[.int .u64 t191,.int .u64 t192,.bool t193,.int .i64 t194] 26 (0,0))):=⟨(by rw [hw];exact (by (with_reducible repeat first|apply bN|apply bD|apply bA);refine blk_put (cs:=#[.int .u64 t191,.int .u64 t192,.bool t193,.int .i64 0]) ?_ 3 _ rfl;(with_reducible repeat first|apply bN|apply bD|apply bA);refine blk_put (cs:=#[.int .u64 t191,.int .u64 t192,.bool false,.int .i64 0]) ?_ 2 _ rfl;(with_reducible repeat first|apply bN|apply bD|apply bA);refine blk_put (cs:=#[.int .u64 t191,.int .u64 0,.bool false,.int .i64 0]) ?_ 1 _ rfl;(with_reducible repeat first|apply bN|apply bD|apply bA);refine blk_put (cs:=#[.int .u64 0,.int .u64 0,.bool false,.int .i64 0]) ?_ 0 _ rfl;(with_reducible repeat first|apply bN|apply bD|apply bA);exact K196.1))⟩;have n5_ : Aside0 (Below w.heap.size w w146):=⟨(by rw [hw];exact (by repeat (first|(with_reducible first|exact HB.1|apply bwA|apply bwN|apply bw1|refine bS ?_ GE168.1|refine bS ?_ GE176.1|refine bS ?_ GE184.1|refine bS ?_ GE190.1|refine bS ?_ GE196.1)|exact HB.1)))⟩;clear hw;clear K168;clear K176;clear K184;clear K190;clear K196;clear HB;have K168:=n0_;have K176:=n1_;have K184:=n2_;have K190:=n3_;have K196:=n4_;have HB:=n5_;clear n0_ n1_ n2_ n3_ n4_ n5_))
      have n0_:=Aside0.mk (bD K168.1)
      have n1_:=Aside0.mk (bD K176.1)
      have n2_:=Aside0.mk (bD K184.1)
      have n3_:=Aside0.mk (bD K190.1)
      have n4_:=Aside0.mk (bD K196.1)
      have n5_:=Aside0.mk (bw1 HB.1)
      clear K168
      clear K176
      clear K184
      clear K190
      clear K196
      clear HB
      have K168:=n0_
      have K176:=n1_
      have K184:=n2_
      have K190:=n3_
      have K196:=n4_
      have HB:=n5_
      clear n0_ n1_ n2_ n3_ n4_ n5_
      refine start_ (n:=27) (S:=fun w' => w'.cell? ⟨G168,0,none⟩ = some (.float .f64 a0_0) ∧ w'.cell? ⟨G168,1,none⟩ = some (.int .i64 a0_1) ∧ w'.cell? ⟨G168,2,none⟩ = some (.int .i64 a0_2) ∧ w'.cell? ⟨G168,3,none⟩ = some (.int .i64 a0_3) ∧ w'.cell? ⟨G168,4,none⟩ = some (.int .i64 a0_4) ∧ w'.cell? ⟨G168,5,none⟩ = some (.int .i64 a0_5) ∧ w'.cell? ⟨G168,6,none⟩ = some (.int .i64 a0_6) ∧ w'.cell? ⟨G176,0,none⟩ = some (.float .f64 t169) ∧ w'.cell? ⟨G176,1,none⟩ = some (.int .i64 t170) ∧ w'.cell? ⟨G176,2,none⟩ = some (.int .i64 t171) ∧ w'.cell? ⟨G176,3,none⟩ = some (.int .i64 t172) ∧ w'.cell? ⟨G176,4,none⟩ = some (.int .i64 t173) ∧ w'.cell? ⟨G176,5,none⟩ = some (.int .i64 t174) ∧ w'.cell? ⟨G176,6,none⟩ = some (.int .i64 t175)) (ds:=[]) #[false,false,false,false,false,false,false,false,false,false,false,false,false,false,false,false,false,false,false,false,false,false,false,false,false,false,false] (by kernel_rfl) rfl rfl ⟨(bC K168.1 0).trans rfl,(bC K168.1 1).trans rfl,(bC K168.1 2).trans rfl,(bC K168.1 3).trans rfl,(bC K168.1 4).trans rfl,(bC K168.1 5).trans rfl,(bC K168.1 6).trans rfl,(bC K176.1 0).trans rfl,(bC K176.1 1).trans rfl,(bC K176.1 2).trans rfl,(bC K176.1 3).trans rfl,(bC K176.1 4).trans rfl,(bC K176.1 5).trans rfl,(bC K176.1 6).trans rfl⟩ (fun hHeld => ?_);refine with_tabW beaconlaw12_SessionChecks.tab6 beaconlaw12_SessionChecks.bits6 (fun HT_ HW_ => ?_)
      generalize w146.drew = w147 at K168 K176 K184 K190 K196 HB hHeld ⊢
      refine take_ (i:=0) (N:=some 71) (v:=?_) (a':=?_) #[true,false,false,false,false,false,false,false,false,false,false,false,false,false,false,false,false,false,false,false,false,false,false,false,false,false,false] rfl rfl (take_ofW HT_.out HW_.out (by kernel_rfl)) (fun _ _ _ h => h) (Or.inl ⟨by rfl,?_⟩) hHeld ?_ ?_
      rotate_left
      ·rintro w' ⟨s0,s1,s2,s3,s4,s5,s6,s7,s8,s9,s10,s11,s12,s13⟩
       go_simp
       with_reducible rfl
      rotate_left
      ·simp only [Act.put,xA,xB,xC,i64_w,i32_w]
       rfl
      refine take_ (i:=2) (N:=some 73) (v:=?_) (a':=?_) #[true,false,true,false,false,false,false,false,false,false,false,false,false,false,false,false,false,false,false,false,false,false,false,false,false,false,false] rfl rfl (take_ofW HT_.out HW_.out (by kernel_rfl)) (fun _ _ _ h => h) (Or.inl ⟨by rfl,?_⟩) hHeld ?_ ?_
      rotate_left
      ·rintro w' ⟨s0,s1,s2,s3,s4,s5,s6,s7,s8,s9,s10,s11,s12,s13⟩
       go_simp
       with_reducible rfl
      rotate_left
      ·simp only [Act.put,xA,xB,xC,i64_w,i32_w]
       rfl
      refine one_ (i:=1) (N:=some 72) #[true,true,true,false,false,false,false,false,false,false,false,false,false,false,false,false,false,false,false,false,false,false,false,false,false,false,false] rfl rfl (one_of HT_.out (by kernel_rfl)) (by decide) (fun K hK => ?_)
      refine goes_ Try.func25 (by kernel_rfl) rfl #[.agg #[.float .f64 a0_0,.int .i64 a0_1,.int .i64 a0_2,.int .i64 a0_3,.int .i64 a0_4,.int .i64 a0_5,.int .i64 a0_6]] (by rfl) rfl rfl (by (try simp only [List.map_toArray,List.map_cons,List.map_nil]);first|done|rfl|(simp only [List.length_drop,List.length_take];rfl)) ?_
      with_reducible refine (session_Check.calls kj4 a0_0 a0_1 a0_2 a0_3 a0_4 a0_5 a0_6 t197 _ A61.out).mono ?_
      rintro e w148 ⟨rfl,hb⟩
      refine ⟨_,rfl,?_⟩
      have n0_:=Aside0.mk (bB (by (with_reducible repeat first|apply bN|apply bD|apply bA);exact K168.1) hb)
      have n1_:=Aside0.mk (bB (by (with_reducible repeat first|apply bN|apply bD|apply bA);exact K176.1) hb)
      have n2_:=Aside0.mk (bB (by (with_reducible repeat first|apply bN|apply bD|apply bA);exact K184.1) hb)
      have n3_:=Aside0.mk (bB (by (with_reducible repeat first|apply bN|apply bD|apply bA);exact K190.1) hb)
      have n4_:=Aside0.mk (bB (by (with_reducible repeat first|apply bN|apply bD|apply bA);exact K196.1) hb)
      have n5_:=Aside0.mk (below_step (by repeat (first|(with_reducible first|exact HB.1|apply bwA|apply bwN|apply bw1|refine bS ?_ GE168.1|refine bS ?_ GE176.1|refine bS ?_ GE184.1|refine bS ?_ GE190.1|refine bS ?_ GE196.1)|exact HB.1)) hb)
      clear K168
      clear K176
      clear K184
      clear K190
      clear K196
      clear HB
      have K168:=n0_
      have K176:=n1_
      have K184:=n2_
      have K190:=n3_
      have K196:=n4_
      have HB:=n5_
      clear n0_ n1_ n2_ n3_ n4_ n5_
      (try clear hb)
      (try clear hb2)
      (try clear hk)
      (try clear hi)
      refine hK.out _ _ ⟨(bC K168.1 0).trans rfl,(bC K168.1 1).trans rfl,(bC K168.1 2).trans rfl,(bC K168.1 3).trans rfl,(bC K168.1 4).trans rfl,(bC K168.1 5).trans rfl,(bC K168.1 6).trans rfl,(bC K176.1 0).trans rfl,(bC K176.1 1).trans rfl,(bC K176.1 2).trans rfl,(bC K176.1 3).trans rfl,(bC K176.1 4).trans rfl,(bC K176.1 5).trans rfl,(bC K176.1 6).trans rfl⟩ (fun hHeld => ?_)
      clear hK K
      refine norm_ (a':=?_) ?_ ?_
      rotate_left
      ·show Act.put _ (some 72) _ = _
       simp only [Act.put,xA,xB,xC,i64_w,i32_w]
       rfl
      refine one_ (i:=3) (N:=some 74) #[true,true,true,true,false,false,false,false,false,false,false,false,false,false,false,false,false,false,false,false,false,false,false,false,false,false,false] rfl rfl (one_of HT_.out (by kernel_rfl)) (by decide) (fun K hK => ?_)
      refine goes_ Try.func26 (by kernel_rfl) rfl #[.agg #[.float .f64 a0_0,.int .i64 a0_1,.int .i64 a0_2,.int .i64 a0_3,.int .i64 a0_4,.int .i64 a0_5,.int .i64 a0_6]] (by rfl) rfl rfl (by (try simp only [List.map_toArray,List.map_cons,List.map_nil]);first|done|rfl|(simp only [List.length_drop,List.length_take];rfl)) ?_
      with_reducible refine (beaconref12_Check.calls kj4 a0_0 a0_1 a0_2 a0_3 a0_4 a0_5 a0_6 t198 _ A62.out).mono ?_
      rintro e w149 ⟨rfl,hb⟩
      refine ⟨_,rfl,?_⟩
      have n0_:=Aside0.mk (bB (by (with_reducible repeat first|apply bN|apply bD|apply bA);exact K168.1) hb)
      have n1_:=Aside0.mk (bB (by (with_reducible repeat first|apply bN|apply bD|apply bA);exact K176.1) hb)
      have n2_:=Aside0.mk (bB (by (with_reducible repeat first|apply bN|apply bD|apply bA);exact K184.1) hb)
      have n3_:=Aside0.mk (bB (by (with_reducible repeat first|apply bN|apply bD|apply bA);exact K190.1) hb)
      have n4_:=Aside0.mk (bB (by (with_reducible repeat first|apply bN|apply bD|apply bA);exact K196.1) hb)
      have n5_:=Aside0.mk (below_step (by repeat (first|(with_reducible first|exact HB.1|apply bwA|apply bwN|apply bw1|refine bS ?_ GE168.1|refine bS ?_ GE176.1|refine bS ?_ GE184.1|refine bS ?_ GE190.1|refine bS ?_ GE196.1)|exact HB.1)) hb)
      clear K168
      clear K176
      clear K184
      clear K190
      clear K196
      clear HB
      have K168:=n0_
      have K176:=n1_
      have K184:=n2_
      have K190:=n3_
      have K196:=n4_
      have HB:=n5_
      clear n0_ n1_ n2_ n3_ n4_ n5_
      (try clear hb)
      (try clear hb2)
      (try clear hk)
      (try clear hi)
      refine hK.out _ _ ⟨(bC K168.1 0).trans rfl,(bC K168.1 1).trans rfl,(bC K168.1 2).trans rfl,(bC K168.1 3).trans rfl,(bC K168.1 4).trans rfl,(bC K168.1 5).trans rfl,(bC K168.1 6).trans rfl,(bC K176.1 0).trans rfl,(bC K176.1 1).trans rfl,(bC K176.1 2).trans rfl,(bC K176.1 3).trans rfl,(bC K176.1 4).trans rfl,(bC K176.1 5).trans rfl,(bC K176.1 6).trans rfl⟩ (fun hHeld => ?_)
      clear hK K
      refine norm_ (a':=?_) ?_ ?_
      rotate_left
      ·show Act.put _ (some 74) _ = _
       simp only [Act.put,xA,xB,xC,i64_w,i32_w]
       rfl
      refine pure_ (i:=4) (N:=some 75) (v:=?_) (a':=?_) #[true,true,true,true,true,false,false,false,false,false,false,false,false,false,false,false,false,false,false,false,false,false,false,false,false,false,false] rfl rfl (any_of HT_.out (by kernel_rfl)) (fun _ _ _ h => h) (Or.inl ⟨by rfl,?_⟩) ?_ ?_
      rotate_left
      ·intro w'
       go_simp
       with_reducible rfl
      rotate_left
      ·simp only [Act.put,xA,xB,xC,i64_w,i32_w]
       rfl
      refine pure_ (i:=5) (N:=some 76) (v:=?_) (a':=?_) #[true,true,true,true,true,true,false,false,false,false,false,false,false,false,false,false,false,false,false,false,false,false,false,false,false,false,false] rfl rfl (any_of HT_.out (by kernel_rfl)) (fun _ _ _ h => h) (Or.inl ⟨by rfl,?_⟩) ?_ ?_
      rotate_left
      ·intro w'
       go_simp
       with_reducible rfl
      rotate_left
      ·simp only [Act.put,xA,xB,xC,i64_w,i32_w]
       rfl
      refine pure_ (i:=6) (N:=some 77) (v:=?_) (a':=?_) #[true,true,true,true,true,true,true,false,false,false,false,false,false,false,false,false,false,false,false,false,false,false,false,false,false,false,false] rfl rfl (any_of HT_.out (by kernel_rfl)) (fun _ _ _ h => h) (Or.inl ⟨by rfl,?_⟩) ?_ ?_
      rotate_left
      ·intro w'
       go_simp
       with_reducible rfl
      rotate_left
      ·simp only [Act.put,xA,xB,xC,i64_w,i32_w]
       rfl
      refine pure_ (i:=7) (N:=some 78) (v:=?_) (a':=?_) #[true,true,true,true,true,true,true,true,false,false,false,false,false,false,false,false,false,false,false,false,false,false,false,false,false,false,false] rfl rfl (any_of HT_.out (by kernel_rfl)) (fun _ _ _ h => h) (Or.inl ⟨by rfl,?_⟩) ?_ ?_
      rotate_left
      ·intro w'
       go_simp
       with_reducible rfl
      rotate_left
      ·simp only [Act.put,xA,xB,xC,i64_w,i32_w]
       rfl
      refine pure_ (i:=8) (N:=some 79) (v:=?_) (a':=?_) #[true,true,true,true,true,true,true,true,true,false,false,false,false,false,false,false,false,false,false,false,false,false,false,false,false,false,false] rfl rfl (any_of HT_.out (by kernel_rfl)) (fun _ _ _ h => h) (Or.inl ⟨by rfl,?_⟩) ?_ ?_
      rotate_left
      ·intro w'
       go_simp
       with_reducible rfl
      rotate_left
      ·simp only [Act.put,xA,xB,xC,i64_w,i32_w]
       rfl
      refine take_ (i:=9) (N:=some 80) (v:=?_) (a':=?_) #[true,true,true,true,true,true,true,true,true,true,false,false,false,false,false,false,false,false,false,false,false,false,false,false,false,false,false] rfl rfl (take_ofW HT_.out HW_.out (by kernel_rfl)) (fun _ _ _ h => h) (Or.inl ⟨by rfl,?_⟩) hHeld ?_ ?_
      rotate_left
      ·rintro w' ⟨s0,s1,s2,s3,s4,s5,s6,s7,s8,s9,s10,s11,s12,s13⟩
       go_simp
       with_reducible rfl
      rotate_left
      ·simp only [Act.put,xA,xB,xC,i64_w,i32_w]
       rfl
      refine one_ (i:=10) (N:=some 81) #[true,true,true,true,true,true,true,true,true,true,true,false,false,false,false,false,false,false,false,false,false,false,false,false,false,false,false] rfl rfl (one_of HT_.out (by kernel_rfl)) (by decide) (fun K hK => ?_)
      refine goes_ Try.func25 (by kernel_rfl) rfl #[.agg #[.float .f64 t169,.int .i64 t170,.int .i64 t171,.int .i64 t172,.int .i64 t173,.int .i64 t174,.int .i64 t175]] (by rfl) rfl rfl (by (try simp only [List.map_toArray,List.map_cons,List.map_nil]);first|done|rfl|(simp only [List.length_drop,List.length_take];rfl)) ?_
      with_reducible refine (session_Check.calls kj4 t169 t170 t171 t172 t173 t174 t175 t199 _ A65.out).mono ?_
      rintro e w150 ⟨rfl,hb⟩
      refine ⟨_,rfl,?_⟩
      have n0_:=Aside0.mk (bB (by (with_reducible repeat first|apply bN|apply bD|apply bA);exact K168.1) hb)
      have n1_:=Aside0.mk (bB (by (with_reducible repeat first|apply bN|apply bD|apply bA);exact K176.1) hb)
      have n2_:=Aside0.mk (bB (by (with_reducible repeat first|apply bN|apply bD|apply bA);exact K184.1) hb)
      have n3_:=Aside0.mk (bB (by (with_reducible repeat first|apply bN|apply bD|apply bA);exact K190.1) hb)
      have n4_:=Aside0.mk (bB (by (with_reducible repeat first|apply bN|apply bD|apply bA);exact K196.1) hb)
      have n5_:=Aside0.mk (below_step (by repeat (first|(with_reducible first|exact HB.1|apply bwA|apply bwN|apply bw1|refine bS ?_ GE168.1|refine bS ?_ GE176.1|refine bS ?_ GE184.1|refine bS ?_ GE190.1|refine bS ?_ GE196.1)|exact HB.1)) hb)
      clear K168
      clear K176
      clear K184
      clear K190
      clear K196
      clear HB
      have K168:=n0_
      have K176:=n1_
      have K184:=n2_
      have K190:=n3_
      have K196:=n4_
      have HB:=n5_
      clear n0_ n1_ n2_ n3_ n4_ n5_
      (try clear hb)
      (try clear hb2)
      (try clear hk)
      (try clear hi)
      refine hK.out _ _ ⟨(bC K168.1 0).trans rfl,(bC K168.1 1).trans rfl,(bC K168.1 2).trans rfl,(bC K168.1 3).trans rfl,(bC K168.1 4).trans rfl,(bC K168.1 5).trans rfl,(bC K168.1 6).trans rfl,(bC K176.1 0).trans rfl,(bC K176.1 1).trans rfl,(bC K176.1 2).trans rfl,(bC K176.1 3).trans rfl,(bC K176.1 4).trans rfl,(bC K176.1 5).trans rfl,(bC K176.1 6).trans rfl⟩ (fun hHeld => ?_)
      clear hK K
      refine norm_ (a':=?_) ?_ ?_
      rotate_left
      ·show Act.put _ (some 81) _ = _
       simp only [Act.put,xA,xB,xC,i64_w,i32_w]
       rfl
      refine pure_ (i:=11) (N:=some 82) (v:=?_) (a':=?_) #[true,true,true,true,true,true,true,true,true,true,true,true,false,false,false,false,false,false,false,false,false,false,false,false,false,false,false] rfl rfl (any_of HT_.out (by kernel_rfl)) (fun _ _ _ h => h) (Or.inl ⟨by rfl,?_⟩) ?_ ?_
      rotate_left
      ·intro w'
       go_simp
       with_reducible rfl
      rotate_left
      ·simp only [Act.put,xA,xB,xC,i64_w,i32_w]
       rfl
      refine pure_ (i:=12) (N:=some 83) (v:=?_) (a':=?_) #[true,true,true,true,true,true,true,true,true,true,true,true,true,false,false,false,false,false,false,false,false,false,false,false,false,false,false] rfl rfl (any_of HT_.out (by kernel_rfl)) (fun _ _ _ h => h) (Or.inl ⟨by rfl,?_⟩) ?_ ?_
      rotate_left
      ·intro w'
       go_simp
       with_reducible rfl
      rotate_left
      ·simp only [Act.put,xA,xB,xC,i64_w,i32_w]
       rfl
      refine pure_ (i:=13) (N:=some 84) (v:=?_) (a':=?_) #[true,true,true,true,true,true,true,true,true,true,true,true,true,true,false,false,false,false,false,false,false,false,false,false,false,false,false] rfl rfl (any_of HT_.out (by kernel_rfl)) (fun _ _ _ h => h) (Or.inl ⟨by rfl,?_⟩) ?_ ?_
      rotate_left
      ·intro w'
       go_simp
       with_reducible rfl
      rotate_left
      ·simp only [Act.put,xA,xB,xC,i64_w,i32_w]
       rfl
      refine pure_ (i:=14) (N:=some 85) (v:=undef) (a':=?_) #[true,true,true,true,true,true,true,true,true,true,true,true,true,true,true,false,false,false,false,false,false,false,false,false,false,false,false] rfl rfl (any_of HT_.out (by kernel_rfl)) (fun _ _ _ h => h) (Or.inr ⟨by rfl,rfl⟩) ?_ ?_
      rotate_left
      ·simp only [Act.put,xA,xB,xC,i64_w,i32_w]
       rfl
      refine pure_ (i:=15) (N:=some 86) (v:=undef) (a':=?_) #[true,true,true,true,true,true,true,true,true,true,true,true,true,true,true,true,false,false,false,false,false,false,false,false,false,false,false] rfl rfl (any_of HT_.out (by kernel_rfl)) (fun _ _ _ h => h) (Or.inr ⟨by rfl,rfl⟩) ?_ ?_
      rotate_left
      ·simp only [Act.put,xA,xB,xC,i64_w,i32_w]
       rfl
      refine pure_ (i:=16) (N:=some 87) (v:=undef) (a':=?_) #[true,true,true,true,true,true,true,true,true,true,true,true,true,true,true,true,true,false,false,false,false,false,false,false,false,false,false] rfl rfl (any_of HT_.out (by kernel_rfl)) (fun _ _ _ h => h) (Or.inr ⟨by rfl,rfl⟩) ?_ ?_
      rotate_left
      ·simp only [Act.put,xA,xB,xC,i64_w,i32_w]
       rfl
      refine pure_ (i:=17) (N:=some 88) (v:=?_) (a':=?_) #[true,true,true,true,true,true,true,true,true,true,true,true,true,true,true,true,true,true,false,false,false,false,false,false,false,false,false] rfl rfl (any_of HT_.out (by kernel_rfl)) (fun _ _ _ h => h) (Or.inl ⟨by rfl,?_⟩) ?_ ?_
      rotate_left
      ·intro w'
       go_simp
       with_reducible rfl
      rotate_left
      ·simp only [Act.put,xA,xB,xC,i64_w,i32_w]
       rfl
      refine pure_ (i:=18) (N:=some 89) (v:=?_) (a':=?_) #[true,true,true,true,true,true,true,true,true,true,true,true,true,true,true,true,true,true,true,false,false,false,false,false,false,false,false] rfl rfl (any_of HT_.out (by kernel_rfl)) (fun _ _ _ h => h) (Or.inl ⟨by rfl,?_⟩) ?_ ?_
      rotate_left
      ·intro w'
       go_simp
       with_reducible rfl
      rotate_left
      ·simp only [Act.put,xA,xB,xC,i64_w,i32_w]
       rfl
      refine pure_ (i:=19) (N:=some 90) (v:=undef) (a':=?_) #[true,true,true,true,true,true,true,true,true,true,true,true,true,true,true,true,true,true,true,true,false,false,false,false,false,false,false] rfl rfl (any_of HT_.out (by kernel_rfl)) (fun _ _ _ h => h) (Or.inr ⟨by rfl,rfl⟩) ?_ ?_
      rotate_left
      ·simp only [Act.put,xA,xB,xC,i64_w,i32_w]
       rfl
      refine pure_ (i:=20) (N:=some 91) (v:=undef) (a':=?_) #[true,true,true,true,true,true,true,true,true,true,true,true,true,true,true,true,true,true,true,true,true,false,false,false,false,false,false] rfl rfl (any_of HT_.out (by kernel_rfl)) (fun _ _ _ h => h) (Or.inr ⟨by rfl,rfl⟩) ?_ ?_
      rotate_left
      ·simp only [Act.put,xA,xB,xC,i64_w,i32_w]
       rfl
      refine pure_ (i:=21) (N:=some 92) (v:=undef) (a':=?_) #[true,true,true,true,true,true,true,true,true,true,true,true,true,true,true,true,true,true,true,true,true,true,false,false,false,false,false] rfl rfl (any_of HT_.out (by kernel_rfl)) (fun _ _ _ h => h) (Or.inr ⟨by rfl,rfl⟩) ?_ ?_
      rotate_left
      ·simp only [Act.put,xA,xB,xC,i64_w,i32_w]
       rfl
      refine pure_ (i:=22) (N:=some 93) (v:=?_) (a':=?_) #[true,true,true,true,true,true,true,true,true,true,true,true,true,true,true,true,true,true,true,true,true,true,true,false,false,false,false] rfl rfl (any_of HT_.out (by kernel_rfl)) (fun _ _ _ h => h) (Or.inl ⟨by rfl,?_⟩) ?_ ?_
      rotate_left
      ·intro w'
       go_simp
       with_reducible rfl
      rotate_left
      ·simp only [Act.put,xA,xB,xC,i64_w,i32_w]
       rfl
      refine pure_ (i:=23) (N:=some 94) (v:=?_) (a':=?_) #[true,true,true,true,true,true,true,true,true,true,true,true,true,true,true,true,true,true,true,true,true,true,true,true,false,false,false] rfl rfl (any_of HT_.out (by kernel_rfl)) (fun _ _ _ h => h) (Or.inl ⟨by rfl,?_⟩) ?_ ?_
      rotate_left
      ·intro w'
       go_simp
       with_reducible rfl
      rotate_left
      ·simp only [Act.put,xA,xB,xC,i64_w,i32_w]
       rfl
      refine pure_ (i:=24) (N:=some 95) (v:=undef) (a':=?_) #[true,true,true,true,true,true,true,true,true,true,true,true,true,true,true,true,true,true,true,true,true,true,true,true,true,false,false] rfl rfl (any_of HT_.out (by kernel_rfl)) (fun _ _ _ h => h) (Or.inr ⟨by rfl,rfl⟩) ?_ ?_
      rotate_left
      ·simp only [Act.put,xA,xB,xC,i64_w,i32_w]
       rfl
      refine pure_ (i:=25) (N:=some 96) (v:=?_) (a':=?_) #[true,true,true,true,true,true,true,true,true,true,true,true,true,true,true,true,true,true,true,true,true,true,true,true,true,true,false] rfl rfl (any_of HT_.out (by kernel_rfl)) (fun _ _ _ h => h) (Or.inl ⟨by rfl,?_⟩) ?_ ?_
      rotate_left
      ·intro w'
       go_simp
       with_reducible rfl
      rotate_left
      ·simp only [Act.put,xA,xB,xC,i64_w,i32_w]
       rfl
      refine pure_ (i:=26) (N:=some 4) (v:=?_) (a':=?_) #[true,true,true,true,true,true,true,true,true,true,true,true,true,true,true,true,true,true,true,true,true,true,true,true,true,true,true] rfl rfl (any_of HT_.out (by kernel_rfl)) (fun _ _ _ h => h) (Or.inl ⟨by rfl,?_⟩) ?_ ?_
      rotate_left
      ·intro w'
       go_simp
       with_reducible rfl
      rotate_left
      ·simp only [Act.put,xA,xB,xC,i64_w,i32_w]
       rfl
      refine done_ (done_of HT_.out (by kernel_rfl)) ?_
      try go_wp2
      go_ret
      exact ⟨by first|rfl|(simp [errW_none,errW_some] <;> rfl)|(simp [*,errW_none,errW_some] <;> rfl),by repeat (first|(with_reducible first|exact HB.1|apply bwA|apply bwN|apply bw1|refine bS ?_ GE168.1|refine bS ?_ GE176.1|refine bS ?_ GE184.1|refine bS ?_ GE190.1|refine bS ?_ GE196.1)|exact HB.1)⟩
    ·replace c64:=Bool.eq_false_iff.mpr c64
     subst c64
     have H1 : (some false) = some r:=by rw [if_neg (show ¬ (false = true) by decide)] at H;exact H
     clear H
     have H:=H1
     clear H1
     obtain rfl:=Option.some.inj H
     try go_wp2_with (first|((with_reducible refine gate_callee (f:=7) rfl ?_);refine goesL_ (some 63) rfl rfl Try.func7 (by kernel_rfl) rfl #[.int .u64 a1] rfl (by (try simp only [List.map_toArray,List.map_cons,List.map_nil]);first|done|rfl|(simp only [List.length_drop,List.length_take];rfl)) ?_;(with_reducible refine (session_New.calls a1 t185 t186 t187 t188 t189 _ A59.out).mono ?_);rintro e w151 ⟨rfl,hb⟩;refine ⟨_,rfl,?_⟩;have n0_:=Aside0.mk (bB (by (with_reducible repeat first|apply bN|apply bD|apply bA);exact K168.1) hb);have n1_:=Aside0.mk (bB (by (with_reducible repeat first|apply bN|apply bD|apply bA);exact K176.1) hb);have n2_:=Aside0.mk (bB (by (with_reducible repeat first|apply bN|apply bD|apply bA);exact K184.1) hb);have n3_:=Aside0.mk (below_step (by repeat (first|(with_reducible first|exact HB.1|apply bwA|apply bwN|apply bw1|refine bS ?_ GE168.1|refine bS ?_ GE176.1|refine bS ?_ GE184.1)|exact HB.1)) hb);clear K168;clear K176;clear K184;clear HB;have K168:=n0_;have K176:=n1_;have K184:=n2_;have HB:=n3_;clear n0_ n1_ n2_ n3_;(try clear hb);(try clear hb2);(try clear hk);(try clear hi))|((with_reducible refine gate_dst (N:=8) rfl ?_);refine box_event ?hg (N:=8) ?hd (cs:=#[.int .u64 0,.int .u64 0,.bool false,.int .i64 0]) (t:=26) ?hr ?_;(case hd => rfl);(case hg => rfl);(case hr => first|(go_simp;done)|(go_simp;rfl));intro G190 hg w152 hbox hb;have n0_:=Aside0.mk (bB (by (with_reducible repeat first|apply bN|apply bD|apply bA);exact K168.1) hb);have n1_:=Aside0.mk (bB (by (with_reducible repeat first|apply bN|apply bD|apply bA);exact K176.1) hb);have n2_:=Aside0.mk (bB (by (with_reducible repeat first|apply bN|apply bD|apply bA);exact K184.1) hb);have n3_:=Aside0.mk (below_step (by repeat (first|(with_reducible first|exact HB.1|apply bwA|apply bwN|apply bw1|refine bS ?_ GE168.1|refine bS ?_ GE176.1|refine bS ?_ GE184.1)|exact HB.1)) hb);have n4_:=Aside0.mk (hbox);have n5_:=Aside0.mk ((by rw [hg];exact (below_size (by repeat (first|(with_reducible first|exact HB.1|apply bwA|apply bwN|apply bw1|refine bS ?_ GE168.1|refine bS ?_ GE176.1|refine bS ?_ GE184.1)|exact HB.1))) : w.heap.size ≤ G190));have n6_:=Aside0.mk ((by rw [hg];exact (below_size (by repeat (first|(with_reducible first|exact HB.1|apply bwA|apply bwN|apply bw1|refine bS ?_ GE168.1|refine bS ?_ GE176.1|refine bS ?_ GE184.1)|exact HB.1))) : w.heap.size ≤ G190));have n7_:=Aside0.mk ((by rw [hg];exact Nat.ne_of_lt (blk_lt (g:=G168) (by (with_reducible repeat first|apply bN|apply bD|apply bA);exact K168.1)) : G168 ≠ G190));have n8_:=Aside0.mk ((by rw [hg];exact Nat.ne_of_gt (blk_lt (g:=G168) (by (with_reducible repeat first|apply bN|apply bD|apply bA);exact K168.1)) : G190 ≠ G168));have n9_:=Aside0.mk ((by rw [hg];exact Nat.ne_of_lt (blk_lt (g:=G176) (by (with_reducible repeat first|apply bN|apply bD|apply bA);exact K176.1)) : G176 ≠ G190));have n10_:=Aside0.mk ((by rw [hg];exact Nat.ne_of_gt (blk_lt (g:=G176) (by (with_reducible repeat first|apply bN|apply bD|apply bA);exact K176.1)) : G190 ≠ G176));have n11_:=Aside0.mk ((by rw [hg];exact Nat.ne_of_lt (blk_lt (g:=G184) (by (with_reducible repeat first|apply bN|apply bD|apply bA);exact K184.1)) : G184 ≠ G190));have n12_:=Aside0.mk ((by rw [hg];exact Nat.ne_of_gt (blk_lt (g:=G184) (by (with_reducible repeat first|apply bN|apply bD|apply bA);exact K184.1)) : G190 ≠ G184));clear K168;clear K176;clear K184;clear HB;have K168:=n0_;have K176:=n1_;have K184:=n2_;have HB:=n3_;have K190:=n4_;have GW190:=n5_;have GE190:=n6_;have NB168_190:=n7_;have NB190_168:=n8_;have NB176_190:=n9_;have NB190_176:=n10_;have NB184_190:=n11_;have NB190_184:=n12_;clear n0_ n1_ n2_ n3_ n4_ n5_ n6_ n7_ n8_ n9_ n10_ n11_ n12_;clear hb hbox hg;have hnb153:=NB190_168.1;have hnc153:=NB168_190.1;have hnb154:=NB190_176.1;have hnc154:=NB176_190.1;have hnb155:=NB190_184.1;have hnc155:=NB184_190.1;have hcz156_0 : w152.cell? ⟨G190,0,none⟩ = some (.int .u64 0):=(bC K190.1 0).trans rfl;have hcz156_1 : w152.cell? ⟨G190,1,none⟩ = some (.int .u64 0):=(bC K190.1 1).trans rfl;have hcz156_2 : w152.cell? ⟨G190,2,none⟩ = some (.bool false):=(bC K190.1 2).trans rfl;have hcz156_3 : w152.cell? ⟨G190,3,none⟩ = some (.int .i64 0):=(bC K190.1 3).trans rfl;have hfz156_0:=bF K190.1 0;have hfz156_1:=bF K190.1 1;have hfz156_2:=bF K190.1 2;have hfz156_3:=bF K190.1 3)|((with_reducible refine gate_store (t:=26) (p:=8) rfl ?_);refine store_event (t:=26) (p:=8) (v:=?vo_w157) (w1:=((((w152.setCell ⟨G190,0,none⟩ (.int .u64 t185)).setCell ⟨G190,1,none⟩ (.int .u64 t186)).setCell ⟨G190,2,none⟩ (.bool t187)).setCell ⟨G190,3,none⟩ (.int .i64 t188))) ?hg ?ho ?hn ?hr ?_;(case ho => rfl);(case hg => rfl);(case hn => rfl);(case hr => first|(go_simp;done)|(go_simp;rfl));intro w157 hw;have n0_ : Aside0 (w157.heap[G168]? = some (.cells #[.float .f64 a0_0,.int .i64 a0_1,.int .i64 a0_2,.int .i64 a0_3,.int .i64 a0_4,.int .i64 a0_5,.int .i64 a0_6] 54 (0,0))):=⟨(by rw [hw];exact (by (with_reducible repeat first|apply bN|apply bD|apply bA);refine bZ ?_ NB168_190.1 _;(with_reducible repeat first|apply bN|apply bD|apply bA);refine bZ ?_ NB168_190.1 _;(with_reducible repeat first|apply bN|apply bD|apply bA);refine bZ ?_ NB168_190.1 _;(with_reducible repeat first|apply bN|apply bD|apply bA);refine bZ ?_ NB168_190.1 _;(with_reducible repeat first|apply bN|apply bD|apply bA);exact K168.1))⟩;have n1_ : Aside0 (w157.heap[G176]? = some (.cells #[.float .f64 t169,.int .i64 t170,.int .i64 t171,.int .i64 t172,.int .i64 t173,.int .i64 t174,.int .i64 t175] 54 (0,0))):=⟨(by rw [hw];exact (by (with_reducible repeat first|apply bN|apply bD|apply bA);refine bZ ?_ NB176_190.1 _;(with_reducible repeat first|apply bN|apply bD|apply bA);refine bZ ?_ NB176_190.1 _;(with_reducible repeat first|apply bN|apply bD|apply bA);refine bZ ?_ NB176_190.1 _;(with_reducible repeat first|apply bN|apply bD|apply bA);refine bZ ?_ NB176_190.1 _;(with_reducible repeat first|apply bN|apply bD|apply bA);exact K176.1))⟩;have n2_ : Aside0 (w157.heap[G184]? = some (.cells #[.float .f64 t177,.int .i64 t178,.int .i64 t179,.int .i64 t180,.int .i64 t181,.int .i64 t182,.int .i64 t183] 54 (0,0))):=⟨(by rw [hw];exact (by (with_reducible repeat first|apply bN|apply bD|apply bA);refine bZ ?_ NB184_190.1 _;(with_reducible repeat first|apply bN|apply bD|apply bA);refine bZ ?_ NB184_190.1 _;(with_reducible repeat first|apply bN|apply bD|apply bA);refine bZ ?_ NB184_190.1 _;(with_reducible repeat first|apply bN|apply bD|apply bA);refine bZ ?_ NB184_190.1 _;(with_reducible repeat first|apply bN|apply bD|apply bA);exact K184.1))⟩;have n3_ : Aside0 (w157.heap[G190]? = some (.cells #[.int .u64 t185,.int .u64 t186,.bool t187,.int .i64 t188] 26 (0,0))):=⟨(by rw [hw];exact (by (with_reducible repeat first|apply bN|apply bD|apply bA);refine blk_put (cs:=#[.int .u64 t185,.int .u64 t186,.bool t187,.int .i64 0]) ?_ 3 _ rfl;(with_reducible repeat first|apply bN|apply bD|apply bA);refine blk_put (cs:=#[.int .u64 t185,.int .u64 t186,.bool false,.int .i64 0]) ?_ 2 _ rfl;(with_reducible repeat first|apply bN|apply bD|apply bA);refine blk_put (cs:=#[.int .u64 t185,.int .u64 0,.bool false,.int .i64 0]) ?_ 1 _ rfl;(with_reducible repeat first|apply bN|apply bD|apply bA);refine blk_put (cs:=#[.int .u64 0,.int .u64 0,.bool false,.int .i64 0]) ?_ 0 _ rfl;(with_reducible repeat first|apply bN|apply bD|apply bA);exact K190.1))⟩;have n4_ : Aside0 (Below w.heap.size w w157):=⟨(by rw [hw];exact (by repeat (first|(with_reducible first|exact HB.1|apply bwA|apply bwN|apply bw1|refine bS ?_ GE168.1|refine bS ?_ GE176.1|refine bS ?_ GE184.1|refine bS ?_ GE190.1)|exact HB.1)))⟩;clear hw;clear K168;clear K176;clear K184;clear K190;clear HB;have K168:=n0_;have K176:=n1_;have K184:=n2_;have K190:=n3_;have HB:=n4_;clear n0_ n1_ n2_ n3_ n4_)|((with_reducible refine gate_callee (f:=24) rfl ?_);refine goesL_ (some 68) rfl rfl Try.func24 (by kernel_rfl) rfl #[.int .u64 a1] rfl (by (try simp only [List.map_toArray,List.map_cons,List.map_nil]);first|done|rfl|(simp only [List.length_drop,List.length_take];rfl)) ?_;(with_reducible refine (beaconref12_New.calls a1 t191 t192 t193 t194 t195 _ A60.out).mono ?_);rintro e w158 ⟨rfl,hb⟩;refine ⟨_,rfl,?_⟩;have n0_:=Aside0.mk (bB (by (with_reducible repeat first|apply bN|apply bD|apply bA);exact K168.1) hb);have n1_:=Aside0.mk (bB (by (with_reducible repeat first|apply bN|apply bD|apply bA);exact K176.1) hb);have n2_:=Aside0.mk (bB (by (with_reducible repeat first|apply bN|apply bD|apply bA);exact K184.1) hb);have n3_:=Aside0.mk (bB (by (with_reducible repeat first|apply bN|apply bD|apply bA);exact K190.1) hb);have n4_:=Aside0.mk (below_step (by repeat (first|(with_reducible first|exact HB.1|apply bwA|apply bwN|apply bw1|refine bS ?_ GE168.1|refine bS ?_ GE176.1|refine bS ?_ GE184.1|refine bS ?_ GE190.1)|exact HB.1)) hb);clear K168;clear K176;clear K184;clear K190;clear HB;have K168:=n0_;have K176:=n1_;have K184:=n2_;have K190:=n3_;have HB:=n4_;clear n0_ n1_ n2_ n3_ n4_;(try clear hb);(try clear hb2);(try clear hk);(try clear hi))|((with_reducible refine gate_dst (N:=10) rfl ?_);refine box_event ?hg (N:=10) ?hd (cs:=#[.int .u64 0,.int .u64 0,.bool false,.int .i64 0]) (t:=26) ?hr ?_;(case hd => rfl);(case hg => rfl);(case hr => first|(go_simp;done)|(go_simp;rfl));intro G196 hg w159 hbox hb;have n0_:=Aside0.mk (bB (by (with_reducible repeat first|apply bN|apply bD|apply bA);exact K168.1) hb);have n1_:=Aside0.mk (bB (by (with_reducible repeat first|apply bN|apply bD|apply bA);exact K176.1) hb);have n2_:=Aside0.mk (bB (by (with_reducible repeat first|apply bN|apply bD|apply bA);exact K184.1) hb);have n3_:=Aside0.mk (bB (by (with_reducible repeat first|apply bN|apply bD|apply bA);exact K190.1) hb);have n4_:=Aside0.mk (below_step (by repeat (first|(with_reducible first|exact HB.1|apply bwA|apply bwN|apply bw1|refine bS ?_ GE168.1|refine bS ?_ GE176.1|refine bS ?_ GE184.1|refine bS ?_ GE190.1)|exact HB.1)) hb);have n5_:=Aside0.mk (hbox);have n6_:=Aside0.mk ((by rw [hg];exact (below_size (by repeat (first|(with_reducible first|exact HB.1|apply bwA|apply bwN|apply bw1|refine bS ?_ GE168.1|refine bS ?_ GE176.1|refine bS ?_ GE184.1|refine bS ?_ GE190.1)|exact HB.1))) : w.heap.size ≤ G196));have n7_:=Aside0.mk ((by rw [hg];exact (below_size (by repeat (first|(with_reducible first|exact HB.1|apply bwA|apply bwN|apply bw1|refine bS ?_ GE168.1|refine bS ?_ GE176.1|refine bS ?_ GE184.1|refine bS ?_ GE190.1)|exact HB.1))) : w.heap.size ≤ G196));have n8_:=Aside0.mk ((by rw [hg];exact Nat.ne_of_lt (blk_lt (g:=G168) (by (with_reducible repeat first|apply bN|apply bD|apply bA);exact K168.1)) : G168 ≠ G196));have n9_:=Aside0.mk ((by rw [hg];exact Nat.ne_of_gt (blk_lt (g:=G168) (by (with_reducible repeat first|apply bN|apply bD|apply bA);exact K168.1)) : G196 ≠ G168));have n10_:=Aside0.mk ((by rw [hg];exact Nat.ne_of_lt (blk_lt (g:=G176) (by (with_reducible repeat first|apply bN|apply bD|apply bA);exact K176.1)) : G176 ≠ G196));have n11_:=Aside0.mk ((by rw [hg];exact Nat.ne_of_gt (blk_lt (g:=G176) (by (with_reducible repeat first|apply bN|apply bD|apply bA);exact K176.1)) : G196 ≠ G176));have n12_:=Aside0.mk ((by rw [hg];exact Nat.ne_of_lt (blk_lt (g:=G184) (by (with_reducible repeat first|apply bN|apply bD|apply bA);exact K184.1)) : G184 ≠ G196));have n13_:=Aside0.mk ((by rw [hg];exact Nat.ne_of_gt (blk_lt (g:=G184) (by (with_reducible repeat first|apply bN|apply bD|apply bA);exact K184.1)) : G196 ≠ G184));have n14_:=Aside0.mk ((by rw [hg];exact Nat.ne_of_lt (blk_lt (g:=G190) (by (with_reducible repeat first|apply bN|apply bD|apply bA);exact K190.1)) : G190 ≠ G196));have n15_:=Aside0.mk ((by rw [hg];exact Nat.ne_of_gt (blk_lt (g:=G190) (by (with_reducible repeat first|apply bN|apply bD|apply bA);exact K190.1)) : G196 ≠ G190));clear K168;clear K176;clear K184;clear K190;clear HB;have K168:=n0_;have K176:=n1_;have K184:=n2_;have K190:=n3_;have HB:=n4_;have K196:=n5_;have GW196:=n6_;have GE196:=n7_;have NB168_196:=n8_;have NB196_168:=n9_;have NB176_196:=n10_;have NB196_176:=n11_;have NB184_196:=n12_;have NB196_184:=n13_;have NB190_196:=n14_;have NB196_190:=n15_;clear n0_ n1_ n2_ n3_ n4_ n5_ n6_ n7_ n8_ n9_ n10_ n11_ n12_ n13_ n14_ n15_;clear hb hbox hg;have hnb160:=NB196_168.1;have hnc160:=NB168_196.1;have hnb161:=NB196_176.1;have hnc161:=NB176_196.1;have hnb162:=NB196_184.1;have hnc162:=NB184_196.1;have hnb163:=NB196_190.1;have hnc163:=NB190_196.1;have hcz164_0 : w159.cell? ⟨G196,0,none⟩ = some (.int .u64 0):=(bC K196.1 0).trans rfl;have hcz164_1 : w159.cell? ⟨G196,1,none⟩ = some (.int .u64 0):=(bC K196.1 1).trans rfl;have hcz164_2 : w159.cell? ⟨G196,2,none⟩ = some (.bool false):=(bC K196.1 2).trans rfl;have hcz164_3 : w159.cell? ⟨G196,3,none⟩ = some (.int .i64 0):=(bC K196.1 3).trans rfl;have hfz164_0:=bF K196.1 0;have hfz164_1:=bF K196.1 1;have hfz164_2:=bF K196.1 2;have hfz164_3:=bF K196.1 3)|((with_reducible refine gate_store (t:=26) (p:=10) rfl ?_);refine store_event (t:=26) (p:=10) (v:=?vo_w165) (w1:=((((w159.setCell ⟨G196,0,none⟩ (.int .u64 t191)).setCell ⟨G196,1,none⟩ (.int .u64 t192)).setCell ⟨G196,2,none⟩ (.bool t193)).setCell ⟨G196,3,none⟩ (.int .i64 t194))) ?hg ?ho ?hn ?hr ?_;(case ho => rfl);(case hg => rfl);(case hn => rfl);(case hr => first|(go_simp;done)|(go_simp;rfl));intro w165 hw;have n0_ : Aside0 (w165.heap[G168]? = some (.cells #[.float .f64 a0_0,.int .i64 a0_1,.int .i64 a0_2,.int .i64 a0_3,.int .i64 a0_4,.int .i64 a0_5,.int .i64 a0_6] 54 (0,0))):=⟨(by rw [hw];exact (by (with_reducible repeat first|apply bN|apply bD|apply bA);refine bZ ?_ NB168_196.1 _;(with_reducible repeat first|apply bN|apply bD|apply bA);refine bZ ?_ NB168_196.1 _;(with_reducible repeat first|apply bN|apply bD|apply bA);refine bZ ?_ NB168_196.1 _;(with_reducible repeat first|apply bN|apply bD|apply bA);refine bZ ?_ NB168_196.1 _;(with_reducible repeat first|apply bN|apply bD|apply bA);exact K168.1))⟩;have n1_ : Aside0 (w165.heap[G176]? = some (.cells #[.float .f64 t169,.int .i64 t170,.int .i64 t171,.int .i64 t172,.int .i64 t173,.int .i64 t174,.int .i64 t175] 54 (0,0))):=⟨(by rw [hw];exact (by (with_reducible repeat first|apply bN|apply bD|apply bA);refine bZ ?_ NB176_196.1 _;(with_reducible repeat first|apply bN|apply bD|apply bA);refine bZ ?_ NB176_196.1 _;(with_reducible repeat first|apply bN|apply bD|apply bA);refine bZ ?_ NB176_196.1 _;(with_reducible repeat first|apply bN|apply bD|apply bA);refine bZ ?_ NB176_196.1 _;(with_reducible repeat first|apply bN|apply bD|apply bA);exact K176.1))⟩;have n2_ : Aside0 (w165.heap[G184]? = some (.cells #[.float .f64 t177,.int .i64 t178,.int .i64 t179,.int .i64 t180,.int .i64 t181,.int .i64 t182,.int .i64 t183] 54 (0,0))):=⟨(by rw [hw];exact (by (with_reducible repeat first|apply bN|apply bD|apply bA);refine bZ ?_ NB184_196.1 _;(with_reducible repeat first|apply bN|apply bD|apply bA);refine bZ ?_ NB184_196.1 _;(with_reducible repeat first|apply bN|apply bD|apply bA);refine bZ ?_ NB184_196.1 _;(with_reducible repeat first|apply bN|apply bD|apply bA);refine bZ ?_ NB184_196.1 _;(with_reducible repeat first|apply bN|apply bD|apply bA);exact K184.1))⟩;have n3_ : Aside0 (w165.heap[G190]? = some (.cells #[.int .u64 t185,.int .u64 t186,.bool t187,.int .i64 t188] 26 (0,0))):=⟨(by rw [hw];exact (by (with_reducible repeat first|apply bN|apply bD|apply bA);refine bZ ?_ NB190_196.1 _;(with_reducible repeat first|apply bN|apply bD|apply bA);refine bZ ?_ NB190_196.1 _;(with_reducible repeat first|apply bN|apply bD|apply bA);refine bZ ?_ NB190_196.1 _;(with_reducible repeat first|apply bN|apply bD|apply bA);refine bZ ?_ NB190_196.1 _;(with_reducible repeat first|apply bN|apply bD|apply bA);exact K190.1))⟩;have n4_ : Aside0 (w165.heap[G196]? = some (.cells #[.int .u64 t191,.int .u64 t192,.bool t193,.int .i64 t194] 26 (0,0))):=⟨(by rw [hw];exact (by (with_reducible repeat first|apply bN|apply bD|apply bA);refine blk_put (cs:=#[.int .u64 t191,.int .u64 t192,.bool t193,.int .i64 0]) ?_ 3 _ rfl;(with_reducible repeat first|apply bN|apply bD|apply bA);refine blk_put (cs:=#[.int .u64 t191,.int .u64 t192,.bool false,.int .i64 0]) ?_ 2 _ rfl;(with_reducible repeat first|apply bN|apply bD|apply bA);refine blk_put (cs:=#[.int .u64 t191,.int .u64 0,.bool false,.int .i64 0]) ?_ 1 _ rfl;(with_reducible repeat first|apply bN|apply bD|apply bA);refine blk_put (cs:=#[.int .u64 0,.int .u64 0,.bool false,.int .i64 0]) ?_ 0 _ rfl;(with_reducible repeat first|apply bN|apply bD|apply bA);exact K196.1))⟩;have n5_ : Aside0 (Below w.heap.size w w165):=⟨(by rw [hw];exact (by repeat (first|(with_reducible first|exact HB.1|apply bwA|apply bwN|apply bw1|refine bS ?_ GE168.1|refine bS ?_ GE176.1|refine bS ?_ GE184.1|refine bS ?_ GE190.1|refine bS ?_ GE196.1)|exact HB.1)))⟩;clear hw;clear K168;clear K176;clear K184;clear K190;clear K196;clear HB;have K168:=n0_;have K176:=n1_;have K184:=n2_;have K190:=n3_;have K196:=n4_;have HB:=n5_;clear n0_ n1_ n2_ n3_ n4_ n5_))
     have n0_:=Aside0.mk (bD K168.1)
     have n1_:=Aside0.mk (bD K176.1)
     have n2_:=Aside0.mk (bD K184.1)
     have n3_:=Aside0.mk (bD K190.1)
     have n4_:=Aside0.mk (bD K196.1)
     have n5_:=Aside0.mk (bw1 HB.1)
     clear K168
     clear K176
     clear K184
     clear K190
     clear K196
     clear HB
     have K168:=n0_
     have K176:=n1_
     have K184:=n2_
     have K190:=n3_
     have K196:=n4_
     have HB:=n5_
     clear n0_ n1_ n2_ n3_ n4_ n5_
     refine start_ (n:=27) (S:=fun w' => w'.cell? ⟨G168,0,none⟩ = some (.float .f64 a0_0) ∧ w'.cell? ⟨G168,1,none⟩ = some (.int .i64 a0_1) ∧ w'.cell? ⟨G168,2,none⟩ = some (.int .i64 a0_2) ∧ w'.cell? ⟨G168,3,none⟩ = some (.int .i64 a0_3) ∧ w'.cell? ⟨G168,4,none⟩ = some (.int .i64 a0_4) ∧ w'.cell? ⟨G168,5,none⟩ = some (.int .i64 a0_5) ∧ w'.cell? ⟨G168,6,none⟩ = some (.int .i64 a0_6)) (ds:=[]) #[false,false,false,false,false,false,false,false,false,false,false,false,false,false,false,false,false,false,false,false,false,false,false,false,false,false,false] (by kernel_rfl) rfl rfl ⟨(bC K168.1 0).trans rfl,(bC K168.1 1).trans rfl,(bC K168.1 2).trans rfl,(bC K168.1 3).trans rfl,(bC K168.1 4).trans rfl,(bC K168.1 5).trans rfl,(bC K168.1 6).trans rfl⟩ (fun hHeld => ?_);refine with_tabW beaconlaw12_SessionChecks.tab6 beaconlaw12_SessionChecks.bits6 (fun HT_ HW_ => ?_)
     generalize w165.drew = w166 at K168 K176 K184 K190 K196 HB hHeld ⊢
     refine take_ (i:=0) (N:=some 71) (v:=?_) (a':=?_) #[true,false,false,false,false,false,false,false,false,false,false,false,false,false,false,false,false,false,false,false,false,false,false,false,false,false,false] rfl rfl (take_ofW HT_.out HW_.out (by kernel_rfl)) (fun _ _ _ h => h) (Or.inl ⟨by rfl,?_⟩) hHeld ?_ ?_
     rotate_left
     ·rintro w' ⟨s0,s1,s2,s3,s4,s5,s6⟩
      go_simp
      with_reducible rfl
     rotate_left
     ·simp only [Act.put,xA,xB,xC,i64_w,i32_w]
      rfl
     refine take_ (i:=2) (N:=some 73) (v:=?_) (a':=?_) #[true,false,true,false,false,false,false,false,false,false,false,false,false,false,false,false,false,false,false,false,false,false,false,false,false,false,false] rfl rfl (take_ofW HT_.out HW_.out (by kernel_rfl)) (fun _ _ _ h => h) (Or.inl ⟨by rfl,?_⟩) hHeld ?_ ?_
     rotate_left
     ·rintro w' ⟨s0,s1,s2,s3,s4,s5,s6⟩
      go_simp
      with_reducible rfl
     rotate_left
     ·simp only [Act.put,xA,xB,xC,i64_w,i32_w]
      rfl
     refine one_ (i:=1) (N:=some 72) #[true,true,true,false,false,false,false,false,false,false,false,false,false,false,false,false,false,false,false,false,false,false,false,false,false,false,false] rfl rfl (one_of HT_.out (by kernel_rfl)) (by decide) (fun K hK => ?_)
     refine goes_ Try.func25 (by kernel_rfl) rfl #[.agg #[.float .f64 a0_0,.int .i64 a0_1,.int .i64 a0_2,.int .i64 a0_3,.int .i64 a0_4,.int .i64 a0_5,.int .i64 a0_6]] (by rfl) rfl rfl (by (try simp only [List.map_toArray,List.map_cons,List.map_nil]);first|done|rfl|(simp only [List.length_drop,List.length_take];rfl)) ?_
     with_reducible refine (session_Check.calls kj4 a0_0 a0_1 a0_2 a0_3 a0_4 a0_5 a0_6 t197 _ A61.out).mono ?_
     rintro e w167 ⟨rfl,hb⟩
     refine ⟨_,rfl,?_⟩
     have n0_:=Aside0.mk (bB (by (with_reducible repeat first|apply bN|apply bD|apply bA);exact K168.1) hb)
     have n1_:=Aside0.mk (bB (by (with_reducible repeat first|apply bN|apply bD|apply bA);exact K176.1) hb)
     have n2_:=Aside0.mk (bB (by (with_reducible repeat first|apply bN|apply bD|apply bA);exact K184.1) hb)
     have n3_:=Aside0.mk (bB (by (with_reducible repeat first|apply bN|apply bD|apply bA);exact K190.1) hb)
     have n4_:=Aside0.mk (bB (by (with_reducible repeat first|apply bN|apply bD|apply bA);exact K196.1) hb)
     have n5_:=Aside0.mk (below_step (by repeat (first|(with_reducible first|exact HB.1|apply bwA|apply bwN|apply bw1|refine bS ?_ GE168.1|refine bS ?_ GE176.1|refine bS ?_ GE184.1|refine bS ?_ GE190.1|refine bS ?_ GE196.1)|exact HB.1)) hb)
     clear K168
     clear K176
     clear K184
     clear K190
     clear K196
     clear HB
     have K168:=n0_
     have K176:=n1_
     have K184:=n2_
     have K190:=n3_
     have K196:=n4_
     have HB:=n5_
     clear n0_ n1_ n2_ n3_ n4_ n5_
     (try clear hb)
     (try clear hb2)
     (try clear hk)
     (try clear hi)
     refine hK.out _ _ ⟨(bC K168.1 0).trans rfl,(bC K168.1 1).trans rfl,(bC K168.1 2).trans rfl,(bC K168.1 3).trans rfl,(bC K168.1 4).trans rfl,(bC K168.1 5).trans rfl,(bC K168.1 6).trans rfl⟩ (fun hHeld => ?_)
     clear hK K
     refine norm_ (a':=?_) ?_ ?_
     rotate_left
     ·show Act.put _ (some 72) _ = _
      simp only [Act.put,xA,xB,xC,i64_w,i32_w]
      rfl
     refine one_ (i:=3) (N:=some 74) #[true,true,true,true,false,false,false,false,false,false,false,false,false,false,false,false,false,false,false,false,false,false,false,false,false,false,false] rfl rfl (one_of HT_.out (by kernel_rfl)) (by decide) (fun K hK => ?_)
     refine goes_ Try.func26 (by kernel_rfl) rfl #[.agg #[.float .f64 a0_0,.int .i64 a0_1,.int .i64 a0_2,.int .i64 a0_3,.int .i64 a0_4,.int .i64 a0_5,.int .i64 a0_6]] (by rfl) rfl rfl (by (try simp only [List.map_toArray,List.map_cons,List.map_nil]);first|done|rfl|(simp only [List.length_drop,List.length_take];rfl)) ?_
     with_reducible refine (beaconref12_Check.calls kj4 a0_0 a0_1 a0_2 a0_3 a0_4 a0_5 a0_6 t198 _ A62.out).mono ?_
     rintro e w168 ⟨rfl,hb⟩
     refine ⟨_,rfl,?_⟩
     have n0_:=Aside0.mk (bB (by (with_reducible repeat first|apply bN|apply bD|apply bA);exact K168.1) hb)
     have n1_:=Aside0.mk (bB (by (with_reducible repeat first|apply bN|apply bD|apply bA);exact K176.1) hb)
     have n2_:=Aside0.mk (bB (by (with_reducible repeat first|apply bN|apply bD|apply bA);exact K184.1) hb)
     have n3_:=Aside0.mk (bB (by (with_reducible repeat first|apply bN|apply bD|apply bA);exact K190.1) hb)
     have n4_:=Aside0.mk (bB (by (with_reducible repeat first|apply bN|apply bD|apply bA);exact K196.1) hb)
     have n5_:=Aside0.mk (below_step (by repeat (first|(with_reducible first|exact HB.1|apply bwA|apply bwN|apply bw1|refine bS ?_ GE168.1|refine bS ?_ GE176.1|refine bS ?_ GE184.1|refine bS ?_ GE190.1|refine bS ?_ GE196.1)|exact HB.1)) hb)
     clear K168
     clear K176
     clear K184
     clear K190
     clear K196
     clear HB
     have K168:=n0_
     have K176:=n1_
     have K184:=n2_
     have K190:=n3_
     have K196:=n4_
     have HB:=n5_
     clear n0_ n1_ n2_ n3_ n4_ n5_
     (try clear hb)
     (try clear hb2)
     (try clear hk)
     (try clear hi)
     refine hK.out _ _ ⟨(bC K168.1 0).trans rfl,(bC K168.1 1).trans rfl,(bC K168.1 2).trans rfl,(bC K168.1 3).trans rfl,(bC K168.1 4).trans rfl,(bC K168.1 5).trans rfl,(bC K168.1 6).trans rfl⟩ (fun hHeld => ?_)
     clear hK K
     refine norm_ (a':=?_) ?_ ?_
     rotate_left
     ·show Act.put _ (some 74) _ = _
      simp only [Act.put,xA,xB,xC,i64_w,i32_w]
      rfl
     refine pure_ (i:=4) (N:=some 75) (v:=?_) (a':=?_) #[true,true,true,true,true,false,false,false,false,false,false,false,false,false,false,false,false,false,false,false,false,false,false,false,false,false,false] rfl rfl (any_of HT_.out (by kernel_rfl)) (fun _ _ _ h => h) (Or.inl ⟨by rfl,?_⟩) ?_ ?_
     rotate_left
     ·intro w'
      go_simp
      with_reducible rfl
     rotate_left
     ·simp only [Act.put,xA,xB,xC,i64_w,i32_w]
      rfl
     refine pure_ (i:=5) (N:=some 76) (v:=?_) (a':=?_) #[true,true,true,true,true,true,false,false,false,false,false,false,false,false,false,false,false,false,false,false,false,false,false,false,false,false,false] rfl rfl (any_of HT_.out (by kernel_rfl)) (fun _ _ _ h => h) (Or.inl ⟨by rfl,?_⟩) ?_ ?_
     rotate_left
     ·intro w'
      go_simp
      with_reducible rfl
     rotate_left
     ·simp only [Act.put,xA,xB,xC,i64_w,i32_w]
      rfl
     refine pure_ (i:=6) (N:=some 77) (v:=?_) (a':=?_) #[true,true,true,true,true,true,true,false,false,false,false,false,false,false,false,false,false,false,false,false,false,false,false,false,false,false,false] rfl rfl (any_of HT_.out (by kernel_rfl)) (fun _ _ _ h => h) (Or.inl ⟨by rfl,?_⟩) ?_ ?_
     rotate_left
     ·intro w'
      go_simp
      with_reducible rfl
     rotate_left
     ·simp only [Act.put,xA,xB,xC,i64_w,i32_w]
      rfl
     refine pure_ (i:=7) (N:=some 78) (v:=?_) (a':=?_) #[true,true,true,true,true,true,true,true,false,false,false,false,false,false,false,false,false,false,false,false,false,false,false,false,false,false,false] rfl rfl (any_of HT_.out (by kernel_rfl)) (fun _ _ _ h => h) (Or.inl ⟨by rfl,?_⟩) ?_ ?_
     rotate_left
     ·intro w'
      go_simp
      with_reducible rfl
     rotate_left
     ·simp only [Act.put,xA,xB,xC,i64_w,i32_w]
      rfl
     refine pure_ (i:=8) (N:=some 79) (v:=?_) (a':=?_) #[true,true,true,true,true,true,true,true,true,false,false,false,false,false,false,false,false,false,false,false,false,false,false,false,false,false,false] rfl rfl (any_of HT_.out (by kernel_rfl)) (fun _ _ _ h => h) (Or.inl ⟨by rfl,?_⟩) ?_ ?_
     rotate_left
     ·intro w'
      go_simp
      with_reducible rfl
     rotate_left
     ·simp only [Act.put,xA,xB,xC,i64_w,i32_w]
      rfl
     refine pure_ (i:=9) (N:=some 80) (v:=undef) (a':=?_) #[true,true,true,true,true,true,true,true,true,true,false,false,false,false,false,false,false,false,false,false,false,false,false,false,false,false,false] rfl rfl (any_of HT_.out (by kernel_rfl)) (fun _ _ _ h => h) (Or.inr ⟨by rfl,rfl⟩) ?_ ?_
     rotate_left
     ·simp only [Act.put,xA,xB,xC,i64_w,i32_w]
      rfl
     refine pure_ (i:=10) (N:=some 81) (v:=undef) (a':=?_) #[true,true,true,true,true,true,true,true,true,true,true,false,false,false,false,false,false,false,false,false,false,false,false,false,false,false,false] rfl rfl (any_of HT_.out (by kernel_rfl)) (fun _ _ _ h => h) (Or.inr ⟨by rfl,rfl⟩) ?_ ?_
     rotate_left
     ·simp only [Act.put,xA,xB,xC,i64_w,i32_w]
      rfl
     refine pure_ (i:=11) (N:=some 82) (v:=undef) (a':=?_) #[true,true,true,true,true,true,true,true,true,true,true,true,false,false,false,false,false,false,false,false,false,false,false,false,false,false,false] rfl rfl (any_of HT_.out (by kernel_rfl)) (fun _ _ _ h => h) (Or.inr ⟨by rfl,rfl⟩) ?_ ?_
     rotate_left
     ·simp only [Act.put,xA,xB,xC,i64_w,i32_w]
      rfl
     refine pure_ (i:=12) (N:=some 83) (v:=?_) (a':=?_) #[true,true,true,true,true,true,true,true,true,true,true,true,true,false,false,false,false,false,false,false,false,false,false,false,false,false,false] rfl rfl (any_of HT_.out (by kernel_rfl)) (fun _ _ _ h => h) (Or.inl ⟨by rfl,?_⟩) ?_ ?_
     rotate_left
     ·intro w'
      go_simp
      with_reducible rfl
     rotate_left
     ·simp only [Act.put,xA,xB,xC,i64_w,i32_w]
      rfl
     refine pure_ (i:=13) (N:=some 84) (v:=?_) (a':=?_) #[true,true,true,true,true,true,true,true,true,true,true,true,true,true,false,false,false,false,false,false,false,false,false,false,false,false,false] rfl rfl (any_of HT_.out (by kernel_rfl)) (fun _ _ _ h => h) (Or.inl ⟨by rfl,?_⟩) ?_ ?_
     rotate_left
     ·intro w'
      go_simp
      with_reducible rfl
     rotate_left
     ·simp only [Act.put,xA,xB,xC,i64_w,i32_w]
      rfl
     refine pure_ (i:=14) (N:=some 85) (v:=undef) (a':=?_) #[true,true,true,true,true,true,true,true,true,true,true,true,true,true,true,false,false,false,false,false,false,false,false,false,false,false,false] rfl rfl (any_of HT_.out (by kernel_rfl)) (fun _ _ _ h => h) (Or.inr ⟨by rfl,rfl⟩) ?_ ?_
     rotate_left
     ·simp only [Act.put,xA,xB,xC,i64_w,i32_w]
      rfl
     refine pure_ (i:=15) (N:=some 86) (v:=undef) (a':=?_) #[true,true,true,true,true,true,true,true,true,true,true,true,true,true,true,true,false,false,false,false,false,false,false,false,false,false,false] rfl rfl (any_of HT_.out (by kernel_rfl)) (fun _ _ _ h => h) (Or.inr ⟨by rfl,rfl⟩) ?_ ?_
     rotate_left
     ·simp only [Act.put,xA,xB,xC,i64_w,i32_w]
      rfl
     refine pure_ (i:=16) (N:=some 87) (v:=undef) (a':=?_) #[true,true,true,true,true,true,true,true,true,true,true,true,true,true,true,true,true,false,false,false,false,false,false,false,false,false,false] rfl rfl (any_of HT_.out (by kernel_rfl)) (fun _ _ _ h => h) (Or.inr ⟨by rfl,rfl⟩) ?_ ?_
     rotate_left
     ·simp only [Act.put,xA,xB,xC,i64_w,i32_w]
      rfl
     refine pure_ (i:=17) (N:=some 88) (v:=?_) (a':=?_) #[true,true,true,true,true,true,true,true,true,true,true,true,true,true,true,true,true,true,false,false,false,false,false,false,false,false,false] rfl rfl (any_of HT_.out (by kernel_rfl)) (fun _ _ _ h => h) (Or.inl ⟨by rfl,?_⟩) ?_ ?_
     rotate_left
     ·intro w'
      go_simp
      with_reducible rfl
     rotate_left
     ·simp only [Act.put,xA,xB,xC,i64_w,i32_w]
      rfl
     refine pure_ (i:=18) (N:=some 89) (v:=?_) (a':=?_) #[true,true,true,true,true,true,true,true,true,true,true,true,true,true,true,true,true,true,true,false,false,false,false,false,false,false,false] rfl rfl (any_of HT_.out (by kernel_rfl)) (fun _ _ _ h => h) (Or.inl ⟨by rfl,?_⟩) ?_ ?_
     rotate_left
     ·intro w'
      go_simp
      with_reducible rfl
     rotate_left
     ·simp only [Act.put,xA,xB,xC,i64_w,i32_w]
      rfl
     refine pure_ (i:=19) (N:=some 90) (v:=undef) (a':=?_) #[true,true,true,true,true,true,true,true,true,true,true,true,true,true,true,true,true,true,true,true,false,false,false,false,false,false,false] rfl rfl (any_of HT_.out (by kernel_rfl)) (fun _ _ _ h => h) (Or.inr ⟨by rfl,rfl⟩) ?_ ?_
     rotate_left
     ·simp only [Act.put,xA,xB,xC,i64_w,i32_w]
      rfl
     refine pure_ (i:=20) (N:=some 91) (v:=undef) (a':=?_) #[true,true,true,true,true,true,true,true,true,true,true,true,true,true,true,true,true,true,true,true,true,false,false,false,false,false,false] rfl rfl (any_of HT_.out (by kernel_rfl)) (fun _ _ _ h => h) (Or.inr ⟨by rfl,rfl⟩) ?_ ?_
     rotate_left
     ·simp only [Act.put,xA,xB,xC,i64_w,i32_w]
      rfl
     refine pure_ (i:=21) (N:=some 92) (v:=undef) (a':=?_) #[true,true,true,true,true,true,true,true,true,true,true,true,true,true,true,true,true,true,true,true,true,true,false,false,false,false,false] rfl rfl (any_of HT_.out (by kernel_rfl)) (fun _ _ _ h => h) (Or.inr ⟨by rfl,rfl⟩) ?_ ?_
     rotate_left
     ·simp only [Act.put,xA,xB,xC,i64_w,i32_w]
      rfl
     refine pure_ (i:=22) (N:=some 93) (v:=?_) (a':=?_) #[true,true,true,true,true,true,true,true,true,true,true,true,true,true,true,true,true,true,true,true,true,true,true,false,false,false,false] rfl rfl (any_of HT_.out (by kernel_rfl)) (fun _ _ _ h => h) (Or.inl ⟨by rfl,?_⟩) ?_ ?_
     rotate_left
     ·intro w'
      go_simp
      with_reducible rfl
     rotate_left
     ·simp only [Act.put,xA,xB,xC,i64_w,i32_w]
      rfl
     refine pure_ (i:=23) (N:=some 94) (v:=?_) (a':=?_) #[true,true,true,true,true,true,true,true,true,true,true,true,true,true,true,true,true,true,true,true,true,true,true,true,false,false,false] rfl rfl (any_of HT_.out (by kernel_rfl)) (fun _ _ _ h => h) (Or.inl ⟨by rfl,?_⟩) ?_ ?_
     rotate_left
     ·intro w'
      go_simp
      with_reducible rfl
     rotate_left
     ·simp only [Act.put,xA,xB,xC,i64_w,i32_w]
      rfl
     refine pure_ (i:=24) (N:=some 95) (v:=undef) (a':=?_) #[true,true,true,true,true,true,true,true,true,true,true,true,true,true,true,true,true,true,true,true,true,true,true,true,true,false,false] rfl rfl (any_of HT_.out (by kernel_rfl)) (fun _ _ _ h => h) (Or.inr ⟨by rfl,rfl⟩) ?_ ?_
     rotate_left
     ·simp only [Act.put,xA,xB,xC,i64_w,i32_w]
      rfl
     refine pure_ (i:=25) (N:=some 96) (v:=?_) (a':=?_) #[true,true,true,true,true,true,true,true,true,true,true,true,true,true,true,true,true,true,true,true,true,true,true,true,true,true,false] rfl rfl (any_of HT_.out (by kernel_rfl)) (fun _ _ _ h => h) (Or.inl ⟨by rfl,?_⟩) ?_ ?_
     rotate_left
     ·intro w'
      go_simp
      with_reducible rfl
     rotate_left
     ·simp only [Act.put,xA,xB,xC,i64_w,i32_w]
      rfl
     refine pure_ (i:=26) (N:=some 4) (v:=?_) (a':=?_) #[true,true,true,true,true,true,true,true,true,true,true,true,true,true,true,true,true,true,true,true,true,true,true,true,true,true,true] rfl rfl (any_of HT_.out (by kernel_rfl)) (fun _ _ _ h => h) (Or.inl ⟨by rfl,?_⟩) ?_ ?_
     rotate_left
     ·intro w'
      go_simp
      with_reducible rfl
     rotate_left
     ·simp only [Act.put,xA,xB,xC,i64_w,i32_w]
      rfl
     refine done_ (done_of HT_.out (by kernel_rfl)) ?_
     try go_wp2
     go_ret
     exact ⟨by first|rfl|(simp [errW_none,errW_some] <;> rfl)|(simp [*,errW_none,errW_some] <;> rfl),by repeat (first|(with_reducible first|exact HB.1|apply bwA|apply bwN|apply bw1|refine bS ?_ GE168.1|refine bS ?_ GE176.1|refine bS ?_ GE184.1|refine bS ?_ GE190.1|refine bS ?_ GE196.1)|exact HB.1)⟩
   ·rw [if_neg c63] at H
    have c63b0 : (t197 == t198) = false:=beq_eq_false_iff_ne.mpr c63
    have c63b1 : (t197 != t198) = true:=bne_iff_ne.mpr c63
    obtain rfl:=Option.some.inj H
    try go_wp2_with (first|((with_reducible refine gate_callee (f:=7) rfl ?_);refine goesL_ (some 63) rfl rfl Try.func7 (by kernel_rfl) rfl #[.int .u64 a1] rfl (by (try simp only [List.map_toArray,List.map_cons,List.map_nil]);first|done|rfl|(simp only [List.length_drop,List.length_take];rfl)) ?_;(with_reducible refine (session_New.calls a1 t185 t186 t187 t188 t189 _ A59.out).mono ?_);rintro e w169 ⟨rfl,hb⟩;refine ⟨_,rfl,?_⟩;have n0_:=Aside0.mk (bB (by (with_reducible repeat first|apply bN|apply bD|apply bA);exact K168.1) hb);have n1_:=Aside0.mk (bB (by (with_reducible repeat first|apply bN|apply bD|apply bA);exact K176.1) hb);have n2_:=Aside0.mk (bB (by (with_reducible repeat first|apply bN|apply bD|apply bA);exact K184.1) hb);have n3_:=Aside0.mk (below_step (by repeat (first|(with_reducible first|exact HB.1|apply bwA|apply bwN|apply bw1|refine bS ?_ GE168.1|refine bS ?_ GE176.1|refine bS ?_ GE184.1)|exact HB.1)) hb);clear K168;clear K176;clear K184;clear HB;have K168:=n0_;have K176:=n1_;have K184:=n2_;have HB:=n3_;clear n0_ n1_ n2_ n3_;(try clear hb);(try clear hb2);(try clear hk);(try clear hi))|((with_reducible refine gate_dst (N:=8) rfl ?_);refine box_event ?hg (N:=8) ?hd (cs:=#[.int .u64 0,.int .u64 0,.bool false,.int .i64 0]) (t:=26) ?hr ?_;(case hd => rfl);(case hg => rfl);(case hr => first|(go_simp;done)|(go_simp;rfl));intro G190 hg w170 hbox hb;have n0_:=Aside0.mk (bB (by (with_reducible repeat first|apply bN|apply bD|apply bA);exact K168.1) hb);have n1_:=Aside0.mk (bB (by (with_reducible repeat first|apply bN|apply bD|apply bA);exact K176.1) hb);have n2_:=Aside0.mk (bB (by (with_reducible repeat first|apply bN|apply bD|apply bA);exact K184.1) hb);have n3_:=Aside0.mk (below_step (by repeat (first|(with_reducible first|exact HB.1|apply bwA|apply bwN|apply bw1|refine bS ?_ GE168.1|refine bS ?_ GE176.1|refine bS ?_ GE184.1)|exact HB.1)) hb);have n4_:=Aside0.mk (hbox);have n5_:=Aside0.mk ((by rw [hg];exact (below_size (by repeat (first|(with_reducible first|exact HB.1|apply bwA|apply bwN|apply bw1|refine bS ?_ GE168.1|refine bS ?_ GE176.1|refine bS ?_ GE184.1)|exact HB.1))) : w.heap.size ≤ G190));have n6_:=Aside0.mk ((by rw [hg];exact (below_size (by repeat (first|(with_reducible first|exact HB.1|apply bwA|apply bwN|apply bw1|refine bS ?_ GE168.1|refine bS ?_ GE176.1|refine bS ?_ GE184.1)|exact HB.1))) : w.heap.size ≤ G190));have n7_:=Aside0.mk ((by rw [hg];exact Nat.ne_of_lt (blk_lt (g:=G168) (by (with_reducible repeat first|apply bN|apply bD|apply bA);exact K168.1)) : G168 ≠ G190));have n8_:=Aside0.mk ((by rw [hg];exact Nat.ne_of_gt (blk_lt (g:=G168) (by (with_reducible repeat first|apply bN|apply bD|apply bA);exact K168.1)) : G190 ≠ G168));have n9_:=Aside0.mk ((by rw [hg];exact Nat.ne_of_lt (blk_lt (g:=G176) (by (with_reducible repeat first|apply bN|apply bD|apply bA);exact K176.1)) : G176 ≠ G190));have n10_:=Aside0.mk ((by rw [hg];exact Nat.ne_of_gt (blk_lt (g:=G176) (by (with_reducible repeat first|apply bN|apply bD|apply bA);exact K176.1)) : G190 ≠ G176));have n11_:=Aside0.mk ((by rw [hg];exact Nat.ne_of_lt (blk_lt (g:=G184) (by (with_reducible repeat first|apply bN|apply bD|apply bA);exact K184.1)) : G184 ≠ G190));have n12_:=Aside0.mk ((by rw [hg];exact Nat.ne_of_gt (blk_lt (g:=G184) (by (with_reducible repeat first|apply bN|apply bD|apply bA);exact K184.1)) : G190 ≠ G184));clear K168;clear K176;clear K184;clear HB;have K168:=n0_;have K176:=n1_;have K184:=n2_;have HB:=n3_;have K190:=n4_;have GW190:=n5_;have GE190:=n6_;have NB168_190:=n7_;have NB190_168:=n8_;have NB176_190:=n9_;have NB190_176:=n10_;have NB184_190:=n11_;have NB190_184:=n12_;clear n0_ n1_ n2_ n3_ n4_ n5_ n6_ n7_ n8_ n9_ n10_ n11_ n12_;clear hb hbox hg;have hnb171:=NB190_168.1;have hnc171:=NB168_190.1;have hnb172:=NB190_176.1;have hnc172:=NB176_190.1;have hnb173:=NB190_184.1;have hnc173:=NB184_190.1;have hcz174_0 : w170.cell? ⟨G190,0,none⟩ = some (.int .u64 0):=(bC K190.1 0).trans rfl;have hcz174_1 : w170.cell? ⟨G190,1,none⟩ = some (.int .u64 0):=(bC K190.1 1).trans rfl;have hcz174_2 : w170.cell? ⟨G190,2,none⟩ = some (.bool false):=(bC K190.1 2).trans rfl;have hcz174_3 : w170.cell? ⟨G190,3,none⟩ = some (.int .i64 0):=(bC K190.1 3).trans rfl;have hfz174_0:=bF K190.1 0;have hfz174_1:=bF K190.1 1;have hfz174_2:=bF K190.1 2;have hfz174_3:=bF K190.1 3)|((with_reducible refine gate_store (t:=26) (p:=8) rfl ?_);refine store_event (t:=26) (p:=8) (v:=?vo_w175) (w1:=((((w170.setCell ⟨G190,0,none⟩ (.int .u64 t185)).setCell ⟨G190,1,none⟩ (.int .u64 t186)).setCell ⟨G190,2,none⟩ (.bool t187)).setCell ⟨G190,3,none⟩ (.int .i64 t188))) ?hg ?ho ?hn ?hr ?_;(case ho => rfl);(case hg => rfl);(case hn => rfl);(case hr => first|(go_simp;done)|(go_simp;rfl));intro w175 hw;have n0_ : Aside0 (w175.heap[G168]? = some (.cells #[.float .f64 a0_0,.int .i64 a0_1,.int .i64 a0_2,.int .i64 a0_3,.int .i64 a0_4,.int .i64 a0_5,.int .i64 a0_6] 54 (0,0))):=⟨(by rw [hw];exact (by (with_reducible repeat first|apply bN|apply bD|apply bA);refine bZ ?_ NB168_190.1 _;(with_reducible repeat first|apply bN|apply bD|apply bA);refine bZ ?_ NB168_190.1 _;(with_reducible repeat first|apply bN|apply bD|apply bA);refine bZ ?_ NB168_190.1 _;(with_reducible repeat first|apply bN|apply bD|apply bA);refine bZ ?_ NB168_190.1 _;(with_reducible repeat first|apply bN|apply bD|apply bA);exact K168.1))⟩;have n1_ : Aside0 (w175.heap[G176]? = some (.cells #[.float .f64 t169,.int .i64 t170,.int .i64 t171,.int .i64 t172,.int .i64 t173,.int .i64 t174,.int .i64 t175] 54 (0,0))):=⟨(by rw [hw];exact (by (with_reducible repeat first|apply bN|apply bD|apply bA);refine bZ ?_ NB176_190.1 _;(with_reducible repeat first|apply bN|apply bD|apply bA);refine bZ ?_ NB176_190.1 _;(with_reducible repeat first|apply bN|apply bD|apply bA);refine bZ ?_ NB176_190.1 _;(with_reducible repeat first|apply bN|apply bD|apply bA);refine bZ ?_ NB176_190.1 _;(with_reducible repeat first|apply bN|apply bD|apply bA);exact K176.1))⟩;have n2_ : Aside0 (w175.heap[G184]? = some (.cells #[.float .f64 t177,.int .i64 t178,.int .i64 t179,.int .i64 t180,.int .i64 t181,.int .i64 t182,.int .i64 t183] 54 (0,0))):=⟨(by rw [hw];exact (by (with_reducible repeat first|apply bN|apply bD|apply bA);refine bZ ?_ NB184_190.1 _;(with_reducible repeat first|apply bN|apply bD|apply bA);refine bZ ?_ NB184_190.1 _;(with_reducible repeat first|apply bN|apply bD|apply bA);refine bZ ?_ NB184_190.1 _;(with_reducible repeat first|apply bN|apply bD|apply bA);refine bZ ?_ NB184_190.1 _;(with_reducible repeat first|apply bN|apply bD|apply bA);exact K184.1))⟩;have n3_ : Aside0 (w175.heap[G190]? = some (.cells #[.int .u64 t185,.int .u64 t186,.bool t187,.int .i64 t188] 26 (0,0))):=⟨(by rw [hw];exact (by (with_reducible repeat first|apply bN|apply bD|apply bA);refine blk_put (cs:=#[.int .u64 t185,.int .u64 t186,.bool t187,.int .i64 0]) ?_ 3 _ rfl;(with_reducible repeat first|apply bN|apply bD|apply bA);refine blk_put (cs:=#[.int .u64 t185,.int .u64 t186,.bool false,.int .i64 0]) ?_ 2 _ rfl;(with_reducible repeat first|apply bN|apply bD|apply bA);refine blk_put (cs:=#[.int .u64 t185,.int .u64 0,.bool false,.int .i64 0]) ?_ 1 _ rfl;(with_reducible repeat first|apply bN|apply bD|apply bA);refine blk_put (cs:=#[.int .u64 0,.int .u64 0,.bool false,.int .i64 0]) ?_ 0 _ rfl;(with_reducible repeat first|apply bN|apply bD|apply bA);exact K190.1))⟩;have n4_ : Aside0 (Below w.heap.size w w175):=⟨(by rw [hw];exact (by repeat (first|(with_reducible first|exact HB.1|apply bwA|apply bwN|apply bw1|refine bS ?_ GE168.1|refine bS ?_ GE176.1|refine bS ?_ GE184.1|refine bS ?_ GE190.1)|exact HB.1)))⟩;clear hw;clear K168;clear K176;clear K184;clear K190;clear HB;have K168:=n0_;have K176:=n1_;have K184:=n2_;have K190:=n3_;have HB:=n4_;clear n0_ n1_ n2_ n3_ n4_)|((with_reducible refine gate_callee (f:=24) rfl ?_);refine goesL_ (some 68) rfl rfl Try.func24 (by kernel_rfl) rfl #[.int .u64 a1] rfl (by (try simp only [List.map_toArray,List.map_cons,List.map_nil]);first|done|rfl|(simp only [List.length_drop,List.length_take];rfl)) ?_;(with_reducible refine (beaconref12_New.calls a1 t191 t192 t193 t194 t195 _ A60.out).mono ?_);rintro e w176 ⟨rfl,hb⟩;refine ⟨_,rfl,?_⟩;have n0_:=Aside0.mk (bB (by (with_reducible repeat first|apply bN|apply bD|apply bA);exact K168.1) hb);have n1_:=Aside0.mk (bB (by (with_reducible repeat first|apply bN|apply bD|apply bA);exact K176.1) hb);have n2_:=Aside0.mk (bB (by (with_reducible repeat first|apply bN|apply bD|apply bA);exact K184.1) hb);have n3_:=Aside0.mk (bB (by (with_reducible repeat first|apply bN|apply bD|apply bA);exact K190.1) hb);have n4_:=Aside0.mk (below_step (by repeat (first|(with_reducible first|exact HB.1|apply bwA|apply bwN|apply bw1|refine bS ?_ GE168.1|refine bS ?_ GE176.1|refine bS ?_ GE184.1|refine bS ?_ GE190.1)|exact HB.1)) hb);clear K168;clear K176;clear K184;clear K190;clear HB;have K168:=n0_;have K176:=n1_;have K184:=n2_;have K190:=n3_;have HB:=n4_;clear n0_ n1_ n2_ n3_ n4_;(try clear hb);(try clear hb2);(try clear hk);(try clear hi))|((with_reducible refine gate_dst (N:=10) rfl ?_);refine box_event ?hg (N:=10) ?hd (cs:=#[.int .u64 0,.int .u64 0,.bool false,.int .i64 0]) (t:=26) ?hr ?_;(case hd => rfl);(case hg => rfl);(case hr => first|(go_simp;done)|(go_simp;rfl));intro G196 hg w177 hbox hb;have n0_:=Aside0.mk (bB (by (with_reducible repeat first|apply bN|apply bD|apply bA);exact K168.1) hb);have n1_:=Aside0.mk (bB (by (with_reducible repeat first|apply bN|apply bD|apply bA);exact K176.1) hb);have n2_:=Aside0.mk (bB (by (with_reducible repeat first|apply bN|apply bD|apply bA);exact K184.1) hb);have n3_:=Aside0.mk (bB (by (with_reducible repeat first|apply bN|apply bD|apply bA);exact K190.1) hb);have n4_:=Aside0.mk (below_step (by repeat (first|(with_reducible first|exact HB.1|apply bwA|apply bwN|apply bw1|refine bS ?_ GE168.1|refine bS ?_ GE176.1|refine bS ?_ GE184.1|refine bS ?_ GE190.1)|exact HB.1)) hb);have n5_:=Aside0.mk (hbox);have n6_:=Aside0.mk ((by rw [hg];exact (below_size (by repeat (first|(with_reducible first|exact HB.1|apply bwA|apply bwN|apply bw1|refine bS ?_ GE168.1|refine bS ?_ GE176.1|refine bS ?_ GE184.1|refine bS ?_ GE190.1)|exact HB.1))) : w.heap.size ≤ G196));have n7_:=Aside0.mk ((by rw [hg];exact (below_size (by repeat (first|(with_reducible first|exact HB.1|apply bwA|apply bwN|apply bw1|refine bS ?_ GE168.1|refine bS ?_ GE176.1|refine bS ?_ GE184.1|refine bS ?_ GE190.1)|exact HB.1))) : w.heap.size ≤ G196));have n8_:=Aside0.mk ((by rw [hg];exact Nat.ne_of_lt (blk_lt (g:=G168) (by (with_reducible repeat first|apply bN|apply bD|apply bA);exact K168.1)) : G168 ≠ G196));have n9_:=Aside0.mk ((by rw [hg];exact Nat.ne_of_gt (blk_lt (g:=G168) (by (with_reducible repeat first|apply bN|apply bD|apply bA);exact K168.1)) : G196 ≠ G168));have n10_:=Aside0.mk ((by rw [hg];exact Nat.ne_of_lt (blk_lt (g:=G176) (by (with_reducible repeat first|apply bN|apply bD|apply bA);exact K176.1)) : G176 ≠ G196));have n11_:=Aside0.mk ((by rw [hg];exact Nat.ne_of_gt (blk_lt (g:=G176) (by (with_reducible repeat first|apply bN|apply bD|apply bA);exact K176.1)) : G196 ≠ G176));have n12_:=Aside0.mk ((by rw [hg];exact Nat.ne_of_lt (blk_lt (g:=G184) (by (with_reducible repeat first|apply bN|apply bD|apply bA);exact K184.1)) : G184 ≠ G196));have n13_:=Aside0.mk ((by rw [hg];exact Nat.ne_of_gt (blk_lt (g:=G184) (by (with_reducible repeat first|apply bN|apply bD|apply bA);exact K184.1)) : G196 ≠ G184));have n14_:=Aside0.mk ((by rw [hg];exact Nat.ne_of_lt (blk_lt (g:=G190) (by (with_reducible repeat first|apply bN|apply bD|apply bA);exact K190.1)) : G190 ≠ G196));have n15_:=Aside0.mk ((by rw [hg];exact Nat.ne_of_gt (blk_lt (g:=G190) (by (with_reducible repeat first|apply bN|apply bD|apply bA);exact K190.1)) : G196 ≠ G190));clear K168;clear K176;clear K184;clear K190;clear HB;have K168:=n0_;have K176:=n1_;have K184:=n2_;have K190:=n3_;have HB:=n4_;have K196:=n5_;have GW196:=n6_;have GE196:=n7_;have NB168_196:=n8_;have NB196_168:=n9_;have NB176_196:=n10_;have NB196_176:=n11_;have NB184_196:=n12_;have NB196_184:=n13_;have NB190_196:=n14_;have NB196_190:=n15_;clear n0_ n1_ n2_ n3_ n4_ n5_ n6_ n7_ n8_ n9_ n10_ n11_ n12_ n13_ n14_ n15_;clear hb hbox hg;have hnb178:=NB196_168.1;have hnc178:=NB168_196.1;have hnb179:=NB196_176.1;have hnc179:=NB176_196.1;have hnb180:=NB196_184.1;have hnc180:=NB184_196.1;have hnb181:=NB196_190.1;have hnc181:=NB190_196.1;have hcz182_0 : w177.cell? ⟨G196,0,none⟩ = some (.int .u64 0):=(bC K196.1 0).trans rfl;have hcz182_1 : w177.cell? ⟨G196,1,none⟩ = some (.int .u64 0):=(bC K196.1 1).trans rfl;have hcz182_2 : w177.cell? ⟨G196,2,none⟩ = some (.bool false):=(bC K196.1 2).trans rfl;have hcz182_3 : w177.cell? ⟨G196,3,none⟩ = some (.int .i64 0):=(bC K196.1 3).trans rfl;have hfz182_0:=bF K196.1 0;have hfz182_1:=bF K196.1 1;have hfz182_2:=bF K196.1 2;have hfz182_3:=bF K196.1 3)|((with_reducible refine gate_store (t:=26) (p:=10) rfl ?_);refine store_event (t:=26) (p:=10) (v:=?vo_w183) (w1:=((((w177.setCell ⟨G196,0,none⟩ (.int .u64 t191)).setCell ⟨G196,1,none⟩ (.int .u64 t192)).setCell ⟨G196,2,none⟩ (.bool t193)).setCell ⟨G196,3,none⟩ (.int .i64 t194))) ?hg ?ho ?hn ?hr ?_;(case ho => rfl);(case hg => rfl);(case hn => rfl);(case hr => first|(go_simp;done)|(go_simp;rfl));intro w183 hw;have n0_ : Aside0 (w183.heap[G168]? = some (.cells #[.float .f64 a0_0,.int .i64 a0_1,.int .i64 a0_2,.int .i64 a0_3,.int .i64 a0_4,.int .i64 a0_5,.int .i64 a0_6] 54 (0,0))):=⟨(by rw [hw];exact (by (with_reducible repeat first|apply bN|apply bD|apply bA);refine bZ ?_ NB168_196.1 _;(with_reducible repeat first|apply bN|apply bD|apply bA);refine bZ ?_ NB168_196.1 _;(with_reducible repeat first|apply bN|apply bD|apply bA);refine bZ ?_ NB168_196.1 _;(with_reducible repeat first|apply bN|apply bD|apply bA);refine bZ ?_ NB168_196.1 _;(with_reducible repeat first|apply bN|apply bD|apply bA);exact K168.1))⟩;have n1_ : Aside0 (w183.heap[G176]? = some (.cells #[.float .f64 t169,.int .i64 t170,.int .i64 t171,.int .i64 t172,.int .i64 t173,.int .i64 t174,.int .i64 t175] 54 (0,0))):=⟨(by rw [hw];exact (by (with_reducible repeat first|apply bN|apply bD|apply bA);refine bZ ?_ NB176_196.1 _;(with_reducible repeat first|apply bN|apply bD|apply bA);refine bZ ?_ NB176_196.1 _;(with_reducible repeat first|apply bN|apply bD|apply bA);refine bZ ?_ NB176_196.1 _;(with_reducible repeat first|apply bN|apply bD|apply bA);refine bZ ?_ NB176_196.1 _;(with_reducible repeat first|apply bN|apply bD|apply bA);exact K176.1))⟩;have n2_ : Aside0 (w183.heap[G184]? = some (.cells #[.float .f64 t177,.int .i64 t178,.int .i64 t179,.int .i64 t180,.int .i64 t181,.int .i64 t182,.int .i64 t183] 54 (0,0))):=⟨(by rw [hw];exact (by (with_reducible repeat first|apply bN|apply bD|apply bA);refine bZ ?_ NB184_196.1 _;(with_reducible repeat first|apply bN|apply bD|apply bA);refine bZ ?_ NB184_196.1 _;(with_reducible repeat first|apply bN|apply bD|apply bA);refine bZ ?_ NB184_196.1 _;(with_reducible repeat first|apply bN|apply bD|apply bA);refine bZ ?_ NB184_196.1 _;(with_reducible repeat first|apply bN|apply bD|apply bA);exact K184.1))⟩;have n3_ : Aside0 (w183.heap[G190]? = some (.cells #[.int .u64 t185,.int .u64 t186,.bool t187,.int .i64 t188] 26 (0,0))):=⟨(by rw [hw];exact (by (with_reducible repeat first|apply bN|apply bD|apply bA);refine bZ ?_ NB190_196.1 _;(with_reducible repeat first|apply bN|apply bD|apply bA);refine bZ ?_ NB190_196.1 _;(with_reducible repeat first|apply bN|apply bD|apply bA);refine bZ ?_ NB190_196.1 _;(with_reducible repeat first|apply bN|apply bD|apply bA);refine bZ ?_ NB190_196.1 _;(with_reducible repeat first|apply bN|apply bD|apply bA);exact K190.1))⟩;have n4_ : Aside0 (w183.heap[G196]? = some (.cells #[.int .u64 t191,.int .u64 t192,.bool t193,.int .i64 t194] 26 (0,0))):=⟨(by rw [hw];exact (by (with_reducible repeat first|apply bN|apply bD|apply bA);refine blk_put (cs:=#[.int .u64 t191,.int .u64 t192,.bool t193,.int .i64 0]) ?_ 3 _ rfl;(with_reducible repeat first|apply bN|apply bD|apply bA);refine blk_put (cs:=#[.int .u64 t191,.int .u64 t192,.bool false,.int .i64 0]) ?_ 2 _ rfl;(with_reducible repeat first|apply bN|apply bD|apply bA);refine blk_put (cs:=#[.int .u64 t191,.int .u64 0,.bool false,.int .i64 0]) ?_ 1 _ rfl;(with_reducible repeat first|apply bN|apply bD|apply bA);refine blk_put (cs:=#[.int .u64 0,.int .u64 0,.bool false,.int .i64 0]) ?_ 0 _ rfl;(with_reducible repeat first|apply bN|apply bD|apply bA);exact K196.1))⟩;have n5_ : Aside0 (Below w.heap.size w w183):=⟨(by rw [hw];exact (by repeat (first|(with_reducible first|exact HB.1|apply bwA|apply bwN|apply bw1|refine bS ?_ GE168.1|refine bS ?_ GE176.1|refine bS ?_ GE184.1|refine bS ?_ GE190.1|refine bS ?_ GE196.1)|exact HB.1)))⟩;clear hw;clear K168;clear K176;clear K184;clear K190;clear K196;clear HB;have K168:=n0_;have K176:=n1_;have K184:=n2_;have K190:=n3_;have K196:=n4_;have HB:=n5_;clear n0_ n1_ n2_ n3_ n4_ n5_))
    have n0_:=Aside0.mk (bD K168.1)
    have n1_:=Aside0.mk (bD K176.1)
    have n2_:=Aside0.mk (bD K184.1)
    have n3_:=Aside0.mk (bD K190.1)
    have n4_:=Aside0.mk (bD K196.1)
    have n5_:=Aside0.mk (bw1 HB.1)
    clear K168
    clear K176
    clear K184
    clear K190
    clear K196
    clear HB
    have K168:=n0_
    have K176:=n1_
    have K184:=n2_
    have K190:=n3_
    have K196:=n4_
    have HB:=n5_
    clear n0_ n1_ n2_ n3_ n4_ n5_
    refine start_ (n:=27) (S:=fun w' => w'.cell? ⟨G168,0,none⟩ = some (.float .f64 a0_0) ∧ w'.cell? ⟨G168,1,none⟩ = some (.int .i64 a0_1) ∧ w'.cell? ⟨G168,2,none⟩ = some (.int .i64 a0_2) ∧ w'.cell? ⟨G168,3,none⟩ = some (.int .i64 a0_3) ∧ w'.cell? ⟨G168,4,none⟩ = some (.int .i64 a0_4) ∧ w'.cell? ⟨G168,5,none⟩ = some (.int .i64 a0_5) ∧ w'.cell? ⟨G168,6,none⟩ = some (.int .i64 a0_6)) (ds:=[]) #[false,false,false,false,false,false,false,false,false,false,false,false,false,false,false,false,false,false,false,false,false,false,false,false,false,false,false] (by kernel_rfl) rfl rfl ⟨(bC K168.1 0).trans rfl,(bC K168.1 1).trans rfl,(bC K168.1 2).trans rfl,(bC K168.1 3).trans rfl,(bC K168.1 4).trans rfl,(bC K168.1 5).trans rfl,(bC K168.1 6).trans rfl⟩ (fun hHeld => ?_);refine with_tabW beaconlaw12_SessionChecks.tab6 beaconlaw12_SessionChecks.bits6 (fun HT_ HW_ => ?_)
    generalize w183.drew = w184 at K168 K176 K184 K190 K196 HB hHeld ⊢
    refine take_ (i:=0) (N:=some 71) (v:=?_) (a':=?_) #[true,false,false,false,false,false,false,false,false,false,false,false,false,false,false,false,false,false,false,false,false,false,false,false,false,false,false] rfl rfl (take_ofW HT_.out HW_.out (by kernel_rfl)) (fun _ _ _ h => h) (Or.inl ⟨by rfl,?_⟩) hHeld ?_ ?_
    rotate_left
    ·rintro w' ⟨s0,s1,s2,s3,s4,s5,s6⟩
     go_simp
     with_reducible rfl
    rotate_left
    ·simp only [Act.put,xA,xB,xC,i64_w,i32_w]
     rfl
    refine take_ (i:=2) (N:=some 73) (v:=?_) (a':=?_) #[true,false,true,false,false,false,false,false,false,false,false,false,false,false,false,false,false,false,false,false,false,false,false,false,false,false,false] rfl rfl (take_ofW HT_.out HW_.out (by kernel_rfl)) (fun _ _ _ h => h) (Or.inl ⟨by rfl,?_⟩) hHeld ?_ ?_
    rotate_left
    ·rintro w' ⟨s0,s1,s2,s3,s4,s5,s6⟩
     go_simp
     with_reducible rfl
    rotate_left
    ·simp only [Act.put,xA,xB,xC,i64_w,i32_w]
     rfl
    refine one_ (i:=1) (N:=some 72) #[true,true,true,false,false,false,false,false,false,false,false,false,false,false,false,false,false,false,false,false,false,false,false,false,false,false,false] rfl rfl (one_of HT_.out (by kernel_rfl)) (by decide) (fun K hK => ?_)
    refine goes_ Try.func25 (by kernel_rfl) rfl #[.agg #[.float .f64 a0_0,.int .i64 a0_1,.int .i64 a0_2,.int .i64 a0_3,.int .i64 a0_4,.int .i64 a0_5,.int .i64 a0_6]] (by rfl) rfl rfl (by (try simp only [List.map_toArray,List.map_cons,List.map_nil]);first|done|rfl|(simp only [List.length_drop,List.length_take];rfl)) ?_
    with_reducible refine (session_Check.calls kj4 a0_0 a0_1 a0_2 a0_3 a0_4 a0_5 a0_6 t197 _ A61.out).mono ?_
    rintro e w185 ⟨rfl,hb⟩
    refine ⟨_,rfl,?_⟩
    have n0_:=Aside0.mk (bB (by (with_reducible repeat first|apply bN|apply bD|apply bA);exact K168.1) hb)
    have n1_:=Aside0.mk (bB (by (with_reducible repeat first|apply bN|apply bD|apply bA);exact K176.1) hb)
    have n2_:=Aside0.mk (bB (by (with_reducible repeat first|apply bN|apply bD|apply bA);exact K184.1) hb)
    have n3_:=Aside0.mk (bB (by (with_reducible repeat first|apply bN|apply bD|apply bA);exact K190.1) hb)
    have n4_:=Aside0.mk (bB (by (with_reducible repeat first|apply bN|apply bD|apply bA);exact K196.1) hb)
    have n5_:=Aside0.mk (below_step (by repeat (first|(with_reducible first|exact HB.1|apply bwA|apply bwN|apply bw1|refine bS ?_ GE168.1|refine bS ?_ GE176.1|refine bS ?_ GE184.1|refine bS ?_ GE190.1|refine bS ?_ GE196.1)|exact HB.1)) hb)
    clear K168
    clear K176
    clear K184
    clear K190
    clear K196
    clear HB
    have K168:=n0_
    have K176:=n1_
    have K184:=n2_
    have K190:=n3_
    have K196:=n4_
    have HB:=n5_
    clear n0_ n1_ n2_ n3_ n4_ n5_
    (try clear hb)
    (try clear hb2)
    (try clear hk)
    (try clear hi)
    refine hK.out _ _ ⟨(bC K168.1 0).trans rfl,(bC K168.1 1).trans rfl,(bC K168.1 2).trans rfl,(bC K168.1 3).trans rfl,(bC K168.1 4).trans rfl,(bC K168.1 5).trans rfl,(bC K168.1 6).trans rfl⟩ (fun hHeld => ?_)
    clear hK K
    refine norm_ (a':=?_) ?_ ?_
    rotate_left
    ·show Act.put _ (some 72) _ = _
     simp only [Act.put,xA,xB,xC,i64_w,i32_w]
     rfl
    refine one_ (i:=3) (N:=some 74) #[true,true,true,true,false,false,false,false,false,false,false,false,false,false,false,false,false,false,false,false,false,false,false,false,false,false,false] rfl rfl (one_of HT_.out (by kernel_rfl)) (by decide) (fun K hK => ?_)
    refine goes_ Try.func26 (by kernel_rfl) rfl #[.agg #[.float .f64 a0_0,.int .i64 a0_1,.int .i64 a0_2,.int .i64 a0_3,.int .i64 a0_4,.int .i64 a0_5,.int .i64 a0_6]] (by rfl) rfl rfl (by (try simp only [List.map_toArray,List.map_cons,List.map_nil]);first|done|rfl|(simp only [List.length_drop,List.length_take];rfl)) ?_
    with_reducible refine (beaconref12_Check.calls kj4 a0_0 a0_1 a0_2 a0_3 a0_4 a0_5 a0_6 t198 _ A62.out).mono ?_
    rintro e w186 ⟨rfl,hb⟩
    refine ⟨_,rfl,?_⟩
    have n0_:=Aside0.mk (bB (by (with_reducible repeat first|apply bN|apply bD|apply bA);exact K168.1) hb)
    have n1_:=Aside0.mk (bB (by (with_reducible repeat first|apply bN|apply bD|apply bA);exact K176.1) hb)
    have n2_:=Aside0.mk (bB (by (with_reducible repeat first|apply bN|apply bD|apply bA);exact K184.1) hb)
    have n3_:=Aside0.mk (bB (by (with_reducible repeat first|apply bN|apply bD|apply bA);exact K190.1) hb)
    have n4_:=Aside0.mk (bB (by (with_reducible repeat first|apply bN|apply bD|apply bA);exact K196.1) hb)
    have n5_:=Aside0.mk (below_step (by repeat (first|(with_reducible first|exact HB.1|apply bwA|apply bwN|apply bw1|refine bS ?_ GE168.1|refine bS ?_ GE176.1|refine bS ?_ GE184.1|refine bS ?_ GE190.1|refine bS ?_ GE196.1)|exact HB.1)) hb)
    clear K168
    clear K176
    clear K184
    clear K190
    clear K196
    clear HB
    have K168:=n0_
    have K176:=n1_
    have K184:=n2_
    have K190:=n3_
    have K196:=n4_
    have HB:=n5_
    clear n0_ n1_ n2_ n3_ n4_ n5_
    (try clear hb)
    (try clear hb2)
    (try clear hk)
    (try clear hi)
    refine hK.out _ _ ⟨(bC K168.1 0).trans rfl,(bC K168.1 1).trans rfl,(bC K168.1 2).trans rfl,(bC K168.1 3).trans rfl,(bC K168.1 4).trans rfl,(bC K168.1 5).trans rfl,(bC K168.1 6).trans rfl⟩ (fun hHeld => ?_)
    clear hK K
    refine norm_ (a':=?_) ?_ ?_
    rotate_left
    ·show Act.put _ (some 74) _ = _
     simp only [Act.put,xA,xB,xC,i64_w,i32_w]
     rfl
    refine pure_ (i:=4) (N:=some 75) (v:=?_) (a':=?_) #[true,true,true,true,true,false,false,false,false,false,false,false,false,false,false,false,false,false,false,false,false,false,false,false,false,false,false] rfl rfl (any_of HT_.out (by kernel_rfl)) (fun _ _ _ h => h) (Or.inl ⟨by rfl,?_⟩) ?_ ?_
    rotate_left
    ·intro w'
     go_simp
     with_reducible rfl
    rotate_left
    ·simp only [Act.put,xA,xB,xC,i64_w,i32_w]
     rfl
    refine pure_ (i:=5) (N:=some 76) (v:=?_) (a':=?_) #[true,true,true,true,true,true,false,false,false,false,false,false,false,false,false,false,false,false,false,false,false,false,false,false,false,false,false] rfl rfl (any_of HT_.out (by kernel_rfl)) (fun _ _ _ h => h) (Or.inl ⟨by rfl,?_⟩) ?_ ?_
    rotate_left
    ·intro w'
     go_simp
     with_reducible rfl
    rotate_left
    ·simp only [Act.put,xA,xB,xC,i64_w,i32_w]
     rfl
    refine pure_ (i:=6) (N:=some 77) (v:=undef) (a':=?_) #[true,true,true,true,true,true,true,false,false,false,false,false,false,false,false,false,false,false,false,false,false,false,false,false,false,false,false] rfl rfl (any_of HT_.out (by kernel_rfl)) (fun _ _ _ h => h) (Or.inr ⟨by rfl,rfl⟩) ?_ ?_
    rotate_left
    ·simp only [Act.put,xA,xB,xC,i64_w,i32_w]
     rfl
    refine pure_ (i:=7) (N:=some 78) (v:=?_) (a':=?_) #[true,true,true,true,true,true,true,true,false,false,false,false,false,false,false,false,false,false,false,false,false,false,false,false,false,false,false] rfl rfl (any_of HT_.out (by kernel_rfl)) (fun _ _ _ h => h) (Or.inl ⟨by rfl,?_⟩) ?_ ?_
    rotate_left
    ·intro w'
     go_simp
     with_reducible rfl
    rotate_left
    ·simp only [Act.put,xA,xB,xC,i64_w,i32_w]
     rfl
    refine pure_ (i:=8) (N:=some 79) (v:=?_) (a':=?_) #[true,true,true,true,true,true,true,true,true,false,false,false,false,false,false,false,false,false,false,false,false,false,false,false,false,false,false] rfl rfl (any_of HT_.out (by kernel_rfl)) (fun _ _ _ h => h) (Or.inl ⟨by rfl,?_⟩) ?_ ?_
    rotate_left
    ·intro w'
     go_simp
     with_reducible rfl
    rotate_left
    ·simp only [Act.put,xA,xB,xC,i64_w,i32_w]
     rfl
    refine pure_ (i:=9) (N:=some 80) (v:=undef) (a':=?_) #[true,true,true,true,true,true,true,true,true,true,false,false,false,false,false,false,false,false,false,false,false,false,false,false,false,false,false] rfl rfl (any_of HT_.out (by kernel_rfl)) (fun _ _ _ h => h) (Or.inr ⟨by rfl,rfl⟩) ?_ ?_
    rotate_left
    ·simp only [Act.put,xA,xB,xC,i64_w,i32_w]
     rfl
    refine pure_ (i:=10) (N:=some 81) (v:=undef) (a':=?_) #[true,true,true,true,true,true,true,true,true,true,true,false,false,false,false,false,false,false,false,false,false,false,false,false,false,false,false] rfl rfl (any_of HT_.out (by kernel_rfl)) (fun _ _ _ h => h) (Or.inr ⟨by rfl,rfl⟩) ?_ ?_
    rotate_left
    ·simp only [Act.put,xA,xB,xC,i64_w,i32_w]
     rfl
    refine pure_ (i:=11) (N:=some 82) (v:=undef) (a':=?_) #[true,true,true,true,true,true,true,true,true,true,true,true,false,false,false,false,false,false,false,false,false,false,false,false,false,false,false] rfl rfl (any_of HT_.out (by kernel_rfl)) (fun _ _ _ h => h) (Or.inr ⟨by rfl,rfl⟩) ?_ ?_
    rotate_left
    ·simp only [Act.put,xA,xB,xC,i64_w,i32_w]
     rfl
    refine pure_ (i:=12) (N:=some 83) (v:=?_) (a':=?_) #[true,true,true,true,true,true,true,true,true,true,true,true,true,false,false,false,false,false,false,false,false,false,false,false,false,false,false] rfl rfl (any_of HT_.out (by kernel_rfl)) (fun _ _ _ h => h) (Or.inl ⟨by rfl,?_⟩) ?_ ?_
    rotate_left
    ·intro w'
     go_simp
     with_reducible rfl
    rotate_left
    ·simp only [Act.put,xA,xB,xC,i64_w,i32_w]
     rfl
    refine pure_ (i:=13) (N:=some 84) (v:=?_) (a':=?_) #[true,true,true,true,true,true,true,true,true,true,true,true,true,true,false,false,false,false,false,false,false,false,false,false,false,false,false] rfl rfl (any_of HT_.out (by kernel_rfl)) (fun _ _ _ h => h) (Or.inl ⟨by rfl,?_⟩) ?_ ?_
    rotate_left
    ·intro w'
     go_simp
     with_reducible rfl
    rotate_left
    ·simp only [Act.put,xA,xB,xC,i64_w,i32_w]
     rfl
    refine pure_ (i:=14) (N:=some 85) (v:=undef) (a':=?_) #[true,true,true,true,true,true,true,true,true,true,true,true,true,true,true,false,false,false,false,false,false,false,false,false,false,false,false] rfl rfl (any_of HT_.out (by kernel_rfl)) (fun _ _ _ h => h) (Or.inr ⟨by rfl,rfl⟩) ?_ ?_
    rotate_left
    ·simp only [Act.put,xA,xB,xC,i64_w,i32_w]
     rfl
    refine pure_ (i:=15) (N:=some 86) (v:=undef) (a':=?_) #[true,true,true,true,true,true,true,true,true,true,true,true,true,true,true,true,false,false,false,false,false,false,false,false,false,false,false] rfl rfl (any_of HT_.out (by kernel_rfl)) (fun _ _ _ h => h) (Or.inr ⟨by rfl,rfl⟩) ?_ ?_
    rotate_left
    ·simp only [Act.put,xA,xB,xC,i64_w,i32_w]
     rfl
    refine pure_ (i:=16) (N:=some 87) (v:=undef) (a':=?_) #[true,true,true,true,true,true,true,true,true,true,true,true,true,true,true,true,true,false,false,false,false,false,false,false,false,false,false] rfl rfl (any_of HT_.out (by kernel_rfl)) (fun _ _ _ h => h) (Or.inr ⟨by rfl,rfl⟩) ?_ ?_
    rotate_left
    ·simp only [Act.put,xA,xB,xC,i64_w,i32_w]
     rfl
    refine pure_ (i:=17) (N:=some 88) (v:=?_) (a':=?_) #[true,true,true,true,true,true,true,true,true,true,true,true,true,true,true,true,true,true,false,false,false,false,false,false,false,false,false] rfl rfl (any_of HT_.out (by kernel_rfl)) (fun _ _ _ h => h) (Or.inl ⟨by rfl,?_⟩) ?_ ?_
    rotate_left
    ·intro w'
     go_simp
     with_reducible rfl
    rotate_left
    ·simp only [Act.put,xA,xB,xC,i64_w,i32_w]
     rfl
    refine pure_ (i:=18) (N:=some 89) (v:=?_) (a':=?_) #[true,true,true,true,true,true,true,true,true,true,true,true,true,true,true,true,true,true,true,false,false,false,false,false,false,false,false] rfl rfl (any_of HT_.out (by kernel_rfl)) (fun _ _ _ h => h) (Or.inl ⟨by rfl,?_⟩) ?_ ?_
    rotate_left
    ·intro w'
     go_simp
     with_reducible rfl
    rotate_left
    ·simp only [Act.put,xA,xB,xC,i64_w,i32_w]
     rfl
    refine pure_ (i:=19) (N:=some 90) (v:=undef) (a':=?_) #[true,true,true,true,true,true,true,true,true,true,true,true,true,true,true,true,true,true,true,true,false,false,false,false,false,false,false] rfl rfl (any_of HT_.out (by kernel_rfl)) (fun _ _ _ h => h) (Or.inr ⟨by rfl,rfl⟩) ?_ ?_
    rotate_left
    ·simp only [Act.put,xA,xB,xC,i64_w,i32_w]
     rfl
    refine pure_ (i:=20) (N:=some 91) (v:=undef) (a':=?_) #[true,true,true,true,true,true,true,true,true,true,true,true,true,true,true,true,true,true,true,true,true,false,false,false,false,false,false] rfl rfl (any_of HT_.out (by kernel_rfl)) (fun _ _ _ h => h) (Or.inr ⟨by rfl,rfl⟩) ?_ ?_
    rotate_left
    ·simp only [Act.put,xA,xB,xC,i64_w,i32_w]
     rfl
    refine pure_ (i:=21) (N:=some 92) (v:=undef) (a':=?_) #[true,true,true,true,true,true,true,true,true,true,true,true,true,true,true,true,true,true,true,true,true,true,false,false,false,false,false] rfl rfl (any_of HT_.out (by kernel_rfl)) (fun _ _ _ h => h) (Or.inr ⟨by rfl,rfl⟩) ?_ ?_
    rotate_left
    ·simp only [Act.put,xA,xB,xC,i64_w,i32_w]
     rfl
    refine pure_ (i:=22) (N:=some 93) (v:=?_) (a':=?_) #[true,true,true,true,true,true,true,true,true,true,true,true,true,true,true,true,true,true,true,true,true,true,true,false,false,false,false] rfl rfl (any_of HT_.out (by kernel_rfl)) (fun _ _ _ h => h) (Or.inl ⟨by rfl,?_⟩) ?_ ?_
    rotate_left
    ·intro w'
     go_simp
     with_reducible rfl
    rotate_left
    ·simp only [Act.put,xA,xB,xC,i64_w,i32_w]
     rfl
    refine pure_ (i:=23) (N:=some 94) (v:=?_) (a':=?_) #[true,true,true,true,true,true,true,true,true,true,true,true,true,true,true,true,true,true,true,true,true,true,true,true,false,false,false] rfl rfl (any_of HT_.out (by kernel_rfl)) (fun _ _ _ h => h) (Or.inl ⟨by rfl,?_⟩) ?_ ?_
    rotate_left
    ·intro w'
     go_simp
     with_reducible rfl
    rotate_left
    ·simp only [Act.put,xA,xB,xC,i64_w,i32_w]
     rfl
    refine pure_ (i:=24) (N:=some 95) (v:=undef) (a':=?_) #[true,true,true,true,true,true,true,true,true,true,true,true,true,true,true,true,true,true,true,true,true,true,true,true,true,false,false] rfl rfl (any_of HT_.out (by kernel_rfl)) (fun _ _ _ h => h) (Or.inr ⟨by rfl,rfl⟩) ?_ ?_
    rotate_left
    ·simp only [Act.put,xA,xB,xC,i64_w,i32_w]
     rfl
    refine pure_ (i:=25) (N:=some 96) (v:=?_) (a':=?_) #[true,true,true,true,true,true,true,true,true,true,true,true,true,true,true,true,true,true,true,true,true,true,true,true,true,true,false] rfl rfl (any_of HT_.out (by kernel_rfl)) (fun _ _ _ h => h) (Or.inl ⟨by rfl,?_⟩) ?_ ?_
    rotate_left
    ·intro w'
     go_simp
     with_reducible rfl
    rotate_left
    ·simp only [Act.put,xA,xB,xC,i64_w,i32_w]
     rfl
    refine pure_ (i:=26) (N:=some 4) (v:=?_) (a':=?_) #[true,true,true,true,true,true,true,true,true,true,true,true,true,true,true,true,true,true,true,true,true,true,true,true,true,true,true] rfl rfl (any_of HT_.out (by kernel_rfl)) (fun _ _ _ h => h) (Or.inl ⟨by rfl,?_⟩) ?_ ?_
    rotate_left
    ·intro w'
     go_simp
     with_reducible rfl
    rotate_left
    ·simp only [Act.put,xA,xB,xC,i64_w,i32_w]
     rfl
    refine done_ (done_of HT_.out (by kernel_rfl)) ?_
    try go_wp2
    go_ret
    exact ⟨by first|rfl|(simp [errW_none,errW_some] <;> rfl)|(simp [*,errW_none,errW_some] <;> rfl),by repeat (first|(with_reducible first|exact HB.1|apply bwA|apply bwN|apply bw1|refine bS ?_ GE168.1|refine bS ?_ GE176.1|refine bS ?_ GE184.1|refine bS ?_ GE190.1|refine bS ?_ GE196.1)|exact HB.1)⟩

end Go.Proofs.Ytjodekffbobmlaa.XC
