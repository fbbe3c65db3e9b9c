/- Go functions of this seat as Lean functions, with proofs that the calls come to them. (Written by xprint.py, a program of this session, over the kit's print.) -/
import Derived.Test.YtjodekffbobmlaaXSx0
import Derived.Test.YtjodekffbobmlaaXSx1
import Derived.Test.YtjodekffbobmlaaXSx2
namespace Go.Proofs.Ytjodekffbobmlaa.XS
open Go.RowKit Go.Proofs.YtjodekffbobmlaaW.PrintWords Go.Proofs.YtjodekffbobmlaaW.PrintLast Go.Proofs.YtjodekffbobmlaaW.PrintMore
attribute [local go_sem] max2_int min2_int max_two min_two max_three min_three max_four min_four   -- for this text's walks alone
set_option linter.unusedVariables false
set_option linter.unusedSimpArgs false
open Go.Proofs.YtjodekffbobmlaaW.PrintWords renaming blk_drewN → bN, blk_drew → bD, blk_alloc → bA, below_set → bS, blk_frozen → bF, blk_cell → bC, cell_far → cF, blk_far → bZ, blk_below → bB, pw_below_drewN → bwN, below_drew1 → bw1, below_alloc → bwA

/-! ### beaconlaw12_SessionPlays: function 4 -/
mutual
def beaconlaw12_SessionPlays.l0 : Nat → List (S45) → Int → Int → Int → Bool → Int → Int → Int → Bool → Int → Option (Bool)
 | 0, _, _, _, _, _, _, _, _, _, _ => none
 | k + 1, x1, x6, x175000, x175001, x175002, x175003, x178000, x178001, x178002, x178003 => if x6 < (x1.length : Int) then (if 0 ≤ x6 then (if ((rd_T45 x1 x6).f0) = 0 then ((session_Hear.f k x175000 x175001 x175002 x175003 ((rd_T45 x1 x6).f1) ((rd_T45 x1 x6).f2)).bind fun bt181 => ((beaconref12_Hear.f k x178000 x178001 x178002 x178003 ((rd_T45 x1 x6).f1) ((rd_T45 x1 x6).f2)).bind fun bt188 => (if (bt181.2.2.2.2.1 == bt188.2.2.2.2.1) = true then (beaconlaw12_SessionPlays.j1 k x1 x6 (bt181.2.2.2.2.2 == bt188.2.2.2.2.2) bt181.1 bt181.2.1 bt181.2.2.1 bt181.2.2.2.1 bt188.1 bt188.2.1 bt188.2.2.1 bt188.2.2.2.1) else (beaconlaw12_SessionPlays.j1 k x1 x6 false bt181.1 bt181.2.1 bt181.2.2.1 bt181.2.2.2.1 bt188.1 bt188.2.1 bt188.2.2.1 bt188.2.2.2.1)))) else (if ((rd_T45 x1 x6).f0) = 1 then ((session_Accept.f x175000 x175001 x175002 x175003 ((rd_T45 x1 x6).f1) ((rd_T45 x1 x6).f2)).bind fun bt195 => ((beaconref12_Accept.f x178000 x178001 x178002 x178003 ((rd_T45 x1 x6).f1) ((rd_T45 x1 x6).f2)).bind fun bt202 => (if (bt195.2.2.2.2.1 == bt202.2.2.2.2.1) = true then (beaconlaw12_SessionPlays.j1 k x1 x6 (bt195.2.2.2.2.2 == bt202.2.2.2.2.2) bt195.1 bt195.2.1 bt195.2.2.1 bt195.2.2.2.1 bt202.1 bt202.2.1 bt202.2.2.1 bt202.2.2.2.1) else (beaconlaw12_SessionPlays.j1 k x1 x6 false bt195.1 bt195.2.1 bt195.2.2.1 bt195.2.2.2.1 bt202.1 bt202.2.1 bt202.2.2.1 bt202.2.2.2.1)))) else (if ((rd_T45 x1 x6).f0) = 2 then ((session_Tick.f x175000 x175001 x175002 x175003 ((rd_T45 x1 x6).f3)).bind fun bt209 => ((beaconref12_Tick.f x178000 x178001 x178002 x178003 ((rd_T45 x1 x6).f3)).bind fun bt215 => (beaconlaw12_SessionPlays.j1 k x1 x6 (bt209.2.2.2.2 == bt215.2.2.2.2) bt209.1 bt209.2.1 bt209.2.2.1 bt209.2.2.2.1 bt215.1 bt215.2.1 bt215.2.2.1 bt215.2.2.2.1))) else (if ((rd_T45 x1 x6).f0) = 3 then ((session_Down.f x175000 x175001 x175002 x175003).bind fun bt221 => ((beaconref12_Down.f x178000 x178001 x178002 x178003).bind fun bt225 => (beaconlaw12_SessionPlays.j1 k x1 x6 true bt221.1 bt221.2.1 bt221.2.2.1 bt221.2.2.2 bt225.1 bt225.2.1 bt225.2.2.1 bt225.2.2.2))) else (beaconlaw12_SessionPlays.j1 k x1 x6 true x175000 x175001 x175002 x175003 x178000 x178001 x178002 x178003))))) else (none)) else ((beaconlaw12_awake.f k).bind fun t178 => (some t178))
def beaconlaw12_SessionPlays.j1 : Nat → List (S45) → Int → Bool → Int → Int → Bool → Int → Int → Int → Bool → Int → Option (Bool)
 | 0, _, _, _, _, _, _, _, _, _, _, _ => none
 | k + 1, x1, x6, x8, x175000, x175001, x175002, x175003, x178000, x178001, x178002, x178003 => (session_Hello.f x175000 x175001 x175002 x175003).bind fun bt229 => ((beaconref12_Hello.f x178000 x178001 x178002 x178003).bind fun bt231 => (if x8 = true then ((beaconref12_Same.f x175000 x175001 x175002 x175003 x178000 x178001 x178002 x178003).bind fun t233 => (if t233 = true then (if bt229.1 = bt231.1 then (if bt229.2 = bt231.2 then (beaconlaw12_SessionPlays.l0 k x1 (wrap64 (x6 + 1)) x175000 x175001 x175002 x175003 x178000 x178001 x178002 x178003) else (some false)) else (some false)) else (some false))) else (some false)))
end
def beaconlaw12_SessionPlays.f (k : Nat) (a0_0 : Int) (a0_1 : Int) (a0_2 : Bool) (a0_3 : Int) (l1 : List (S45)) : Option (Bool) := (beaconref12_May.f a0_0 a0_1 a0_2 a0_3).bind fun t175 => (if t175 = true then (beaconlaw12_SessionPlays.l0 k l1 0 a0_0 a0_1 a0_2 a0_3 a0_0 a0_1 a0_2 a0_3) else ((beaconlaw12_awake.f k).bind fun t176 => (some t176)))
theorem beaconlaw12_SessionPlays.mono_l : ∀ k, (∀ y0 y1 y2 y3 y4 y5 y6 y7 y8 y9, LeO (beaconlaw12_SessionPlays.l0 k y0 y1 y2 y3 y4 y5 y6 y7 y8 y9) (beaconlaw12_SessionPlays.l0 (k + 1) y0 y1 y2 y3 y4 y5 y6 y7 y8 y9)) ∧ (∀ y0 y1 y2 y3 y4 y5 y6 y7 y8 y9 y10, LeO (beaconlaw12_SessionPlays.j1 k y0 y1 y2 y3 y4 y5 y6 y7 y8 y9 y10) (beaconlaw12_SessionPlays.j1 (k + 1) y0 y1 y2 y3 y4 y5 y6 y7 y8 y9 y10))
 | 0 => ⟨fun _ _ _ _ _ _ _ _ _ _ r h => by simp [beaconlaw12_SessionPlays.l0] at h, fun _ _ _ _ _ _ _ _ _ _ _ r h => by simp [beaconlaw12_SessionPlays.j1] at h⟩
 | k + 1 => by
  obtain ⟨ih0,ih1⟩:=beaconlaw12_SessionPlays.mono_l k
  refine ⟨?_,?_⟩
  ·intro y0 y1 y2 y3 y4 y5 y6 y7 y8 y9
   unfold beaconlaw12_SessionPlays.l0
   repeat' first
   | (with_reducible exact ih0 _ _ _ _ _ _ _ _ _ _)
   | (with_reducible exact ih1 _ _ _ _ _ _ _ _ _ _ _)
   | (with_reducible exact beaconlaw12_awake.mono _)
   | (with_reducible exact beaconref12_Hear.mono _ _ _ _ _ _ _)
   | (with_reducible exact session_Hear.mono _ _ _ _ _ _ _)
   | (with_reducible exact LeO.refl _)
   | (with_reducible exact LeO.none _)
   | (with_reducible refine LeO.ite ?_ ?_)
   | (with_reducible refine LeO.bind ?_ (fun _ => ?_))
   | exact ih0 _ _ _ _ _ _ _ _ _ _
   | exact ih1 _ _ _ _ _ _ _ _ _ _ _
   | exact beaconlaw12_awake.mono _
   | exact beaconref12_Hear.mono _ _ _ _ _ _ _
   | exact session_Hear.mono _ _ _ _ _ _ _
   | exact LeO.none _
   | refine LeO.ite ?_ ?_
   | refine LeO.bind ?_ (fun _ => ?_)
  ·intro y0 y1 y2 y3 y4 y5 y6 y7 y8 y9 y10
   unfold beaconlaw12_SessionPlays.j1
   repeat' first
   | (with_reducible exact ih0 _ _ _ _ _ _ _ _ _ _)
   | (with_reducible exact ih1 _ _ _ _ _ _ _ _ _ _ _)
   | (with_reducible exact beaconlaw12_awake.mono _)
   | (with_reducible exact beaconref12_Hear.mono _ _ _ _ _ _ _)
   | (with_reducible exact session_Hear.mono _ _ _ _ _ _ _)
   | (with_reducible exact LeO.refl _)
   | (with_reducible exact LeO.none _)
   | (with_reducible refine LeO.ite ?_ ?_)
   | (with_reducible refine LeO.bind ?_ (fun _ => ?_))
   | exact ih0 _ _ _ _ _ _ _ _ _ _
   | exact ih1 _ _ _ _ _ _ _ _ _ _ _
   | exact beaconlaw12_awake.mono _
   | exact beaconref12_Hear.mono _ _ _ _ _ _ _
   | exact session_Hear.mono _ _ _ _ _ _ _
   | exact LeO.none _
   | refine LeO.ite ?_ ?_
   | refine LeO.bind ?_ (fun _ => ?_)
theorem beaconlaw12_SessionPlays.mono : ∀ a0 a1 a2 a3 a4 k, LeO (beaconlaw12_SessionPlays.f k a0 a1 a2 a3 a4) (beaconlaw12_SessionPlays.f (k + 1) a0 a1 a2 a3 a4) := by
 intro a0 a1 a2 a3 a4 k
 obtain ⟨ih0,ih1⟩:=beaconlaw12_SessionPlays.mono_l k
 unfold beaconlaw12_SessionPlays.f
 repeat' first
   | (with_reducible exact ih0 _ _ _ _ _ _ _ _ _ _)
   | (with_reducible exact ih1 _ _ _ _ _ _ _ _ _ _ _)
   | (with_reducible exact beaconlaw12_awake.mono _)
   | (with_reducible exact beaconref12_Hear.mono _ _ _ _ _ _ _)
   | (with_reducible exact session_Hear.mono _ _ _ _ _ _ _)
   | (with_reducible exact LeO.refl _)
   | (with_reducible exact LeO.none _)
   | (with_reducible refine LeO.ite ?_ ?_)
   | (with_reducible refine LeO.bind ?_ (fun _ => ?_))
   | exact ih0 _ _ _ _ _ _ _ _ _ _
   | exact ih1 _ _ _ _ _ _ _ _ _ _ _
   | exact beaconlaw12_awake.mono _
   | exact beaconref12_Hear.mono _ _ _ _ _ _ _
   | exact session_Hear.mono _ _ _ _ _ _ _
   | exact LeO.none _
   | refine LeO.ite ?_ ?_
   | refine LeO.bind ?_ (fun _ => ?_)
def beaconlaw12_SessionPlays.T13 : Bool × List (List Nat × List Nat) := (true, [([], []), ([], []), ([], []), ([], []), ([2, 3], [2, 3]), ([4], [4]), ([5], [5]), ([5], [5]), ([6, 7, 5], [5, 6, 7]), ([5, 8], [5, 8]), ([0, 5, 0], [0]), ([1, 10, 0, 1, 10], [1]), ([9, 11, 0, 1, 2, 3, 4, 5, 6, 7, 8, 9, 10, 11], [9])])
def beaconlaw12_SessionPlays.B13 : List Nat := [0, 0, 0, 0, 12, 28, 60, 60, 252, 508, 61, 1087, 4095]
theorem beaconlaw12_SessionPlays.tab13 : rtab .any (opsOf Try.f4 13) = beaconlaw12_SessionPlays.T13 := by kernel_rfl
theorem beaconlaw12_SessionPlays.bits13 : waitsOk beaconlaw12_SessionPlays.T13.2 beaconlaw12_SessionPlays.B13 = true := by kernel_rfl
def beaconlaw12_SessionPlays.T17 : Bool × List (List Nat × List Nat) := (true, [([], []), ([], []), ([], []), ([], []), ([2, 3], [2, 3]), ([4], [4]), ([5], [5]), ([5], [5]), ([6, 7, 5], [5, 6, 7]), ([5, 8], [5, 8]), ([0, 5, 0], [0]), ([1, 10, 0, 1, 10], [1]), ([9, 11, 0, 1, 2, 3, 4, 5, 6, 7, 8, 9, 10, 11], [9])])
def beaconlaw12_SessionPlays.B17 : List Nat := [0, 0, 0, 0, 12, 28, 60, 60, 252, 508, 61, 1087, 4095]
theorem beaconlaw12_SessionPlays.tab17 : rtab .any (opsOf Try.f4 17) = beaconlaw12_SessionPlays.T17 := by kernel_rfl
theorem beaconlaw12_SessionPlays.bits17 : waitsOk beaconlaw12_SessionPlays.T17.2 beaconlaw12_SessionPlays.B17 = true := by kernel_rfl
def beaconlaw12_SessionPlays.T21 : Bool × List (List Nat × List Nat) := (true, [([], []), ([], []), ([], []), ([], []), ([2, 3], [2, 3]), ([0, 0], [0]), ([1, 5, 0, 1, 5], [1]), ([4, 6, 0, 1, 2, 3, 4, 5, 6], [4])])
def beaconlaw12_SessionPlays.B21 : List Nat := [0, 0, 0, 0, 12, 1, 35, 127]
theorem beaconlaw12_SessionPlays.tab21 : rtab .any (opsOf Try.f4 21) = beaconlaw12_SessionPlays.T21 := by kernel_rfl
theorem beaconlaw12_SessionPlays.bits21 : waitsOk beaconlaw12_SessionPlays.T21.2 beaconlaw12_SessionPlays.B21 = true := by kernel_rfl
set_option maxHeartbeats 2500000 in
set_option maxRecDepth 100000 in
theorem beaconlaw12_SessionPlays.calls (k : Nat) (a0_0 : Int) (a0_1 : Int) (a0_2 : Bool) (a0_3 : Int) (A1 : Option Addr) (c1 : Nat) (l1 : List (S45)) (r : Bool) (w : World) (hr1 : Kd.C k45 w A1 l1.length l1) (hc1 : l1.length ≤ c1) (h : beaconlaw12_SessionPlays.f k a0_0 a0_1 a0_2 a0_3 l1 = some r) :
  Calls Try.prog 4 #[.agg #[.int .u64 a0_0,.int .u64 a0_1,.bool a0_2,.int .i64 a0_3],.slice A1 l1.length c1] w fun e w' => e = .returned (.bool r) ∧ Below w.heap.size w w':=by
 have hu26:=Try.underlying26
 have hu45:=Try.underlying45
 have HR1:=Aside0.mk hr1
 have HC1:=Aside0.mk hc1
 clear hr1 hc1
 have HB:=Aside0.mk (Below.refl w.heap.size w)
 have H : ((beaconref12_May.f a0_0 a0_1 a0_2 a0_3).bind fun t175 => (if t175 = true then (beaconlaw12_SessionPlays.l0 k l1 0 a0_0 a0_1 a0_2 a0_3 a0_0 a0_1 a0_2 a0_3) else ((beaconlaw12_awake.f k).bind fun t176 => (some t176)))) = some r:=h
 clear h
 replace H:=Option.bind_eq_some_iff.mp H
 obtain ⟨t175,A30,H⟩:=H
 replace H : (if t175 = true then (beaconlaw12_SessionPlays.l0 k l1 0 a0_0 a0_1 a0_2 a0_3 a0_0 a0_1 a0_2 a0_3) else ((beaconlaw12_awake.f k).bind fun t176 => (some t176))) = some r:=H
 have A3:=Aside0.mk A30
 clear A30
 by_cases c4 : t175 = true
 ·subst c4
  have H1 : (beaconlaw12_SessionPlays.l0 k l1 0 a0_0 a0_1 a0_2 a0_3 a0_0 a0_1 a0_2 a0_3) = some r:=by rw [if_pos rfl] at H;exact H
  clear H
  have H:=H1
  clear H1
  have H':=Aside0.mk H
  clear H
  go_enter Try.func4,Try.ntmps4
  go_wp2_with (first|((with_reducible refine gate_dst (N:=2) rfl ?_);refine box_event ?hg (N:=2) ?hd (cs:=#[.int .u64 a0_0,.int .u64 a0_1,.bool a0_2,.int .i64 a0_3]) (t:=26) ?hr ?_;(case hd => rfl);(case hg => rfl);(case hr => first|(go_simp;done)|(go_simp;rfl));intro G174 hg w5 hbox hb;have n0_:=Aside0.mk (below_step (by repeat (first|(with_reducible first|exact HB.1|apply bwA|apply bwN|apply bw1)|exact HB.1)) hb);have n1_:=Aside0.mk (hbox);have n2_:=Aside0.mk ((by rw [hg];exact (below_size (by repeat (first|(with_reducible first|exact HB.1|apply bwA|apply bwN|apply bw1)|exact HB.1))) : w.heap.size ≤ G174));have n3_:=Aside0.mk ((by rw [hg];exact (below_size (by repeat (first|(with_reducible first|exact HB.1|apply bwA|apply bwN|apply bw1)|exact HB.1))) : w.heap.size ≤ G174));clear HB;have HB:=n0_;have K174:=n1_;have GW174:=n2_;have GE174:=n3_;clear n0_ n1_ n2_ n3_;clear hb hbox hg;have hcz6_0 : w5.cell? ⟨G174,0,none⟩ = some (.int .u64 a0_0):=(bC K174.1 0).trans rfl;have hcz6_1 : w5.cell? ⟨G174,1,none⟩ = some (.int .u64 a0_1):=(bC K174.1 1).trans rfl;have hcz6_2 : w5.cell? ⟨G174,2,none⟩ = some (.bool a0_2):=(bC K174.1 2).trans rfl;have hcz6_3 : w5.cell? ⟨G174,3,none⟩ = some (.int .i64 a0_3):=(bC K174.1 3).trans rfl;have hfz6_0:=bF K174.1 0;have hfz6_1:=bF K174.1 1;have hfz6_2:=bF K174.1 2;have hfz6_3:=bF K174.1 3)|((with_reducible refine gate_callee (f:=13) rfl ?_);refine goesL_ (some 30) rfl rfl Try.func13 (by kernel_rfl) rfl #[.agg #[.int .u64 a0_0,.int .u64 a0_1,.bool a0_2,.int .i64 a0_3]] rfl (by (try simp only [List.map_toArray,List.map_cons,List.map_nil]);first|done|rfl|(simp only [List.length_drop,List.length_take];rfl)) ?_;(with_reducible refine (beaconref12_May.calls a0_0 a0_1 a0_2 a0_3 true _ A3.out).mono ?_);rintro e w7 ⟨rfl,hb⟩;refine ⟨_,rfl,?_⟩;have n0_:=Aside0.mk (bB (g:=G174) (o:=.cells #[.int .u64 a0_0,.int .u64 a0_1,.bool a0_2,.int .i64 a0_3] 26 (0,0)) (by (with_reducible repeat first|apply bN|apply bD|apply bA);exact K174.1) hb);have n1_:=Aside0.mk (below_step (by repeat (first|(with_reducible first|exact HB.1|apply bwA|apply bwN|apply bw1|refine bS ?_ GE174.1)|exact HB.1)) hb);clear K174;clear HB;have K174:=n0_;have HB:=n1_;clear n0_ n1_;(try clear hb);(try clear hb2);(try clear hk);(try clear hi);have hcz8_0 : w7.cell? ⟨G174,0,none⟩ = some (.int .u64 a0_0):=(bC K174.1 0).trans rfl;have hcz8_1 : w7.cell? ⟨G174,1,none⟩ = some (.int .u64 a0_1):=(bC K174.1 1).trans rfl;have hcz8_2 : w7.cell? ⟨G174,2,none⟩ = some (.bool a0_2):=(bC K174.1 2).trans rfl;have hcz8_3 : w7.cell? ⟨G174,3,none⟩ = some (.int .i64 a0_3):=(bC K174.1 3).trans rfl;have hfz8_0:=bF K174.1 0;have hfz8_1:=bF K174.1 1;have hfz8_2:=bF K174.1 2;have hfz8_3:=bF K174.1 3)|((with_reducible refine gate_dst (N:=5) rfl ?_);refine box_event ?hg (N:=5) ?hd (cs:=#[.int .u64 0,.int .u64 0,.bool false,.int .i64 0]) (t:=26) ?hr ?_;(case hd => rfl);(case hg => rfl);(case hr => first|(go_simp;done)|(go_simp;rfl));intro G177 hg w9 hbox hb;have n0_:=Aside0.mk (bB (g:=G174) (o:=.cells #[.int .u64 a0_0,.int .u64 a0_1,.bool a0_2,.int .i64 a0_3] 26 (0,0)) (by (with_reducible repeat first|apply bN|apply bD|apply bA);exact K174.1) hb);have n1_:=Aside0.mk (below_step (by repeat (first|(with_reducible first|exact HB.1|apply bwA|apply bwN|apply bw1|refine bS ?_ GE174.1)|exact HB.1)) hb);have n2_:=Aside0.mk (hbox);have n3_:=Aside0.mk ((by rw [hg];exact (below_size (by repeat (first|(with_reducible first|exact HB.1|apply bwA|apply bwN|apply bw1|refine bS ?_ GE174.1)|exact HB.1))) : w.heap.size ≤ G177));have n4_:=Aside0.mk ((by rw [hg];exact (below_size (by repeat (first|(with_reducible first|exact HB.1|apply bwA|apply bwN|apply bw1|refine bS ?_ GE174.1)|exact HB.1))) : w.heap.size ≤ G177));have n5_:=Aside0.mk ((by rw [hg];exact Nat.ne_of_lt (blk_lt (g:=G174) (o:=.cells #[.int .u64 a0_0,.int .u64 a0_1,.bool a0_2,.int .i64 a0_3] 26 (0,0)) (by (with_reducible repeat first|apply bN|apply bD|apply bA);exact K174.1)) : G174 ≠ G177));have n6_:=Aside0.mk ((by rw [hg];exact Nat.ne_of_gt (blk_lt (g:=G174) (o:=.cells #[.int .u64 a0_0,.int .u64 a0_1,.bool a0_2,.int .i64 a0_3] 26 (0,0)) (by (with_reducible repeat first|apply bN|apply bD|apply bA);exact K174.1)) : G177 ≠ G174));clear K174;clear HB;have K174:=n0_;have HB:=n1_;have K177:=n2_;have GW177:=n3_;have GE177:=n4_;have NB174_177:=n5_;have NB177_174:=n6_;clear n0_ n1_ n2_ n3_ n4_ n5_ n6_;clear hb hbox hg;have hnb10:=NB177_174.1;have hnc10:=NB174_177.1;have hcz11_0 : w9.cell? ⟨G177,0,none⟩ = some (.int .u64 0):=(bC K177.1 0).trans rfl;have hcz11_1 : w9.cell? ⟨G177,1,none⟩ = some (.int .u64 0):=(bC K177.1 1).trans rfl;have hcz11_2 : w9.cell? ⟨G177,2,none⟩ = some (.bool false):=(bC K177.1 2).trans rfl;have hcz11_3 : w9.cell? ⟨G177,3,none⟩ = some (.int .i64 0):=(bC K177.1 3).trans rfl;have hfz11_0:=bF K177.1 0;have hfz11_1:=bF K177.1 1;have hfz11_2:=bF K177.1 2;have hfz11_3:=bF K177.1 3)|((with_reducible refine gate_store (t:=26) (p:=5) rfl ?_);refine store_event (t:=26) (p:=5) (v:=?vo_w12) (w1:=((((w9.setCell ⟨G177,0,none⟩ (.int .u64 a0_0)).setCell ⟨G177,1,none⟩ (.int .u64 a0_1)).setCell ⟨G177,2,none⟩ (.bool a0_2)).setCell ⟨G177,3,none⟩ (.int .i64 a0_3))) ?hg ?ho ?hn ?hr ?_;(case ho => rfl);(case hg => rfl);(case hn => rfl);(case hr => first|(go_simp;done)|(go_simp;rfl));intro w12 hw;have n0_ : Aside0 (w12.heap[G174]? = some (.cells #[.int .u64 a0_0,.int .u64 a0_1,.bool a0_2,.int .i64 a0_3] 26 (0,0))):=⟨(by rw [hw];exact (by (with_reducible repeat first|apply bN|apply bD|apply bA);refine bZ ?_ NB174_177.1 _;(with_reducible repeat first|apply bN|apply bD|apply bA);refine bZ ?_ NB174_177.1 _;(with_reducible repeat first|apply bN|apply bD|apply bA);refine bZ ?_ NB174_177.1 _;(with_reducible repeat first|apply bN|apply bD|apply bA);refine bZ ?_ NB174_177.1 _;(with_reducible repeat first|apply bN|apply bD|apply bA);exact K174.1))⟩;have n1_ : Aside0 (w12.heap[G177]? = some (.cells #[.int .u64 a0_0,.int .u64 a0_1,.bool a0_2,.int .i64 a0_3] 26 (0,0))):=⟨(by rw [hw];exact (by (with_reducible repeat first|apply bN|apply bD|apply bA);refine blk_put (cs:=#[.int .u64 a0_0,.int .u64 a0_1,.bool a0_2,.int .i64 0]) ?_ 3 _ rfl;(with_reducible repeat first|apply bN|apply bD|apply bA);refine blk_put (cs:=#[.int .u64 a0_0,.int .u64 a0_1,.bool false,.int .i64 0]) ?_ 2 _ rfl;(with_reducible repeat first|apply bN|apply bD|apply bA);refine blk_put (cs:=#[.int .u64 a0_0,.int .u64 0,.bool false,.int .i64 0]) ?_ 1 _ rfl;(with_reducible repeat first|apply bN|apply bD|apply bA);refine blk_put (cs:=#[.int .u64 0,.int .u64 0,.bool false,.int .i64 0]) ?_ 0 _ rfl;(with_reducible repeat first|apply bN|apply bD|apply bA);exact K177.1))⟩;have n2_ : Aside0 (Below w.heap.size w w12):=⟨(by rw [hw];exact (by repeat (first|(with_reducible first|exact HB.1|apply bwA|apply bwN|apply bw1|refine bS ?_ GE174.1|refine bS ?_ GE177.1)|exact HB.1)))⟩;clear hw;clear K174;clear K177;clear HB;have K174:=n0_;have K177:=n1_;have HB:=n2_;clear n0_ n1_ n2_))
  go_loopg [6] k (fun kq v6 w' => ∃ (x6_1 : Int) (x175000_1 : Int) (x175001_1 : Int) (x175002_1 : Bool) (x175003_1 : Int) (x178000_1 : Int) (x178001_1 : Int) (x178002_1 : Bool) (x178003_1 : Int),v6 = .int .i64 x6_1 ∧ Aside0 (beaconlaw12_SessionPlays.l0 kq l1 x6_1 x175000_1 x175001_1 x175002_1 x175003_1 x178000_1 x178001_1 x178002_1 x178003_1 = some r) ∧ Aside0 (kq ≤ k) ∧ Aside0 (w'.heap[G174]? = some (.cells #[.int .u64 x175000_1,.int .u64 x175001_1,.bool x175002_1,.int .i64 x175003_1] 26 (0,0))) ∧ Aside0 (w'.heap[G177]? = some (.cells #[.int .u64 x178000_1,.int .u64 x178001_1,.bool x178002_1,.int .i64 x178003_1] 26 (0,0))) ∧ Aside0 (Below w.heap.size w w'))
  case atStart => exact ⟨(0),(a0_0),(a0_1),(a0_2),(a0_3),(a0_0),(a0_1),(a0_2),(a0_3),(by first|rfl|(simp;done)|(simp [*];done)),H',⟨Nat.le_refl _⟩,⟨by (with_reducible repeat first|apply bN|apply bD|apply bA);exact K174.1⟩,⟨by (with_reducible repeat first|apply bN|apply bD|apply bA);exact K177.1⟩,⟨by repeat (first|(with_reducible first|exact HB.1|apply bwA|apply bwN|apply bw1|refine bS ?_ GE174.1|refine bS ?_ GE177.1)|exact HB.1)⟩⟩
  case round =>
   clear H'
   try clear c1
   try clear p2
   try clear c4
   try clear c10
   try clear hcz11_0
   try clear hcz11_1
   try clear hcz11_2
   try clear hcz11_3
   try clear hcz6_0
   try clear hcz6_1
   try clear hcz6_2
   try clear hcz6_3
   try clear hcz8_0
   try clear hcz8_1
   try clear hcz8_2
   try clear hcz8_3
   try clear hfz11_0
   try clear hfz11_1
   try clear hfz11_2
   try clear hfz11_3
   try clear hfz6_0
   try clear hfz6_1
   try clear hfz6_2
   try clear hfz6_3
   try clear hfz8_0
   try clear hfz8_1
   try clear hfz8_2
   try clear hfz8_3
   obtain ⟨x6_1,x175000_1,x175001_1,x175002_1,x175003_1,x178000_1,x178001_1,x178002_1,x178003_1,rfl,HA,HK1,K174,K177,HB⟩:=hrel
   cases gk with
   | zero => exact absurd HA.out (by simp [beaconlaw12_SessionPlays.l0])
   | succ k1 =>
    have H:=HA.out
    clear HA
    simp only [beaconlaw12_SessionPlays.l0] at H
    by_cases c13 : x6_1 < (l1.length : Int)
    ·rw [if_pos c13] at H
     have c13b0 : decide (x6_1 < (l1.length : Int)) = true:=decide_eq_true c13
     clear c13
     by_cases c14 : 0 ≤ x6_1
     ·rw [if_pos c14] at H
      have c14b0 : decide (0 ≤ x6_1) = true:=decide_eq_true c14
      clear c14
      have HC15:=Aside0.mk H
      clear H
      have p179 : 0 ≤ (x6_1 : Int):=of_decide_eq_true (by first|(with_reducible assumption)|assumption)
      have q179 : x6_1 < (l1.length : Int):=of_decide_eq_true (by first|(with_reducible assumption)|assumption)
      obtain ⟨ad179,e179,hx179_0,hx179_1,hx179_2,hx179_3⟩:=at_T45 HR1.out x6_1 p179 q179
      cases e179
      replace hx179_0:=(HB.1.cell (World.block_lt_of_cell? w _ hx179_0)).trans hx179_0
      replace hx179_1:=(HB.1.cell (World.block_lt_of_cell? w _ hx179_1)).trans hx179_1
      replace hx179_2:=(HB.1.cell (World.block_lt_of_cell? w _ hx179_2)).trans hx179_2
      replace hx179_3:=(HB.1.cell (World.block_lt_of_cell? w _ hx179_3)).trans hx179_3
      replace p179:=eq_true p179
      replace q179:=eq_true q179
      go_upto_block 2 with (first|((with_reducible refine gate_dst (N:=7) rfl ?_);refine box_event ?hg (N:=7) ?hd (cs:=#[.int .i64 0,.int .u64 0,.int .u64 0,.int .i64 0]) (t:=45) ?hr ?_;(case hd => rfl);(case hg => rfl);(case hr => first|(go_simp;done)|(go_simp;rfl));intro G180 hg w16 hbox hb;have n0_:=Aside0.mk (bB (g:=G174) (o:=.cells #[.int .u64 x175000_1,.int .u64 x175001_1,.bool x175002_1,.int .i64 x175003_1] 26 (0,0)) (by (with_reducible repeat first|apply bN|apply bD|apply bA);exact K174.1) hb);have n1_:=Aside0.mk (bB (g:=G177) (o:=.cells #[.int .u64 x178000_1,.int .u64 x178001_1,.bool x178002_1,.int .i64 x178003_1] 26 (0,0)) (by (with_reducible repeat first|apply bN|apply bD|apply bA);exact K177.1) hb);have n2_:=Aside0.mk (below_step (by repeat (first|(with_reducible first|exact HB.1|apply bwA|apply bwN|apply bw1|refine bS ?_ GE174.1|refine bS ?_ GE177.1)|exact HB.1)) hb);have n3_:=Aside0.mk (hbox);have n4_:=Aside0.mk ((by rw [hg];exact (below_size (by repeat (first|(with_reducible first|exact HB.1|apply bwA|apply bwN|apply bw1|refine bS ?_ GE174.1|refine bS ?_ GE177.1)|exact HB.1))) : w.heap.size ≤ G180));have n5_:=Aside0.mk ((by rw [hg];exact (below_size (by repeat (first|(with_reducible first|exact HB.1|apply bwA|apply bwN|apply bw1|refine bS ?_ GE174.1|refine bS ?_ GE177.1)|exact HB.1))) : w.heap.size ≤ G180));have n6_:=Aside0.mk ((by rw [hg];exact Nat.ne_of_lt (blk_lt (g:=G174) (o:=.cells #[.int .u64 x175000_1,.int .u64 x175001_1,.bool x175002_1,.int .i64 x175003_1] 26 (0,0)) (by (with_reducible repeat first|apply bN|apply bD|apply bA);exact K174.1)) : G174 ≠ G180));have n7_:=Aside0.mk ((by rw [hg];exact Nat.ne_of_gt (blk_lt (g:=G174) (o:=.cells #[.int .u64 x175000_1,.int .u64 x175001_1,.bool x175002_1,.int .i64 x175003_1] 26 (0,0)) (by (with_reducible repeat first|apply bN|apply bD|apply bA);exact K174.1)) : G180 ≠ G174));have n8_:=Aside0.mk ((by rw [hg];exact Nat.ne_of_lt (blk_lt (g:=G177) (o:=.cells #[.int .u64 x178000_1,.int .u64 x178001_1,.bool x178002_1,.int .i64 x178003_1] 26 (0,0)) (by (with_reducible repeat first|apply bN|apply bD|apply bA);exact K177.1)) : G177 ≠ G180));have n9_:=Aside0.mk ((by rw [hg];exact Nat.ne_of_gt (blk_lt (g:=G177) (o:=.cells #[.int .u64 x178000_1,.int .u64 x178001_1,.bool x178002_1,.int .i64 x178003_1] 26 (0,0)) (by (with_reducible repeat first|apply bN|apply bD|apply bA);exact K177.1)) : G180 ≠ G177));clear K174;clear K177;clear HB;have K174:=n0_;have K177:=n1_;have HB:=n2_;have K180:=n3_;have GW180:=n4_;have GE180:=n5_;have NB174_180:=n6_;have NB180_174:=n7_;have NB177_180:=n8_;have NB180_177:=n9_;clear n0_ n1_ n2_ n3_ n4_ n5_ n6_ n7_ n8_ n9_;clear hb hbox hg;have hnb17:=NB180_174.1;have hnc17:=NB174_180.1;have hnb18:=NB180_177.1;have hnc18:=NB177_180.1;have hcz19_0 : w16.cell? ⟨G180,0,none⟩ = some (.int .i64 0):=(bC K180.1 0).trans rfl;have hcz19_1 : w16.cell? ⟨G180,1,none⟩ = some (.int .u64 0):=(bC K180.1 1).trans rfl;have hcz19_2 : w16.cell? ⟨G180,2,none⟩ = some (.int .u64 0):=(bC K180.1 2).trans rfl;have hcz19_3 : w16.cell? ⟨G180,3,none⟩ = some (.int .i64 0):=(bC K180.1 3).trans rfl;have hfz19_0:=bF K180.1 0;have hfz19_1:=bF K180.1 1;have hfz19_2:=bF K180.1 2;have hfz19_3:=bF K180.1 3)|((with_reducible refine gate_store (t:=45) (p:=7) rfl ?_);refine store_event (t:=45) (p:=7) (v:=?vo_w20) (w1:=((((w16.setCell ⟨G180,0,none⟩ (.int .i64 ((rd_T45 l1 x6_1).f0))).setCell ⟨G180,1,none⟩ (.int .u64 ((rd_T45 l1 x6_1).f1))).setCell ⟨G180,2,none⟩ (.int .u64 ((rd_T45 l1 x6_1).f2))).setCell ⟨G180,3,none⟩ (.int .i64 ((rd_T45 l1 x6_1).f3)))) ?hg ?ho ?hn ?hr ?_;(case ho => rfl);(case hg => rfl);(case hn => rfl);(case hr => first|(go_simp;done)|(go_simp;rfl));intro w20 hw;have n0_ : Aside0 (w20.heap[G174]? = some (.cells #[.int .u64 x175000_1,.int .u64 x175001_1,.bool x175002_1,.int .i64 x175003_1] 26 (0,0))):=⟨(by rw [hw];exact (by (with_reducible repeat first|apply bN|apply bD|apply bA);refine bZ ?_ NB174_180.1 _;(with_reducible repeat first|apply bN|apply bD|apply bA);refine bZ ?_ NB174_180.1 _;(with_reducible repeat first|apply bN|apply bD|apply bA);refine bZ ?_ NB174_180.1 _;(with_reducible repeat first|apply bN|apply bD|apply bA);refine bZ ?_ NB174_180.1 _;(with_reducible repeat first|apply bN|apply bD|apply bA);exact K174.1))⟩;have n1_ : Aside0 (w20.heap[G177]? = some (.cells #[.int .u64 x178000_1,.int .u64 x178001_1,.bool x178002_1,.int .i64 x178003_1] 26 (0,0))):=⟨(by rw [hw];exact (by (with_reducible repeat first|apply bN|apply bD|apply bA);refine bZ ?_ NB177_180.1 _;(with_reducible repeat first|apply bN|apply bD|apply bA);refine bZ ?_ NB177_180.1 _;(with_reducible repeat first|apply bN|apply bD|apply bA);refine bZ ?_ NB177_180.1 _;(with_reducible repeat first|apply bN|apply bD|apply bA);refine bZ ?_ NB177_180.1 _;(with_reducible repeat first|apply bN|apply bD|apply bA);exact K177.1))⟩;have n2_ : Aside0 (w20.heap[G180]? = some (.cells #[.int .i64 ((rd_T45 l1 x6_1).f0),.int .u64 ((rd_T45 l1 x6_1).f1),.int .u64 ((rd_T45 l1 x6_1).f2),.int .i64 ((rd_T45 l1 x6_1).f3)] 45 (0,0))):=⟨(by rw [hw];exact (by (with_reducible repeat first|apply bN|apply bD|apply bA);refine blk_put (cs:=#[.int .i64 ((rd_T45 l1 x6_1).f0),.int .u64 ((rd_T45 l1 x6_1).f1),.int .u64 ((rd_T45 l1 x6_1).f2),.int .i64 0]) ?_ 3 _ rfl;(with_reducible repeat first|apply bN|apply bD|apply bA);refine blk_put (cs:=#[.int .i64 ((rd_T45 l1 x6_1).f0),.int .u64 ((rd_T45 l1 x6_1).f1),.int .u64 0,.int .i64 0]) ?_ 2 _ rfl;(with_reducible repeat first|apply bN|apply bD|apply bA);refine blk_put (cs:=#[.int .i64 ((rd_T45 l1 x6_1).f0),.int .u64 0,.int .u64 0,.int .i64 0]) ?_ 1 _ rfl;(with_reducible repeat first|apply bN|apply bD|apply bA);refine blk_put (cs:=#[.int .i64 0,.int .u64 0,.int .u64 0,.int .i64 0]) ?_ 0 _ rfl;(with_reducible repeat first|apply bN|apply bD|apply bA);exact K180.1))⟩;have n3_ : Aside0 (Below w.heap.size w w20):=⟨(by rw [hw];exact (by repeat (first|(with_reducible first|exact HB.1|apply bwA|apply bwN|apply bw1|refine bS ?_ GE174.1|refine bS ?_ GE177.1|refine bS ?_ GE180.1)|exact HB.1)))⟩;clear hw;clear K174;clear K177;clear K180;clear HB;have K174:=n0_;have K177:=n1_;have K180:=n2_;have HB:=n3_;clear n0_ n1_ n2_ n3_;have hcz21_0 : w20.cell? ⟨G180,0,none⟩ = some (.int .i64 ((rd_T45 l1 x6_1).f0)):=(bC K180.1 0).trans rfl;have hcz21_1 : w20.cell? ⟨G180,1,none⟩ = some (.int .u64 ((rd_T45 l1 x6_1).f1)):=(bC K180.1 1).trans rfl;have hcz21_2 : w20.cell? ⟨G180,2,none⟩ = some (.int .u64 ((rd_T45 l1 x6_1).f2)):=(bC K180.1 2).trans rfl;have hcz21_3 : w20.cell? ⟨G180,3,none⟩ = some (.int .i64 ((rd_T45 l1 x6_1).f3)):=(bC K180.1 3).trans rfl;have hfz21_0:=bF K180.1 0;have hfz21_1:=bF K180.1 1;have hfz21_2:=bF K180.1 2;have hfz21_3:=bF K180.1 3))
      (try simp only [Act.put,List.setIfInBounds_toArray,List.set_cons_zero,List.set_cons_succ])
      go_cut [8] (fun v8 wc => ∃ (kq : Nat) (x8_14 : Bool) (x175000_14 : Int) (x175001_14 : Int) (x175002_14 : Bool) (x175003_14 : Int) (x178000_14 : Int) (x178001_14 : Int) (x178002_14 : Bool) (x178003_14 : Int),v8 = .bool x8_14 ∧ Aside0 (beaconlaw12_SessionPlays.j1 kq l1 x6_1 x8_14 x175000_14 x175001_14 x175002_14 x175003_14 x178000_14 x178001_14 x178002_14 x178003_14 = some r) ∧ Aside0 (kq ≤ k1) ∧ Aside0 (wc.heap[G174]? = some (.cells #[.int .u64 x175000_14,.int .u64 x175001_14,.bool x175002_14,.int .i64 x175003_14] 26 (0,0))) ∧ Aside0 (wc.heap[G177]? = some (.cells #[.int .u64 x178000_14,.int .u64 x178001_14,.bool x178002_14,.int .i64 x178003_14] 26 (0,0))) ∧ Aside0 (wc.heap[G180]? = some (.cells #[.int .i64 ((rd_T45 l1 x6_1).f0),.int .u64 ((rd_T45 l1 x6_1).f1),.int .u64 ((rd_T45 l1 x6_1).f2),.int .i64 ((rd_T45 l1 x6_1).f3)] 45 (0,0))) ∧ Aside0 (Below w.heap.size w wc))
      case first =>
       have H:=HC15.out
       clear HC15
       by_cases c22 : ((rd_T45 l1 x6_1).f0) = 0
       ·rw [if_pos c22] at H
        have c22b0 : (((rd_T45 l1 x6_1).f0) == 0) = true:=beq_iff_eq.mpr c22
        have c22b1 : (((rd_T45 l1 x6_1).f0) != 0) = false:=bne_eq_false_iff_eq.mpr c22
        clear c22
        (first|rw [c22b0]|(simp only [i64_w,i32_w];rw [c22b0])|skip)
        replace H:=Option.bind_eq_some_iff.mp H
        obtain ⟨⟨t181,t182,t183,t184,t185,t186⟩,A230,H⟩:=H
        replace H : ((beaconref12_Hear.f k1 x178000_1 x178001_1 x178002_1 x178003_1 ((rd_T45 l1 x6_1).f1) ((rd_T45 l1 x6_1).f2)).bind fun bt188 => (if (t185 == bt188.2.2.2.2.1) = true then (beaconlaw12_SessionPlays.j1 k1 l1 x6_1 (t186 == bt188.2.2.2.2.2) t181 t182 t183 t184 bt188.1 bt188.2.1 bt188.2.2.1 bt188.2.2.2.1) else (beaconlaw12_SessionPlays.j1 k1 l1 x6_1 false t181 t182 t183 t184 bt188.1 bt188.2.1 bt188.2.2.1 bt188.2.2.2.1))) = some r:=H
        have A23:=Aside0.mk A230
        clear A230
        replace H:=Option.bind_eq_some_iff.mp H
        obtain ⟨⟨t188,t189,t190,t191,t192,t193⟩,A240,H⟩:=H
        replace H : (if (t185 == t192) = true then (beaconlaw12_SessionPlays.j1 k1 l1 x6_1 (t186 == t193) t181 t182 t183 t184 t188 t189 t190 t191) else (beaconlaw12_SessionPlays.j1 k1 l1 x6_1 false t181 t182 t183 t184 t188 t189 t190 t191)) = some r:=H
        have A24:=Aside0.mk A240
        clear A240
        by_cases c25 : (t185 == t192) = true
        ·rw [if_pos c25] at H
         have c25b0 : (t185 == t192) = true:=c25
         (try (have c25b1 : decide (t185 = t192) = true:=by simpa using c25))
         (try (have c25b2 : (t185 == t192) = true:=by simpa using c25))
         clear c25
         have H':=Aside0.mk H
         clear H
         have hnb26:=NB174_177.1
         have hnc26:=NB177_174.1
         have hnb27:=NB174_180.1
         have hnc27:=NB180_174.1
         have hcz28_0 : w20.cell? ⟨G174,0,none⟩ = some (.int .u64 x175000_1):=(bC K174.1 0).trans rfl
         have hcz28_1 : w20.cell? ⟨G174,1,none⟩ = some (.int .u64 x175001_1):=(bC K174.1 1).trans rfl
         have hcz28_2 : w20.cell? ⟨G174,2,none⟩ = some (.bool x175002_1):=(bC K174.1 2).trans rfl
         have hcz28_3 : w20.cell? ⟨G174,3,none⟩ = some (.int .i64 x175003_1):=(bC K174.1 3).trans rfl
         have hfz28_0:=bF K174.1 0
         have hfz28_1:=bF K174.1 1
         have hfz28_2:=bF K174.1 2
         have hfz28_3:=bF K174.1 3
         have hnb29:=NB180_177.1
         have hnc29:=NB177_180.1
         have hcz30_0 : w20.cell? ⟨G180,0,none⟩ = some (.int .i64 ((rd_T45 l1 x6_1).f0)):=(bC K180.1 0).trans rfl
         have hcz30_1 : w20.cell? ⟨G180,1,none⟩ = some (.int .u64 ((rd_T45 l1 x6_1).f1)):=(bC K180.1 1).trans rfl
         have hcz30_2 : w20.cell? ⟨G180,2,none⟩ = some (.int .u64 ((rd_T45 l1 x6_1).f2)):=(bC K180.1 2).trans rfl
         have hcz30_3 : w20.cell? ⟨G180,3,none⟩ = some (.int .i64 ((rd_T45 l1 x6_1).f3)):=(bC K180.1 3).trans rfl
         have hfz30_0:=bF K180.1 0
         have hfz30_1:=bF K180.1 1
         have hfz30_2:=bF K180.1 2
         have hfz30_3:=bF K180.1 3
         try go_wp2_with (first|((with_reducible refine gate_callee (f:=10) rfl ?_);refine goesL_ (some 54) rfl rfl Try.func10 (by kernel_rfl) rfl #[.agg #[.int .u64 x175000_1,.int .u64 x175001_1,.bool x175002_1,.int .i64 x175003_1],.int .u64 ((rd_T45 l1 x6_1).f1),.int .u64 ((rd_T45 l1 x6_1).f2)] rfl (by (try simp only [List.map_toArray,List.map_cons,List.map_nil]);first|done|rfl|(simp only [List.length_drop,List.length_take];rfl)) ?_;(with_reducible refine (session_Hear.calls k1 x175000_1 x175001_1 x175002_1 x175003_1 ((rd_T45 l1 x6_1).f1) ((rd_T45 l1 x6_1).f2) t181 t182 t183 t184 t185 t186 _ A23.out).mono ?_);rintro e w31 ⟨rfl,hb⟩;refine ⟨_,rfl,?_⟩;have n0_:=Aside0.mk (bB (g:=G174) (o:=.cells #[.int .u64 x175000_1,.int .u64 x175001_1,.bool x175002_1,.int .i64 x175003_1] 26 (0,0)) (by (with_reducible repeat first|apply bN|apply bD|apply bA);exact K174.1) hb);have n1_:=Aside0.mk (bB (g:=G177) (o:=.cells #[.int .u64 x178000_1,.int .u64 x178001_1,.bool x178002_1,.int .i64 x178003_1] 26 (0,0)) (by (with_reducible repeat first|apply bN|apply bD|apply bA);exact K177.1) hb);have n2_:=Aside0.mk (bB (g:=G180) (o:=.cells #[.int .i64 ((rd_T45 l1 x6_1).f0),.int .u64 ((rd_T45 l1 x6_1).f1),.int .u64 ((rd_T45 l1 x6_1).f2),.int .i64 ((rd_T45 l1 x6_1).f3)] 45 (0,0)) (by (with_reducible repeat first|apply bN|apply bD|apply bA);exact K180.1) hb);have n3_:=Aside0.mk (below_step (by repeat (first|(with_reducible first|exact HB.1|apply bwA|apply bwN|apply bw1|refine bS ?_ GE174.1|refine bS ?_ GE177.1|refine bS ?_ GE180.1)|exact HB.1)) hb);clear K174;clear K177;clear K180;clear HB;have K174:=n0_;have K177:=n1_;have K180:=n2_;have HB:=n3_;clear n0_ n1_ n2_ n3_;(try clear hb);(try clear hb2);(try clear hk);(try clear hi))|((with_reducible refine gate_dst (N:=9) rfl ?_);refine box_event ?hg (N:=9) ?hd (cs:=#[.int .u64 0,.int .u64 0,.bool false,.int .i64 0]) (t:=26) ?hr ?_;(case hd => rfl);(case hg => rfl);(case hr => first|(go_simp;done)|(go_simp;rfl));intro G187 hg w32 hbox hb;have n0_:=Aside0.mk (bB (g:=G174) (o:=.cells #[.int .u64 x175000_1,.int .u64 x175001_1,.bool x175002_1,.int .i64 x175003_1] 26 (0,0)) (by (with_reducible repeat first|apply bN|apply bD|apply bA);exact K174.1) hb);have n1_:=Aside0.mk (bB (g:=G177) (o:=.cells #[.int .u64 x178000_1,.int .u64 x178001_1,.bool x178002_1,.int .i64 x178003_1] 26 (0,0)) (by (with_reducible repeat first|apply bN|apply bD|apply bA);exact K177.1) hb);have n2_:=Aside0.mk (bB (g:=G180) (o:=.cells #[.int .i64 ((rd_T45 l1 x6_1).f0),.int .u64 ((rd_T45 l1 x6_1).f1),.int .u64 ((rd_T45 l1 x6_1).f2),.int .i64 ((rd_T45 l1 x6_1).f3)] 45 (0,0)) (by (with_reducible repeat first|apply bN|apply bD|apply bA);exact K180.1) hb);have n3_:=Aside0.mk (below_step (by repeat (first|(with_reducible first|exact HB.1|apply bwA|apply bwN|apply bw1|refine bS ?_ GE174.1|refine bS ?_ GE177.1|refine bS ?_ GE180.1)|exact HB.1)) hb);have n4_:=Aside0.mk (hbox);have n5_:=Aside0.mk ((by rw [hg];exact (below_size (by repeat (first|(with_reducible first|exact HB.1|apply bwA|apply bwN|apply bw1|refine bS ?_ GE174.1|refine bS ?_ GE177.1|refine bS ?_ GE180.1)|exact HB.1))) : w.heap.size ≤ G187));have n6_:=Aside0.mk ((by rw [hg];exact (below_size (by repeat (first|(with_reducible first|exact HB.1|apply bwA|apply bwN|apply bw1|refine bS ?_ GE174.1|refine bS ?_ GE177.1|refine bS ?_ GE180.1)|exact HB.1))) : w.heap.size ≤ G187));have n7_:=Aside0.mk ((by rw [hg];exact Nat.ne_of_lt (blk_lt (g:=G174) (o:=.cells #[.int .u64 x175000_1,.int .u64 x175001_1,.bool x175002_1,.int .i64 x175003_1] 26 (0,0)) (by (with_reducible repeat first|apply bN|apply bD|apply bA);exact K174.1)) : G174 ≠ G187));have n8_:=Aside0.mk ((by rw [hg];exact Nat.ne_of_gt (blk_lt (g:=G174) (o:=.cells #[.int .u64 x175000_1,.int .u64 x175001_1,.bool x175002_1,.int .i64 x175003_1] 26 (0,0)) (by (with_reducible repeat first|apply bN|apply bD|apply bA);exact K174.1)) : G187 ≠ G174));have n9_:=Aside0.mk ((by rw [hg];exact Nat.ne_of_lt (blk_lt (g:=G177) (o:=.cells #[.int .u64 x178000_1,.int .u64 x178001_1,.bool x178002_1,.int .i64 x178003_1] 26 (0,0)) (by (with_reducible repeat first|apply bN|apply bD|apply bA);exact K177.1)) : G177 ≠ G187));have n10_:=Aside0.mk ((by rw [hg];exact Nat.ne_of_gt (blk_lt (g:=G177) (o:=.cells #[.int .u64 x178000_1,.int .u64 x178001_1,.bool x178002_1,.int .i64 x178003_1] 26 (0,0)) (by (with_reducible repeat first|apply bN|apply bD|apply bA);exact K177.1)) : G187 ≠ G177));have n11_:=Aside0.mk ((by rw [hg];exact Nat.ne_of_lt (blk_lt (g:=G180) (o:=.cells #[.int .i64 ((rd_T45 l1 x6_1).f0),.int .u64 ((rd_T45 l1 x6_1).f1),.int .u64 ((rd_T45 l1 x6_1).f2),.int .i64 ((rd_T45 l1 x6_1).f3)] 45 (0,0)) (by (with_reducible repeat first|apply bN|apply bD|apply bA);exact K180.1)) : G180 ≠ G187));have n12_:=Aside0.mk ((by rw [hg];exact Nat.ne_of_gt (blk_lt (g:=G180) (o:=.cells #[.int .i64 ((rd_T45 l1 x6_1).f0),.int .u64 ((rd_T45 l1 x6_1).f1),.int .u64 ((rd_T45 l1 x6_1).f2),.int .i64 ((rd_T45 l1 x6_1).f3)] 45 (0,0)) (by (with_reducible repeat first|apply bN|apply bD|apply bA);exact K180.1)) : G187 ≠ G180));clear K174;clear K177;clear K180;clear HB;have K174:=n0_;have K177:=n1_;have K180:=n2_;have HB:=n3_;have K187:=n4_;have GW187:=n5_;have GE187:=n6_;have NB174_187:=n7_;have NB187_174:=n8_;have NB177_187:=n9_;have NB187_177:=n10_;have NB180_187:=n11_;have NB187_180:=n12_;clear n0_ n1_ n2_ n3_ n4_ n5_ n6_ n7_ n8_ n9_ n10_ n11_ n12_;clear hb hbox hg;have hnb33:=NB187_174.1;have hnc33:=NB174_187.1;have hnb34:=NB187_177.1;have hnc34:=NB177_187.1;have hnb35:=NB187_180.1;have hnc35:=NB180_187.1;have hcz36_0 : w32.cell? ⟨G187,0,none⟩ = some (.int .u64 0):=(bC K187.1 0).trans rfl;have hcz36_1 : w32.cell? ⟨G187,1,none⟩ = some (.int .u64 0):=(bC K187.1 1).trans rfl;have hcz36_2 : w32.cell? ⟨G187,2,none⟩ = some (.bool false):=(bC K187.1 2).trans rfl;have hcz36_3 : w32.cell? ⟨G187,3,none⟩ = some (.int .i64 0):=(bC K187.1 3).trans rfl;have hfz36_0:=bF K187.1 0;have hfz36_1:=bF K187.1 1;have hfz36_2:=bF K187.1 2;have hfz36_3:=bF K187.1 3)|((with_reducible refine gate_store (t:=26) (p:=9) rfl ?_);refine store_event (t:=26) (p:=9) (v:=?vo_w37) (w1:=((((w32.setCell ⟨G187,0,none⟩ (.int .u64 t181)).setCell ⟨G187,1,none⟩ (.int .u64 t182)).setCell ⟨G187,2,none⟩ (.bool t183)).setCell ⟨G187,3,none⟩ (.int .i64 t184))) ?hg ?ho ?hn ?hr ?_;(case ho => rfl);(case hg => rfl);(case hn => rfl);(case hr => first|(go_simp;done)|(go_simp;rfl));intro w37 hw;have n0_ : Aside0 (w37.heap[G174]? = some (.cells #[.int .u64 x175000_1,.int .u64 x175001_1,.bool x175002_1,.int .i64 x175003_1] 26 (0,0))):=⟨(by rw [hw];exact (by (with_reducible repeat first|apply bN|apply bD|apply bA);refine bZ ?_ NB174_187.1 _;(with_reducible repeat first|apply bN|apply bD|apply bA);refine bZ ?_ NB174_187.1 _;(with_reducible repeat first|apply bN|apply bD|apply bA);refine bZ ?_ NB174_187.1 _;(with_reducible repeat first|apply bN|apply bD|apply bA);refine bZ ?_ NB174_187.1 _;(with_reducible repeat first|apply bN|apply bD|apply bA);exact K174.1))⟩;have n1_ : Aside0 (w37.heap[G177]? = some (.cells #[.int .u64 x178000_1,.int .u64 x178001_1,.bool x178002_1,.int .i64 x178003_1] 26 (0,0))):=⟨(by rw [hw];exact (by (with_reducible repeat first|apply bN|apply bD|apply bA);refine bZ ?_ NB177_187.1 _;(with_reducible repeat first|apply bN|apply bD|apply bA);refine bZ ?_ NB177_187.1 _;(with_reducible repeat first|apply bN|apply bD|apply bA);refine bZ ?_ NB177_187.1 _;(with_reducible repeat first|apply bN|apply bD|apply bA);refine bZ ?_ NB177_187.1 _;(with_reducible repeat first|apply bN|apply bD|apply bA);exact K177.1))⟩;have n2_ : Aside0 (w37.heap[G180]? = some (.cells #[.int .i64 ((rd_T45 l1 x6_1).f0),.int .u64 ((rd_T45 l1 x6_1).f1),.int .u64 ((rd_T45 l1 x6_1).f2),.int .i64 ((rd_T45 l1 x6_1).f3)] 45 (0,0))):=⟨(by rw [hw];exact (by (with_reducible repeat first|apply bN|apply bD|apply bA);refine bZ ?_ NB180_187.1 _;(with_reducible repeat first|apply bN|apply bD|apply bA);refine bZ ?_ NB180_187.1 _;(with_reducible repeat first|apply bN|apply bD|apply bA);refine bZ ?_ NB180_187.1 _;(with_reducible repeat first|apply bN|apply bD|apply bA);refine bZ ?_ NB180_187.1 _;(with_reducible repeat first|apply bN|apply bD|apply bA);exact K180.1))⟩;have n3_ : Aside0 (w37.heap[G187]? = some (.cells #[.int .u64 t181,.int .u64 t182,.bool t183,.int .i64 t184] 26 (0,0))):=⟨(by rw [hw];exact (by (with_reducible repeat first|apply bN|apply bD|apply bA);refine blk_put (cs:=#[.int .u64 t181,.int .u64 t182,.bool t183,.int .i64 0]) ?_ 3 _ rfl;(with_reducible repeat first|apply bN|apply bD|apply bA);refine blk_put (cs:=#[.int .u64 t181,.int .u64 t182,.bool false,.int .i64 0]) ?_ 2 _ rfl;(with_reducible repeat first|apply bN|apply bD|apply bA);refine blk_put (cs:=#[.int .u64 t181,.int .u64 0,.bool false,.int .i64 0]) ?_ 1 _ rfl;(with_reducible repeat first|apply bN|apply bD|apply bA);refine blk_put (cs:=#[.int .u64 0,.int .u64 0,.bool false,.int .i64 0]) ?_ 0 _ rfl;(with_reducible repeat first|apply bN|apply bD|apply bA);exact K187.1))⟩;have n4_ : Aside0 (Below w.heap.size w w37):=⟨(by rw [hw];exact (by repeat (first|(with_reducible first|exact HB.1|apply bwA|apply bwN|apply bw1|refine bS ?_ GE174.1|refine bS ?_ GE177.1|refine bS ?_ GE180.1|refine bS ?_ GE187.1)|exact HB.1)))⟩;clear hw;clear K174;clear K177;clear K180;clear K187;clear HB;have K174:=n0_;have K177:=n1_;have K180:=n2_;have K187:=n3_;have HB:=n4_;clear n0_ n1_ n2_ n3_ n4_;have hcz38_0 : w37.cell? ⟨G177,0,none⟩ = some (.int .u64 x178000_1):=(bC K177.1 0).trans rfl;have hcz38_1 : w37.cell? ⟨G177,1,none⟩ = some (.int .u64 x178001_1):=(bC K177.1 1).trans rfl;have hcz38_2 : w37.cell? ⟨G177,2,none⟩ = some (.bool x178002_1):=(bC K177.1 2).trans rfl;have hcz38_3 : w37.cell? ⟨G177,3,none⟩ = some (.int .i64 x178003_1):=(bC K177.1 3).trans rfl;have hfz38_0:=bF K177.1 0;have hfz38_1:=bF K177.1 1;have hfz38_2:=bF K177.1 2;have hfz38_3:=bF K177.1 3;have hcz39_0 : w37.cell? ⟨G180,0,none⟩ = some (.int .i64 ((rd_T45 l1 x6_1).f0)):=(bC K180.1 0).trans rfl;have hcz39_1 : w37.cell? ⟨G180,1,none⟩ = some (.int .u64 ((rd_T45 l1 x6_1).f1)):=(bC K180.1 1).trans rfl;have hcz39_2 : w37.cell? ⟨G180,2,none⟩ = some (.int .u64 ((rd_T45 l1 x6_1).f2)):=(bC K180.1 2).trans rfl;have hcz39_3 : w37.cell? ⟨G180,3,none⟩ = some (.int .i64 ((rd_T45 l1 x6_1).f3)):=(bC K180.1 3).trans rfl;have hfz39_0:=bF K180.1 0;have hfz39_1:=bF K180.1 1;have hfz39_2:=bF K180.1 2;have hfz39_3:=bF K180.1 3)|((with_reducible refine gate_callee (f:=14) rfl ?_);refine goesL_ (some 64) rfl rfl Try.func14 (by kernel_rfl) rfl #[.agg #[.int .u64 x178000_1,.int .u64 x178001_1,.bool x178002_1,.int .i64 x178003_1],.int .u64 ((rd_T45 l1 x6_1).f1),.int .u64 ((rd_T45 l1 x6_1).f2)] rfl (by (try simp only [List.map_toArray,List.map_cons,List.map_nil]);first|done|rfl|(simp only [List.length_drop,List.length_take];rfl)) ?_;(with_reducible refine (beaconref12_Hear.calls k1 x178000_1 x178001_1 x178002_1 x178003_1 ((rd_T45 l1 x6_1).f1) ((rd_T45 l1 x6_1).f2) t188 t189 t190 t191 t192 t193 _ A24.out).mono ?_);rintro e w40 ⟨rfl,hb⟩;refine ⟨_,rfl,?_⟩;have n0_:=Aside0.mk (bB (g:=G174) (o:=.cells #[.int .u64 x175000_1,.int .u64 x175001_1,.bool x175002_1,.int .i64 x175003_1] 26 (0,0)) (by (with_reducible repeat first|apply bN|apply bD|apply bA);exact K174.1) hb);have n1_:=Aside0.mk (bB (g:=G177) (o:=.cells #[.int .u64 x178000_1,.int .u64 x178001_1,.bool x178002_1,.int .i64 x178003_1] 26 (0,0)) (by (with_reducible repeat first|apply bN|apply bD|apply bA);exact K177.1) hb);have n2_:=Aside0.mk (bB (g:=G180) (o:=.cells #[.int .i64 ((rd_T45 l1 x6_1).f0),.int .u64 ((rd_T45 l1 x6_1).f1),.int .u64 ((rd_T45 l1 x6_1).f2),.int .i64 ((rd_T45 l1 x6_1).f3)] 45 (0,0)) (by (with_reducible repeat first|apply bN|apply bD|apply bA);exact K180.1) hb);have n3_:=Aside0.mk (bB (g:=G187) (o:=.cells #[.int .u64 t181,.int .u64 t182,.bool t183,.int .i64 t184] 26 (0,0)) (by (with_reducible repeat first|apply bN|apply bD|apply bA);exact K187.1) hb);have n4_:=Aside0.mk (below_step (by repeat (first|(with_reducible first|exact HB.1|apply bwA|apply bwN|apply bw1|refine bS ?_ GE174.1|refine bS ?_ GE177.1|refine bS ?_ GE180.1|refine bS ?_ GE187.1)|exact HB.1)) hb);clear K174;clear K177;clear K180;clear K187;clear HB;have K174:=n0_;have K177:=n1_;have K180:=n2_;have K187:=n3_;have HB:=n4_;clear n0_ n1_ n2_ n3_ n4_;(try clear hb);(try clear hb2);(try clear hk);(try clear hi))|((with_reducible refine gate_dst (N:=12) rfl ?_);refine box_event ?hg (N:=12) ?hd (cs:=#[.int .u64 0,.int .u64 0,.bool false,.int .i64 0]) (t:=26) ?hr ?_;(case hd => rfl);(case hg => rfl);(case hr => first|(go_simp;done)|(go_simp;rfl));intro G194 hg w41 hbox hb;have n0_:=Aside0.mk (bB (g:=G174) (o:=.cells #[.int .u64 x175000_1,.int .u64 x175001_1,.bool x175002_1,.int .i64 x175003_1] 26 (0,0)) (by (with_reducible repeat first|apply bN|apply bD|apply bA);exact K174.1) hb);have n1_:=Aside0.mk (bB (g:=G177) (o:=.cells #[.int .u64 x178000_1,.int .u64 x178001_1,.bool x178002_1,.int .i64 x178003_1] 26 (0,0)) (by (with_reducible repeat first|apply bN|apply bD|apply bA);exact K177.1) hb);have n2_:=Aside0.mk (bB (g:=G180) (o:=.cells #[.int .i64 ((rd_T45 l1 x6_1).f0),.int .u64 ((rd_T45 l1 x6_1).f1),.int .u64 ((rd_T45 l1 x6_1).f2),.int .i64 ((rd_T45 l1 x6_1).f3)] 45 (0,0)) (by (with_reducible repeat first|apply bN|apply bD|apply bA);exact K180.1) hb);have n3_:=Aside0.mk (bB (g:=G187) (o:=.cells #[.int .u64 t181,.int .u64 t182,.bool t183,.int .i64 t184] 26 (0,0)) (by (with_reducible repeat first|apply bN|apply bD|apply bA);exact K187.1) hb);have n4_:=Aside0.mk (below_step (by repeat (first|(with_reducible first|exact HB.1|apply bwA|apply bwN|apply bw1|refine bS ?_ GE174.1|refine bS ?_ GE177.1|refine bS ?_ GE180.1|refine bS ?_ GE187.1)|exact HB.1)) hb);have n5_:=Aside0.mk (hbox);have n6_:=Aside0.mk ((by rw [hg];exact (below_size (by repeat (first|(with_reducible first|exact HB.1|apply bwA|apply bwN|apply bw1|refine bS ?_ GE174.1|refine bS ?_ GE177.1|refine bS ?_ GE180.1|refine bS ?_ GE187.1)|exact HB.1))) : w.heap.size ≤ G194));have n7_:=Aside0.mk ((by rw [hg];exact (below_size (by repeat (first|(with_reducible first|exact HB.1|apply bwA|apply bwN|apply bw1|refine bS ?_ GE174.1|refine bS ?_ GE177.1|refine bS ?_ GE180.1|refine bS ?_ GE187.1)|exact HB.1))) : w.heap.size ≤ G194));have n8_:=Aside0.mk ((by rw [hg];exact Nat.ne_of_lt (blk_lt (g:=G174) (o:=.cells #[.int .u64 x175000_1,.int .u64 x175001_1,.bool x175002_1,.int .i64 x175003_1] 26 (0,0)) (by (with_reducible repeat first|apply bN|apply bD|apply bA);exact K174.1)) : G174 ≠ G194));have n9_:=Aside0.mk ((by rw [hg];exact Nat.ne_of_gt (blk_lt (g:=G174) (o:=.cells #[.int .u64 x175000_1,.int .u64 x175001_1,.bool x175002_1,.int .i64 x175003_1] 26 (0,0)) (by (with_reducible repeat first|apply bN|apply bD|apply bA);exact K174.1)) : G194 ≠ G174));have n10_:=Aside0.mk ((by rw [hg];exact Nat.ne_of_lt (blk_lt (g:=G177) (o:=.cells #[.int .u64 x178000_1,.int .u64 x178001_1,.bool x178002_1,.int .i64 x178003_1] 26 (0,0)) (by (with_reducible repeat first|apply bN|apply bD|apply bA);exact K177.1)) : G177 ≠ G194));have n11_:=Aside0.mk ((by rw [hg];exact Nat.ne_of_gt (blk_lt (g:=G177) (o:=.cells #[.int .u64 x178000_1,.int .u64 x178001_1,.bool x178002_1,.int .i64 x178003_1] 26 (0,0)) (by (with_reducible repeat first|apply bN|apply bD|apply bA);exact K177.1)) : G194 ≠ G177));have n12_:=Aside0.mk ((by rw [hg];exact Nat.ne_of_lt (blk_lt (g:=G180) (o:=.cells #[.int .i64 ((rd_T45 l1 x6_1).f0),.int .u64 ((rd_T45 l1 x6_1).f1),.int .u64 ((rd_T45 l1 x6_1).f2),.int .i64 ((rd_T45 l1 x6_1).f3)] 45 (0,0)) (by (with_reducible repeat first|apply bN|apply bD|apply bA);exact K180.1)) : G180 ≠ G194));have n13_:=Aside0.mk ((by rw [hg];exact Nat.ne_of_gt (blk_lt (g:=G180) (o:=.cells #[.int .i64 ((rd_T45 l1 x6_1).f0),.int .u64 ((rd_T45 l1 x6_1).f1),.int .u64 ((rd_T45 l1 x6_1).f2),.int .i64 ((rd_T45 l1 x6_1).f3)] 45 (0,0)) (by (with_reducible repeat first|apply bN|apply bD|apply bA);exact K180.1)) : G194 ≠ G180));have n14_:=Aside0.mk ((by rw [hg];exact Nat.ne_of_lt (blk_lt (g:=G187) (o:=.cells #[.int .u64 t181,.int .u64 t182,.bool t183,.int .i64 t184] 26 (0,0)) (by (with_reducible repeat first|apply bN|apply bD|apply bA);exact K187.1)) : G187 ≠ G194));have n15_:=Aside0.mk ((by rw [hg];exact Nat.ne_of_gt (blk_lt (g:=G187) (o:=.cells #[.int .u64 t181,.int .u64 t182,.bool t183,.int .i64 t184] 26 (0,0)) (by (with_reducible repeat first|apply bN|apply bD|apply bA);exact K187.1)) : G194 ≠ G187));clear K174;clear K177;clear K180;clear K187;clear HB;have K174:=n0_;have K177:=n1_;have K180:=n2_;have K187:=n3_;have HB:=n4_;have K194:=n5_;have GW194:=n6_;have GE194:=n7_;have NB174_194:=n8_;have NB194_174:=n9_;have NB177_194:=n10_;have NB194_177:=n11_;have NB180_194:=n12_;have NB194_180:=n13_;have NB187_194:=n14_;have NB194_187:=n15_;clear n0_ n1_ n2_ n3_ n4_ n5_ n6_ n7_ n8_ n9_ n10_ n11_ n12_ n13_ n14_ n15_;clear hb hbox hg;have hnb42:=NB194_174.1;have hnc42:=NB174_194.1;have hnb43:=NB194_177.1;have hnc43:=NB177_194.1;have hnb44:=NB194_180.1;have hnc44:=NB180_194.1;have hnb45:=NB194_187.1;have hnc45:=NB187_194.1;have hcz46_0 : w41.cell? ⟨G194,0,none⟩ = some (.int .u64 0):=(bC K194.1 0).trans rfl;have hcz46_1 : w41.cell? ⟨G194,1,none⟩ = some (.int .u64 0):=(bC K194.1 1).trans rfl;have hcz46_2 : w41.cell? ⟨G194,2,none⟩ = some (.bool false):=(bC K194.1 2).trans rfl;have hcz46_3 : w41.cell? ⟨G194,3,none⟩ = some (.int .i64 0):=(bC K194.1 3).trans rfl;have hfz46_0:=bF K194.1 0;have hfz46_1:=bF K194.1 1;have hfz46_2:=bF K194.1 2;have hfz46_3:=bF K194.1 3)|((with_reducible refine gate_store (t:=26) (p:=12) rfl ?_);refine store_event (t:=26) (p:=12) (v:=?vo_w47) (w1:=((((w41.setCell ⟨G194,0,none⟩ (.int .u64 t188)).setCell ⟨G194,1,none⟩ (.int .u64 t189)).setCell ⟨G194,2,none⟩ (.bool t190)).setCell ⟨G194,3,none⟩ (.int .i64 t191))) ?hg ?ho ?hn ?hr ?_;(case ho => rfl);(case hg => rfl);(case hn => rfl);(case hr => first|(go_simp;done)|(go_simp;rfl));intro w47 hw;have n0_ : Aside0 (w47.heap[G174]? = some (.cells #[.int .u64 x175000_1,.int .u64 x175001_1,.bool x175002_1,.int .i64 x175003_1] 26 (0,0))):=⟨(by rw [hw];exact (by (with_reducible repeat first|apply bN|apply bD|apply bA);refine bZ ?_ NB174_194.1 _;(with_reducible repeat first|apply bN|apply bD|apply bA);refine bZ ?_ NB174_194.1 _;(with_reducible repeat first|apply bN|apply bD|apply bA);refine bZ ?_ NB174_194.1 _;(with_reducible repeat first|apply bN|apply bD|apply bA);refine bZ ?_ NB174_194.1 _;(with_reducible repeat first|apply bN|apply bD|apply bA);exact K174.1))⟩;have n1_ : Aside0 (w47.heap[G177]? = some (.cells #[.int .u64 x178000_1,.int .u64 x178001_1,.bool x178002_1,.int .i64 x178003_1] 26 (0,0))):=⟨(by rw [hw];exact (by (with_reducible repeat first|apply bN|apply bD|apply bA);refine bZ ?_ NB177_194.1 _;(with_reducible repeat first|apply bN|apply bD|apply bA);refine bZ ?_ NB177_194.1 _;(with_reducible repeat first|apply bN|apply bD|apply bA);refine bZ ?_ NB177_194.1 _;(with_reducible repeat first|apply bN|apply bD|apply bA);refine bZ ?_ NB177_194.1 _;(with_reducible repeat first|apply bN|apply bD|apply bA);exact K177.1))⟩;have n2_ : Aside0 (w47.heap[G180]? = some (.cells #[.int .i64 ((rd_T45 l1 x6_1).f0),.int .u64 ((rd_T45 l1 x6_1).f1),.int .u64 ((rd_T45 l1 x6_1).f2),.int .i64 ((rd_T45 l1 x6_1).f3)] 45 (0,0))):=⟨(by rw [hw];exact (by (with_reducible repeat first|apply bN|apply bD|apply bA);refine bZ ?_ NB180_194.1 _;(with_reducible repeat first|apply bN|apply bD|apply bA);refine bZ ?_ NB180_194.1 _;(with_reducible repeat first|apply bN|apply bD|apply bA);refine bZ ?_ NB180_194.1 _;(with_reducible repeat first|apply bN|apply bD|apply bA);refine bZ ?_ NB180_194.1 _;(with_reducible repeat first|apply bN|apply bD|apply bA);exact K180.1))⟩;have n3_ : Aside0 (w47.heap[G187]? = some (.cells #[.int .u64 t181,.int .u64 t182,.bool t183,.int .i64 t184] 26 (0,0))):=⟨(by rw [hw];exact (by (with_reducible repeat first|apply bN|apply bD|apply bA);refine bZ ?_ NB187_194.1 _;(with_reducible repeat first|apply bN|apply bD|apply bA);refine bZ ?_ NB187_194.1 _;(with_reducible repeat first|apply bN|apply bD|apply bA);refine bZ ?_ NB187_194.1 _;(with_reducible repeat first|apply bN|apply bD|apply bA);refine bZ ?_ NB187_194.1 _;(with_reducible repeat first|apply bN|apply bD|apply bA);exact K187.1))⟩;have n4_ : Aside0 (w47.heap[G194]? = some (.cells #[.int .u64 t188,.int .u64 t189,.bool t190,.int .i64 t191] 26 (0,0))):=⟨(by rw [hw];exact (by (with_reducible repeat first|apply bN|apply bD|apply bA);refine blk_put (cs:=#[.int .u64 t188,.int .u64 t189,.bool t190,.int .i64 0]) ?_ 3 _ rfl;(with_reducible repeat first|apply bN|apply bD|apply bA);refine blk_put (cs:=#[.int .u64 t188,.int .u64 t189,.bool false,.int .i64 0]) ?_ 2 _ rfl;(with_reducible repeat first|apply bN|apply bD|apply bA);refine blk_put (cs:=#[.int .u64 t188,.int .u64 0,.bool false,.int .i64 0]) ?_ 1 _ rfl;(with_reducible repeat first|apply bN|apply bD|apply bA);refine blk_put (cs:=#[.int .u64 0,.int .u64 0,.bool false,.int .i64 0]) ?_ 0 _ rfl;(with_reducible repeat first|apply bN|apply bD|apply bA);exact K194.1))⟩;have n5_ : Aside0 (Below w.heap.size w w47):=⟨(by rw [hw];exact (by repeat (first|(with_reducible first|exact HB.1|apply bwA|apply bwN|apply bw1|refine bS ?_ GE174.1|refine bS ?_ GE177.1|refine bS ?_ GE180.1|refine bS ?_ GE187.1|refine bS ?_ GE194.1)|exact HB.1)))⟩;clear hw;clear K174;clear K177;clear K180;clear K187;clear K194;clear HB;have K174:=n0_;have K177:=n1_;have K180:=n2_;have K187:=n3_;have K194:=n4_;have HB:=n5_;clear n0_ n1_ n2_ n3_ n4_ n5_))
         have n0_:=Aside0.mk (bD K174.1)
         have n1_:=Aside0.mk (bD K177.1)
         have n2_:=Aside0.mk (bD K180.1)
         have n3_:=Aside0.mk (bD K187.1)
         have n4_:=Aside0.mk (bD K194.1)
         have n5_:=Aside0.mk (bw1 HB.1)
         clear K174
         clear K177
         clear K180
         clear K187
         clear K194
         clear HB
         have K174:=n0_
         have K177:=n1_
         have K180:=n2_
         have K187:=n3_
         have K194:=n4_
         have HB:=n5_
         clear n0_ n1_ n2_ n3_ n4_ n5_
         refine start_ (n:=13) (S:=fun w' => w'.cell? ⟨G187,0,none⟩ = some (.int .u64 t181) ∧ w'.cell? ⟨G187,1,none⟩ = some (.int .u64 t182) ∧ w'.cell? ⟨G187,2,none⟩ = some (.bool t183) ∧ w'.cell? ⟨G187,3,none⟩ = some (.int .i64 t184) ∧ w'.cell? ⟨G194,0,none⟩ = some (.int .u64 t188) ∧ w'.cell? ⟨G194,1,none⟩ = some (.int .u64 t189) ∧ w'.cell? ⟨G194,2,none⟩ = some (.bool t190) ∧ w'.cell? ⟨G194,3,none⟩ = some (.int .i64 t191)) (ds:=[]) #[false,false,false,false,false,false,false,false,false,false,false,false,false] (by kernel_rfl) rfl rfl ⟨(bC K187.1 0).trans rfl,(bC K187.1 1).trans rfl,(bC K187.1 2).trans rfl,(bC K187.1 3).trans rfl,(bC K194.1 0).trans rfl,(bC K194.1 1).trans rfl,(bC K194.1 2).trans rfl,(bC K194.1 3).trans rfl⟩ (fun hHeld => ?_);refine with_tabW beaconlaw12_SessionPlays.tab13 beaconlaw12_SessionPlays.bits13 (fun HT_ HW_ => ?_)
         generalize w47.drew = w48 at K174 K177 K180 K187 K194 HB hHeld ⊢
         refine pure_ (i:=2) (N:=some 70) (v:=?_) (a':=?_) #[false,false,true,false,false,false,false,false,false,false,false,false,false] rfl rfl (any_of HT_.out (by kernel_rfl)) (fun _ _ _ h => h) (Or.inl ⟨by rfl,?_⟩) ?_ ?_
         rotate_left
         ·intro w'
          go_simp
          with_reducible rfl
         rotate_left
         ·simp only [Act.put,List.setIfInBounds_toArray,List.set_cons_zero,List.set_cons_succ,i64_w,i32_w]
          rfl
         refine pure_ (i:=3) (N:=some 71) (v:=?_) (a':=?_) #[false,false,true,true,false,false,false,false,false,false,false,false,false] rfl rfl (any_of HT_.out (by kernel_rfl)) (fun _ _ _ h => h) (Or.inl ⟨by rfl,?_⟩) ?_ ?_
         rotate_left
         ·intro w'
          go_simp
          with_reducible rfl
         rotate_left
         ·simp only [Act.put,List.setIfInBounds_toArray,List.set_cons_zero,List.set_cons_succ,i64_w,i32_w]
          rfl
         refine pure_ (i:=4) (N:=some 72) (v:=?_) (a':=?_) #[false,false,true,true,true,false,false,false,false,false,false,false,false] rfl rfl (any_of HT_.out (by kernel_rfl)) (fun _ _ _ h => h) (Or.inl ⟨by rfl,?_⟩) ?_ ?_
         rotate_left
         ·intro w'
          go_simp
          with_reducible rfl
         rotate_left
         ·simp only [Act.put,List.setIfInBounds_toArray,List.set_cons_zero,List.set_cons_succ,i64_w,i32_w]
          rfl
         refine pure_ (i:=5) (N:=some 73) (v:=?_) (a':=?_) #[false,false,true,true,true,true,false,false,false,false,false,false,false] rfl rfl (any_of HT_.out (by kernel_rfl)) (fun _ _ _ h => h) (Or.inl ⟨by rfl,?_⟩) ?_ ?_
         rotate_left
         ·intro w'
          go_simp
          with_reducible rfl
         rotate_left
         ·simp only [Act.put,List.setIfInBounds_toArray,List.set_cons_zero,List.set_cons_succ,i64_w,i32_w]
          rfl
         refine pure_ (i:=6) (N:=some 74) (v:=?_) (a':=?_) #[false,false,true,true,true,true,true,false,false,false,false,false,false] rfl rfl (any_of HT_.out (by kernel_rfl)) (fun _ _ _ h => h) (Or.inl ⟨by rfl,?_⟩) ?_ ?_
         rotate_left
         ·intro w'
          go_simp
          with_reducible rfl
         rotate_left
         ·simp only [Act.put,List.setIfInBounds_toArray,List.set_cons_zero,List.set_cons_succ,i64_w,i32_w]
          rfl
         refine pure_ (i:=7) (N:=some 75) (v:=?_) (a':=?_) #[false,false,true,true,true,true,true,true,false,false,false,false,false] rfl rfl (any_of HT_.out (by kernel_rfl)) (fun _ _ _ h => h) (Or.inl ⟨by rfl,?_⟩) ?_ ?_
         rotate_left
         ·intro w'
          go_simp
          with_reducible rfl
         rotate_left
         ·simp only [Act.put,List.setIfInBounds_toArray,List.set_cons_zero,List.set_cons_succ,i64_w,i32_w]
          rfl
         refine pure_ (i:=8) (N:=some 76) (v:=?_) (a':=?_) #[false,false,true,true,true,true,true,true,true,false,false,false,false] rfl rfl (any_of HT_.out (by kernel_rfl)) (fun _ _ _ h => h) (Or.inl ⟨by rfl,?_⟩) ?_ ?_
         rotate_left
         ·intro w'
          go_simp
          with_reducible rfl
         rotate_left
         ·simp only [Act.put,List.setIfInBounds_toArray,List.set_cons_zero,List.set_cons_succ,i64_w,i32_w]
          rfl
         refine pure_ (i:=9) (N:=some 77) (v:=?_) (a':=?_) #[false,false,true,true,true,true,true,true,true,true,false,false,false] rfl rfl (any_of HT_.out (by kernel_rfl)) (fun _ _ _ h => h) (Or.inl ⟨by rfl,?_⟩) ?_ ?_
         rotate_left
         ·intro w'
          go_simp
          with_reducible rfl
         rotate_left
         ·simp only [Act.put,List.setIfInBounds_toArray,List.set_cons_zero,List.set_cons_succ,i64_w,i32_w]
          rfl
         refine take_ (i:=0) (N:=some 68) (v:=?_) (a':=?_) #[true,false,true,true,true,true,true,true,true,true,false,false,false] rfl rfl (take_ofW HT_.out HW_.out (by kernel_rfl)) (fun _ _ _ h => h) (Or.inl ⟨by rfl,?_⟩) hHeld ?_ ?_
         rotate_left
         ·rintro w' ⟨s0,s1,s2,s3,s4,s5,s6,s7⟩
          go_simp
          with_reducible rfl
         rotate_left
         ·simp only [Act.put,List.setIfInBounds_toArray,List.set_cons_zero,List.set_cons_succ,i64_w,i32_w]
          rfl
         refine take_ (i:=1) (N:=some 69) (v:=?_) (a':=?_) #[true,true,true,true,true,true,true,true,true,true,false,false,false] rfl rfl (take_ofW HT_.out HW_.out (by kernel_rfl)) (fun _ _ _ h => h) (Or.inl ⟨by rfl,?_⟩) hHeld ?_ ?_
         rotate_left
         ·rintro w' ⟨s0,s1,s2,s3,s4,s5,s6,s7⟩
          go_simp
          with_reducible rfl
         rotate_left
         ·simp only [Act.put,List.setIfInBounds_toArray,List.set_cons_zero,List.set_cons_succ,i64_w,i32_w]
          rfl
         refine one_ (i:=10) (N:=none) #[true,true,true,true,true,true,true,true,true,true,true,false,false] rfl rfl (one_of HT_.out (by kernel_rfl)) (by decide) (fun K hK => ?_)
         have hs49 : w48.cell? ⟨G174,0,none⟩ = some (.int .u64 x175000_1):=(bC K174.1 0).trans rfl
         have hfs49:=bF K174.1 0
         have hns49_1:=NB177_174.1
         have hns49_2:=NB180_174.1
         have hns49_3:=NB187_174.1
         have hns49_4:=NB194_174.1
         have hms49_1:=NB174_177.1
         have hms49_2:=NB174_180.1
         have hms49_3:=NB174_187.1
         have hms49_4:=NB174_194.1
         have hs50 : w48.cell? ⟨G174,1,none⟩ = some (.int .u64 x175001_1):=(bC K174.1 1).trans rfl
         have hfs50:=bF K174.1 1
         have hns50_1:=NB177_174.1
         have hns50_2:=NB180_174.1
         have hns50_3:=NB187_174.1
         have hns50_4:=NB194_174.1
         have hms50_1:=NB174_177.1
         have hms50_2:=NB174_180.1
         have hms50_3:=NB174_187.1
         have hms50_4:=NB174_194.1
         have hs51 : w48.cell? ⟨G174,2,none⟩ = some (.bool x175002_1):=(bC K174.1 2).trans rfl
         have hfs51:=bF K174.1 2
         have hns51_1:=NB177_174.1
         have hns51_2:=NB180_174.1
         have hns51_3:=NB187_174.1
         have hns51_4:=NB194_174.1
         have hms51_1:=NB174_177.1
         have hms51_2:=NB174_180.1
         have hms51_3:=NB174_187.1
         have hms51_4:=NB174_194.1
         have hs52 : w48.cell? ⟨G174,3,none⟩ = some (.int .i64 x175003_1):=(bC K174.1 3).trans rfl
         have hfs52:=bF K174.1 3
         have hns52_1:=NB177_174.1
         have hns52_2:=NB180_174.1
         have hns52_3:=NB187_174.1
         have hns52_4:=NB194_174.1
         have hms52_1:=NB174_177.1
         have hms52_2:=NB174_180.1
         have hms52_3:=NB174_187.1
         have hms52_4:=NB174_194.1
         refine skip_ (w1:=?_) (by rfl) rfl ?_ ?_
         rotate_left
         ·go_simp
          rfl
         refine hK.out _ _ ⟨((cF (p:=⟨G174,_,none⟩) NB187_174.1 _).trans (((cF (p:=⟨G174,_,none⟩) NB187_174.1 _).trans (((cF (p:=⟨G174,_,none⟩) NB187_174.1 _).trans (((cF (p:=⟨G174,_,none⟩) NB187_174.1 _).trans (hHeld.1)))))))),((cF (p:=⟨G174,_,none⟩) NB187_174.1 _).trans (((cF (p:=⟨G174,_,none⟩) NB187_174.1 _).trans (((cF (p:=⟨G174,_,none⟩) NB187_174.1 _).trans (((cF (p:=⟨G174,_,none⟩) NB187_174.1 _).trans (hHeld.2.1)))))))),((cF (p:=⟨G174,_,none⟩) NB187_174.1 _).trans (((cF (p:=⟨G174,_,none⟩) NB187_174.1 _).trans (((cF (p:=⟨G174,_,none⟩) NB187_174.1 _).trans (((cF (p:=⟨G174,_,none⟩) NB187_174.1 _).trans (hHeld.2.2.1)))))))),((cF (p:=⟨G174,_,none⟩) NB187_174.1 _).trans (((cF (p:=⟨G174,_,none⟩) NB187_174.1 _).trans (((cF (p:=⟨G174,_,none⟩) NB187_174.1 _).trans (((cF (p:=⟨G174,_,none⟩) NB187_174.1 _).trans (hHeld.2.2.2.1)))))))),((cF (p:=⟨G174,_,none⟩) NB194_174.1 _).trans (((cF (p:=⟨G174,_,none⟩) NB194_174.1 _).trans (((cF (p:=⟨G174,_,none⟩) NB194_174.1 _).trans (((cF (p:=⟨G174,_,none⟩) NB194_174.1 _).trans (hHeld.2.2.2.2.1)))))))),((cF (p:=⟨G174,_,none⟩) NB194_174.1 _).trans (((cF (p:=⟨G174,_,none⟩) NB194_174.1 _).trans (((cF (p:=⟨G174,_,none⟩) NB194_174.1 _).trans (((cF (p:=⟨G174,_,none⟩) NB194_174.1 _).trans (hHeld.2.2.2.2.2.1)))))))),((cF (p:=⟨G174,_,none⟩) NB194_174.1 _).trans (((cF (p:=⟨G174,_,none⟩) NB194_174.1 _).trans (((cF (p:=⟨G174,_,none⟩) NB194_174.1 _).trans (((cF (p:=⟨G174,_,none⟩) NB194_174.1 _).trans (hHeld.2.2.2.2.2.2.1)))))))),((cF (p:=⟨G174,_,none⟩) NB194_174.1 _).trans (((cF (p:=⟨G174,_,none⟩) NB194_174.1 _).trans (((cF (p:=⟨G174,_,none⟩) NB194_174.1 _).trans (((cF (p:=⟨G174,_,none⟩) NB194_174.1 _).trans (hHeld.2.2.2.2.2.2.2))))))))⟩ (fun hHeld => ?_)
         clear hK K
         refine one_ (i:=11) (N:=none) #[true,true,true,true,true,true,true,true,true,true,true,true,false] rfl rfl (one_of HT_.out (by kernel_rfl)) (by decide) (fun K hK => ?_)
         have hs53 : w48.cell? ⟨G177,0,none⟩ = some (.int .u64 x178000_1):=(bC K177.1 0).trans rfl
         have hfs53:=bF K177.1 0
         have hns53_0:=NB174_177.1
         have hns53_2:=NB180_177.1
         have hns53_3:=NB187_177.1
         have hns53_4:=NB194_177.1
         have hms53_0:=NB177_174.1
         have hms53_2:=NB177_180.1
         have hms53_3:=NB177_187.1
         have hms53_4:=NB177_194.1
         have hs54 : w48.cell? ⟨G177,1,none⟩ = some (.int .u64 x178001_1):=(bC K177.1 1).trans rfl
         have hfs54:=bF K177.1 1
         have hns54_0:=NB174_177.1
         have hns54_2:=NB180_177.1
         have hns54_3:=NB187_177.1
         have hns54_4:=NB194_177.1
         have hms54_0:=NB177_174.1
         have hms54_2:=NB177_180.1
         have hms54_3:=NB177_187.1
         have hms54_4:=NB177_194.1
         have hs55 : w48.cell? ⟨G177,2,none⟩ = some (.bool x178002_1):=(bC K177.1 2).trans rfl
         have hfs55:=bF K177.1 2
         have hns55_0:=NB174_177.1
         have hns55_2:=NB180_177.1
         have hns55_3:=NB187_177.1
         have hns55_4:=NB194_177.1
         have hms55_0:=NB177_174.1
         have hms55_2:=NB177_180.1
         have hms55_3:=NB177_187.1
         have hms55_4:=NB177_194.1
         have hs56 : w48.cell? ⟨G177,3,none⟩ = some (.int .i64 x178003_1):=(bC K177.1 3).trans rfl
         have hfs56:=bF K177.1 3
         have hns56_0:=NB174_177.1
         have hns56_2:=NB180_177.1
         have hns56_3:=NB187_177.1
         have hns56_4:=NB194_177.1
         have hms56_0:=NB177_174.1
         have hms56_2:=NB177_180.1
         have hms56_3:=NB177_187.1
         have hms56_4:=NB177_194.1
         refine skip_ (w1:=?_) (by rfl) rfl ?_ ?_
         rotate_left
         ·go_simp
          rfl
         refine hK.out _ _ ⟨((cF (p:=⟨G177,_,none⟩) NB187_177.1 _).trans (((cF (p:=⟨G177,_,none⟩) NB187_177.1 _).trans (((cF (p:=⟨G177,_,none⟩) NB187_177.1 _).trans (((cF (p:=⟨G177,_,none⟩) NB187_177.1 _).trans (hHeld.1)))))))),((cF (p:=⟨G177,_,none⟩) NB187_177.1 _).trans (((cF (p:=⟨G177,_,none⟩) NB187_177.1 _).trans (((cF (p:=⟨G177,_,none⟩) NB187_177.1 _).trans (((cF (p:=⟨G177,_,none⟩) NB187_177.1 _).trans (hHeld.2.1)))))))),((cF (p:=⟨G177,_,none⟩) NB187_177.1 _).trans (((cF (p:=⟨G177,_,none⟩) NB187_177.1 _).trans (((cF (p:=⟨G177,_,none⟩) NB187_177.1 _).trans (((cF (p:=⟨G177,_,none⟩) NB187_177.1 _).trans (hHeld.2.2.1)))))))),((cF (p:=⟨G177,_,none⟩) NB187_177.1 _).trans (((cF (p:=⟨G177,_,none⟩) NB187_177.1 _).trans (((cF (p:=⟨G177,_,none⟩) NB187_177.1 _).trans (((cF (p:=⟨G177,_,none⟩) NB187_177.1 _).trans (hHeld.2.2.2.1)))))))),((cF (p:=⟨G177,_,none⟩) NB194_177.1 _).trans (((cF (p:=⟨G177,_,none⟩) NB194_177.1 _).trans (((cF (p:=⟨G177,_,none⟩) NB194_177.1 _).trans (((cF (p:=⟨G177,_,none⟩) NB194_177.1 _).trans (hHeld.2.2.2.2.1)))))))),((cF (p:=⟨G177,_,none⟩) NB194_177.1 _).trans (((cF (p:=⟨G177,_,none⟩) NB194_177.1 _).trans (((cF (p:=⟨G177,_,none⟩) NB194_177.1 _).trans (((cF (p:=⟨G177,_,none⟩) NB194_177.1 _).trans (hHeld.2.2.2.2.2.1)))))))),((cF (p:=⟨G177,_,none⟩) NB194_177.1 _).trans (((cF (p:=⟨G177,_,none⟩) NB194_177.1 _).trans (((cF (p:=⟨G177,_,none⟩) NB194_177.1 _).trans (((cF (p:=⟨G177,_,none⟩) NB194_177.1 _).trans (hHeld.2.2.2.2.2.2.1)))))))),((cF (p:=⟨G177,_,none⟩) NB194_177.1 _).trans (((cF (p:=⟨G177,_,none⟩) NB194_177.1 _).trans (((cF (p:=⟨G177,_,none⟩) NB194_177.1 _).trans (((cF (p:=⟨G177,_,none⟩) NB194_177.1 _).trans (hHeld.2.2.2.2.2.2.2))))))))⟩ (fun hHeld => ?_)
         clear hK K
         refine pure_ (i:=12) (N:=some 8) (v:=?_) (a':=?_) #[true,true,true,true,true,true,true,true,true,true,true,true,true] rfl rfl (any_of HT_.out (by kernel_rfl)) (fun _ _ _ h => h) (Or.inl ⟨by rfl,?_⟩) ?_ ?_
         rotate_left
         ·intro w'
          go_simp
          with_reducible rfl
         rotate_left
         ·simp only [Act.put,List.setIfInBounds_toArray,List.set_cons_zero,List.set_cons_succ,i64_w,i32_w]
          rfl
         refine done_ (done_of HT_.out (by kernel_rfl)) ?_
         try go_wp2
         go_meet
         case rel => exact ⟨_,((t186 == t193)),(t181),(t182),(t183),(t184),(t188),(t189),(t190),(t191),(by first|rfl|(simp;done)|(simp [*];done)),H',⟨by have:=HK1.out;first|omega|exact Nat.le_refl _⟩,⟨by (with_reducible repeat first|apply bN|apply bD|apply bA);refine bZ ?_ NB174_177.1 _;(with_reducible repeat first|apply bN|apply bD|apply bA);refine bZ ?_ NB174_177.1 _;(with_reducible repeat first|apply bN|apply bD|apply bA);refine bZ ?_ NB174_177.1 _;(with_reducible repeat first|apply bN|apply bD|apply bA);refine bZ ?_ NB174_177.1 _;(with_reducible repeat first|apply bN|apply bD|apply bA);refine blk_put (cs:=#[.int .u64 t181,.int .u64 t182,.bool t183,.int .i64 x175003_1]) ?_ 3 _ rfl;(with_reducible repeat first|apply bN|apply bD|apply bA);refine blk_put (cs:=#[.int .u64 t181,.int .u64 t182,.bool x175002_1,.int .i64 x175003_1]) ?_ 2 _ rfl;(with_reducible repeat first|apply bN|apply bD|apply bA);refine blk_put (cs:=#[.int .u64 t181,.int .u64 x175001_1,.bool x175002_1,.int .i64 x175003_1]) ?_ 1 _ rfl;(with_reducible repeat first|apply bN|apply bD|apply bA);refine blk_put (cs:=#[.int .u64 x175000_1,.int .u64 x175001_1,.bool x175002_1,.int .i64 x175003_1]) ?_ 0 _ rfl;(with_reducible repeat first|apply bN|apply bD|apply bA);exact K174.1⟩,⟨by (with_reducible repeat first|apply bN|apply bD|apply bA);refine blk_put (cs:=#[.int .u64 t188,.int .u64 t189,.bool t190,.int .i64 x178003_1]) ?_ 3 _ rfl;(with_reducible repeat first|apply bN|apply bD|apply bA);refine blk_put (cs:=#[.int .u64 t188,.int .u64 t189,.bool x178002_1,.int .i64 x178003_1]) ?_ 2 _ rfl;(with_reducible repeat first|apply bN|apply bD|apply bA);refine blk_put (cs:=#[.int .u64 t188,.int .u64 x178001_1,.bool x178002_1,.int .i64 x178003_1]) ?_ 1 _ rfl;(with_reducible repeat first|apply bN|apply bD|apply bA);refine blk_put (cs:=#[.int .u64 x178000_1,.int .u64 x178001_1,.bool x178002_1,.int .i64 x178003_1]) ?_ 0 _ rfl;(with_reducible repeat first|apply bN|apply bD|apply bA);refine bZ ?_ NB177_174.1 _;(with_reducible repeat first|apply bN|apply bD|apply bA);refine bZ ?_ NB177_174.1 _;(with_reducible repeat first|apply bN|apply bD|apply bA);refine bZ ?_ NB177_174.1 _;(with_reducible repeat first|apply bN|apply bD|apply bA);refine bZ ?_ NB177_174.1 _;(with_reducible repeat first|apply bN|apply bD|apply bA);exact K177.1⟩,⟨by (with_reducible repeat first|apply bN|apply bD|apply bA);refine bZ ?_ NB180_177.1 _;(with_reducible repeat first|apply bN|apply bD|apply bA);refine bZ ?_ NB180_177.1 _;(with_reducible repeat first|apply bN|apply bD|apply bA);refine bZ ?_ NB180_177.1 _;(with_reducible repeat first|apply bN|apply bD|apply bA);refine bZ ?_ NB180_177.1 _;(with_reducible repeat first|apply bN|apply bD|apply bA);refine bZ ?_ NB180_174.1 _;(with_reducible repeat first|apply bN|apply bD|apply bA);refine bZ ?_ NB180_174.1 _;(with_reducible repeat first|apply bN|apply bD|apply bA);refine bZ ?_ NB180_174.1 _;(with_reducible repeat first|apply bN|apply bD|apply bA);refine bZ ?_ NB180_174.1 _;(with_reducible repeat first|apply bN|apply bD|apply bA);exact K180.1⟩,⟨by repeat (first|(with_reducible first|exact HB.1|apply bwA|apply bwN|apply bw1|refine bS ?_ GE174.1|refine bS ?_ GE177.1|refine bS ?_ GE180.1|refine bS ?_ GE187.1|refine bS ?_ GE194.1)|exact HB.1)⟩⟩
        ·rw [if_neg c25] at H
         have c25b0 : (t185 == t192) = false:=by simpa using c25
         (try (have c25b1 : decide (t185 = t192) = false:=by simpa using c25))
         (try (have c25b2 : (t185 == t192) = false:=by simpa using c25))
         (try (have c25b3 : ¬ (t185 = t192):=by simpa using c25))
         clear c25
         have H':=Aside0.mk H
         clear H
         have hnb57:=NB174_177.1
         have hnc57:=NB177_174.1
         have hnb58:=NB174_180.1
         have hnc58:=NB180_174.1
         have hcz59_0 : w20.cell? ⟨G174,0,none⟩ = some (.int .u64 x175000_1):=(bC K174.1 0).trans rfl
         have hcz59_1 : w20.cell? ⟨G174,1,none⟩ = some (.int .u64 x175001_1):=(bC K174.1 1).trans rfl
         have hcz59_2 : w20.cell? ⟨G174,2,none⟩ = some (.bool x175002_1):=(bC K174.1 2).trans rfl
         have hcz59_3 : w20.cell? ⟨G174,3,none⟩ = some (.int .i64 x175003_1):=(bC K174.1 3).trans rfl
         have hfz59_0:=bF K174.1 0
         have hfz59_1:=bF K174.1 1
         have hfz59_2:=bF K174.1 2
         have hfz59_3:=bF K174.1 3
         have hnb60:=NB180_177.1
         have hnc60:=NB177_180.1
         have hcz61_0 : w20.cell? ⟨G180,0,none⟩ = some (.int .i64 ((rd_T45 l1 x6_1).f0)):=(bC K180.1 0).trans rfl
         have hcz61_1 : w20.cell? ⟨G180,1,none⟩ = some (.int .u64 ((rd_T45 l1 x6_1).f1)):=(bC K180.1 1).trans rfl
         have hcz61_2 : w20.cell? ⟨G180,2,none⟩ = some (.int .u64 ((rd_T45 l1 x6_1).f2)):=(bC K180.1 2).trans rfl
         have hcz61_3 : w20.cell? ⟨G180,3,none⟩ = some (.int .i64 ((rd_T45 l1 x6_1).f3)):=(bC K180.1 3).trans rfl
         have hfz61_0:=bF K180.1 0
         have hfz61_1:=bF K180.1 1
         have hfz61_2:=bF K180.1 2
         have hfz61_3:=bF K180.1 3
         try go_wp2_with (first|((with_reducible refine gate_callee (f:=10) rfl ?_);refine goesL_ (some 54) rfl rfl Try.func10 (by kernel_rfl) rfl #[.agg #[.int .u64 x175000_1,.int .u64 x175001_1,.bool x175002_1,.int .i64 x175003_1],.int .u64 ((rd_T45 l1 x6_1).f1),.int .u64 ((rd_T45 l1 x6_1).f2)] rfl (by (try simp only [List.map_toArray,List.map_cons,List.map_nil]);first|done|rfl|(simp only [List.length_drop,List.length_take];rfl)) ?_;(with_reducible refine (session_Hear.calls k1 x175000_1 x175001_1 x175002_1 x175003_1 ((rd_T45 l1 x6_1).f1) ((rd_T45 l1 x6_1).f2) t181 t182 t183 t184 t185 t186 _ A23.out).mono ?_);rintro e w62 ⟨rfl,hb⟩;refine ⟨_,rfl,?_⟩;have n0_:=Aside0.mk (bB (g:=G174) (o:=.cells #[.int .u64 x175000_1,.int .u64 x175001_1,.bool x175002_1,.int .i64 x175003_1] 26 (0,0)) (by (with_reducible repeat first|apply bN|apply bD|apply bA);exact K174.1) hb);have n1_:=Aside0.mk (bB (g:=G177) (o:=.cells #[.int .u64 x178000_1,.int .u64 x178001_1,.bool x178002_1,.int .i64 x178003_1] 26 (0,0)) (by (with_reducible repeat first|apply bN|apply bD|apply bA);exact K177.1) hb);have n2_:=Aside0.mk (bB (g:=G180) (o:=.cells #[.int .i64 ((rd_T45 l1 x6_1).f0),.int .u64 ((rd_T45 l1 x6_1).f1),.int .u64 ((rd_T45 l1 x6_1).f2),.int .i64 ((rd_T45 l1 x6_1).f3)] 45 (0,0)) (by (with_reducible repeat first|apply bN|apply bD|apply bA);exact K180.1) hb);have n3_:=Aside0.mk (below_step (by repeat (first|(with_reducible first|exact HB.1|apply bwA|apply bwN|apply bw1|refine bS ?_ GE174.1|refine bS ?_ GE177.1|refine bS ?_ GE180.1)|exact HB.1)) hb);clear K174;clear K177;clear K180;clear HB;have K174:=n0_;have K177:=n1_;have K180:=n2_;have HB:=n3_;clear n0_ n1_ n2_ n3_;(try clear hb);(try clear hb2);(try clear hk);(try clear hi))|((with_reducible refine gate_dst (N:=9) rfl ?_);refine box_event ?hg (N:=9) ?hd (cs:=#[.int .u64 0,.int .u64 0,.bool false,.int .i64 0]) (t:=26) ?hr ?_;(case hd => rfl);(case hg => rfl);(case hr => first|(go_simp;done)|(go_simp;rfl));intro G187 hg w63 hbox hb;have n0_:=Aside0.mk (bB (g:=G174) (o:=.cells #[.int .u64 x175000_1,.int .u64 x175001_1,.bool x175002_1,.int .i64 x175003_1] 26 (0,0)) (by (with_reducible repeat first|apply bN|apply bD|apply bA);exact K174.1) hb);have n1_:=Aside0.mk (bB (g:=G177) (o:=.cells #[.int .u64 x178000_1,.int .u64 x178001_1,.bool x178002_1,.int .i64 x178003_1] 26 (0,0)) (by (with_reducible repeat first|apply bN|apply bD|apply bA);exact K177.1) hb);have n2_:=Aside0.mk (bB (g:=G180) (o:=.cells #[.int .i64 ((rd_T45 l1 x6_1).f0),.int .u64 ((rd_T45 l1 x6_1).f1),.int .u64 ((rd_T45 l1 x6_1).f2),.int .i64 ((rd_T45 l1 x6_1).f3)] 45 (0,0)) (by (with_reducible repeat first|apply bN|apply bD|apply bA);exact K180.1) hb);have n3_:=Aside0.mk (below_step (by repeat (first|(with_reducible first|exact HB.1|apply bwA|apply bwN|apply bw1|refine bS ?_ GE174.1|refine bS ?_ GE177.1|refine bS ?_ GE180.1)|exact HB.1)) hb);have n4_:=Aside0.mk (hbox);have n5_:=Aside0.mk ((by rw [hg];exact (below_size (by repeat (first|(with_reducible first|exact HB.1|apply bwA|apply bwN|apply bw1|refine bS ?_ GE174.1|refine bS ?_ GE177.1|refine bS ?_ GE180.1)|exact HB.1))) : w.heap.size ≤ G187));have n6_:=Aside0.mk ((by rw [hg];exact (below_size (by repeat (first|(with_reducible first|exact HB.1|apply bwA|apply bwN|apply bw1|refine bS ?_ GE174.1|refine bS ?_ GE177.1|refine bS ?_ GE180.1)|exact HB.1))) : w.heap.size ≤ G187));have n7_:=Aside0.mk ((by rw [hg];exact Nat.ne_of_lt (blk_lt (g:=G174) (o:=.cells #[.int .u64 x175000_1,.int .u64 x175001_1,.bool x175002_1,.int .i64 x175003_1] 26 (0,0)) (by (with_reducible repeat first|apply bN|apply bD|apply bA);exact K174.1)) : G174 ≠ G187));have n8_:=Aside0.mk ((by rw [hg];exact Nat.ne_of_gt (blk_lt (g:=G174) (o:=.cells #[.int .u64 x175000_1,.int .u64 x175001_1,.bool x175002_1,.int .i64 x175003_1] 26 (0,0)) (by (with_reducible repeat first|apply bN|apply bD|apply bA);exact K174.1)) : G187 ≠ G174));have n9_:=Aside0.mk ((by rw [hg];exact Nat.ne_of_lt (blk_lt (g:=G177) (o:=.cells #[.int .u64 x178000_1,.int .u64 x178001_1,.bool x178002_1,.int .i64 x178003_1] 26 (0,0)) (by (with_reducible repeat first|apply bN|apply bD|apply bA);exact K177.1)) : G177 ≠ G187));have n10_:=Aside0.mk ((by rw [hg];exact Nat.ne_of_gt (blk_lt (g:=G177) (o:=.cells #[.int .u64 x178000_1,.int .u64 x178001_1,.bool x178002_1,.int .i64 x178003_1] 26 (0,0)) (by (with_reducible repeat first|apply bN|apply bD|apply bA);exact K177.1)) : G187 ≠ G177));have n11_:=Aside0.mk ((by rw [hg];exact Nat.ne_of_lt (blk_lt (g:=G180) (o:=.cells #[.int .i64 ((rd_T45 l1 x6_1).f0),.int .u64 ((rd_T45 l1 x6_1).f1),.int .u64 ((rd_T45 l1 x6_1).f2),.int .i64 ((rd_T45 l1 x6_1).f3)] 45 (0,0)) (by (with_reducible repeat first|apply bN|apply bD|apply bA);exact K180.1)) : G180 ≠ G187));have n12_:=Aside0.mk ((by rw [hg];exact Nat.ne_of_gt (blk_lt (g:=G180) (o:=.cells #[.int .i64 ((rd_T45 l1 x6_1).f0),.int .u64 ((rd_T45 l1 x6_1).f1),.int .u64 ((rd_T45 l1 x6_1).f2),.int .i64 ((rd_T45 l1 x6_1).f3)] 45 (0,0)) (by (with_reducible repeat first|apply bN|apply bD|apply bA);exact K180.1)) : G187 ≠ G180));clear K174;clear K177;clear K180;clear HB;have K174:=n0_;have K177:=n1_;have K180:=n2_;have HB:=n3_;have K187:=n4_;have GW187:=n5_;have GE187:=n6_;have NB174_187:=n7_;have NB187_174:=n8_;have NB177_187:=n9_;have NB187_177:=n10_;have NB180_187:=n11_;have NB187_180:=n12_;clear n0_ n1_ n2_ n3_ n4_ n5_ n6_ n7_ n8_ n9_ n10_ n11_ n12_;clear hb hbox hg;have hnb64:=NB187_174.1;have hnc64:=NB174_187.1;have hnb65:=NB187_177.1;have hnc65:=NB177_187.1;have hnb66:=NB187_180.1;have hnc66:=NB180_187.1;have hcz67_0 : w63.cell? ⟨G187,0,none⟩ = some (.int .u64 0):=(bC K187.1 0).trans rfl;have hcz67_1 : w63.cell? ⟨G187,1,none⟩ = some (.int .u64 0):=(bC K187.1 1).trans rfl;have hcz67_2 : w63.cell? ⟨G187,2,none⟩ = some (.bool false):=(bC K187.1 2).trans rfl;have hcz67_3 : w63.cell? ⟨G187,3,none⟩ = some (.int .i64 0):=(bC K187.1 3).trans rfl;have hfz67_0:=bF K187.1 0;have hfz67_1:=bF K187.1 1;have hfz67_2:=bF K187.1 2;have hfz67_3:=bF K187.1 3)|((with_reducible refine gate_store (t:=26) (p:=9) rfl ?_);refine store_event (t:=26) (p:=9) (v:=?vo_w68) (w1:=((((w63.setCell ⟨G187,0,none⟩ (.int .u64 t181)).setCell ⟨G187,1,none⟩ (.int .u64 t182)).setCell ⟨G187,2,none⟩ (.bool t183)).setCell ⟨G187,3,none⟩ (.int .i64 t184))) ?hg ?ho ?hn ?hr ?_;(case ho => rfl);(case hg => rfl);(case hn => rfl);(case hr => first|(go_simp;done)|(go_simp;rfl));intro w68 hw;have n0_ : Aside0 (w68.heap[G174]? = some (.cells #[.int .u64 x175000_1,.int .u64 x175001_1,.bool x175002_1,.int .i64 x175003_1] 26 (0,0))):=⟨(by rw [hw];exact (by (with_reducible repeat first|apply bN|apply bD|apply bA);refine bZ ?_ NB174_187.1 _;(with_reducible repeat first|apply bN|apply bD|apply bA);refine bZ ?_ NB174_187.1 _;(with_reducible repeat first|apply bN|apply bD|apply bA);refine bZ ?_ NB174_187.1 _;(with_reducible repeat first|apply bN|apply bD|apply bA);refine bZ ?_ NB174_187.1 _;(with_reducible repeat first|apply bN|apply bD|apply bA);exact K174.1))⟩;have n1_ : Aside0 (w68.heap[G177]? = some (.cells #[.int .u64 x178000_1,.int .u64 x178001_1,.bool x178002_1,.int .i64 x178003_1] 26 (0,0))):=⟨(by rw [hw];exact (by (with_reducible repeat first|apply bN|apply bD|apply bA);refine bZ ?_ NB177_187.1 _;(with_reducible repeat first|apply bN|apply bD|apply bA);refine bZ ?_ NB177_187.1 _;(with_reducible repeat first|apply bN|apply bD|apply bA);refine bZ ?_ NB177_187.1 _;(with_reducible repeat first|apply bN|apply bD|apply bA);refine bZ ?_ NB177_187.1 _;(with_reducible repeat first|apply bN|apply bD|apply bA);exact K177.1))⟩;have n2_ : Aside0 (w68.heap[G180]? = some (.cells #[.int .i64 ((rd_T45 l1 x6_1).f0),.int .u64 ((rd_T45 l1 x6_1).f1),.int .u64 ((rd_T45 l1 x6_1).f2),.int .i64 ((rd_T45 l1 x6_1).f3)] 45 (0,0))):=⟨(by rw [hw];exact (by (with_reducible repeat first|apply bN|apply bD|apply bA);refine bZ ?_ NB180_187.1 _;(with_reducible repeat first|apply bN|apply bD|apply bA);refine bZ ?_ NB180_187.1 _;(with_reducible repeat first|apply bN|apply bD|apply bA);refine bZ ?_ NB180_187.1 _;(with_reducible repeat first|apply bN|apply bD|apply bA);refine bZ ?_ NB180_187.1 _;(with_reducible repeat first|apply bN|apply bD|apply bA);exact K180.1))⟩;have n3_ : Aside0 (w68.heap[G187]? = some (.cells #[.int .u64 t181,.int .u64 t182,.bool t183,.int .i64 t184] 26 (0,0))):=⟨(by rw [hw];exact (by (with_reducible repeat first|apply bN|apply bD|apply bA);refine blk_put (cs:=#[.int .u64 t181,.int .u64 t182,.bool t183,.int .i64 0]) ?_ 3 _ rfl;(with_reducible repeat first|apply bN|apply bD|apply bA);refine blk_put (cs:=#[.int .u64 t181,.int .u64 t182,.bool false,.int .i64 0]) ?_ 2 _ rfl;(with_reducible repeat first|apply bN|apply bD|apply bA);refine blk_put (cs:=#[.int .u64 t181,.int .u64 0,.bool false,.int .i64 0]) ?_ 1 _ rfl;(with_reducible repeat first|apply bN|apply bD|apply bA);refine blk_put (cs:=#[.int .u64 0,.int .u64 0,.bool false,.int .i64 0]) ?_ 0 _ rfl;(with_reducible repeat first|apply bN|apply bD|apply bA);exact K187.1))⟩;have n4_ : Aside0 (Below w.heap.size w w68):=⟨(by rw [hw];exact (by repeat (first|(with_reducible first|exact HB.1|apply bwA|apply bwN|apply bw1|refine bS ?_ GE174.1|refine bS ?_ GE177.1|refine bS ?_ GE180.1|refine bS ?_ GE187.1)|exact HB.1)))⟩;clear hw;clear K174;clear K177;clear K180;clear K187;clear HB;have K174:=n0_;have K177:=n1_;have K180:=n2_;have K187:=n3_;have HB:=n4_;clear n0_ n1_ n2_ n3_ n4_;have hcz69_0 : w68.cell? ⟨G177,0,none⟩ = some (.int .u64 x178000_1):=(bC K177.1 0).trans rfl;have hcz69_1 : w68.cell? ⟨G177,1,none⟩ = some (.int .u64 x178001_1):=(bC K177.1 1).trans rfl;have hcz69_2 : w68.cell? ⟨G177,2,none⟩ = some (.bool x178002_1):=(bC K177.1 2).trans rfl;have hcz69_3 : w68.cell? ⟨G177,3,none⟩ = some (.int .i64 x178003_1):=(bC K177.1 3).trans rfl;have hfz69_0:=bF K177.1 0;have hfz69_1:=bF K177.1 1;have hfz69_2:=bF K177.1 2;have hfz69_3:=bF K177.1 3;have hcz70_0 : w68.cell? ⟨G180,0,none⟩ = some (.int .i64 ((rd_T45 l1 x6_1).f0)):=(bC K180.1 0).trans rfl;have hcz70_1 : w68.cell? ⟨G180,1,none⟩ = some (.int .u64 ((rd_T45 l1 x6_1).f1)):=(bC K180.1 1).trans rfl;have hcz70_2 : w68.cell? ⟨G180,2,none⟩ = some (.int .u64 ((rd_T45 l1 x6_1).f2)):=(bC K180.1 2).trans rfl;have hcz70_3 : w68.cell? ⟨G180,3,none⟩ = some (.int .i64 ((rd_T45 l1 x6_1).f3)):=(bC K180.1 3).trans rfl;have hfz70_0:=bF K180.1 0;have hfz70_1:=bF K180.1 1;have hfz70_2:=bF K180.1 2;have hfz70_3:=bF K180.1 3)|((with_reducible refine gate_callee (f:=14) rfl ?_);refine goesL_ (some 64) rfl rfl Try.func14 (by kernel_rfl) rfl #[.agg #[.int .u64 x178000_1,.int .u64 x178001_1,.bool x178002_1,.int .i64 x178003_1],.int .u64 ((rd_T45 l1 x6_1).f1),.int .u64 ((rd_T45 l1 x6_1).f2)] rfl (by (try simp only [List.map_toArray,List.map_cons,List.map_nil]);first|done|rfl|(simp only [List.length_drop,List.length_take];rfl)) ?_;(with_reducible refine (beaconref12_Hear.calls k1 x178000_1 x178001_1 x178002_1 x178003_1 ((rd_T45 l1 x6_1).f1) ((rd_T45 l1 x6_1).f2) t188 t189 t190 t191 t192 t193 _ A24.out).mono ?_);rintro e w71 ⟨rfl,hb⟩;refine ⟨_,rfl,?_⟩;have n0_:=Aside0.mk (bB (g:=G174) (o:=.cells #[.int .u64 x175000_1,.int .u64 x175001_1,.bool x175002_1,.int .i64 x175003_1] 26 (0,0)) (by (with_reducible repeat first|apply bN|apply bD|apply bA);exact K174.1) hb);have n1_:=Aside0.mk (bB (g:=G177) (o:=.cells #[.int .u64 x178000_1,.int .u64 x178001_1,.bool x178002_1,.int .i64 x178003_1] 26 (0,0)) (by (with_reducible repeat first|apply bN|apply bD|apply bA);exact K177.1) hb);have n2_:=Aside0.mk (bB (g:=G180) (o:=.cells #[.int .i64 ((rd_T45 l1 x6_1).f0),.int .u64 ((rd_T45 l1 x6_1).f1),.int .u64 ((rd_T45 l1 x6_1).f2),.int .i64 ((rd_T45 l1 x6_1).f3)] 45 (0,0)) (by (with_reducible repeat first|apply bN|apply bD|apply bA);exact K180.1) hb);have n3_:=Aside0.mk (bB (g:=G187) (o:=.cells #[.int .u64 t181,.int .u64 t182,.bool t183,.int .i64 t184] 26 (0,0)) (by (with_reducible repeat first|apply bN|apply bD|apply bA);exact K187.1) hb);have n4_:=Aside0.mk (below_step (by repeat (first|(with_reducible first|exact HB.1|apply bwA|apply bwN|apply bw1|refine bS ?_ GE174.1|refine bS ?_ GE177.1|refine bS ?_ GE180.1|refine bS ?_ GE187.1)|exact HB.1)) hb);clear K174;clear K177;clear K180;clear K187;clear HB;have K174:=n0_;have K177:=n1_;have K180:=n2_;have K187:=n3_;have HB:=n4_;clear n0_ n1_ n2_ n3_ n4_;(try clear hb);(try clear hb2);(try clear hk);(try clear hi))|((with_reducible refine gate_dst (N:=12) rfl ?_);refine box_event ?hg (N:=12) ?hd (cs:=#[.int .u64 0,.int .u64 0,.bool false,.int .i64 0]) (t:=26) ?hr ?_;(case hd => rfl);(case hg => rfl);(case hr => first|(go_simp;done)|(go_simp;rfl));intro G194 hg w72 hbox hb;have n0_:=Aside0.mk (bB (g:=G174) (o:=.cells #[.int .u64 x175000_1,.int .u64 x175001_1,.bool x175002_1,.int .i64 x175003_1] 26 (0,0)) (by (with_reducible repeat first|apply bN|apply bD|apply bA);exact K174.1) hb);have n1_:=Aside0.mk (bB (g:=G177) (o:=.cells #[.int .u64 x178000_1,.int .u64 x178001_1,.bool x178002_1,.int .i64 x178003_1] 26 (0,0)) (by (with_reducible repeat first|apply bN|apply bD|apply bA);exact K177.1) hb);have n2_:=Aside0.mk (bB (g:=G180) (o:=.cells #[.int .i64 ((rd_T45 l1 x6_1).f0),.int .u64 ((rd_T45 l1 x6_1).f1),.int .u64 ((rd_T45 l1 x6_1).f2),.int .i64 ((rd_T45 l1 x6_1).f3)] 45 (0,0)) (by (with_reducible repeat first|apply bN|apply bD|apply bA);exact K180.1) hb);have n3_:=Aside0.mk (bB (g:=G187) (o:=.cells #[.int .u64 t181,.int .u64 t182,.bool t183,.int .i64 t184] 26 (0,0)) (by (with_reducible repeat first|apply bN|apply bD|apply bA);exact K187.1) hb);have n4_:=Aside0.mk (below_step (by repeat (first|(with_reducible first|exact HB.1|apply bwA|apply bwN|apply bw1|refine bS ?_ GE174.1|refine bS ?_ GE177.1|refine bS ?_ GE180.1|refine bS ?_ GE187.1)|exact HB.1)) hb);have n5_:=Aside0.mk (hbox);have n6_:=Aside0.mk ((by rw [hg];exact (below_size (by repeat (first|(with_reducible first|exact HB.1|apply bwA|apply bwN|apply bw1|refine bS ?_ GE174.1|refine bS ?_ GE177.1|refine bS ?_ GE180.1|refine bS ?_ GE187.1)|exact HB.1))) : w.heap.size ≤ G194));have n7_:=Aside0.mk ((by rw [hg];exact (below_size (by repeat (first|(with_reducible first|exact HB.1|apply bwA|apply bwN|apply bw1|refine bS ?_ GE174.1|refine bS ?_ GE177.1|refine bS ?_ GE180.1|refine bS ?_ GE187.1)|exact HB.1))) : w.heap.size ≤ G194));have n8_:=Aside0.mk ((by rw [hg];exact Nat.ne_of_lt (blk_lt (g:=G174) (o:=.cells #[.int .u64 x175000_1,.int .u64 x175001_1,.bool x175002_1,.int .i64 x175003_1] 26 (0,0)) (by (with_reducible repeat first|apply bN|apply bD|apply bA);exact K174.1)) : G174 ≠ G194));have n9_:=Aside0.mk ((by rw [hg];exact Nat.ne_of_gt (blk_lt (g:=G174) (o:=.cells #[.int .u64 x175000_1,.int .u64 x175001_1,.bool x175002_1,.int .i64 x175003_1] 26 (0,0)) (by (with_reducible repeat first|apply bN|apply bD|apply bA);exact K174.1)) : G194 ≠ G174));have n10_:=Aside0.mk ((by rw [hg];exact Nat.ne_of_lt (blk_lt (g:=G177) (o:=.cells #[.int .u64 x178000_1,.int .u64 x178001_1,.bool x178002_1,.int .i64 x178003_1] 26 (0,0)) (by (with_reducible repeat first|apply bN|apply bD|apply bA);exact K177.1)) : G177 ≠ G194));have n11_:=Aside0.mk ((by rw [hg];exact Nat.ne_of_gt (blk_lt (g:=G177) (o:=.cells #[.int .u64 x178000_1,.int .u64 x178001_1,.bool x178002_1,.int .i64 x178003_1] 26 (0,0)) (by (with_reducible repeat first|apply bN|apply bD|apply bA);exact K177.1)) : G194 ≠ G177));have n12_:=Aside0.mk ((by rw [hg];exact Nat.ne_of_lt (blk_lt (g:=G180) (o:=.cells #[.int .i64 ((rd_T45 l1 x6_1).f0),.int .u64 ((rd_T45 l1 x6_1).f1),.int .u64 ((rd_T45 l1 x6_1).f2),.int .i64 ((rd_T45 l1 x6_1).f3)] 45 (0,0)) (by (with_reducible repeat first|apply bN|apply bD|apply bA);exact K180.1)) : G180 ≠ G194));have n13_:=Aside0.mk ((by rw [hg];exact Nat.ne_of_gt (blk_lt (g:=G180) (o:=.cells #[.int .i64 ((rd_T45 l1 x6_1).f0),.int .u64 ((rd_T45 l1 x6_1).f1),.int .u64 ((rd_T45 l1 x6_1).f2),.int .i64 ((rd_T45 l1 x6_1).f3)] 45 (0,0)) (by (with_reducible repeat first|apply bN|apply bD|apply bA);exact K180.1)) : G194 ≠ G180));have n14_:=Aside0.mk ((by rw [hg];exact Nat.ne_of_lt (blk_lt (g:=G187) (o:=.cells #[.int .u64 t181,.int .u64 t182,.bool t183,.int .i64 t184] 26 (0,0)) (by (with_reducible repeat first|apply bN|apply bD|apply bA);exact K187.1)) : G187 ≠ G194));have n15_:=Aside0.mk ((by rw [hg];exact Nat.ne_of_gt (blk_lt (g:=G187) (o:=.cells #[.int .u64 t181,.int .u64 t182,.bool t183,.int .i64 t184] 26 (0,0)) (by (with_reducible repeat first|apply bN|apply bD|apply bA);exact K187.1)) : G194 ≠ G187));clear K174;clear K177;clear K180;clear K187;clear HB;have K174:=n0_;have K177:=n1_;have K180:=n2_;have K187:=n3_;have HB:=n4_;have K194:=n5_;have GW194:=n6_;have GE194:=n7_;have NB174_194:=n8_;have NB194_174:=n9_;have NB177_194:=n10_;have NB194_177:=n11_;have NB180_194:=n12_;have NB194_180:=n13_;have NB187_194:=n14_;have NB194_187:=n15_;clear n0_ n1_ n2_ n3_ n4_ n5_ n6_ n7_ n8_ n9_ n10_ n11_ n12_ n13_ n14_ n15_;clear hb hbox hg;have hnb73:=NB194_174.1;have hnc73:=NB174_194.1;have hnb74:=NB194_177.1;have hnc74:=NB177_194.1;have hnb75:=NB194_180.1;have hnc75:=NB180_194.1;have hnb76:=NB194_187.1;have hnc76:=NB187_194.1;have hcz77_0 : w72.cell? ⟨G194,0,none⟩ = some (.int .u64 0):=(bC K194.1 0).trans rfl;have hcz77_1 : w72.cell? ⟨G194,1,none⟩ = some (.int .u64 0):=(bC K194.1 1).trans rfl;have hcz77_2 : w72.cell? ⟨G194,2,none⟩ = some (.bool false):=(bC K194.1 2).trans rfl;have hcz77_3 : w72.cell? ⟨G194,3,none⟩ = some (.int .i64 0):=(bC K194.1 3).trans rfl;have hfz77_0:=bF K194.1 0;have hfz77_1:=bF K194.1 1;have hfz77_2:=bF K194.1 2;have hfz77_3:=bF K194.1 3)|((with_reducible refine gate_store (t:=26) (p:=12) rfl ?_);refine store_event (t:=26) (p:=12) (v:=?vo_w78) (w1:=((((w72.setCell ⟨G194,0,none⟩ (.int .u64 t188)).setCell ⟨G194,1,none⟩ (.int .u64 t189)).setCell ⟨G194,2,none⟩ (.bool t190)).setCell ⟨G194,3,none⟩ (.int .i64 t191))) ?hg ?ho ?hn ?hr ?_;(case ho => rfl);(case hg => rfl);(case hn => rfl);(case hr => first|(go_simp;done)|(go_simp;rfl));intro w78 hw;have n0_ : Aside0 (w78.heap[G174]? = some (.cells #[.int .u64 x175000_1,.int .u64 x175001_1,.bool x175002_1,.int .i64 x175003_1] 26 (0,0))):=⟨(by rw [hw];exact (by (with_reducible repeat first|apply bN|apply bD|apply bA);refine bZ ?_ NB174_194.1 _;(with_reducible repeat first|apply bN|apply bD|apply bA);refine bZ ?_ NB174_194.1 _;(with_reducible repeat first|apply bN|apply bD|apply bA);refine bZ ?_ NB174_194.1 _;(with_reducible repeat first|apply bN|apply bD|apply bA);refine bZ ?_ NB174_194.1 _;(with_reducible repeat first|apply bN|apply bD|apply bA);exact K174.1))⟩;have n1_ : Aside0 (w78.heap[G177]? = some (.cells #[.int .u64 x178000_1,.int .u64 x178001_1,.bool x178002_1,.int .i64 x178003_1] 26 (0,0))):=⟨(by rw [hw];exact (by (with_reducible repeat first|apply bN|apply bD|apply bA);refine bZ ?_ NB177_194.1 _;(with_reducible repeat first|apply bN|apply bD|apply bA);refine bZ ?_ NB177_194.1 _;(with_reducible repeat first|apply bN|apply bD|apply bA);refine bZ ?_ NB177_194.1 _;(with_reducible repeat first|apply bN|apply bD|apply bA);refine bZ ?_ NB177_194.1 _;(with_reducible repeat first|apply bN|apply bD|apply bA);exact K177.1))⟩;have n2_ : Aside0 (w78.heap[G180]? = some (.cells #[.int .i64 ((rd_T45 l1 x6_1).f0),.int .u64 ((rd_T45 l1 x6_1).f1),.int .u64 ((rd_T45 l1 x6_1).f2),.int .i64 ((rd_T45 l1 x6_1).f3)] 45 (0,0))):=⟨(by rw [hw];exact (by (with_reducible repeat first|apply bN|apply bD|apply bA);refine bZ ?_ NB180_194.1 _;(with_reducible repeat first|apply bN|apply bD|apply bA);refine bZ ?_ NB180_194.1 _;(with_reducible repeat first|apply bN|apply bD|apply bA);refine bZ ?_ NB180_194.1 _;(with_reducible repeat first|apply bN|apply bD|apply bA);refine bZ ?_ NB180_194.1 _;(with_reducible repeat first|apply bN|apply bD|apply bA);exact K180.1))⟩;have n3_ : Aside0 (w78.heap[G187]? = some (.cells #[.int .u64 t181,.int .u64 t182,.bool t183,.int .i64 t184] 26 (0,0))):=⟨(by rw [hw];exact (by (with_reducible repeat first|apply bN|apply bD|apply bA);refine bZ ?_ NB187_194.1 _;(with_reducible repeat first|apply bN|apply bD|apply bA);refine bZ ?_ NB187_194.1 _;(with_reducible repeat first|apply bN|apply bD|apply bA);refine bZ ?_ NB187_194.1 _;(with_reducible repeat first|apply bN|apply bD|apply bA);refine bZ ?_ NB187_194.1 _;(with_reducible repeat first|apply bN|apply bD|apply bA);exact K187.1))⟩;have n4_ : Aside0 (w78.heap[G194]? = some (.cells #[.int .u64 t188,.int .u64 t189,.bool t190,.int .i64 t191] 26 (0,0))):=⟨(by rw [hw];exact (by (with_reducible repeat first|apply bN|apply bD|apply bA);refine blk_put (cs:=#[.int .u64 t188,.int .u64 t189,.bool t190,.int .i64 0]) ?_ 3 _ rfl;(with_reducible repeat first|apply bN|apply bD|apply bA);refine blk_put (cs:=#[.int .u64 t188,.int .u64 t189,.bool false,.int .i64 0]) ?_ 2 _ rfl;(with_reducible repeat first|apply bN|apply bD|apply bA);refine blk_put (cs:=#[.int .u64 t188,.int .u64 0,.bool false,.int .i64 0]) ?_ 1 _ rfl;(with_reducible repeat first|apply bN|apply bD|apply bA);refine blk_put (cs:=#[.int .u64 0,.int .u64 0,.bool false,.int .i64 0]) ?_ 0 _ rfl;(with_reducible repeat first|apply bN|apply bD|apply bA);exact K194.1))⟩;have n5_ : Aside0 (Below w.heap.size w w78):=⟨(by rw [hw];exact (by repeat (first|(with_reducible first|exact HB.1|apply bwA|apply bwN|apply bw1|refine bS ?_ GE174.1|refine bS ?_ GE177.1|refine bS ?_ GE180.1|refine bS ?_ GE187.1|refine bS ?_ GE194.1)|exact HB.1)))⟩;clear hw;clear K174;clear K177;clear K180;clear K187;clear K194;clear HB;have K174:=n0_;have K177:=n1_;have K180:=n2_;have K187:=n3_;have K194:=n4_;have HB:=n5_;clear n0_ n1_ n2_ n3_ n4_ n5_))
         have n0_:=Aside0.mk (bD K174.1)
         have n1_:=Aside0.mk (bD K177.1)
         have n2_:=Aside0.mk (bD K180.1)
         have n3_:=Aside0.mk (bD K187.1)
         have n4_:=Aside0.mk (bD K194.1)
         have n5_:=Aside0.mk (bw1 HB.1)
         clear K174
         clear K177
         clear K180
         clear K187
         clear K194
         clear HB
         have K174:=n0_
         have K177:=n1_
         have K180:=n2_
         have K187:=n3_
         have K194:=n4_
         have HB:=n5_
         clear n0_ n1_ n2_ n3_ n4_ n5_
         refine start_ (n:=13) (S:=fun w' => w'.cell? ⟨G187,0,none⟩ = some (.int .u64 t181) ∧ w'.cell? ⟨G187,1,none⟩ = some (.int .u64 t182) ∧ w'.cell? ⟨G187,2,none⟩ = some (.bool t183) ∧ w'.cell? ⟨G187,3,none⟩ = some (.int .i64 t184) ∧ w'.cell? ⟨G194,0,none⟩ = some (.int .u64 t188) ∧ w'.cell? ⟨G194,1,none⟩ = some (.int .u64 t189) ∧ w'.cell? ⟨G194,2,none⟩ = some (.bool t190) ∧ w'.cell? ⟨G194,3,none⟩ = some (.int .i64 t191)) (ds:=[]) #[false,false,false,false,false,false,false,false,false,false,false,false,false] (by kernel_rfl) rfl rfl ⟨(bC K187.1 0).trans rfl,(bC K187.1 1).trans rfl,(bC K187.1 2).trans rfl,(bC K187.1 3).trans rfl,(bC K194.1 0).trans rfl,(bC K194.1 1).trans rfl,(bC K194.1 2).trans rfl,(bC K194.1 3).trans rfl⟩ (fun hHeld => ?_);refine with_tabW beaconlaw12_SessionPlays.tab13 beaconlaw12_SessionPlays.bits13 (fun HT_ HW_ => ?_)
         generalize w78.drew = w79 at K174 K177 K180 K187 K194 HB hHeld ⊢
         refine pure_ (i:=2) (N:=some 70) (v:=?_) (a':=?_) #[false,false,true,false,false,false,false,false,false,false,false,false,false] rfl rfl (any_of HT_.out (by kernel_rfl)) (fun _ _ _ h => h) (Or.inl ⟨by rfl,?_⟩) ?_ ?_
         rotate_left
         ·intro w'
          go_simp
          with_reducible rfl
         rotate_left
         ·simp only [Act.put,List.setIfInBounds_toArray,List.set_cons_zero,List.set_cons_succ,i64_w,i32_w]
          rfl
         refine pure_ (i:=3) (N:=some 71) (v:=?_) (a':=?_) #[false,false,true,true,false,false,false,false,false,false,false,false,false] rfl rfl (any_of HT_.out (by kernel_rfl)) (fun _ _ _ h => h) (Or.inl ⟨by rfl,?_⟩) ?_ ?_
         rotate_left
         ·intro w'
          go_simp
          with_reducible rfl
         rotate_left
         ·simp only [Act.put,List.setIfInBounds_toArray,List.set_cons_zero,List.set_cons_succ,i64_w,i32_w]
          rfl
         refine pure_ (i:=4) (N:=some 72) (v:=?_) (a':=?_) #[false,false,true,true,true,false,false,false,false,false,false,false,false] rfl rfl (any_of HT_.out (by kernel_rfl)) (fun _ _ _ h => h) (Or.inl ⟨by rfl,?_⟩) ?_ ?_
         rotate_left
         ·intro w'
          go_simp
          with_reducible rfl
         rotate_left
         ·simp only [Act.put,List.setIfInBounds_toArray,List.set_cons_zero,List.set_cons_succ,i64_w,i32_w]
          rfl
         refine pure_ (i:=5) (N:=some 73) (v:=?_) (a':=?_) #[false,false,true,true,true,true,false,false,false,false,false,false,false] rfl rfl (any_of HT_.out (by kernel_rfl)) (fun _ _ _ h => h) (Or.inl ⟨by rfl,?_⟩) ?_ ?_
         rotate_left
         ·intro w'
          go_simp
          with_reducible rfl
         rotate_left
         ·simp only [Act.put,List.setIfInBounds_toArray,List.set_cons_zero,List.set_cons_succ,i64_w,i32_w]
          rfl
         refine pure_ (i:=6) (N:=some 74) (v:=undef) (a':=?_) #[false,false,true,true,true,true,true,false,false,false,false,false,false] rfl rfl (any_of HT_.out (by kernel_rfl)) (fun _ _ _ h => h) (Or.inr ⟨by rfl,rfl⟩) ?_ ?_
         rotate_left
         ·simp only [Act.put,List.setIfInBounds_toArray,List.set_cons_zero,List.set_cons_succ,i64_w,i32_w]
          rfl
         refine pure_ (i:=7) (N:=some 75) (v:=undef) (a':=?_) #[false,false,true,true,true,true,true,true,false,false,false,false,false] rfl rfl (any_of HT_.out (by kernel_rfl)) (fun _ _ _ h => h) (Or.inr ⟨by rfl,rfl⟩) ?_ ?_
         rotate_left
         ·simp only [Act.put,List.setIfInBounds_toArray,List.set_cons_zero,List.set_cons_succ,i64_w,i32_w]
          rfl
         refine pure_ (i:=8) (N:=some 76) (v:=undef) (a':=?_) #[false,false,true,true,true,true,true,true,true,false,false,false,false] rfl rfl (any_of HT_.out (by kernel_rfl)) (fun _ _ _ h => h) (Or.inr ⟨by rfl,rfl⟩) ?_ ?_
         rotate_left
         ·simp only [Act.put,List.setIfInBounds_toArray,List.set_cons_zero,List.set_cons_succ,i64_w,i32_w]
          rfl
         refine pure_ (i:=9) (N:=some 77) (v:=?_) (a':=?_) #[false,false,true,true,true,true,true,true,true,true,false,false,false] rfl rfl (any_of HT_.out (by kernel_rfl)) (fun _ _ _ h => h) (Or.inl ⟨by rfl,?_⟩) ?_ ?_
         rotate_left
         ·intro w'
          go_simp
          with_reducible rfl
         rotate_left
         ·simp only [Act.put,List.setIfInBounds_toArray,List.set_cons_zero,List.set_cons_succ,i64_w,i32_w]
          rfl
         refine take_ (i:=0) (N:=some 68) (v:=?_) (a':=?_) #[true,false,true,true,true,true,true,true,true,true,false,false,false] rfl rfl (take_ofW HT_.out HW_.out (by kernel_rfl)) (fun _ _ _ h => h) (Or.inl ⟨by rfl,?_⟩) hHeld ?_ ?_
         rotate_left
         ·rintro w' ⟨s0,s1,s2,s3,s4,s5,s6,s7⟩
          go_simp
          with_reducible rfl
         rotate_left
         ·simp only [Act.put,List.setIfInBounds_toArray,List.set_cons_zero,List.set_cons_succ,i64_w,i32_w]
          rfl
         refine take_ (i:=1) (N:=some 69) (v:=?_) (a':=?_) #[true,true,true,true,true,true,true,true,true,true,false,false,false] rfl rfl (take_ofW HT_.out HW_.out (by kernel_rfl)) (fun _ _ _ h => h) (Or.inl ⟨by rfl,?_⟩) hHeld ?_ ?_
         rotate_left
         ·rintro w' ⟨s0,s1,s2,s3,s4,s5,s6,s7⟩
          go_simp
          with_reducible rfl
         rotate_left
         ·simp only [Act.put,List.setIfInBounds_toArray,List.set_cons_zero,List.set_cons_succ,i64_w,i32_w]
          rfl
         refine one_ (i:=10) (N:=none) #[true,true,true,true,true,true,true,true,true,true,true,false,false] rfl rfl (one_of HT_.out (by kernel_rfl)) (by decide) (fun K hK => ?_)
         have hs80 : w79.cell? ⟨G174,0,none⟩ = some (.int .u64 x175000_1):=(bC K174.1 0).trans rfl
         have hfs80:=bF K174.1 0
         have hns80_1:=NB177_174.1
         have hns80_2:=NB180_174.1
         have hns80_3:=NB187_174.1
         have hns80_4:=NB194_174.1
         have hms80_1:=NB174_177.1
         have hms80_2:=NB174_180.1
         have hms80_3:=NB174_187.1
         have hms80_4:=NB174_194.1
         have hs81 : w79.cell? ⟨G174,1,none⟩ = some (.int .u64 x175001_1):=(bC K174.1 1).trans rfl
         have hfs81:=bF K174.1 1
         have hns81_1:=NB177_174.1
         have hns81_2:=NB180_174.1
         have hns81_3:=NB187_174.1
         have hns81_4:=NB194_174.1
         have hms81_1:=NB174_177.1
         have hms81_2:=NB174_180.1
         have hms81_3:=NB174_187.1
         have hms81_4:=NB174_194.1
         have hs82 : w79.cell? ⟨G174,2,none⟩ = some (.bool x175002_1):=(bC K174.1 2).trans rfl
         have hfs82:=bF K174.1 2
         have hns82_1:=NB177_174.1
         have hns82_2:=NB180_174.1
         have hns82_3:=NB187_174.1
         have hns82_4:=NB194_174.1
         have hms82_1:=NB174_177.1
         have hms82_2:=NB174_180.1
         have hms82_3:=NB174_187.1
         have hms82_4:=NB174_194.1
         have hs83 : w79.cell? ⟨G174,3,none⟩ = some (.int .i64 x175003_1):=(bC K174.1 3).trans rfl
         have hfs83:=bF K174.1 3
         have hns83_1:=NB177_174.1
         have hns83_2:=NB180_174.1
         have hns83_3:=NB187_174.1
         have hns83_4:=NB194_174.1
         have hms83_1:=NB174_177.1
         have hms83_2:=NB174_180.1
         have hms83_3:=NB174_187.1
         have hms83_4:=NB174_194.1
         refine skip_ (w1:=?_) (by rfl) rfl ?_ ?_
         rotate_left
         ·go_simp
          rfl
         refine hK.out _ _ ⟨((cF (p:=⟨G174,_,none⟩) NB187_174.1 _).trans (((cF (p:=⟨G174,_,none⟩) NB187_174.1 _).trans (((cF (p:=⟨G174,_,none⟩) NB187_174.1 _).trans (((cF (p:=⟨G174,_,none⟩) NB187_174.1 _).trans (hHeld.1)))))))),((cF (p:=⟨G174,_,none⟩) NB187_174.1 _).trans (((cF (p:=⟨G174,_,none⟩) NB187_174.1 _).trans (((cF (p:=⟨G174,_,none⟩) NB187_174.1 _).trans (((cF (p:=⟨G174,_,none⟩) NB187_174.1 _).trans (hHeld.2.1)))))))),((cF (p:=⟨G174,_,none⟩) NB187_174.1 _).trans (((cF (p:=⟨G174,_,none⟩) NB187_174.1 _).trans (((cF (p:=⟨G174,_,none⟩) NB187_174.1 _).trans (((cF (p:=⟨G174,_,none⟩) NB187_174.1 _).trans (hHeld.2.2.1)))))))),((cF (p:=⟨G174,_,none⟩) NB187_174.1 _).trans (((cF (p:=⟨G174,_,none⟩) NB187_174.1 _).trans (((cF (p:=⟨G174,_,none⟩) NB187_174.1 _).trans (((cF (p:=⟨G174,_,none⟩) NB187_174.1 _).trans (hHeld.2.2.2.1)))))))),((cF (p:=⟨G174,_,none⟩) NB194_174.1 _).trans (((cF (p:=⟨G174,_,none⟩) NB194_174.1 _).trans (((cF (p:=⟨G174,_,none⟩) NB194_174.1 _).trans (((cF (p:=⟨G174,_,none⟩) NB194_174.1 _).trans (hHeld.2.2.2.2.1)))))))),((cF (p:=⟨G174,_,none⟩) NB194_174.1 _).trans (((cF (p:=⟨G174,_,none⟩) NB194_174.1 _).trans (((cF (p:=⟨G174,_,none⟩) NB194_174.1 _).trans (((cF (p:=⟨G174,_,none⟩) NB194_174.1 _).trans (hHeld.2.2.2.2.2.1)))))))),((cF (p:=⟨G174,_,none⟩) NB194_174.1 _).trans (((cF (p:=⟨G174,_,none⟩) NB194_174.1 _).trans (((cF (p:=⟨G174,_,none⟩) NB194_174.1 _).trans (((cF (p:=⟨G174,_,none⟩) NB194_174.1 _).trans (hHeld.2.2.2.2.2.2.1)))))))),((cF (p:=⟨G174,_,none⟩) NB194_174.1 _).trans (((cF (p:=⟨G174,_,none⟩) NB194_174.1 _).trans (((cF (p:=⟨G174,_,none⟩) NB194_174.1 _).trans (((cF (p:=⟨G174,_,none⟩) NB194_174.1 _).trans (hHeld.2.2.2.2.2.2.2))))))))⟩ (fun hHeld => ?_)
         clear hK K
         refine one_ (i:=11) (N:=none) #[true,true,true,true,true,true,true,true,true,true,true,true,false] rfl rfl (one_of HT_.out (by kernel_rfl)) (by decide) (fun K hK => ?_)
         have hs84 : w79.cell? ⟨G177,0,none⟩ = some (.int .u64 x178000_1):=(bC K177.1 0).trans rfl
         have hfs84:=bF K177.1 0
         have hns84_0:=NB174_177.1
         have hns84_2:=NB180_177.1
         have hns84_3:=NB187_177.1
         have hns84_4:=NB194_177.1
         have hms84_0:=NB177_174.1
         have hms84_2:=NB177_180.1
         have hms84_3:=NB177_187.1
         have hms84_4:=NB177_194.1
         have hs85 : w79.cell? ⟨G177,1,none⟩ = some (.int .u64 x178001_1):=(bC K177.1 1).trans rfl
         have hfs85:=bF K177.1 1
         have hns85_0:=NB174_177.1
         have hns85_2:=NB180_177.1
         have hns85_3:=NB187_177.1
         have hns85_4:=NB194_177.1
         have hms85_0:=NB177_174.1
         have hms85_2:=NB177_180.1
         have hms85_3:=NB177_187.1
         have hms85_4:=NB177_194.1
         have hs86 : w79.cell? ⟨G177,2,none⟩ = some (.bool x178002_1):=(bC K177.1 2).trans rfl
         have hfs86:=bF K177.1 2
         have hns86_0:=NB174_177.1
         have hns86_2:=NB180_177.1
         have hns86_3:=NB187_177.1
         have hns86_4:=NB194_177.1
         have hms86_0:=NB177_174.1
         have hms86_2:=NB177_180.1
         have hms86_3:=NB177_187.1
         have hms86_4:=NB177_194.1
         have hs87 : w79.cell? ⟨G177,3,none⟩ = some (.int .i64 x178003_1):=(bC K177.1 3).trans rfl
         have hfs87:=bF K177.1 3
         have hns87_0:=NB174_177.1
         have hns87_2:=NB180_177.1
         have hns87_3:=NB187_177.1
         have hns87_4:=NB194_177.1
         have hms87_0:=NB177_174.1
         have hms87_2:=NB177_180.1
         have hms87_3:=NB177_187.1
         have hms87_4:=NB177_194.1
         refine skip_ (w1:=?_) (by rfl) rfl ?_ ?_
         rotate_left
         ·go_simp
          rfl
         refine hK.out _ _ ⟨((cF (p:=⟨G177,_,none⟩) NB187_177.1 _).trans (((cF (p:=⟨G177,_,none⟩) NB187_177.1 _).trans (((cF (p:=⟨G177,_,none⟩) NB187_177.1 _).trans (((cF (p:=⟨G177,_,none⟩) NB187_177.1 _).trans (hHeld.1)))))))),((cF (p:=⟨G177,_,none⟩) NB187_177.1 _).trans (((cF (p:=⟨G177,_,none⟩) NB187_177.1 _).trans (((cF (p:=⟨G177,_,none⟩) NB187_177.1 _).trans (((cF (p:=⟨G177,_,none⟩) NB187_177.1 _).trans (hHeld.2.1)))))))),((cF (p:=⟨G177,_,none⟩) NB187_177.1 _).trans (((cF (p:=⟨G177,_,none⟩) NB187_177.1 _).trans (((cF (p:=⟨G177,_,none⟩) NB187_177.1 _).trans (((cF (p:=⟨G177,_,none⟩) NB187_177.1 _).trans (hHeld.2.2.1)))))))),((cF (p:=⟨G177,_,none⟩) NB187_177.1 _).trans (((cF (p:=⟨G177,_,none⟩) NB187_177.1 _).trans (((cF (p:=⟨G177,_,none⟩) NB187_177.1 _).trans (((cF (p:=⟨G177,_,none⟩) NB187_177.1 _).trans (hHeld.2.2.2.1)))))))),((cF (p:=⟨G177,_,none⟩) NB194_177.1 _).trans (((cF (p:=⟨G177,_,none⟩) NB194_177.1 _).trans (((cF (p:=⟨G177,_,none⟩) NB194_177.1 _).trans (((cF (p:=⟨G177,_,none⟩) NB194_177.1 _).trans (hHeld.2.2.2.2.1)))))))),((cF (p:=⟨G177,_,none⟩) NB194_177.1 _).trans (((cF (p:=⟨G177,_,none⟩) NB194_177.1 _).trans (((cF (p:=⟨G177,_,none⟩) NB194_177.1 _).trans (((cF (p:=⟨G177,_,none⟩) NB194_177.1 _).trans (hHeld.2.2.2.2.2.1)))))))),((cF (p:=⟨G177,_,none⟩) NB194_177.1 _).trans (((cF (p:=⟨G177,_,none⟩) NB194_177.1 _).trans (((cF (p:=⟨G177,_,none⟩) NB194_177.1 _).trans (((cF (p:=⟨G177,_,none⟩) NB194_177.1 _).trans (hHeld.2.2.2.2.2.2.1)))))))),((cF (p:=⟨G177,_,none⟩) NB194_177.1 _).trans (((cF (p:=⟨G177,_,none⟩) NB194_177.1 _).trans (((cF (p:=⟨G177,_,none⟩) NB194_177.1 _).trans (((cF (p:=⟨G177,_,none⟩) NB194_177.1 _).trans (hHeld.2.2.2.2.2.2.2))))))))⟩ (fun hHeld => ?_)
         clear hK K
         refine pure_ (i:=12) (N:=some 8) (v:=?_) (a':=?_) #[true,true,true,true,true,true,true,true,true,true,true,true,true] rfl rfl (any_of HT_.out (by kernel_rfl)) (fun _ _ _ h => h) (Or.inl ⟨by rfl,?_⟩) ?_ ?_
         rotate_left
         ·intro w'
          go_simp
          with_reducible rfl
         rotate_left
         ·simp only [Act.put,List.setIfInBounds_toArray,List.set_cons_zero,List.set_cons_succ,i64_w,i32_w]
          rfl
         refine done_ (done_of HT_.out (by kernel_rfl)) ?_
         try go_wp2
         go_meet
         case rel => exact ⟨_,(false),(t181),(t182),(t183),(t184),(t188),(t189),(t190),(t191),(by first|rfl|(simp;done)|(simp [*];done)),H',⟨by have:=HK1.out;first|omega|exact Nat.le_refl _⟩,⟨by (with_reducible repeat first|apply bN|apply bD|apply bA);refine bZ ?_ NB174_177.1 _;(with_reducible repeat first|apply bN|apply bD|apply bA);refine bZ ?_ NB174_177.1 _;(with_reducible repeat first|apply bN|apply bD|apply bA);refine bZ ?_ NB174_177.1 _;(with_reducible repeat first|apply bN|apply bD|apply bA);refine bZ ?_ NB174_177.1 _;(with_reducible repeat first|apply bN|apply bD|apply bA);refine blk_put (cs:=#[.int .u64 t181,.int .u64 t182,.bool t183,.int .i64 x175003_1]) ?_ 3 _ rfl;(with_reducible repeat first|apply bN|apply bD|apply bA);refine blk_put (cs:=#[.int .u64 t181,.int .u64 t182,.bool x175002_1,.int .i64 x175003_1]) ?_ 2 _ rfl;(with_reducible repeat first|apply bN|apply bD|apply bA);refine blk_put (cs:=#[.int .u64 t181,.int .u64 x175001_1,.bool x175002_1,.int .i64 x175003_1]) ?_ 1 _ rfl;(with_reducible repeat first|apply bN|apply bD|apply bA);refine blk_put (cs:=#[.int .u64 x175000_1,.int .u64 x175001_1,.bool x175002_1,.int .i64 x175003_1]) ?_ 0 _ rfl;(with_reducible repeat first|apply bN|apply bD|apply bA);exact K174.1⟩,⟨by (with_reducible repeat first|apply bN|apply bD|apply bA);refine blk_put (cs:=#[.int .u64 t188,.int .u64 t189,.bool t190,.int .i64 x178003_1]) ?_ 3 _ rfl;(with_reducible repeat first|apply bN|apply bD|apply bA);refine blk_put (cs:=#[.int .u64 t188,.int .u64 t189,.bool x178002_1,.int .i64 x178003_1]) ?_ 2 _ rfl;(with_reducible repeat first|apply bN|apply bD|apply bA);refine blk_put (cs:=#[.int .u64 t188,.int .u64 x178001_1,.bool x178002_1,.int .i64 x178003_1]) ?_ 1 _ rfl;(with_reducible repeat first|apply bN|apply bD|apply bA);refine blk_put (cs:=#[.int .u64 x178000_1,.int .u64 x178001_1,.bool x178002_1,.int .i64 x178003_1]) ?_ 0 _ rfl;(with_reducible repeat first|apply bN|apply bD|apply bA);refine bZ ?_ NB177_174.1 _;(with_reducible repeat first|apply bN|apply bD|apply bA);refine bZ ?_ NB177_174.1 _;(with_reducible repeat first|apply bN|apply bD|apply bA);refine bZ ?_ NB177_174.1 _;(with_reducible repeat first|apply bN|apply bD|apply bA);refine bZ ?_ NB177_174.1 _;(with_reducible repeat first|apply bN|apply bD|apply bA);exact K177.1⟩,⟨by (with_reducible repeat first|apply bN|apply bD|apply bA);refine bZ ?_ NB180_177.1 _;(with_reducible repeat first|apply bN|apply bD|apply bA);refine bZ ?_ NB180_177.1 _;(with_reducible repeat first|apply bN|apply bD|apply bA);refine bZ ?_ NB180_177.1 _;(with_reducible repeat first|apply bN|apply bD|apply bA);refine bZ ?_ NB180_177.1 _;(with_reducible repeat first|apply bN|apply bD|apply bA);refine bZ ?_ NB180_174.1 _;(with_reducible repeat first|apply bN|apply bD|apply bA);refine bZ ?_ NB180_174.1 _;(with_reducible repeat first|apply bN|apply bD|apply bA);refine bZ ?_ NB180_174.1 _;(with_reducible repeat first|apply bN|apply bD|apply bA);refine bZ ?_ NB180_174.1 _;(with_reducible repeat first|apply bN|apply bD|apply bA);exact K180.1⟩,⟨by repeat (first|(with_reducible first|exact HB.1|apply bwA|apply bwN|apply bw1|refine bS ?_ GE174.1|refine bS ?_ GE177.1|refine bS ?_ GE180.1|refine bS ?_ GE187.1|refine bS ?_ GE194.1)|exact HB.1)⟩⟩
       ·rw [if_neg c22] at H
        have c22b0 : (((rd_T45 l1 x6_1).f0) == 0) = false:=beq_eq_false_iff_ne.mpr c22
        have c22b1 : (((rd_T45 l1 x6_1).f0) != 0) = true:=bne_iff_ne.mpr c22
        (first|rw [c22b0]|(simp only [i64_w,i32_w];rw [c22b0])|skip)
        by_cases c88 : ((rd_T45 l1 x6_1).f0) = 1
        ·rw [if_pos c88] at H
         have c88b0 : (((rd_T45 l1 x6_1).f0) == 1) = true:=beq_iff_eq.mpr c88
         have c88b1 : (((rd_T45 l1 x6_1).f0) != 1) = false:=bne_eq_false_iff_eq.mpr c88
         clear c88
         replace H:=Option.bind_eq_some_iff.mp H
         obtain ⟨⟨t195,t196,t197,t198,t199,t200⟩,A890,H⟩:=H
         replace H : ((beaconref12_Accept.f x178000_1 x178001_1 x178002_1 x178003_1 ((rd_T45 l1 x6_1).f1) ((rd_T45 l1 x6_1).f2)).bind fun bt202 => (if (t199 == bt202.2.2.2.2.1) = true then (beaconlaw12_SessionPlays.j1 k1 l1 x6_1 (t200 == bt202.2.2.2.2.2) t195 t196 t197 t198 bt202.1 bt202.2.1 bt202.2.2.1 bt202.2.2.2.1) else (beaconlaw12_SessionPlays.j1 k1 l1 x6_1 false t195 t196 t197 t198 bt202.1 bt202.2.1 bt202.2.2.1 bt202.2.2.2.1))) = some r:=H
         have A89:=Aside0.mk A890
         clear A890
         replace H:=Option.bind_eq_some_iff.mp H
         obtain ⟨⟨t202,t203,t204,t205,t206,t207⟩,A900,H⟩:=H
         replace H : (if (t199 == t206) = true then (beaconlaw12_SessionPlays.j1 k1 l1 x6_1 (t200 == t207) t195 t196 t197 t198 t202 t203 t204 t205) else (beaconlaw12_SessionPlays.j1 k1 l1 x6_1 false t195 t196 t197 t198 t202 t203 t204 t205)) = some r:=H
         have A90:=Aside0.mk A900
         clear A900
         by_cases c91 : (t199 == t206) = true
         ·rw [if_pos c91] at H
          have c91b0 : (t199 == t206) = true:=c91
          (try (have c91b1 : decide (t199 = t206) = true:=by simpa using c91))
          (try (have c91b2 : (t199 == t206) = true:=by simpa using c91))
          clear c91
          have H':=Aside0.mk H
          clear H
          have hnb92:=NB174_177.1
          have hnc92:=NB177_174.1
          have hnb93:=NB174_180.1
          have hnc93:=NB180_174.1
          have hcz94_0 : w20.cell? ⟨G174,0,none⟩ = some (.int .u64 x175000_1):=(bC K174.1 0).trans rfl
          have hcz94_1 : w20.cell? ⟨G174,1,none⟩ = some (.int .u64 x175001_1):=(bC K174.1 1).trans rfl
          have hcz94_2 : w20.cell? ⟨G174,2,none⟩ = some (.bool x175002_1):=(bC K174.1 2).trans rfl
          have hcz94_3 : w20.cell? ⟨G174,3,none⟩ = some (.int .i64 x175003_1):=(bC K174.1 3).trans rfl
          have hfz94_0:=bF K174.1 0
          have hfz94_1:=bF K174.1 1
          have hfz94_2:=bF K174.1 2
          have hfz94_3:=bF K174.1 3
          have hnb95:=NB180_177.1
          have hnc95:=NB177_180.1
          have hcz96_0 : w20.cell? ⟨G180,0,none⟩ = some (.int .i64 ((rd_T45 l1 x6_1).f0)):=(bC K180.1 0).trans rfl
          have hcz96_1 : w20.cell? ⟨G180,1,none⟩ = some (.int .u64 ((rd_T45 l1 x6_1).f1)):=(bC K180.1 1).trans rfl
          have hcz96_2 : w20.cell? ⟨G180,2,none⟩ = some (.int .u64 ((rd_T45 l1 x6_1).f2)):=(bC K180.1 2).trans rfl
          have hcz96_3 : w20.cell? ⟨G180,3,none⟩ = some (.int .i64 ((rd_T45 l1 x6_1).f3)):=(bC K180.1 3).trans rfl
          have hfz96_0:=bF K180.1 0
          have hfz96_1:=bF K180.1 1
          have hfz96_2:=bF K180.1 2
          have hfz96_3:=bF K180.1 3
          try go_wp2_with (first|((with_reducible refine gate_callee (f:=15) rfl ?_);refine goesL_ (some 86) rfl rfl Try.func15 (by kernel_rfl) rfl #[.agg #[.int .u64 x175000_1,.int .u64 x175001_1,.bool x175002_1,.int .i64 x175003_1],.int .u64 ((rd_T45 l1 x6_1).f1),.int .u64 ((rd_T45 l1 x6_1).f2)] rfl (by (try simp only [List.map_toArray,List.map_cons,List.map_nil]);first|done|rfl|(simp only [List.length_drop,List.length_take];rfl)) ?_;(with_reducible refine (session_Accept.calls x175000_1 x175001_1 x175002_1 x175003_1 ((rd_T45 l1 x6_1).f1) ((rd_T45 l1 x6_1).f2) t195 t196 t197 t198 t199 t200 _ A89.out).mono ?_);rintro e w97 ⟨rfl,hb⟩;refine ⟨_,rfl,?_⟩;have n0_:=Aside0.mk (bB (g:=G174) (o:=.cells #[.int .u64 x175000_1,.int .u64 x175001_1,.bool x175002_1,.int .i64 x175003_1] 26 (0,0)) (by (with_reducible repeat first|apply bN|apply bD|apply bA);exact K174.1) hb);have n1_:=Aside0.mk (bB (g:=G177) (o:=.cells #[.int .u64 x178000_1,.int .u64 x178001_1,.bool x178002_1,.int .i64 x178003_1] 26 (0,0)) (by (with_reducible repeat first|apply bN|apply bD|apply bA);exact K177.1) hb);have n2_:=Aside0.mk (bB (g:=G180) (o:=.cells #[.int .i64 ((rd_T45 l1 x6_1).f0),.int .u64 ((rd_T45 l1 x6_1).f1),.int .u64 ((rd_T45 l1 x6_1).f2),.int .i64 ((rd_T45 l1 x6_1).f3)] 45 (0,0)) (by (with_reducible repeat first|apply bN|apply bD|apply bA);exact K180.1) hb);have n3_:=Aside0.mk (below_step (by repeat (first|(with_reducible first|exact HB.1|apply bwA|apply bwN|apply bw1|refine bS ?_ GE174.1|refine bS ?_ GE177.1|refine bS ?_ GE180.1)|exact HB.1)) hb);clear K174;clear K177;clear K180;clear HB;have K174:=n0_;have K177:=n1_;have K180:=n2_;have HB:=n3_;clear n0_ n1_ n2_ n3_;(try clear hb);(try clear hb2);(try clear hk);(try clear hi))|((with_reducible refine gate_dst (N:=15) rfl ?_);refine box_event ?hg (N:=15) ?hd (cs:=#[.int .u64 0,.int .u64 0,.bool false,.int .i64 0]) (t:=26) ?hr ?_;(case hd => rfl);(case hg => rfl);(case hr => first|(go_simp;done)|(go_simp;rfl));intro G201 hg w98 hbox hb;have n0_:=Aside0.mk (bB (g:=G174) (o:=.cells #[.int .u64 x175000_1,.int .u64 x175001_1,.bool x175002_1,.int .i64 x175003_1] 26 (0,0)) (by (with_reducible repeat first|apply bN|apply bD|apply bA);exact K174.1) hb);have n1_:=Aside0.mk (bB (g:=G177) (o:=.cells #[.int .u64 x178000_1,.int .u64 x178001_1,.bool x178002_1,.int .i64 x178003_1] 26 (0,0)) (by (with_reducible repeat first|apply bN|apply bD|apply bA);exact K177.1) hb);have n2_:=Aside0.mk (bB (g:=G180) (o:=.cells #[.int .i64 ((rd_T45 l1 x6_1).f0),.int .u64 ((rd_T45 l1 x6_1).f1),.int .u64 ((rd_T45 l1 x6_1).f2),.int .i64 ((rd_T45 l1 x6_1).f3)] 45 (0,0)) (by (with_reducible repeat first|apply bN|apply bD|apply bA);exact K180.1) hb);have n3_:=Aside0.mk (below_step (by repeat (first|(with_reducible first|exact HB.1|apply bwA|apply bwN|apply bw1|refine bS ?_ GE174.1|refine bS ?_ GE177.1|refine bS ?_ GE180.1)|exact HB.1)) hb);have n4_:=Aside0.mk (hbox);have n5_:=Aside0.mk ((by rw [hg];exact (below_size (by repeat (first|(with_reducible first|exact HB.1|apply bwA|apply bwN|apply bw1|refine bS ?_ GE174.1|refine bS ?_ GE177.1|refine bS ?_ GE180.1)|exact HB.1))) : w.heap.size ≤ G201));have n6_:=Aside0.mk ((by rw [hg];exact (below_size (by repeat (first|(with_reducible first|exact HB.1|apply bwA|apply bwN|apply bw1|refine bS ?_ GE174.1|refine bS ?_ GE177.1|refine bS ?_ GE180.1)|exact HB.1))) : w.heap.size ≤ G201));have n7_:=Aside0.mk ((by rw [hg];exact Nat.ne_of_lt (blk_lt (g:=G174) (o:=.cells #[.int .u64 x175000_1,.int .u64 x175001_1,.bool x175002_1,.int .i64 x175003_1] 26 (0,0)) (by (with_reducible repeat first|apply bN|apply bD|apply bA);exact K174.1)) : G174 ≠ G201));have n8_:=Aside0.mk ((by rw [hg];exact Nat.ne_of_gt (blk_lt (g:=G174) (o:=.cells #[.int .u64 x175000_1,.int .u64 x175001_1,.bool x175002_1,.int .i64 x175003_1] 26 (0,0)) (by (with_reducible repeat first|apply bN|apply bD|apply bA);exact K174.1)) : G201 ≠ G174));have n9_:=Aside0.mk ((by rw [hg];exact Nat.ne_of_lt (blk_lt (g:=G177) (o:=.cells #[.int .u64 x178000_1,.int .u64 x178001_1,.bool x178002_1,.int .i64 x178003_1] 26 (0,0)) (by (with_reducible repeat first|apply bN|apply bD|apply bA);exact K177.1)) : G177 ≠ G201));have n10_:=Aside0.mk ((by rw [hg];exact Nat.ne_of_gt (blk_lt (g:=G177) (o:=.cells #[.int .u64 x178000_1,.int .u64 x178001_1,.bool x178002_1,.int .i64 x178003_1] 26 (0,0)) (by (with_reducible repeat first|apply bN|apply bD|apply bA);exact K177.1)) : G201 ≠ G177));have n11_:=Aside0.mk ((by rw [hg];exact Nat.ne_of_lt (blk_lt (g:=G180) (o:=.cells #[.int .i64 ((rd_T45 l1 x6_1).f0),.int .u64 ((rd_T45 l1 x6_1).f1),.int .u64 ((rd_T45 l1 x6_1).f2),.int .i64 ((rd_T45 l1 x6_1).f3)] 45 (0,0)) (by (with_reducible repeat first|apply bN|apply bD|apply bA);exact K180.1)) : G180 ≠ G201));have n12_:=Aside0.mk ((by rw [hg];exact Nat.ne_of_gt (blk_lt (g:=G180) (o:=.cells #[.int .i64 ((rd_T45 l1 x6_1).f0),.int .u64 ((rd_T45 l1 x6_1).f1),.int .u64 ((rd_T45 l1 x6_1).f2),.int .i64 ((rd_T45 l1 x6_1).f3)] 45 (0,0)) (by (with_reducible repeat first|apply bN|apply bD|apply bA);exact K180.1)) : G201 ≠ G180));clear K174;clear K177;clear K180;clear HB;have K174:=n0_;have K177:=n1_;have K180:=n2_;have HB:=n3_;have K201:=n4_;have GW201:=n5_;have GE201:=n6_;have NB174_201:=n7_;have NB201_174:=n8_;have NB177_201:=n9_;have NB201_177:=n10_;have NB180_201:=n11_;have NB201_180:=n12_;clear n0_ n1_ n2_ n3_ n4_ n5_ n6_ n7_ n8_ n9_ n10_ n11_ n12_;clear hb hbox hg;have hnb99:=NB201_174.1;have hnc99:=NB174_201.1;have hnb100:=NB201_177.1;have hnc100:=NB177_201.1;have hnb101:=NB201_180.1;have hnc101:=NB180_201.1;have hcz102_0 : w98.cell? ⟨G201,0,none⟩ = some (.int .u64 0):=(bC K201.1 0).trans rfl;have hcz102_1 : w98.cell? ⟨G201,1,none⟩ = some (.int .u64 0):=(bC K201.1 1).trans rfl;have hcz102_2 : w98.cell? ⟨G201,2,none⟩ = some (.bool false):=(bC K201.1 2).trans rfl;have hcz102_3 : w98.cell? ⟨G201,3,none⟩ = some (.int .i64 0):=(bC K201.1 3).trans rfl;have hfz102_0:=bF K201.1 0;have hfz102_1:=bF K201.1 1;have hfz102_2:=bF K201.1 2;have hfz102_3:=bF K201.1 3)|((with_reducible refine gate_store (t:=26) (p:=15) rfl ?_);refine store_event (t:=26) (p:=15) (v:=?vo_w103) (w1:=((((w98.setCell ⟨G201,0,none⟩ (.int .u64 t195)).setCell ⟨G201,1,none⟩ (.int .u64 t196)).setCell ⟨G201,2,none⟩ (.bool t197)).setCell ⟨G201,3,none⟩ (.int .i64 t198))) ?hg ?ho ?hn ?hr ?_;(case ho => rfl);(case hg => rfl);(case hn => rfl);(case hr => first|(go_simp;done)|(go_simp;rfl));intro w103 hw;have n0_ : Aside0 (w103.heap[G174]? = some (.cells #[.int .u64 x175000_1,.int .u64 x175001_1,.bool x175002_1,.int .i64 x175003_1] 26 (0,0))):=⟨(by rw [hw];exact (by (with_reducible repeat first|apply bN|apply bD|apply bA);refine bZ ?_ NB174_201.1 _;(with_reducible repeat first|apply bN|apply bD|apply bA);refine bZ ?_ NB174_201.1 _;(with_reducible repeat first|apply bN|apply bD|apply bA);refine bZ ?_ NB174_201.1 _;(with_reducible repeat first|apply bN|apply bD|apply bA);refine bZ ?_ NB174_201.1 _;(with_reducible repeat first|apply bN|apply bD|apply bA);exact K174.1))⟩;have n1_ : Aside0 (w103.heap[G177]? = some (.cells #[.int .u64 x178000_1,.int .u64 x178001_1,.bool x178002_1,.int .i64 x178003_1] 26 (0,0))):=⟨(by rw [hw];exact (by (with_reducible repeat first|apply bN|apply bD|apply bA);refine bZ ?_ NB177_201.1 _;(with_reducible repeat first|apply bN|apply bD|apply bA);refine bZ ?_ NB177_201.1 _;(with_reducible repeat first|apply bN|apply bD|apply bA);refine bZ ?_ NB177_201.1 _;(with_reducible repeat first|apply bN|apply bD|apply bA);refine bZ ?_ NB177_201.1 _;(with_reducible repeat first|apply bN|apply bD|apply bA);exact K177.1))⟩;have n2_ : Aside0 (w103.heap[G180]? = some (.cells #[.int .i64 ((rd_T45 l1 x6_1).f0),.int .u64 ((rd_T45 l1 x6_1).f1),.int .u64 ((rd_T45 l1 x6_1).f2),.int .i64 ((rd_T45 l1 x6_1).f3)] 45 (0,0))):=⟨(by rw [hw];exact (by (with_reducible repeat first|apply bN|apply bD|apply bA);refine bZ ?_ NB180_201.1 _;(with_reducible repeat first|apply bN|apply bD|apply bA);refine bZ ?_ NB180_201.1 _;(with_reducible repeat first|apply bN|apply bD|apply bA);refine bZ ?_ NB180_201.1 _;(with_reducible repeat first|apply bN|apply bD|apply bA);refine bZ ?_ NB180_201.1 _;(with_reducible repeat first|apply bN|apply bD|apply bA);exact K180.1))⟩;have n3_ : Aside0 (w103.heap[G201]? = some (.cells #[.int .u64 t195,.int .u64 t196,.bool t197,.int .i64 t198] 26 (0,0))):=⟨(by rw [hw];exact (by (with_reducible repeat first|apply bN|apply bD|apply bA);refine blk_put (cs:=#[.int .u64 t195,.int .u64 t196,.bool t197,.int .i64 0]) ?_ 3 _ rfl;(with_reducible repeat first|apply bN|apply bD|apply bA);refine blk_put (cs:=#[.int .u64 t195,.int .u64 t196,.bool false,.int .i64 0]) ?_ 2 _ rfl;(with_reducible repeat first|apply bN|apply bD|apply bA);refine blk_put (cs:=#[.int .u64 t195,.int .u64 0,.bool false,.int .i64 0]) ?_ 1 _ rfl;(with_reducible repeat first|apply bN|apply bD|apply bA);refine blk_put (cs:=#[.int .u64 0,.int .u64 0,.bool false,.int .i64 0]) ?_ 0 _ rfl;(with_reducible repeat first|apply bN|apply bD|apply bA);exact K201.1))⟩;have n4_ : Aside0 (Below w.heap.size w w103):=⟨(by rw [hw];exact (by repeat (first|(with_reducible first|exact HB.1|apply bwA|apply bwN|apply bw1|refine bS ?_ GE174.1|refine bS ?_ GE177.1|refine bS ?_ GE180.1|refine bS ?_ GE201.1)|exact HB.1)))⟩;clear hw;clear K174;clear K177;clear K180;clear K201;clear HB;have K174:=n0_;have K177:=n1_;have K180:=n2_;have K201:=n3_;have HB:=n4_;clear n0_ n1_ n2_ n3_ n4_;have hcz104_0 : w103.cell? ⟨G177,0,none⟩ = some (.int .u64 x178000_1):=(bC K177.1 0).trans rfl;have hcz104_1 : w103.cell? ⟨G177,1,none⟩ = some (.int .u64 x178001_1):=(bC K177.1 1).trans rfl;have hcz104_2 : w103.cell? ⟨G177,2,none⟩ = some (.bool x178002_1):=(bC K177.1 2).trans rfl;have hcz104_3 : w103.cell? ⟨G177,3,none⟩ = some (.int .i64 x178003_1):=(bC K177.1 3).trans rfl;have hfz104_0:=bF K177.1 0;have hfz104_1:=bF K177.1 1;have hfz104_2:=bF K177.1 2;have hfz104_3:=bF K177.1 3;have hcz105_0 : w103.cell? ⟨G180,0,none⟩ = some (.int .i64 ((rd_T45 l1 x6_1).f0)):=(bC K180.1 0).trans rfl;have hcz105_1 : w103.cell? ⟨G180,1,none⟩ = some (.int .u64 ((rd_T45 l1 x6_1).f1)):=(bC K180.1 1).trans rfl;have hcz105_2 : w103.cell? ⟨G180,2,none⟩ = some (.int .u64 ((rd_T45 l1 x6_1).f2)):=(bC K180.1 2).trans rfl;have hcz105_3 : w103.cell? ⟨G180,3,none⟩ = some (.int .i64 ((rd_T45 l1 x6_1).f3)):=(bC K180.1 3).trans rfl;have hfz105_0:=bF K180.1 0;have hfz105_1:=bF K180.1 1;have hfz105_2:=bF K180.1 2;have hfz105_3:=bF K180.1 3)|((with_reducible refine gate_callee (f:=16) rfl ?_);refine goesL_ (some 96) rfl rfl Try.func16 (by kernel_rfl) rfl #[.agg #[.int .u64 x178000_1,.int .u64 x178001_1,.bool x178002_1,.int .i64 x178003_1],.int .u64 ((rd_T45 l1 x6_1).f1),.int .u64 ((rd_T45 l1 x6_1).f2)] rfl (by (try simp only [List.map_toArray,List.map_cons,List.map_nil]);first|done|rfl|(simp only [List.length_drop,List.length_take];rfl)) ?_;(with_reducible refine (beaconref12_Accept.calls x178000_1 x178001_1 x178002_1 x178003_1 ((rd_T45 l1 x6_1).f1) ((rd_T45 l1 x6_1).f2) t202 t203 t204 t205 t206 t207 _ A90.out).mono ?_);rintro e w106 ⟨rfl,hb⟩;refine ⟨_,rfl,?_⟩;have n0_:=Aside0.mk (bB (g:=G174) (o:=.cells #[.int .u64 x175000_1,.int .u64 x175001_1,.bool x175002_1,.int .i64 x175003_1] 26 (0,0)) (by (with_reducible repeat first|apply bN|apply bD|apply bA);exact K174.1) hb);have n1_:=Aside0.mk (bB (g:=G177) (o:=.cells #[.int .u64 x178000_1,.int .u64 x178001_1,.bool x178002_1,.int .i64 x178003_1] 26 (0,0)) (by (with_reducible repeat first|apply bN|apply bD|apply bA);exact K177.1) hb);have n2_:=Aside0.mk (bB (g:=G180) (o:=.cells #[.int .i64 ((rd_T45 l1 x6_1).f0),.int .u64 ((rd_T45 l1 x6_1).f1),.int .u64 ((rd_T45 l1 x6_1).f2),.int .i64 ((rd_T45 l1 x6_1).f3)] 45 (0,0)) (by (with_reducible repeat first|apply bN|apply bD|apply bA);exact K180.1) hb);have n3_:=Aside0.mk (bB (g:=G201) (o:=.cells #[.int .u64 t195,.int .u64 t196,.bool t197,.int .i64 t198] 26 (0,0)) (by (with_reducible repeat first|apply bN|apply bD|apply bA);exact K201.1) hb);have n4_:=Aside0.mk (below_step (by repeat (first|(with_reducible first|exact HB.1|apply bwA|apply bwN|apply bw1|refine bS ?_ GE174.1|refine bS ?_ GE177.1|refine bS ?_ GE180.1|refine bS ?_ GE201.1)|exact HB.1)) hb);clear K174;clear K177;clear K180;clear K201;clear HB;have K174:=n0_;have K177:=n1_;have K180:=n2_;have K201:=n3_;have HB:=n4_;clear n0_ n1_ n2_ n3_ n4_;(try clear hb);(try clear hb2);(try clear hk);(try clear hi))|((with_reducible refine gate_dst (N:=18) rfl ?_);refine box_event ?hg (N:=18) ?hd (cs:=#[.int .u64 0,.int .u64 0,.bool false,.int .i64 0]) (t:=26) ?hr ?_;(case hd => rfl);(case hg => rfl);(case hr => first|(go_simp;done)|(go_simp;rfl));intro G208 hg w107 hbox hb;have n0_:=Aside0.mk (bB (g:=G174) (o:=.cells #[.int .u64 x175000_1,.int .u64 x175001_1,.bool x175002_1,.int .i64 x175003_1] 26 (0,0)) (by (with_reducible repeat first|apply bN|apply bD|apply bA);exact K174.1) hb);have n1_:=Aside0.mk (bB (g:=G177) (o:=.cells #[.int .u64 x178000_1,.int .u64 x178001_1,.bool x178002_1,.int .i64 x178003_1] 26 (0,0)) (by (with_reducible repeat first|apply bN|apply bD|apply bA);exact K177.1) hb);have n2_:=Aside0.mk (bB (g:=G180) (o:=.cells #[.int .i64 ((rd_T45 l1 x6_1).f0),.int .u64 ((rd_T45 l1 x6_1).f1),.int .u64 ((rd_T45 l1 x6_1).f2),.int .i64 ((rd_T45 l1 x6_1).f3)] 45 (0,0)) (by (with_reducible repeat first|apply bN|apply bD|apply bA);exact K180.1) hb);have n3_:=Aside0.mk (bB (g:=G201) (o:=.cells #[.int .u64 t195,.int .u64 t196,.bool t197,.int .i64 t198] 26 (0,0)) (by (with_reducible repeat first|apply bN|apply bD|apply bA);exact K201.1) hb);have n4_:=Aside0.mk (below_step (by repeat (first|(with_reducible first|exact HB.1|apply bwA|apply bwN|apply bw1|refine bS ?_ GE174.1|refine bS ?_ GE177.1|refine bS ?_ GE180.1|refine bS ?_ GE201.1)|exact HB.1)) hb);have n5_:=Aside0.mk (hbox);have n6_:=Aside0.mk ((by rw [hg];exact (below_size (by repeat (first|(with_reducible first|exact HB.1|apply bwA|apply bwN|apply bw1|refine bS ?_ GE174.1|refine bS ?_ GE177.1|refine bS ?_ GE180.1|refine bS ?_ GE201.1)|exact HB.1))) : w.heap.size ≤ G208));have n7_:=Aside0.mk ((by rw [hg];exact (below_size (by repeat (first|(with_reducible first|exact HB.1|apply bwA|apply bwN|apply bw1|refine bS ?_ GE174.1|refine bS ?_ GE177.1|refine bS ?_ GE180.1|refine bS ?_ GE201.1)|exact HB.1))) : w.heap.size ≤ G208));have n8_:=Aside0.mk ((by rw [hg];exact Nat.ne_of_lt (blk_lt (g:=G174) (o:=.cells #[.int .u64 x175000_1,.int .u64 x175001_1,.bool x175002_1,.int .i64 x175003_1] 26 (0,0)) (by (with_reducible repeat first|apply bN|apply bD|apply bA);exact K174.1)) : G174 ≠ G208));have n9_:=Aside0.mk ((by rw [hg];exact Nat.ne_of_gt (blk_lt (g:=G174) (o:=.cells #[.int .u64 x175000_1,.int .u64 x175001_1,.bool x175002_1,.int .i64 x175003_1] 26 (0,0)) (by (with_reducible repeat first|apply bN|apply bD|apply bA);exact K174.1)) : G208 ≠ G174));have n10_:=Aside0.mk ((by rw [hg];exact Nat.ne_of_lt (blk_lt (g:=G177) (o:=.cells #[.int .u64 x178000_1,.int .u64 x178001_1,.bool x178002_1,.int .i64 x178003_1] 26 (0,0)) (by (with_reducible repeat first|apply bN|apply bD|apply bA);exact K177.1)) : G177 ≠ G208));have n11_:=Aside0.mk ((by rw [hg];exact Nat.ne_of_gt (blk_lt (g:=G177) (o:=.cells #[.int .u64 x178000_1,.int .u64 x178001_1,.bool x178002_1,.int .i64 x178003_1] 26 (0,0)) (by (with_reducible repeat first|apply bN|apply bD|apply bA);exact K177.1)) : G208 ≠ G177));have n12_:=Aside0.mk ((by rw [hg];exact Nat.ne_of_lt (blk_lt (g:=G180) (o:=.cells #[.int .i64 ((rd_T45 l1 x6_1).f0),.int .u64 ((rd_T45 l1 x6_1).f1),.int .u64 ((rd_T45 l1 x6_1).f2),.int .i64 ((rd_T45 l1 x6_1).f3)] 45 (0,0)) (by (with_reducible repeat first|apply bN|apply bD|apply bA);exact K180.1)) : G180 ≠ G208));have n13_:=Aside0.mk ((by rw [hg];exact Nat.ne_of_gt (blk_lt (g:=G180) (o:=.cells #[.int .i64 ((rd_T45 l1 x6_1).f0),.int .u64 ((rd_T45 l1 x6_1).f1),.int .u64 ((rd_T45 l1 x6_1).f2),.int .i64 ((rd_T45 l1 x6_1).f3)] 45 (0,0)) (by (with_reducible repeat first|apply bN|apply bD|apply bA);exact K180.1)) : G208 ≠ G180));have n14_:=Aside0.mk ((by rw [hg];exact Nat.ne_of_lt (blk_lt (g:=G201) (o:=.cells #[.int .u64 t195,.int .u64 t196,.bool t197,.int .i64 t198] 26 (0,0)) (by (with_reducible repeat first|apply bN|apply bD|apply bA);exact K201.1)) : G201 ≠ G208));have n15_:=Aside0.mk ((by rw [hg];exact Nat.ne_of_gt (blk_lt (g:=G201) (o:=.cells #[.int .u64 t195,.int .u64 t196,.bool t197,.int .i64 t198] 26 (0,0)) (by (with_reducible repeat first|apply bN|apply bD|apply bA);exact K201.1)) : G208 ≠ G201));clear K174;clear K177;clear K180;clear K201;clear HB;have K174:=n0_;have K177:=n1_;have K180:=n2_;have K201:=n3_;have HB:=n4_;have K208:=n5_;have GW208:=n6_;have GE208:=n7_;have NB174_208:=n8_;have NB208_174:=n9_;have NB177_208:=n10_;have NB208_177:=n11_;have NB180_208:=n12_;have NB208_180:=n13_;have NB201_208:=n14_;have NB208_201:=n15_;clear n0_ n1_ n2_ n3_ n4_ n5_ n6_ n7_ n8_ n9_ n10_ n11_ n12_ n13_ n14_ n15_;clear hb hbox hg;have hnb108:=NB208_174.1;have hnc108:=NB174_208.1;have hnb109:=NB208_177.1;have hnc109:=NB177_208.1;have hnb110:=NB208_180.1;have hnc110:=NB180_208.1;have hnb111:=NB208_201.1;have hnc111:=NB201_208.1;have hcz112_0 : w107.cell? ⟨G208,0,none⟩ = some (.int .u64 0):=(bC K208.1 0).trans rfl;have hcz112_1 : w107.cell? ⟨G208,1,none⟩ = some (.int .u64 0):=(bC K208.1 1).trans rfl;have hcz112_2 : w107.cell? ⟨G208,2,none⟩ = some (.bool false):=(bC K208.1 2).trans rfl;have hcz112_3 : w107.cell? ⟨G208,3,none⟩ = some (.int .i64 0):=(bC K208.1 3).trans rfl;have hfz112_0:=bF K208.1 0;have hfz112_1:=bF K208.1 1;have hfz112_2:=bF K208.1 2;have hfz112_3:=bF K208.1 3)|((with_reducible refine gate_store (t:=26) (p:=18) rfl ?_);refine store_event (t:=26) (p:=18) (v:=?vo_w113) (w1:=((((w107.setCell ⟨G208,0,none⟩ (.int .u64 t202)).setCell ⟨G208,1,none⟩ (.int .u64 t203)).setCell ⟨G208,2,none⟩ (.bool t204)).setCell ⟨G208,3,none⟩ (.int .i64 t205))) ?hg ?ho ?hn ?hr ?_;(case ho => rfl);(case hg => rfl);(case hn => rfl);(case hr => first|(go_simp;done)|(go_simp;rfl));intro w113 hw;have n0_ : Aside0 (w113.heap[G174]? = some (.cells #[.int .u64 x175000_1,.int .u64 x175001_1,.bool x175002_1,.int .i64 x175003_1] 26 (0,0))):=⟨(by rw [hw];exact (by (with_reducible repeat first|apply bN|apply bD|apply bA);refine bZ ?_ NB174_208.1 _;(with_reducible repeat first|apply bN|apply bD|apply bA);refine bZ ?_ NB174_208.1 _;(with_reducible repeat first|apply bN|apply bD|apply bA);refine bZ ?_ NB174_208.1 _;(with_reducible repeat first|apply bN|apply bD|apply bA);refine bZ ?_ NB174_208.1 _;(with_reducible repeat first|apply bN|apply bD|apply bA);exact K174.1))⟩;have n1_ : Aside0 (w113.heap[G177]? = some (.cells #[.int .u64 x178000_1,.int .u64 x178001_1,.bool x178002_1,.int .i64 x178003_1] 26 (0,0))):=⟨(by rw [hw];exact (by (with_reducible repeat first|apply bN|apply bD|apply bA);refine bZ ?_ NB177_208.1 _;(with_reducible repeat first|apply bN|apply bD|apply bA);refine bZ ?_ NB177_208.1 _;(with_reducible repeat first|apply bN|apply bD|apply bA);refine bZ ?_ NB177_208.1 _;(with_reducible repeat first|apply bN|apply bD|apply bA);refine bZ ?_ NB177_208.1 _;(with_reducible repeat first|apply bN|apply bD|apply bA);exact K177.1))⟩;have n2_ : Aside0 (w113.heap[G180]? = some (.cells #[.int .i64 ((rd_T45 l1 x6_1).f0),.int .u64 ((rd_T45 l1 x6_1).f1),.int .u64 ((rd_T45 l1 x6_1).f2),.int .i64 ((rd_T45 l1 x6_1).f3)] 45 (0,0))):=⟨(by rw [hw];exact (by (with_reducible repeat first|apply bN|apply bD|apply bA);refine bZ ?_ NB180_208.1 _;(with_reducible repeat first|apply bN|apply bD|apply bA);refine bZ ?_ NB180_208.1 _;(with_reducible repeat first|apply bN|apply bD|apply bA);refine bZ ?_ NB180_208.1 _;(with_reducible repeat first|apply bN|apply bD|apply bA);refine bZ ?_ NB180_208.1 _;(with_reducible repeat first|apply bN|apply bD|apply bA);exact K180.1))⟩;have n3_ : Aside0 (w113.heap[G201]? = some (.cells #[.int .u64 t195,.int .u64 t196,.bool t197,.int .i64 t198] 26 (0,0))):=⟨(by rw [hw];exact (by (with_reducible repeat first|apply bN|apply bD|apply bA);refine bZ ?_ NB201_208.1 _;(with_reducible repeat first|apply bN|apply bD|apply bA);refine bZ ?_ NB201_208.1 _;(with_reducible repeat first|apply bN|apply bD|apply bA);refine bZ ?_ NB201_208.1 _;(with_reducible repeat first|apply bN|apply bD|apply bA);refine bZ ?_ NB201_208.1 _;(with_reducible repeat first|apply bN|apply bD|apply bA);exact K201.1))⟩;have n4_ : Aside0 (w113.heap[G208]? = some (.cells #[.int .u64 t202,.int .u64 t203,.bool t204,.int .i64 t205] 26 (0,0))):=⟨(by rw [hw];exact (by (with_reducible repeat first|apply bN|apply bD|apply bA);refine blk_put (cs:=#[.int .u64 t202,.int .u64 t203,.bool t204,.int .i64 0]) ?_ 3 _ rfl;(with_reducible repeat first|apply bN|apply bD|apply bA);refine blk_put (cs:=#[.int .u64 t202,.int .u64 t203,.bool false,.int .i64 0]) ?_ 2 _ rfl;(with_reducible repeat first|apply bN|apply bD|apply bA);refine blk_put (cs:=#[.int .u64 t202,.int .u64 0,.bool false,.int .i64 0]) ?_ 1 _ rfl;(with_reducible repeat first|apply bN|apply bD|apply bA);refine blk_put (cs:=#[.int .u64 0,.int .u64 0,.bool false,.int .i64 0]) ?_ 0 _ rfl;(with_reducible repeat first|apply bN|apply bD|apply bA);exact K208.1))⟩;have n5_ : Aside0 (Below w.heap.size w w113):=⟨(by rw [hw];exact (by repeat (first|(with_reducible first|exact HB.1|apply bwA|apply bwN|apply bw1|refine bS ?_ GE174.1|refine bS ?_ GE177.1|refine bS ?_ GE180.1|refine bS ?_ GE201.1|refine bS ?_ GE208.1)|exact HB.1)))⟩;clear hw;clear K174;clear K177;clear K180;clear K201;clear K208;clear HB;have K174:=n0_;have K177:=n1_;have K180:=n2_;have K201:=n3_;have K208:=n4_;have HB:=n5_;clear n0_ n1_ n2_ n3_ n4_ n5_))
          have n0_:=Aside0.mk (bD K174.1)
          have n1_:=Aside0.mk (bD K177.1)
          have n2_:=Aside0.mk (bD K180.1)
          have n3_:=Aside0.mk (bD K201.1)
          have n4_:=Aside0.mk (bD K208.1)
          have n5_:=Aside0.mk (bw1 HB.1)
          clear K174
          clear K177
          clear K180
          clear K201
          clear K208
          clear HB
          have K174:=n0_
          have K177:=n1_
          have K180:=n2_
          have K201:=n3_
          have K208:=n4_
          have HB:=n5_
          clear n0_ n1_ n2_ n3_ n4_ n5_
          refine start_ (n:=13) (S:=fun w' => w'.cell? ⟨G201,0,none⟩ = some (.int .u64 t195) ∧ w'.cell? ⟨G201,1,none⟩ = some (.int .u64 t196) ∧ w'.cell? ⟨G201,2,none⟩ = some (.bool t197) ∧ w'.cell? ⟨G201,3,none⟩ = some (.int .i64 t198) ∧ w'.cell? ⟨G208,0,none⟩ = some (.int .u64 t202) ∧ w'.cell? ⟨G208,1,none⟩ = some (.int .u64 t203) ∧ w'.cell? ⟨G208,2,none⟩ = some (.bool t204) ∧ w'.cell? ⟨G208,3,none⟩ = some (.int .i64 t205)) (ds:=[]) #[false,false,false,false,false,false,false,false,false,false,false,false,false] (by kernel_rfl) rfl rfl ⟨(bC K201.1 0).trans rfl,(bC K201.1 1).trans rfl,(bC K201.1 2).trans rfl,(bC K201.1 3).trans rfl,(bC K208.1 0).trans rfl,(bC K208.1 1).trans rfl,(bC K208.1 2).trans rfl,(bC K208.1 3).trans rfl⟩ (fun hHeld => ?_);refine with_tabW beaconlaw12_SessionPlays.tab17 beaconlaw12_SessionPlays.bits17 (fun HT_ HW_ => ?_)
          generalize w113.drew = w114 at K174 K177 K180 K201 K208 HB hHeld ⊢
          refine pure_ (i:=2) (N:=some 102) (v:=?_) (a':=?_) #[false,false,true,false,false,false,false,false,false,false,false,false,false] rfl rfl (any_of HT_.out (by kernel_rfl)) (fun _ _ _ h => h) (Or.inl ⟨by rfl,?_⟩) ?_ ?_
          rotate_left
          ·intro w'
           go_simp
           with_reducible rfl
          rotate_left
          ·simp only [Act.put,List.setIfInBounds_toArray,List.set_cons_zero,List.set_cons_succ,i64_w,i32_w]
           rfl
          refine pure_ (i:=3) (N:=some 103) (v:=?_) (a':=?_) #[false,false,true,true,false,false,false,false,false,false,false,false,false] rfl rfl (any_of HT_.out (by kernel_rfl)) (fun _ _ _ h => h) (Or.inl ⟨by rfl,?_⟩) ?_ ?_
          rotate_left
          ·intro w'
           go_simp
           with_reducible rfl
          rotate_left
          ·simp only [Act.put,List.setIfInBounds_toArray,List.set_cons_zero,List.set_cons_succ,i64_w,i32_w]
           rfl
          refine pure_ (i:=4) (N:=some 104) (v:=?_) (a':=?_) #[false,false,true,true,true,false,false,false,false,false,false,false,false] rfl rfl (any_of HT_.out (by kernel_rfl)) (fun _ _ _ h => h) (Or.inl ⟨by rfl,?_⟩) ?_ ?_
          rotate_left
          ·intro w'
           go_simp
           with_reducible rfl
          rotate_left
          ·simp only [Act.put,List.setIfInBounds_toArray,List.set_cons_zero,List.set_cons_succ,i64_w,i32_w]
           rfl
          refine pure_ (i:=5) (N:=some 105) (v:=?_) (a':=?_) #[false,false,true,true,true,true,false,false,false,false,false,false,false] rfl rfl (any_of HT_.out (by kernel_rfl)) (fun _ _ _ h => h) (Or.inl ⟨by rfl,?_⟩) ?_ ?_
          rotate_left
          ·intro w'
           go_simp
           with_reducible rfl
          rotate_left
          ·simp only [Act.put,List.setIfInBounds_toArray,List.set_cons_zero,List.set_cons_succ,i64_w,i32_w]
           rfl
          refine pure_ (i:=6) (N:=some 106) (v:=?_) (a':=?_) #[false,false,true,true,true,true,true,false,false,false,false,false,false] rfl rfl (any_of HT_.out (by kernel_rfl)) (fun _ _ _ h => h) (Or.inl ⟨by rfl,?_⟩) ?_ ?_
          rotate_left
          ·intro w'
           go_simp
           with_reducible rfl
          rotate_left
          ·simp only [Act.put,List.setIfInBounds_toArray,List.set_cons_zero,List.set_cons_succ,i64_w,i32_w]
           rfl
          refine pure_ (i:=7) (N:=some 107) (v:=?_) (a':=?_) #[false,false,true,true,true,true,true,true,false,false,false,false,false] rfl rfl (any_of HT_.out (by kernel_rfl)) (fun _ _ _ h => h) (Or.inl ⟨by rfl,?_⟩) ?_ ?_
          rotate_left
          ·intro w'
           go_simp
           with_reducible rfl
          rotate_left
          ·simp only [Act.put,List.setIfInBounds_toArray,List.set_cons_zero,List.set_cons_succ,i64_w,i32_w]
           rfl
          refine pure_ (i:=8) (N:=some 108) (v:=?_) (a':=?_) #[false,false,true,true,true,true,true,true,true,false,false,false,false] rfl rfl (any_of HT_.out (by kernel_rfl)) (fun _ _ _ h => h) (Or.inl ⟨by rfl,?_⟩) ?_ ?_
          rotate_left
          ·intro w'
           go_simp
           with_reducible rfl
          rotate_left
          ·simp only [Act.put,List.setIfInBounds_toArray,List.set_cons_zero,List.set_cons_succ,i64_w,i32_w]
           rfl
          refine pure_ (i:=9) (N:=some 109) (v:=?_) (a':=?_) #[false,false,true,true,true,true,true,true,true,true,false,false,false] rfl rfl (any_of HT_.out (by kernel_rfl)) (fun _ _ _ h => h) (Or.inl ⟨by rfl,?_⟩) ?_ ?_
          rotate_left
          ·intro w'
           go_simp
           with_reducible rfl
          rotate_left
          ·simp only [Act.put,List.setIfInBounds_toArray,List.set_cons_zero,List.set_cons_succ,i64_w,i32_w]
           rfl
          refine take_ (i:=0) (N:=some 100) (v:=?_) (a':=?_) #[true,false,true,true,true,true,true,true,true,true,false,false,false] rfl rfl (take_ofW HT_.out HW_.out (by kernel_rfl)) (fun _ _ _ h => h) (Or.inl ⟨by rfl,?_⟩) hHeld ?_ ?_
          rotate_left
          ·rintro w' ⟨s0,s1,s2,s3,s4,s5,s6,s7⟩
           go_simp
           with_reducible rfl
          rotate_left
          ·simp only [Act.put,List.setIfInBounds_toArray,List.set_cons_zero,List.set_cons_succ,i64_w,i32_w]
           rfl
          refine take_ (i:=1) (N:=some 101) (v:=?_) (a':=?_) #[true,true,true,true,true,true,true,true,true,true,false,false,false] rfl rfl (take_ofW HT_.out HW_.out (by kernel_rfl)) (fun _ _ _ h => h) (Or.inl ⟨by rfl,?_⟩) hHeld ?_ ?_
          rotate_left
          ·rintro w' ⟨s0,s1,s2,s3,s4,s5,s6,s7⟩
           go_simp
           with_reducible rfl
          rotate_left
          ·simp only [Act.put,List.setIfInBounds_toArray,List.set_cons_zero,List.set_cons_succ,i64_w,i32_w]
           rfl
          refine one_ (i:=10) (N:=none) #[true,true,true,true,true,true,true,true,true,true,true,false,false] rfl rfl (one_of HT_.out (by kernel_rfl)) (by decide) (fun K hK => ?_)
          have hs115 : w114.cell? ⟨G174,0,none⟩ = some (.int .u64 x175000_1):=(bC K174.1 0).trans rfl
          have hfs115:=bF K174.1 0
          have hns115_1:=NB177_174.1
          have hns115_2:=NB180_174.1
          have hns115_3:=NB201_174.1
          have hns115_4:=NB208_174.1
          have hms115_1:=NB174_177.1
          have hms115_2:=NB174_180.1
          have hms115_3:=NB174_201.1
          have hms115_4:=NB174_208.1
          have hs116 : w114.cell? ⟨G174,1,none⟩ = some (.int .u64 x175001_1):=(bC K174.1 1).trans rfl
          have hfs116:=bF K174.1 1
          have hns116_1:=NB177_174.1
          have hns116_2:=NB180_174.1
          have hns116_3:=NB201_174.1
          have hns116_4:=NB208_174.1
          have hms116_1:=NB174_177.1
          have hms116_2:=NB174_180.1
          have hms116_3:=NB174_201.1
          have hms116_4:=NB174_208.1
          have hs117 : w114.cell? ⟨G174,2,none⟩ = some (.bool x175002_1):=(bC K174.1 2).trans rfl
          have hfs117:=bF K174.1 2
          have hns117_1:=NB177_174.1
          have hns117_2:=NB180_174.1
          have hns117_3:=NB201_174.1
          have hns117_4:=NB208_174.1
          have hms117_1:=NB174_177.1
          have hms117_2:=NB174_180.1
          have hms117_3:=NB174_201.1
          have hms117_4:=NB174_208.1
          have hs118 : w114.cell? ⟨G174,3,none⟩ = some (.int .i64 x175003_1):=(bC K174.1 3).trans rfl
          have hfs118:=bF K174.1 3
          have hns118_1:=NB177_174.1
          have hns118_2:=NB180_174.1
          have hns118_3:=NB201_174.1
          have hns118_4:=NB208_174.1
          have hms118_1:=NB174_177.1
          have hms118_2:=NB174_180.1
          have hms118_3:=NB174_201.1
          have hms118_4:=NB174_208.1
          refine skip_ (w1:=?_) (by rfl) rfl ?_ ?_
          rotate_left
          ·go_simp
           rfl
          refine hK.out _ _ ⟨((cF (p:=⟨G174,_,none⟩) NB201_174.1 _).trans (((cF (p:=⟨G174,_,none⟩) NB201_174.1 _).trans (((cF (p:=⟨G174,_,none⟩) NB201_174.1 _).trans (((cF (p:=⟨G174,_,none⟩) NB201_174.1 _).trans (hHeld.1)))))))),((cF (p:=⟨G174,_,none⟩) NB201_174.1 _).trans (((cF (p:=⟨G174,_,none⟩) NB201_174.1 _).trans (((cF (p:=⟨G174,_,none⟩) NB201_174.1 _).trans (((cF (p:=⟨G174,_,none⟩) NB201_174.1 _).trans (hHeld.2.1)))))))),((cF (p:=⟨G174,_,none⟩) NB201_174.1 _).trans (((cF (p:=⟨G174,_,none⟩) NB201_174.1 _).trans (((cF (p:=⟨G174,_,none⟩) NB201_174.1 _).trans (((cF (p:=⟨G174,_,none⟩) NB201_174.1 _).trans (hHeld.2.2.1)))))))),((cF (p:=⟨G174,_,none⟩) NB201_174.1 _).trans (((cF (p:=⟨G174,_,none⟩) NB201_174.1 _).trans (((cF (p:=⟨G174,_,none⟩) NB201_174.1 _).trans (((cF (p:=⟨G174,_,none⟩) NB201_174.1 _).trans (hHeld.2.2.2.1)))))))),((cF (p:=⟨G174,_,none⟩) NB208_174.1 _).trans (((cF (p:=⟨G174,_,none⟩) NB208_174.1 _).trans (((cF (p:=⟨G174,_,none⟩) NB208_174.1 _).trans (((cF (p:=⟨G174,_,none⟩) NB208_174.1 _).trans (hHeld.2.2.2.2.1)))))))),((cF (p:=⟨G174,_,none⟩) NB208_174.1 _).trans (((cF (p:=⟨G174,_,none⟩) NB208_174.1 _).trans (((cF (p:=⟨G174,_,none⟩) NB208_174.1 _).trans (((cF (p:=⟨G174,_,none⟩) NB208_174.1 _).trans (hHeld.2.2.2.2.2.1)))))))),((cF (p:=⟨G174,_,none⟩) NB208_174.1 _).trans (((cF (p:=⟨G174,_,none⟩) NB208_174.1 _).trans (((cF (p:=⟨G174,_,none⟩) NB208_174.1 _).trans (((cF (p:=⟨G174,_,none⟩) NB208_174.1 _).trans (hHeld.2.2.2.2.2.2.1)))))))),((cF (p:=⟨G174,_,none⟩) NB208_174.1 _).trans (((cF (p:=⟨G174,_,none⟩) NB208_174.1 _).trans (((cF (p:=⟨G174,_,none⟩) NB208_174.1 _).trans (((cF (p:=⟨G174,_,none⟩) NB208_174.1 _).trans (hHeld.2.2.2.2.2.2.2))))))))⟩ (fun hHeld => ?_)
          clear hK K
          refine one_ (i:=11) (N:=none) #[true,true,true,true,true,true,true,true,true,true,true,true,false] rfl rfl (one_of HT_.out (by kernel_rfl)) (by decide) (fun K hK => ?_)
          have hs119 : w114.cell? ⟨G177,0,none⟩ = some (.int .u64 x178000_1):=(bC K177.1 0).trans rfl
          have hfs119:=bF K177.1 0
          have hns119_0:=NB174_177.1
          have hns119_2:=NB180_177.1
          have hns119_3:=NB201_177.1
          have hns119_4:=NB208_177.1
          have hms119_0:=NB177_174.1
          have hms119_2:=NB177_180.1
          have hms119_3:=NB177_201.1
          have hms119_4:=NB177_208.1
          have hs120 : w114.cell? ⟨G177,1,none⟩ = some (.int .u64 x178001_1):=(bC K177.1 1).trans rfl
          have hfs120:=bF K177.1 1
          have hns120_0:=NB174_177.1
          have hns120_2:=NB180_177.1
          have hns120_3:=NB201_177.1
          have hns120_4:=NB208_177.1
          have hms120_0:=NB177_174.1
          have hms120_2:=NB177_180.1
          have hms120_3:=NB177_201.1
          have hms120_4:=NB177_208.1
          have hs121 : w114.cell? ⟨G177,2,none⟩ = some (.bool x178002_1):=(bC K177.1 2).trans rfl
          have hfs121:=bF K177.1 2
          have hns121_0:=NB174_177.1
          have hns121_2:=NB180_177.1
          have hns121_3:=NB201_177.1
          have hns121_4:=NB208_177.1
          have hms121_0:=NB177_174.1
          have hms121_2:=NB177_180.1
          have hms121_3:=NB177_201.1
          have hms121_4:=NB177_208.1
          have hs122 : w114.cell? ⟨G177,3,none⟩ = some (.int .i64 x178003_1):=(bC K177.1 3).trans rfl
          have hfs122:=bF K177.1 3
          have hns122_0:=NB174_177.1
          have hns122_2:=NB180_177.1
          have hns122_3:=NB201_177.1
          have hns122_4:=NB208_177.1
          have hms122_0:=NB177_174.1
          have hms122_2:=NB177_180.1
          have hms122_3:=NB177_201.1
          have hms122_4:=NB177_208.1
          refine skip_ (w1:=?_) (by rfl) rfl ?_ ?_
          rotate_left
          ·go_simp
           rfl
          refine hK.out _ _ ⟨((cF (p:=⟨G177,_,none⟩) NB201_177.1 _).trans (((cF (p:=⟨G177,_,none⟩) NB201_177.1 _).trans (((cF (p:=⟨G177,_,none⟩) NB201_177.1 _).trans (((cF (p:=⟨G177,_,none⟩) NB201_177.1 _).trans (hHeld.1)))))))),((cF (p:=⟨G177,_,none⟩) NB201_177.1 _).trans (((cF (p:=⟨G177,_,none⟩) NB201_177.1 _).trans (((cF (p:=⟨G177,_,none⟩) NB201_177.1 _).trans (((cF (p:=⟨G177,_,none⟩) NB201_177.1 _).trans (hHeld.2.1)))))))),((cF (p:=⟨G177,_,none⟩) NB201_177.1 _).trans (((cF (p:=⟨G177,_,none⟩) NB201_177.1 _).trans (((cF (p:=⟨G177,_,none⟩) NB201_177.1 _).trans (((cF (p:=⟨G177,_,none⟩) NB201_177.1 _).trans (hHeld.2.2.1)))))))),((cF (p:=⟨G177,_,none⟩) NB201_177.1 _).trans (((cF (p:=⟨G177,_,none⟩) NB201_177.1 _).trans (((cF (p:=⟨G177,_,none⟩) NB201_177.1 _).trans (((cF (p:=⟨G177,_,none⟩) NB201_177.1 _).trans (hHeld.2.2.2.1)))))))),((cF (p:=⟨G177,_,none⟩) NB208_177.1 _).trans (((cF (p:=⟨G177,_,none⟩) NB208_177.1 _).trans (((cF (p:=⟨G177,_,none⟩) NB208_177.1 _).trans (((cF (p:=⟨G177,_,none⟩) NB208_177.1 _).trans (hHeld.2.2.2.2.1)))))))),((cF (p:=⟨G177,_,none⟩) NB208_177.1 _).trans (((cF (p:=⟨G177,_,none⟩) NB208_177.1 _).trans (((cF (p:=⟨G177,_,none⟩) NB208_177.1 _).trans (((cF (p:=⟨G177,_,none⟩) NB208_177.1 _).trans (hHeld.2.2.2.2.2.1)))))))),((cF (p:=⟨G177,_,none⟩) NB208_177.1 _).trans (((cF (p:=⟨G177,_,none⟩) NB208_177.1 _).trans (((cF (p:=⟨G177,_,none⟩) NB208_177.1 _).trans (((cF (p:=⟨G177,_,none⟩) NB208_177.1 _).trans (hHeld.2.2.2.2.2.2.1)))))))),((cF (p:=⟨G177,_,none⟩) NB208_177.1 _).trans (((cF (p:=⟨G177,_,none⟩) NB208_177.1 _).trans (((cF (p:=⟨G177,_,none⟩) NB208_177.1 _).trans (((cF (p:=⟨G177,_,none⟩) NB208_177.1 _).trans (hHeld.2.2.2.2.2.2.2))))))))⟩ (fun hHeld => ?_)
          clear hK K
          refine pure_ (i:=12) (N:=some 8) (v:=?_) (a':=?_) #[true,true,true,true,true,true,true,true,true,true,true,true,true] rfl rfl (any_of HT_.out (by kernel_rfl)) (fun _ _ _ h => h) (Or.inl ⟨by rfl,?_⟩) ?_ ?_
          rotate_left
          ·intro w'
           go_simp
           with_reducible rfl
          rotate_left
          ·simp only [Act.put,List.setIfInBounds_toArray,List.set_cons_zero,List.set_cons_succ,i64_w,i32_w]
           rfl
          refine done_ (done_of HT_.out (by kernel_rfl)) ?_
          try go_wp2
          go_meet
          case rel => exact ⟨_,((t200 == t207)),(t195),(t196),(t197),(t198),(t202),(t203),(t204),(t205),(by first|rfl|(simp;done)|(simp [*];done)),H',⟨by have:=HK1.out;first|omega|exact Nat.le_refl _⟩,⟨by (with_reducible repeat first|apply bN|apply bD|apply bA);refine bZ ?_ NB174_177.1 _;(with_reducible repeat first|apply bN|apply bD|apply bA);refine bZ ?_ NB174_177.1 _;(with_reducible repeat first|apply bN|apply bD|apply bA);refine bZ ?_ NB174_177.1 _;(with_reducible repeat first|apply bN|apply bD|apply bA);refine bZ ?_ NB174_177.1 _;(with_reducible repeat first|apply bN|apply bD|apply bA);refine blk_put (cs:=#[.int .u64 t195,.int .u64 t196,.bool t197,.int .i64 x175003_1]) ?_ 3 _ rfl;(with_reducible repeat first|apply bN|apply bD|apply bA);refine blk_put (cs:=#[.int .u64 t195,.int .u64 t196,.bool x175002_1,.int .i64 x175003_1]) ?_ 2 _ rfl;(with_reducible repeat first|apply bN|apply bD|apply bA);refine blk_put (cs:=#[.int .u64 t195,.int .u64 x175001_1,.bool x175002_1,.int .i64 x175003_1]) ?_ 1 _ rfl;(with_reducible repeat first|apply bN|apply bD|apply bA);refine blk_put (cs:=#[.int .u64 x175000_1,.int .u64 x175001_1,.bool x175002_1,.int .i64 x175003_1]) ?_ 0 _ rfl;(with_reducible repeat first|apply bN|apply bD|apply bA);exact K174.1⟩,⟨by (with_reducible repeat first|apply bN|apply bD|apply bA);refine blk_put (cs:=#[.int .u64 t202,.int .u64 t203,.bool t204,.int .i64 x178003_1]) ?_ 3 _ rfl;(with_reducible repeat first|apply bN|apply bD|apply bA);refine blk_put (cs:=#[.int .u64 t202,.int .u64 t203,.bool x178002_1,.int .i64 x178003_1]) ?_ 2 _ rfl;(with_reducible repeat first|apply bN|apply bD|apply bA);refine blk_put (cs:=#[.int .u64 t202,.int .u64 x178001_1,.bool x178002_1,.int .i64 x178003_1]) ?_ 1 _ rfl;(with_reducible repeat first|apply bN|apply bD|apply bA);refine blk_put (cs:=#[.int .u64 x178000_1,.int .u64 x178001_1,.bool x178002_1,.int .i64 x178003_1]) ?_ 0 _ rfl;(with_reducible repeat first|apply bN|apply bD|apply bA);refine bZ ?_ NB177_174.1 _;(with_reducible repeat first|apply bN|apply bD|apply bA);refine bZ ?_ NB177_174.1 _;(with_reducible repeat first|apply bN|apply bD|apply bA);refine bZ ?_ NB177_174.1 _;(with_reducible repeat first|apply bN|apply bD|apply bA);refine bZ ?_ NB177_174.1 _;(with_reducible repeat first|apply bN|apply bD|apply bA);exact K177.1⟩,⟨by (with_reducible repeat first|apply bN|apply bD|apply bA);refine bZ ?_ NB180_177.1 _;(with_reducible repeat first|apply bN|apply bD|apply bA);refine bZ ?_ NB180_177.1 _;(with_reducible repeat first|apply bN|apply bD|apply bA);refine bZ ?_ NB180_177.1 _;(with_reducible repeat first|apply bN|apply bD|apply bA);refine bZ ?_ NB180_177.1 _;(with_reducible repeat first|apply bN|apply bD|apply bA);refine bZ ?_ NB180_174.1 _;(with_reducible repeat first|apply bN|apply bD|apply bA);refine bZ ?_ NB180_174.1 _;(with_reducible repeat first|apply bN|apply bD|apply bA);refine bZ ?_ NB180_174.1 _;(with_reducible repeat first|apply bN|apply bD|apply bA);refine bZ ?_ NB180_174.1 _;(with_reducible repeat first|apply bN|apply bD|apply bA);exact K180.1⟩,⟨by repeat (first|(with_reducible first|exact HB.1|apply bwA|apply bwN|apply bw1|refine bS ?_ GE174.1|refine bS ?_ GE177.1|refine bS ?_ GE180.1|refine bS ?_ GE201.1|refine bS ?_ GE208.1)|exact HB.1)⟩⟩
         ·rw [if_neg c91] at H
          have c91b0 : (t199 == t206) = false:=by simpa using c91
          (try (have c91b1 : decide (t199 = t206) = false:=by simpa using c91))
          (try (have c91b2 : (t199 == t206) = false:=by simpa using c91))
          (try (have c91b3 : ¬ (t199 = t206):=by simpa using c91))
          clear c91
          have H':=Aside0.mk H
          clear H
          have hnb123:=NB174_177.1
          have hnc123:=NB177_174.1
          have hnb124:=NB174_180.1
          have hnc124:=NB180_174.1
          have hcz125_0 : w20.cell? ⟨G174,0,none⟩ = some (.int .u64 x175000_1):=(bC K174.1 0).trans rfl
          have hcz125_1 : w20.cell? ⟨G174,1,none⟩ = some (.int .u64 x175001_1):=(bC K174.1 1).trans rfl
          have hcz125_2 : w20.cell? ⟨G174,2,none⟩ = some (.bool x175002_1):=(bC K174.1 2).trans rfl
          have hcz125_3 : w20.cell? ⟨G174,3,none⟩ = some (.int .i64 x175003_1):=(bC K174.1 3).trans rfl
          have hfz125_0:=bF K174.1 0
          have hfz125_1:=bF K174.1 1
          have hfz125_2:=bF K174.1 2
          have hfz125_3:=bF K174.1 3
          have hnb126:=NB180_177.1
          have hnc126:=NB177_180.1
          have hcz127_0 : w20.cell? ⟨G180,0,none⟩ = some (.int .i64 ((rd_T45 l1 x6_1).f0)):=(bC K180.1 0).trans rfl
          have hcz127_1 : w20.cell? ⟨G180,1,none⟩ = some (.int .u64 ((rd_T45 l1 x6_1).f1)):=(bC K180.1 1).trans rfl
          have hcz127_2 : w20.cell? ⟨G180,2,none⟩ = some (.int .u64 ((rd_T45 l1 x6_1).f2)):=(bC K180.1 2).trans rfl
          have hcz127_3 : w20.cell? ⟨G180,3,none⟩ = some (.int .i64 ((rd_T45 l1 x6_1).f3)):=(bC K180.1 3).trans rfl
          have hfz127_0:=bF K180.1 0
          have hfz127_1:=bF K180.1 1
          have hfz127_2:=bF K180.1 2
          have hfz127_3:=bF K180.1 3
          try go_wp2_with (first|((with_reducible refine gate_callee (f:=15) rfl ?_);refine goesL_ (some 86) rfl rfl Try.func15 (by kernel_rfl) rfl #[.agg #[.int .u64 x175000_1,.int .u64 x175001_1,.bool x175002_1,.int .i64 x175003_1],.int .u64 ((rd_T45 l1 x6_1).f1),.int .u64 ((rd_T45 l1 x6_1).f2)] rfl (by (try simp only [List.map_toArray,List.map_cons,List.map_nil]);first|done|rfl|(simp only [List.length_drop,List.length_take];rfl)) ?_;(with_reducible refine (session_Accept.calls x175000_1 x175001_1 x175002_1 x175003_1 ((rd_T45 l1 x6_1).f1) ((rd_T45 l1 x6_1).f2) t195 t196 t197 t198 t199 t200 _ A89.out).mono ?_);rintro e w128 ⟨rfl,hb⟩;refine ⟨_,rfl,?_⟩;have n0_:=Aside0.mk (bB (g:=G174) (o:=.cells #[.int .u64 x175000_1,.int .u64 x175001_1,.bool x175002_1,.int .i64 x175003_1] 26 (0,0)) (by (with_reducible repeat first|apply bN|apply bD|apply bA);exact K174.1) hb);have n1_:=Aside0.mk (bB (g:=G177) (o:=.cells #[.int .u64 x178000_1,.int .u64 x178001_1,.bool x178002_1,.int .i64 x178003_1] 26 (0,0)) (by (with_reducible repeat first|apply bN|apply bD|apply bA);exact K177.1) hb);have n2_:=Aside0.mk (bB (g:=G180) (o:=.cells #[.int .i64 ((rd_T45 l1 x6_1).f0),.int .u64 ((rd_T45 l1 x6_1).f1),.int .u64 ((rd_T45 l1 x6_1).f2),.int .i64 ((rd_T45 l1 x6_1).f3)] 45 (0,0)) (by (with_reducible repeat first|apply bN|apply bD|apply bA);exact K180.1) hb);have n3_:=Aside0.mk (below_step (by repeat (first|(with_reducible first|exact HB.1|apply bwA|apply bwN|apply bw1|refine bS ?_ GE174.1|refine bS ?_ GE177.1|refine bS ?_ GE180.1)|exact HB.1)) hb);clear K174;clear K177;clear K180;clear HB;have K174:=n0_;have K177:=n1_;have K180:=n2_;have HB:=n3_;clear n0_ n1_ n2_ n3_;(try clear hb);(try clear hb2);(try clear hk);(try clear hi))|((with_reducible refine gate_dst (N:=15) rfl ?_);refine box_event ?hg (N:=15) ?hd (cs:=#[.int .u64 0,.int .u64 0,.bool false,.int .i64 0]) (t:=26) ?hr ?_;(case hd => rfl);(case hg => rfl);(case hr => first|(go_simp;done)|(go_simp;rfl));intro G201 hg w129 hbox hb;have n0_:=Aside0.mk (bB (g:=G174) (o:=.cells #[.int .u64 x175000_1,.int .u64 x175001_1,.bool x175002_1,.int .i64 x175003_1] 26 (0,0)) (by (with_reducible repeat first|apply bN|apply bD|apply bA);exact K174.1) hb);have n1_:=Aside0.mk (bB (g:=G177) (o:=.cells #[.int .u64 x178000_1,.int .u64 x178001_1,.bool x178002_1,.int .i64 x178003_1] 26 (0,0)) (by (with_reducible repeat first|apply bN|apply bD|apply bA);exact K177.1) hb);have n2_:=Aside0.mk (bB (g:=G180) (o:=.cells #[.int .i64 ((rd_T45 l1 x6_1).f0),.int .u64 ((rd_T45 l1 x6_1).f1),.int .u64 ((rd_T45 l1 x6_1).f2),.int .i64 ((rd_T45 l1 x6_1).f3)] 45 (0,0)) (by (with_reducible repeat first|apply bN|apply bD|apply bA);exact K180.1) hb);have n3_:=Aside0.mk (below_step (by repeat (first|(with_reducible first|exact HB.1|apply bwA|apply bwN|apply bw1|refine bS ?_ GE174.1|refine bS ?_ GE177.1|refine bS ?_ GE180.1)|exact HB.1)) hb);have n4_:=Aside0.mk (hbox);have n5_:=Aside0.mk ((by rw [hg];exact (below_size (by repeat (first|(with_reducible first|exact HB.1|apply bwA|apply bwN|apply bw1|refine bS ?_ GE174.1|refine bS ?_ GE177.1|refine bS ?_ GE180.1)|exact HB.1))) : w.heap.size ≤ G201));have n6_:=Aside0.mk ((by rw [hg];exact (below_size (by repeat (first|(with_reducible first|exact HB.1|apply bwA|apply bwN|apply bw1|refine bS ?_ GE174.1|refine bS ?_ GE177.1|refine bS ?_ GE180.1)|exact HB.1))) : w.heap.size ≤ G201));have n7_:=Aside0.mk ((by rw [hg];exact Nat.ne_of_lt (blk_lt (g:=G174) (o:=.cells #[.int .u64 x175000_1,.int .u64 x175001_1,.bool x175002_1,.int .i64 x175003_1] 26 (0,0)) (by (with_reducible repeat first|apply bN|apply bD|apply bA);exact K174.1)) : G174 ≠ G201));have n8_:=Aside0.mk ((by rw [hg];exact Nat.ne_of_gt (blk_lt (g:=G174) (o:=.cells #[.int .u64 x175000_1,.int .u64 x175001_1,.bool x175002_1,.int .i64 x175003_1] 26 (0,0)) (by (with_reducible repeat first|apply bN|apply bD|apply bA);exact K174.1)) : G201 ≠ G174));have n9_:=Aside0.mk ((by rw [hg];exact Nat.ne_of_lt (blk_lt (g:=G177) (o:=.cells #[.int .u64 x178000_1,.int .u64 x178001_1,.bool x178002_1,.int .i64 x178003_1] 26 (0,0)) (by (with_reducible repeat first|apply bN|apply bD|apply bA);exact K177.1)) : G177 ≠ G201));have n10_:=Aside0.mk ((by rw [hg];exact Nat.ne_of_gt (blk_lt (g:=G177) (o:=.cells #[.int .u64 x178000_1,.int .u64 x178001_1,.bool x178002_1,.int .i64 x178003_1] 26 (0,0)) (by (with_reducible repeat first|apply bN|apply bD|apply bA);exact K177.1)) : G201 ≠ G177));have n11_:=Aside0.mk ((by rw [hg];exact Nat.ne_of_lt (blk_lt (g:=G180) (o:=.cells #[.int .i64 ((rd_T45 l1 x6_1).f0),.int .u64 ((rd_T45 l1 x6_1).f1),.int .u64 ((rd_T45 l1 x6_1).f2),.int .i64 ((rd_T45 l1 x6_1).f3)] 45 (0,0)) (by (with_reducible repeat first|apply bN|apply bD|apply bA);exact K180.1)) : G180 ≠ G201));have n12_:=Aside0.mk ((by rw [hg];exact Nat.ne_of_gt (blk_lt (g:=G180) (o:=.cells #[.int .i64 ((rd_T45 l1 x6_1).f0),.int .u64 ((rd_T45 l1 x6_1).f1),.int .u64 ((rd_T45 l1 x6_1).f2),.int .i64 ((rd_T45 l1 x6_1).f3)] 45 (0,0)) (by (with_reducible repeat first|apply bN|apply bD|apply bA);exact K180.1)) : G201 ≠ G180));clear K174;clear K177;clear K180;clear HB;have K174:=n0_;have K177:=n1_;have K180:=n2_;have HB:=n3_;have K201:=n4_;have GW201:=n5_;have GE201:=n6_;have NB174_201:=n7_;have NB201_174:=n8_;have NB177_201:=n9_;have NB201_177:=n10_;have NB180_201:=n11_;have NB201_180:=n12_;clear n0_ n1_ n2_ n3_ n4_ n5_ n6_ n7_ n8_ n9_ n10_ n11_ n12_;clear hb hbox hg;have hnb130:=NB201_174.1;have hnc130:=NB174_201.1;have hnb131:=NB201_177.1;have hnc131:=NB177_201.1;have hnb132:=NB201_180.1;have hnc132:=NB180_201.1;have hcz133_0 : w129.cell? ⟨G201,0,none⟩ = some (.int .u64 0):=(bC K201.1 0).trans rfl;have hcz133_1 : w129.cell? ⟨G201,1,none⟩ = some (.int .u64 0):=(bC K201.1 1).trans rfl;have hcz133_2 : w129.cell? ⟨G201,2,none⟩ = some (.bool false):=(bC K201.1 2).trans rfl;have hcz133_3 : w129.cell? ⟨G201,3,none⟩ = some (.int .i64 0):=(bC K201.1 3).trans rfl;have hfz133_0:=bF K201.1 0;have hfz133_1:=bF K201.1 1;have hfz133_2:=bF K201.1 2;have hfz133_3:=bF K201.1 3)|((with_reducible refine gate_store (t:=26) (p:=15) rfl ?_);refine store_event (t:=26) (p:=15) (v:=?vo_w134) (w1:=((((w129.setCell ⟨G201,0,none⟩ (.int .u64 t195)).setCell ⟨G201,1,none⟩ (.int .u64 t196)).setCell ⟨G201,2,none⟩ (.bool t197)).setCell ⟨G201,3,none⟩ (.int .i64 t198))) ?hg ?ho ?hn ?hr ?_;(case ho => rfl);(case hg => rfl);(case hn => rfl);(case hr => first|(go_simp;done)|(go_simp;rfl));intro w134 hw;have n0_ : Aside0 (w134.heap[G174]? = some (.cells #[.int .u64 x175000_1,.int .u64 x175001_1,.bool x175002_1,.int .i64 x175003_1] 26 (0,0))):=⟨(by rw [hw];exact (by (with_reducible repeat first|apply bN|apply bD|apply bA);refine bZ ?_ NB174_201.1 _;(with_reducible repeat first|apply bN|apply bD|apply bA);refine bZ ?_ NB174_201.1 _;(with_reducible repeat first|apply bN|apply bD|apply bA);refine bZ ?_ NB174_201.1 _;(with_reducible repeat first|apply bN|apply bD|apply bA);refine bZ ?_ NB174_201.1 _;(with_reducible repeat first|apply bN|apply bD|apply bA);exact K174.1))⟩;have n1_ : Aside0 (w134.heap[G177]? = some (.cells #[.int .u64 x178000_1,.int .u64 x178001_1,.bool x178002_1,.int .i64 x178003_1] 26 (0,0))):=⟨(by rw [hw];exact (by (with_reducible repeat first|apply bN|apply bD|apply bA);refine bZ ?_ NB177_201.1 _;(with_reducible repeat first|apply bN|apply bD|apply bA);refine bZ ?_ NB177_201.1 _;(with_reducible repeat first|apply bN|apply bD|apply bA);refine bZ ?_ NB177_201.1 _;(with_reducible repeat first|apply bN|apply bD|apply bA);refine bZ ?_ NB177_201.1 _;(with_reducible repeat first|apply bN|apply bD|apply bA);exact K177.1))⟩;have n2_ : Aside0 (w134.heap[G180]? = some (.cells #[.int .i64 ((rd_T45 l1 x6_1).f0),.int .u64 ((rd_T45 l1 x6_1).f1),.int .u64 ((rd_T45 l1 x6_1).f2),.int .i64 ((rd_T45 l1 x6_1).f3)] 45 (0,0))):=⟨(by rw [hw];exact (by (with_reducible repeat first|apply bN|apply bD|apply bA);refine bZ ?_ NB180_201.1 _;(with_reducible repeat first|apply bN|apply bD|apply bA);refine bZ ?_ NB180_201.1 _;(with_reducible repeat first|apply bN|apply bD|apply bA);refine bZ ?_ NB180_201.1 _;(with_reducible repeat first|apply bN|apply bD|apply bA);refine bZ ?_ NB180_201.1 _;(with_reducible repeat first|apply bN|apply bD|apply bA);exact K180.1))⟩;have n3_ : Aside0 (w134.heap[G201]? = some (.cells #[.int .u64 t195,.int .u64 t196,.bool t197,.int .i64 t198] 26 (0,0))):=⟨(by rw [hw];exact (by (with_reducible repeat first|apply bN|apply bD|apply bA);refine blk_put (cs:=#[.int .u64 t195,.int .u64 t196,.bool t197,.int .i64 0]) ?_ 3 _ rfl;(with_reducible repeat first|apply bN|apply bD|apply bA);refine blk_put (cs:=#[.int .u64 t195,.int .u64 t196,.bool false,.int .i64 0]) ?_ 2 _ rfl;(with_reducible repeat first|apply bN|apply bD|apply bA);refine blk_put (cs:=#[.int .u64 t195,.int .u64 0,.bool false,.int .i64 0]) ?_ 1 _ rfl;(with_reducible repeat first|apply bN|apply bD|apply bA);refine blk_put (cs:=#[.int .u64 0,.int .u64 0,.bool false,.int .i64 0]) ?_ 0 _ rfl;(with_reducible repeat first|apply bN|apply bD|apply bA);exact K201.1))⟩;have n4_ : Aside0 (Below w.heap.size w w134):=⟨(by rw [hw];exact (by repeat (first|(with_reducible first|exact HB.1|apply bwA|apply bwN|apply bw1|refine bS ?_ GE174.1|refine bS ?_ GE177.1|refine bS ?_ GE180.1|refine bS ?_ GE201.1)|exact HB.1)))⟩;clear hw;clear K174;clear K177;clear K180;clear K201;clear HB;have K174:=n0_;have K177:=n1_;have K180:=n2_;have K201:=n3_;have HB:=n4_;clear n0_ n1_ n2_ n3_ n4_;have hcz135_0 : w134.cell? ⟨G177,0,none⟩ = some (.int .u64 x178000_1):=(bC K177.1 0).trans rfl;have hcz135_1 : w134.cell? ⟨G177,1,none⟩ = some (.int .u64 x178001_1):=(bC K177.1 1).trans rfl;have hcz135_2 : w134.cell? ⟨G177,2,none⟩ = some (.bool x178002_1):=(bC K177.1 2).trans rfl;have hcz135_3 : w134.cell? ⟨G177,3,none⟩ = some (.int .i64 x178003_1):=(bC K177.1 3).trans rfl;have hfz135_0:=bF K177.1 0;have hfz135_1:=bF K177.1 1;have hfz135_2:=bF K177.1 2;have hfz135_3:=bF K177.1 3;have hcz136_0 : w134.cell? ⟨G180,0,none⟩ = some (.int .i64 ((rd_T45 l1 x6_1).f0)):=(bC K180.1 0).trans rfl;have hcz136_1 : w134.cell? ⟨G180,1,none⟩ = some (.int .u64 ((rd_T45 l1 x6_1).f1)):=(bC K180.1 1).trans rfl;have hcz136_2 : w134.cell? ⟨G180,2,none⟩ = some (.int .u64 ((rd_T45 l1 x6_1).f2)):=(bC K180.1 2).trans rfl;have hcz136_3 : w134.cell? ⟨G180,3,none⟩ = some (.int .i64 ((rd_T45 l1 x6_1).f3)):=(bC K180.1 3).trans rfl;have hfz136_0:=bF K180.1 0;have hfz136_1:=bF K180.1 1;have hfz136_2:=bF K180.1 2;have hfz136_3:=bF K180.1 3)|((with_reducible refine gate_callee (f:=16) rfl ?_);refine goesL_ (some 96) rfl rfl Try.func16 (by kernel_rfl) rfl #[.agg #[.int .u64 x178000_1,.int .u64 x178001_1,.bool x178002_1,.int .i64 x178003_1],.int .u64 ((rd_T45 l1 x6_1).f1),.int .u64 ((rd_T45 l1 x6_1).f2)] rfl (by (try simp only [List.map_toArray,List.map_cons,List.map_nil]);first|done|rfl|(simp only [List.length_drop,List.length_take];rfl)) ?_;(with_reducible refine (beaconref12_Accept.calls x178000_1 x178001_1 x178002_1 x178003_1 ((rd_T45 l1 x6_1).f1) ((rd_T45 l1 x6_1).f2) t202 t203 t204 t205 t206 t207 _ A90.out).mono ?_);rintro e w137 ⟨rfl,hb⟩;refine ⟨_,rfl,?_⟩;have n0_:=Aside0.mk (bB (g:=G174) (o:=.cells #[.int .u64 x175000_1,.int .u64 x175001_1,.bool x175002_1,.int .i64 x175003_1] 26 (0,0)) (by (with_reducible repeat first|apply bN|apply bD|apply bA);exact K174.1) hb);have n1_:=Aside0.mk (bB (g:=G177) (o:=.cells #[.int .u64 x178000_1,.int .u64 x178001_1,.bool x178002_1,.int .i64 x178003_1] 26 (0,0)) (by (with_reducible repeat first|apply bN|apply bD|apply bA);exact K177.1) hb);have n2_:=Aside0.mk (bB (g:=G180) (o:=.cells #[.int .i64 ((rd_T45 l1 x6_1).f0),.int .u64 ((rd_T45 l1 x6_1).f1),.int .u64 ((rd_T45 l1 x6_1).f2),.int .i64 ((rd_T45 l1 x6_1).f3)] 45 (0,0)) (by (with_reducible repeat first|apply bN|apply bD|apply bA);exact K180.1) hb);have n3_:=Aside0.mk (bB (g:=G201) (o:=.cells #[.int .u64 t195,.int .u64 t196,.bool t197,.int .i64 t198] 26 (0,0)) (by (with_reducible repeat first|apply bN|apply bD|apply bA);exact K201.1) hb);have n4_:=Aside0.mk (below_step (by repeat (first|(with_reducible first|exact HB.1|apply bwA|apply bwN|apply bw1|refine bS ?_ GE174.1|refine bS ?_ GE177.1|refine bS ?_ GE180.1|refine bS ?_ GE201.1)|exact HB.1)) hb);clear K174;clear K177;clear K180;clear K201;clear HB;have K174:=n0_;have K177:=n1_;have K180:=n2_;have K201:=n3_;have HB:=n4_;clear n0_ n1_ n2_ n3_ n4_;(try clear hb);(try clear hb2);(try clear hk);(try clear hi))|((with_reducible refine gate_dst (N:=18) rfl ?_);refine box_event ?hg (N:=18) ?hd (cs:=#[.int .u64 0,.int .u64 0,.bool false,.int .i64 0]) (t:=26) ?hr ?_;(case hd => rfl);(case hg => rfl);(case hr => first|(go_simp;done)|(go_simp;rfl));intro G208 hg w138 hbox hb;have n0_:=Aside0.mk (bB (g:=G174) (o:=.cells #[.int .u64 x175000_1,.int .u64 x175001_1,.bool x175002_1,.int .i64 x175003_1] 26 (0,0)) (by (with_reducible repeat first|apply bN|apply bD|apply bA);exact K174.1) hb);have n1_:=Aside0.mk (bB (g:=G177) (o:=.cells #[.int .u64 x178000_1,.int .u64 x178001_1,.bool x178002_1,.int .i64 x178003_1] 26 (0,0)) (by (with_reducible repeat first|apply bN|apply bD|apply bA);exact K177.1) hb);have n2_:=Aside0.mk (bB (g:=G180) (o:=.cells #[.int .i64 ((rd_T45 l1 x6_1).f0),.int .u64 ((rd_T45 l1 x6_1).f1),.int .u64 ((rd_T45 l1 x6_1).f2),.int .i64 ((rd_T45 l1 x6_1).f3)] 45 (0,0)) (by (with_reducible repeat first|apply bN|apply bD|apply bA);exact K180.1) hb);have n3_:=Aside0.mk (bB (g:=G201) (o:=.cells #[.int .u64 t195,.int .u64 t196,.bool t197,.int .i64 t198] 26 (0,0)) (by (with_reducible repeat first|apply bN|apply bD|apply bA);exact K201.1) hb);have n4_:=Aside0.mk (below_step (by repeat (first|(with_reducible first|exact HB.1|apply bwA|apply bwN|apply bw1|refine bS ?_ GE174.1|refine bS ?_ GE177.1|refine bS ?_ GE180.1|refine bS ?_ GE201.1)|exact HB.1)) hb);have n5_:=Aside0.mk (hbox);have n6_:=Aside0.mk ((by rw [hg];exact (below_size (by repeat (first|(with_reducible first|exact HB.1|apply bwA|apply bwN|apply bw1|refine bS ?_ GE174.1|refine bS ?_ GE177.1|refine bS ?_ GE180.1|refine bS ?_ GE201.1)|exact HB.1))) : w.heap.size ≤ G208));have n7_:=Aside0.mk ((by rw [hg];exact (below_size (by repeat (first|(with_reducible first|exact HB.1|apply bwA|apply bwN|apply bw1|refine bS ?_ GE174.1|refine bS ?_ GE177.1|refine bS ?_ GE180.1|refine bS ?_ GE201.1)|exact HB.1))) : w.heap.size ≤ G208));have n8_:=Aside0.mk ((by rw [hg];exact Nat.ne_of_lt (blk_lt (g:=G174) (o:=.cells #[.int .u64 x175000_1,.int .u64 x175001_1,.bool x175002_1,.int .i64 x175003_1] 26 (0,0)) (by (with_reducible repeat first|apply bN|apply bD|apply bA);exact K174.1)) : G174 ≠ G208));have n9_:=Aside0.mk ((by rw [hg];exact Nat.ne_of_gt (blk_lt (g:=G174) (o:=.cells #[.int .u64 x175000_1,.int .u64 x175001_1,.bool x175002_1,.int .i64 x175003_1] 26 (0,0)) (by (with_reducible repeat first|apply bN|apply bD|apply bA);exact K174.1)) : G208 ≠ G174));have n10_:=Aside0.mk ((by rw [hg];exact Nat.ne_of_lt (blk_lt (g:=G177) (o:=.cells #[.int .u64 x178000_1,.int .u64 x178001_1,.bool x178002_1,.int .i64 x178003_1] 26 (0,0)) (by (with_reducible repeat first|apply bN|apply bD|apply bA);exact K177.1)) : G177 ≠ G208));have n11_:=Aside0.mk ((by rw [hg];exact Nat.ne_of_gt (blk_lt (g:=G177) (o:=.cells #[.int .u64 x178000_1,.int .u64 x178001_1,.bool x178002_1,.int .i64 x178003_1] 26 (0,0)) (by (with_reducible repeat first|apply bN|apply bD|apply bA);exact K177.1)) : G208 ≠ G177));have n12_:=Aside0.mk ((by rw [hg];exact Nat.ne_of_lt (blk_lt (g:=G180) (o:=.cells #[.int .i64 ((rd_T45 l1 x6_1).f0),.int .u64 ((rd_T45 l1 x6_1).f1),.int .u64 ((rd_T45 l1 x6_1).f2),.int .i64 ((rd_T45 l1 x6_1).f3)] 45 (0,0)) (by (with_reducible repeat first|apply bN|apply bD|apply bA);exact K180.1)) : G180 ≠ G208));have n13_:=Aside0.mk ((by rw [hg];exact Nat.ne_of_gt (blk_lt (g:=G180) (o:=.cells #[.int .i64 ((rd_T45 l1 x6_1).f0),.int .u64 ((rd_T45 l1 x6_1).f1),.int .u64 ((rd_T45 l1 x6_1).f2),.int .i64 ((rd_T45 l1 x6_1).f3)] 45 (0,0)) (by (with_reducible repeat first|apply bN|apply bD|apply bA);exact K180.1)) : G208 ≠ G180));have n14_:=Aside0.mk ((by rw [hg];exact Nat.ne_of_lt (blk_lt (g:=G201) (o:=.cells #[.int .u64 t195,.int .u64 t196,.bool t197,.int .i64 t198] 26 (0,0)) (by (with_reducible repeat first|apply bN|apply bD|apply bA);exact K201.1)) : G201 ≠ G208));have n15_:=Aside0.mk ((by rw [hg];exact Nat.ne_of_gt (blk_lt (g:=G201) (o:=.cells #[.int .u64 t195,.int .u64 t196,.bool t197,.int .i64 t198] 26 (0,0)) (by (with_reducible repeat first|apply bN|apply bD|apply bA);exact K201.1)) : G208 ≠ G201));clear K174;clear K177;clear K180;clear K201;clear HB;have K174:=n0_;have K177:=n1_;have K180:=n2_;have K201:=n3_;have HB:=n4_;have K208:=n5_;have GW208:=n6_;have GE208:=n7_;have NB174_208:=n8_;have NB208_174:=n9_;have NB177_208:=n10_;have NB208_177:=n11_;have NB180_208:=n12_;have NB208_180:=n13_;have NB201_208:=n14_;have NB208_201:=n15_;clear n0_ n1_ n2_ n3_ n4_ n5_ n6_ n7_ n8_ n9_ n10_ n11_ n12_ n13_ n14_ n15_;clear hb hbox hg;have hnb139:=NB208_174.1;have hnc139:=NB174_208.1;have hnb140:=NB208_177.1;have hnc140:=NB177_208.1;have hnb141:=NB208_180.1;have hnc141:=NB180_208.1;have hnb142:=NB208_201.1;have hnc142:=NB201_208.1;have hcz143_0 : w138.cell? ⟨G208,0,none⟩ = some (.int .u64 0):=(bC K208.1 0).trans rfl;have hcz143_1 : w138.cell? ⟨G208,1,none⟩ = some (.int .u64 0):=(bC K208.1 1).trans rfl;have hcz143_2 : w138.cell? ⟨G208,2,none⟩ = some (.bool false):=(bC K208.1 2).trans rfl;have hcz143_3 : w138.cell? ⟨G208,3,none⟩ = some (.int .i64 0):=(bC K208.1 3).trans rfl;have hfz143_0:=bF K208.1 0;have hfz143_1:=bF K208.1 1;have hfz143_2:=bF K208.1 2;have hfz143_3:=bF K208.1 3)|((with_reducible refine gate_store (t:=26) (p:=18) rfl ?_);refine store_event (t:=26) (p:=18) (v:=?vo_w144) (w1:=((((w138.setCell ⟨G208,0,none⟩ (.int .u64 t202)).setCell ⟨G208,1,none⟩ (.int .u64 t203)).setCell ⟨G208,2,none⟩ (.bool t204)).setCell ⟨G208,3,none⟩ (.int .i64 t205))) ?hg ?ho ?hn ?hr ?_;(case ho => rfl);(case hg => rfl);(case hn => rfl);(case hr => first|(go_simp;done)|(go_simp;rfl));intro w144 hw;have n0_ : Aside0 (w144.heap[G174]? = some (.cells #[.int .u64 x175000_1,.int .u64 x175001_1,.bool x175002_1,.int .i64 x175003_1] 26 (0,0))):=⟨(by rw [hw];exact (by (with_reducible repeat first|apply bN|apply bD|apply bA);refine bZ ?_ NB174_208.1 _;(with_reducible repeat first|apply bN|apply bD|apply bA);refine bZ ?_ NB174_208.1 _;(with_reducible repeat first|apply bN|apply bD|apply bA);refine bZ ?_ NB174_208.1 _;(with_reducible repeat first|apply bN|apply bD|apply bA);refine bZ ?_ NB174_208.1 _;(with_reducible repeat first|apply bN|apply bD|apply bA);exact K174.1))⟩;have n1_ : Aside0 (w144.heap[G177]? = some (.cells #[.int .u64 x178000_1,.int .u64 x178001_1,.bool x178002_1,.int .i64 x178003_1] 26 (0,0))):=⟨(by rw [hw];exact (by (with_reducible repeat first|apply bN|apply bD|apply bA);refine bZ ?_ NB177_208.1 _;(with_reducible repeat first|apply bN|apply bD|apply bA);refine bZ ?_ NB177_208.1 _;(with_reducible repeat first|apply bN|apply bD|apply bA);refine bZ ?_ NB177_208.1 _;(with_reducible repeat first|apply bN|apply bD|apply bA);refine bZ ?_ NB177_208.1 _;(with_reducible repeat first|apply bN|apply bD|apply bA);exact K177.1))⟩;have n2_ : Aside0 (w144.heap[G180]? = some (.cells #[.int .i64 ((rd_T45 l1 x6_1).f0),.int .u64 ((rd_T45 l1 x6_1).f1),.int .u64 ((rd_T45 l1 x6_1).f2),.int .i64 ((rd_T45 l1 x6_1).f3)] 45 (0,0))):=⟨(by rw [hw];exact (by (with_reducible repeat first|apply bN|apply bD|apply bA);refine bZ ?_ NB180_208.1 _;(with_reducible repeat first|apply bN|apply bD|apply bA);refine bZ ?_ NB180_208.1 _;(with_reducible repeat first|apply bN|apply bD|apply bA);refine bZ ?_ NB180_208.1 _;(with_reducible repeat first|apply bN|apply bD|apply bA);refine bZ ?_ NB180_208.1 _;(with_reducible repeat first|apply bN|apply bD|apply bA);exact K180.1))⟩;have n3_ : Aside0 (w144.heap[G201]? = some (.cells #[.int .u64 t195,.int .u64 t196,.bool t197,.int .i64 t198] 26 (0,0))):=⟨(by rw [hw];exact (by (with_reducible repeat first|apply bN|apply bD|apply bA);refine bZ ?_ NB201_208.1 _;(with_reducible repeat first|apply bN|apply bD|apply bA);refine bZ ?_ NB201_208.1 _;(with_reducible repeat first|apply bN|apply bD|apply bA);refine bZ ?_ NB201_208.1 _;(with_reducible repeat first|apply bN|apply bD|apply bA);refine bZ ?_ NB201_208.1 _;(with_reducible repeat first|apply bN|apply bD|apply bA);exact K201.1))⟩;have n4_ : Aside0 (w144.heap[G208]? = some (.cells #[.int .u64 t202,.int .u64 t203,.bool t204,.int .i64 t205] 26 (0,0))):=⟨(by rw [hw];exact (by (with_reducible repeat first|apply bN|apply bD|apply bA);refine blk_put (cs:=#[.int .u64 t202,.int .u64 t203,.bool t204,.int .i64 0]) ?_ 3 _ rfl;(with_reducible repeat first|apply bN|apply bD|apply bA);refine blk_put (cs:=#[.int .u64 t202,.int .u64 t203,.bool false,.int .i64 0]) ?_ 2 _ rfl;(with_reducible repeat first|apply bN|apply bD|apply bA);refine blk_put (cs:=#[.int .u64 t202,.int .u64 0,.bool false,.int .i64 0]) ?_ 1 _ rfl;(with_reducible repeat first|apply bN|apply bD|apply bA);refine blk_put (cs:=#[.int .u64 0,.int .u64 0,.bool false,.int .i64 0]) ?_ 0 _ rfl;(with_reducible repeat first|apply bN|apply bD|apply bA);exact K208.1))⟩;have n5_ : Aside0 (Below w.heap.size w w144):=⟨(by rw [hw];exact (by repeat (first|(with_reducible first|exact HB.1|apply bwA|apply bwN|apply bw1|refine bS ?_ GE174.1|refine bS ?_ GE177.1|refine bS ?_ GE180.1|refine bS ?_ GE201.1|refine bS ?_ GE208.1)|exact HB.1)))⟩;clear hw;clear K174;clear K177;clear K180;clear K201;clear K208;clear HB;have K174:=n0_;have K177:=n1_;have K180:=n2_;have K201:=n3_;have K208:=n4_;have HB:=n5_;clear n0_ n1_ n2_ n3_ n4_ n5_))
          have n0_:=Aside0.mk (bD K174.1)
          have n1_:=Aside0.mk (bD K177.1)
          have n2_:=Aside0.mk (bD K180.1)
          have n3_:=Aside0.mk (bD K201.1)
          have n4_:=Aside0.mk (bD K208.1)
          have n5_:=Aside0.mk (bw1 HB.1)
          clear K174
          clear K177
          clear K180
          clear K201
          clear K208
          clear HB
          have K174:=n0_
          have K177:=n1_
          have K180:=n2_
          have K201:=n3_
          have K208:=n4_
          have HB:=n5_
          clear n0_ n1_ n2_ n3_ n4_ n5_
          refine start_ (n:=13) (S:=fun w' => w'.cell? ⟨G201,0,none⟩ = some (.int .u64 t195) ∧ w'.cell? ⟨G201,1,none⟩ = some (.int .u64 t196) ∧ w'.cell? ⟨G201,2,none⟩ = some (.bool t197) ∧ w'.cell? ⟨G201,3,none⟩ = some (.int .i64 t198) ∧ w'.cell? ⟨G208,0,none⟩ = some (.int .u64 t202) ∧ w'.cell? ⟨G208,1,none⟩ = some (.int .u64 t203) ∧ w'.cell? ⟨G208,2,none⟩ = some (.bool t204) ∧ w'.cell? ⟨G208,3,none⟩ = some (.int .i64 t205)) (ds:=[]) #[false,false,false,false,false,false,false,false,false,false,false,false,false] (by kernel_rfl) rfl rfl ⟨(bC K201.1 0).trans rfl,(bC K201.1 1).trans rfl,(bC K201.1 2).trans rfl,(bC K201.1 3).trans rfl,(bC K208.1 0).trans rfl,(bC K208.1 1).trans rfl,(bC K208.1 2).trans rfl,(bC K208.1 3).trans rfl⟩ (fun hHeld => ?_);refine with_tabW beaconlaw12_SessionPlays.tab17 beaconlaw12_SessionPlays.bits17 (fun HT_ HW_ => ?_)
          generalize w144.drew = w145 at K174 K177 K180 K201 K208 HB hHeld ⊢
          refine pure_ (i:=2) (N:=some 102) (v:=?_) (a':=?_) #[false,false,true,false,false,false,false,false,false,false,false,false,false] rfl rfl (any_of HT_.out (by kernel_rfl)) (fun _ _ _ h => h) (Or.inl ⟨by rfl,?_⟩) ?_ ?_
          rotate_left
          ·intro w'
           go_simp
           with_reducible rfl
          rotate_left
          ·simp only [Act.put,List.setIfInBounds_toArray,List.set_cons_zero,List.set_cons_succ,i64_w,i32_w]
           rfl
          refine pure_ (i:=3) (N:=some 103) (v:=?_) (a':=?_) #[false,false,true,true,false,false,false,false,false,false,false,false,false] rfl rfl (any_of HT_.out (by kernel_rfl)) (fun _ _ _ h => h) (Or.inl ⟨by rfl,?_⟩) ?_ ?_
          rotate_left
          ·intro w'
           go_simp
           with_reducible rfl
          rotate_left
          ·simp only [Act.put,List.setIfInBounds_toArray,List.set_cons_zero,List.set_cons_succ,i64_w,i32_w]
           rfl
          refine pure_ (i:=4) (N:=some 104) (v:=?_) (a':=?_) #[false,false,true,true,true,false,false,false,false,false,false,false,false] rfl rfl (any_of HT_.out (by kernel_rfl)) (fun _ _ _ h => h) (Or.inl ⟨by rfl,?_⟩) ?_ ?_
          rotate_left
          ·intro w'
           go_simp
           with_reducible rfl
          rotate_left
          ·simp only [Act.put,List.setIfInBounds_toArray,List.set_cons_zero,List.set_cons_succ,i64_w,i32_w]
           rfl
          refine pure_ (i:=5) (N:=some 105) (v:=?_) (a':=?_) #[false,false,true,true,true,true,false,false,false,false,false,false,false] rfl rfl (any_of HT_.out (by kernel_rfl)) (fun _ _ _ h => h) (Or.inl ⟨by rfl,?_⟩) ?_ ?_
          rotate_left
          ·intro w'
           go_simp
           with_reducible rfl
          rotate_left
          ·simp only [Act.put,List.setIfInBounds_toArray,List.set_cons_zero,List.set_cons_succ,i64_w,i32_w]
           rfl
          refine pure_ (i:=6) (N:=some 106) (v:=undef) (a':=?_) #[false,false,true,true,true,true,true,false,false,false,false,false,false] rfl rfl (any_of HT_.out (by kernel_rfl)) (fun _ _ _ h => h) (Or.inr ⟨by rfl,rfl⟩) ?_ ?_
          rotate_left
          ·simp only [Act.put,List.setIfInBounds_toArray,List.set_cons_zero,List.set_cons_succ,i64_w,i32_w]
           rfl
          refine pure_ (i:=7) (N:=some 107) (v:=undef) (a':=?_) #[false,false,true,true,true,true,true,true,false,false,false,false,false] rfl rfl (any_of HT_.out (by kernel_rfl)) (fun _ _ _ h => h) (Or.inr ⟨by rfl,rfl⟩) ?_ ?_
          rotate_left
          ·simp only [Act.put,List.setIfInBounds_toArray,List.set_cons_zero,List.set_cons_succ,i64_w,i32_w]
           rfl
          refine pure_ (i:=8) (N:=some 108) (v:=undef) (a':=?_) #[false,false,true,true,true,true,true,true,true,false,false,false,false] rfl rfl (any_of HT_.out (by kernel_rfl)) (fun _ _ _ h => h) (Or.inr ⟨by rfl,rfl⟩) ?_ ?_
          rotate_left
          ·simp only [Act.put,List.setIfInBounds_toArray,List.set_cons_zero,List.set_cons_succ,i64_w,i32_w]
           rfl
          refine pure_ (i:=9) (N:=some 109) (v:=?_) (a':=?_) #[false,false,true,true,true,true,true,true,true,true,false,false,false] rfl rfl (any_of HT_.out (by kernel_rfl)) (fun _ _ _ h => h) (Or.inl ⟨by rfl,?_⟩) ?_ ?_
          rotate_left
          ·intro w'
           go_simp
           with_reducible rfl
          rotate_left
          ·simp only [Act.put,List.setIfInBounds_toArray,List.set_cons_zero,List.set_cons_succ,i64_w,i32_w]
           rfl
          refine take_ (i:=0) (N:=some 100) (v:=?_) (a':=?_) #[true,false,true,true,true,true,true,true,true,true,false,false,false] rfl rfl (take_ofW HT_.out HW_.out (by kernel_rfl)) (fun _ _ _ h => h) (Or.inl ⟨by rfl,?_⟩) hHeld ?_ ?_
          rotate_left
          ·rintro w' ⟨s0,s1,s2,s3,s4,s5,s6,s7⟩
           go_simp
           with_reducible rfl
          rotate_left
          ·simp only [Act.put,List.setIfInBounds_toArray,List.set_cons_zero,List.set_cons_succ,i64_w,i32_w]
           rfl
          refine take_ (i:=1) (N:=some 101) (v:=?_) (a':=?_) #[true,true,true,true,true,true,true,true,true,true,false,false,false] rfl rfl (take_ofW HT_.out HW_.out (by kernel_rfl)) (fun _ _ _ h => h) (Or.inl ⟨by rfl,?_⟩) hHeld ?_ ?_
          rotate_left
          ·rintro w' ⟨s0,s1,s2,s3,s4,s5,s6,s7⟩
           go_simp
           with_reducible rfl
          rotate_left
          ·simp only [Act.put,List.setIfInBounds_toArray,List.set_cons_zero,List.set_cons_succ,i64_w,i32_w]
           rfl
          refine one_ (i:=10) (N:=none) #[true,true,true,true,true,true,true,true,true,true,true,false,false] rfl rfl (one_of HT_.out (by kernel_rfl)) (by decide) (fun K hK => ?_)
          have hs146 : w145.cell? ⟨G174,0,none⟩ = some (.int .u64 x175000_1):=(bC K174.1 0).trans rfl
          have hfs146:=bF K174.1 0
          have hns146_1:=NB177_174.1
          have hns146_2:=NB180_174.1
          have hns146_3:=NB201_174.1
          have hns146_4:=NB208_174.1
          have hms146_1:=NB174_177.1
          have hms146_2:=NB174_180.1
          have hms146_3:=NB174_201.1
          have hms146_4:=NB174_208.1
          have hs147 : w145.cell? ⟨G174,1,none⟩ = some (.int .u64 x175001_1):=(bC K174.1 1).trans rfl
          have hfs147:=bF K174.1 1
          have hns147_1:=NB177_174.1
          have hns147_2:=NB180_174.1
          have hns147_3:=NB201_174.1
          have hns147_4:=NB208_174.1
          have hms147_1:=NB174_177.1
          have hms147_2:=NB174_180.1
          have hms147_3:=NB174_201.1
          have hms147_4:=NB174_208.1
          have hs148 : w145.cell? ⟨G174,2,none⟩ = some (.bool x175002_1):=(bC K174.1 2).trans rfl
          have hfs148:=bF K174.1 2
          have hns148_1:=NB177_174.1
          have hns148_2:=NB180_174.1
          have hns148_3:=NB201_174.1
          have hns148_4:=NB208_174.1
          have hms148_1:=NB174_177.1
          have hms148_2:=NB174_180.1
          have hms148_3:=NB174_201.1
          have hms148_4:=NB174_208.1
          have hs149 : w145.cell? ⟨G174,3,none⟩ = some (.int .i64 x175003_1):=(bC K174.1 3).trans rfl
          have hfs149:=bF K174.1 3
          have hns149_1:=NB177_174.1
          have hns149_2:=NB180_174.1
          have hns149_3:=NB201_174.1
          have hns149_4:=NB208_174.1
          have hms149_1:=NB174_177.1
          have hms149_2:=NB174_180.1
          have hms149_3:=NB174_201.1
          have hms149_4:=NB174_208.1
          refine skip_ (w1:=?_) (by rfl) rfl ?_ ?_
          rotate_left
          ·go_simp
           rfl
          refine hK.out _ _ ⟨((cF (p:=⟨G174,_,none⟩) NB201_174.1 _).trans (((cF (p:=⟨G174,_,none⟩) NB201_174.1 _).trans (((cF (p:=⟨G174,_,none⟩) NB201_174.1 _).trans (((cF (p:=⟨G174,_,none⟩) NB201_174.1 _).trans (hHeld.1)))))))),((cF (p:=⟨G174,_,none⟩) NB201_174.1 _).trans (((cF (p:=⟨G174,_,none⟩) NB201_174.1 _).trans (((cF (p:=⟨G174,_,none⟩) NB201_174.1 _).trans (((cF (p:=⟨G174,_,none⟩) NB201_174.1 _).trans (hHeld.2.1)))))))),((cF (p:=⟨G174,_,none⟩) NB201_174.1 _).trans (((cF (p:=⟨G174,_,none⟩) NB201_174.1 _).trans (((cF (p:=⟨G174,_,none⟩) NB201_174.1 _).trans (((cF (p:=⟨G174,_,none⟩) NB201_174.1 _).trans (hHeld.2.2.1)))))))),((cF (p:=⟨G174,_,none⟩) NB201_174.1 _).trans (((cF (p:=⟨G174,_,none⟩) NB201_174.1 _).trans (((cF (p:=⟨G174,_,none⟩) NB201_174.1 _).trans (((cF (p:=⟨G174,_,none⟩) NB201_174.1 _).trans (hHeld.2.2.2.1)))))))),((cF (p:=⟨G174,_,none⟩) NB208_174.1 _).trans (((cF (p:=⟨G174,_,none⟩) NB208_174.1 _).trans (((cF (p:=⟨G174,_,none⟩) NB208_174.1 _).trans (((cF (p:=⟨G174,_,none⟩) NB208_174.1 _).trans (hHeld.2.2.2.2.1)))))))),((cF (p:=⟨G174,_,none⟩) NB208_174.1 _).trans (((cF (p:=⟨G174,_,none⟩) NB208_174.1 _).trans (((cF (p:=⟨G174,_,none⟩) NB208_174.1 _).trans (((cF (p:=⟨G174,_,none⟩) NB208_174.1 _).trans (hHeld.2.2.2.2.2.1)))))))),((cF (p:=⟨G174,_,none⟩) NB208_174.1 _).trans (((cF (p:=⟨G174,_,none⟩) NB208_174.1 _).trans (((cF (p:=⟨G174,_,none⟩) NB208_174.1 _).trans (((cF (p:=⟨G174,_,none⟩) NB208_174.1 _).trans (hHeld.2.2.2.2.2.2.1)))))))),((cF (p:=⟨G174,_,none⟩) NB208_174.1 _).trans (((cF (p:=⟨G174,_,none⟩) NB208_174.1 _).trans (((cF (p:=⟨G174,_,none⟩) NB208_174.1 _).trans (((cF (p:=⟨G174,_,none⟩) NB208_174.1 _).trans (hHeld.2.2.2.2.2.2.2))))))))⟩ (fun hHeld => ?_)
          clear hK K
          refine one_ (i:=11) (N:=none) #[true,true,true,true,true,true,true,true,true,true,true,true,false] rfl rfl (one_of HT_.out (by kernel_rfl)) (by decide) (fun K hK => ?_)
          have hs150 : w145.cell? ⟨G177,0,none⟩ = some (.int .u64 x178000_1):=(bC K177.1 0).trans rfl
          have hfs150:=bF K177.1 0
          have hns150_0:=NB174_177.1
          have hns150_2:=NB180_177.1
          have hns150_3:=NB201_177.1
          have hns150_4:=NB208_177.1
          have hms150_0:=NB177_174.1
          have hms150_2:=NB177_180.1
          have hms150_3:=NB177_201.1
          have hms150_4:=NB177_208.1
          have hs151 : w145.cell? ⟨G177,1,none⟩ = some (.int .u64 x178001_1):=(bC K177.1 1).trans rfl
          have hfs151:=bF K177.1 1
          have hns151_0:=NB174_177.1
          have hns151_2:=NB180_177.1
          have hns151_3:=NB201_177.1
          have hns151_4:=NB208_177.1
          have hms151_0:=NB177_174.1
          have hms151_2:=NB177_180.1
          have hms151_3:=NB177_201.1
          have hms151_4:=NB177_208.1
          have hs152 : w145.cell? ⟨G177,2,none⟩ = some (.bool x178002_1):=(bC K177.1 2).trans rfl
          have hfs152:=bF K177.1 2
          have hns152_0:=NB174_177.1
          have hns152_2:=NB180_177.1
          have hns152_3:=NB201_177.1
          have hns152_4:=NB208_177.1
          have hms152_0:=NB177_174.1
          have hms152_2:=NB177_180.1
          have hms152_3:=NB177_201.1
          have hms152_4:=NB177_208.1
          have hs153 : w145.cell? ⟨G177,3,none⟩ = some (.int .i64 x178003_1):=(bC K177.1 3).trans rfl
          have hfs153:=bF K177.1 3
          have hns153_0:=NB174_177.1
          have hns153_2:=NB180_177.1
          have hns153_3:=NB201_177.1
          have hns153_4:=NB208_177.1
          have hms153_0:=NB177_174.1
          have hms153_2:=NB177_180.1
          have hms153_3:=NB177_201.1
          have hms153_4:=NB177_208.1
          refine skip_ (w1:=?_) (by rfl) rfl ?_ ?_
          rotate_left
          ·go_simp
           rfl
          refine hK.out _ _ ⟨((cF (p:=⟨G177,_,none⟩) NB201_177.1 _).trans (((cF (p:=⟨G177,_,none⟩) NB201_177.1 _).trans (((cF (p:=⟨G177,_,none⟩) NB201_177.1 _).trans (((cF (p:=⟨G177,_,none⟩) NB201_177.1 _).trans (hHeld.1)))))))),((cF (p:=⟨G177,_,none⟩) NB201_177.1 _).trans (((cF (p:=⟨G177,_,none⟩) NB201_177.1 _).trans (((cF (p:=⟨G177,_,none⟩) NB201_177.1 _).trans (((cF (p:=⟨G177,_,none⟩) NB201_177.1 _).trans (hHeld.2.1)))))))),((cF (p:=⟨G177,_,none⟩) NB201_177.1 _).trans (((cF (p:=⟨G177,_,none⟩) NB201_177.1 _).trans (((cF (p:=⟨G177,_,none⟩) NB201_177.1 _).trans (((cF (p:=⟨G177,_,none⟩) NB201_177.1 _).trans (hHeld.2.2.1)))))))),((cF (p:=⟨G177,_,none⟩) NB201_177.1 _).trans (((cF (p:=⟨G177,_,none⟩) NB201_177.1 _).trans (((cF (p:=⟨G177,_,none⟩) NB201_177.1 _).trans (((cF (p:=⟨G177,_,none⟩) NB201_177.1 _).trans (hHeld.2.2.2.1)))))))),((cF (p:=⟨G177,_,none⟩) NB208_177.1 _).trans (((cF (p:=⟨G177,_,none⟩) NB208_177.1 _).trans (((cF (p:=⟨G177,_,none⟩) NB208_177.1 _).trans (((cF (p:=⟨G177,_,none⟩) NB208_177.1 _).trans (hHeld.2.2.2.2.1)))))))),((cF (p:=⟨G177,_,none⟩) NB208_177.1 _).trans (((cF (p:=⟨G177,_,none⟩) NB208_177.1 _).trans (((cF (p:=⟨G177,_,none⟩) NB208_177.1 _).trans (((cF (p:=⟨G177,_,none⟩) NB208_177.1 _).trans (hHeld.2.2.2.2.2.1)))))))),((cF (p:=⟨G177,_,none⟩) NB208_177.1 _).trans (((cF (p:=⟨G177,_,none⟩) NB208_177.1 _).trans (((cF (p:=⟨G177,_,none⟩) NB208_177.1 _).trans (((cF (p:=⟨G177,_,none⟩) NB208_177.1 _).trans (hHeld.2.2.2.2.2.2.1)))))))),((cF (p:=⟨G177,_,none⟩) NB208_177.1 _).trans (((cF (p:=⟨G177,_,none⟩) NB208_177.1 _).trans (((cF (p:=⟨G177,_,none⟩) NB208_177.1 _).trans (((cF (p:=⟨G177,_,none⟩) NB208_177.1 _).trans (hHeld.2.2.2.2.2.2.2))))))))⟩ (fun hHeld => ?_)
          clear hK K
          refine pure_ (i:=12) (N:=some 8) (v:=?_) (a':=?_) #[true,true,true,true,true,true,true,true,true,true,true,true,true] rfl rfl (any_of HT_.out (by kernel_rfl)) (fun _ _ _ h => h) (Or.inl ⟨by rfl,?_⟩) ?_ ?_
          rotate_left
          ·intro w'
           go_simp
           with_reducible rfl
          rotate_left
          ·simp only [Act.put,List.setIfInBounds_toArray,List.set_cons_zero,List.set_cons_succ,i64_w,i32_w]
           rfl
          refine done_ (done_of HT_.out (by kernel_rfl)) ?_
          try go_wp2
          go_meet
          case rel => exact ⟨_,(false),(t195),(t196),(t197),(t198),(t202),(t203),(t204),(t205),(by first|rfl|(simp;done)|(simp [*];done)),H',⟨by have:=HK1.out;first|omega|exact Nat.le_refl _⟩,⟨by (with_reducible repeat first|apply bN|apply bD|apply bA);refine bZ ?_ NB174_177.1 _;(with_reducible repeat first|apply bN|apply bD|apply bA);refine bZ ?_ NB174_177.1 _;(with_reducible repeat first|apply bN|apply bD|apply bA);refine bZ ?_ NB174_177.1 _;(with_reducible repeat first|apply bN|apply bD|apply bA);refine bZ ?_ NB174_177.1 _;(with_reducible repeat first|apply bN|apply bD|apply bA);refine blk_put (cs:=#[.int .u64 t195,.int .u64 t196,.bool t197,.int .i64 x175003_1]) ?_ 3 _ rfl;(with_reducible repeat first|apply bN|apply bD|apply bA);refine blk_put (cs:=#[.int .u64 t195,.int .u64 t196,.bool x175002_1,.int .i64 x175003_1]) ?_ 2 _ rfl;(with_reducible repeat first|apply bN|apply bD|apply bA);refine blk_put (cs:=#[.int .u64 t195,.int .u64 x175001_1,.bool x175002_1,.int .i64 x175003_1]) ?_ 1 _ rfl;(with_reducible repeat first|apply bN|apply bD|apply bA);refine blk_put (cs:=#[.int .u64 x175000_1,.int .u64 x175001_1,.bool x175002_1,.int .i64 x175003_1]) ?_ 0 _ rfl;(with_reducible repeat first|apply bN|apply bD|apply bA);exact K174.1⟩,⟨by (with_reducible repeat first|apply bN|apply bD|apply bA);refine blk_put (cs:=#[.int .u64 t202,.int .u64 t203,.bool t204,.int .i64 x178003_1]) ?_ 3 _ rfl;(with_reducible repeat first|apply bN|apply bD|apply bA);refine blk_put (cs:=#[.int .u64 t202,.int .u64 t203,.bool x178002_1,.int .i64 x178003_1]) ?_ 2 _ rfl;(with_reducible repeat first|apply bN|apply bD|apply bA);refine blk_put (cs:=#[.int .u64 t202,.int .u64 x178001_1,.bool x178002_1,.int .i64 x178003_1]) ?_ 1 _ rfl;(with_reducible repeat first|apply bN|apply bD|apply bA);refine blk_put (cs:=#[.int .u64 x178000_1,.int .u64 x178001_1,.bool x178002_1,.int .i64 x178003_1]) ?_ 0 _ rfl;(with_reducible repeat first|apply bN|apply bD|apply bA);refine bZ ?_ NB177_174.1 _;(with_reducible repeat first|apply bN|apply bD|apply bA);refine bZ ?_ NB177_174.1 _;(with_reducible repeat first|apply bN|apply bD|apply bA);refine bZ ?_ NB177_174.1 _;(with_reducible repeat first|apply bN|apply bD|apply bA);refine bZ ?_ NB177_174.1 _;(with_reducible repeat first|apply bN|apply bD|apply bA);exact K177.1⟩,⟨by (with_reducible repeat first|apply bN|apply bD|apply bA);refine bZ ?_ NB180_177.1 _;(with_reducible repeat first|apply bN|apply bD|apply bA);refine bZ ?_ NB180_177.1 _;(with_reducible repeat first|apply bN|apply bD|apply bA);refine bZ ?_ NB180_177.1 _;(with_reducible repeat first|apply bN|apply bD|apply bA);refine bZ ?_ NB180_177.1 _;(with_reducible repeat first|apply bN|apply bD|apply bA);refine bZ ?_ NB180_174.1 _;(with_reducible repeat first|apply bN|apply bD|apply bA);refine bZ ?_ NB180_174.1 _;(with_reducible repeat first|apply bN|apply bD|apply bA);refine bZ ?_ NB180_174.1 _;(with_reducible repeat first|apply bN|apply bD|apply bA);refine bZ ?_ NB180_174.1 _;(with_reducible repeat first|apply bN|apply bD|apply bA);exact K180.1⟩,⟨by repeat (first|(with_reducible first|exact HB.1|apply bwA|apply bwN|apply bw1|refine bS ?_ GE174.1|refine bS ?_ GE177.1|refine bS ?_ GE180.1|refine bS ?_ GE201.1|refine bS ?_ GE208.1)|exact HB.1)⟩⟩
        ·rw [if_neg c88] at H
         have c88b0 : (((rd_T45 l1 x6_1).f0) == 1) = false:=beq_eq_false_iff_ne.mpr c88
         have c88b1 : (((rd_T45 l1 x6_1).f0) != 1) = true:=bne_iff_ne.mpr c88
         by_cases c154 : ((rd_T45 l1 x6_1).f0) = 2
         ·rw [if_pos c154] at H
          have c154b0 : (((rd_T45 l1 x6_1).f0) == 2) = true:=beq_iff_eq.mpr c154
          have c154b1 : (((rd_T45 l1 x6_1).f0) != 2) = false:=bne_eq_false_iff_eq.mpr c154
          clear c154
          replace H:=Option.bind_eq_some_iff.mp H
          obtain ⟨⟨t209,t210,t211,t212,t213⟩,A1550,H⟩:=H
          replace H : ((beaconref12_Tick.f x178000_1 x178001_1 x178002_1 x178003_1 ((rd_T45 l1 x6_1).f3)).bind fun bt215 => (beaconlaw12_SessionPlays.j1 k1 l1 x6_1 (t213 == bt215.2.2.2.2) t209 t210 t211 t212 bt215.1 bt215.2.1 bt215.2.2.1 bt215.2.2.2.1)) = some r:=H
          have A155:=Aside0.mk A1550
          clear A1550
          replace H:=Option.bind_eq_some_iff.mp H
          obtain ⟨⟨t215,t216,t217,t218,t219⟩,A1560,H⟩:=H
          replace H : (beaconlaw12_SessionPlays.j1 k1 l1 x6_1 (t213 == t219) t209 t210 t211 t212 t215 t216 t217 t218) = some r:=H
          have A156:=Aside0.mk A1560
          clear A1560
          have H':=Aside0.mk H
          clear H
          have hnb157:=NB174_177.1
          have hnc157:=NB177_174.1
          have hnb158:=NB174_180.1
          have hnc158:=NB180_174.1
          have hcz159_0 : w20.cell? ⟨G174,0,none⟩ = some (.int .u64 x175000_1):=(bC K174.1 0).trans rfl
          have hcz159_1 : w20.cell? ⟨G174,1,none⟩ = some (.int .u64 x175001_1):=(bC K174.1 1).trans rfl
          have hcz159_2 : w20.cell? ⟨G174,2,none⟩ = some (.bool x175002_1):=(bC K174.1 2).trans rfl
          have hcz159_3 : w20.cell? ⟨G174,3,none⟩ = some (.int .i64 x175003_1):=(bC K174.1 3).trans rfl
          have hfz159_0:=bF K174.1 0
          have hfz159_1:=bF K174.1 1
          have hfz159_2:=bF K174.1 2
          have hfz159_3:=bF K174.1 3
          have hnb160:=NB180_177.1
          have hnc160:=NB177_180.1
          have hcz161_0 : w20.cell? ⟨G180,0,none⟩ = some (.int .i64 ((rd_T45 l1 x6_1).f0)):=(bC K180.1 0).trans rfl
          have hcz161_1 : w20.cell? ⟨G180,1,none⟩ = some (.int .u64 ((rd_T45 l1 x6_1).f1)):=(bC K180.1 1).trans rfl
          have hcz161_2 : w20.cell? ⟨G180,2,none⟩ = some (.int .u64 ((rd_T45 l1 x6_1).f2)):=(bC K180.1 2).trans rfl
          have hcz161_3 : w20.cell? ⟨G180,3,none⟩ = some (.int .i64 ((rd_T45 l1 x6_1).f3)):=(bC K180.1 3).trans rfl
          have hfz161_0:=bF K180.1 0
          have hfz161_1:=bF K180.1 1
          have hfz161_2:=bF K180.1 2
          have hfz161_3:=bF K180.1 3
          try go_wp2_with (first|((with_reducible refine gate_callee (f:=11) rfl ?_);refine goesL_ (some 116) rfl rfl Try.func11 (by kernel_rfl) rfl #[.agg #[.int .u64 x175000_1,.int .u64 x175001_1,.bool x175002_1,.int .i64 x175003_1],.int .i64 ((rd_T45 l1 x6_1).f3)] rfl (by (try simp only [List.map_toArray,List.map_cons,List.map_nil]);first|done|rfl|(simp only [List.length_drop,List.length_take];rfl)) ?_;(with_reducible refine (session_Tick.calls x175000_1 x175001_1 x175002_1 x175003_1 ((rd_T45 l1 x6_1).f3) t209 t210 t211 t212 t213 _ A155.out).mono ?_);rintro e w162 ⟨rfl,hb⟩;refine ⟨_,rfl,?_⟩;have n0_:=Aside0.mk (bB (g:=G174) (o:=.cells #[.int .u64 x175000_1,.int .u64 x175001_1,.bool x175002_1,.int .i64 x175003_1] 26 (0,0)) (by (with_reducible repeat first|apply bN|apply bD|apply bA);exact K174.1) hb);have n1_:=Aside0.mk (bB (g:=G177) (o:=.cells #[.int .u64 x178000_1,.int .u64 x178001_1,.bool x178002_1,.int .i64 x178003_1] 26 (0,0)) (by (with_reducible repeat first|apply bN|apply bD|apply bA);exact K177.1) hb);have n2_:=Aside0.mk (bB (g:=G180) (o:=.cells #[.int .i64 ((rd_T45 l1 x6_1).f0),.int .u64 ((rd_T45 l1 x6_1).f1),.int .u64 ((rd_T45 l1 x6_1).f2),.int .i64 ((rd_T45 l1 x6_1).f3)] 45 (0,0)) (by (with_reducible repeat first|apply bN|apply bD|apply bA);exact K180.1) hb);have n3_:=Aside0.mk (below_step (by repeat (first|(with_reducible first|exact HB.1|apply bwA|apply bwN|apply bw1|refine bS ?_ GE174.1|refine bS ?_ GE177.1|refine bS ?_ GE180.1)|exact HB.1)) hb);clear K174;clear K177;clear K180;clear HB;have K174:=n0_;have K177:=n1_;have K180:=n2_;have HB:=n3_;clear n0_ n1_ n2_ n3_;(try clear hb);(try clear hb2);(try clear hk);(try clear hi))|((with_reducible refine gate_dst (N:=21) rfl ?_);refine box_event ?hg (N:=21) ?hd (cs:=#[.int .u64 0,.int .u64 0,.bool false,.int .i64 0]) (t:=26) ?hr ?_;(case hd => rfl);(case hg => rfl);(case hr => first|(go_simp;done)|(go_simp;rfl));intro G214 hg w163 hbox hb;have n0_:=Aside0.mk (bB (g:=G174) (o:=.cells #[.int .u64 x175000_1,.int .u64 x175001_1,.bool x175002_1,.int .i64 x175003_1] 26 (0,0)) (by (with_reducible repeat first|apply bN|apply bD|apply bA);exact K174.1) hb);have n1_:=Aside0.mk (bB (g:=G177) (o:=.cells #[.int .u64 x178000_1,.int .u64 x178001_1,.bool x178002_1,.int .i64 x178003_1] 26 (0,0)) (by (with_reducible repeat first|apply bN|apply bD|apply bA);exact K177.1) hb);have n2_:=Aside0.mk (bB (g:=G180) (o:=.cells #[.int .i64 ((rd_T45 l1 x6_1).f0),.int .u64 ((rd_T45 l1 x6_1).f1),.int .u64 ((rd_T45 l1 x6_1).f2),.int .i64 ((rd_T45 l1 x6_1).f3)] 45 (0,0)) (by (with_reducible repeat first|apply bN|apply bD|apply bA);exact K180.1) hb);have n3_:=Aside0.mk (below_step (by repeat (first|(with_reducible first|exact HB.1|apply bwA|apply bwN|apply bw1|refine bS ?_ GE174.1|refine bS ?_ GE177.1|refine bS ?_ GE180.1)|exact HB.1)) hb);have n4_:=Aside0.mk (hbox);have n5_:=Aside0.mk ((by rw [hg];exact (below_size (by repeat (first|(with_reducible first|exact HB.1|apply bwA|apply bwN|apply bw1|refine bS ?_ GE174.1|refine bS ?_ GE177.1|refine bS ?_ GE180.1)|exact HB.1))) : w.heap.size ≤ G214));have n6_:=Aside0.mk ((by rw [hg];exact (below_size (by repeat (first|(with_reducible first|exact HB.1|apply bwA|apply bwN|apply bw1|refine bS ?_ GE174.1|refine bS ?_ GE177.1|refine bS ?_ GE180.1)|exact HB.1))) : w.heap.size ≤ G214));have n7_:=Aside0.mk ((by rw [hg];exact Nat.ne_of_lt (blk_lt (g:=G174) (o:=.cells #[.int .u64 x175000_1,.int .u64 x175001_1,.bool x175002_1,.int .i64 x175003_1] 26 (0,0)) (by (with_reducible repeat first|apply bN|apply bD|apply bA);exact K174.1)) : G174 ≠ G214));have n8_:=Aside0.mk ((by rw [hg];exact Nat.ne_of_gt (blk_lt (g:=G174) (o:=.cells #[.int .u64 x175000_1,.int .u64 x175001_1,.bool x175002_1,.int .i64 x175003_1] 26 (0,0)) (by (with_reducible repeat first|apply bN|apply bD|apply bA);exact K174.1)) : G214 ≠ G174));have n9_:=Aside0.mk ((by rw [hg];exact Nat.ne_of_lt (blk_lt (g:=G177) (o:=.cells #[.int .u64 x178000_1,.int .u64 x178001_1,.bool x178002_1,.int .i64 x178003_1] 26 (0,0)) (by (with_reducible repeat first|apply bN|apply bD|apply bA);exact K177.1)) : G177 ≠ G214));have n10_:=Aside0.mk ((by rw [hg];exact Nat.ne_of_gt (blk_lt (g:=G177) (o:=.cells #[.int .u64 x178000_1,.int .u64 x178001_1,.bool x178002_1,.int .i64 x178003_1] 26 (0,0)) (by (with_reducible repeat first|apply bN|apply bD|apply bA);exact K177.1)) : G214 ≠ G177));have n11_:=Aside0.mk ((by rw [hg];exact Nat.ne_of_lt (blk_lt (g:=G180) (o:=.cells #[.int .i64 ((rd_T45 l1 x6_1).f0),.int .u64 ((rd_T45 l1 x6_1).f1),.int .u64 ((rd_T45 l1 x6_1).f2),.int .i64 ((rd_T45 l1 x6_1).f3)] 45 (0,0)) (by (with_reducible repeat first|apply bN|apply bD|apply bA);exact K180.1)) : G180 ≠ G214));have n12_:=Aside0.mk ((by rw [hg];exact Nat.ne_of_gt (blk_lt (g:=G180) (o:=.cells #[.int .i64 ((rd_T45 l1 x6_1).f0),.int .u64 ((rd_T45 l1 x6_1).f1),.int .u64 ((rd_T45 l1 x6_1).f2),.int .i64 ((rd_T45 l1 x6_1).f3)] 45 (0,0)) (by (with_reducible repeat first|apply bN|apply bD|apply bA);exact K180.1)) : G214 ≠ G180));clear K174;clear K177;clear K180;clear HB;have K174:=n0_;have K177:=n1_;have K180:=n2_;have HB:=n3_;have K214:=n4_;have GW214:=n5_;have GE214:=n6_;have NB174_214:=n7_;have NB214_174:=n8_;have NB177_214:=n9_;have NB214_177:=n10_;have NB180_214:=n11_;have NB214_180:=n12_;clear n0_ n1_ n2_ n3_ n4_ n5_ n6_ n7_ n8_ n9_ n10_ n11_ n12_;clear hb hbox hg;have hnb164:=NB214_174.1;have hnc164:=NB174_214.1;have hnb165:=NB214_177.1;have hnc165:=NB177_214.1;have hnb166:=NB214_180.1;have hnc166:=NB180_214.1;have hcz167_0 : w163.cell? ⟨G214,0,none⟩ = some (.int .u64 0):=(bC K214.1 0).trans rfl;have hcz167_1 : w163.cell? ⟨G214,1,none⟩ = some (.int .u64 0):=(bC K214.1 1).trans rfl;have hcz167_2 : w163.cell? ⟨G214,2,none⟩ = some (.bool false):=(bC K214.1 2).trans rfl;have hcz167_3 : w163.cell? ⟨G214,3,none⟩ = some (.int .i64 0):=(bC K214.1 3).trans rfl;have hfz167_0:=bF K214.1 0;have hfz167_1:=bF K214.1 1;have hfz167_2:=bF K214.1 2;have hfz167_3:=bF K214.1 3)|((with_reducible refine gate_store (t:=26) (p:=21) rfl ?_);refine store_event (t:=26) (p:=21) (v:=?vo_w168) (w1:=((((w163.setCell ⟨G214,0,none⟩ (.int .u64 t209)).setCell ⟨G214,1,none⟩ (.int .u64 t210)).setCell ⟨G214,2,none⟩ (.bool t211)).setCell ⟨G214,3,none⟩ (.int .i64 t212))) ?hg ?ho ?hn ?hr ?_;(case ho => rfl);(case hg => rfl);(case hn => rfl);(case hr => first|(go_simp;done)|(go_simp;rfl));intro w168 hw;have n0_ : Aside0 (w168.heap[G174]? = some (.cells #[.int .u64 x175000_1,.int .u64 x175001_1,.bool x175002_1,.int .i64 x175003_1] 26 (0,0))):=⟨(by rw [hw];exact (by (with_reducible repeat first|apply bN|apply bD|apply bA);refine bZ ?_ NB174_214.1 _;(with_reducible repeat first|apply bN|apply bD|apply bA);refine bZ ?_ NB174_214.1 _;(with_reducible repeat first|apply bN|apply bD|apply bA);refine bZ ?_ NB174_214.1 _;(with_reducible repeat first|apply bN|apply bD|apply bA);refine bZ ?_ NB174_214.1 _;(with_reducible repeat first|apply bN|apply bD|apply bA);exact K174.1))⟩;have n1_ : Aside0 (w168.heap[G177]? = some (.cells #[.int .u64 x178000_1,.int .u64 x178001_1,.bool x178002_1,.int .i64 x178003_1] 26 (0,0))):=⟨(by rw [hw];exact (by (with_reducible repeat first|apply bN|apply bD|apply bA);refine bZ ?_ NB177_214.1 _;(with_reducible repeat first|apply bN|apply bD|apply bA);refine bZ ?_ NB177_214.1 _;(with_reducible repeat first|apply bN|apply bD|apply bA);refine bZ ?_ NB177_214.1 _;(with_reducible repeat first|apply bN|apply bD|apply bA);refine bZ ?_ NB177_214.1 _;(with_reducible repeat first|apply bN|apply bD|apply bA);exact K177.1))⟩;have n2_ : Aside0 (w168.heap[G180]? = some (.cells #[.int .i64 ((rd_T45 l1 x6_1).f0),.int .u64 ((rd_T45 l1 x6_1).f1),.int .u64 ((rd_T45 l1 x6_1).f2),.int .i64 ((rd_T45 l1 x6_1).f3)] 45 (0,0))):=⟨(by rw [hw];exact (by (with_reducible repeat first|apply bN|apply bD|apply bA);refine bZ ?_ NB180_214.1 _;(with_reducible repeat first|apply bN|apply bD|apply bA);refine bZ ?_ NB180_214.1 _;(with_reducible repeat first|apply bN|apply bD|apply bA);refine bZ ?_ NB180_214.1 _;(with_reducible repeat first|apply bN|apply bD|apply bA);refine bZ ?_ NB180_214.1 _;(with_reducible repeat first|apply bN|apply bD|apply bA);exact K180.1))⟩;have n3_ : Aside0 (w168.heap[G214]? = some (.cells #[.int .u64 t209,.int .u64 t210,.bool t211,.int .i64 t212] 26 (0,0))):=⟨(by rw [hw];exact (by (with_reducible repeat first|apply bN|apply bD|apply bA);refine blk_put (cs:=#[.int .u64 t209,.int .u64 t210,.bool t211,.int .i64 0]) ?_ 3 _ rfl;(with_reducible repeat first|apply bN|apply bD|apply bA);refine blk_put (cs:=#[.int .u64 t209,.int .u64 t210,.bool false,.int .i64 0]) ?_ 2 _ rfl;(with_reducible repeat first|apply bN|apply bD|apply bA);refine blk_put (cs:=#[.int .u64 t209,.int .u64 0,.bool false,.int .i64 0]) ?_ 1 _ rfl;(with_reducible repeat first|apply bN|apply bD|apply bA);refine blk_put (cs:=#[.int .u64 0,.int .u64 0,.bool false,.int .i64 0]) ?_ 0 _ rfl;(with_reducible repeat first|apply bN|apply bD|apply bA);exact K214.1))⟩;have n4_ : Aside0 (Below w.heap.size w w168):=⟨(by rw [hw];exact (by repeat (first|(with_reducible first|exact HB.1|apply bwA|apply bwN|apply bw1|refine bS ?_ GE174.1|refine bS ?_ GE177.1|refine bS ?_ GE180.1|refine bS ?_ GE214.1)|exact HB.1)))⟩;clear hw;clear K174;clear K177;clear K180;clear K214;clear HB;have K174:=n0_;have K177:=n1_;have K180:=n2_;have K214:=n3_;have HB:=n4_;clear n0_ n1_ n2_ n3_ n4_;have hcz169_0 : w168.cell? ⟨G177,0,none⟩ = some (.int .u64 x178000_1):=(bC K177.1 0).trans rfl;have hcz169_1 : w168.cell? ⟨G177,1,none⟩ = some (.int .u64 x178001_1):=(bC K177.1 1).trans rfl;have hcz169_2 : w168.cell? ⟨G177,2,none⟩ = some (.bool x178002_1):=(bC K177.1 2).trans rfl;have hcz169_3 : w168.cell? ⟨G177,3,none⟩ = some (.int .i64 x178003_1):=(bC K177.1 3).trans rfl;have hfz169_0:=bF K177.1 0;have hfz169_1:=bF K177.1 1;have hfz169_2:=bF K177.1 2;have hfz169_3:=bF K177.1 3;have hcz170_0 : w168.cell? ⟨G180,0,none⟩ = some (.int .i64 ((rd_T45 l1 x6_1).f0)):=(bC K180.1 0).trans rfl;have hcz170_1 : w168.cell? ⟨G180,1,none⟩ = some (.int .u64 ((rd_T45 l1 x6_1).f1)):=(bC K180.1 1).trans rfl;have hcz170_2 : w168.cell? ⟨G180,2,none⟩ = some (.int .u64 ((rd_T45 l1 x6_1).f2)):=(bC K180.1 2).trans rfl;have hcz170_3 : w168.cell? ⟨G180,3,none⟩ = some (.int .i64 ((rd_T45 l1 x6_1).f3)):=(bC K180.1 3).trans rfl;have hfz170_0:=bF K180.1 0;have hfz170_1:=bF K180.1 1;have hfz170_2:=bF K180.1 2;have hfz170_3:=bF K180.1 3)|((with_reducible refine gate_callee (f:=17) rfl ?_);refine goesL_ (some 123) rfl rfl Try.func17 (by kernel_rfl) rfl #[.agg #[.int .u64 x178000_1,.int .u64 x178001_1,.bool x178002_1,.int .i64 x178003_1],.int .i64 ((rd_T45 l1 x6_1).f3)] rfl (by (try simp only [List.map_toArray,List.map_cons,List.map_nil]);first|done|rfl|(simp only [List.length_drop,List.length_take];rfl)) ?_;(with_reducible refine (beaconref12_Tick.calls x178000_1 x178001_1 x178002_1 x178003_1 ((rd_T45 l1 x6_1).f3) t215 t216 t217 t218 t219 _ A156.out).mono ?_);rintro e w171 ⟨rfl,hb⟩;refine ⟨_,rfl,?_⟩;have n0_:=Aside0.mk (bB (g:=G174) (o:=.cells #[.int .u64 x175000_1,.int .u64 x175001_1,.bool x175002_1,.int .i64 x175003_1] 26 (0,0)) (by (with_reducible repeat first|apply bN|apply bD|apply bA);exact K174.1) hb);have n1_:=Aside0.mk (bB (g:=G177) (o:=.cells #[.int .u64 x178000_1,.int .u64 x178001_1,.bool x178002_1,.int .i64 x178003_1] 26 (0,0)) (by (with_reducible repeat first|apply bN|apply bD|apply bA);exact K177.1) hb);have n2_:=Aside0.mk (bB (g:=G180) (o:=.cells #[.int .i64 ((rd_T45 l1 x6_1).f0),.int .u64 ((rd_T45 l1 x6_1).f1),.int .u64 ((rd_T45 l1 x6_1).f2),.int .i64 ((rd_T45 l1 x6_1).f3)] 45 (0,0)) (by (with_reducible repeat first|apply bN|apply bD|apply bA);exact K180.1) hb);have n3_:=Aside0.mk (bB (g:=G214) (o:=.cells #[.int .u64 t209,.int .u64 t210,.bool t211,.int .i64 t212] 26 (0,0)) (by (with_reducible repeat first|apply bN|apply bD|apply bA);exact K214.1) hb);have n4_:=Aside0.mk (below_step (by repeat (first|(with_reducible first|exact HB.1|apply bwA|apply bwN|apply bw1|refine bS ?_ GE174.1|refine bS ?_ GE177.1|refine bS ?_ GE180.1|refine bS ?_ GE214.1)|exact HB.1)) hb);clear K174;clear K177;clear K180;clear K214;clear HB;have K174:=n0_;have K177:=n1_;have K180:=n2_;have K214:=n3_;have HB:=n4_;clear n0_ n1_ n2_ n3_ n4_;(try clear hb);(try clear hb2);(try clear hk);(try clear hi))|((with_reducible refine gate_dst (N:=23) rfl ?_);refine box_event ?hg (N:=23) ?hd (cs:=#[.int .u64 0,.int .u64 0,.bool false,.int .i64 0]) (t:=26) ?hr ?_;(case hd => rfl);(case hg => rfl);(case hr => first|(go_simp;done)|(go_simp;rfl));intro G220 hg w172 hbox hb;have n0_:=Aside0.mk (bB (g:=G174) (o:=.cells #[.int .u64 x175000_1,.int .u64 x175001_1,.bool x175002_1,.int .i64 x175003_1] 26 (0,0)) (by (with_reducible repeat first|apply bN|apply bD|apply bA);exact K174.1) hb);have n1_:=Aside0.mk (bB (g:=G177) (o:=.cells #[.int .u64 x178000_1,.int .u64 x178001_1,.bool x178002_1,.int .i64 x178003_1] 26 (0,0)) (by (with_reducible repeat first|apply bN|apply bD|apply bA);exact K177.1) hb);have n2_:=Aside0.mk (bB (g:=G180) (o:=.cells #[.int .i64 ((rd_T45 l1 x6_1).f0),.int .u64 ((rd_T45 l1 x6_1).f1),.int .u64 ((rd_T45 l1 x6_1).f2),.int .i64 ((rd_T45 l1 x6_1).f3)] 45 (0,0)) (by (with_reducible repeat first|apply bN|apply bD|apply bA);exact K180.1) hb);have n3_:=Aside0.mk (bB (g:=G214) (o:=.cells #[.int .u64 t209,.int .u64 t210,.bool t211,.int .i64 t212] 26 (0,0)) (by (with_reducible repeat first|apply bN|apply bD|apply bA);exact K214.1) hb);have n4_:=Aside0.mk (below_step (by repeat (first|(with_reducible first|exact HB.1|apply bwA|apply bwN|apply bw1|refine bS ?_ GE174.1|refine bS ?_ GE177.1|refine bS ?_ GE180.1|refine bS ?_ GE214.1)|exact HB.1)) hb);have n5_:=Aside0.mk (hbox);have n6_:=Aside0.mk ((by rw [hg];exact (below_size (by repeat (first|(with_reducible first|exact HB.1|apply bwA|apply bwN|apply bw1|refine bS ?_ GE174.1|refine bS ?_ GE177.1|refine bS ?_ GE180.1|refine bS ?_ GE214.1)|exact HB.1))) : w.heap.size ≤ G220));have n7_:=Aside0.mk ((by rw [hg];exact (below_size (by repeat (first|(with_reducible first|exact HB.1|apply bwA|apply bwN|apply bw1|refine bS ?_ GE174.1|refine bS ?_ GE177.1|refine bS ?_ GE180.1|refine bS ?_ GE214.1)|exact HB.1))) : w.heap.size ≤ G220));have n8_:=Aside0.mk ((by rw [hg];exact Nat.ne_of_lt (blk_lt (g:=G174) (o:=.cells #[.int .u64 x175000_1,.int .u64 x175001_1,.bool x175002_1,.int .i64 x175003_1] 26 (0,0)) (by (with_reducible repeat first|apply bN|apply bD|apply bA);exact K174.1)) : G174 ≠ G220));have n9_:=Aside0.mk ((by rw [hg];exact Nat.ne_of_gt (blk_lt (g:=G174) (o:=.cells #[.int .u64 x175000_1,.int .u64 x175001_1,.bool x175002_1,.int .i64 x175003_1] 26 (0,0)) (by (with_reducible repeat first|apply bN|apply bD|apply bA);exact K174.1)) : G220 ≠ G174));have n10_:=Aside0.mk ((by rw [hg];exact Nat.ne_of_lt (blk_lt (g:=G177) (o:=.cells #[.int .u64 x178000_1,.int .u64 x178001_1,.bool x178002_1,.int .i64 x178003_1] 26 (0,0)) (by (with_reducible repeat first|apply bN|apply bD|apply bA);exact K177.1)) : G177 ≠ G220));have n11_:=Aside0.mk ((by rw [hg];exact Nat.ne_of_gt (blk_lt (g:=G177) (o:=.cells #[.int .u64 x178000_1,.int .u64 x178001_1,.bool x178002_1,.int .i64 x178003_1] 26 (0,0)) (by (with_reducible repeat first|apply bN|apply bD|apply bA);exact K177.1)) : G220 ≠ G177));have n12_:=Aside0.mk ((by rw [hg];exact Nat.ne_of_lt (blk_lt (g:=G180) (o:=.cells #[.int .i64 ((rd_T45 l1 x6_1).f0),.int .u64 ((rd_T45 l1 x6_1).f1),.int .u64 ((rd_T45 l1 x6_1).f2),.int .i64 ((rd_T45 l1 x6_1).f3)] 45 (0,0)) (by (with_reducible repeat first|apply bN|apply bD|apply bA);exact K180.1)) : G180 ≠ G220));have n13_:=Aside0.mk ((by rw [hg];exact Nat.ne_of_gt (blk_lt (g:=G180) (o:=.cells #[.int .i64 ((rd_T45 l1 x6_1).f0),.int .u64 ((rd_T45 l1 x6_1).f1),.int .u64 ((rd_T45 l1 x6_1).f2),.int .i64 ((rd_T45 l1 x6_1).f3)] 45 (0,0)) (by (with_reducible repeat first|apply bN|apply bD|apply bA);exact K180.1)) : G220 ≠ G180));have n14_:=Aside0.mk ((by rw [hg];exact Nat.ne_of_lt (blk_lt (g:=G214) (o:=.cells #[.int .u64 t209,.int .u64 t210,.bool t211,.int .i64 t212] 26 (0,0)) (by (with_reducible repeat first|apply bN|apply bD|apply bA);exact K214.1)) : G214 ≠ G220));have n15_:=Aside0.mk ((by rw [hg];exact Nat.ne_of_gt (blk_lt (g:=G214) (o:=.cells #[.int .u64 t209,.int .u64 t210,.bool t211,.int .i64 t212] 26 (0,0)) (by (with_reducible repeat first|apply bN|apply bD|apply bA);exact K214.1)) : G220 ≠ G214));clear K174;clear K177;clear K180;clear K214;clear HB;have K174:=n0_;have K177:=n1_;have K180:=n2_;have K214:=n3_;have HB:=n4_;have K220:=n5_;have GW220:=n6_;have GE220:=n7_;have NB174_220:=n8_;have NB220_174:=n9_;have NB177_220:=n10_;have NB220_177:=n11_;have NB180_220:=n12_;have NB220_180:=n13_;have NB214_220:=n14_;have NB220_214:=n15_;clear n0_ n1_ n2_ n3_ n4_ n5_ n6_ n7_ n8_ n9_ n10_ n11_ n12_ n13_ n14_ n15_;clear hb hbox hg;have hnb173:=NB220_174.1;have hnc173:=NB174_220.1;have hnb174:=NB220_177.1;have hnc174:=NB177_220.1;have hnb175:=NB220_180.1;have hnc175:=NB180_220.1;have hnb176:=NB220_214.1;have hnc176:=NB214_220.1;have hcz177_0 : w172.cell? ⟨G220,0,none⟩ = some (.int .u64 0):=(bC K220.1 0).trans rfl;have hcz177_1 : w172.cell? ⟨G220,1,none⟩ = some (.int .u64 0):=(bC K220.1 1).trans rfl;have hcz177_2 : w172.cell? ⟨G220,2,none⟩ = some (.bool false):=(bC K220.1 2).trans rfl;have hcz177_3 : w172.cell? ⟨G220,3,none⟩ = some (.int .i64 0):=(bC K220.1 3).trans rfl;have hfz177_0:=bF K220.1 0;have hfz177_1:=bF K220.1 1;have hfz177_2:=bF K220.1 2;have hfz177_3:=bF K220.1 3)|((with_reducible refine gate_store (t:=26) (p:=23) rfl ?_);refine store_event (t:=26) (p:=23) (v:=?vo_w178) (w1:=((((w172.setCell ⟨G220,0,none⟩ (.int .u64 t215)).setCell ⟨G220,1,none⟩ (.int .u64 t216)).setCell ⟨G220,2,none⟩ (.bool t217)).setCell ⟨G220,3,none⟩ (.int .i64 t218))) ?hg ?ho ?hn ?hr ?_;(case ho => rfl);(case hg => rfl);(case hn => rfl);(case hr => first|(go_simp;done)|(go_simp;rfl));intro w178 hw;have n0_ : Aside0 (w178.heap[G174]? = some (.cells #[.int .u64 x175000_1,.int .u64 x175001_1,.bool x175002_1,.int .i64 x175003_1] 26 (0,0))):=⟨(by rw [hw];exact (by (with_reducible repeat first|apply bN|apply bD|apply bA);refine bZ ?_ NB174_220.1 _;(with_reducible repeat first|apply bN|apply bD|apply bA);refine bZ ?_ NB174_220.1 _;(with_reducible repeat first|apply bN|apply bD|apply bA);refine bZ ?_ NB174_220.1 _;(with_reducible repeat first|apply bN|apply bD|apply bA);refine bZ ?_ NB174_220.1 _;(with_reducible repeat first|apply bN|apply bD|apply bA);exact K174.1))⟩;have n1_ : Aside0 (w178.heap[G177]? = some (.cells #[.int .u64 x178000_1,.int .u64 x178001_1,.bool x178002_1,.int .i64 x178003_1] 26 (0,0))):=⟨(by rw [hw];exact (by (with_reducible repeat first|apply bN|apply bD|apply bA);refine bZ ?_ NB177_220.1 _;(with_reducible repeat first|apply bN|apply bD|apply bA);refine bZ ?_ NB177_220.1 _;(with_reducible repeat first|apply bN|apply bD|apply bA);refine bZ ?_ NB177_220.1 _;(with_reducible repeat first|apply bN|apply bD|apply bA);refine bZ ?_ NB177_220.1 _;(with_reducible repeat first|apply bN|apply bD|apply bA);exact K177.1))⟩;have n2_ : Aside0 (w178.heap[G180]? = some (.cells #[.int .i64 ((rd_T45 l1 x6_1).f0),.int .u64 ((rd_T45 l1 x6_1).f1),.int .u64 ((rd_T45 l1 x6_1).f2),.int .i64 ((rd_T45 l1 x6_1).f3)] 45 (0,0))):=⟨(by rw [hw];exact (by (with_reducible repeat first|apply bN|apply bD|apply bA);refine bZ ?_ NB180_220.1 _;(with_reducible repeat first|apply bN|apply bD|apply bA);refine bZ ?_ NB180_220.1 _;(with_reducible repeat first|apply bN|apply bD|apply bA);refine bZ ?_ NB180_220.1 _;(with_reducible repeat first|apply bN|apply bD|apply bA);refine bZ ?_ NB180_220.1 _;(with_reducible repeat first|apply bN|apply bD|apply bA);exact K180.1))⟩;have n3_ : Aside0 (w178.heap[G214]? = some (.cells #[.int .u64 t209,.int .u64 t210,.bool t211,.int .i64 t212] 26 (0,0))):=⟨(by rw [hw];exact (by (with_reducible repeat first|apply bN|apply bD|apply bA);refine bZ ?_ NB214_220.1 _;(with_reducible repeat first|apply bN|apply bD|apply bA);refine bZ ?_ NB214_220.1 _;(with_reducible repeat first|apply bN|apply bD|apply bA);refine bZ ?_ NB214_220.1 _;(with_reducible repeat first|apply bN|apply bD|apply bA);refine bZ ?_ NB214_220.1 _;(with_reducible repeat first|apply bN|apply bD|apply bA);exact K214.1))⟩;have n4_ : Aside0 (w178.heap[G220]? = some (.cells #[.int .u64 t215,.int .u64 t216,.bool t217,.int .i64 t218] 26 (0,0))):=⟨(by rw [hw];exact (by (with_reducible repeat first|apply bN|apply bD|apply bA);refine blk_put (cs:=#[.int .u64 t215,.int .u64 t216,.bool t217,.int .i64 0]) ?_ 3 _ rfl;(with_reducible repeat first|apply bN|apply bD|apply bA);refine blk_put (cs:=#[.int .u64 t215,.int .u64 t216,.bool false,.int .i64 0]) ?_ 2 _ rfl;(with_reducible repeat first|apply bN|apply bD|apply bA);refine blk_put (cs:=#[.int .u64 t215,.int .u64 0,.bool false,.int .i64 0]) ?_ 1 _ rfl;(with_reducible repeat first|apply bN|apply bD|apply bA);refine blk_put (cs:=#[.int .u64 0,.int .u64 0,.bool false,.int .i64 0]) ?_ 0 _ rfl;(with_reducible repeat first|apply bN|apply bD|apply bA);exact K220.1))⟩;have n5_ : Aside0 (Below w.heap.size w w178):=⟨(by rw [hw];exact (by repeat (first|(with_reducible first|exact HB.1|apply bwA|apply bwN|apply bw1|refine bS ?_ GE174.1|refine bS ?_ GE177.1|refine bS ?_ GE180.1|refine bS ?_ GE214.1|refine bS ?_ GE220.1)|exact HB.1)))⟩;clear hw;clear K174;clear K177;clear K180;clear K214;clear K220;clear HB;have K174:=n0_;have K177:=n1_;have K180:=n2_;have K214:=n3_;have K220:=n4_;have HB:=n5_;clear n0_ n1_ n2_ n3_ n4_ n5_))
          have n0_:=Aside0.mk (bD K174.1)
          have n1_:=Aside0.mk (bD K177.1)
          have n2_:=Aside0.mk (bD K180.1)
          have n3_:=Aside0.mk (bD K214.1)
          have n4_:=Aside0.mk (bD K220.1)
          have n5_:=Aside0.mk (bw1 HB.1)
          clear K174
          clear K177
          clear K180
          clear K214
          clear K220
          clear HB
          have K174:=n0_
          have K177:=n1_
          have K180:=n2_
          have K214:=n3_
          have K220:=n4_
          have HB:=n5_
          clear n0_ n1_ n2_ n3_ n4_ n5_
          refine start_ (n:=8) (S:=fun w' => w'.cell? ⟨G214,0,none⟩ = some (.int .u64 t209) ∧ w'.cell? ⟨G214,1,none⟩ = some (.int .u64 t210) ∧ w'.cell? ⟨G214,2,none⟩ = some (.bool t211) ∧ w'.cell? ⟨G214,3,none⟩ = some (.int .i64 t212) ∧ w'.cell? ⟨G220,0,none⟩ = some (.int .u64 t215) ∧ w'.cell? ⟨G220,1,none⟩ = some (.int .u64 t216) ∧ w'.cell? ⟨G220,2,none⟩ = some (.bool t217) ∧ w'.cell? ⟨G220,3,none⟩ = some (.int .i64 t218)) (ds:=[]) #[false,false,false,false,false,false,false,false] (by kernel_rfl) rfl rfl ⟨(bC K214.1 0).trans rfl,(bC K214.1 1).trans rfl,(bC K214.1 2).trans rfl,(bC K214.1 3).trans rfl,(bC K220.1 0).trans rfl,(bC K220.1 1).trans rfl,(bC K220.1 2).trans rfl,(bC K220.1 3).trans rfl⟩ (fun hHeld => ?_);refine with_tabW beaconlaw12_SessionPlays.tab21 beaconlaw12_SessionPlays.bits21 (fun HT_ HW_ => ?_)
          generalize w178.drew = w179 at K174 K177 K180 K214 K220 HB hHeld ⊢
          refine pure_ (i:=2) (N:=some 128) (v:=?_) (a':=?_) #[false,false,true,false,false,false,false,false] rfl rfl (any_of HT_.out (by kernel_rfl)) (fun _ _ _ h => h) (Or.inl ⟨by rfl,?_⟩) ?_ ?_
          rotate_left
          ·intro w'
           go_simp
           with_reducible rfl
          rotate_left
          ·simp only [Act.put,List.setIfInBounds_toArray,List.set_cons_zero,List.set_cons_succ,i64_w,i32_w]
           rfl
          refine pure_ (i:=3) (N:=some 129) (v:=?_) (a':=?_) #[false,false,true,true,false,false,false,false] rfl rfl (any_of HT_.out (by kernel_rfl)) (fun _ _ _ h => h) (Or.inl ⟨by rfl,?_⟩) ?_ ?_
          rotate_left
          ·intro w'
           go_simp
           with_reducible rfl
          rotate_left
          ·simp only [Act.put,List.setIfInBounds_toArray,List.set_cons_zero,List.set_cons_succ,i64_w,i32_w]
           rfl
          refine pure_ (i:=4) (N:=some 130) (v:=?_) (a':=?_) #[false,false,true,true,true,false,false,false] rfl rfl (any_of HT_.out (by kernel_rfl)) (fun _ _ _ h => h) (Or.inl ⟨by rfl,?_⟩) ?_ ?_
          rotate_left
          ·intro w'
           go_simp
           with_reducible rfl
          rotate_left
          ·simp only [Act.put,List.setIfInBounds_toArray,List.set_cons_zero,List.set_cons_succ,i64_w,i32_w]
           rfl
          refine take_ (i:=0) (N:=some 126) (v:=?_) (a':=?_) #[true,false,true,true,true,false,false,false] rfl rfl (take_ofW HT_.out HW_.out (by kernel_rfl)) (fun _ _ _ h => h) (Or.inl ⟨by rfl,?_⟩) hHeld ?_ ?_
          rotate_left
          ·rintro w' ⟨s0,s1,s2,s3,s4,s5,s6,s7⟩
           go_simp
           with_reducible rfl
          rotate_left
          ·simp only [Act.put,List.setIfInBounds_toArray,List.set_cons_zero,List.set_cons_succ,i64_w,i32_w]
           rfl
          refine take_ (i:=1) (N:=some 127) (v:=?_) (a':=?_) #[true,true,true,true,true,false,false,false] rfl rfl (take_ofW HT_.out HW_.out (by kernel_rfl)) (fun _ _ _ h => h) (Or.inl ⟨by rfl,?_⟩) hHeld ?_ ?_
          rotate_left
          ·rintro w' ⟨s0,s1,s2,s3,s4,s5,s6,s7⟩
           go_simp
           with_reducible rfl
          rotate_left
          ·simp only [Act.put,List.setIfInBounds_toArray,List.set_cons_zero,List.set_cons_succ,i64_w,i32_w]
           rfl
          refine one_ (i:=5) (N:=none) #[true,true,true,true,true,true,false,false] rfl rfl (one_of HT_.out (by kernel_rfl)) (by decide) (fun K hK => ?_)
          have hs180 : w179.cell? ⟨G174,0,none⟩ = some (.int .u64 x175000_1):=(bC K174.1 0).trans rfl
          have hfs180:=bF K174.1 0
          have hns180_1:=NB177_174.1
          have hns180_2:=NB180_174.1
          have hns180_3:=NB214_174.1
          have hns180_4:=NB220_174.1
          have hms180_1:=NB174_177.1
          have hms180_2:=NB174_180.1
          have hms180_3:=NB174_214.1
          have hms180_4:=NB174_220.1
          have hs181 : w179.cell? ⟨G174,1,none⟩ = some (.int .u64 x175001_1):=(bC K174.1 1).trans rfl
          have hfs181:=bF K174.1 1
          have hns181_1:=NB177_174.1
          have hns181_2:=NB180_174.1
          have hns181_3:=NB214_174.1
          have hns181_4:=NB220_174.1
          have hms181_1:=NB174_177.1
          have hms181_2:=NB174_180.1
          have hms181_3:=NB174_214.1
          have hms181_4:=NB174_220.1
          have hs182 : w179.cell? ⟨G174,2,none⟩ = some (.bool x175002_1):=(bC K174.1 2).trans rfl
          have hfs182:=bF K174.1 2
          have hns182_1:=NB177_174.1
          have hns182_2:=NB180_174.1
          have hns182_3:=NB214_174.1
          have hns182_4:=NB220_174.1
          have hms182_1:=NB174_177.1
          have hms182_2:=NB174_180.1
          have hms182_3:=NB174_214.1
          have hms182_4:=NB174_220.1
          have hs183 : w179.cell? ⟨G174,3,none⟩ = some (.int .i64 x175003_1):=(bC K174.1 3).trans rfl
          have hfs183:=bF K174.1 3
          have hns183_1:=NB177_174.1
          have hns183_2:=NB180_174.1
          have hns183_3:=NB214_174.1
          have hns183_4:=NB220_174.1
          have hms183_1:=NB174_177.1
          have hms183_2:=NB174_180.1
          have hms183_3:=NB174_214.1
          have hms183_4:=NB174_220.1
          refine skip_ (w1:=?_) (by rfl) rfl ?_ ?_
          rotate_left
          ·go_simp
           rfl
          refine hK.out _ _ ⟨((cF (p:=⟨G174,_,none⟩) NB214_174.1 _).trans (((cF (p:=⟨G174,_,none⟩) NB214_174.1 _).trans (((cF (p:=⟨G174,_,none⟩) NB214_174.1 _).trans (((cF (p:=⟨G174,_,none⟩) NB214_174.1 _).trans (hHeld.1)))))))),((cF (p:=⟨G174,_,none⟩) NB214_174.1 _).trans (((cF (p:=⟨G174,_,none⟩) NB214_174.1 _).trans (((cF (p:=⟨G174,_,none⟩) NB214_174.1 _).trans (((cF (p:=⟨G174,_,none⟩) NB214_174.1 _).trans (hHeld.2.1)))))))),((cF (p:=⟨G174,_,none⟩) NB214_174.1 _).trans (((cF (p:=⟨G174,_,none⟩) NB214_174.1 _).trans (((cF (p:=⟨G174,_,none⟩) NB214_174.1 _).trans (((cF (p:=⟨G174,_,none⟩) NB214_174.1 _).trans (hHeld.2.2.1)))))))),((cF (p:=⟨G174,_,none⟩) NB214_174.1 _).trans (((cF (p:=⟨G174,_,none⟩) NB214_174.1 _).trans (((cF (p:=⟨G174,_,none⟩) NB214_174.1 _).trans (((cF (p:=⟨G174,_,none⟩) NB214_174.1 _).trans (hHeld.2.2.2.1)))))))),((cF (p:=⟨G174,_,none⟩) NB220_174.1 _).trans (((cF (p:=⟨G174,_,none⟩) NB220_174.1 _).trans (((cF (p:=⟨G174,_,none⟩) NB220_174.1 _).trans (((cF (p:=⟨G174,_,none⟩) NB220_174.1 _).trans (hHeld.2.2.2.2.1)))))))),((cF (p:=⟨G174,_,none⟩) NB220_174.1 _).trans (((cF (p:=⟨G174,_,none⟩) NB220_174.1 _).trans (((cF (p:=⟨G174,_,none⟩) NB220_174.1 _).trans (((cF (p:=⟨G174,_,none⟩) NB220_174.1 _).trans (hHeld.2.2.2.2.2.1)))))))),((cF (p:=⟨G174,_,none⟩) NB220_174.1 _).trans (((cF (p:=⟨G174,_,none⟩) NB220_174.1 _).trans (((cF (p:=⟨G174,_,none⟩) NB220_174.1 _).trans (((cF (p:=⟨G174,_,none⟩) NB220_174.1 _).trans (hHeld.2.2.2.2.2.2.1)))))))),((cF (p:=⟨G174,_,none⟩) NB220_174.1 _).trans (((cF (p:=⟨G174,_,none⟩) NB220_174.1 _).trans (((cF (p:=⟨G174,_,none⟩) NB220_174.1 _).trans (((cF (p:=⟨G174,_,none⟩) NB220_174.1 _).trans (hHeld.2.2.2.2.2.2.2))))))))⟩ (fun hHeld => ?_)
          clear hK K
          refine one_ (i:=6) (N:=none) #[true,true,true,true,true,true,true,false] rfl rfl (one_of HT_.out (by kernel_rfl)) (by decide) (fun K hK => ?_)
          have hs184 : w179.cell? ⟨G177,0,none⟩ = some (.int .u64 x178000_1):=(bC K177.1 0).trans rfl
          have hfs184:=bF K177.1 0
          have hns184_0:=NB174_177.1
          have hns184_2:=NB180_177.1
          have hns184_3:=NB214_177.1
          have hns184_4:=NB220_177.1
          have hms184_0:=NB177_174.1
          have hms184_2:=NB177_180.1
          have hms184_3:=NB177_214.1
          have hms184_4:=NB177_220.1
          have hs185 : w179.cell? ⟨G177,1,none⟩ = some (.int .u64 x178001_1):=(bC K177.1 1).trans rfl
          have hfs185:=bF K177.1 1
          have hns185_0:=NB174_177.1
          have hns185_2:=NB180_177.1
          have hns185_3:=NB214_177.1
          have hns185_4:=NB220_177.1
          have hms185_0:=NB177_174.1
          have hms185_2:=NB177_180.1
          have hms185_3:=NB177_214.1
          have hms185_4:=NB177_220.1
          have hs186 : w179.cell? ⟨G177,2,none⟩ = some (.bool x178002_1):=(bC K177.1 2).trans rfl
          have hfs186:=bF K177.1 2
          have hns186_0:=NB174_177.1
          have hns186_2:=NB180_177.1
          have hns186_3:=NB214_177.1
          have hns186_4:=NB220_177.1
          have hms186_0:=NB177_174.1
          have hms186_2:=NB177_180.1
          have hms186_3:=NB177_214.1
          have hms186_4:=NB177_220.1
          have hs187 : w179.cell? ⟨G177,3,none⟩ = some (.int .i64 x178003_1):=(bC K177.1 3).trans rfl
          have hfs187:=bF K177.1 3
          have hns187_0:=NB174_177.1
          have hns187_2:=NB180_177.1
          have hns187_3:=NB214_177.1
          have hns187_4:=NB220_177.1
          have hms187_0:=NB177_174.1
          have hms187_2:=NB177_180.1
          have hms187_3:=NB177_214.1
          have hms187_4:=NB177_220.1
          refine skip_ (w1:=?_) (by rfl) rfl ?_ ?_
          rotate_left
          ·go_simp
           rfl
          refine hK.out _ _ ⟨((cF (p:=⟨G177,_,none⟩) NB214_177.1 _).trans (((cF (p:=⟨G177,_,none⟩) NB214_177.1 _).trans (((cF (p:=⟨G177,_,none⟩) NB214_177.1 _).trans (((cF (p:=⟨G177,_,none⟩) NB214_177.1 _).trans (hHeld.1)))))))),((cF (p:=⟨G177,_,none⟩) NB214_177.1 _).trans (((cF (p:=⟨G177,_,none⟩) NB214_177.1 _).trans (((cF (p:=⟨G177,_,none⟩) NB214_177.1 _).trans (((cF (p:=⟨G177,_,none⟩) NB214_177.1 _).trans (hHeld.2.1)))))))),((cF (p:=⟨G177,_,none⟩) NB214_177.1 _).trans (((cF (p:=⟨G177,_,none⟩) NB214_177.1 _).trans (((cF (p:=⟨G177,_,none⟩) NB214_177.1 _).trans (((cF (p:=⟨G177,_,none⟩) NB214_177.1 _).trans (hHeld.2.2.1)))))))),((cF (p:=⟨G177,_,none⟩) NB214_177.1 _).trans (((cF (p:=⟨G177,_,none⟩) NB214_177.1 _).trans (((cF (p:=⟨G177,_,none⟩) NB214_177.1 _).trans (((cF (p:=⟨G177,_,none⟩) NB214_177.1 _).trans (hHeld.2.2.2.1)))))))),((cF (p:=⟨G177,_,none⟩) NB220_177.1 _).trans (((cF (p:=⟨G177,_,none⟩) NB220_177.1 _).trans (((cF (p:=⟨G177,_,none⟩) NB220_177.1 _).trans (((cF (p:=⟨G177,_,none⟩) NB220_177.1 _).trans (hHeld.2.2.2.2.1)))))))),((cF (p:=⟨G177,_,none⟩) NB220_177.1 _).trans (((cF (p:=⟨G177,_,none⟩) NB220_177.1 _).trans (((cF (p:=⟨G177,_,none⟩) NB220_177.1 _).trans (((cF (p:=⟨G177,_,none⟩) NB220_177.1 _).trans (hHeld.2.2.2.2.2.1)))))))),((cF (p:=⟨G177,_,none⟩) NB220_177.1 _).trans (((cF (p:=⟨G177,_,none⟩) NB220_177.1 _).trans (((cF (p:=⟨G177,_,none⟩) NB220_177.1 _).trans (((cF (p:=⟨G177,_,none⟩) NB220_177.1 _).trans (hHeld.2.2.2.2.2.2.1)))))))),((cF (p:=⟨G177,_,none⟩) NB220_177.1 _).trans (((cF (p:=⟨G177,_,none⟩) NB220_177.1 _).trans (((cF (p:=⟨G177,_,none⟩) NB220_177.1 _).trans (((cF (p:=⟨G177,_,none⟩) NB220_177.1 _).trans (hHeld.2.2.2.2.2.2.2))))))))⟩ (fun hHeld => ?_)
          clear hK K
          refine pure_ (i:=7) (N:=some 8) (v:=?_) (a':=?_) #[true,true,true,true,true,true,true,true] rfl rfl (any_of HT_.out (by kernel_rfl)) (fun _ _ _ h => h) (Or.inl ⟨by rfl,?_⟩) ?_ ?_
          rotate_left
          ·intro w'
           go_simp
           with_reducible rfl
          rotate_left
          ·simp only [Act.put,List.setIfInBounds_toArray,List.set_cons_zero,List.set_cons_succ,i64_w,i32_w]
           rfl
          refine done_ (done_of HT_.out (by kernel_rfl)) ?_
          try go_wp2
          go_meet
          case rel => exact ⟨_,((t213 == t219)),(t209),(t210),(t211),(t212),(t215),(t216),(t217),(t218),(by first|rfl|(simp;done)|(simp [*];done)),H',⟨by have:=HK1.out;first|omega|exact Nat.le_refl _⟩,⟨by (with_reducible repeat first|apply bN|apply bD|apply bA);refine bZ ?_ NB174_177.1 _;(with_reducible repeat first|apply bN|apply bD|apply bA);refine bZ ?_ NB174_177.1 _;(with_reducible repeat first|apply bN|apply bD|apply bA);refine bZ ?_ NB174_177.1 _;(with_reducible repeat first|apply bN|apply bD|apply bA);refine bZ ?_ NB174_177.1 _;(with_reducible repeat first|apply bN|apply bD|apply bA);refine blk_put (cs:=#[.int .u64 t209,.int .u64 t210,.bool t211,.int .i64 x175003_1]) ?_ 3 _ rfl;(with_reducible repeat first|apply bN|apply bD|apply bA);refine blk_put (cs:=#[.int .u64 t209,.int .u64 t210,.bool x175002_1,.int .i64 x175003_1]) ?_ 2 _ rfl;(with_reducible repeat first|apply bN|apply bD|apply bA);refine blk_put (cs:=#[.int .u64 t209,.int .u64 x175001_1,.bool x175002_1,.int .i64 x175003_1]) ?_ 1 _ rfl;(with_reducible repeat first|apply bN|apply bD|apply bA);refine blk_put (cs:=#[.int .u64 x175000_1,.int .u64 x175001_1,.bool x175002_1,.int .i64 x175003_1]) ?_ 0 _ rfl;(with_reducible repeat first|apply bN|apply bD|apply bA);exact K174.1⟩,⟨by (with_reducible repeat first|apply bN|apply bD|apply bA);refine blk_put (cs:=#[.int .u64 t215,.int .u64 t216,.bool t217,.int .i64 x178003_1]) ?_ 3 _ rfl;(with_reducible repeat first|apply bN|apply bD|apply bA);refine blk_put (cs:=#[.int .u64 t215,.int .u64 t216,.bool x178002_1,.int .i64 x178003_1]) ?_ 2 _ rfl;(with_reducible repeat first|apply bN|apply bD|apply bA);refine blk_put (cs:=#[.int .u64 t215,.int .u64 x178001_1,.bool x178002_1,.int .i64 x178003_1]) ?_ 1 _ rfl;(with_reducible repeat first|apply bN|apply bD|apply bA);refine blk_put (cs:=#[.int .u64 x178000_1,.int .u64 x178001_1,.bool x178002_1,.int .i64 x178003_1]) ?_ 0 _ rfl;(with_reducible repeat first|apply bN|apply bD|apply bA);refine bZ ?_ NB177_174.1 _;(with_reducible repeat first|apply bN|apply bD|apply bA);refine bZ ?_ NB177_174.1 _;(with_reducible repeat first|apply bN|apply bD|apply bA);refine bZ ?_ NB177_174.1 _;(with_reducible repeat first|apply bN|apply bD|apply bA);refine bZ ?_ NB177_174.1 _;(with_reducible repeat first|apply bN|apply bD|apply bA);exact K177.1⟩,⟨by (with_reducible repeat first|apply bN|apply bD|apply bA);refine bZ ?_ NB180_177.1 _;(with_reducible repeat first|apply bN|apply bD|apply bA);refine bZ ?_ NB180_177.1 _;(with_reducible repeat first|apply bN|apply bD|apply bA);refine bZ ?_ NB180_177.1 _;(with_reducible repeat first|apply bN|apply bD|apply bA);refine bZ ?_ NB180_177.1 _;(with_reducible repeat first|apply bN|apply bD|apply bA);refine bZ ?_ NB180_174.1 _;(with_reducible repeat first|apply bN|apply bD|apply bA);refine bZ ?_ NB180_174.1 _;(with_reducible repeat first|apply bN|apply bD|apply bA);refine bZ ?_ NB180_174.1 _;(with_reducible repeat first|apply bN|apply bD|apply bA);refine bZ ?_ NB180_174.1 _;(with_reducible repeat first|apply bN|apply bD|apply bA);exact K180.1⟩,⟨by repeat (first|(with_reducible first|exact HB.1|apply bwA|apply bwN|apply bw1|refine bS ?_ GE174.1|refine bS ?_ GE177.1|refine bS ?_ GE180.1|refine bS ?_ GE214.1|refine bS ?_ GE220.1)|exact HB.1)⟩⟩
         ·rw [if_neg c154] at H
          have c154b0 : (((rd_T45 l1 x6_1).f0) == 2) = false:=beq_eq_false_iff_ne.mpr c154
          have c154b1 : (((rd_T45 l1 x6_1).f0) != 2) = true:=bne_iff_ne.mpr c154
          by_cases c188 : ((rd_T45 l1 x6_1).f0) = 3
          ·rw [if_pos c188] at H
           have c188b0 : (((rd_T45 l1 x6_1).f0) == 3) = true:=beq_iff_eq.mpr c188
           have c188b1 : (((rd_T45 l1 x6_1).f0) != 3) = false:=bne_eq_false_iff_eq.mpr c188
           clear c188
           replace H:=Option.bind_eq_some_iff.mp H
           obtain ⟨⟨t221,t222,t223,t224⟩,A1890,H⟩:=H
           replace H : ((beaconref12_Down.f x178000_1 x178001_1 x178002_1 x178003_1).bind fun bt225 => (beaconlaw12_SessionPlays.j1 k1 l1 x6_1 true t221 t222 t223 t224 bt225.1 bt225.2.1 bt225.2.2.1 bt225.2.2.2)) = some r:=H
           have A189:=Aside0.mk A1890
           clear A1890
           replace H:=Option.bind_eq_some_iff.mp H
           obtain ⟨⟨t225,t226,t227,t228⟩,A1900,H⟩:=H
           replace H : (beaconlaw12_SessionPlays.j1 k1 l1 x6_1 true t221 t222 t223 t224 t225 t226 t227 t228) = some r:=H
           have A190:=Aside0.mk A1900
           clear A1900
           have H':=Aside0.mk H
           clear H
           try go_wp2
           have n0_:=Aside0.mk (bD K174.1)
           have n1_:=Aside0.mk (bD K177.1)
           have n2_:=Aside0.mk (bD K180.1)
           have n3_:=Aside0.mk (bw1 HB.1)
           clear K174
           clear K177
           clear K180
           clear HB
           have K174:=n0_
           have K177:=n1_
           have K180:=n2_
           have HB:=n3_
           clear n0_ n1_ n2_ n3_
           refine start_ (n:=6) (S:=fun w' => w'.cell? ⟨G174,0,none⟩ = some (.int .u64 x175000_1) ∧ w'.cell? ⟨G174,1,none⟩ = some (.int .u64 x175001_1) ∧ w'.cell? ⟨G174,2,none⟩ = some (.bool x175002_1) ∧ w'.cell? ⟨G174,3,none⟩ = some (.int .i64 x175003_1) ∧ w'.cell? ⟨G177,0,none⟩ = some (.int .u64 x178000_1) ∧ w'.cell? ⟨G177,1,none⟩ = some (.int .u64 x178001_1) ∧ w'.cell? ⟨G177,2,none⟩ = some (.bool x178002_1) ∧ w'.cell? ⟨G177,3,none⟩ = some (.int .i64 x178003_1)) (ds:=[4,5]) #[false,false,false,false,false,false] (by kernel_rfl) rfl rfl ⟨(bC K174.1 0).trans rfl,(bC K174.1 1).trans rfl,(bC K174.1 2).trans rfl,(bC K174.1 3).trans rfl,(bC K177.1 0).trans rfl,(bC K177.1 1).trans rfl,(bC K177.1 2).trans rfl,(bC K177.1 3).trans rfl⟩ (fun hHeld => ?_)
           generalize w20.drew = w191 at K174 K177 K180 HB hHeld ⊢
           refine take_ (i:=0) (N:=some 133) (v:=?_) (a':=?_) #[true,false,false,false,false,false] rfl rfl (by kernel_rfl) (fun _ _ _ h => h) (Or.inl ⟨by rfl,?_⟩) hHeld ?_ ?_
           rotate_left
           ·rintro w' ⟨s0,s1,s2,s3,s4,s5,s6,s7⟩
            go_simp
            with_reducible rfl
           rotate_left
           ·simp only [Act.put,List.setIfInBounds_toArray,List.set_cons_zero,List.set_cons_succ,i64_w,i32_w]
            rfl
           refine take_ (i:=2) (N:=some 135) (v:=?_) (a':=?_) #[true,false,true,false,false,false] rfl rfl (by kernel_rfl) (fun _ _ _ h => h) (Or.inl ⟨by rfl,?_⟩) hHeld ?_ ?_
           rotate_left
           ·rintro w' ⟨s0,s1,s2,s3,s4,s5,s6,s7⟩
            go_simp
            with_reducible rfl
           rotate_left
           ·simp only [Act.put,List.setIfInBounds_toArray,List.set_cons_zero,List.set_cons_succ,i64_w,i32_w]
            rfl
           refine one_ (i:=1) (N:=some 134) #[true,true,true,false,false,false] rfl rfl (by kernel_rfl) (by decide) (fun K hK => ?_)
           refine goes_ Try.func12 (by kernel_rfl) rfl #[.agg #[.int .u64 x175000_1,.int .u64 x175001_1,.bool x175002_1,.int .i64 x175003_1]] (by rfl) rfl rfl (by (try simp only [List.map_toArray,List.map_cons,List.map_nil]);first|done|rfl|(simp only [List.length_drop,List.length_take];rfl)) ?_
           with_reducible refine (session_Down.calls x175000_1 x175001_1 x175002_1 x175003_1 t221 t222 t223 t224 _ A189.out).mono ?_
           rintro e w192 ⟨rfl,hb⟩
           refine ⟨_,rfl,?_⟩
           have n0_:=Aside0.mk (bB (g:=G174) (o:=.cells #[.int .u64 x175000_1,.int .u64 x175001_1,.bool x175002_1,.int .i64 x175003_1] 26 (0,0)) (by (with_reducible repeat first|apply bN|apply bD|apply bA);exact K174.1) hb)
           have n1_:=Aside0.mk (bB (g:=G177) (o:=.cells #[.int .u64 x178000_1,.int .u64 x178001_1,.bool x178002_1,.int .i64 x178003_1] 26 (0,0)) (by (with_reducible repeat first|apply bN|apply bD|apply bA);exact K177.1) hb)
           have n2_:=Aside0.mk (bB (g:=G180) (o:=.cells #[.int .i64 ((rd_T45 l1 x6_1).f0),.int .u64 ((rd_T45 l1 x6_1).f1),.int .u64 ((rd_T45 l1 x6_1).f2),.int .i64 ((rd_T45 l1 x6_1).f3)] 45 (0,0)) (by (with_reducible repeat first|apply bN|apply bD|apply bA);exact K180.1) hb)
           have n3_:=Aside0.mk (below_step (by repeat (first|(with_reducible first|exact HB.1|apply bwA|apply bwN|apply bw1|refine bS ?_ GE174.1|refine bS ?_ GE177.1|refine bS ?_ GE180.1)|exact HB.1)) hb)
           clear K174
           clear K177
           clear K180
           clear HB
           have K174:=n0_
           have K177:=n1_
           have K180:=n2_
           have HB:=n3_
           clear n0_ n1_ n2_ n3_
           (try clear hb)
           (try clear hb2)
           (try clear hk)
           (try clear hi)
           refine hK.out _ _ ⟨(bC K174.1 0).trans rfl,(bC K174.1 1).trans rfl,(bC K174.1 2).trans rfl,(bC K174.1 3).trans rfl,(bC K177.1 0).trans rfl,(bC K177.1 1).trans rfl,(bC K177.1 2).trans rfl,(bC K177.1 3).trans rfl⟩ (fun hHeld => ?_)
           clear hK K
           refine norm_ (a':=?_) ?_ ?_
           rotate_left
           ·show Act.put _ (some 134) _ = _
            simp only [Act.put,List.setIfInBounds_toArray,List.set_cons_zero,List.set_cons_succ,i64_w,i32_w]
            rfl
           refine one_ (i:=3) (N:=some 136) #[true,true,true,true,false,false] rfl rfl (by kernel_rfl) (by decide) (fun K hK => ?_)
           refine goes_ Try.func18 (by kernel_rfl) rfl #[.agg #[.int .u64 x178000_1,.int .u64 x178001_1,.bool x178002_1,.int .i64 x178003_1]] (by rfl) rfl rfl (by (try simp only [List.map_toArray,List.map_cons,List.map_nil]);first|done|rfl|(simp only [List.length_drop,List.length_take];rfl)) ?_
           with_reducible refine (beaconref12_Down.calls x178000_1 x178001_1 x178002_1 x178003_1 t225 t226 t227 t228 _ A190.out).mono ?_
           rintro e w193 ⟨rfl,hb⟩
           refine ⟨_,rfl,?_⟩
           have n0_:=Aside0.mk (bB (g:=G174) (o:=.cells #[.int .u64 x175000_1,.int .u64 x175001_1,.bool x175002_1,.int .i64 x175003_1] 26 (0,0)) (by (with_reducible repeat first|apply bN|apply bD|apply bA);exact K174.1) hb)
           have n1_:=Aside0.mk (bB (g:=G177) (o:=.cells #[.int .u64 x178000_1,.int .u64 x178001_1,.bool x178002_1,.int .i64 x178003_1] 26 (0,0)) (by (with_reducible repeat first|apply bN|apply bD|apply bA);exact K177.1) hb)
           have n2_:=Aside0.mk (bB (g:=G180) (o:=.cells #[.int .i64 ((rd_T45 l1 x6_1).f0),.int .u64 ((rd_T45 l1 x6_1).f1),.int .u64 ((rd_T45 l1 x6_1).f2),.int .i64 ((rd_T45 l1 x6_1).f3)] 45 (0,0)) (by (with_reducible repeat first|apply bN|apply bD|apply bA);exact K180.1) hb)
           have n3_:=Aside0.mk (below_step (by repeat (first|(with_reducible first|exact HB.1|apply bwA|apply bwN|apply bw1|refine bS ?_ GE174.1|refine bS ?_ GE177.1|refine bS ?_ GE180.1)|exact HB.1)) hb)
           clear K174
           clear K177
           clear K180
           clear HB
           have K174:=n0_
           have K177:=n1_
           have K180:=n2_
           have HB:=n3_
           clear n0_ n1_ n2_ n3_
           (try clear hb)
           (try clear hb2)
           (try clear hk)
           (try clear hi)
           refine hK.out _ _ ⟨(bC K174.1 0).trans rfl,(bC K174.1 1).trans rfl,(bC K174.1 2).trans rfl,(bC K174.1 3).trans rfl,(bC K177.1 0).trans rfl,(bC K177.1 1).trans rfl,(bC K177.1 2).trans rfl,(bC K177.1 3).trans rfl⟩ (fun hHeld => ?_)
           clear hK K
           refine norm_ (a':=?_) ?_ ?_
           rotate_left
           ·show Act.put _ (some 136) _ = _
            simp only [Act.put,List.setIfInBounds_toArray,List.set_cons_zero,List.set_cons_succ,i64_w,i32_w]
            rfl
           refine last_ (i:=4) (N:=none) #[true,true,true,true,true,false] rfl rfl (by kernel_rfl) (by decide) (fun K hK => ?_)
           have hs194 : w193.cell? ⟨G174,0,none⟩ = some (.int .u64 x175000_1):=(bC K174.1 0).trans rfl
           have hfs194:=bF K174.1 0
           have hns194_1:=NB177_174.1
           have hns194_2:=NB180_174.1
           have hms194_1:=NB174_177.1
           have hms194_2:=NB174_180.1
           have hs195 : w193.cell? ⟨G174,1,none⟩ = some (.int .u64 x175001_1):=(bC K174.1 1).trans rfl
           have hfs195:=bF K174.1 1
           have hns195_1:=NB177_174.1
           have hns195_2:=NB180_174.1
           have hms195_1:=NB174_177.1
           have hms195_2:=NB174_180.1
           have hs196 : w193.cell? ⟨G174,2,none⟩ = some (.bool x175002_1):=(bC K174.1 2).trans rfl
           have hfs196:=bF K174.1 2
           have hns196_1:=NB177_174.1
           have hns196_2:=NB180_174.1
           have hms196_1:=NB174_177.1
           have hms196_2:=NB174_180.1
           have hs197 : w193.cell? ⟨G174,3,none⟩ = some (.int .i64 x175003_1):=(bC K174.1 3).trans rfl
           have hfs197:=bF K174.1 3
           have hns197_1:=NB177_174.1
           have hns197_2:=NB180_174.1
           have hms197_1:=NB174_177.1
           have hms197_2:=NB174_180.1
           refine skip_ (w1:=?_) (by rfl) rfl ?_ ?_
           rotate_left
           ·go_simp
            rfl
           refine hK.out _ _ ?_
           clear hK K
           refine last_ (i:=5) (N:=none) #[true,true,true,true,true,true] rfl rfl (by kernel_rfl) (by decide) (fun K hK => ?_)
           have hs198 : w193.cell? ⟨G177,0,none⟩ = some (.int .u64 x178000_1):=(bC K177.1 0).trans rfl
           have hfs198:=bF K177.1 0
           have hns198_0:=NB174_177.1
           have hns198_2:=NB180_177.1
           have hms198_0:=NB177_174.1
           have hms198_2:=NB177_180.1
           have hs199 : w193.cell? ⟨G177,1,none⟩ = some (.int .u64 x178001_1):=(bC K177.1 1).trans rfl
           have hfs199:=bF K177.1 1
           have hns199_0:=NB174_177.1
           have hns199_2:=NB180_177.1
           have hms199_0:=NB177_174.1
           have hms199_2:=NB177_180.1
           have hs200 : w193.cell? ⟨G177,2,none⟩ = some (.bool x178002_1):=(bC K177.1 2).trans rfl
           have hfs200:=bF K177.1 2
           have hns200_0:=NB174_177.1
           have hns200_2:=NB180_177.1
           have hms200_0:=NB177_174.1
           have hms200_2:=NB177_180.1
           have hs201 : w193.cell? ⟨G177,3,none⟩ = some (.int .i64 x178003_1):=(bC K177.1 3).trans rfl
           have hfs201:=bF K177.1 3
           have hns201_0:=NB174_177.1
           have hns201_2:=NB180_177.1
           have hms201_0:=NB177_174.1
           have hms201_2:=NB177_180.1
           refine skip_ (w1:=?_) (by rfl) rfl ?_ ?_
           rotate_left
           ·go_simp
            rfl
           refine hK.out _ _ ?_
           clear hK K
           refine done_ (by kernel_rfl) ?_
           try go_wp2
           go_meet
           case rel => exact ⟨_,(true),(t221),(t222),(t223),(t224),(t225),(t226),(t227),(t228),(by first|rfl|(simp;done)|(simp [*];done)),H',⟨by have:=HK1.out;first|omega|exact Nat.le_refl _⟩,⟨by (with_reducible repeat first|apply bN|apply bD|apply bA);refine bZ ?_ NB174_177.1 _;(with_reducible repeat first|apply bN|apply bD|apply bA);refine bZ ?_ NB174_177.1 _;(with_reducible repeat first|apply bN|apply bD|apply bA);refine bZ ?_ NB174_177.1 _;(with_reducible repeat first|apply bN|apply bD|apply bA);refine bZ ?_ NB174_177.1 _;(with_reducible repeat first|apply bN|apply bD|apply bA);refine blk_put (cs:=#[.int .u64 t221,.int .u64 t222,.bool t223,.int .i64 x175003_1]) ?_ 3 _ rfl;(with_reducible repeat first|apply bN|apply bD|apply bA);refine blk_put (cs:=#[.int .u64 t221,.int .u64 t222,.bool x175002_1,.int .i64 x175003_1]) ?_ 2 _ rfl;(with_reducible repeat first|apply bN|apply bD|apply bA);refine blk_put (cs:=#[.int .u64 t221,.int .u64 x175001_1,.bool x175002_1,.int .i64 x175003_1]) ?_ 1 _ rfl;(with_reducible repeat first|apply bN|apply bD|apply bA);refine blk_put (cs:=#[.int .u64 x175000_1,.int .u64 x175001_1,.bool x175002_1,.int .i64 x175003_1]) ?_ 0 _ rfl;(with_reducible repeat first|apply bN|apply bD|apply bA);exact K174.1⟩,⟨by (with_reducible repeat first|apply bN|apply bD|apply bA);refine blk_put (cs:=#[.int .u64 t225,.int .u64 t226,.bool t227,.int .i64 x178003_1]) ?_ 3 _ rfl;(with_reducible repeat first|apply bN|apply bD|apply bA);refine blk_put (cs:=#[.int .u64 t225,.int .u64 t226,.bool x178002_1,.int .i64 x178003_1]) ?_ 2 _ rfl;(with_reducible repeat first|apply bN|apply bD|apply bA);refine blk_put (cs:=#[.int .u64 t225,.int .u64 x178001_1,.bool x178002_1,.int .i64 x178003_1]) ?_ 1 _ rfl;(with_reducible repeat first|apply bN|apply bD|apply bA);refine blk_put (cs:=#[.int .u64 x178000_1,.int .u64 x178001_1,.bool x178002_1,.int .i64 x178003_1]) ?_ 0 _ rfl;(with_reducible repeat first|apply bN|apply bD|apply bA);refine bZ ?_ NB177_174.1 _;(with_reducible repeat first|apply bN|apply bD|apply bA);refine bZ ?_ NB177_174.1 _;(with_reducible repeat first|apply bN|apply bD|apply bA);refine bZ ?_ NB177_174.1 _;(with_reducible repeat first|apply bN|apply bD|apply bA);refine bZ ?_ NB177_174.1 _;(with_reducible repeat first|apply bN|apply bD|apply bA);exact K177.1⟩,⟨by (with_reducible repeat first|apply bN|apply bD|apply bA);refine bZ ?_ NB180_177.1 _;(with_reducible repeat first|apply bN|apply bD|apply bA);refine bZ ?_ NB180_177.1 _;(with_reducible repeat first|apply bN|apply bD|apply bA);refine bZ ?_ NB180_177.1 _;(with_reducible repeat first|apply bN|apply bD|apply bA);refine bZ ?_ NB180_177.1 _;(with_reducible repeat first|apply bN|apply bD|apply bA);refine bZ ?_ NB180_174.1 _;(with_reducible repeat first|apply bN|apply bD|apply bA);refine bZ ?_ NB180_174.1 _;(with_reducible repeat first|apply bN|apply bD|apply bA);refine bZ ?_ NB180_174.1 _;(with_reducible repeat first|apply bN|apply bD|apply bA);refine bZ ?_ NB180_174.1 _;(with_reducible repeat first|apply bN|apply bD|apply bA);exact K180.1⟩,⟨by repeat (first|(with_reducible first|exact HB.1|apply bwA|apply bwN|apply bw1|refine bS ?_ GE174.1|refine bS ?_ GE177.1|refine bS ?_ GE180.1)|exact HB.1)⟩⟩
          ·rw [if_neg c188] at H
           have c188b0 : (((rd_T45 l1 x6_1).f0) == 3) = false:=beq_eq_false_iff_ne.mpr c188
           have c188b1 : (((rd_T45 l1 x6_1).f0) != 3) = true:=bne_iff_ne.mpr c188
           have H':=Aside0.mk H
           clear H
           go_wp2
           go_meet
           case rel => exact ⟨_,(true),(x175000_1),(x175001_1),(x175002_1),(x175003_1),(x178000_1),(x178001_1),(x178002_1),(x178003_1),(by first|rfl|(simp;done)|(simp [*];done)),H',⟨by have:=HK1.out;first|omega|exact Nat.le_refl _⟩,⟨by (with_reducible repeat first|apply bN|apply bD|apply bA);exact K174.1⟩,⟨by (with_reducible repeat first|apply bN|apply bD|apply bA);exact K177.1⟩,⟨by (with_reducible repeat first|apply bN|apply bD|apply bA);exact K180.1⟩,⟨by repeat (first|(with_reducible first|exact HB.1|apply bwA|apply bwN|apply bw1|refine bS ?_ GE174.1|refine bS ?_ GE177.1|refine bS ?_ GE180.1)|exact HB.1)⟩⟩
      case rest =>
       clear HC15
       try clear c1
       try clear p2
       try clear c8
       try clear c11
       try clear c12
       try clear c13
       try clear c14
       try clear c15
       try clear c16
       try clear c17
       try clear c18
       try clear c88
       try clear c88b0
       try clear c88b1
       try clear c130
       try clear c131
       try clear c132
       try clear c139
       try clear c140
       try clear c141
       try clear c142
       try clear c154
       try clear c154b0
       try clear c154b1
       try clear c157
       try clear c158
       try clear c160
       try clear c164
       try clear c165
       try clear c166
       try clear c173
       try clear c174
       try clear c175
       try clear c176
       try clear c188
       try clear c188b0
       try clear c188b1
       try clear hcz127_0
       try clear hcz127_1
       try clear hcz127_2
       try clear hcz127_3
       try clear hcz133_0
       try clear hcz133_1
       try clear hcz133_2
       try clear hcz133_3
       try clear hcz135_0
       try clear hcz135_1
       try clear hcz135_2
       try clear hcz135_3
       try clear hcz136_0
       try clear hcz136_1
       try clear hcz136_2
       try clear hcz136_3
       try clear hcz143_0
       try clear hcz143_1
       try clear hcz143_2
       try clear hcz143_3
       try clear hcz159_0
       try clear hcz159_1
       try clear hcz159_2
       try clear hcz159_3
       try clear hcz161_0
       try clear hcz161_1
       try clear hcz161_2
       try clear hcz161_3
       try clear hcz167_0
       try clear hcz167_1
       try clear hcz167_2
       try clear hcz167_3
       try clear hcz169_0
       try clear hcz169_1
       try clear hcz169_2
       try clear hcz169_3
       try clear hcz170_0
       try clear hcz170_1
       try clear hcz170_2
       try clear hcz170_3
       try clear hcz177_0
       try clear hcz177_1
       try clear hcz177_2
       try clear hcz177_3
       try clear hfz127_0
       try clear hfz127_1
       try clear hfz127_2
       try clear hfz127_3
       try clear hfz133_0
       try clear hfz133_1
       try clear hfz133_2
       try clear hfz133_3
       try clear hfz135_0
       try clear hfz135_1
       try clear hfz135_2
       try clear hfz135_3
       try clear hfz136_0
       try clear hfz136_1
       try clear hfz136_2
       try clear hfz136_3
       try clear hfz143_0
       try clear hfz143_1
       try clear hfz143_2
       try clear hfz143_3
       try clear hfz159_0
       try clear hfz159_1
       try clear hfz159_2
       try clear hfz159_3
       try clear hfz161_0
       try clear hfz161_1
       try clear hfz161_2
       try clear hfz161_3
       try clear hfz167_0
       try clear hfz167_1
       try clear hfz167_2
       try clear hfz167_3
       try clear hfz169_0
       try clear hfz169_1
       try clear hfz169_2
       try clear hfz169_3
       try clear hfz170_0
       try clear hfz170_1
       try clear hfz170_2
       try clear hfz170_3
       try clear hfz177_0
       try clear hfz177_1
       try clear hfz177_2
       try clear hfz177_3
       obtain ⟨kq,x8_14,x175000_14,x175001_14,x175002_14,x175003_14,x178000_14,x178001_14,x178002_14,x178003_14,rfl,HA,HJ14,K174,K177,K180,HB⟩:=hcut
       cases kq with
       | zero => exact absurd HA.out (by simp [beaconlaw12_SessionPlays.j1])
       | succ kj14 =>
        have H:=HA.out
        clear HA
        simp only [beaconlaw12_SessionPlays.j1] at H
        replace H:=Option.bind_eq_some_iff.mp H
        obtain ⟨⟨t229,t230⟩,A2020,H⟩:=H
        replace H : ((beaconref12_Hello.f x178000_14 x178001_14 x178002_14 x178003_14).bind fun bt231 => (if x8_14 = true then ((beaconref12_Same.f x175000_14 x175001_14 x175002_14 x175003_14 x178000_14 x178001_14 x178002_14 x178003_14).bind fun t233 => (if t233 = true then (if t229 = bt231.1 then (if t230 = bt231.2 then (beaconlaw12_SessionPlays.l0 kj14 l1 (wrap64 (x6_1 + 1)) x175000_14 x175001_14 x175002_14 x175003_14 x178000_14 x178001_14 x178002_14 x178003_14) else (some false)) else (some false)) else (some false))) else (some false))) = some r:=H
        have A202:=Aside0.mk A2020
        clear A2020
        replace H:=Option.bind_eq_some_iff.mp H
        obtain ⟨⟨t231,t232⟩,A2030,H⟩:=H
        replace H : (if x8_14 = true then ((beaconref12_Same.f x175000_14 x175001_14 x175002_14 x175003_14 x178000_14 x178001_14 x178002_14 x178003_14).bind fun t233 => (if t233 = true then (if t229 = t231 then (if t230 = t232 then (beaconlaw12_SessionPlays.l0 kj14 l1 (wrap64 (x6_1 + 1)) x175000_14 x175001_14 x175002_14 x175003_14 x178000_14 x178001_14 x178002_14 x178003_14) else (some false)) else (some false)) else (some false))) else (some false)) = some r:=H
        have A203:=Aside0.mk A2030
        clear A2030
        by_cases c204 : x8_14 = true
        ·subst c204
         have H1 : ((beaconref12_Same.f x175000_14 x175001_14 x175002_14 x175003_14 x178000_14 x178001_14 x178002_14 x178003_14).bind fun t233 => (if t233 = true then (if t229 = t231 then (if t230 = t232 then (beaconlaw12_SessionPlays.l0 kj14 l1 (wrap64 (x6_1 + 1)) x175000_14 x175001_14 x175002_14 x175003_14 x178000_14 x178001_14 x178002_14 x178003_14) else (some false)) else (some false)) else (some false))) = some r:=by rw [if_pos rfl] at H;exact H
         clear H
         have H:=H1
         clear H1
         replace H:=Option.bind_eq_some_iff.mp H
         obtain ⟨t233,A2050,H⟩:=H
         replace H : (if t233 = true then (if t229 = t231 then (if t230 = t232 then (beaconlaw12_SessionPlays.l0 kj14 l1 (wrap64 (x6_1 + 1)) x175000_14 x175001_14 x175002_14 x175003_14 x178000_14 x178001_14 x178002_14 x178003_14) else (some false)) else (some false)) else (some false)) = some r:=H
         have A205:=Aside0.mk A2050
         clear A2050
         by_cases c206 : t233 = true
         ·subst c206
          have H1 : (if t229 = t231 then (if t230 = t232 then (beaconlaw12_SessionPlays.l0 kj14 l1 (wrap64 (x6_1 + 1)) x175000_14 x175001_14 x175002_14 x175003_14 x178000_14 x178001_14 x178002_14 x178003_14) else (some false)) else (some false)) = some r:=by rw [if_pos rfl] at H;exact H
          clear H
          have H:=H1
          clear H1
          by_cases c207 : t229 = t231
          ·rw [if_pos c207] at H
           have c207b0 : (t229 == t231) = true:=beq_iff_eq.mpr c207
           have c207b1 : (t229 != t231) = false:=bne_eq_false_iff_eq.mpr c207
           clear c207
           by_cases c208 : t230 = t232
           ·rw [if_pos c208] at H
            have c208b0 : (t230 == t232) = true:=beq_iff_eq.mpr c208
            have c208b1 : (t230 != t232) = false:=bne_eq_false_iff_eq.mpr c208
            clear c208
            have H':=Aside0.mk H
            clear H
            have hnb209:=NB174_177.1
            have hnc209:=NB177_174.1
            have hnb210:=NB174_180.1
            have hnc210:=NB180_174.1
            have hcz211_0 : wc.cell? ⟨G174,0,none⟩ = some (.int .u64 x175000_14):=(bC K174.1 0).trans rfl
            have hcz211_1 : wc.cell? ⟨G174,1,none⟩ = some (.int .u64 x175001_14):=(bC K174.1 1).trans rfl
            have hcz211_2 : wc.cell? ⟨G174,2,none⟩ = some (.bool x175002_14):=(bC K174.1 2).trans rfl
            have hcz211_3 : wc.cell? ⟨G174,3,none⟩ = some (.int .i64 x175003_14):=(bC K174.1 3).trans rfl
            have hfz211_0:=bF K174.1 0
            have hfz211_1:=bF K174.1 1
            have hfz211_2:=bF K174.1 2
            have hfz211_3:=bF K174.1 3
            go_wp2_with (first|((with_reducible refine gate_callee (f:=9) rfl ?_);refine goesL_ (some 139) rfl rfl Try.func9 (by kernel_rfl) rfl #[.agg #[.int .u64 x175000_14,.int .u64 x175001_14,.bool x175002_14,.int .i64 x175003_14]] rfl (by (try simp only [List.map_toArray,List.map_cons,List.map_nil]);first|done|rfl|(simp only [List.length_drop,List.length_take];rfl)) ?_;(with_reducible refine (session_Hello.calls x175000_14 x175001_14 x175002_14 x175003_14 t229 t230 _ A202.out).mono ?_);rintro e w212 ⟨rfl,hb⟩;refine ⟨_,rfl,?_⟩;have n0_:=Aside0.mk (bB (g:=G174) (o:=.cells #[.int .u64 x175000_14,.int .u64 x175001_14,.bool x175002_14,.int .i64 x175003_14] 26 (0,0)) (by (with_reducible repeat first|apply bN|apply bD|apply bA);exact K174.1) hb);have n1_:=Aside0.mk (bB (g:=G177) (o:=.cells #[.int .u64 x178000_14,.int .u64 x178001_14,.bool x178002_14,.int .i64 x178003_14] 26 (0,0)) (by (with_reducible repeat first|apply bN|apply bD|apply bA);exact K177.1) hb);have n2_:=Aside0.mk (bB (g:=G180) (o:=.cells #[.int .i64 ((rd_T45 l1 x6_1).f0),.int .u64 ((rd_T45 l1 x6_1).f1),.int .u64 ((rd_T45 l1 x6_1).f2),.int .i64 ((rd_T45 l1 x6_1).f3)] 45 (0,0)) (by (with_reducible repeat first|apply bN|apply bD|apply bA);exact K180.1) hb);have n3_:=Aside0.mk (below_step (by repeat (first|(with_reducible first|exact HB.1|apply bwA|apply bwN|apply bw1|refine bS ?_ GE174.1|refine bS ?_ GE177.1|refine bS ?_ GE180.1)|exact HB.1)) hb);clear K174;clear K177;clear K180;clear HB;have K174:=n0_;have K177:=n1_;have K180:=n2_;have HB:=n3_;clear n0_ n1_ n2_ n3_;(try clear hb);(try clear hb2);(try clear hk);(try clear hi);have hnb213:=NB177_180.1;have hnc213:=NB180_177.1;have hcz214_0 : w212.cell? ⟨G177,0,none⟩ = some (.int .u64 x178000_14):=(bC K177.1 0).trans rfl;have hcz214_1 : w212.cell? ⟨G177,1,none⟩ = some (.int .u64 x178001_14):=(bC K177.1 1).trans rfl;have hcz214_2 : w212.cell? ⟨G177,2,none⟩ = some (.bool x178002_14):=(bC K177.1 2).trans rfl;have hcz214_3 : w212.cell? ⟨G177,3,none⟩ = some (.int .i64 x178003_14):=(bC K177.1 3).trans rfl;have hfz214_0:=bF K177.1 0;have hfz214_1:=bF K177.1 1;have hfz214_2:=bF K177.1 2;have hfz214_3:=bF K177.1 3)|((with_reducible refine gate_callee (f:=19) rfl ?_);refine goesL_ (some 144) rfl rfl Try.func19 (by kernel_rfl) rfl #[.agg #[.int .u64 x178000_14,.int .u64 x178001_14,.bool x178002_14,.int .i64 x178003_14]] rfl (by (try simp only [List.map_toArray,List.map_cons,List.map_nil]);first|done|rfl|(simp only [List.length_drop,List.length_take];rfl)) ?_;(with_reducible refine (beaconref12_Hello.calls x178000_14 x178001_14 x178002_14 x178003_14 t231 t232 _ A203.out).mono ?_);rintro e w215 ⟨rfl,hb⟩;refine ⟨_,rfl,?_⟩;have n0_:=Aside0.mk (bB (g:=G174) (o:=.cells #[.int .u64 x175000_14,.int .u64 x175001_14,.bool x175002_14,.int .i64 x175003_14] 26 (0,0)) (by (with_reducible repeat first|apply bN|apply bD|apply bA);exact K174.1) hb);have n1_:=Aside0.mk (bB (g:=G177) (o:=.cells #[.int .u64 x178000_14,.int .u64 x178001_14,.bool x178002_14,.int .i64 x178003_14] 26 (0,0)) (by (with_reducible repeat first|apply bN|apply bD|apply bA);exact K177.1) hb);have n2_:=Aside0.mk (bB (g:=G180) (o:=.cells #[.int .i64 ((rd_T45 l1 x6_1).f0),.int .u64 ((rd_T45 l1 x6_1).f1),.int .u64 ((rd_T45 l1 x6_1).f2),.int .i64 ((rd_T45 l1 x6_1).f3)] 45 (0,0)) (by (with_reducible repeat first|apply bN|apply bD|apply bA);exact K180.1) hb);have n3_:=Aside0.mk (below_step (by repeat (first|(with_reducible first|exact HB.1|apply bwA|apply bwN|apply bw1|refine bS ?_ GE174.1|refine bS ?_ GE177.1|refine bS ?_ GE180.1)|exact HB.1)) hb);clear K174;clear K177;clear K180;clear HB;have K174:=n0_;have K177:=n1_;have K180:=n2_;have HB:=n3_;clear n0_ n1_ n2_ n3_;(try clear hb);(try clear hb2);(try clear hk);(try clear hi);have hcz216_0 : w215.cell? ⟨G174,0,none⟩ = some (.int .u64 x175000_14):=(bC K174.1 0).trans rfl;have hcz216_1 : w215.cell? ⟨G174,1,none⟩ = some (.int .u64 x175001_14):=(bC K174.1 1).trans rfl;have hcz216_2 : w215.cell? ⟨G174,2,none⟩ = some (.bool x175002_14):=(bC K174.1 2).trans rfl;have hcz216_3 : w215.cell? ⟨G174,3,none⟩ = some (.int .i64 x175003_14):=(bC K174.1 3).trans rfl;have hfz216_0:=bF K174.1 0;have hfz216_1:=bF K174.1 1;have hfz216_2:=bF K174.1 2;have hfz216_3:=bF K174.1 3;have hcz217_0 : w215.cell? ⟨G177,0,none⟩ = some (.int .u64 x178000_14):=(bC K177.1 0).trans rfl;have hcz217_1 : w215.cell? ⟨G177,1,none⟩ = some (.int .u64 x178001_14):=(bC K177.1 1).trans rfl;have hcz217_2 : w215.cell? ⟨G177,2,none⟩ = some (.bool x178002_14):=(bC K177.1 2).trans rfl;have hcz217_3 : w215.cell? ⟨G177,3,none⟩ = some (.int .i64 x178003_14):=(bC K177.1 3).trans rfl;have hfz217_0:=bF K177.1 0;have hfz217_1:=bF K177.1 1;have hfz217_2:=bF K177.1 2;have hfz217_3:=bF K177.1 3)|(go_at_call 20;(with_reducible refine (beaconref12_Same.calls x175000_14 x175001_14 x175002_14 x175003_14 x178000_14 x178001_14 x178002_14 x178003_14 true _ A205.out).mono ?_);rintro e w218 ⟨rfl,hb⟩;have n0_:=Aside0.mk (bB (g:=G174) (o:=.cells #[.int .u64 x175000_14,.int .u64 x175001_14,.bool x175002_14,.int .i64 x175003_14] 26 (0,0)) (by (with_reducible repeat first|apply bN|apply bD|apply bA);exact K174.1) hb);have n1_:=Aside0.mk (bB (g:=G177) (o:=.cells #[.int .u64 x178000_14,.int .u64 x178001_14,.bool x178002_14,.int .i64 x178003_14] 26 (0,0)) (by (with_reducible repeat first|apply bN|apply bD|apply bA);exact K177.1) hb);have n2_:=Aside0.mk (bB (g:=G180) (o:=.cells #[.int .i64 ((rd_T45 l1 x6_1).f0),.int .u64 ((rd_T45 l1 x6_1).f1),.int .u64 ((rd_T45 l1 x6_1).f2),.int .i64 ((rd_T45 l1 x6_1).f3)] 45 (0,0)) (by (with_reducible repeat first|apply bN|apply bD|apply bA);exact K180.1) hb);have n3_:=Aside0.mk (below_step (by repeat (first|(with_reducible first|exact HB.1|apply bwA|apply bwN|apply bw1|refine bS ?_ GE174.1|refine bS ?_ GE177.1|refine bS ?_ GE180.1)|exact HB.1)) hb);clear K174;clear K177;clear K180;clear HB;have K174:=n0_;have K177:=n1_;have K180:=n2_;have HB:=n3_;clear n0_ n1_ n2_ n3_;(try clear hb);(try clear hb2);(try clear hk);(try clear hi)))
            go_roundg kj14
            case measure => have:=HK1.out;have:=HJ14.out;omega
            case rel => exact ⟨(wrap64 (x6_1 + 1)),(x175000_14),(x175001_14),(x175002_14),(x175003_14),(x178000_14),(x178001_14),(x178002_14),(x178003_14),(by first|rfl|(simp;done)|(simp [*];done)),H',⟨by have:=HK1.out;have:=HJ14.out;omega⟩,⟨by (with_reducible repeat first|apply bN|apply bD|apply bA);exact K174.1⟩,⟨by (with_reducible repeat first|apply bN|apply bD|apply bA);exact K177.1⟩,⟨by repeat (first|(with_reducible first|exact HB.1|apply bwA|apply bwN|apply bw1|refine bS ?_ GE174.1|refine bS ?_ GE177.1|refine bS ?_ GE180.1)|exact HB.1)⟩⟩
           ·rw [if_neg c208] at H
            have c208b0 : (t230 == t232) = false:=beq_eq_false_iff_ne.mpr c208
            have c208b1 : (t230 != t232) = true:=bne_iff_ne.mpr c208
            obtain rfl:=Option.some.inj H
            have hnb219:=NB174_177.1
            have hnc219:=NB177_174.1
            have hnb220:=NB174_180.1
            have hnc220:=NB180_174.1
            have hcz221_0 : wc.cell? ⟨G174,0,none⟩ = some (.int .u64 x175000_14):=(bC K174.1 0).trans rfl
            have hcz221_1 : wc.cell? ⟨G174,1,none⟩ = some (.int .u64 x175001_14):=(bC K174.1 1).trans rfl
            have hcz221_2 : wc.cell? ⟨G174,2,none⟩ = some (.bool x175002_14):=(bC K174.1 2).trans rfl
            have hcz221_3 : wc.cell? ⟨G174,3,none⟩ = some (.int .i64 x175003_14):=(bC K174.1 3).trans rfl
            have hfz221_0:=bF K174.1 0
            have hfz221_1:=bF K174.1 1
            have hfz221_2:=bF K174.1 2
            have hfz221_3:=bF K174.1 3
            go_wp2_with (first|((with_reducible refine gate_callee (f:=9) rfl ?_);refine goesL_ (some 139) rfl rfl Try.func9 (by kernel_rfl) rfl #[.agg #[.int .u64 x175000_14,.int .u64 x175001_14,.bool x175002_14,.int .i64 x175003_14]] rfl (by (try simp only [List.map_toArray,List.map_cons,List.map_nil]);first|done|rfl|(simp only [List.length_drop,List.length_take];rfl)) ?_;(with_reducible refine (session_Hello.calls x175000_14 x175001_14 x175002_14 x175003_14 t229 t230 _ A202.out).mono ?_);rintro e w222 ⟨rfl,hb⟩;refine ⟨_,rfl,?_⟩;have n0_:=Aside0.mk (bB (g:=G174) (o:=.cells #[.int .u64 x175000_14,.int .u64 x175001_14,.bool x175002_14,.int .i64 x175003_14] 26 (0,0)) (by (with_reducible repeat first|apply bN|apply bD|apply bA);exact K174.1) hb);have n1_:=Aside0.mk (bB (g:=G177) (o:=.cells #[.int .u64 x178000_14,.int .u64 x178001_14,.bool x178002_14,.int .i64 x178003_14] 26 (0,0)) (by (with_reducible repeat first|apply bN|apply bD|apply bA);exact K177.1) hb);have n2_:=Aside0.mk (bB (g:=G180) (o:=.cells #[.int .i64 ((rd_T45 l1 x6_1).f0),.int .u64 ((rd_T45 l1 x6_1).f1),.int .u64 ((rd_T45 l1 x6_1).f2),.int .i64 ((rd_T45 l1 x6_1).f3)] 45 (0,0)) (by (with_reducible repeat first|apply bN|apply bD|apply bA);exact K180.1) hb);have n3_:=Aside0.mk (below_step (by repeat (first|(with_reducible first|exact HB.1|apply bwA|apply bwN|apply bw1|refine bS ?_ GE174.1|refine bS ?_ GE177.1|refine bS ?_ GE180.1)|exact HB.1)) hb);clear K174;clear K177;clear K180;clear HB;have K174:=n0_;have K177:=n1_;have K180:=n2_;have HB:=n3_;clear n0_ n1_ n2_ n3_;(try clear hb);(try clear hb2);(try clear hk);(try clear hi);have hnb223:=NB177_180.1;have hnc223:=NB180_177.1;have hcz224_0 : w222.cell? ⟨G177,0,none⟩ = some (.int .u64 x178000_14):=(bC K177.1 0).trans rfl;have hcz224_1 : w222.cell? ⟨G177,1,none⟩ = some (.int .u64 x178001_14):=(bC K177.1 1).trans rfl;have hcz224_2 : w222.cell? ⟨G177,2,none⟩ = some (.bool x178002_14):=(bC K177.1 2).trans rfl;have hcz224_3 : w222.cell? ⟨G177,3,none⟩ = some (.int .i64 x178003_14):=(bC K177.1 3).trans rfl;have hfz224_0:=bF K177.1 0;have hfz224_1:=bF K177.1 1;have hfz224_2:=bF K177.1 2;have hfz224_3:=bF K177.1 3)|((with_reducible refine gate_callee (f:=19) rfl ?_);refine goesL_ (some 144) rfl rfl Try.func19 (by kernel_rfl) rfl #[.agg #[.int .u64 x178000_14,.int .u64 x178001_14,.bool x178002_14,.int .i64 x178003_14]] rfl (by (try simp only [List.map_toArray,List.map_cons,List.map_nil]);first|done|rfl|(simp only [List.length_drop,List.length_take];rfl)) ?_;(with_reducible refine (beaconref12_Hello.calls x178000_14 x178001_14 x178002_14 x178003_14 t231 t232 _ A203.out).mono ?_);rintro e w225 ⟨rfl,hb⟩;refine ⟨_,rfl,?_⟩;have n0_:=Aside0.mk (bB (g:=G174) (o:=.cells #[.int .u64 x175000_14,.int .u64 x175001_14,.bool x175002_14,.int .i64 x175003_14] 26 (0,0)) (by (with_reducible repeat first|apply bN|apply bD|apply bA);exact K174.1) hb);have n1_:=Aside0.mk (bB (g:=G177) (o:=.cells #[.int .u64 x178000_14,.int .u64 x178001_14,.bool x178002_14,.int .i64 x178003_14] 26 (0,0)) (by (with_reducible repeat first|apply bN|apply bD|apply bA);exact K177.1) hb);have n2_:=Aside0.mk (bB (g:=G180) (o:=.cells #[.int .i64 ((rd_T45 l1 x6_1).f0),.int .u64 ((rd_T45 l1 x6_1).f1),.int .u64 ((rd_T45 l1 x6_1).f2),.int .i64 ((rd_T45 l1 x6_1).f3)] 45 (0,0)) (by (with_reducible repeat first|apply bN|apply bD|apply bA);exact K180.1) hb);have n3_:=Aside0.mk (below_step (by repeat (first|(with_reducible first|exact HB.1|apply bwA|apply bwN|apply bw1|refine bS ?_ GE174.1|refine bS ?_ GE177.1|refine bS ?_ GE180.1)|exact HB.1)) hb);clear K174;clear K177;clear K180;clear HB;have K174:=n0_;have K177:=n1_;have K180:=n2_;have HB:=n3_;clear n0_ n1_ n2_ n3_;(try clear hb);(try clear hb2);(try clear hk);(try clear hi);have hcz226_0 : w225.cell? ⟨G174,0,none⟩ = some (.int .u64 x175000_14):=(bC K174.1 0).trans rfl;have hcz226_1 : w225.cell? ⟨G174,1,none⟩ = some (.int .u64 x175001_14):=(bC K174.1 1).trans rfl;have hcz226_2 : w225.cell? ⟨G174,2,none⟩ = some (.bool x175002_14):=(bC K174.1 2).trans rfl;have hcz226_3 : w225.cell? ⟨G174,3,none⟩ = some (.int .i64 x175003_14):=(bC K174.1 3).trans rfl;have hfz226_0:=bF K174.1 0;have hfz226_1:=bF K174.1 1;have hfz226_2:=bF K174.1 2;have hfz226_3:=bF K174.1 3;have hcz227_0 : w225.cell? ⟨G177,0,none⟩ = some (.int .u64 x178000_14):=(bC K177.1 0).trans rfl;have hcz227_1 : w225.cell? ⟨G177,1,none⟩ = some (.int .u64 x178001_14):=(bC K177.1 1).trans rfl;have hcz227_2 : w225.cell? ⟨G177,2,none⟩ = some (.bool x178002_14):=(bC K177.1 2).trans rfl;have hcz227_3 : w225.cell? ⟨G177,3,none⟩ = some (.int .i64 x178003_14):=(bC K177.1 3).trans rfl;have hfz227_0:=bF K177.1 0;have hfz227_1:=bF K177.1 1;have hfz227_2:=bF K177.1 2;have hfz227_3:=bF K177.1 3)|(go_at_call 20;(with_reducible refine (beaconref12_Same.calls x175000_14 x175001_14 x175002_14 x175003_14 x178000_14 x178001_14 x178002_14 x178003_14 true _ A205.out).mono ?_);rintro e w228 ⟨rfl,hb⟩;have n0_:=Aside0.mk (bB (g:=G174) (o:=.cells #[.int .u64 x175000_14,.int .u64 x175001_14,.bool x175002_14,.int .i64 x175003_14] 26 (0,0)) (by (with_reducible repeat first|apply bN|apply bD|apply bA);exact K174.1) hb);have n1_:=Aside0.mk (bB (g:=G177) (o:=.cells #[.int .u64 x178000_14,.int .u64 x178001_14,.bool x178002_14,.int .i64 x178003_14] 26 (0,0)) (by (with_reducible repeat first|apply bN|apply bD|apply bA);exact K177.1) hb);have n2_:=Aside0.mk (bB (g:=G180) (o:=.cells #[.int .i64 ((rd_T45 l1 x6_1).f0),.int .u64 ((rd_T45 l1 x6_1).f1),.int .u64 ((rd_T45 l1 x6_1).f2),.int .i64 ((rd_T45 l1 x6_1).f3)] 45 (0,0)) (by (with_reducible repeat first|apply bN|apply bD|apply bA);exact K180.1) hb);have n3_:=Aside0.mk (below_step (by repeat (first|(with_reducible first|exact HB.1|apply bwA|apply bwN|apply bw1|refine bS ?_ GE174.1|refine bS ?_ GE177.1|refine bS ?_ GE180.1)|exact HB.1)) hb);clear K174;clear K177;clear K180;clear HB;have K174:=n0_;have K177:=n1_;have K180:=n2_;have HB:=n3_;clear n0_ n1_ n2_ n3_;(try clear hb);(try clear hb2);(try clear hk);(try clear hi)))
            go_ret
            exact ⟨by first|rfl|(simp [errW_none,errW_some] <;> rfl)|(simp [*,errW_none,errW_some] <;> rfl),by repeat (first|(with_reducible first|exact HB.1|apply bwA|apply bwN|apply bw1|refine bS ?_ GE174.1|refine bS ?_ GE177.1|refine bS ?_ GE180.1)|exact HB.1)⟩
          ·rw [if_neg c207] at H
           have c207b0 : (t229 == t231) = false:=beq_eq_false_iff_ne.mpr c207
           have c207b1 : (t229 != t231) = true:=bne_iff_ne.mpr c207
           obtain rfl:=Option.some.inj H
           have hnb229:=NB174_177.1
           have hnc229:=NB177_174.1
           have hnb230:=NB174_180.1
           have hnc230:=NB180_174.1
           have hcz231_0 : wc.cell? ⟨G174,0,none⟩ = some (.int .u64 x175000_14):=(bC K174.1 0).trans rfl
           have hcz231_1 : wc.cell? ⟨G174,1,none⟩ = some (.int .u64 x175001_14):=(bC K174.1 1).trans rfl
           have hcz231_2 : wc.cell? ⟨G174,2,none⟩ = some (.bool x175002_14):=(bC K174.1 2).trans rfl
           have hcz231_3 : wc.cell? ⟨G174,3,none⟩ = some (.int .i64 x175003_14):=(bC K174.1 3).trans rfl
           have hfz231_0:=bF K174.1 0
           have hfz231_1:=bF K174.1 1
           have hfz231_2:=bF K174.1 2
           have hfz231_3:=bF K174.1 3
           go_wp2_with (first|((with_reducible refine gate_callee (f:=9) rfl ?_);refine goesL_ (some 139) rfl rfl Try.func9 (by kernel_rfl) rfl #[.agg #[.int .u64 x175000_14,.int .u64 x175001_14,.bool x175002_14,.int .i64 x175003_14]] rfl (by (try simp only [List.map_toArray,List.map_cons,List.map_nil]);first|done|rfl|(simp only [List.length_drop,List.length_take];rfl)) ?_;(with_reducible refine (session_Hello.calls x175000_14 x175001_14 x175002_14 x175003_14 t229 t230 _ A202.out).mono ?_);rintro e w232 ⟨rfl,hb⟩;refine ⟨_,rfl,?_⟩;have n0_:=Aside0.mk (bB (g:=G174) (o:=.cells #[.int .u64 x175000_14,.int .u64 x175001_14,.bool x175002_14,.int .i64 x175003_14] 26 (0,0)) (by (with_reducible repeat first|apply bN|apply bD|apply bA);exact K174.1) hb);have n1_:=Aside0.mk (bB (g:=G177) (o:=.cells #[.int .u64 x178000_14,.int .u64 x178001_14,.bool x178002_14,.int .i64 x178003_14] 26 (0,0)) (by (with_reducible repeat first|apply bN|apply bD|apply bA);exact K177.1) hb);have n2_:=Aside0.mk (bB (g:=G180) (o:=.cells #[.int .i64 ((rd_T45 l1 x6_1).f0),.int .u64 ((rd_T45 l1 x6_1).f1),.int .u64 ((rd_T45 l1 x6_1).f2),.int .i64 ((rd_T45 l1 x6_1).f3)] 45 (0,0)) (by (with_reducible repeat first|apply bN|apply bD|apply bA);exact K180.1) hb);have n3_:=Aside0.mk (below_step (by repeat (first|(with_reducible first|exact HB.1|apply bwA|apply bwN|apply bw1|refine bS ?_ GE174.1|refine bS ?_ GE177.1|refine bS ?_ GE180.1)|exact HB.1)) hb);clear K174;clear K177;clear K180;clear HB;have K174:=n0_;have K177:=n1_;have K180:=n2_;have HB:=n3_;clear n0_ n1_ n2_ n3_;(try clear hb);(try clear hb2);(try clear hk);(try clear hi);have hnb233:=NB177_180.1;have hnc233:=NB180_177.1;have hcz234_0 : w232.cell? ⟨G177,0,none⟩ = some (.int .u64 x178000_14):=(bC K177.1 0).trans rfl;have hcz234_1 : w232.cell? ⟨G177,1,none⟩ = some (.int .u64 x178001_14):=(bC K177.1 1).trans rfl;have hcz234_2 : w232.cell? ⟨G177,2,none⟩ = some (.bool x178002_14):=(bC K177.1 2).trans rfl;have hcz234_3 : w232.cell? ⟨G177,3,none⟩ = some (.int .i64 x178003_14):=(bC K177.1 3).trans rfl;have hfz234_0:=bF K177.1 0;have hfz234_1:=bF K177.1 1;have hfz234_2:=bF K177.1 2;have hfz234_3:=bF K177.1 3)|((with_reducible refine gate_callee (f:=19) rfl ?_);refine goesL_ (some 144) rfl rfl Try.func19 (by kernel_rfl) rfl #[.agg #[.int .u64 x178000_14,.int .u64 x178001_14,.bool x178002_14,.int .i64 x178003_14]] rfl (by (try simp only [List.map_toArray,List.map_cons,List.map_nil]);first|done|rfl|(simp only [List.length_drop,List.length_take];rfl)) ?_;(with_reducible refine (beaconref12_Hello.calls x178000_14 x178001_14 x178002_14 x178003_14 t231 t232 _ A203.out).mono ?_);rintro e w235 ⟨rfl,hb⟩;refine ⟨_,rfl,?_⟩;have n0_:=Aside0.mk (bB (g:=G174) (o:=.cells #[.int .u64 x175000_14,.int .u64 x175001_14,.bool x175002_14,.int .i64 x175003_14] 26 (0,0)) (by (with_reducible repeat first|apply bN|apply bD|apply bA);exact K174.1) hb);have n1_:=Aside0.mk (bB (g:=G177) (o:=.cells #[.int .u64 x178000_14,.int .u64 x178001_14,.bool x178002_14,.int .i64 x178003_14] 26 (0,0)) (by (with_reducible repeat first|apply bN|apply bD|apply bA);exact K177.1) hb);have n2_:=Aside0.mk (bB (g:=G180) (o:=.cells #[.int .i64 ((rd_T45 l1 x6_1).f0),.int .u64 ((rd_T45 l1 x6_1).f1),.int .u64 ((rd_T45 l1 x6_1).f2),.int .i64 ((rd_T45 l1 x6_1).f3)] 45 (0,0)) (by (with_reducible repeat first|apply bN|apply bD|apply bA);exact K180.1) hb);have n3_:=Aside0.mk (below_step (by repeat (first|(with_reducible first|exact HB.1|apply bwA|apply bwN|apply bw1|refine bS ?_ GE174.1|refine bS ?_ GE177.1|refine bS ?_ GE180.1)|exact HB.1)) hb);clear K174;clear K177;clear K180;clear HB;have K174:=n0_;have K177:=n1_;have K180:=n2_;have HB:=n3_;clear n0_ n1_ n2_ n3_;(try clear hb);(try clear hb2);(try clear hk);(try clear hi);have hcz236_0 : w235.cell? ⟨G174,0,none⟩ = some (.int .u64 x175000_14):=(bC K174.1 0).trans rfl;have hcz236_1 : w235.cell? ⟨G174,1,none⟩ = some (.int .u64 x175001_14):=(bC K174.1 1).trans rfl;have hcz236_2 : w235.cell? ⟨G174,2,none⟩ = some (.bool x175002_14):=(bC K174.1 2).trans rfl;have hcz236_3 : w235.cell? ⟨G174,3,none⟩ = some (.int .i64 x175003_14):=(bC K174.1 3).trans rfl;have hfz236_0:=bF K174.1 0;have hfz236_1:=bF K174.1 1;have hfz236_2:=bF K174.1 2;have hfz236_3:=bF K174.1 3;have hcz237_0 : w235.cell? ⟨G177,0,none⟩ = some (.int .u64 x178000_14):=(bC K177.1 0).trans rfl;have hcz237_1 : w235.cell? ⟨G177,1,none⟩ = some (.int .u64 x178001_14):=(bC K177.1 1).trans rfl;have hcz237_2 : w235.cell? ⟨G177,2,none⟩ = some (.bool x178002_14):=(bC K177.1 2).trans rfl;have hcz237_3 : w235.cell? ⟨G177,3,none⟩ = some (.int .i64 x178003_14):=(bC K177.1 3).trans rfl;have hfz237_0:=bF K177.1 0;have hfz237_1:=bF K177.1 1;have hfz237_2:=bF K177.1 2;have hfz237_3:=bF K177.1 3)|(go_at_call 20;(with_reducible refine (beaconref12_Same.calls x175000_14 x175001_14 x175002_14 x175003_14 x178000_14 x178001_14 x178002_14 x178003_14 true _ A205.out).mono ?_);rintro e w238 ⟨rfl,hb⟩;have n0_:=Aside0.mk (bB (g:=G174) (o:=.cells #[.int .u64 x175000_14,.int .u64 x175001_14,.bool x175002_14,.int .i64 x175003_14] 26 (0,0)) (by (with_reducible repeat first|apply bN|apply bD|apply bA);exact K174.1) hb);have n1_:=Aside0.mk (bB (g:=G177) (o:=.cells #[.int .u64 x178000_14,.int .u64 x178001_14,.bool x178002_14,.int .i64 x178003_14] 26 (0,0)) (by (with_reducible repeat first|apply bN|apply bD|apply bA);exact K177.1) hb);have n2_:=Aside0.mk (bB (g:=G180) (o:=.cells #[.int .i64 ((rd_T45 l1 x6_1).f0),.int .u64 ((rd_T45 l1 x6_1).f1),.int .u64 ((rd_T45 l1 x6_1).f2),.int .i64 ((rd_T45 l1 x6_1).f3)] 45 (0,0)) (by (with_reducible repeat first|apply bN|apply bD|apply bA);exact K180.1) hb);have n3_:=Aside0.mk (below_step (by repeat (first|(with_reducible first|exact HB.1|apply bwA|apply bwN|apply bw1|refine bS ?_ GE174.1|refine bS ?_ GE177.1|refine bS ?_ GE180.1)|exact HB.1)) hb);clear K174;clear K177;clear K180;clear HB;have K174:=n0_;have K177:=n1_;have K180:=n2_;have HB:=n3_;clear n0_ n1_ n2_ n3_;(try clear hb);(try clear hb2);(try clear hk);(try clear hi)))
           go_ret
           exact ⟨by first|rfl|(simp [errW_none,errW_some] <;> rfl)|(simp [*,errW_none,errW_some] <;> rfl),by repeat (first|(with_reducible first|exact HB.1|apply bwA|apply bwN|apply bw1|refine bS ?_ GE174.1|refine bS ?_ GE177.1|refine bS ?_ GE180.1)|exact HB.1)⟩
         ·replace c206:=Bool.eq_false_iff.mpr c206
          subst c206
          have H1 : (some false) = some r:=by rw [if_neg (show ¬ (false = true) by decide)] at H;exact H
          clear H
          have H:=H1
          clear H1
          obtain rfl:=Option.some.inj H
          have hnb239:=NB174_177.1
          have hnc239:=NB177_174.1
          have hnb240:=NB174_180.1
          have hnc240:=NB180_174.1
          have hcz241_0 : wc.cell? ⟨G174,0,none⟩ = some (.int .u64 x175000_14):=(bC K174.1 0).trans rfl
          have hcz241_1 : wc.cell? ⟨G174,1,none⟩ = some (.int .u64 x175001_14):=(bC K174.1 1).trans rfl
          have hcz241_2 : wc.cell? ⟨G174,2,none⟩ = some (.bool x175002_14):=(bC K174.1 2).trans rfl
          have hcz241_3 : wc.cell? ⟨G174,3,none⟩ = some (.int .i64 x175003_14):=(bC K174.1 3).trans rfl
          have hfz241_0:=bF K174.1 0
          have hfz241_1:=bF K174.1 1
          have hfz241_2:=bF K174.1 2
          have hfz241_3:=bF K174.1 3
          go_wp2_with (first|((with_reducible refine gate_callee (f:=9) rfl ?_);refine goesL_ (some 139) rfl rfl Try.func9 (by kernel_rfl) rfl #[.agg #[.int .u64 x175000_14,.int .u64 x175001_14,.bool x175002_14,.int .i64 x175003_14]] rfl (by (try simp only [List.map_toArray,List.map_cons,List.map_nil]);first|done|rfl|(simp only [List.length_drop,List.length_take];rfl)) ?_;(with_reducible refine (session_Hello.calls x175000_14 x175001_14 x175002_14 x175003_14 t229 t230 _ A202.out).mono ?_);rintro e w242 ⟨rfl,hb⟩;refine ⟨_,rfl,?_⟩;have n0_:=Aside0.mk (bB (g:=G174) (o:=.cells #[.int .u64 x175000_14,.int .u64 x175001_14,.bool x175002_14,.int .i64 x175003_14] 26 (0,0)) (by (with_reducible repeat first|apply bN|apply bD|apply bA);exact K174.1) hb);have n1_:=Aside0.mk (bB (g:=G177) (o:=.cells #[.int .u64 x178000_14,.int .u64 x178001_14,.bool x178002_14,.int .i64 x178003_14] 26 (0,0)) (by (with_reducible repeat first|apply bN|apply bD|apply bA);exact K177.1) hb);have n2_:=Aside0.mk (bB (g:=G180) (o:=.cells #[.int .i64 ((rd_T45 l1 x6_1).f0),.int .u64 ((rd_T45 l1 x6_1).f1),.int .u64 ((rd_T45 l1 x6_1).f2),.int .i64 ((rd_T45 l1 x6_1).f3)] 45 (0,0)) (by (with_reducible repeat first|apply bN|apply bD|apply bA);exact K180.1) hb);have n3_:=Aside0.mk (below_step (by repeat (first|(with_reducible first|exact HB.1|apply bwA|apply bwN|apply bw1|refine bS ?_ GE174.1|refine bS ?_ GE177.1|refine bS ?_ GE180.1)|exact HB.1)) hb);clear K174;clear K177;clear K180;clear HB;have K174:=n0_;have K177:=n1_;have K180:=n2_;have HB:=n3_;clear n0_ n1_ n2_ n3_;(try clear hb);(try clear hb2);(try clear hk);(try clear hi);have hnb243:=NB177_180.1;have hnc243:=NB180_177.1;have hcz244_0 : w242.cell? ⟨G177,0,none⟩ = some (.int .u64 x178000_14):=(bC K177.1 0).trans rfl;have hcz244_1 : w242.cell? ⟨G177,1,none⟩ = some (.int .u64 x178001_14):=(bC K177.1 1).trans rfl;have hcz244_2 : w242.cell? ⟨G177,2,none⟩ = some (.bool x178002_14):=(bC K177.1 2).trans rfl;have hcz244_3 : w242.cell? ⟨G177,3,none⟩ = some (.int .i64 x178003_14):=(bC K177.1 3).trans rfl;have hfz244_0:=bF K177.1 0;have hfz244_1:=bF K177.1 1;have hfz244_2:=bF K177.1 2;have hfz244_3:=bF K177.1 3)|((with_reducible refine gate_callee (f:=19) rfl ?_);refine goesL_ (some 144) rfl rfl Try.func19 (by kernel_rfl) rfl #[.agg #[.int .u64 x178000_14,.int .u64 x178001_14,.bool x178002_14,.int .i64 x178003_14]] rfl (by (try simp only [List.map_toArray,List.map_cons,List.map_nil]);first|done|rfl|(simp only [List.length_drop,List.length_take];rfl)) ?_;(with_reducible refine (beaconref12_Hello.calls x178000_14 x178001_14 x178002_14 x178003_14 t231 t232 _ A203.out).mono ?_);rintro e w245 ⟨rfl,hb⟩;refine ⟨_,rfl,?_⟩;have n0_:=Aside0.mk (bB (g:=G174) (o:=.cells #[.int .u64 x175000_14,.int .u64 x175001_14,.bool x175002_14,.int .i64 x175003_14] 26 (0,0)) (by (with_reducible repeat first|apply bN|apply bD|apply bA);exact K174.1) hb);have n1_:=Aside0.mk (bB (g:=G177) (o:=.cells #[.int .u64 x178000_14,.int .u64 x178001_14,.bool x178002_14,.int .i64 x178003_14] 26 (0,0)) (by (with_reducible repeat first|apply bN|apply bD|apply bA);exact K177.1) hb);have n2_:=Aside0.mk (bB (g:=G180) (o:=.cells #[.int .i64 ((rd_T45 l1 x6_1).f0),.int .u64 ((rd_T45 l1 x6_1).f1),.int .u64 ((rd_T45 l1 x6_1).f2),.int .i64 ((rd_T45 l1 x6_1).f3)] 45 (0,0)) (by (with_reducible repeat first|apply bN|apply bD|apply bA);exact K180.1) hb);have n3_:=Aside0.mk (below_step (by repeat (first|(with_reducible first|exact HB.1|apply bwA|apply bwN|apply bw1|refine bS ?_ GE174.1|refine bS ?_ GE177.1|refine bS ?_ GE180.1)|exact HB.1)) hb);clear K174;clear K177;clear K180;clear HB;have K174:=n0_;have K177:=n1_;have K180:=n2_;have HB:=n3_;clear n0_ n1_ n2_ n3_;(try clear hb);(try clear hb2);(try clear hk);(try clear hi);have hcz246_0 : w245.cell? ⟨G174,0,none⟩ = some (.int .u64 x175000_14):=(bC K174.1 0).trans rfl;have hcz246_1 : w245.cell? ⟨G174,1,none⟩ = some (.int .u64 x175001_14):=(bC K174.1 1).trans rfl;have hcz246_2 : w245.cell? ⟨G174,2,none⟩ = some (.bool x175002_14):=(bC K174.1 2).trans rfl;have hcz246_3 : w245.cell? ⟨G174,3,none⟩ = some (.int .i64 x175003_14):=(bC K174.1 3).trans rfl;have hfz246_0:=bF K174.1 0;have hfz246_1:=bF K174.1 1;have hfz246_2:=bF K174.1 2;have hfz246_3:=bF K174.1 3;have hcz247_0 : w245.cell? ⟨G177,0,none⟩ = some (.int .u64 x178000_14):=(bC K177.1 0).trans rfl;have hcz247_1 : w245.cell? ⟨G177,1,none⟩ = some (.int .u64 x178001_14):=(bC K177.1 1).trans rfl;have hcz247_2 : w245.cell? ⟨G177,2,none⟩ = some (.bool x178002_14):=(bC K177.1 2).trans rfl;have hcz247_3 : w245.cell? ⟨G177,3,none⟩ = some (.int .i64 x178003_14):=(bC K177.1 3).trans rfl;have hfz247_0:=bF K177.1 0;have hfz247_1:=bF K177.1 1;have hfz247_2:=bF K177.1 2;have hfz247_3:=bF K177.1 3)|(go_at_call 20;(with_reducible refine (beaconref12_Same.calls x175000_14 x175001_14 x175002_14 x175003_14 x178000_14 x178001_14 x178002_14 x178003_14 false _ A205.out).mono ?_);rintro e w248 ⟨rfl,hb⟩;have n0_:=Aside0.mk (bB (g:=G174) (o:=.cells #[.int .u64 x175000_14,.int .u64 x175001_14,.bool x175002_14,.int .i64 x175003_14] 26 (0,0)) (by (with_reducible repeat first|apply bN|apply bD|apply bA);exact K174.1) hb);have n1_:=Aside0.mk (bB (g:=G177) (o:=.cells #[.int .u64 x178000_14,.int .u64 x178001_14,.bool x178002_14,.int .i64 x178003_14] 26 (0,0)) (by (with_reducible repeat first|apply bN|apply bD|apply bA);exact K177.1) hb);have n2_:=Aside0.mk (bB (g:=G180) (o:=.cells #[.int .i64 ((rd_T45 l1 x6_1).f0),.int .u64 ((rd_T45 l1 x6_1).f1),.int .u64 ((rd_T45 l1 x6_1).f2),.int .i64 ((rd_T45 l1 x6_1).f3)] 45 (0,0)) (by (with_reducible repeat first|apply bN|apply bD|apply bA);exact K180.1) hb);have n3_:=Aside0.mk (below_step (by repeat (first|(with_reducible first|exact HB.1|apply bwA|apply bwN|apply bw1|refine bS ?_ GE174.1|refine bS ?_ GE177.1|refine bS ?_ GE180.1)|exact HB.1)) hb);clear K174;clear K177;clear K180;clear HB;have K174:=n0_;have K177:=n1_;have K180:=n2_;have HB:=n3_;clear n0_ n1_ n2_ n3_;(try clear hb);(try clear hb2);(try clear hk);(try clear hi)))
          go_ret
          exact ⟨by first|rfl|(simp [errW_none,errW_some] <;> rfl)|(simp [*,errW_none,errW_some] <;> rfl),by repeat (first|(with_reducible first|exact HB.1|apply bwA|apply bwN|apply bw1|refine bS ?_ GE174.1|refine bS ?_ GE177.1|refine bS ?_ GE180.1)|exact HB.1)⟩
        ·replace c204:=Bool.eq_false_iff.mpr c204
         subst c204
         have H1 : (some false) = some r:=by rw [if_neg (show ¬ (false = true) by decide)] at H;exact H
         clear H
         have H:=H1
         clear H1
         obtain rfl:=Option.some.inj H
         have hnb249:=NB174_177.1
         have hnc249:=NB177_174.1
         have hnb250:=NB174_180.1
         have hnc250:=NB180_174.1
         have hcz251_0 : wc.cell? ⟨G174,0,none⟩ = some (.int .u64 x175000_14):=(bC K174.1 0).trans rfl
         have hcz251_1 : wc.cell? ⟨G174,1,none⟩ = some (.int .u64 x175001_14):=(bC K174.1 1).trans rfl
         have hcz251_2 : wc.cell? ⟨G174,2,none⟩ = some (.bool x175002_14):=(bC K174.1 2).trans rfl
         have hcz251_3 : wc.cell? ⟨G174,3,none⟩ = some (.int .i64 x175003_14):=(bC K174.1 3).trans rfl
         have hfz251_0:=bF K174.1 0
         have hfz251_1:=bF K174.1 1
         have hfz251_2:=bF K174.1 2
         have hfz251_3:=bF K174.1 3
         go_wp2_with (first|((with_reducible refine gate_callee (f:=9) rfl ?_);refine goesL_ (some 139) rfl rfl Try.func9 (by kernel_rfl) rfl #[.agg #[.int .u64 x175000_14,.int .u64 x175001_14,.bool x175002_14,.int .i64 x175003_14]] rfl (by (try simp only [List.map_toArray,List.map_cons,List.map_nil]);first|done|rfl|(simp only [List.length_drop,List.length_take];rfl)) ?_;(with_reducible refine (session_Hello.calls x175000_14 x175001_14 x175002_14 x175003_14 t229 t230 _ A202.out).mono ?_);rintro e w252 ⟨rfl,hb⟩;refine ⟨_,rfl,?_⟩;have n0_:=Aside0.mk (bB (g:=G174) (o:=.cells #[.int .u64 x175000_14,.int .u64 x175001_14,.bool x175002_14,.int .i64 x175003_14] 26 (0,0)) (by (with_reducible repeat first|apply bN|apply bD|apply bA);exact K174.1) hb);have n1_:=Aside0.mk (bB (g:=G177) (o:=.cells #[.int .u64 x178000_14,.int .u64 x178001_14,.bool x178002_14,.int .i64 x178003_14] 26 (0,0)) (by (with_reducible repeat first|apply bN|apply bD|apply bA);exact K177.1) hb);have n2_:=Aside0.mk (bB (g:=G180) (o:=.cells #[.int .i64 ((rd_T45 l1 x6_1).f0),.int .u64 ((rd_T45 l1 x6_1).f1),.int .u64 ((rd_T45 l1 x6_1).f2),.int .i64 ((rd_T45 l1 x6_1).f3)] 45 (0,0)) (by (with_reducible repeat first|apply bN|apply bD|apply bA);exact K180.1) hb);have n3_:=Aside0.mk (below_step (by repeat (first|(with_reducible first|exact HB.1|apply bwA|apply bwN|apply bw1|refine bS ?_ GE174.1|refine bS ?_ GE177.1|refine bS ?_ GE180.1)|exact HB.1)) hb);clear K174;clear K177;clear K180;clear HB;have K174:=n0_;have K177:=n1_;have K180:=n2_;have HB:=n3_;clear n0_ n1_ n2_ n3_;(try clear hb);(try clear hb2);(try clear hk);(try clear hi);have hnb253:=NB177_180.1;have hnc253:=NB180_177.1;have hcz254_0 : w252.cell? ⟨G177,0,none⟩ = some (.int .u64 x178000_14):=(bC K177.1 0).trans rfl;have hcz254_1 : w252.cell? ⟨G177,1,none⟩ = some (.int .u64 x178001_14):=(bC K177.1 1).trans rfl;have hcz254_2 : w252.cell? ⟨G177,2,none⟩ = some (.bool x178002_14):=(bC K177.1 2).trans rfl;have hcz254_3 : w252.cell? ⟨G177,3,none⟩ = some (.int .i64 x178003_14):=(bC K177.1 3).trans rfl;have hfz254_0:=bF K177.1 0;have hfz254_1:=bF K177.1 1;have hfz254_2:=bF K177.1 2;have hfz254_3:=bF K177.1 3)|((with_reducible refine gate_callee (f:=19) rfl ?_);refine goesL_ (some 144) rfl rfl Try.func19 (by kernel_rfl) rfl #[.agg #[.int .u64 x178000_14,.int .u64 x178001_14,.bool x178002_14,.int .i64 x178003_14]] rfl (by (try simp only [List.map_toArray,List.map_cons,List.map_nil]);first|done|rfl|(simp only [List.length_drop,List.length_take];rfl)) ?_;(with_reducible refine (beaconref12_Hello.calls x178000_14 x178001_14 x178002_14 x178003_14 t231 t232 _ A203.out).mono ?_);rintro e w255 ⟨rfl,hb⟩;refine ⟨_,rfl,?_⟩;have n0_:=Aside0.mk (bB (g:=G174) (o:=.cells #[.int .u64 x175000_14,.int .u64 x175001_14,.bool x175002_14,.int .i64 x175003_14] 26 (0,0)) (by (with_reducible repeat first|apply bN|apply bD|apply bA);exact K174.1) hb);have n1_:=Aside0.mk (bB (g:=G177) (o:=.cells #[.int .u64 x178000_14,.int .u64 x178001_14,.bool x178002_14,.int .i64 x178003_14] 26 (0,0)) (by (with_reducible repeat first|apply bN|apply bD|apply bA);exact K177.1) hb);have n2_:=Aside0.mk (bB (g:=G180) (o:=.cells #[.int .i64 ((rd_T45 l1 x6_1).f0),.int .u64 ((rd_T45 l1 x6_1).f1),.int .u64 ((rd_T45 l1 x6_1).f2),.int .i64 ((rd_T45 l1 x6_1).f3)] 45 (0,0)) (by (with_reducible repeat first|apply bN|apply bD|apply bA);exact K180.1) hb);have n3_:=Aside0.mk (below_step (by repeat (first|(with_reducible first|exact HB.1|apply bwA|apply bwN|apply bw1|refine bS ?_ GE174.1|refine bS ?_ GE177.1|refine bS ?_ GE180.1)|exact HB.1)) hb);clear K174;clear K177;clear K180;clear HB;have K174:=n0_;have K177:=n1_;have K180:=n2_;have HB:=n3_;clear n0_ n1_ n2_ n3_;(try clear hb);(try clear hb2);(try clear hk);(try clear hi)))
         go_ret
         exact ⟨by first|rfl|(simp [errW_none,errW_some] <;> rfl)|(simp [*,errW_none,errW_some] <;> rfl),by repeat (first|(with_reducible first|exact HB.1|apply bwA|apply bwN|apply bw1|refine bS ?_ GE174.1|refine bS ?_ GE177.1|refine bS ?_ GE180.1)|exact HB.1)⟩
     ·rw [if_neg c14] at H
      exact absurd H (by simp)
    ·rw [if_neg c13] at H
     have c13b0 : decide (x6_1 < (l1.length : Int)) = false:=decide_eq_false c13
     clear c13
     replace H:=Option.bind_eq_some_iff.mp H
     obtain ⟨t178,A2560,H⟩:=H
     replace H : (some t178) = some r:=H
     have A256:=Aside0.mk A2560
     clear A2560
     obtain rfl:=Option.some.inj H
     go_wp2_with (first|((with_reducible refine gate_callee (f:=8) rfl ?_);refine goesL_ (some 165) rfl rfl Try.func8 (by kernel_rfl) rfl #[] rfl (by (try simp only [List.map_toArray,List.map_cons,List.map_nil]);first|done|rfl|(simp only [List.length_drop,List.length_take];rfl)) ?_;(with_reducible refine (beaconlaw12_awake.calls k1  t178 _ A256.out).mono ?_);rintro e w257 ⟨rfl,hb⟩;refine ⟨_,rfl,?_⟩;have n0_:=Aside0.mk (bB (g:=G174) (o:=.cells #[.int .u64 x175000_1,.int .u64 x175001_1,.bool x175002_1,.int .i64 x175003_1] 26 (0,0)) (by (with_reducible repeat first|apply bN|apply bD|apply bA);exact K174.1) hb);have n1_:=Aside0.mk (bB (g:=G177) (o:=.cells #[.int .u64 x178000_1,.int .u64 x178001_1,.bool x178002_1,.int .i64 x178003_1] 26 (0,0)) (by (with_reducible repeat first|apply bN|apply bD|apply bA);exact K177.1) hb);have n2_:=Aside0.mk (below_step (by repeat (first|(with_reducible first|exact HB.1|apply bwA|apply bwN|apply bw1|refine bS ?_ GE174.1|refine bS ?_ GE177.1)|exact HB.1)) hb);clear K174;clear K177;clear HB;have K174:=n0_;have K177:=n1_;have HB:=n2_;clear n0_ n1_ n2_;(try clear hb);(try clear hb2);(try clear hk);(try clear hi)))
     go_ret
     exact ⟨by first|rfl|(simp [errW_none,errW_some] <;> rfl)|(simp [*,errW_none,errW_some] <;> rfl),by repeat (first|(with_reducible first|exact HB.1|apply bwA|apply bwN|apply bw1|refine bS ?_ GE174.1|refine bS ?_ GE177.1)|exact HB.1)⟩
 ·replace c4:=Bool.eq_false_iff.mpr c4
  subst c4
  have H1 : ((beaconlaw12_awake.f k).bind fun t176 => (some t176)) = some r:=by rw [if_neg (show ¬ (false = true) by decide)] at H;exact H
  clear H
  have H:=H1
  clear H1
  replace H:=Option.bind_eq_some_iff.mp H
  obtain ⟨t176,A2580,H⟩:=H
  replace H : (some t176) = some r:=H
  have A258:=Aside0.mk A2580
  clear A2580
  obtain rfl:=Option.some.inj H
  go_enter Try.func4,Try.ntmps4
  go_wp2_with (first|((with_reducible refine gate_dst (N:=2) rfl ?_);refine box_event ?hg (N:=2) ?hd (cs:=#[.int .u64 a0_0,.int .u64 a0_1,.bool a0_2,.int .i64 a0_3]) (t:=26) ?hr ?_;(case hd => rfl);(case hg => rfl);(case hr => first|(go_simp;done)|(go_simp;rfl));intro G174 hg w259 hbox hb;have n0_:=Aside0.mk (below_step (by repeat (first|(with_reducible first|exact HB.1|apply bwA|apply bwN|apply bw1)|exact HB.1)) hb);have n1_:=Aside0.mk (hbox);have n2_:=Aside0.mk ((by rw [hg];exact (below_size (by repeat (first|(with_reducible first|exact HB.1|apply bwA|apply bwN|apply bw1)|exact HB.1))) : w.heap.size ≤ G174));have n3_:=Aside0.mk ((by rw [hg];exact (below_size (by repeat (first|(with_reducible first|exact HB.1|apply bwA|apply bwN|apply bw1)|exact HB.1))) : w.heap.size ≤ G174));clear HB;have HB:=n0_;have K174:=n1_;have GW174:=n2_;have GE174:=n3_;clear n0_ n1_ n2_ n3_;clear hb hbox hg;have hcz260_0 : w259.cell? ⟨G174,0,none⟩ = some (.int .u64 a0_0):=(bC K174.1 0).trans rfl;have hcz260_1 : w259.cell? ⟨G174,1,none⟩ = some (.int .u64 a0_1):=(bC K174.1 1).trans rfl;have hcz260_2 : w259.cell? ⟨G174,2,none⟩ = some (.bool a0_2):=(bC K174.1 2).trans rfl;have hcz260_3 : w259.cell? ⟨G174,3,none⟩ = some (.int .i64 a0_3):=(bC K174.1 3).trans rfl;have hfz260_0:=bF K174.1 0;have hfz260_1:=bF K174.1 1;have hfz260_2:=bF K174.1 2;have hfz260_3:=bF K174.1 3)|((with_reducible refine gate_callee (f:=13) rfl ?_);refine goesL_ (some 30) rfl rfl Try.func13 (by kernel_rfl) rfl #[.agg #[.int .u64 a0_0,.int .u64 a0_1,.bool a0_2,.int .i64 a0_3]] rfl (by (try simp only [List.map_toArray,List.map_cons,List.map_nil]);first|done|rfl|(simp only [List.length_drop,List.length_take];rfl)) ?_;(with_reducible refine (beaconref12_May.calls a0_0 a0_1 a0_2 a0_3 false _ A3.out).mono ?_);rintro e w261 ⟨rfl,hb⟩;refine ⟨_,rfl,?_⟩;have n0_:=Aside0.mk (bB (g:=G174) (o:=.cells #[.int .u64 a0_0,.int .u64 a0_1,.bool a0_2,.int .i64 a0_3] 26 (0,0)) (by (with_reducible repeat first|apply bN|apply bD|apply bA);exact K174.1) hb);have n1_:=Aside0.mk (below_step (by repeat (first|(with_reducible first|exact HB.1|apply bwA|apply bwN|apply bw1|refine bS ?_ GE174.1)|exact HB.1)) hb);clear K174;clear HB;have K174:=n0_;have HB:=n1_;clear n0_ n1_;(try clear hb);(try clear hb2);(try clear hk);(try clear hi))|((with_reducible refine gate_callee (f:=8) rfl ?_);refine goesL_ (some 32) rfl rfl Try.func8 (by kernel_rfl) rfl #[] rfl (by (try simp only [List.map_toArray,List.map_cons,List.map_nil]);first|done|rfl|(simp only [List.length_drop,List.length_take];rfl)) ?_;(with_reducible refine (beaconlaw12_awake.calls k  t176 _ A258.out).mono ?_);rintro e w262 ⟨rfl,hb⟩;refine ⟨_,rfl,?_⟩;have n0_:=Aside0.mk (bB (g:=G174) (o:=.cells #[.int .u64 a0_0,.int .u64 a0_1,.bool a0_2,.int .i64 a0_3] 26 (0,0)) (by (with_reducible repeat first|apply bN|apply bD|apply bA);exact K174.1) hb);have n1_:=Aside0.mk (below_step (by repeat (first|(with_reducible first|exact HB.1|apply bwA|apply bwN|apply bw1|refine bS ?_ GE174.1)|exact HB.1)) hb);clear K174;clear HB;have K174:=n0_;have HB:=n1_;clear n0_ n1_;(try clear hb);(try clear hb2);(try clear hk);(try clear hi)))
  go_ret
  exact ⟨by first|rfl|(simp [errW_none,errW_some] <;> rfl)|(simp [*,errW_none,errW_some] <;> rfl),by repeat (first|(with_reducible first|exact HB.1|apply bwA|apply bwN|apply bw1|refine bS ?_ GE174.1)|exact HB.1)⟩

end Go.Proofs.Ytjodekffbobmlaa.XS
