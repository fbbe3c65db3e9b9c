/- Go functions of this seat as Lean functions, with proofs that the calls come to them. (Written by xprint.py, a program of this session, over the kit's print.) -/
import Derived.Test.YtpcgjdllgdkobaaXDx0
import Derived.Test.YtpcgjdllgdkobaaXDx8
import Derived.Test.YtpcgjdllgdkobaaXDx11
import Derived.Test.YtpcgjdllgdkobaaXDx23
import Derived.Test.YtpcgjdllgdkobaaXDx24
namespace Go.Proofs.Ytpcgjdllgdkobaa.XD
open Go.RowKit Go.Proofs.YtpcgjdllgdkobaaW.PrintWords Go.Proofs.YtpcgjdllgdkobaaW.PrintLast Go.Proofs.YtpcgjdllgdkobaaW.PrintMore
theorem zown (A : Option Addr) (a b c : Nat) : (Value.slice A a c).ownBlock = (Value.slice A b c).ownBlock := by cases A <;> rfl
attribute [local go_sem] max2_int min2_int max_two min_two max_three min_three max_four min_four   -- for this text's walks alone
set_option linter.unusedVariables false
set_option linter.unusedSimpArgs false
open List renaming setIfInBounds_toArray → xA, set_cons_zero → xB, set_cons_succ → xC
open Go.Proofs.YtpcgjdllgdkobaaW.PrintWords renaming blk_drewN → bN, blk_drew → bD, blk_alloc → bA, below_set → bS, blk_frozen → bF, blk_cell → bC, cell_far → cF, blk_far → bZ, blk_below → bB, pw_below_drewN → bwN, below_drew1 → bw1, below_alloc → bwA
open Go.Proofs.YtpcgjdllgdkobaaW.PrintZ
open Bool renaming true → T,false → F

/-! ### delta_copied: function 39 -/
def delta_copied.f (a0_0 : Int) (l0_1 : List (S61)) (l0_2 : List (S61)) (a0_3 : Bool) (a0_4 : Int) : Option (Int × (List (S61)) × (List (S61)) × Bool × Int) := (delta_own.f l0_1).bind fun t387 => ((delta_own.f l0_2).bind fun t390 => (some (a0_0, t387, t390, a0_3, a0_4)))
def delta_copied.T1 : Bool × List (List Nat × List Nat) := (true, [([], []), ([0], [0]), ([1], [1]), ([], []), ([3], [3]), ([4, 2], [4]), ([0, 1, 2, 3, 4], []), ([6, 2, 5, 0, 1, 2, 3, 4], [2, 6]), ([0, 1, 2, 3, 4, 5, 6, 7], []), ([8, 5, 7, 0, 1, 2, 3, 4, 5, 6, 7], [5, 8])])
def delta_copied.B1 : List Nat := [0, 1, 3, 0, 8, 31, 31, 127, 255, 511]
theorem delta_copied.tab1 : rtab .any (opsOf Try.f39 1) = delta_copied.T1 := by kernel_rfl
theorem delta_copied.bits1 : waitsOk delta_copied.T1.2 delta_copied.B1 = true := by kernel_rfl
set_option maxHeartbeats 8000000 in
set_option maxRecDepth 100000 in
theorem delta_copied.calls (a0_0 : Int) (A0_1 : Option Addr) (c0_1 : Nat) (l0_1 : List (S61)) (A0_2 : Option Addr) (c0_2 : Nat) (l0_2 : List (S61)) (a0_3 : Bool) (a0_4 : Int) (r1 : Int) (r2 : List (S61)) (r3 : List (S61)) (r4 : Bool) (r5 : Int) (w : World) (hr0_1 : Kd.C k61 w A0_1 l0_1.length l0_1) (hc0_1 : l0_1.length ≤ c0_1) (hr0_2 : Kd.C k61 w A0_2 l0_2.length l0_2) (hc0_2 : l0_2.length ≤ c0_2) (h : delta_copied.f a0_0 l0_1 l0_2 a0_3 a0_4 = some (r1, r2, r3, r4, r5)) :
  Calls Try.prog 39 #[.agg #[.int .u64 a0_0,.slice A0_1 l0_1.length c0_1,.slice A0_2 l0_2.length c0_2,.bool a0_3,.int .i64 a0_4]] w fun e w' => ∃ v1_ v2_ : Value,e = .returned (.agg #[.int .u64 r1,v1_,v2_,.bool r4,.int .i64 r5]) ∧ Kd.R k61 61 w' w.heap.size (fun k_ => some k_ ≠ (v2_ : Value).ownBlock) v1_ r2 ∧ Kd.R k61 61 w' w.heap.size (fun k_ => some k_ ≠ (v1_ : Value).ownBlock) v2_ r3 ∧ Below w.heap.size w w':=by
 have hu39:=Try.underlying39
 have HR0_1:=zA hr0_1
 have HC0_1:=zA hc0_1
 clear hr0_1 hc0_1
 have HR0_2:=zA hr0_2
 have HC0_2:=zA hc0_2
 clear hr0_2 hc0_2
 have HB:=zA (Below.refl w.heap.size w)
 have H : ((delta_own.f l0_1).bind fun t387 => ((delta_own.f l0_2).bind fun t390 => (some (a0_0,t387,t390,a0_3,a0_4)))) = some (r1,r2,r3,r4,r5):=h
 clear h
 replace H:=Option.bind_eq_some_iff.mp H
 obtain ⟨t387,A20,H⟩:=H
 (try dsimp only at H)
 have A2:=zA A20
 clear A20
 replace H:=Option.bind_eq_some_iff.mp H
 obtain ⟨t390,A30,H⟩:=H
 (try dsimp only at H)
 have A3:=zA A30
 clear A30
 simp only [Option.some.injEq,Prod.mk.injEq] at H
 obtain ⟨rfl,rfl,rfl,rfl,rfl⟩:=H
 go_enter Try.func39,Try.ntmps39
 try go_wp2_with (first|((with_reducible refine gate_dst (N:=1) rfl ?_);refine zb (N:=1) (cs:=#[.int .u64 a0_0,.slice A0_1 l0_1.length c0_1,.slice A0_2 l0_2.length c0_2,.bool a0_3,.int .i64 a0_4]) (t:=39) ?_;intro G385 hg w4 hbox hb;have K385:=zA (hbox);have GW385:=zN HB hg;have GE385:=zN HB hg;replace HB:=zS HB hb;clear hb hbox hg)|((with_reducible refine gate_dst (N:=2) rfl ?_);refine zb (N:=2) (cs:=#[.int .u64 0,.slice none 0 0,.slice none 0 0,.bool false,.int .i64 0]) (t:=39) ?_;intro G386 hg w5 hbox hb;have K386:=zA (hbox);have GW386:=zN HB hg;have GE386:=zN HB hg;replace HB:=zS HB hb;have NB385_386:=zL K385 hg;have NB386_385:=zG K385 hg;replace K385:=zB K385 hb;clear hb hbox hg))
 replace K385:=zA (bD K385.1)
 replace K386:=zA (bD K386.1)
 replace HB:=zA (bw1 HB.1)
 refine start_ (n:=10) (S:=fun w' => w'.cell? ⟨G385,0,none⟩ = some (.int .u64 a0_0) ∧ w'.cell? ⟨G385,1,none⟩ = some (.slice A0_1 l0_1.length c0_1) ∧ w'.cell? ⟨G385,2,none⟩ = some (.slice A0_2 l0_2.length c0_2) ∧ w'.cell? ⟨G385,3,none⟩ = some (.bool a0_3) ∧ w'.cell? ⟨G385,4,none⟩ = some (.int .i64 a0_4)) (ds:=[7,9]) #[F,F,F,F,F,F,F,F,F,F] (by kernel_rfl) rfl rfl ⟨zk K385 0,zk K385 1,zk K385 2,zk K385 3,zk K385 4⟩ (fun hHeld => ?_);refine with_tabW delta_copied.tab1 delta_copied.bits1 (fun HT_ HW_ => ?_)
 generalize w5.drew = w6 at K385 K386 HB hHeld ⊢
 refine pz 0 3 #[T,F,F,F,F,F,F,F,F,F] HT_.1 ?_
 refine pz 3 6 #[T,F,F,T,F,F,F,F,F,F] HT_.1 ?_
 refine tz 1 4 #[T,T,F,T,F,F,F,F,F,F] HT_.1 HW_.1 hHeld ?_
 refine tz 4 7 #[T,T,F,T,T,F,F,F,F,F] HT_.1 HW_.1 hHeld ?_
 refine one_ (i:=2) (N:=some 5) #[T,T,T,T,T,F,F,F,F,F] rfl rfl (one_of HT_.out (by kernel_rfl)) (by decide) (fun K hK => ?_)
 refine zo_ Try.func40 #[.slice A0_1 l0_1.length c0_1] ?_
 with_reducible refine (delta_own.calls _ _ l0_1 t387 _ ?side1 ?side2 A2.out).mono ?_
 (case side1 => exact zC (Kd.C_below HR0_1.out HB.1))
 (case side2 => exact HC0_1.out)
 rintro e w7 ⟨v388,rfl,ho0,hb⟩
 refine ⟨_,rfl,?_⟩
 have HO389:=zA (Kd.R_lower ho0 (zW HB))
 replace K385:=zB K385 hb
 replace K386:=zB K386 hb
 replace HB:=zS HB hb
 (try clear hb)
 (try clear hb2)
 (try clear hk)
 (try clear hi)
 (try clear ho0)
 refine hK.out _ _ ⟨zk K385 0,zk K385 1,zk K385 2,zk K385 3,zk K385 4⟩ (fun hHeld => ?_)
 clear hK K
 refine nz 5 ?_
 refine pz 6 9 #[T,T,T,T,T,F,T,F,F,F] HT_.1 ?_
 refine one_ (i:=5) (N:=some 8) #[T,T,T,T,T,T,T,F,F,F] rfl rfl (one_of HT_.out (by kernel_rfl)) (by decide) (fun K hK => ?_)
 refine zo_ Try.func40 #[.slice A0_2 l0_2.length c0_2] ?_
 with_reducible refine (delta_own.calls _ _ l0_2 t390 _ ?side1 ?side2 A3.out).mono ?_
 (case side1 => exact zC (Kd.C_below HR0_2.out HB.1))
 (case side2 => exact HC0_2.out)
 rintro e w8 ⟨v391,rfl,ho0,hb⟩
 refine ⟨_,rfl,?_⟩
 have HO392:=zA (Kd.R_lower (Kd.R_new' ho0 (Kd.R_lt (zR HO389))) (zW HB))
 replace HO389:=zA (Kd.R_elder' (zR HO389) (Kd.R_base ho0) hb)
 replace K385:=zB K385 hb
 replace K386:=zB K386 hb
 replace HB:=zS HB hb
 (try clear hb)
 (try clear hb2)
 (try clear hk)
 (try clear hi)
 (try clear ho0)
 obtain ⟨Ao9,co9,eo9⟩:=Kd.R_slice HO389.out
 (first|subst eo9|(injection eo9 with f1_ f2_ f3_;have f4_:=f1_.symm;have f5_:=f3_.symm;clear f1_ f2_ f3_;subst f4_;subst f5_))
 obtain ⟨Ao11,co11,eo11⟩:=Kd.R_slice HO392.out
 (first|subst eo11|(injection eo11 with f1_ f2_ f3_;have f4_:=f1_.symm;have f5_:=f3_.symm;clear f1_ f2_ f3_;subst f4_;subst f5_))
 refine hK.out _ _ ⟨zk K385 0,zk K385 1,zk K385 2,zk K385 3,zk K385 4⟩ (fun hHeld => ?_)
 clear hK K
 refine nz 8 ?_
 refine last_ (i:=7) (N:=none) #[T,T,T,T,T,T,T,T,F,F] rfl rfl (one_of HT_.out (by kernel_rfl)) (by decide) (fun K hK => ?_)
 have hs10 : w8.cell? ⟨G385,1,none⟩ = some (.slice A0_1 l0_1.length c0_1):=zk K385 1
 have hfs10:=bF K385.1 1
 have:=NB386_385.1
 have:=NB385_386.1
 refine sz ?_
 refine hK.out _ _ ?_
 clear hK K
 refine pz 8 10 #[T,T,T,T,T,T,T,T,T,F] HT_.1 ?_
 refine last_ (i:=9) (N:=none) #[T,T,T,T,T,T,T,T,T,T] rfl rfl (one_of HT_.out (by kernel_rfl)) (by decide) (fun K hK => ?_)
 have hs12 : w8.cell? ⟨G385,2,none⟩ = some (.slice A0_2 l0_2.length c0_2):=zk K385 2
 have hfs12:=bF K385.1 2
 refine sz ?_
 refine hK.out _ _ ?_
 clear hK K
 refine done_ (done_of HT_.out (by kernel_rfl)) ?_
 obtain ⟨hcz14_0,hcz14_1,hcz14_2,hcz14_3,hcz14_4,hfz14_0,hfz14_1,hfz14_2,hfz14_3,hfz14_4⟩:=zc5 K385
 obtain ⟨hcz15_0,hcz15_1,hcz15_2,hcz15_3,hcz15_4,hfz15_0,hfz15_1,hfz15_2,hfz15_3,hfz15_4⟩:=zc5 K386
 try go_wp2_with (first|((with_reducible refine gate_store (t:=39) (p:=2) rfl ?_);refine store_event (t:=39) (p:=2) (v:=?vo_w16) (w1:=(((((((w8.setCell ⟨G385,1,none⟩ (.slice Ao9 t387.length co9)).setCell ⟨G385,2,none⟩ (.slice Ao11 t390.length co11)).setCell ⟨G386,0,none⟩ (.int .u64 a0_0)).setCell ⟨G386,1,none⟩ (.slice Ao9 t387.length co9)).setCell ⟨G386,2,none⟩ (.slice Ao11 t390.length co11)).setCell ⟨G386,3,none⟩ (.bool a0_3)).setCell ⟨G386,4,none⟩ (.int .i64 a0_4))) ?hg ?ho ?hn ?hr ?_;(case ho => rfl);(case hg => rfl);(case hn => rfl);(case hr => first|(go_simp;done)|(go_simp;rfl));intro w16 hw;replace HO389 : Aside0 (Kd.R k61 61 w16 w.heap.size (fun k_ => some k_ ≠ (.slice Ao11 t390.length co11 : Value).ownBlock) (.slice Ao9 t387.length co9) t387):=⟨(by rw [hw];exact (by (with_reducible repeat (first|apply Kd.R_alloc|apply Kd.R_drewN|apply Kd.R_drew));exact Kd.R_mono (Kd.R_far (p:=⟨G386,4,none⟩) (Kd.R_far (p:=⟨G386,3,none⟩) (Kd.R_far (p:=⟨G386,2,none⟩) (Kd.R_far (p:=⟨G386,1,none⟩) (Kd.R_far (p:=⟨G386,0,none⟩) (Kd.R_far (p:=⟨G385,2,none⟩) (Kd.R_far (p:=⟨G385,1,none⟩) (Kd.R_types (Kd.R_types HO389.out K385.1 (by decide)) K386.1 (by decide)) (fun _ hk => hk.1.2) (.slice Ao9 t387.length co9)) (fun _ hk => hk.1.2) (.slice Ao11 t390.length co11)) (fun _ hk => hk.2) (.int .u64 a0_0)) (fun _ hk => hk.2) (.slice Ao9 t387.length co9)) (fun _ hk => hk.2) (.slice Ao11 t390.length co11)) (fun _ hk => hk.2) (.bool a0_3)) (fun _ hk => hk.2) (.int .i64 a0_4)) (fun _ hk => hk.1.1.2)))⟩;replace HO392 : Aside0 (Kd.R k61 61 w16 w.heap.size (fun k_ => some k_ ≠ (.slice Ao9 t387.length co9 : Value).ownBlock) (.slice Ao11 t390.length co11) t390):=⟨(by rw [hw];exact (by (with_reducible repeat (first|apply Kd.R_alloc|apply Kd.R_drewN|apply Kd.R_drew));exact Kd.R_mono (Kd.R_far (p:=⟨G386,4,none⟩) (Kd.R_far (p:=⟨G386,3,none⟩) (Kd.R_far (p:=⟨G386,2,none⟩) (Kd.R_far (p:=⟨G386,1,none⟩) (Kd.R_far (p:=⟨G386,0,none⟩) (Kd.R_far (p:=⟨G385,2,none⟩) (Kd.R_far (p:=⟨G385,1,none⟩) (Kd.R_types (Kd.R_types HO392.out K385.1 (by decide)) K386.1 (by decide)) (fun _ hk => hk.1.2) (.slice Ao9 t387.length co9)) (fun _ hk => hk.1.2) (.slice Ao11 t390.length co11)) (fun _ hk => hk.2) (.int .u64 a0_0)) (fun _ hk => hk.2) (.slice Ao9 t387.length co9)) (fun _ hk => hk.2) (.slice Ao11 t390.length co11)) (fun _ hk => hk.2) (.bool a0_3)) (fun _ hk => hk.2) (.int .i64 a0_4)) (fun _ hk => hk.1.1.2)))⟩;replace K385:=zVp hw (.cells #[.int .u64 a0_0,.slice Ao9 t387.length co9,.slice Ao11 t390.length co11,.bool a0_3,.int .i64 a0_4] 39 (0,0)) K385;replace K386:=zVp hw (.cells #[.int .u64 a0_0,.slice Ao9 t387.length co9,.slice Ao11 t390.length co11,.bool a0_3,.int .i64 a0_4] 39 (0,0)) K386;replace HB:=zU hw HB;clear hw))
 refine bodyPost_ret (results_cell_row rfl _ _ G386 39 #[.int .u64 a0_0,.slice Ao9 t387.length co9,.slice Ao11 t390.length co11,.bool a0_3,.int .i64 a0_4] (0,0) _ rfl (zF K386) Try.underlying39 rfl (by kernel_rfl)) rfl ?_
 exact ⟨_,_,by first|rfl|(simp [errW_none,errW_some] <;> rfl)|(simp [*,errW_none,errW_some] <;> rfl),by (with_reducible repeat (first|apply Kd.R_alloc|apply Kd.R_drewN|apply Kd.R_drew));exact HO389.out,by (with_reducible repeat (first|apply Kd.R_alloc|apply Kd.R_drewN|apply Kd.R_drew));exact HO392.out,zH HB⟩

/-! ### delta_Offer: function 19 -/
def delta_Offer.j0 : Nat → List (S61) → Bool → Int → List (S61) → List (S61) → Bool → Int → Option (Int × (List (S61)) × (List (S61)) × Bool × Int × (List (S61)) × Bool × Int)
 | 0, _, _, _, _, _, _, _ => none
 | k + 1, x1, x18, x394000, x394001, x394002, x394003, x394004 => if x18 = true then (some (x394000, x394001, x394002, x394003, x394004, ([] : List (S61)), false, 1)) else (if x394003 = true then (some (x394000, x394001, x394002, x394003, x394004, ([] : List (S61)), false, 0)) else ((delta_diff.f x394001 x1).bind fun t406 => (if (t406.length : Int) = 0 then (some (x394000, x394001, x394002, x394003, x394004, ([] : List (S61)), false, 0)) else (if x394000 = 18446744073709551615 then (some (x394000, x394001, x394002, x394003, x394004, ([] : List (S61)), false, 2)) else (if 0 ≤ (mn (t406.length : Int) 512) then (if (mn (t406.length : Int) 512) ≤ (t406.length : Int) then ((some (t406.take ((mn (t406.length : Int) 512) : Int).toNat : List (S61))).bind fun y409 => ((delta_copied.f (IntKind.u64.wrap (x394000 + 1)) x394001 y409 true 0).bind fun bt412 => ((delta_own.f y409).bind fun t421 => (some (bt412.1, bt412.2.1, bt412.2.2.1, bt412.2.2.2.1, bt412.2.2.2.2, t421, true, 0))))) else (none)) else (none))))))
def delta_Offer.f (k : Nat) (a0_0 : Int) (l0_1 : List (S61)) (l0_2 : List (S61)) (a0_3 : Bool) (a0_4 : Int) (l1 : List (S61)) : Option (Int × (List (S61)) × (List (S61)) × Bool × Int × (List (S61)) × Bool × Int) := (delta_copied.f a0_0 l0_1 l0_2 a0_3 a0_4).bind fun bt395 => ((delta_Check.f k bt395.1 bt395.2.1 bt395.2.2.1 bt395.2.2.2.1 bt395.2.2.2.2).bind fun t404 => (if t404 = 0 then ((delta_list.f k l1).bind fun t405 => (delta_Offer.j0 k l1 (!t405) bt395.1 bt395.2.1 bt395.2.2.1 bt395.2.2.2.1 bt395.2.2.2.2)) else (delta_Offer.j0 k l1 true bt395.1 bt395.2.1 bt395.2.2.1 bt395.2.2.2.1 bt395.2.2.2.2)))
theorem delta_Offer.mono_l : ∀ k, (∀ y0 y1 y2 y3 y4 y5 y6, LeO (delta_Offer.j0 k y0 y1 y2 y3 y4 y5 y6) (delta_Offer.j0 (k + 1) y0 y1 y2 y3 y4 y5 y6))
 | 0 => fun _ _ _ _ _ _ _ r h => by simp [delta_Offer.j0] at h
 | k + 1 => by
  have ih0:=delta_Offer.mono_l k
  ·intro y0 y1 y2 y3 y4 y5 y6
   unfold delta_Offer.j0
   repeat' first
   | (with_reducible exact ih0 _ _ _ _ _ _ _)
   | (with_reducible exact delta_Check.mono _ _ _ _ _ _)
   | (with_reducible exact delta_list.mono _ _)
   | (with_reducible exact LeO.refl _)
   | (with_reducible exact LeO.none _)
   | (with_reducible refine LeO.ite ?_ ?_)
   | (with_reducible refine LeO.bind ?_ (fun _ => ?_))
   | exact ih0 _ _ _ _ _ _ _
   | exact delta_Check.mono _ _ _ _ _ _
   | exact delta_list.mono _ _
   | exact LeO.none _
   | refine LeO.ite ?_ ?_
   | refine LeO.bind ?_ (fun _ => ?_)
theorem delta_Offer.mono : ∀ a0 a1 a2 a3 a4 a5 k, LeO (delta_Offer.f k a0 a1 a2 a3 a4 a5) (delta_Offer.f (k + 1) a0 a1 a2 a3 a4 a5) := by
 intro a0 a1 a2 a3 a4 a5 k
 have ih0:=delta_Offer.mono_l k
 unfold delta_Offer.f
 repeat' first
   | (with_reducible exact ih0 _ _ _ _ _ _ _)
   | (with_reducible exact delta_Check.mono _ _ _ _ _ _)
   | (with_reducible exact delta_list.mono _ _)
   | (with_reducible exact LeO.refl _)
   | (with_reducible exact LeO.none _)
   | (with_reducible refine LeO.ite ?_ ?_)
   | (with_reducible refine LeO.bind ?_ (fun _ => ?_))
   | exact ih0 _ _ _ _ _ _ _
   | exact delta_Check.mono _ _ _ _ _ _
   | exact delta_list.mono _ _
   | exact LeO.none _
   | refine LeO.ite ?_ ?_
   | refine LeO.bind ?_ (fun _ => ?_)
def delta_Offer.T13 : Bool × List (List Nat × List Nat) := (true, [([], []), ([0], [0]), ([], []), ([2], [2]), ([3, 1], [3]), ([1, 4, 0, 1], [1]), ([4, 5, 0, 1, 2, 3, 4, 5], [4]), ([6, 0, 1, 2, 3, 4, 5, 6], []), ([7, 0, 1, 2, 3, 4, 5, 6, 7], [])])
def delta_Offer.B13 : List Nat := [0, 1, 0, 4, 15, 31, 63, 127, 255]
theorem delta_Offer.tab13 : rtab .any (opsOf Try.f19 13) = delta_Offer.T13 := by kernel_rfl
theorem delta_Offer.bits13 : waitsOk delta_Offer.T13.2 delta_Offer.B13 = true := by kernel_rfl
set_option maxHeartbeats 8000000 in
set_option maxRecDepth 100000 in
theorem delta_Offer.calls (k : Nat) (a0_0 : Int) (A0_1 : Option Addr) (c0_1 : Nat) (l0_1 : List (S61)) (A0_2 : Option Addr) (c0_2 : Nat) (l0_2 : List (S61)) (a0_3 : Bool) (a0_4 : Int) (A1 : Option Addr) (c1 : Nat) (l1 : List (S61)) (r1 : Int) (r2 : List (S61)) (r3 : List (S61)) (r4 : Bool) (r5 : Int) (r6 : List (S61)) (r7 : Bool) (r8 : Int) (w : World) (hr0_1 : Kd.C k61 w A0_1 l0_1.length l0_1) (hc0_1 : l0_1.length ≤ c0_1) (hr0_2 : Kd.C k61 w A0_2 l0_2.length l0_2) (hc0_2 : l0_2.length ≤ c0_2) (hr1 : Kd.C k61 w A1 l1.length l1) (hc1 : l1.length ≤ c1) (h : delta_Offer.f k a0_0 l0_1 l0_2 a0_3 a0_4 l1 = some (r1, r2, r3, r4, r5, r6, r7, r8)) :
  Calls Try.prog 19 #[.agg #[.int .u64 a0_0,.slice A0_1 l0_1.length c0_1,.slice A0_2 l0_2.length c0_2,.bool a0_3,.int .i64 a0_4],.slice A1 l1.length c1] w fun e w' => ∃ v1_ v2_ v5_ : Value,e = .returned (.tuple #[.agg #[.int .u64 r1,v1_,v2_,.bool r4,.int .i64 r5],v5_,.bool r7,.int .i64 r8]) ∧ Kd.R k61 61 w' w.heap.size (fun k_ => some k_ ≠ (v2_ : Value).ownBlock ∧ some k_ ≠ (v5_ : Value).ownBlock) v1_ r2 ∧ Kd.R k61 61 w' w.heap.size (fun k_ => some k_ ≠ (v1_ : Value).ownBlock ∧ some k_ ≠ (v5_ : Value).ownBlock) v2_ r3 ∧ Kd.R k61 61 w' w.heap.size (fun k_ => some k_ ≠ (v1_ : Value).ownBlock ∧ some k_ ≠ (v2_ : Value).ownBlock) v5_ r6 ∧ Below w.heap.size w w':=by
 have hu39:=Try.underlying39
 have HR0_1:=zA hr0_1
 have HC0_1:=zA hc0_1
 clear hr0_1 hc0_1
 have HR0_2:=zA hr0_2
 have HC0_2:=zA hc0_2
 clear hr0_2 hc0_2
 have HR1:=zA hr1
 have HC1:=zA hc1
 clear hr1 hc1
 have HB:=zA (Below.refl w.heap.size w)
 have H : ((delta_copied.f a0_0 l0_1 l0_2 a0_3 a0_4).bind fun bt395 => ((delta_Check.f k bt395.1 bt395.2.1 bt395.2.2.1 bt395.2.2.2.1 bt395.2.2.2.2).bind fun t404 => (if t404 = 0 then ((delta_list.f k l1).bind fun t405 => (delta_Offer.j0 k l1 (!t405) bt395.1 bt395.2.1 bt395.2.2.1 bt395.2.2.2.1 bt395.2.2.2.2)) else (delta_Offer.j0 k l1 true bt395.1 bt395.2.1 bt395.2.2.1 bt395.2.2.2.1 bt395.2.2.2.2)))) = some (r1,r2,r3,r4,r5,r6,r7,r8):=h
 clear h
 replace H:=Option.bind_eq_some_iff.mp H
 obtain ⟨⟨t395,t396,t399,t402,t403⟩,A30,H⟩:=H
 (try dsimp only at H)
 have A3:=zA A30
 clear A30
 have HC4:=zA H
 clear H
 go_enter Try.func19,Try.ntmps19
 go_upto_region 2 with (first|((with_reducible refine gate_dst (N:=2) rfl ?_);refine zb (N:=2) (cs:=#[.int .u64 a0_0,.slice A0_1 l0_1.length c0_1,.slice A0_2 l0_2.length c0_2,.bool a0_3,.int .i64 a0_4]) (t:=39) ?_;intro G393 hg w5 hbox hb;have K393:=zA (hbox);have GW393:=zN HB hg;have GE393:=zN HB hg;replace HB:=zS HB hb;clear hb hbox hg)|((with_reducible refine gate_dst (N:=4) rfl ?_);refine zb (N:=4) (cs:=#[.int .u64 0,.slice none 0 0,.slice none 0 0,.bool false,.int .i64 0]) (t:=39) ?_;intro G394 hg w6 hbox hb;have K394:=zA (hbox);have GW394:=zN HB hg;have GE394:=zN HB hg;replace HB:=zS HB hb;have NB393_394:=zL K393 hg;have NB394_393:=zG K393 hg;replace K393:=zB K393 hb;clear hb hbox hg;have:=NB393_394.1;have:=NB394_393.1;obtain ⟨hcz8_0,hcz8_1,hcz8_2,hcz8_3,hcz8_4,hfz8_0,hfz8_1,hfz8_2,hfz8_3,hfz8_4⟩:=zc5 K393)|((with_reducible refine gate_callee (f:=39) rfl ?_);refine zg (some 10) Try.func39 #[.agg #[.int .u64 a0_0,.slice A0_1 l0_1.length c0_1,.slice A0_2 l0_2.length c0_2,.bool a0_3,.int .i64 a0_4]] ?_;(with_reducible refine (delta_copied.calls a0_0 _ _ l0_1 _ _ l0_2 a0_3 a0_4 t395 t396 t399 t402 t403 _ ?side1 ?side2 ?side3 ?side4 A3.out).mono ?_);(case side1 => exact zC (Kd.C_below HR0_1.out HB.1));(case side2 => exact HC0_1.out);(case side3 => exact zC (Kd.C_below HR0_2.out HB.1));(case side4 => exact HC0_2.out);rintro e w9 ⟨v397,v400,rfl,ho0,ho1,hb⟩;refine ⟨_,rfl,?_⟩;have HO398:=zA (Kd.R_lower ho0 (zW HB));have HO401:=zA (Kd.R_lower ho1 (zW HB));replace K393:=zB K393 hb;replace K394:=zB K394 hb;replace HB:=zS HB hb;(try clear hb);(try clear ho0);(try clear ho1);obtain ⟨hcz10_0,hcz10_1,hcz10_2,hcz10_3,hcz10_4,hfz10_0,hfz10_1,hfz10_2,hfz10_3,hfz10_4⟩:=zc5 K393;obtain ⟨Ao11,co11,eo11⟩:=Kd.R_slice HO398.out;subst eo11;obtain ⟨Ao12,co12,eo12⟩:=Kd.R_slice HO401.out;subst eo12)|((with_reducible refine gate_store (t:=39) (p:=2) rfl ?_);refine store_event (t:=39) (p:=2) (v:=?vo_w13) (w1:=(((((w9.setCell ⟨G393,0,none⟩ (.int .u64 t395)).setCell ⟨G393,1,none⟩ (.slice Ao11 t396.length co11)).setCell ⟨G393,2,none⟩ (.slice Ao12 t399.length co12)).setCell ⟨G393,3,none⟩ (.bool t402)).setCell ⟨G393,4,none⟩ (.int .i64 t403))) ?hg ?ho ?hn ?hr ?_;(case ho => rfl);(case hg => rfl);(case hn => rfl);(case hr => first|(go_simp;done)|(go_simp;rfl));intro w13 hw;replace HO398 : Aside0 (Kd.R k61 61 w13 w.heap.size (fun k_ => some k_ ≠ (.slice Ao12 t399.length co12 : Value).ownBlock) (.slice Ao11 t396.length co11) t396):=⟨(by rw [hw];exact (zRf HO398 K393 (fun _ hk => hk.1)))⟩;replace HO401 : Aside0 (Kd.R k61 61 w13 w.heap.size (fun k_ => some k_ ≠ (.slice Ao11 t396.length co11 : Value).ownBlock) (.slice Ao12 t399.length co12) t399):=⟨(by rw [hw];exact (zRf HO401 K393 (fun _ hk => hk.1)))⟩;replace K393:=zVp hw (.cells #[.int .u64 t395,.slice Ao11 t396.length co11,.slice Ao12 t399.length co12,.bool t402,.int .i64 t403] 39 (0,0)) K393;replace K394:=zV hw K394;replace HB:=zU hw HB;clear hw))
 (try simp only [Act.put,xA,xB,xC])
 go_cut [18] (fun v18 wc => ∃ (kq : Nat) (x18_3 : Bool),v18 = .bool x18_3 ∧ Aside0 (delta_Offer.j0 kq l1 x18_3 t395 t396 t399 t402 t403 = some (r1,r2,r3,r4,r5,r6,r7,r8)) ∧ Aside0 (kq ≤ k) ∧ Aside0 (Kd.R k61 61 wc w.heap.size (fun k_ => some k_ ≠ ((.slice Ao12 t399.length co12) : Value).ownBlock) (.slice Ao11 t396.length co11) t396) ∧ Aside0 (Kd.R k61 61 wc w.heap.size (fun k_ => some k_ ≠ ((.slice Ao11 t396.length co11) : Value).ownBlock) (.slice Ao12 t399.length co12) t399) ∧ Aside0 (wc.heap[G393]? = some (.cells #[.int .u64 t395,(.slice Ao11 t396.length co11),(.slice Ao12 t399.length co12),.bool t402,.int .i64 t403] 39 (0,0))) ∧ Aside0 (wc.heap[G394]? = some (.cells #[.int .u64 0,(.slice none 0 0),(.slice none 0 0),.bool false,.int .i64 0] 39 (0,0))) ∧ Aside0 (Below w.heap.size w wc))
 case first =>
  have H:=HC4.out
  clear HC4
  replace H:=Option.bind_eq_some_iff.mp H
  obtain ⟨t404,A140,H⟩:=H
  (try dsimp only at H)
  have A14:=zA A140
  clear A140
  by_cases c15 : t404 = 0
  ·rw [if_pos c15] at H
   have c15b0 : (t404 == 0) = true:=beq_iff_eq.mpr c15
   have c15b1 : (t404 != 0) = false:=bne_eq_false_iff_eq.mpr c15
   clear c15
   (first|rw [c15b0]|(simp only [i64_w,i32_w];rw [c15b0])|skip)
   replace H:=Option.bind_eq_some_iff.mp H
   obtain ⟨t405,A160,H⟩:=H
   (try dsimp only at H)
   have A16:=zA A160
   clear A160
   have H':=zA H
   clear H
   have:=NB393_394.1
   have:=NB394_393.1
   obtain ⟨hcz18_0,hcz18_1,hcz18_2,hcz18_3,hcz18_4,hfz18_0,hfz18_1,hfz18_2,hfz18_3,hfz18_4⟩:=zc5 K393
   go_wp2_with (first|((with_reducible refine gate_callee (f:=22) rfl ?_);refine zg (some 12) Try.func22 #[.agg #[.int .u64 t395,.slice Ao11 t396.length co11,.slice Ao12 t399.length co12,.bool t402,.int .i64 t403]] ?_;(with_reducible refine (delta_Check.calls k t395 _ _ t396 _ _ t399 t402 t403 t404 _ ?side1 ?side2 ?side3 ?side4 A14.out).mono ?_);(case side1 => exact zC ((Kd.R_reads' HO398.out).2.2));(case side2 => exact (Kd.R_reads' HO398.out).2.1);(case side3 => exact zC ((Kd.R_reads' HO401.out).2.2));(case side4 => exact (Kd.R_reads' HO401.out).2.1);rintro e w19 ⟨rfl,hb⟩;refine ⟨_,rfl,?_⟩;replace HO398:=zRb HO398 hb;replace HO401:=zRb HO401 hb;replace K393:=zB K393 hb;replace K394:=zB K394 hb;replace HB:=zS HB hb;(try clear hb))|(go_at_call 30;(with_reducible refine (delta_list.calls k _ _ l1 t405 _ ?side1 ?side2 A16.out).mono ?_);(case side1 => exact zC (Kd.C_below HR1.out HB.1));(case side2 => exact HC1.out);rintro e w20 ⟨rfl,hb⟩;replace HO398:=zRb HO398 hb;replace HO401:=zRb HO401 hb;replace K393:=zB K393 hb;replace K394:=zB K394 hb;replace HB:=zS HB hb;(try clear hb)))
   go_meet
   case rel => exact ⟨_,(!t405),ze,H',⟨zo⟩,⟨zR HO398⟩,⟨zR HO401⟩,⟨z1 K393.1⟩,⟨z1 K394.1⟩,⟨zH HB⟩⟩
  ·rw [if_neg c15] at H
   have c15b0 : (t404 == 0) = false:=beq_eq_false_iff_ne.mpr c15
   have c15b1 : (t404 != 0) = true:=bne_iff_ne.mpr c15
   (first|rw [c15b0]|(simp only [i64_w,i32_w];rw [c15b0])|skip)
   have H':=zA H
   clear H
   have:=NB393_394.1
   have:=NB394_393.1
   obtain ⟨hcz22_0,hcz22_1,hcz22_2,hcz22_3,hcz22_4,hfz22_0,hfz22_1,hfz22_2,hfz22_3,hfz22_4⟩:=zc5 K393
   go_wp2_with (first|((with_reducible refine gate_callee (f:=22) rfl ?_);refine zg (some 12) Try.func22 #[.agg #[.int .u64 t395,.slice Ao11 t396.length co11,.slice Ao12 t399.length co12,.bool t402,.int .i64 t403]] ?_;(with_reducible refine (delta_Check.calls k t395 _ _ t396 _ _ t399 t402 t403 t404 _ ?side1 ?side2 ?side3 ?side4 A14.out).mono ?_);(case side1 => exact zC ((Kd.R_reads' HO398.out).2.2));(case side2 => exact (Kd.R_reads' HO398.out).2.1);(case side3 => exact zC ((Kd.R_reads' HO401.out).2.2));(case side4 => exact (Kd.R_reads' HO401.out).2.1);rintro e w23 ⟨rfl,hb⟩;refine ⟨_,rfl,?_⟩;replace HO398:=zRb HO398 hb;replace HO401:=zRb HO401 hb;replace K393:=zB K393 hb;replace K394:=zB K394 hb;replace HB:=zS HB hb;(try clear hb)))
   go_meet
   case rel => exact ⟨_,(true),ze,H',⟨zo⟩,⟨zR HO398⟩,⟨zR HO401⟩,⟨z1 K393.1⟩,⟨z1 K394.1⟩,⟨zH HB⟩⟩
 case rest =>
  clear HC4
  try clear c1;try clear hcz10_0;try clear hcz10_1;try clear hcz10_2;try clear hcz10_3;try clear hcz10_4;try clear hcz8_0;try clear hcz8_1;try clear hcz8_2;try clear hcz8_3;try clear hcz8_4;try clear hfz10_0;try clear hfz10_1;try clear hfz10_2;try clear hfz10_3;try clear hfz10_4;try clear hfz8_0;try clear hfz8_1;try clear hfz8_2;try clear hfz8_3;try clear hfz8_4
  obtain ⟨kq,x18_3,rfl,HA,HJ3,HO_394001,HO_394002,K393,K394,HB⟩:=hcut
  cases kq with
  | zero => exact absurd HA.out (by simp [delta_Offer.j0])
  | succ kj3 =>
   have H:=HA.out
   clear HA
   simp only [delta_Offer.j0] at H
   by_cases c24 : x18_3 = true
   ·subst c24
    rw [if_pos rfl] at H
    simp only [Option.some.injEq,Prod.mk.injEq] at H
    obtain ⟨rfl,rfl,rfl,rfl,rfl,rfl,rfl,rfl⟩:=H
    have:=NB393_394.1
    have:=NB394_393.1
    obtain ⟨hcz26_0,hcz26_1,hcz26_2,hcz26_3,hcz26_4,hfz26_0,hfz26_1,hfz26_2,hfz26_3,hfz26_4⟩:=zc5 K393
    obtain ⟨hcz27_0,hcz27_1,hcz27_2,hcz27_3,hcz27_4,hfz27_0,hfz27_1,hfz27_2,hfz27_3,hfz27_4⟩:=zc5 K394
    go_wp2_with (first|((with_reducible refine gate_store (t:=39) (p:=4) rfl ?_);refine store_event (t:=39) (p:=4) (v:=?vo_w28) (w1:=(((((wc.setCell ⟨G394,0,none⟩ (.int .u64 t395)).setCell ⟨G394,1,none⟩ (.slice Ao11 t396.length co11)).setCell ⟨G394,2,none⟩ (.slice Ao12 t399.length co12)).setCell ⟨G394,3,none⟩ (.bool t402)).setCell ⟨G394,4,none⟩ (.int .i64 t403))) ?hg ?ho ?hn ?hr ?_;(case ho => rfl);(case hg => rfl);(case hn => rfl);(case hr => first|(go_simp;done)|(go_simp;rfl));intro w28 hw;replace HO_394001 : Aside0 (Kd.R k61 61 w28 w.heap.size (fun k_ => some k_ ≠ (.slice Ao12 t399.length co12 : Value).ownBlock) (.slice Ao11 t396.length co11) t396):=⟨(by rw [hw];exact (zRf HO_394001 K394 (fun _ hk => hk.1)))⟩;replace HO_394002 : Aside0 (Kd.R k61 61 w28 w.heap.size (fun k_ => some k_ ≠ (.slice Ao11 t396.length co11 : Value).ownBlock) (.slice Ao12 t399.length co12) t399):=⟨(by rw [hw];exact (zRf HO_394002 K394 (fun _ hk => hk.1)))⟩;replace K393:=zV hw K393;replace K394:=zVp hw (.cells #[.int .u64 t395,.slice Ao11 t396.length co11,.slice Ao12 t399.length co12,.bool t402,.int .i64 t403] 39 (0,0)) K394;replace HB:=zU hw HB;clear hw))
    refine bodyPost_ret (results_list (rs:=[.cell 4 39,.tmp 5,.tmp 6,.tmp 7]) rfl (by simp) (.cell G394 39 #[.int .u64 t395,.slice Ao11 t396.length co11,.slice Ao12 t399.length co12,.bool t402,.int .i64 t403] (0,0) _ rfl (zF K394) Try.underlying39 rfl (by kernel_rfl) (.tmp (.tmp (.tmp .nil))))) rfl ?_
    exact ⟨_,_,_,by first|rfl|(simp [errW_none,errW_some] <;> rfl)|(simp [*,errW_none,errW_some] <;> rfl),by (with_reducible repeat (first|apply Kd.R_alloc|apply Kd.R_drewN|apply Kd.R_drew));exact Kd.R_mono HO_394001.out (fun _ hk => ⟨hk,(by simp [Value.ownBlock])⟩),by (with_reducible repeat (first|apply Kd.R_alloc|apply Kd.R_drewN|apply Kd.R_drew));exact Kd.R_mono HO_394002.out (fun _ hk => ⟨hk,(by simp [Value.ownBlock])⟩),by first|exact Kd.R_nil _ _ _ _ _|exact Kd.N_nil _ _ _ _ _|exact Kd.V_nil _ _ _ _ _|exact Kd.Q_nil _ _ _ _ _|exact Kd.S_nil _ _ _ _ _,zH HB⟩
   ·replace c24:=Bool.eq_false_iff.mpr c24
    subst c24
    rw [if_neg (show ¬ (false = true) by decide)] at H
    by_cases c29 : t402 = true
    ·subst c29
     rw [if_pos rfl] at H
     simp only [Option.some.injEq,Prod.mk.injEq] at H
     obtain ⟨rfl,rfl,rfl,rfl,rfl,rfl,rfl,rfl⟩:=H
     have:=NB393_394.1
     have:=NB394_393.1
     obtain ⟨hcz31_0,hcz31_1,hcz31_2,hcz31_3,hcz31_4,hfz31_0,hfz31_1,hfz31_2,hfz31_3,hfz31_4⟩:=zc5 K393
     obtain ⟨hcz32_0,hcz32_1,hcz32_2,hcz32_3,hcz32_4,hfz32_0,hfz32_1,hfz32_2,hfz32_3,hfz32_4⟩:=zc5 K394
     go_wp2_with (first|((with_reducible refine gate_store (t:=39) (p:=4) rfl ?_);refine store_event (t:=39) (p:=4) (v:=?vo_w33) (w1:=(((((wc.setCell ⟨G394,0,none⟩ (.int .u64 t395)).setCell ⟨G394,1,none⟩ (.slice Ao11 t396.length co11)).setCell ⟨G394,2,none⟩ (.slice Ao12 t399.length co12)).setCell ⟨G394,3,none⟩ (.bool true)).setCell ⟨G394,4,none⟩ (.int .i64 t403))) ?hg ?ho ?hn ?hr ?_;(case ho => rfl);(case hg => rfl);(case hn => rfl);(case hr => first|(go_simp;done)|(go_simp;rfl));intro w33 hw;replace HO_394001 : Aside0 (Kd.R k61 61 w33 w.heap.size (fun k_ => some k_ ≠ (.slice Ao12 t399.length co12 : Value).ownBlock) (.slice Ao11 t396.length co11) t396):=⟨(by rw [hw];exact (zRf HO_394001 K394 (fun _ hk => hk.1)))⟩;replace HO_394002 : Aside0 (Kd.R k61 61 w33 w.heap.size (fun k_ => some k_ ≠ (.slice Ao11 t396.length co11 : Value).ownBlock) (.slice Ao12 t399.length co12) t399):=⟨(by rw [hw];exact (zRf HO_394002 K394 (fun _ hk => hk.1)))⟩;replace K393:=zV hw K393;replace K394:=zVp hw (.cells #[.int .u64 t395,.slice Ao11 t396.length co11,.slice Ao12 t399.length co12,.bool true,.int .i64 t403] 39 (0,0)) K394;replace HB:=zU hw HB;clear hw))
     refine bodyPost_ret (results_list (rs:=[.cell 4 39,.tmp 5,.tmp 6,.tmp 7]) rfl (by simp) (.cell G394 39 #[.int .u64 t395,.slice Ao11 t396.length co11,.slice Ao12 t399.length co12,.bool true,.int .i64 t403] (0,0) _ rfl (zF K394) Try.underlying39 rfl (by kernel_rfl) (.tmp (.tmp (.tmp .nil))))) rfl ?_
     exact ⟨_,_,_,by first|rfl|(simp [errW_none,errW_some] <;> rfl)|(simp [*,errW_none,errW_some] <;> rfl),by (with_reducible repeat (first|apply Kd.R_alloc|apply Kd.R_drewN|apply Kd.R_drew));exact Kd.R_mono HO_394001.out (fun _ hk => ⟨hk,(by simp [Value.ownBlock])⟩),by (with_reducible repeat (first|apply Kd.R_alloc|apply Kd.R_drewN|apply Kd.R_drew));exact Kd.R_mono HO_394002.out (fun _ hk => ⟨hk,(by simp [Value.ownBlock])⟩),by first|exact Kd.R_nil _ _ _ _ _|exact Kd.N_nil _ _ _ _ _|exact Kd.V_nil _ _ _ _ _|exact Kd.Q_nil _ _ _ _ _|exact Kd.S_nil _ _ _ _ _,zH HB⟩
    ·replace c29:=Bool.eq_false_iff.mpr c29
     subst c29
     rw [if_neg (show ¬ (false = true) by decide)] at H
     replace H:=Option.bind_eq_some_iff.mp H
     obtain ⟨t406,A340,H⟩:=H
     (try dsimp only at H)
     have A34:=zA A340
     clear A340
     by_cases c35 : (t406.length : Int) = 0
     ·rw [if_pos c35] at H
      have c35b0 : ((t406.length : Int) == 0) = true:=beq_iff_eq.mpr c35
      have c35b1 : ((t406.length : Int) != 0) = false:=bne_eq_false_iff_eq.mpr c35
      clear c35
      simp only [Option.some.injEq,Prod.mk.injEq] at H
      obtain ⟨rfl,rfl,rfl,rfl,rfl,rfl,rfl,rfl⟩:=H
      have:=NB393_394.1
      have:=NB394_393.1
      obtain ⟨hcz37_0,hcz37_1,hcz37_2,hcz37_3,hcz37_4,hfz37_0,hfz37_1,hfz37_2,hfz37_3,hfz37_4⟩:=zc5 K393
      go_wp2_with (first|((with_reducible refine gate_callee (f:=31) rfl ?_);refine zg (some 26) Try.func31 #[.slice Ao11 t396.length co11,.slice A1 l1.length c1] ?_;(with_reducible refine (delta_diff.calls _ _ t396 _ _ l1 t406 _ ?side1 ?side2 ?side3 ?side4 A34.out).mono ?_);(case side1 => exact zC ((Kd.R_reads' HO_394001.out).2.2));(case side2 => exact (Kd.R_reads' HO_394001.out).2.1);(case side3 => exact zC (Kd.C_below HR1.out HB.1));(case side4 => exact HC1.out);rintro e w38 ⟨v407,rfl,ho0,hb⟩;refine ⟨_,rfl,?_⟩;have HO408:=zA (Kd.R_lower (Kd.R_new' (Kd.R_new' ho0 (Kd.R_lt (zR HO_394001))) (Kd.R_lt (zR HO_394002))) (zW HB));replace HO_394001:=zA (Kd.R_elder' (zR HO_394001) (Kd.R_base ho0) hb);replace HO_394002:=zA (Kd.R_elder' (zR HO_394002) (Kd.R_base ho0) hb);replace K393:=zB K393 hb;replace K394:=zB K394 hb;replace HB:=zS HB hb;(try clear hb);(try clear ho0);obtain ⟨Ao39,co39,eo39⟩:=Kd.R_slice HO408.out;subst eo39;obtain ⟨hcz40_0,hcz40_1,hcz40_2,hcz40_3,hcz40_4,hfz40_0,hfz40_1,hfz40_2,hfz40_3,hfz40_4⟩:=zc5 K393;obtain ⟨hcz41_0,hcz41_1,hcz41_2,hcz41_3,hcz41_4,hfz41_0,hfz41_1,hfz41_2,hfz41_3,hfz41_4⟩:=zc5 K394)|((with_reducible refine gate_store (t:=39) (p:=4) rfl ?_);refine store_event (t:=39) (p:=4) (v:=?vo_w42) (w1:=(((((w38.setCell ⟨G394,0,none⟩ (.int .u64 t395)).setCell ⟨G394,1,none⟩ (.slice Ao11 t396.length co11)).setCell ⟨G394,2,none⟩ (.slice Ao12 t399.length co12)).setCell ⟨G394,3,none⟩ (.bool false)).setCell ⟨G394,4,none⟩ (.int .i64 t403))) ?hg ?ho ?hn ?hr ?_;(case ho => rfl);(case hg => rfl);(case hn => rfl);(case hr => first|(go_simp;done)|(go_simp;rfl));intro w42 hw;replace HO_394001 : Aside0 (Kd.R k61 61 w42 w.heap.size (fun k_ => some k_ ≠ (.slice Ao12 t399.length co12 : Value).ownBlock ∧ some k_ ≠ (.slice Ao39 t406.length co39 : Value).ownBlock) (.slice Ao11 t396.length co11) t396):=⟨(by rw [hw];exact (zRf HO_394001 K394 (fun _ hk => ⟨hk.1.1,hk.1.2⟩)))⟩;replace HO_394002 : Aside0 (Kd.R k61 61 w42 w.heap.size (fun k_ => some k_ ≠ (.slice Ao11 t396.length co11 : Value).ownBlock ∧ some k_ ≠ (.slice Ao39 t406.length co39 : Value).ownBlock) (.slice Ao12 t399.length co12) t399):=⟨(by rw [hw];exact (zRf HO_394002 K394 (fun _ hk => ⟨hk.1.1,hk.1.2⟩)))⟩;replace HO408 : Aside0 (Kd.R k61 61 w42 w.heap.size (fun k_ => some k_ ≠ (.slice Ao11 t396.length co11 : Value).ownBlock ∧ some k_ ≠ (.slice Ao12 t399.length co12 : Value).ownBlock) (.slice Ao39 t406.length co39) t406):=⟨(by rw [hw];exact (zRf HO408 K394 (fun _ hk => ⟨hk.1.1.2,hk.1.2⟩)))⟩;replace K393:=zV hw K393;replace K394:=zVp hw (.cells #[.int .u64 t395,.slice Ao11 t396.length co11,.slice Ao12 t399.length co12,.bool false,.int .i64 t403] 39 (0,0)) K394;replace HB:=zU hw HB;clear hw))
      refine bodyPost_ret (results_list (rs:=[.cell 4 39,.tmp 5,.tmp 6,.tmp 7]) rfl (by simp) (.cell G394 39 #[.int .u64 t395,.slice Ao11 t396.length co11,.slice Ao12 t399.length co12,.bool false,.int .i64 t403] (0,0) _ rfl (zF K394) Try.underlying39 rfl (by kernel_rfl) (.tmp (.tmp (.tmp .nil))))) rfl ?_
      exact ⟨_,_,_,by first|rfl|(simp [errW_none,errW_some] <;> rfl)|(simp [*,errW_none,errW_some] <;> rfl),by (with_reducible repeat (first|apply Kd.R_alloc|apply Kd.R_drewN|apply Kd.R_drew));exact Kd.R_mono HO_394001.out (fun _ hk => ⟨hk.1,(by simp [Value.ownBlock])⟩),by (with_reducible repeat (first|apply Kd.R_alloc|apply Kd.R_drewN|apply Kd.R_drew));exact Kd.R_mono HO_394002.out (fun _ hk => ⟨hk.1,(by simp [Value.ownBlock])⟩),by first|exact Kd.R_nil _ _ _ _ _|exact Kd.N_nil _ _ _ _ _|exact Kd.V_nil _ _ _ _ _|exact Kd.Q_nil _ _ _ _ _|exact Kd.S_nil _ _ _ _ _,zH HB⟩
     ·rw [if_neg c35] at H
      have c35b0 : ((t406.length : Int) == 0) = false:=beq_eq_false_iff_ne.mpr c35
      have c35b1 : ((t406.length : Int) != 0) = true:=bne_iff_ne.mpr c35
      have c35b2 : ¬ (t406 = []):=fun h_ => c35 (by rw [h_];rfl)
      by_cases c43 : t395 = 18446744073709551615
      ·rw [if_pos c43] at H
       have c43b0 : (t395 == 18446744073709551615) = true:=beq_iff_eq.mpr c43
       have c43b1 : (t395 != 18446744073709551615) = false:=bne_eq_false_iff_eq.mpr c43
       clear c43
       simp only [Option.some.injEq,Prod.mk.injEq] at H
       obtain ⟨rfl,rfl,rfl,rfl,rfl,rfl,rfl,rfl⟩:=H
       have:=NB393_394.1
       have:=NB394_393.1
       obtain ⟨hcz45_0,hcz45_1,hcz45_2,hcz45_3,hcz45_4,hfz45_0,hfz45_1,hfz45_2,hfz45_3,hfz45_4⟩:=zc5 K393
       go_wp2_with (first|((with_reducible refine gate_callee (f:=31) rfl ?_);refine zg (some 26) Try.func31 #[.slice Ao11 t396.length co11,.slice A1 l1.length c1] ?_;(with_reducible refine (delta_diff.calls _ _ t396 _ _ l1 t406 _ ?side1 ?side2 ?side3 ?side4 A34.out).mono ?_);(case side1 => exact zC ((Kd.R_reads' HO_394001.out).2.2));(case side2 => exact (Kd.R_reads' HO_394001.out).2.1);(case side3 => exact zC (Kd.C_below HR1.out HB.1));(case side4 => exact HC1.out);rintro e w46 ⟨v407,rfl,ho0,hb⟩;refine ⟨_,rfl,?_⟩;have HO408:=zA (Kd.R_lower (Kd.R_new' (Kd.R_new' ho0 (Kd.R_lt (zR HO_394001))) (Kd.R_lt (zR HO_394002))) (zW HB));replace HO_394001:=zA (Kd.R_elder' (zR HO_394001) (Kd.R_base ho0) hb);replace HO_394002:=zA (Kd.R_elder' (zR HO_394002) (Kd.R_base ho0) hb);replace K393:=zB K393 hb;replace K394:=zB K394 hb;replace HB:=zS HB hb;(try clear hb);(try clear ho0);obtain ⟨Ao47,co47,eo47⟩:=Kd.R_slice HO408.out;subst eo47;obtain ⟨hcz48_0,hcz48_1,hcz48_2,hcz48_3,hcz48_4,hfz48_0,hfz48_1,hfz48_2,hfz48_3,hfz48_4⟩:=zc5 K393;obtain ⟨hcz49_0,hcz49_1,hcz49_2,hcz49_3,hcz49_4,hfz49_0,hfz49_1,hfz49_2,hfz49_3,hfz49_4⟩:=zc5 K394)|((with_reducible refine gate_store (t:=39) (p:=4) rfl ?_);refine store_event (t:=39) (p:=4) (v:=?vo_w50) (w1:=(((((w46.setCell ⟨G394,0,none⟩ (.int .u64 t395)).setCell ⟨G394,1,none⟩ (.slice Ao11 t396.length co11)).setCell ⟨G394,2,none⟩ (.slice Ao12 t399.length co12)).setCell ⟨G394,3,none⟩ (.bool false)).setCell ⟨G394,4,none⟩ (.int .i64 t403))) ?hg ?ho ?hn ?hr ?_;(case ho => rfl);(case hg => rfl);(case hn => rfl);(case hr => first|(go_simp;done)|(go_simp;rfl));intro w50 hw;replace HO_394001 : Aside0 (Kd.R k61 61 w50 w.heap.size (fun k_ => some k_ ≠ (.slice Ao12 t399.length co12 : Value).ownBlock ∧ some k_ ≠ (.slice Ao47 t406.length co47 : Value).ownBlock) (.slice Ao11 t396.length co11) t396):=⟨(by rw [hw];exact (zRf HO_394001 K394 (fun _ hk => ⟨hk.1.1,hk.1.2⟩)))⟩;replace HO_394002 : Aside0 (Kd.R k61 61 w50 w.heap.size (fun k_ => some k_ ≠ (.slice Ao11 t396.length co11 : Value).ownBlock ∧ some k_ ≠ (.slice Ao47 t406.length co47 : Value).ownBlock) (.slice Ao12 t399.length co12) t399):=⟨(by rw [hw];exact (zRf HO_394002 K394 (fun _ hk => ⟨hk.1.1,hk.1.2⟩)))⟩;replace HO408 : Aside0 (Kd.R k61 61 w50 w.heap.size (fun k_ => some k_ ≠ (.slice Ao11 t396.length co11 : Value).ownBlock ∧ some k_ ≠ (.slice Ao12 t399.length co12 : Value).ownBlock) (.slice Ao47 t406.length co47) t406):=⟨(by rw [hw];exact (zRf HO408 K394 (fun _ hk => ⟨hk.1.1.2,hk.1.2⟩)))⟩;replace K393:=zV hw K393;replace K394:=zVp hw (.cells #[.int .u64 t395,.slice Ao11 t396.length co11,.slice Ao12 t399.length co12,.bool false,.int .i64 t403] 39 (0,0)) K394;replace HB:=zU hw HB;clear hw))
       refine bodyPost_ret (results_list (rs:=[.cell 4 39,.tmp 5,.tmp 6,.tmp 7]) rfl (by simp) (.cell G394 39 #[.int .u64 t395,.slice Ao11 t396.length co11,.slice Ao12 t399.length co12,.bool false,.int .i64 t403] (0,0) _ rfl (zF K394) Try.underlying39 rfl (by kernel_rfl) (.tmp (.tmp (.tmp .nil))))) rfl ?_
       exact ⟨_,_,_,by first|rfl|(simp [errW_none,errW_some] <;> rfl)|(simp [*,errW_none,errW_some] <;> rfl),by (with_reducible repeat (first|apply Kd.R_alloc|apply Kd.R_drewN|apply Kd.R_drew));exact Kd.R_mono HO_394001.out (fun _ hk => ⟨hk.1,(by simp [Value.ownBlock])⟩),by (with_reducible repeat (first|apply Kd.R_alloc|apply Kd.R_drewN|apply Kd.R_drew));exact Kd.R_mono HO_394002.out (fun _ hk => ⟨hk.1,(by simp [Value.ownBlock])⟩),by first|exact Kd.R_nil _ _ _ _ _|exact Kd.N_nil _ _ _ _ _|exact Kd.V_nil _ _ _ _ _|exact Kd.Q_nil _ _ _ _ _|exact Kd.S_nil _ _ _ _ _,zH HB⟩
      ·rw [if_neg c43] at H
       have c43b0 : (t395 == 18446744073709551615) = false:=beq_eq_false_iff_ne.mpr c43
       have c43b1 : (t395 != 18446744073709551615) = true:=bne_iff_ne.mpr c43
       obtain ⟨ji51,hji51⟩ : ∃ j_ : Int,(mn (t406.length : Int) 512) = j_:=⟨_,rfl⟩
       replace H : (if 0 ≤ (ji51) then (if (ji51) ≤ (t406.length : Int) then ((some (t406.take ((ji51) : Int).toNat : List (S61))).bind fun y409 => ((delta_copied.f (IntKind.u64.wrap (t395 + 1)) t396 y409 true 0).bind fun bt412 => ((delta_own.f y409).bind fun t421 => (some (bt412.1,bt412.2.1,bt412.2.2.1,bt412.2.2.2.1,bt412.2.2.2.2,t421,true,0))))) else (none)) else (none)) = some (r1,r2,r3,r4,r5,r6,r7,r8):=by first|(rw [hji51] at H;exact H)|(simp only [hji51] at H ⊢;exact H)
       (try rw [hji51] at A34)
       (try (have hji51h : ji51 ≤ 512:=by (rw [← hji51];unfold mn;(repeat' split) <;> omega)))
       (try (have hji51g : ji51 ≤ 64:=by omega))
       (try (have hji51l : 0 ≤ ji51:=by (rw [← hji51];unfold mn;(repeat' split) <;> omega)))
       (try (have hji51m : 0 ≤ ji51:=by omega))
       have hji51_ : (if 512 < (t406.length : Int) then 512 else (t406.length : Int)) = ji51:=hji51
       by_cases c52 : 0 ≤ (ji51)
       ·rw [if_pos c52] at H
        have c52b0:=eq_true c52
        have c52b1 : decide (0 ≤ (ji51)) = true:=decide_eq_true c52
        clear c52
        by_cases c53 : (ji51) ≤ (t406.length : Int)
        ·rw [if_pos c53] at H
         have c53b0:=eq_true c53
         have c53b1 : decide ((ji51) ≤ (t406.length : Int)) = true:=decide_eq_true c53
         clear c53
         obtain ⟨y409,hy409⟩ : ∃ y_ : List (S61),y_ = (t406.take ((ji51) : Int).toNat):=⟨_,rfl⟩
         replace H : ((delta_copied.f (IntKind.u64.wrap (t395 + 1)) t396 y409 true 0).bind fun bt412 => ((delta_own.f y409).bind fun t421 => (some (bt412.1,bt412.2.1,bt412.2.2.1,bt412.2.2.2.1,bt412.2.2.2.2,t421,true,0)))) = some (r1,r2,r3,r4,r5,r6,r7,r8):=by first|(rw [hy409];with_reducible exact H)|(have H2_:=(Option.bind_some _ _).symm.trans H;rw [hy409];with_reducible exact H2_)|(have H2_:=(Option.bind_some _ _).symm.trans H;with_reducible exact H2_)|with_reducible exact H|(rw [hy409];exact H)|exact H
         have Ny409:=zA hy409
         clear hy409
         replace H:=Option.bind_eq_some_iff.mp H
         obtain ⟨⟨t412,t413,t416,t419,t420⟩,A540,H⟩:=H
         (try dsimp only at H)
         have A54:=zA A540
         clear A540
         replace H:=Option.bind_eq_some_iff.mp H
         obtain ⟨t421,A550,H⟩:=H
         (try dsimp only at H)
         have A55:=zA A550
         clear A550
         simp only [Option.some.injEq,Prod.mk.injEq] at H
         obtain ⟨rfl,rfl,rfl,rfl,rfl,rfl,rfl,rfl⟩:=H
         have:=NB393_394.1
         have:=NB394_393.1
         obtain ⟨hcz57_0,hcz57_1,hcz57_2,hcz57_3,hcz57_4,hfz57_0,hfz57_1,hfz57_2,hfz57_3,hfz57_4⟩:=zc5 K393
         try go_wp2_with (first|((with_reducible refine gate_callee (f:=31) rfl ?_);refine zg (some 26) Try.func31 #[.slice Ao11 t396.length co11,.slice A1 l1.length c1] ?_;(with_reducible refine (delta_diff.calls _ _ t396 _ _ l1 t406 _ ?side1 ?side2 ?side3 ?side4 A34.out).mono ?_);(case side1 => exact zC ((Kd.R_reads' HO_394001.out).2.2));(case side2 => exact (Kd.R_reads' HO_394001.out).2.1);(case side3 => exact zC (Kd.C_below HR1.out HB.1));(case side4 => exact HC1.out);rintro e w58 ⟨v407,rfl,ho0,hb⟩;refine ⟨_,rfl,?_⟩;have HO408:=zA (Kd.R_lower (Kd.R_new' (Kd.R_new' ho0 (Kd.R_lt (zR HO_394001))) (Kd.R_lt (zR HO_394002))) (zW HB));replace HO_394001:=zA (Kd.R_elder' (zR HO_394001) (Kd.R_base ho0) hb);replace HO_394002:=zA (Kd.R_elder' (zR HO_394002) (Kd.R_base ho0) hb);replace K393:=zB K393 hb;replace K394:=zB K394 hb;replace HB:=zS HB hb;(try clear hb);(try clear ho0);obtain ⟨Ao59,co59,eo59⟩:=Kd.R_slice HO408.out;subst eo59;obtain ⟨hcz60_0,hcz60_1,hcz60_2,hcz60_3,hcz60_4,hfz60_0,hfz60_1,hfz60_2,hfz60_3,hfz60_4⟩:=zc5 K393)|((with_reducible refine gate_store (t:=22) (p:=38) rfl ?_);refine store_event (t:=22) (p:=38) (v:=?vo_w61) (w1:=(w58.setCell ⟨G393,0,none⟩ (.int .u64 (IntKind.u64.wrap (t395 + 1))))) ?hg ?ho ?hn ?hr ?_;(case ho => rfl);(case hg => rfl);(case hn => rfl);(case hr => first|(go_simp;done)|(go_simp;rfl));intro w61 hw;replace HO_394001 : Aside0 (Kd.R k61 61 w61 w.heap.size (fun k_ => some k_ ≠ (.slice Ao12 t399.length co12 : Value).ownBlock ∧ some k_ ≠ (.slice Ao59 t406.length co59 : Value).ownBlock) (.slice Ao11 t396.length co11) t396):=⟨(by rw [hw];exact (zRf HO_394001 K393 (fun _ hk => ⟨hk.1.1,hk.1.2⟩)))⟩;replace HO_394002 : Aside0 (Kd.R k61 61 w61 w.heap.size (fun k_ => some k_ ≠ (.slice Ao11 t396.length co11 : Value).ownBlock ∧ some k_ ≠ (.slice Ao59 t406.length co59 : Value).ownBlock) (.slice Ao12 t399.length co12) t399):=⟨(by rw [hw];exact (zRf HO_394002 K393 (fun _ hk => ⟨hk.1.1,hk.1.2⟩)))⟩;replace HO408 : Aside0 (Kd.R k61 61 w61 w.heap.size (fun k_ => some k_ ≠ (.slice Ao11 t396.length co11 : Value).ownBlock ∧ some k_ ≠ (.slice Ao12 t399.length co12 : Value).ownBlock) (.slice Ao59 t406.length co59) t406):=⟨(by rw [hw];exact (zRf HO408 K393 (fun _ hk => ⟨hk.1.1.2,hk.1.2⟩)))⟩;replace K393:=zVp hw (.cells #[.int .u64 (IntKind.u64.wrap (t395 + 1)),.slice Ao11 t396.length co11,.slice Ao12 t399.length co12,.bool false,.int .i64 t403] 39 (0,0)) K393;replace K394:=zV hw K394;replace HB:=zU hw HB;clear hw;have q62 : ((ji51) : Int) ≤ ((t406.length : Int) : Int):=zd;obtain ⟨i062,hi062,_,hsz62,_⟩:=info_parts info61;have hcut62:=cut_to (P:=Try.prog) 30 61 .i64 Try.underlying30 hi062 Ao59 t406.length co59 (ji51) (zd) q62 (Kd.R_reads' HO408.out).2.1;have hr62:=Kd.R_take (m:=((ji51) : Int).toNat) HO408.out (by omega);have hy62 : y409.length = ((ji51) : Int).toNat:=(by rw [Ny409.out,List.length_take];omega);rw [← Ny409.out] at hr62;rw [← hy62] at hr62 hcut62;clear hy62 hi062 hsz62 HO408;have HO411:=zA hr62;clear hr62;rw [zown Ao59 t406.length y409.length co59] at HO_394001 HO_394002;replace q62:=eq_true q62;obtain ⟨hcz63_0,hcz63_1,hcz63_2,hcz63_3,hcz63_4,hfz63_0,hfz63_1,hfz63_2,hfz63_3,hfz63_4⟩:=zc5 K393)|((with_reducible refine gate_store (t:=3) (p:=46) rfl ?_);refine store_event (t:=3) (p:=46) (v:=?vo_w64) (w1:=(((w61.setCell ⟨G393,2,none⟩ (.slice Ao59 y409.length co59)).setCell ⟨G393,3,none⟩ (.bool true)).setCell ⟨G393,4,none⟩ (.int .i64 0))) ?hg ?ho ?hn ?hr ?_;(case ho => rfl);(case hg => rfl);(case hn => rfl);(case hr => first|(go_simp;done)|(go_simp;rfl));intro w64 hw;replace HO_394001 : Aside0 (Kd.R k61 61 w64 w.heap.size (fun k_ => some k_ ≠ (.slice Ao12 t399.length co12 : Value).ownBlock ∧ some k_ ≠ (.slice Ao59 y409.length co59 : Value).ownBlock) (.slice Ao11 t396.length co11) t396):=⟨(by rw [hw];exact (zRf HO_394001 K393 (fun _ hk => ⟨hk.1.1,hk.1.2⟩)))⟩;replace HO_394002 : Aside0 (Kd.R k61 61 w64 w.heap.size (fun k_ => some k_ ≠ (.slice Ao11 t396.length co11 : Value).ownBlock ∧ some k_ ≠ (.slice Ao59 y409.length co59 : Value).ownBlock) (.slice Ao12 t399.length co12) t399):=⟨(by rw [hw];exact (zRf HO_394002 K393 (fun _ hk => ⟨hk.1.1,hk.1.2⟩)))⟩;replace HO411 : Aside0 (Kd.R k61 61 w64 w.heap.size (fun k_ => some k_ ≠ (.slice Ao11 t396.length co11 : Value).ownBlock ∧ some k_ ≠ (.slice Ao12 t399.length co12 : Value).ownBlock) (.slice Ao59 y409.length co59) y409):=⟨(by rw [hw];exact (zRf HO411 K393 (fun _ hk => ⟨hk.1.1,hk.1.2⟩)))⟩;replace K393:=zVp hw (.cells #[.int .u64 (IntKind.u64.wrap (t395 + 1)),.slice Ao11 t396.length co11,.slice Ao59 y409.length co59,.bool true,.int .i64 0] 39 (0,0)) K393;replace K394:=zV hw K394;replace HB:=zU hw HB;clear hw))
         replace HO_394001:=zA (Kd.R_drew HO_394001.out)
         replace HO_394002:=zA (Kd.R_drew HO_394002.out)
         replace HO411:=zA (Kd.R_drew HO411.out)
         replace K393:=zA (bD K393.1)
         replace K394:=zA (bD K394.1)
         replace HB:=zA (bw1 HB.1)
         refine start_ (n:=9) (S:=fun w' => w'.cell? ⟨G393,0,none⟩ = some (.int .u64 (IntKind.u64.wrap (t395 + 1))) ∧ w'.cell? ⟨G393,1,none⟩ = some (.slice Ao11 t396.length co11) ∧ w'.cell? ⟨G393,2,none⟩ = some (.slice Ao59 y409.length co59) ∧ w'.cell? ⟨G393,3,none⟩ = some (.bool true) ∧ w'.cell? ⟨G393,4,none⟩ = some (.int .i64 0)) (ds:=[]) #[F,F,F,F,F,F,F,F,F] (by kernel_rfl) rfl rfl ⟨zk K393 0,zk K393 1,zk K393 2,zk K393 3,zk K393 4⟩ (fun hHeld => ?_);refine with_tabW delta_Offer.tab13 delta_Offer.bits13 (fun HT_ HW_ => ?_)
         generalize w64.drew = w65 at HO_394001 HO_394002 HO411 K393 K394 HB hHeld ⊢
         refine pz 2 49 #[F,F,T,F,F,F,F,F,F] HT_.1 ?_
         refine tz 0 47 #[T,F,T,F,F,F,F,F,F] HT_.1 HW_.1 hHeld ?_
         refine tz 3 50 #[T,F,T,T,F,F,F,F,F] HT_.1 HW_.1 hHeld ?_
         refine one_ (i:=1) (N:=some 48) #[T,T,T,T,F,F,F,F,F] rfl rfl (one_of HT_.out (by kernel_rfl)) (by decide) (fun K hK => ?_)
         refine zo_ Try.func39 #[.agg #[.int .u64 (IntKind.u64.wrap (t395 + 1)),.slice Ao11 t396.length co11,.slice Ao59 y409.length co59,.bool true,.int .i64 0]] ?_
         with_reducible refine (delta_copied.calls (IntKind.u64.wrap (t395 + 1)) _ _ t396 _ _ y409 true 0 t412 t413 t416 t419 t420 _ ?side1 ?side2 ?side3 ?side4 A54.out).mono ?_
         (case side1 => exact zC ((Kd.R_reads' HO_394001.out).2.2))
         (case side2 => exact (Kd.R_reads' HO_394001.out).2.1)
         (case side3 => exact zC ((Kd.R_reads' HO411.out).2.2))
         (case side4 => exact (Kd.R_reads' HO411.out).2.1)
         rintro e w66 ⟨v414,v417,rfl,ho0,ho1,hb⟩
         refine ⟨_,rfl,?_⟩
         have HO415:=zA (Kd.R_lower (Kd.R_new' (Kd.R_new' (Kd.R_new' ho0 (Kd.R_lt (zR HO_394001))) (Kd.R_lt (zR HO_394002))) (Kd.R_lt (zR HO411))) (zW HB))
         have HO418:=zA (Kd.R_lower (Kd.R_new' (Kd.R_new' (Kd.R_new' ho1 (Kd.R_lt (zR HO_394001))) (Kd.R_lt (zR HO_394002))) (Kd.R_lt (zR HO411))) (zW HB))
         replace HO_394001:=zA (Kd.R_mono (Kd.R_told (Kd.R_told (Kd.R_old (zR HO_394001) hb) (Kd.R_base ho0)) (Kd.R_base ho1)) (fun _ h_ => h_.1))
         replace HO_394002:=zA (Kd.R_mono (Kd.R_told (Kd.R_told (Kd.R_old (zR HO_394002) hb) (Kd.R_base ho0)) (Kd.R_base ho1)) (fun _ h_ => h_.1))
         replace HO411:=zA (Kd.R_mono (Kd.R_told (Kd.R_told (Kd.R_old (zR HO411) hb) (Kd.R_base ho0)) (Kd.R_base ho1)) (fun _ h_ => h_.1))
         replace K393:=zB K393 hb
         replace K394:=zB K394 hb
         replace HB:=zS HB hb
         (try clear hb)
         (try clear hb2)
         (try clear hk)
         (try clear hi)
         (try clear ho0)
         (try clear ho1)
         refine hK.out _ _ ⟨zk K393 0,zk K393 1,zk K393 2,zk K393 3,zk K393 4⟩ (fun hHeld => ?_)
         clear hK K
         refine nz 48 ?_
         refine one_ (i:=4) (N:=some 51) #[T,T,T,T,T,F,F,F,F] rfl rfl (one_of HT_.out (by kernel_rfl)) (by decide) (fun K hK => ?_)
         refine zo_ Try.func40 #[.slice Ao59 y409.length co59] ?_
         with_reducible refine (delta_own.calls _ _ y409 t421 _ ?side1 ?side2 A55.out).mono ?_
         (case side1 => exact zC ((Kd.R_reads' HO411.out).2.2))
         (case side2 => exact (Kd.R_reads' HO411.out).2.1)
         rintro e w67 ⟨v422,rfl,ho0,hb⟩
         refine ⟨_,rfl,?_⟩
         have HO423:=zA (Kd.R_lower (Kd.R_new' (Kd.R_new' (Kd.R_new' (Kd.R_new' (Kd.R_new' ho0 (Kd.R_lt (zR HO_394001))) (Kd.R_lt (zR HO_394002))) (Kd.R_lt (zR HO411))) (Kd.R_lt (zR HO415))) (Kd.R_lt (zR HO418))) (zW HB))
         replace HO_394001:=zA (Kd.R_elder' (zR HO_394001) (Kd.R_base ho0) hb)
         replace HO_394002:=zA (Kd.R_elder' (zR HO_394002) (Kd.R_base ho0) hb)
         replace HO411:=zA (Kd.R_elder' (zR HO411) (Kd.R_base ho0) hb)
         replace HO415:=zA (Kd.R_elder' (zR HO415) (Kd.R_base ho0) hb)
         replace HO418:=zA (Kd.R_elder' (zR HO418) (Kd.R_base ho0) hb)
         replace K393:=zB K393 hb
         replace K394:=zB K394 hb
         replace HB:=zS HB hb
         (try clear hb)
         (try clear hb2)
         (try clear hk)
         (try clear hi)
         (try clear ho0)
         obtain ⟨Ao69,co69,eo69⟩:=Kd.R_slice HO415.out
         (first|subst eo69|(injection eo69 with f1_ f2_ f3_;have f4_:=f1_.symm;have f5_:=f3_.symm;clear f1_ f2_ f3_;subst f4_;subst f5_))
         obtain ⟨Ao71,co71,eo71⟩:=Kd.R_slice HO418.out
         (first|subst eo71|(injection eo71 with f1_ f2_ f3_;have f4_:=f1_.symm;have f5_:=f3_.symm;clear f1_ f2_ f3_;subst f4_;subst f5_))
         refine hK.out _ _ ⟨zk K393 0,zk K393 1,zk K393 2,zk K393 3,zk K393 4⟩ (fun hHeld => ?_)
         clear hK K
         refine nz 51 ?_
         refine one_ (i:=5) (N:=none) #[T,T,T,T,T,T,F,F,F] rfl rfl (one_of HT_.out (by kernel_rfl)) (by decide) (fun K hK => ?_)
         have hs68 : w67.cell? ⟨G394,0,none⟩ = some (.int .u64 0):=zk K394 0
         have hfs68:=bF K394.1 0
         have hs70 : w67.cell? ⟨G394,1,none⟩ = some (.slice none 0 0):=zk K394 1
         have hfs70:=bF K394.1 1
         have hs72 : w67.cell? ⟨G394,2,none⟩ = some (.slice none 0 0):=zk K394 2
         have hfs72:=bF K394.1 2
         have hs73 : w67.cell? ⟨G394,3,none⟩ = some (.bool false):=zk K394 3
         have hfs73:=bF K394.1 3
         have hs74 : w67.cell? ⟨G394,4,none⟩ = some (.int .i64 0):=zk K394 4
         have hfs74:=bF K394.1 4
         refine sz ?_
         refine hK.out _ _ ⟨(zx (hHeld.1) NB393_394.1),(zx (hHeld.2.1) NB393_394.1),(zx (hHeld.2.2.1) NB393_394.1),(zx (hHeld.2.2.2.1) NB393_394.1),(zx (hHeld.2.2.2.2) NB393_394.1)⟩ (fun hHeld => ?_)
         clear hK K
         refine pz 6 5 #[T,T,T,T,T,T,T,F,F] HT_.1 ?_
         refine pz 7 6 #[T,T,T,T,T,T,T,T,F] HT_.1 ?_
         refine pz 8 7 #[T,T,T,T,T,T,T,T,T] HT_.1 ?_
         refine done_ (done_of HT_.out (by kernel_rfl)) ?_
         try go_wp2
         refine bodyPost_ret (results_list (rs:=[.cell 4 39,.tmp 5,.tmp 6,.tmp 7]) rfl (by simp) (.cell G394 39 #[.int .u64 t412,.slice Ao69 t413.length co69,.slice Ao71 t416.length co71,.bool t419,.int .i64 t420] (0,0) _ rfl (zF K394) Try.underlying39 rfl (by kernel_rfl) (.tmp (.tmp (.tmp .nil))))) rfl ?_
         exact ⟨_,_,_,by first|rfl|(simp [errW_none,errW_some] <;> rfl)|(simp only [← hji51];first|rfl|(simp [errW_none,errW_some] <;> rfl))|(simp [*,errW_none,errW_some] <;> rfl),zRf HO415 K394 (fun _ hk => ⟨hk.1.1.1.1.1,hk.1.2⟩),zRf HO418 K394 (fun _ hk => ⟨hk.1.1.1.1.1,hk.1.2⟩),zRf HO423 K394 (fun _ hk => ⟨hk.1.1.2,hk.1.2⟩),zH HB⟩
        ·rw [if_neg c53] at H
         exact absurd H (by simp)
       ·rw [if_neg c52] at H
        exact absurd H (by simp)

end Go.Proofs.Ytpcgjdllgdkobaa.XD
