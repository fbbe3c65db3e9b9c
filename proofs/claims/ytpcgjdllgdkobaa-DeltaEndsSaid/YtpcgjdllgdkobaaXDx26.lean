/- Go functions of this seat as Lean functions, with proofs that the calls come to them. (Written by xprint.py, a program of this session, over the kit's print.) -/
import Derived.Test.YtpcgjdllgdkobaaXDx0
import Derived.Test.YtpcgjdllgdkobaaXDx9
import Derived.Test.YtpcgjdllgdkobaaXDx21
import Derived.Test.YtpcgjdllgdkobaaXDx25
namespace Go.Proofs.Ytpcgjdllgdkobaa.XD
open Go.RowKit Go.Proofs.YtpcgjdllgdkobaaW.PrintWords Go.Proofs.YtpcgjdllgdkobaaW.PrintLast Go.Proofs.YtpcgjdllgdkobaaW.PrintMore
attribute [local go_sem] max2_int min2_int max_two min_two max_three min_three max_four min_four   -- for this text's walks alone
set_option linter.unusedVariables false
set_option linter.unusedSimpArgs false
open List renaming setIfInBounds_toArray → xA, set_cons_zero → xB, set_cons_succ → xC
open Go.Proofs.YtpcgjdllgdkobaaW.PrintWords renaming blk_drewN → bN, blk_drew → bD, blk_alloc → bA, below_set → bS, blk_frozen → bF, blk_cell → bC, cell_far → cF, blk_far → bZ, blk_below → bB, pw_below_drewN → bwN, below_drew1 → bw1, below_alloc → bwA
open Go.Proofs.YtpcgjdllgdkobaaW.PrintZ
open Bool renaming true → T,false → F

/-! ### delta_Acked: function 20 -/
def delta_Acked.f (a0_0 : Int) (l0_1 : List (S61)) (l0_2 : List (S61)) (a0_3 : Bool) (a0_4 : Int) (a1 : Int) : Option (Int × (List (S61)) × (List (S61)) × Bool × Int × Bool) := (delta_copied.f a0_0 l0_1 l0_2 a0_3 a0_4).bind fun bt426 => (if bt426.2.2.2.1 = true then (if a1 = bt426.1 then ((delta_merge.f bt426.2.1 bt426.2.2.1).bind fun t435 => (some (bt426.1, t435, ([] : List (S61)), false, 0, true))) else (some (bt426.1, bt426.2.1, bt426.2.2.1, bt426.2.2.2.1, bt426.2.2.2.2, false))) else (some (bt426.1, bt426.2.1, bt426.2.2.1, bt426.2.2.2.1, bt426.2.2.2.2, false)))
def delta_Acked.T4 : Bool × List (List Nat × List Nat) := (true, [([], []), ([0], [0]), ([], []), ([2], [2]), ([], []), ([4], [4]), ([3, 5], [3, 5]), ([1, 6], [1, 6]), ([7, 6, 0, 1, 2, 3, 4, 5, 6, 7], [7]), ([8, 0, 1, 2, 3, 4, 5, 6, 7, 8], [])])
def delta_Acked.B4 : List Nat := [0, 1, 0, 4, 0, 16, 60, 127, 255, 511]
theorem delta_Acked.tab4 : rtab .any (opsOf Try.f20 4) = delta_Acked.T4 := by kernel_rfl
theorem delta_Acked.bits4 : waitsOk delta_Acked.T4.2 delta_Acked.B4 = true := by kernel_rfl
set_option maxHeartbeats 8000000 in
set_option maxRecDepth 100000 in
theorem delta_Acked.calls (a0_0 : Int) (A0_1 : Option Addr) (c0_1 : Nat) (l0_1 : List (S61)) (A0_2 : Option Addr) (c0_2 : Nat) (l0_2 : List (S61)) (a0_3 : Bool) (a0_4 : Int) (a1 : Int) (r1 : Int) (r2 : List (S61)) (r3 : List (S61)) (r4 : Bool) (r5 : Int) (r6 : Bool) (w : World) (hr0_1 : Kd.C k61 w A0_1 l0_1.length l0_1) (hc0_1 : l0_1.length ≤ c0_1) (hr0_2 : Kd.C k61 w A0_2 l0_2.length l0_2) (hc0_2 : l0_2.length ≤ c0_2) (h : delta_Acked.f a0_0 l0_1 l0_2 a0_3 a0_4 a1 = some (r1, r2, r3, r4, r5, r6)) :
  Calls Try.prog 20 #[.agg #[.int .u64 a0_0,.slice A0_1 l0_1.length c0_1,.slice A0_2 l0_2.length c0_2,.bool a0_3,.int .i64 a0_4],.int .u64 a1] w fun e w' => ∃ v1_ v2_ : Value,e = .returned (.tuple #[.agg #[.int .u64 r1,v1_,v2_,.bool r4,.int .i64 r5],.bool r6]) ∧ Kd.R k61 61 w' w.heap.size (fun k_ => some k_ ≠ (v2_ : Value).ownBlock) v1_ r2 ∧ Kd.R k61 61 w' w.heap.size (fun k_ => some k_ ≠ (v1_ : Value).ownBlock) v2_ r3 ∧ Below w.heap.size w w':=by
 have hu39:=Try.underlying39
 have HR0_1:=zA hr0_1
 have HC0_1:=zA hc0_1
 clear hr0_1 hc0_1
 have HR0_2:=zA hr0_2
 have HC0_2:=zA hc0_2
 clear hr0_2 hc0_2
 have HB:=zA (Below.refl w.heap.size w)
 have H : ((delta_copied.f a0_0 l0_1 l0_2 a0_3 a0_4).bind fun bt426 => (if bt426.2.2.2.1 = true then (if a1 = bt426.1 then ((delta_merge.f bt426.2.1 bt426.2.2.1).bind fun t435 => (some (bt426.1,t435,([] : List (S61)),false,0,true))) else (some (bt426.1,bt426.2.1,bt426.2.2.1,bt426.2.2.2.1,bt426.2.2.2.2,false))) else (some (bt426.1,bt426.2.1,bt426.2.2.1,bt426.2.2.2.1,bt426.2.2.2.2,false)))) = some (r1,r2,r3,r4,r5,r6):=h
 clear h
 replace H:=Option.bind_eq_some_iff.mp H
 obtain ⟨⟨t426,t427,t430,t433,t434⟩,A30,H⟩:=H
 (try dsimp only at H)
 have A3:=zA A30
 clear A30
 by_cases c4 : t433 = true
 ·subst c4
  rw [if_pos rfl] at H
  by_cases c5 : a1 = t426
  ·rw [if_pos c5] at H
   have c5b0 : (a1 == t426) = true:=beq_iff_eq.mpr c5
   have c5b1 : (a1 != t426) = false:=bne_eq_false_iff_eq.mpr c5
   clear c5
   replace H:=Option.bind_eq_some_iff.mp H
   obtain ⟨t435,A60,H⟩:=H
   (try dsimp only at H)
   have A6:=zA A60
   clear A60
   simp only [Option.some.injEq,Prod.mk.injEq] at H
   obtain ⟨rfl,rfl,rfl,rfl,rfl,rfl⟩:=H
   go_enter Try.func20,Try.ntmps20
   try go_wp2_with (first|((with_reducible refine gate_dst (N:=2) rfl ?_);refine zb (N:=2) (cs:=#[.int .u64 a0_0,.slice A0_1 l0_1.length c0_1,.slice A0_2 l0_2.length c0_2,.bool a0_3,.int .i64 a0_4]) (t:=39) ?_;intro G424 hg w7 hbox hb;have K424:=zA (hbox);have GW424:=zN HB hg;have GE424:=zN HB hg;replace HB:=zS HB hb;clear hb hbox hg)|((with_reducible refine gate_dst (N:=4) rfl ?_);refine zb (N:=4) (cs:=#[.int .u64 0,.slice none 0 0,.slice none 0 0,.bool false,.int .i64 0]) (t:=39) ?_;intro G425 hg w8 hbox hb;have K425:=zA (hbox);have GW425:=zN HB hg;have GE425:=zN HB hg;replace HB:=zS HB hb;have NB424_425:=zL K424 hg;have NB425_424:=zG K424 hg;replace K424:=zB K424 hb;clear hb hbox hg;have:=NB424_425.1;have:=NB425_424.1;obtain ⟨hcz10_0,hcz10_1,hcz10_2,hcz10_3,hcz10_4,hfz10_0,hfz10_1,hfz10_2,hfz10_3,hfz10_4⟩:=zc5 K424)|((with_reducible refine gate_callee (f:=39) rfl ?_);refine zg (some 7) Try.func39 #[.agg #[.int .u64 a0_0,.slice A0_1 l0_1.length c0_1,.slice A0_2 l0_2.length c0_2,.bool a0_3,.int .i64 a0_4]] ?_;(with_reducible refine (delta_copied.calls a0_0 _ _ l0_1 _ _ l0_2 a0_3 a0_4 t426 t427 t430 true t434 _ ?side1 ?side2 ?side3 ?side4 A3.out).mono ?_);(case side1 => exact zC (Kd.C_below HR0_1.out HB.1));(case side2 => exact HC0_1.out);(case side3 => exact zC (Kd.C_below HR0_2.out HB.1));(case side4 => exact HC0_2.out);rintro e w11 ⟨v428,v431,rfl,ho0,ho1,hb⟩;refine ⟨_,rfl,?_⟩;have HO429:=zA (Kd.R_lower ho0 (zW HB));have HO432:=zA (Kd.R_lower ho1 (zW HB));replace K424:=zB K424 hb;replace K425:=zB K425 hb;replace HB:=zS HB hb;(try clear hb);(try clear ho0);(try clear ho1);obtain ⟨hcz12_0,hcz12_1,hcz12_2,hcz12_3,hcz12_4,hfz12_0,hfz12_1,hfz12_2,hfz12_3,hfz12_4⟩:=zc5 K424;obtain ⟨Ao13,co13,eo13⟩:=Kd.R_slice HO429.out;subst eo13;obtain ⟨Ao14,co14,eo14⟩:=Kd.R_slice HO432.out;subst eo14)|((with_reducible refine gate_store (t:=39) (p:=2) rfl ?_);refine store_event (t:=39) (p:=2) (v:=?vo_w15) (w1:=(((((w11.setCell ⟨G424,0,none⟩ (.int .u64 t426)).setCell ⟨G424,1,none⟩ (.slice Ao13 t427.length co13)).setCell ⟨G424,2,none⟩ (.slice Ao14 t430.length co14)).setCell ⟨G424,3,none⟩ (.bool true)).setCell ⟨G424,4,none⟩ (.int .i64 t434))) ?hg ?ho ?hn ?hr ?_;(case ho => rfl);(case hg => rfl);(case hn => rfl);(case hr => first|(go_simp;done)|(go_simp;rfl));intro w15 hw;replace HO429 : Aside0 (Kd.R k61 61 w15 w.heap.size (fun k_ => some k_ ≠ (.slice Ao14 t430.length co14 : Value).ownBlock) (.slice Ao13 t427.length co13) t427):=⟨(by rw [hw];exact (zRf HO429 K424 (fun _ hk => hk.1)))⟩;replace HO432 : Aside0 (Kd.R k61 61 w15 w.heap.size (fun k_ => some k_ ≠ (.slice Ao13 t427.length co13 : Value).ownBlock) (.slice Ao14 t430.length co14) t430):=⟨(by rw [hw];exact (zRf HO432 K424 (fun _ hk => hk.1)))⟩;replace K424:=zVp hw (.cells #[.int .u64 t426,.slice Ao13 t427.length co13,.slice Ao14 t430.length co14,.bool true,.int .i64 t434] 39 (0,0)) K424;replace K425:=zV hw K425;replace HB:=zU hw HB;clear hw;obtain ⟨hcz16_0,hcz16_1,hcz16_2,hcz16_3,hcz16_4,hfz16_0,hfz16_1,hfz16_2,hfz16_3,hfz16_4⟩:=zc5 K424))
   replace HO429:=zA (Kd.R_drew HO429.out)
   replace HO432:=zA (Kd.R_drew HO432.out)
   replace K424:=zA (bD K424.1)
   replace K425:=zA (bD K425.1)
   replace HB:=zA (bw1 HB.1)
   refine start_ (n:=10) (S:=fun w' => w'.cell? ⟨G424,0,none⟩ = some (.int .u64 t426) ∧ w'.cell? ⟨G424,1,none⟩ = some (.slice Ao13 t427.length co13) ∧ w'.cell? ⟨G424,2,none⟩ = some (.slice Ao14 t430.length co14) ∧ w'.cell? ⟨G424,3,none⟩ = some (.bool true) ∧ w'.cell? ⟨G424,4,none⟩ = some (.int .i64 t434)) (ds:=[]) #[F,F,F,F,F,F,F,F,F,F] (by kernel_rfl) rfl rfl ⟨zk K424 0,zk K424 1,zk K424 2,zk K424 3,zk K424 4⟩ (fun hHeld => ?_);refine with_tabW delta_Acked.tab4 delta_Acked.bits4 (fun HT_ HW_ => ?_)
   generalize w15.drew = w17 at HO429 HO432 K424 K425 HB hHeld ⊢
   refine pz 0 18 #[T,F,F,F,F,F,F,F,F,F] HT_.1 ?_
   refine pz 2 20 #[T,F,T,F,F,F,F,F,F,F] HT_.1 ?_
   refine pz 4 22 #[T,F,T,F,T,F,F,F,F,F] HT_.1 ?_
   refine tz 1 19 #[T,T,T,F,T,F,F,F,F,F] HT_.1 HW_.1 hHeld ?_
   refine tz 3 21 #[T,T,T,T,T,F,F,F,F,F] HT_.1 HW_.1 hHeld ?_
   refine tz 5 23 #[T,T,T,T,T,T,F,F,F,F] HT_.1 HW_.1 hHeld ?_
   refine one_ (i:=6) (N:=some 24) #[T,T,T,T,T,T,T,F,F,F] rfl rfl (one_of HT_.out (by kernel_rfl)) (by decide) (fun K hK => ?_)
   refine zo_ Try.func34 #[.slice Ao13 t427.length co13,.slice Ao14 t430.length co14] ?_
   with_reducible refine (delta_merge.calls _ _ t427 _ _ t430 t435 _ ?side1 ?side2 ?side3 ?side4 A6.out).mono ?_
   (case side1 => exact zC ((Kd.R_reads' HO429.out).2.2))
   (case side2 => exact (Kd.R_reads' HO429.out).2.1)
   (case side3 => exact zC ((Kd.R_reads' HO432.out).2.2))
   (case side4 => exact (Kd.R_reads' HO432.out).2.1)
   rintro e w18 ⟨v436,rfl,ho0,hb⟩
   refine ⟨_,rfl,?_⟩
   have HO437:=zA (Kd.R_lower (Kd.R_new' (Kd.R_new' ho0 (Kd.R_lt (zR HO429))) (Kd.R_lt (zR HO432))) (zW HB))
   replace HO429:=zA (Kd.R_elder' (zR HO429) (Kd.R_base ho0) hb)
   replace HO432:=zA (Kd.R_elder' (zR HO432) (Kd.R_base ho0) hb)
   replace K424:=zB K424 hb
   replace K425:=zB K425 hb
   replace HB:=zS HB hb
   (try clear hb)
   (try clear hb2)
   (try clear hk)
   (try clear hi)
   (try clear ho0)
   obtain ⟨Ao19,co19,eo19⟩:=Kd.R_slice HO437.out
   (first|subst eo19|(injection eo19 with f1_ f2_ f3_;have f4_:=f1_.symm;have f5_:=f3_.symm;clear f1_ f2_ f3_;subst f4_;subst f5_))
   refine hK.out _ _ ⟨zk K424 0,zk K424 1,zk K424 2,zk K424 3,zk K424 4⟩ (fun hHeld => ?_)
   clear hK K
   refine nz 24 ?_
   refine pz 7 25 #[T,T,T,T,T,T,T,T,F,F] HT_.1 ?_
   refine one_ (i:=8) (N:=none) #[T,T,T,T,T,T,T,T,T,F] rfl rfl (one_of HT_.out (by kernel_rfl)) (by decide) (fun K hK => ?_)
   have hs20 : w18.cell? ⟨G425,0,none⟩ = some (.int .u64 0):=zk K425 0
   have hfs20:=bF K425.1 0
   have:=NB424_425.1
   have:=NB425_424.1
   have hs21 : w18.cell? ⟨G425,1,none⟩ = some (.slice none 0 0):=zk K425 1
   have hfs21:=bF K425.1 1
   have hs22 : w18.cell? ⟨G425,2,none⟩ = some (.slice none 0 0):=zk K425 2
   have hfs22:=bF K425.1 2
   have hs23 : w18.cell? ⟨G425,3,none⟩ = some (.bool false):=zk K425 3
   have hfs23:=bF K425.1 3
   have hs24 : w18.cell? ⟨G425,4,none⟩ = some (.int .i64 0):=zk K425 4
   have hfs24:=bF K425.1 4
   refine sz ?_
   refine hK.out _ _ ⟨(zx (hHeld.1) NB424_425.1),(zx (hHeld.2.1) NB424_425.1),(zx (hHeld.2.2.1) NB424_425.1),(zx (hHeld.2.2.2.1) NB424_425.1),(zx (hHeld.2.2.2.2) NB424_425.1)⟩ (fun hHeld => ?_)
   clear hK K
   refine pz 9 5 #[T,T,T,T,T,T,T,T,T,T] HT_.1 ?_
   refine done_ (done_of HT_.out (by kernel_rfl)) ?_
   try go_wp2
   refine bodyPost_ret (results_ct rfl _ _ G425 39 #[.int .u64 t426,.slice Ao19 t435.length co19,.slice none 0 0,.bool false,.int .i64 0] (0,0) _ rfl (zF K425) Try.underlying39 rfl (by kernel_rfl)) rfl ?_
   exact ⟨_,_,by first|rfl|(simp [errW_none,errW_some] <;> rfl)|(simp [*,errW_none,errW_some] <;> rfl),zRf HO437 K425 (fun _ hk => (by simp [Value.ownBlock])),by first|exact Kd.R_nil _ _ _ _ _|exact Kd.N_nil _ _ _ _ _|exact Kd.V_nil _ _ _ _ _|exact Kd.Q_nil _ _ _ _ _|exact Kd.S_nil _ _ _ _ _,zH HB⟩
  ·rw [if_neg c5] at H
   have c5b0 : (a1 == t426) = false:=beq_eq_false_iff_ne.mpr c5
   have c5b1 : (a1 != t426) = true:=bne_iff_ne.mpr c5
   simp only [Option.some.injEq,Prod.mk.injEq] at H
   obtain ⟨rfl,rfl,rfl,rfl,rfl,rfl⟩:=H
   go_enter Try.func20,Try.ntmps20
   go_wp2_with (first|((with_reducible refine gate_dst (N:=2) rfl ?_);refine zb (N:=2) (cs:=#[.int .u64 a0_0,.slice A0_1 l0_1.length c0_1,.slice A0_2 l0_2.length c0_2,.bool a0_3,.int .i64 a0_4]) (t:=39) ?_;intro G424 hg w25 hbox hb;have K424:=zA (hbox);have GW424:=zN HB hg;have GE424:=zN HB hg;replace HB:=zS HB hb;clear hb hbox hg)|((with_reducible refine gate_dst (N:=4) rfl ?_);refine zb (N:=4) (cs:=#[.int .u64 0,.slice none 0 0,.slice none 0 0,.bool false,.int .i64 0]) (t:=39) ?_;intro G425 hg w26 hbox hb;have K425:=zA (hbox);have GW425:=zN HB hg;have GE425:=zN HB hg;replace HB:=zS HB hb;have NB424_425:=zL K424 hg;have NB425_424:=zG K424 hg;replace K424:=zB K424 hb;clear hb hbox hg;have:=NB424_425.1;have:=NB425_424.1;obtain ⟨hcz28_0,hcz28_1,hcz28_2,hcz28_3,hcz28_4,hfz28_0,hfz28_1,hfz28_2,hfz28_3,hfz28_4⟩:=zc5 K424)|((with_reducible refine gate_callee (f:=39) rfl ?_);refine zg (some 7) Try.func39 #[.agg #[.int .u64 a0_0,.slice A0_1 l0_1.length c0_1,.slice A0_2 l0_2.length c0_2,.bool a0_3,.int .i64 a0_4]] ?_;(with_reducible refine (delta_copied.calls a0_0 _ _ l0_1 _ _ l0_2 a0_3 a0_4 t426 t427 t430 true t434 _ ?side1 ?side2 ?side3 ?side4 A3.out).mono ?_);(case side1 => exact zC (Kd.C_below HR0_1.out HB.1));(case side2 => exact HC0_1.out);(case side3 => exact zC (Kd.C_below HR0_2.out HB.1));(case side4 => exact HC0_2.out);rintro e w29 ⟨v428,v431,rfl,ho0,ho1,hb⟩;refine ⟨_,rfl,?_⟩;have HO429:=zA (Kd.R_lower ho0 (zW HB));have HO432:=zA (Kd.R_lower ho1 (zW HB));replace K424:=zB K424 hb;replace K425:=zB K425 hb;replace HB:=zS HB hb;(try clear hb);(try clear ho0);(try clear ho1);obtain ⟨hcz30_0,hcz30_1,hcz30_2,hcz30_3,hcz30_4,hfz30_0,hfz30_1,hfz30_2,hfz30_3,hfz30_4⟩:=zc5 K424;obtain ⟨Ao31,co31,eo31⟩:=Kd.R_slice HO429.out;subst eo31;obtain ⟨Ao32,co32,eo32⟩:=Kd.R_slice HO432.out;subst eo32)|((with_reducible refine gate_store (t:=39) (p:=2) rfl ?_);refine store_event (t:=39) (p:=2) (v:=?vo_w33) (w1:=(((((w29.setCell ⟨G424,0,none⟩ (.int .u64 t426)).setCell ⟨G424,1,none⟩ (.slice Ao31 t427.length co31)).setCell ⟨G424,2,none⟩ (.slice Ao32 t430.length co32)).setCell ⟨G424,3,none⟩ (.bool true)).setCell ⟨G424,4,none⟩ (.int .i64 t434))) ?hg ?ho ?hn ?hr ?_;(case ho => rfl);(case hg => rfl);(case hn => rfl);(case hr => first|(go_simp;done)|(go_simp;rfl));intro w33 hw;replace HO429 : Aside0 (Kd.R k61 61 w33 w.heap.size (fun k_ => some k_ ≠ (.slice Ao32 t430.length co32 : Value).ownBlock) (.slice Ao31 t427.length co31) t427):=⟨(by rw [hw];exact (zRf HO429 K424 (fun _ hk => hk.1)))⟩;replace HO432 : Aside0 (Kd.R k61 61 w33 w.heap.size (fun k_ => some k_ ≠ (.slice Ao31 t427.length co31 : Value).ownBlock) (.slice Ao32 t430.length co32) t430):=⟨(by rw [hw];exact (zRf HO432 K424 (fun _ hk => hk.1)))⟩;replace K424:=zVp hw (.cells #[.int .u64 t426,.slice Ao31 t427.length co31,.slice Ao32 t430.length co32,.bool true,.int .i64 t434] 39 (0,0)) K424;replace K425:=zV hw K425;replace HB:=zU hw HB;clear hw;obtain ⟨hcz34_0,hcz34_1,hcz34_2,hcz34_3,hcz34_4,hfz34_0,hfz34_1,hfz34_2,hfz34_3,hfz34_4⟩:=zc5 K424;obtain ⟨hcz35_0,hcz35_1,hcz35_2,hcz35_3,hcz35_4,hfz35_0,hfz35_1,hfz35_2,hfz35_3,hfz35_4⟩:=zc5 K425)|((with_reducible refine gate_store (t:=39) (p:=4) rfl ?_);refine store_event (t:=39) (p:=4) (v:=?vo_w36) (w1:=(((((w33.setCell ⟨G425,0,none⟩ (.int .u64 t426)).setCell ⟨G425,1,none⟩ (.slice Ao31 t427.length co31)).setCell ⟨G425,2,none⟩ (.slice Ao32 t430.length co32)).setCell ⟨G425,3,none⟩ (.bool true)).setCell ⟨G425,4,none⟩ (.int .i64 t434))) ?hg ?ho ?hn ?hr ?_;(case ho => rfl);(case hg => rfl);(case hn => rfl);(case hr => first|(go_simp;done)|(go_simp;rfl));intro w36 hw;replace HO429 : Aside0 (Kd.R k61 61 w36 w.heap.size (fun k_ => some k_ ≠ (.slice Ao32 t430.length co32 : Value).ownBlock) (.slice Ao31 t427.length co31) t427):=⟨(by rw [hw];exact (zRf HO429 K425 (fun _ hk => hk.1)))⟩;replace HO432 : Aside0 (Kd.R k61 61 w36 w.heap.size (fun k_ => some k_ ≠ (.slice Ao31 t427.length co31 : Value).ownBlock) (.slice Ao32 t430.length co32) t430):=⟨(by rw [hw];exact (zRf HO432 K425 (fun _ hk => hk.1)))⟩;replace K424:=zV hw K424;replace K425:=zVp hw (.cells #[.int .u64 t426,.slice Ao31 t427.length co31,.slice Ao32 t430.length co32,.bool true,.int .i64 t434] 39 (0,0)) K425;replace HB:=zU hw HB;clear hw))
   refine bodyPost_ret (results_ct rfl _ _ G425 39 #[.int .u64 t426,.slice Ao31 t427.length co31,.slice Ao32 t430.length co32,.bool true,.int .i64 t434] (0,0) _ rfl (zF K425) Try.underlying39 rfl (by kernel_rfl)) rfl ?_
   exact ⟨_,_,by first|rfl|(simp [errW_none,errW_some] <;> rfl)|(simp [*,errW_none,errW_some] <;> rfl),by (with_reducible repeat (first|apply Kd.R_alloc|apply Kd.R_drewN|apply Kd.R_drew));exact HO429.out,by (with_reducible repeat (first|apply Kd.R_alloc|apply Kd.R_drewN|apply Kd.R_drew));exact HO432.out,zH HB⟩
 ·replace c4:=Bool.eq_false_iff.mpr c4
  subst c4
  rw [if_neg (show ¬ (false = true) by decide)] at H
  simp only [Option.some.injEq,Prod.mk.injEq] at H
  obtain ⟨rfl,rfl,rfl,rfl,rfl,rfl⟩:=H
  go_enter Try.func20,Try.ntmps20
  go_wp2_with (first|((with_reducible refine gate_dst (N:=2) rfl ?_);refine zb (N:=2) (cs:=#[.int .u64 a0_0,.slice A0_1 l0_1.length c0_1,.slice A0_2 l0_2.length c0_2,.bool a0_3,.int .i64 a0_4]) (t:=39) ?_;intro G424 hg w37 hbox hb;have K424:=zA (hbox);have GW424:=zN HB hg;have GE424:=zN HB hg;replace HB:=zS HB hb;clear hb hbox hg)|((with_reducible refine gate_dst (N:=4) rfl ?_);refine zb (N:=4) (cs:=#[.int .u64 0,.slice none 0 0,.slice none 0 0,.bool false,.int .i64 0]) (t:=39) ?_;intro G425 hg w38 hbox hb;have K425:=zA (hbox);have GW425:=zN HB hg;have GE425:=zN HB hg;replace HB:=zS HB hb;have NB424_425:=zL K424 hg;have NB425_424:=zG K424 hg;replace K424:=zB K424 hb;clear hb hbox hg;have:=NB424_425.1;have:=NB425_424.1;obtain ⟨hcz40_0,hcz40_1,hcz40_2,hcz40_3,hcz40_4,hfz40_0,hfz40_1,hfz40_2,hfz40_3,hfz40_4⟩:=zc5 K424)|((with_reducible refine gate_callee (f:=39) rfl ?_);refine zg (some 7) Try.func39 #[.agg #[.int .u64 a0_0,.slice A0_1 l0_1.length c0_1,.slice A0_2 l0_2.length c0_2,.bool a0_3,.int .i64 a0_4]] ?_;(with_reducible refine (delta_copied.calls a0_0 _ _ l0_1 _ _ l0_2 a0_3 a0_4 t426 t427 t430 false t434 _ ?side1 ?side2 ?side3 ?side4 A3.out).mono ?_);(case side1 => exact zC (Kd.C_below HR0_1.out HB.1));(case side2 => exact HC0_1.out);(case side3 => exact zC (Kd.C_below HR0_2.out HB.1));(case side4 => exact HC0_2.out);rintro e w41 ⟨v428,v431,rfl,ho0,ho1,hb⟩;refine ⟨_,rfl,?_⟩;have HO429:=zA (Kd.R_lower ho0 (zW HB));have HO432:=zA (Kd.R_lower ho1 (zW HB));replace K424:=zB K424 hb;replace K425:=zB K425 hb;replace HB:=zS HB hb;(try clear hb);(try clear ho0);(try clear ho1);obtain ⟨hcz42_0,hcz42_1,hcz42_2,hcz42_3,hcz42_4,hfz42_0,hfz42_1,hfz42_2,hfz42_3,hfz42_4⟩:=zc5 K424;obtain ⟨Ao43,co43,eo43⟩:=Kd.R_slice HO429.out;subst eo43;obtain ⟨Ao44,co44,eo44⟩:=Kd.R_slice HO432.out;subst eo44)|((with_reducible refine gate_store (t:=39) (p:=2) rfl ?_);refine store_event (t:=39) (p:=2) (v:=?vo_w45) (w1:=(((((w41.setCell ⟨G424,0,none⟩ (.int .u64 t426)).setCell ⟨G424,1,none⟩ (.slice Ao43 t427.length co43)).setCell ⟨G424,2,none⟩ (.slice Ao44 t430.length co44)).setCell ⟨G424,3,none⟩ (.bool false)).setCell ⟨G424,4,none⟩ (.int .i64 t434))) ?hg ?ho ?hn ?hr ?_;(case ho => rfl);(case hg => rfl);(case hn => rfl);(case hr => first|(go_simp;done)|(go_simp;rfl));intro w45 hw;replace HO429 : Aside0 (Kd.R k61 61 w45 w.heap.size (fun k_ => some k_ ≠ (.slice Ao44 t430.length co44 : Value).ownBlock) (.slice Ao43 t427.length co43) t427):=⟨(by rw [hw];exact (zRf HO429 K424 (fun _ hk => hk.1)))⟩;replace HO432 : Aside0 (Kd.R k61 61 w45 w.heap.size (fun k_ => some k_ ≠ (.slice Ao43 t427.length co43 : Value).ownBlock) (.slice Ao44 t430.length co44) t430):=⟨(by rw [hw];exact (zRf HO432 K424 (fun _ hk => hk.1)))⟩;replace K424:=zVp hw (.cells #[.int .u64 t426,.slice Ao43 t427.length co43,.slice Ao44 t430.length co44,.bool false,.int .i64 t434] 39 (0,0)) K424;replace K425:=zV hw K425;replace HB:=zU hw HB;clear hw;obtain ⟨hcz46_0,hcz46_1,hcz46_2,hcz46_3,hcz46_4,hfz46_0,hfz46_1,hfz46_2,hfz46_3,hfz46_4⟩:=zc5 K424;obtain ⟨hcz47_0,hcz47_1,hcz47_2,hcz47_3,hcz47_4,hfz47_0,hfz47_1,hfz47_2,hfz47_3,hfz47_4⟩:=zc5 K425)|((with_reducible refine gate_store (t:=39) (p:=4) rfl ?_);refine store_event (t:=39) (p:=4) (v:=?vo_w48) (w1:=(((((w45.setCell ⟨G425,0,none⟩ (.int .u64 t426)).setCell ⟨G425,1,none⟩ (.slice Ao43 t427.length co43)).setCell ⟨G425,2,none⟩ (.slice Ao44 t430.length co44)).setCell ⟨G425,3,none⟩ (.bool false)).setCell ⟨G425,4,none⟩ (.int .i64 t434))) ?hg ?ho ?hn ?hr ?_;(case ho => rfl);(case hg => rfl);(case hn => rfl);(case hr => first|(go_simp;done)|(go_simp;rfl));intro w48 hw;replace HO429 : Aside0 (Kd.R k61 61 w48 w.heap.size (fun k_ => some k_ ≠ (.slice Ao44 t430.length co44 : Value).ownBlock) (.slice Ao43 t427.length co43) t427):=⟨(by rw [hw];exact (zRf HO429 K425 (fun _ hk => hk.1)))⟩;replace HO432 : Aside0 (Kd.R k61 61 w48 w.heap.size (fun k_ => some k_ ≠ (.slice Ao43 t427.length co43 : Value).ownBlock) (.slice Ao44 t430.length co44) t430):=⟨(by rw [hw];exact (zRf HO432 K425 (fun _ hk => hk.1)))⟩;replace K424:=zV hw K424;replace K425:=zVp hw (.cells #[.int .u64 t426,.slice Ao43 t427.length co43,.slice Ao44 t430.length co44,.bool false,.int .i64 t434] 39 (0,0)) K425;replace HB:=zU hw HB;clear hw))
  refine bodyPost_ret (results_ct rfl _ _ G425 39 #[.int .u64 t426,.slice Ao43 t427.length co43,.slice Ao44 t430.length co44,.bool false,.int .i64 t434] (0,0) _ rfl (zF K425) Try.underlying39 rfl (by kernel_rfl)) rfl ?_
  exact ⟨_,_,by first|rfl|(simp [errW_none,errW_some] <;> rfl)|(simp [*,errW_none,errW_some] <;> rfl),by (with_reducible repeat (first|apply Kd.R_alloc|apply Kd.R_drewN|apply Kd.R_drew));exact HO429.out,by (with_reducible repeat (first|apply Kd.R_alloc|apply Kd.R_drewN|apply Kd.R_drew));exact HO432.out,zH HB⟩

/-! ### delta_Settled: function 21 -/
mutual
def delta_Settled.j0 : Nat → List (S61) → Bool → Int → List (S61) → List (S61) → Bool → Int → Option (Bool)
 | 0, _, _, _, _, _, _, _ => none
 | k + 1, x1, x15, x439000, x439001, x439002, x439003, x439004 => if x15 = true then (some false) else (delta_Settled.l0 k x1 (x1.length : Int) 0 x439000 x439001 x439002 x439003 x439004)
def delta_Settled.l0 : Nat → List (S61) → Int → Int → Int → List (S61) → List (S61) → Bool → Int → Option (Bool)
 | 0, _, _, _, _, _, _, _, _ => none
 | k + 1, x1, x17, x18, x439000, x439001, x439002, x439003, x439004 => if x18 < x17 then (if 0 ≤ x18 then (if x18 < (x439001.length : Int) then (if x18 < (x1.length : Int) then ((delta_same.f ((rd_T61 x439001 x18).f0) ((rd_T61 x439001 x18).f1) ((rd_T61 x439001 x18).f2) ((rd_T61 x439001 x18).f3) ((rd_T61 x439001 x18).f4) ((rd_T61 x1 x18).f0) ((rd_T61 x1 x18).f1) ((rd_T61 x1 x18).f2) ((rd_T61 x1 x18).f3) ((rd_T61 x1 x18).f4)).bind fun t441 => (if t441 = true then (delta_Settled.l0 k x1 x17 (wrap64 (x18 + 1)) x439000 x439001 x439002 x439003 x439004) else (some false))) else (none)) else (none)) else (none)) else (some true)
end
def delta_Settled.f (k : Nat) (a0_0 : Int) (l0_1 : List (S61)) (l0_2 : List (S61)) (a0_3 : Bool) (a0_4 : Int) (l1 : List (S61)) : Option (Bool) := if a0_3 = true then (delta_Settled.j0 k l1 true a0_0 l0_1 l0_2 a0_3 a0_4) else (delta_Settled.j0 k l1 ((l0_1.length : Int) != (l1.length : Int)) a0_0 l0_1 l0_2 a0_3 a0_4)
theorem delta_Settled.mono_l : ∀ k, (∀ y0 y1 y2 y3 y4 y5 y6, LeO (delta_Settled.j0 k y0 y1 y2 y3 y4 y5 y6) (delta_Settled.j0 (k + 1) y0 y1 y2 y3 y4 y5 y6)) ∧ (∀ y0 y1 y2 y3 y4 y5 y6 y7, LeO (delta_Settled.l0 k y0 y1 y2 y3 y4 y5 y6 y7) (delta_Settled.l0 (k + 1) y0 y1 y2 y3 y4 y5 y6 y7))
 | 0 => ⟨fun _ _ _ _ _ _ _ r h => by simp [delta_Settled.j0] at h, fun _ _ _ _ _ _ _ _ r h => by simp [delta_Settled.l0] at h⟩
 | k + 1 => by
  obtain ⟨ih0,ih1⟩:=delta_Settled.mono_l k
  refine ⟨?_,?_⟩
  ·intro y0 y1 y2 y3 y4 y5 y6
   unfold delta_Settled.j0
   repeat' first
   | (with_reducible exact ih0 _ _ _ _ _ _ _)
   | (with_reducible exact ih1 _ _ _ _ _ _ _ _)
   | (with_reducible exact LeO.refl _)
   | (with_reducible exact LeO.none _)
   | (with_reducible refine LeO.ite ?_ ?_)
   | (with_reducible refine LeO.bind ?_ (fun _ => ?_))
   | exact ih0 _ _ _ _ _ _ _
   | exact ih1 _ _ _ _ _ _ _ _
   | exact LeO.none _
   | refine LeO.ite ?_ ?_
   | refine LeO.bind ?_ (fun _ => ?_)
  ·intro y0 y1 y2 y3 y4 y5 y6 y7
   unfold delta_Settled.l0
   repeat' first
   | (with_reducible exact ih0 _ _ _ _ _ _ _)
   | (with_reducible exact ih1 _ _ _ _ _ _ _ _)
   | (with_reducible exact LeO.refl _)
   | (with_reducible exact LeO.none _)
   | (with_reducible refine LeO.ite ?_ ?_)
   | (with_reducible refine LeO.bind ?_ (fun _ => ?_))
   | exact ih0 _ _ _ _ _ _ _
   | exact ih1 _ _ _ _ _ _ _ _
   | exact LeO.none _
   | refine LeO.ite ?_ ?_
   | refine LeO.bind ?_ (fun _ => ?_)
theorem delta_Settled.mono : ∀ a0 a1 a2 a3 a4 a5 k, LeO (delta_Settled.f k a0 a1 a2 a3 a4 a5) (delta_Settled.f (k + 1) a0 a1 a2 a3 a4 a5) := by
 intro a0 a1 a2 a3 a4 a5 k
 obtain ⟨ih0,ih1⟩:=delta_Settled.mono_l k
 unfold delta_Settled.f
 repeat' first
   | (with_reducible exact ih0 _ _ _ _ _ _ _)
   | (with_reducible exact ih1 _ _ _ _ _ _ _ _)
   | (with_reducible exact LeO.refl _)
   | (with_reducible exact LeO.none _)
   | (with_reducible refine LeO.ite ?_ ?_)
   | (with_reducible refine LeO.bind ?_ (fun _ => ?_))
   | exact ih0 _ _ _ _ _ _ _
   | exact ih1 _ _ _ _ _ _ _ _
   | exact LeO.none _
   | refine LeO.ite ?_ ?_
   | refine LeO.bind ?_ (fun _ => ?_)
def delta_Settled.T6 : Bool × List (List Nat × List Nat) := (true, [([], []), ([0], [0]), ([], []), ([1, 2], [1, 2]), ([3], [3]), ([], []), ([], []), ([5, 6], [5, 6]), ([7], [7]), ([4, 8], [4, 8]), ([9], [9])])
def delta_Settled.B6 : List Nat := [0, 1, 0, 7, 15, 0, 0, 96, 224, 511, 1023]
theorem delta_Settled.tab6 : rtab .any (opsOf Try.f21 6) = delta_Settled.T6 := by kernel_rfl
theorem delta_Settled.bits6 : waitsOk delta_Settled.T6.2 delta_Settled.B6 = true := by kernel_rfl
set_option maxHeartbeats 8000000 in
set_option maxRecDepth 100000 in
theorem delta_Settled.calls (k : Nat) (a0_0 : Int) (A0_1 : Option Addr) (c0_1 : Nat) (l0_1 : List (S61)) (A0_2 : Option Addr) (c0_2 : Nat) (l0_2 : List (S61)) (a0_3 : Bool) (a0_4 : Int) (A1 : Option Addr) (c1 : Nat) (l1 : List (S61)) (r : Bool) (w : World) (hr0_1 : Kd.C k61 w A0_1 l0_1.length l0_1) (hc0_1 : l0_1.length ≤ c0_1) (hr0_2 : Kd.C k61 w A0_2 l0_2.length l0_2) (hc0_2 : l0_2.length ≤ c0_2) (hr1 : Kd.C k61 w A1 l1.length l1) (hc1 : l1.length ≤ c1) (h : delta_Settled.f k a0_0 l0_1 l0_2 a0_3 a0_4 l1 = some r) :
  Calls Try.prog 21 #[.agg #[.int .u64 a0_0,.slice A0_1 l0_1.length c0_1,.slice A0_2 l0_2.length c0_2,.bool a0_3,.int .i64 a0_4],.slice A1 l1.length c1] w fun e w' => e = .returned (.bool r) ∧ Below w.heap.size w w':=by
 have hu39:=Try.underlying39
 have hu61:=Try.underlying61
 have HR0_1:=zA hr0_1
 have HC0_1:=zA hc0_1
 clear hr0_1 hc0_1
 have HR0_2:=zA hr0_2
 have HC0_2:=zA hc0_2
 clear hr0_2 hc0_2
 have HR1:=zA hr1
 have HC1:=zA hc1
 clear hr1 hc1
 have HB:=zA (Below.refl w.heap.size w)
 have H : (if a0_3 = true then (delta_Settled.j0 k l1 true a0_0 l0_1 l0_2 a0_3 a0_4) else (delta_Settled.j0 k l1 ((l0_1.length : Int) != (l1.length : Int)) a0_0 l0_1 l0_2 a0_3 a0_4)) = some r:=h
 clear h
 have HC3:=zA H
 clear H
 go_enter Try.func21,Try.ntmps21
 go_upto_region 1 with (first|((with_reducible refine gate_dst (N:=2) rfl ?_);(try (refine gate_guard (by rfl) ?_;dsimp only));refine zb (N:=2) (cs:=#[.int .u64 a0_0,.slice A0_1 l0_1.length c0_1,.slice A0_2 l0_2.length c0_2,.bool a0_3,.int .i64 a0_4]) (t:=39) ?_;intro G438 hg w4 hbox hb;have K438:=zA (hbox);have GW438:=zN HB hg;have GE438:=zN HB hg;replace HB:=zS HB hb;clear hb hbox hg))
 (try simp only [Act.put,xA,xB,xC])
 go_cut [15] (fun v15 wc => ∃ (kq : Nat) (x15_2 : Bool),v15 = .bool x15_2 ∧ Aside0 (delta_Settled.j0 kq l1 x15_2 a0_0 l0_1 l0_2 a0_3 a0_4 = some r) ∧ Aside0 (kq ≤ k) ∧ Aside0 (wc.heap[G438]? = some (.cells #[.int .u64 a0_0,(.slice A0_1 l0_1.length c0_1),(.slice A0_2 l0_2.length c0_2),.bool a0_3,.int .i64 a0_4] 39 (0,0))) ∧ Aside0 (Below w.heap.size w wc))
 case first =>
  have H:=HC3.out
  clear HC3
  by_cases c5 : a0_3 = true
  ·subst c5
   rw [if_pos rfl] at H
   have H':=zA H
   clear H
   obtain ⟨hcz6_0,hcz6_1,hcz6_2,hcz6_3,hcz6_4,hfz6_0,hfz6_1,hfz6_2,hfz6_3,hfz6_4⟩:=zc5 K438
   go_wp2
   go_meet
   case rel => exact ⟨_,(true),ze,H',⟨zo⟩,⟨z1 K438.1⟩,⟨zH HB⟩⟩
  ·replace c5:=Bool.eq_false_iff.mpr c5
   subst c5
   rw [if_neg (show ¬ (false = true) by decide)] at H
   have H':=zA H
   clear H
   obtain ⟨hcz7_0,hcz7_1,hcz7_2,hcz7_3,hcz7_4,hfz7_0,hfz7_1,hfz7_2,hfz7_3,hfz7_4⟩:=zc5 K438
   go_wp2
   go_meet
   case rel => exact ⟨_,(((l0_1.length : Int) != (l1.length : Int))),ze,H',⟨zo⟩,⟨z1 K438.1⟩,⟨zH HB⟩⟩
 case rest =>
  clear HC3
  try clear c1
  obtain ⟨kq,x15_2,rfl,HA,HJ2,K438,HB⟩:=hcut
  cases kq with
  | zero => exact absurd HA.out (by simp [delta_Settled.j0])
  | succ kj2 =>
   have H:=HA.out
   clear HA
   simp only [delta_Settled.j0] at H
   by_cases c8 : x15_2 = true
   ·subst c8
    rw [if_pos rfl] at H
    obtain rfl:=Option.some.inj H
    go_wp2
    go_ret
    exact ⟨zE,zH HB⟩
   ·replace c8:=Bool.eq_false_iff.mpr c8
    subst c8
    rw [if_neg (show ¬ (false = true) by decide)] at H
    have H':=zA H
    clear H
    go_wp2
    go_loopg [18] kj2 (fun kq v18 w' => ∃ (x18_2 : Int),v18 = .int .i64 x18_2 ∧ Aside0 (delta_Settled.l0 kq l1 (l1.length : Int) x18_2 a0_0 l0_1 l0_2 a0_3 a0_4 = some r) ∧ Aside0 (kq ≤ kj2) ∧ Aside0 (w'.heap[G438]? = some (.cells #[.int .u64 a0_0,(.slice A0_1 l0_1.length c0_1),(.slice A0_2 l0_2.length c0_2),.bool a0_3,.int .i64 a0_4] 39 (0,0))) ∧ Aside0 (Below w.heap.size w w'))
    case atStart => exact ⟨(0),ze,H',⟨Nat.le_refl _⟩,⟨z1 K438.1⟩,⟨zH HB⟩⟩
    case round =>
     clear H'
     try clear c1;try clear c8
     obtain ⟨x18_2,rfl,HA,HK2,K438,HB⟩:=hrel
     cases gk with
     | zero => exact absurd HA.out (by simp [delta_Settled.l0])
     | succ k2 =>
      have H:=HA.out
      clear HA
      simp only [delta_Settled.l0] at H
      by_cases c9 : x18_2 < (l1.length : Int)
      ·rw [if_pos c9] at H
       have c9b0 : decide (x18_2 < (l1.length : Int)) = true:=decide_eq_true c9
       clear c9
       by_cases c10 : 0 ≤ x18_2
       ·rw [if_pos c10] at H
        have c10b0 : decide (0 ≤ x18_2) = true:=decide_eq_true c10
        clear c10
        by_cases c11 : x18_2 < (l0_1.length : Int)
        ·rw [if_pos c11] at H
         have c11b0 : decide (x18_2 < (l0_1.length : Int)) = true:=decide_eq_true c11
         clear c11
         by_cases c12 : x18_2 < (l1.length : Int)
         ·rw [if_pos c12] at H
          have c12b0 : decide (x18_2 < (l1.length : Int)) = true:=decide_eq_true c12
          clear c12
          replace H:=Option.bind_eq_some_iff.mp H
          obtain ⟨t441,A130,H⟩:=H
          (try dsimp only at H)
          have A13:=zA A130
          clear A130
          by_cases c14 : t441 = true
          ·subst c14
           rw [if_pos rfl] at H
           have H':=zA H
           clear H
           try go_wp2
           replace K438:=zA (bD K438.1)
           replace HB:=zA (bw1 HB.1)
           have p439 : 0 ≤ (x18_2 : Int):=zd
           have q439 : x18_2 < (l0_1.length : Int):=zd
           obtain ⟨ad439,e439,hx439_0,hx439_1,hx439_2,hx439_3,hx439_4⟩:=at_T61 HR0_1.out x18_2 p439 q439
           have hw439_4:=hx439_4
           have hw439_3:=hx439_3
           have hw439_2:=hx439_2
           have hw439_1:=hx439_1
           have hw439_0:=hx439_0
           cases e439
           replace hx439_0:=zh HB hx439_0
           replace hx439_1:=zh HB hx439_1
           replace hx439_2:=zh HB hx439_2
           replace hx439_3:=zh HB hx439_3
           replace hx439_4:=zh HB hx439_4
           replace p439:=eq_true p439
           replace q439:=eq_true q439
           have p440 : 0 ≤ (x18_2 : Int):=zd
           have q440 : x18_2 < (l1.length : Int):=zd
           obtain ⟨ad440,e440,hx440_0,hx440_1,hx440_2,hx440_3,hx440_4⟩:=at_T61 HR1.out x18_2 p440 q440
           have hw440_4:=hx440_4
           have hw440_3:=hx440_3
           have hw440_2:=hx440_2
           have hw440_1:=hx440_1
           have hw440_0:=hx440_0
           cases e440
           replace hx440_0:=zh HB hx440_0
           replace hx440_1:=zh HB hx440_1
           replace hx440_2:=zh HB hx440_2
           replace hx440_3:=zh HB hx440_3
           replace hx440_4:=zh HB hx440_4
           replace p440:=eq_true p440
           replace q440:=eq_true q440
           refine start_ (n:=11) (S:=fun w' => w'.cell? ⟨G438,0,none⟩ = some (.int .u64 a0_0) ∧ w'.cell? ⟨G438,1,none⟩ = some (.slice (some ad439) l0_1.length c0_1) ∧ w'.cell? ⟨G438,2,none⟩ = some (.slice A0_2 l0_2.length c0_2) ∧ w'.cell? ⟨G438,3,none⟩ = some (.bool a0_3) ∧ w'.cell? ⟨G438,4,none⟩ = some (.int .i64 a0_4) ∧ w'.cell? (ad439.add ((x18_2).toNat * 5)) = some (.int .i64 ((rd_T61 l0_1 x18_2).f0)) ∧ w'.cell? ⟨(ad439.add ((x18_2).toNat * 5)).block,(ad439.add ((x18_2).toNat * 5)).off + 1,none⟩ = some (.int .i64 ((rd_T61 l0_1 x18_2).f1)) ∧ w'.cell? ⟨(ad439.add ((x18_2).toNat * 5)).block,(ad439.add ((x18_2).toNat * 5)).off + 2,none⟩ = some (.float .f64 ((rd_T61 l0_1 x18_2).f2)) ∧ w'.cell? ⟨(ad439.add ((x18_2).toNat * 5)).block,(ad439.add ((x18_2).toNat * 5)).off + 3,none⟩ = some (.float .f64 ((rd_T61 l0_1 x18_2).f3)) ∧ w'.cell? ⟨(ad439.add ((x18_2).toNat * 5)).block,(ad439.add ((x18_2).toNat * 5)).off + 4,none⟩ = some (.int .i64 ((rd_T61 l0_1 x18_2).f4)) ∧ w'.cell? (ad440.add ((x18_2).toNat * 5)) = some (.int .i64 ((rd_T61 l1 x18_2).f0)) ∧ w'.cell? ⟨(ad440.add ((x18_2).toNat * 5)).block,(ad440.add ((x18_2).toNat * 5)).off + 1,none⟩ = some (.int .i64 ((rd_T61 l1 x18_2).f1)) ∧ w'.cell? ⟨(ad440.add ((x18_2).toNat * 5)).block,(ad440.add ((x18_2).toNat * 5)).off + 2,none⟩ = some (.float .f64 ((rd_T61 l1 x18_2).f2)) ∧ w'.cell? ⟨(ad440.add ((x18_2).toNat * 5)).block,(ad440.add ((x18_2).toNat * 5)).off + 3,none⟩ = some (.float .f64 ((rd_T61 l1 x18_2).f3)) ∧ w'.cell? ⟨(ad440.add ((x18_2).toNat * 5)).block,(ad440.add ((x18_2).toNat * 5)).off + 4,none⟩ = some (.int .i64 ((rd_T61 l1 x18_2).f4))) (ds:=[]) #[F,F,F,F,F,F,F,F,F,F,F] (by kernel_rfl) rfl rfl ⟨zk K438 0,zk K438 1,zk K438 2,zk K438 3,zk K438 4,(zh HB hw439_0),(zh HB hw439_1),(zh HB hw439_2),(zh HB hw439_3),(zh HB hw439_4),(zh HB hw440_0),(zh HB hw440_1),(zh HB hw440_2),(zh HB hw440_3),(zh HB hw440_4)⟩ (fun hHeld => ?_);refine with_tabW delta_Settled.tab6 delta_Settled.bits6 (fun HT_ HW_ => ?_)
           generalize wr.drew = w15 at K438 HB hx439_0 hx439_1 hx439_2 hx439_3 hx439_4 hx440_0 hx440_1 hx440_2 hx440_3 hx440_4 hHeld ⊢
           refine pz 0 21 #[T,F,F,F,F,F,F,F,F,F,F] HT_.1 ?_
           refine pz 2 23 #[T,F,T,F,F,F,F,F,F,F,F] HT_.1 ?_
           refine pz 5 26 #[T,F,T,F,F,T,F,F,F,F,F] HT_.1 ?_
           refine pz 6 27 #[T,F,T,F,F,T,T,F,F,F,F] HT_.1 ?_
           refine pz 7 28 #[T,F,T,F,F,T,T,T,F,F,F] HT_.1 ?_
           refine tz 1 22 #[T,T,T,F,F,T,T,T,F,F,F] HT_.1 HW_.1 hHeld ?_
           refine pz 3 24 #[T,T,T,T,F,T,T,T,F,F,F] HT_.1 ?_
           refine tz 4 25 #[T,T,T,T,T,T,T,T,F,F,F] HT_.1 HW_.1 hHeld ?_
           refine tz 8 29 #[T,T,T,T,T,T,T,T,T,F,F] HT_.1 HW_.1 hHeld ?_
           refine one_ (i:=9) (N:=some 30) #[T,T,T,T,T,T,T,T,T,T,F] rfl rfl (one_of HT_.out (by kernel_rfl)) (by decide) (fun K hK => ?_)
           refine zo_ Try.func41 #[.agg #[.int .i64 ((rd_T61 l0_1 x18_2).f0),.int .i64 ((rd_T61 l0_1 x18_2).f1),.float .f64 ((rd_T61 l0_1 x18_2).f2),.float .f64 ((rd_T61 l0_1 x18_2).f3),.int .i64 ((rd_T61 l0_1 x18_2).f4)],.agg #[.int .i64 ((rd_T61 l1 x18_2).f0),.int .i64 ((rd_T61 l1 x18_2).f1),.float .f64 ((rd_T61 l1 x18_2).f2),.float .f64 ((rd_T61 l1 x18_2).f3),.int .i64 ((rd_T61 l1 x18_2).f4)]] ?_
           with_reducible refine (delta_same.calls ((rd_T61 l0_1 x18_2).f0) ((rd_T61 l0_1 x18_2).f1) ((rd_T61 l0_1 x18_2).f2) ((rd_T61 l0_1 x18_2).f3) ((rd_T61 l0_1 x18_2).f4) ((rd_T61 l1 x18_2).f0) ((rd_T61 l1 x18_2).f1) ((rd_T61 l1 x18_2).f2) ((rd_T61 l1 x18_2).f3) ((rd_T61 l1 x18_2).f4) true _ A13.out).mono ?_
           rintro e w16 ⟨rfl,hb⟩
           refine ⟨_,rfl,?_⟩
           replace K438:=zB K438 hb
           replace HB:=zS HB hb
           (try clear hb)
           (try clear hb2)
           (try clear hk)
           (try clear hi)
           refine hK.out _ _ ⟨zk K438 0,zk K438 1,zk K438 2,zk K438 3,zk K438 4,(zh HB hw439_0),(zh HB hw439_1),(zh HB hw439_2),(zh HB hw439_3),(zh HB hw439_4),(zh HB hw440_0),(zh HB hw440_1),(zh HB hw440_2),(zh HB hw440_3),(zh HB hw440_4)⟩ (fun hHeld => ?_)
           clear hK K
           refine nz 30 ?_
           refine pz 10 31 #[T,T,T,T,T,T,T,T,T,T,T] HT_.1 ?_
           refine done_ (done_of HT_.out (by kernel_rfl)) ?_
           try go_wp2
           go_roundg k2
           case measure => have:=HJ2.out;have:=HK2.out;omega
           case rel => exact ⟨(wrap64 (x18_2 + 1)),ze,H',⟨by have:=HJ2.out;have:=HK2.out;omega⟩,⟨z1 K438.1⟩,⟨zH HB⟩⟩
          ·replace c14:=Bool.eq_false_iff.mpr c14
           subst c14
           rw [if_neg (show ¬ (false = true) by decide)] at H
           obtain rfl:=Option.some.inj H
           try go_wp2
           replace K438:=zA (bD K438.1)
           replace HB:=zA (bw1 HB.1)
           have p439 : 0 ≤ (x18_2 : Int):=zd
           have q439 : x18_2 < (l0_1.length : Int):=zd
           obtain ⟨ad439,e439,hx439_0,hx439_1,hx439_2,hx439_3,hx439_4⟩:=at_T61 HR0_1.out x18_2 p439 q439
           have hw439_4:=hx439_4
           have hw439_3:=hx439_3
           have hw439_2:=hx439_2
           have hw439_1:=hx439_1
           have hw439_0:=hx439_0
           cases e439
           replace hx439_0:=zh HB hx439_0
           replace hx439_1:=zh HB hx439_1
           replace hx439_2:=zh HB hx439_2
           replace hx439_3:=zh HB hx439_3
           replace hx439_4:=zh HB hx439_4
           replace p439:=eq_true p439
           replace q439:=eq_true q439
           have p440 : 0 ≤ (x18_2 : Int):=zd
           have q440 : x18_2 < (l1.length : Int):=zd
           obtain ⟨ad440,e440,hx440_0,hx440_1,hx440_2,hx440_3,hx440_4⟩:=at_T61 HR1.out x18_2 p440 q440
           have hw440_4:=hx440_4
           have hw440_3:=hx440_3
           have hw440_2:=hx440_2
           have hw440_1:=hx440_1
           have hw440_0:=hx440_0
           cases e440
           replace hx440_0:=zh HB hx440_0
           replace hx440_1:=zh HB hx440_1
           replace hx440_2:=zh HB hx440_2
           replace hx440_3:=zh HB hx440_3
           replace hx440_4:=zh HB hx440_4
           replace p440:=eq_true p440
           replace q440:=eq_true q440
           refine start_ (n:=11) (S:=fun w' => w'.cell? ⟨G438,0,none⟩ = some (.int .u64 a0_0) ∧ w'.cell? ⟨G438,1,none⟩ = some (.slice (some ad439) l0_1.length c0_1) ∧ w'.cell? ⟨G438,2,none⟩ = some (.slice A0_2 l0_2.length c0_2) ∧ w'.cell? ⟨G438,3,none⟩ = some (.bool a0_3) ∧ w'.cell? ⟨G438,4,none⟩ = some (.int .i64 a0_4) ∧ w'.cell? (ad439.add ((x18_2).toNat * 5)) = some (.int .i64 ((rd_T61 l0_1 x18_2).f0)) ∧ w'.cell? ⟨(ad439.add ((x18_2).toNat * 5)).block,(ad439.add ((x18_2).toNat * 5)).off + 1,none⟩ = some (.int .i64 ((rd_T61 l0_1 x18_2).f1)) ∧ w'.cell? ⟨(ad439.add ((x18_2).toNat * 5)).block,(ad439.add ((x18_2).toNat * 5)).off + 2,none⟩ = some (.float .f64 ((rd_T61 l0_1 x18_2).f2)) ∧ w'.cell? ⟨(ad439.add ((x18_2).toNat * 5)).block,(ad439.add ((x18_2).toNat * 5)).off + 3,none⟩ = some (.float .f64 ((rd_T61 l0_1 x18_2).f3)) ∧ w'.cell? ⟨(ad439.add ((x18_2).toNat * 5)).block,(ad439.add ((x18_2).toNat * 5)).off + 4,none⟩ = some (.int .i64 ((rd_T61 l0_1 x18_2).f4)) ∧ w'.cell? (ad440.add ((x18_2).toNat * 5)) = some (.int .i64 ((rd_T61 l1 x18_2).f0)) ∧ w'.cell? ⟨(ad440.add ((x18_2).toNat * 5)).block,(ad440.add ((x18_2).toNat * 5)).off + 1,none⟩ = some (.int .i64 ((rd_T61 l1 x18_2).f1)) ∧ w'.cell? ⟨(ad440.add ((x18_2).toNat * 5)).block,(ad440.add ((x18_2).toNat * 5)).off + 2,none⟩ = some (.float .f64 ((rd_T61 l1 x18_2).f2)) ∧ w'.cell? ⟨(ad440.add ((x18_2).toNat * 5)).block,(ad440.add ((x18_2).toNat * 5)).off + 3,none⟩ = some (.float .f64 ((rd_T61 l1 x18_2).f3)) ∧ w'.cell? ⟨(ad440.add ((x18_2).toNat * 5)).block,(ad440.add ((x18_2).toNat * 5)).off + 4,none⟩ = some (.int .i64 ((rd_T61 l1 x18_2).f4))) (ds:=[]) #[F,F,F,F,F,F,F,F,F,F,F] (by kernel_rfl) rfl rfl ⟨zk K438 0,zk K438 1,zk K438 2,zk K438 3,zk K438 4,(zh HB hw439_0),(zh HB hw439_1),(zh HB hw439_2),(zh HB hw439_3),(zh HB hw439_4),(zh HB hw440_0),(zh HB hw440_1),(zh HB hw440_2),(zh HB hw440_3),(zh HB hw440_4)⟩ (fun hHeld => ?_);refine with_tabW delta_Settled.tab6 delta_Settled.bits6 (fun HT_ HW_ => ?_)
           generalize wr.drew = w17 at K438 HB hx439_0 hx439_1 hx439_2 hx439_3 hx439_4 hx440_0 hx440_1 hx440_2 hx440_3 hx440_4 hHeld ⊢
           refine pz 0 21 #[T,F,F,F,F,F,F,F,F,F,F] HT_.1 ?_
           refine pz 2 23 #[T,F,T,F,F,F,F,F,F,F,F] HT_.1 ?_
           refine pz 5 26 #[T,F,T,F,F,T,F,F,F,F,F] HT_.1 ?_
           refine pz 6 27 #[T,F,T,F,F,T,T,F,F,F,F] HT_.1 ?_
           refine pz 7 28 #[T,F,T,F,F,T,T,T,F,F,F] HT_.1 ?_
           refine tz 1 22 #[T,T,T,F,F,T,T,T,F,F,F] HT_.1 HW_.1 hHeld ?_
           refine pz 3 24 #[T,T,T,T,F,T,T,T,F,F,F] HT_.1 ?_
           refine tz 4 25 #[T,T,T,T,T,T,T,T,F,F,F] HT_.1 HW_.1 hHeld ?_
           refine tz 8 29 #[T,T,T,T,T,T,T,T,T,F,F] HT_.1 HW_.1 hHeld ?_
           refine one_ (i:=9) (N:=some 30) #[T,T,T,T,T,T,T,T,T,T,F] rfl rfl (one_of HT_.out (by kernel_rfl)) (by decide) (fun K hK => ?_)
           refine zo_ Try.func41 #[.agg #[.int .i64 ((rd_T61 l0_1 x18_2).f0),.int .i64 ((rd_T61 l0_1 x18_2).f1),.float .f64 ((rd_T61 l0_1 x18_2).f2),.float .f64 ((rd_T61 l0_1 x18_2).f3),.int .i64 ((rd_T61 l0_1 x18_2).f4)],.agg #[.int .i64 ((rd_T61 l1 x18_2).f0),.int .i64 ((rd_T61 l1 x18_2).f1),.float .f64 ((rd_T61 l1 x18_2).f2),.float .f64 ((rd_T61 l1 x18_2).f3),.int .i64 ((rd_T61 l1 x18_2).f4)]] ?_
           with_reducible refine (delta_same.calls ((rd_T61 l0_1 x18_2).f0) ((rd_T61 l0_1 x18_2).f1) ((rd_T61 l0_1 x18_2).f2) ((rd_T61 l0_1 x18_2).f3) ((rd_T61 l0_1 x18_2).f4) ((rd_T61 l1 x18_2).f0) ((rd_T61 l1 x18_2).f1) ((rd_T61 l1 x18_2).f2) ((rd_T61 l1 x18_2).f3) ((rd_T61 l1 x18_2).f4) false _ A13.out).mono ?_
           rintro e w18 ⟨rfl,hb⟩
           refine ⟨_,rfl,?_⟩
           replace K438:=zB K438 hb
           replace HB:=zS HB hb
           (try clear hb)
           (try clear hb2)
           (try clear hk)
           (try clear hi)
           refine hK.out _ _ ⟨zk K438 0,zk K438 1,zk K438 2,zk K438 3,zk K438 4,(zh HB hw439_0),(zh HB hw439_1),(zh HB hw439_2),(zh HB hw439_3),(zh HB hw439_4),(zh HB hw440_0),(zh HB hw440_1),(zh HB hw440_2),(zh HB hw440_3),(zh HB hw440_4)⟩ (fun hHeld => ?_)
           clear hK K
           refine nz 30 ?_
           refine pz 10 31 #[T,T,T,T,T,T,T,T,T,T,T] HT_.1 ?_
           refine done_ (done_of HT_.out (by kernel_rfl)) ?_
           try go_wp2
           go_ret
           exact ⟨zE,zH HB⟩
         ·rw [if_neg c12] at H
          exact absurd H (by simp)
        ·rw [if_neg c11] at H
         exact absurd H (by simp)
       ·rw [if_neg c10] at H
        exact absurd H (by simp)
      ·rw [if_neg c9] at H
       have c9b0 : decide (x18_2 < (l1.length : Int)) = false:=decide_eq_false c9
       clear c9
       obtain rfl:=Option.some.inj H
       go_wp2
       go_ret
       exact ⟨zE,zH HB⟩

end Go.Proofs.Ytpcgjdllgdkobaa.XD
