/- Go functions of this seat as Lean functions, with proofs that the calls come to them. (Written by xprint.py, a program of this session, over the kit's print.) -/
import Derived.Test.YtgmjlhpigfaicaaXFx0
import Derived.Test.YtgmjlhpigfaicaaXFx18
import Derived.Test.YtgmjlhpigfaicaaXFx19
namespace Go.Proofs.Ytgmjlhpigfaicaa.XF
open Go.RowKit Go.Proofs.YtgmjlhpigfaicaaW.PrintWords Go.Proofs.YtgmjlhpigfaicaaW.PrintLast Go.Proofs.YtgmjlhpigfaicaaW.PrintMore
attribute [local go_sem] max2_int min2_int max_two min_two max_three min_three max_four min_four   -- for this text's walks alone
set_option linter.unusedVariables false
set_option linter.unusedSimpArgs false
open List renaming setIfInBounds_toArray → xA, set_cons_zero → xB, set_cons_succ → xC
open Go.Proofs.YtgmjlhpigfaicaaW.PrintWords renaming blk_drewN → bN, blk_drew → bD, blk_alloc → bA, below_set → bS, blk_frozen → bF, blk_cell → bC, cell_far → cF, blk_far → bZ, blk_below → bB, pw_below_drewN → bwN, below_drew1 → bw1, below_alloc → bwA
open Go.Proofs.YtgmjlhpigfaicaaW.PrintZ
open Bool renaming true → T,false → F

/-! ### beaconlaw19_ForwardCodes: function 9 -/
def beaconlaw19_ForwardCodes.f (k : Nat) (a0_0 : Int) (a0_1 : Int) (a0_2 : Int) (a0_3 : Int) (a0_4 : Int) (a0_5 : Int) (a0_6 : Int) (a0_7 : Int) (a0_8 : Int) (a0_9 : Int) (a0_10 : ByteArray) (a0_11 : Int) (a0_12 : Int) (a0_13 : ByteArray) : Option (Bool) := (forward_Code.f a0_0 a0_1 a0_2 a0_3 a0_4 a0_5 a0_6 a0_7 a0_8 a0_9 a0_10 a0_11 a0_12 a0_13).bind fun t391 => ((beaconref19_Code.f a0_0 a0_1 a0_2 a0_3 a0_4 a0_5 a0_6 a0_7 a0_8 a0_9 a0_10 a0_11 a0_12 a0_13).bind fun t392 => (if t391 = t392 then ((beaconlaw19_awake.f k).bind fun t393 => (some t393)) else (some false)))
theorem beaconlaw19_ForwardCodes.mono : ∀ a0 a1 a2 a3 a4 a5 a6 a7 a8 a9 a10 a11 a12 a13 k, LeO (beaconlaw19_ForwardCodes.f k a0 a1 a2 a3 a4 a5 a6 a7 a8 a9 a10 a11 a12 a13) (beaconlaw19_ForwardCodes.f (k + 1) a0 a1 a2 a3 a4 a5 a6 a7 a8 a9 a10 a11 a12 a13) := by
 intro a0 a1 a2 a3 a4 a5 a6 a7 a8 a9 a10 a11 a12 a13 k
 unfold beaconlaw19_ForwardCodes.f
 repeat' first
   | (with_reducible exact beaconlaw19_awake.mono _)
   | (with_reducible exact LeO.refl _)
   | (with_reducible exact LeO.none _)
   | (with_reducible refine LeO.ite ?_ ?_)
   | (with_reducible refine LeO.bind ?_ (fun _ => ?_))
   | exact beaconlaw19_awake.mono _
   | exact LeO.none _
   | refine LeO.ite ?_ ?_
   | refine LeO.bind ?_ (fun _ => ?_)
def beaconlaw19_ForwardCodes.T1 : Bool × List (List Nat × List Nat) := (true, [([], []), ([0], [0]), ([], []), ([2, 1], [2]), ([1, 3], [1, 3]), ([4, 3], [4]), ([5, 5], [5]), ([5, 6], [5, 6]), ([7, 6, 0, 1, 2, 3, 4, 5, 6, 7], [7])])
def beaconlaw19_ForwardCodes.B1 : List Nat := [0, 1, 0, 7, 15, 31, 63, 127, 255]
theorem beaconlaw19_ForwardCodes.tab1 : rtab .any (opsOf Try.f9 1) = beaconlaw19_ForwardCodes.T1 := by kernel_rfl
theorem beaconlaw19_ForwardCodes.bits1 : waitsOk beaconlaw19_ForwardCodes.T1.2 beaconlaw19_ForwardCodes.B1 = true := by kernel_rfl
set_option maxHeartbeats 8000000 in
set_option maxRecDepth 100000 in
theorem beaconlaw19_ForwardCodes.calls (k : Nat) (a0_0 : Int) (a0_1 : Int) (a0_2 : Int) (a0_3 : Int) (a0_4 : Int) (a0_5 : Int) (a0_6 : Int) (a0_7 : Int) (a0_8 : Int) (a0_9 : Int) (a0_10 : ByteArray) (a0_11 : Int) (a0_12 : Int) (a0_13 : ByteArray) (r : Bool) (w : World) (h : beaconlaw19_ForwardCodes.f k a0_0 a0_1 a0_2 a0_3 a0_4 a0_5 a0_6 a0_7 a0_8 a0_9 a0_10 a0_11 a0_12 a0_13 = some r) :
  Calls Try.prog 9 #[.agg #[.int .i64 a0_0,.int .i64 a0_1,.int .i64 a0_2,.int .i64 a0_3,.int .i64 a0_4,.int .i64 a0_5,.int .i64 a0_6,.int .i64 a0_7,.int .u64 a0_8,.int .i64 a0_9,.string a0_10,.int .i64 a0_11,.int .i64 a0_12,.string a0_13]] w fun e w' => e = .returned (.bool r) ∧ Below w.heap.size w w':=by
 have hu50:=Try.underlying50
 have HB:=Aside0.mk (Below.refl w.heap.size w)
 have H : ((forward_Code.f a0_0 a0_1 a0_2 a0_3 a0_4 a0_5 a0_6 a0_7 a0_8 a0_9 a0_10 a0_11 a0_12 a0_13).bind fun t391 => ((beaconref19_Code.f a0_0 a0_1 a0_2 a0_3 a0_4 a0_5 a0_6 a0_7 a0_8 a0_9 a0_10 a0_11 a0_12 a0_13).bind fun t392 => (if t391 = t392 then ((beaconlaw19_awake.f k).bind fun t393 => (some t393)) else (some false)))) = some r:=h
 clear h
 replace H:=Option.bind_eq_some_iff.mp H
 obtain ⟨t391,A20,H⟩:=H
 (try dsimp only at H)
 have A2:=Aside0.mk A20
 clear A20
 replace H:=Option.bind_eq_some_iff.mp H
 obtain ⟨t392,A30,H⟩:=H
 (try dsimp only at H)
 have A3:=Aside0.mk A30
 clear A30
 by_cases c4 : t391 = t392
 ·rw [if_pos c4] at H
  have c4b0 : (t391 == t392) = true:=beq_iff_eq.mpr c4
  have c4b1 : (t391 != t392) = false:=bne_eq_false_iff_eq.mpr c4
  clear c4
  replace H:=Option.bind_eq_some_iff.mp H
  obtain ⟨t393,A50,H⟩:=H
  (try dsimp only at H)
  have A5:=Aside0.mk A50
  clear A50
  obtain rfl:=Option.some.inj H
  go_enter Try.func9,Try.ntmps9
  try go_wp2_with (first|((with_reducible refine gate_dst (N:=1) rfl ?_);refine zb (N:=1) (cs:=#[.int .i64 a0_0,.int .i64 a0_1,.int .i64 a0_2,.int .i64 a0_3,.int .i64 a0_4,.int .i64 a0_5,.int .i64 a0_6,.int .i64 a0_7,.int .u64 a0_8,.int .i64 a0_9,.string a0_10,.int .i64 a0_11,.int .i64 a0_12,.string a0_13]) (t:=50) ?_;intro G390 hg w6 hbox hb;have K390:=Aside0.mk (hbox);have GW390:=zN HB hg;have GE390:=zN HB hg;replace HB:=zS HB hb;clear hb hbox hg))
  replace K390:=Aside0.mk (bD K390.1)
  replace HB:=Aside0.mk (bw1 HB.1)
  refine start_ (n:=9) (S:=fun w' => w'.cell? ⟨G390,0,none⟩ = some (.int .i64 a0_0) ∧ w'.cell? ⟨G390,1,none⟩ = some (.int .i64 a0_1) ∧ w'.cell? ⟨G390,2,none⟩ = some (.int .i64 a0_2) ∧ w'.cell? ⟨G390,3,none⟩ = some (.int .i64 a0_3) ∧ w'.cell? ⟨G390,4,none⟩ = some (.int .i64 a0_4) ∧ w'.cell? ⟨G390,5,none⟩ = some (.int .i64 a0_5) ∧ w'.cell? ⟨G390,6,none⟩ = some (.int .i64 a0_6) ∧ w'.cell? ⟨G390,7,none⟩ = some (.int .i64 a0_7) ∧ w'.cell? ⟨G390,8,none⟩ = some (.int .u64 a0_8) ∧ w'.cell? ⟨G390,9,none⟩ = some (.int .i64 a0_9) ∧ w'.cell? ⟨G390,10,none⟩ = some (.string a0_10) ∧ w'.cell? ⟨G390,11,none⟩ = some (.int .i64 a0_11) ∧ w'.cell? ⟨G390,12,none⟩ = some (.int .i64 a0_12) ∧ w'.cell? ⟨G390,13,none⟩ = some (.string a0_13)) (ds:=[]) #[F,F,F,F,F,F,F,F,F] (by kernel_rfl) rfl rfl ⟨zk K390 0,zk K390 1,zk K390 2,zk K390 3,zk K390 4,zk K390 5,zk K390 6,zk K390 7,zk K390 8,zk K390 9,zk K390 10,zk K390 11,zk K390 12,zk K390 13⟩ (fun hHeld => ?_);refine with_tabW beaconlaw19_ForwardCodes.tab1 beaconlaw19_ForwardCodes.bits1 (fun HT_ HW_ => ?_)
  generalize w6.drew = w7 at K390 HB hHeld ⊢
  refine tz 0 3 #[T,F,F,F,F,F,F,F,F] HT_.1 HW_.1 hHeld ?_
  refine tz 2 5 #[T,F,T,F,F,F,F,F,F] HT_.1 HW_.1 hHeld ?_
  refine one_ (i:=1) (N:=some 4) #[T,T,T,F,F,F,F,F,F] rfl rfl (one_of HT_.out (by kernel_rfl)) (by decide) (fun K hK => ?_)
  refine zo_ Try.func32 #[.agg #[.int .i64 a0_0,.int .i64 a0_1,.int .i64 a0_2,.int .i64 a0_3,.int .i64 a0_4,.int .i64 a0_5,.int .i64 a0_6,.int .i64 a0_7,.int .u64 a0_8,.int .i64 a0_9,.string a0_10,.int .i64 a0_11,.int .i64 a0_12,.string a0_13]] ?_
  with_reducible refine (forward_Code.calls a0_0 a0_1 a0_2 a0_3 a0_4 a0_5 a0_6 a0_7 a0_8 a0_9 a0_10 a0_11 a0_12 a0_13 t391 _ A2.out).mono ?_
  rintro e w8 ⟨rfl,hb⟩
  refine ⟨_,rfl,?_⟩
  replace K390:=zB K390 hb
  replace HB:=zS HB hb
  (try clear hb)
  (try clear hb2)
  (try clear hk)
  (try clear hi)
  refine hK.out _ _ ⟨zk K390 0,zk K390 1,zk K390 2,zk K390 3,zk K390 4,zk K390 5,zk K390 6,zk K390 7,zk K390 8,zk K390 9,zk K390 10,zk K390 11,zk K390 12,zk K390 13⟩ (fun hHeld => ?_)
  clear hK K
  refine nz 4 ?_
  refine one_ (i:=3) (N:=some 6) #[T,T,T,T,F,F,F,F,F] rfl rfl (one_of HT_.out (by kernel_rfl)) (by decide) (fun K hK => ?_)
  refine zo_ Try.func33 #[.agg #[.int .i64 a0_0,.int .i64 a0_1,.int .i64 a0_2,.int .i64 a0_3,.int .i64 a0_4,.int .i64 a0_5,.int .i64 a0_6,.int .i64 a0_7,.int .u64 a0_8,.int .i64 a0_9,.string a0_10,.int .i64 a0_11,.int .i64 a0_12,.string a0_13]] ?_
  with_reducible refine (beaconref19_Code.calls a0_0 a0_1 a0_2 a0_3 a0_4 a0_5 a0_6 a0_7 a0_8 a0_9 a0_10 a0_11 a0_12 a0_13 t392 _ A3.out).mono ?_
  rintro e w9 ⟨rfl,hb⟩
  refine ⟨_,rfl,?_⟩
  replace K390:=zB K390 hb
  replace HB:=zS HB hb
  (try clear hb)
  (try clear hb2)
  (try clear hk)
  (try clear hi)
  refine hK.out _ _ ⟨zk K390 0,zk K390 1,zk K390 2,zk K390 3,zk K390 4,zk K390 5,zk K390 6,zk K390 7,zk K390 8,zk K390 9,zk K390 10,zk K390 11,zk K390 12,zk K390 13⟩ (fun hHeld => ?_)
  clear hK K
  refine nz 6 ?_
  refine pz 4 7 #[T,T,T,T,T,F,F,F,F] HT_.1 ?_
  refine pz 5 8 #[T,T,T,T,T,T,F,F,F] HT_.1 ?_
  refine one_ (i:=6) (N:=some 9) #[T,T,T,T,T,T,T,F,F] rfl rfl (one_of HT_.out (by kernel_rfl)) (by decide) (fun K hK => ?_)
  refine zo_ Try.func34 #[] ?_
  with_reducible refine (beaconlaw19_awake.calls k  t393 _ A5.out).mono ?_
  rintro e w10 ⟨rfl,hb⟩
  refine ⟨_,rfl,?_⟩
  replace K390:=zB K390 hb
  replace HB:=zS HB hb
  (try clear hb)
  (try clear hb2)
  (try clear hk)
  (try clear hi)
  refine hK.out _ _ ⟨zk K390 0,zk K390 1,zk K390 2,zk K390 3,zk K390 4,zk K390 5,zk K390 6,zk K390 7,zk K390 8,zk K390 9,zk K390 10,zk K390 11,zk K390 12,zk K390 13⟩ (fun hHeld => ?_)
  clear hK K
  refine nz 9 ?_
  refine pz 7 10 #[T,T,T,T,T,T,T,T,F] HT_.1 ?_
  refine pz 8 2 #[T,T,T,T,T,T,T,T,T] HT_.1 ?_
  refine done_ (done_of HT_.out (by kernel_rfl)) ?_
  try go_wp2
  go_ret
  exact ⟨zE,zH HB⟩
 ·rw [if_neg c4] at H
  have c4b0 : (t391 == t392) = false:=beq_eq_false_iff_ne.mpr c4
  have c4b1 : (t391 != t392) = true:=bne_iff_ne.mpr c4
  obtain rfl:=Option.some.inj H
  go_enter Try.func9,Try.ntmps9
  try go_wp2_with (first|((with_reducible refine gate_dst (N:=1) rfl ?_);refine zb (N:=1) (cs:=#[.int .i64 a0_0,.int .i64 a0_1,.int .i64 a0_2,.int .i64 a0_3,.int .i64 a0_4,.int .i64 a0_5,.int .i64 a0_6,.int .i64 a0_7,.int .u64 a0_8,.int .i64 a0_9,.string a0_10,.int .i64 a0_11,.int .i64 a0_12,.string a0_13]) (t:=50) ?_;intro G390 hg w11 hbox hb;have K390:=Aside0.mk (hbox);have GW390:=zN HB hg;have GE390:=zN HB hg;replace HB:=zS HB hb;clear hb hbox hg))
  replace K390:=Aside0.mk (bD K390.1)
  replace HB:=Aside0.mk (bw1 HB.1)
  refine start_ (n:=9) (S:=fun w' => w'.cell? ⟨G390,0,none⟩ = some (.int .i64 a0_0) ∧ w'.cell? ⟨G390,1,none⟩ = some (.int .i64 a0_1) ∧ w'.cell? ⟨G390,2,none⟩ = some (.int .i64 a0_2) ∧ w'.cell? ⟨G390,3,none⟩ = some (.int .i64 a0_3) ∧ w'.cell? ⟨G390,4,none⟩ = some (.int .i64 a0_4) ∧ w'.cell? ⟨G390,5,none⟩ = some (.int .i64 a0_5) ∧ w'.cell? ⟨G390,6,none⟩ = some (.int .i64 a0_6) ∧ w'.cell? ⟨G390,7,none⟩ = some (.int .i64 a0_7) ∧ w'.cell? ⟨G390,8,none⟩ = some (.int .u64 a0_8) ∧ w'.cell? ⟨G390,9,none⟩ = some (.int .i64 a0_9) ∧ w'.cell? ⟨G390,10,none⟩ = some (.string a0_10) ∧ w'.cell? ⟨G390,11,none⟩ = some (.int .i64 a0_11) ∧ w'.cell? ⟨G390,12,none⟩ = some (.int .i64 a0_12) ∧ w'.cell? ⟨G390,13,none⟩ = some (.string a0_13)) (ds:=[]) #[F,F,F,F,F,F,F,F,F] (by kernel_rfl) rfl rfl ⟨zk K390 0,zk K390 1,zk K390 2,zk K390 3,zk K390 4,zk K390 5,zk K390 6,zk K390 7,zk K390 8,zk K390 9,zk K390 10,zk K390 11,zk K390 12,zk K390 13⟩ (fun hHeld => ?_);refine with_tabW beaconlaw19_ForwardCodes.tab1 beaconlaw19_ForwardCodes.bits1 (fun HT_ HW_ => ?_)
  generalize w11.drew = w12 at K390 HB hHeld ⊢
  refine tz 0 3 #[T,F,F,F,F,F,F,F,F] HT_.1 HW_.1 hHeld ?_
  refine tz 2 5 #[T,F,T,F,F,F,F,F,F] HT_.1 HW_.1 hHeld ?_
  refine one_ (i:=1) (N:=some 4) #[T,T,T,F,F,F,F,F,F] rfl rfl (one_of HT_.out (by kernel_rfl)) (by decide) (fun K hK => ?_)
  refine zo_ Try.func32 #[.agg #[.int .i64 a0_0,.int .i64 a0_1,.int .i64 a0_2,.int .i64 a0_3,.int .i64 a0_4,.int .i64 a0_5,.int .i64 a0_6,.int .i64 a0_7,.int .u64 a0_8,.int .i64 a0_9,.string a0_10,.int .i64 a0_11,.int .i64 a0_12,.string a0_13]] ?_
  with_reducible refine (forward_Code.calls a0_0 a0_1 a0_2 a0_3 a0_4 a0_5 a0_6 a0_7 a0_8 a0_9 a0_10 a0_11 a0_12 a0_13 t391 _ A2.out).mono ?_
  rintro e w13 ⟨rfl,hb⟩
  refine ⟨_,rfl,?_⟩
  replace K390:=zB K390 hb
  replace HB:=zS HB hb
  (try clear hb)
  (try clear hb2)
  (try clear hk)
  (try clear hi)
  refine hK.out _ _ ⟨zk K390 0,zk K390 1,zk K390 2,zk K390 3,zk K390 4,zk K390 5,zk K390 6,zk K390 7,zk K390 8,zk K390 9,zk K390 10,zk K390 11,zk K390 12,zk K390 13⟩ (fun hHeld => ?_)
  clear hK K
  refine nz 4 ?_
  refine one_ (i:=3) (N:=some 6) #[T,T,T,T,F,F,F,F,F] rfl rfl (one_of HT_.out (by kernel_rfl)) (by decide) (fun K hK => ?_)
  refine zo_ Try.func33 #[.agg #[.int .i64 a0_0,.int .i64 a0_1,.int .i64 a0_2,.int .i64 a0_3,.int .i64 a0_4,.int .i64 a0_5,.int .i64 a0_6,.int .i64 a0_7,.int .u64 a0_8,.int .i64 a0_9,.string a0_10,.int .i64 a0_11,.int .i64 a0_12,.string a0_13]] ?_
  with_reducible refine (beaconref19_Code.calls a0_0 a0_1 a0_2 a0_3 a0_4 a0_5 a0_6 a0_7 a0_8 a0_9 a0_10 a0_11 a0_12 a0_13 t392 _ A3.out).mono ?_
  rintro e w14 ⟨rfl,hb⟩
  refine ⟨_,rfl,?_⟩
  replace K390:=zB K390 hb
  replace HB:=zS HB hb
  (try clear hb)
  (try clear hb2)
  (try clear hk)
  (try clear hi)
  refine hK.out _ _ ⟨zk K390 0,zk K390 1,zk K390 2,zk K390 3,zk K390 4,zk K390 5,zk K390 6,zk K390 7,zk K390 8,zk K390 9,zk K390 10,zk K390 11,zk K390 12,zk K390 13⟩ (fun hHeld => ?_)
  clear hK K
  refine nz 6 ?_
  refine pz 4 7 #[T,T,T,T,T,F,F,F,F] HT_.1 ?_
  refine pz 5 8 #[T,T,T,T,T,T,F,F,F] HT_.1 ?_
  refine pu 6 9 #[T,T,T,T,T,T,T,F,F] HT_.1 ?_
  refine pz 7 10 #[T,T,T,T,T,T,T,T,F] HT_.1 ?_
  refine pz 8 2 #[T,T,T,T,T,T,T,T,T] HT_.1 ?_
  refine done_ (done_of HT_.out (by kernel_rfl)) ?_
  try go_wp2
  go_ret
  exact ⟨zE,zH HB⟩

end Go.Proofs.Ytgmjlhpigfaicaa.XF
