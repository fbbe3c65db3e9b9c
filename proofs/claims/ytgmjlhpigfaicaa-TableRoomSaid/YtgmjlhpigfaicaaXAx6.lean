/- Go functions of this seat as Lean functions, with proofs that the calls come to them. (Written by xprint.py, a program of this session, over the kit's print.) -/
import Derived.Test.YtgmjlhpigfaicaaXAx0
import Derived.Test.YtgmjlhpigfaicaaXAx1
import Derived.Test.YtgmjlhpigfaicaaXAx5
namespace Go.Proofs.Ytgmjlhpigfaicaa.XA
open Go.RowKit Go.Proofs.YtgmjlhpigfaicaaW.PrintWords Go.Proofs.YtgmjlhpigfaicaaW.PrintLast Go.Proofs.YtgmjlhpigfaicaaW.PrintMore
attribute [local go_sem] max2_int min2_int max_two min_two max_three min_three max_four min_four   -- for this text's walks alone
set_option linter.unusedVariables false
set_option linter.unusedSimpArgs false
open List renaming setIfInBounds_toArray → xA, set_cons_zero → xB, set_cons_succ → xC
open Go.Proofs.YtgmjlhpigfaicaaW.PrintWords renaming blk_drewN → bN, blk_drew → bD, blk_alloc → bA, below_set → bS, blk_frozen → bF, blk_cell → bC, cell_far → cF, blk_far → bZ, blk_below → bB, pw_below_drewN → bwN, below_drew1 → bw1, below_alloc → bwA
open Go.Proofs.YtgmjlhpigfaicaaW.PrintZ
open Bool renaming true → T,false → F

attribute [local go_sem high] eqA39
/-! ### beaconlaw17_awake: function 13 -/
def beaconlaw17_awake.f (k : Nat)  : Option (Bool) := (beaconlaw17_mark.f 3).bind fun bt143 => ((beaconlaw17_mark.f 5).bind fun bt149 => ((table_Keep.f k ([] : List (S39)) false (([(⟨bt143.1, bt143.2.1, bt143.2.2.1, bt143.2.2.2.1, bt143.2.2.2.2.1, bt143.2.2.2.2.2⟩ : S39), (⟨bt149.1, bt149.2.1, bt149.2.2.1, bt149.2.2.2.1, bt149.2.2.2.2.1, bt149.2.2.2.2.2⟩ : S39)] : List (S39))) 1).bind fun bt158 => (if bt158.2.2 = 0 then (if (bt158.1.length : Int) = 1 then (if 0 < (bt158.1.length : Int) then ((beaconlaw17_mark.f 3).bind fun bt165 => (if (((rd_T39 bt158.1 0).f0) == bt165.1 && (((rd_T39 bt158.1 0).f1) == bt165.2.1 && (feq ((rd_T39 bt158.1 0).f2) bt165.2.2.1 && (((rd_T39 bt158.1 0).f3) == bt165.2.2.2.1 && (feq ((rd_T39 bt158.1 0).f4) bt165.2.2.2.2.1 && (((rd_T39 bt158.1 0).f5) == bt165.2.2.2.2.2)))))) = true then (some bt158.2.1) else (some false))) else (none)) else (some false)) else (some false))))
theorem beaconlaw17_awake.mono : ∀ k, LeO (beaconlaw17_awake.f k ) (beaconlaw17_awake.f (k + 1) ) := by
 intro  k
 unfold beaconlaw17_awake.f
 repeat' first
   | (with_reducible exact table_Keep.mono _ _ _ _ _)
   | (with_reducible exact LeO.refl _)
   | (with_reducible exact LeO.none _)
   | (with_reducible refine LeO.ite ?_ ?_)
   | (with_reducible refine LeO.bind ?_ (fun _ => ?_))
   | exact table_Keep.mono _ _ _ _ _
   | exact LeO.none _
   | refine LeO.ite ?_ ?_
   | refine LeO.bind ?_ (fun _ => ?_)
def beaconlaw17_awake.T2 : Bool × List (List Nat × List Nat) := (true, [([], []), ([0], [0]), ([1], [1]), ([2], [2]), ([3, 2], [2, 3]), ([4, 2], [2, 4]), ([5, 2], [2, 5]), ([2, 6], [2, 6]), ([7, 2], [7]), ([8], [8]), ([9, 8], [8, 9]), ([10, 8], [8, 10]), ([11, 8], [8, 11]), ([8, 8], [8]), ([12, 13, 8], [8, 12, 13]), ([8, 14], [8, 14]), ([15, 13], [15]), ([16], [16]), ([17, 16], [16, 17]), ([16, 18], [16, 18]), ([19, 16, 0, 1, 2, 3, 4, 5, 6, 7, 8, 9, 10, 11, 12, 13, 14, 15, 16, 17, 18, 19], [19])])
def beaconlaw17_awake.B2 : List Nat := [0, 1, 3, 7, 15, 31, 63, 127, 255, 511, 1023, 2047, 4095, 511, 16383, 32767, 65535, 131071, 262143, 524287, 1048575]
theorem beaconlaw17_awake.tab2 : rtab .any (opsOf Try.f13 2) = beaconlaw17_awake.T2 := by kernel_rfl
theorem beaconlaw17_awake.bits2 : waitsOk beaconlaw17_awake.T2.2 beaconlaw17_awake.B2 = true := by kernel_rfl
set_option maxHeartbeats 8000000 in
set_option maxRecDepth 100000 in
theorem beaconlaw17_awake.calls (k : Nat)  (r : Bool) (w : World) (h : beaconlaw17_awake.f k  = some r) :
  Calls Try.prog 13 #[] w fun e w' => e = .returned (.bool r) ∧ Below w.heap.size w w':=by
 have hu24:=Try.underlying24
 have hu39:=Try.underlying39
 have HB:=Aside0.mk (Below.refl w.heap.size w)
 have H : ((beaconlaw17_mark.f 3).bind fun bt143 => ((beaconlaw17_mark.f 5).bind fun bt149 => ((table_Keep.f k ([] : List (S39)) false (([(⟨bt143.1,bt143.2.1,bt143.2.2.1,bt143.2.2.2.1,bt143.2.2.2.2.1,bt143.2.2.2.2.2⟩ : S39),(⟨bt149.1,bt149.2.1,bt149.2.2.1,bt149.2.2.2.1,bt149.2.2.2.2.1,bt149.2.2.2.2.2⟩ : S39)] : List (S39))) 1).bind fun bt158 => (if bt158.2.2 = 0 then (if (bt158.1.length : Int) = 1 then (if 0 < (bt158.1.length : Int) then ((beaconlaw17_mark.f 3).bind fun bt165 => (if (((rd_T39 bt158.1 0).f0) == bt165.1 && (((rd_T39 bt158.1 0).f1) == bt165.2.1 && (feq ((rd_T39 bt158.1 0).f2) bt165.2.2.1 && (((rd_T39 bt158.1 0).f3) == bt165.2.2.2.1 && (feq ((rd_T39 bt158.1 0).f4) bt165.2.2.2.2.1 && (((rd_T39 bt158.1 0).f5) == bt165.2.2.2.2.2)))))) = true then (some bt158.2.1) else (some false))) else (none)) else (some false)) else (some false))))) = some r:=h
 clear h
 replace H:=Option.bind_eq_some_iff.mp H
 obtain ⟨⟨t143,t144,t145,t146,t147,t148⟩,A10,H⟩:=H
 replace H : ((beaconlaw17_mark.f 5).bind fun bt149 => ((table_Keep.f k ([] : List (S39)) false (([(⟨t143,t144,t145,t146,t147,t148⟩ : S39),(⟨bt149.1,bt149.2.1,bt149.2.2.1,bt149.2.2.2.1,bt149.2.2.2.2.1,bt149.2.2.2.2.2⟩ : S39)] : List (S39))) 1).bind fun bt158 => (if bt158.2.2 = 0 then (if (bt158.1.length : Int) = 1 then (if 0 < (bt158.1.length : Int) then ((beaconlaw17_mark.f 3).bind fun bt165 => (if (((rd_T39 bt158.1 0).f0) == bt165.1 && (((rd_T39 bt158.1 0).f1) == bt165.2.1 && (feq ((rd_T39 bt158.1 0).f2) bt165.2.2.1 && (((rd_T39 bt158.1 0).f3) == bt165.2.2.2.1 && (feq ((rd_T39 bt158.1 0).f4) bt165.2.2.2.2.1 && (((rd_T39 bt158.1 0).f5) == bt165.2.2.2.2.2)))))) = true then (some bt158.2.1) else (some false))) else (none)) else (some false)) else (some false)))) = some r:=H
 have A1:=Aside0.mk A10
 clear A10
 replace H:=Option.bind_eq_some_iff.mp H
 obtain ⟨⟨t149,t150,t151,t152,t153,t154⟩,A20,H⟩:=H
 replace H : ((table_Keep.f k ([] : List (S39)) false (([(⟨t143,t144,t145,t146,t147,t148⟩ : S39),(⟨t149,t150,t151,t152,t153,t154⟩ : S39)] : List (S39))) 1).bind fun bt158 => (if bt158.2.2 = 0 then (if (bt158.1.length : Int) = 1 then (if 0 < (bt158.1.length : Int) then ((beaconlaw17_mark.f 3).bind fun bt165 => (if (((rd_T39 bt158.1 0).f0) == bt165.1 && (((rd_T39 bt158.1 0).f1) == bt165.2.1 && (feq ((rd_T39 bt158.1 0).f2) bt165.2.2.1 && (((rd_T39 bt158.1 0).f3) == bt165.2.2.2.1 && (feq ((rd_T39 bt158.1 0).f4) bt165.2.2.2.2.1 && (((rd_T39 bt158.1 0).f5) == bt165.2.2.2.2.2)))))) = true then (some bt158.2.1) else (some false))) else (none)) else (some false)) else (some false))) = some r:=H
 have A2:=Aside0.mk A20
 clear A20
 obtain ⟨y155,hy155⟩ : ∃ y_ : List (S39),y_ = (([(⟨t143,t144,t145,t146,t147,t148⟩ : S39),(⟨t149,t150,t151,t152,t153,t154⟩ : S39)] : List (S39))):=⟨_,rfl⟩
 replace H : ((table_Keep.f k ([] : List (S39)) false y155 1).bind fun bt158 => (if bt158.2.2 = 0 then (if (bt158.1.length : Int) = 1 then (if 0 < (bt158.1.length : Int) then ((beaconlaw17_mark.f 3).bind fun bt165 => (if (((rd_T39 bt158.1 0).f0) == bt165.1 && (((rd_T39 bt158.1 0).f1) == bt165.2.1 && (feq ((rd_T39 bt158.1 0).f2) bt165.2.2.1 && (((rd_T39 bt158.1 0).f3) == bt165.2.2.2.1 && (feq ((rd_T39 bt158.1 0).f4) bt165.2.2.2.2.1 && (((rd_T39 bt158.1 0).f5) == bt165.2.2.2.2.2)))))) = true then (some bt158.2.1) else (some false))) else (none)) else (some false)) else (some false))) = some r:=by first|(rw [hy155];with_reducible exact H)|(have H2_:=(Option.bind_some _ _).symm.trans H;rw [hy155];with_reducible exact H2_)|(have H2_:=(Option.bind_some _ _).symm.trans H;with_reducible exact H2_)|with_reducible exact H|(rw [hy155];exact H)|exact H
 have Ny155:=Aside0.mk hy155
 clear hy155
 replace H:=Option.bind_eq_some_iff.mp H
 obtain ⟨⟨t158,t161,t162⟩,A30,H⟩:=H
 replace H : (if t162 = 0 then (if (t158.length : Int) = 1 then (if 0 < (t158.length : Int) then ((beaconlaw17_mark.f 3).bind fun bt165 => (if (((rd_T39 t158 0).f0) == bt165.1 && (((rd_T39 t158 0).f1) == bt165.2.1 && (feq ((rd_T39 t158 0).f2) bt165.2.2.1 && (((rd_T39 t158 0).f3) == bt165.2.2.2.1 && (feq ((rd_T39 t158 0).f4) bt165.2.2.2.2.1 && (((rd_T39 t158 0).f5) == bt165.2.2.2.2.2)))))) = true then (some t161) else (some false))) else (none)) else (some false)) else (some false)) = some r:=H
 have A3:=Aside0.mk A30
 clear A30
 by_cases c4 : t162 = 0
 ·rw [if_pos c4] at H
  have c4b0 : (t162 == 0) = true:=beq_iff_eq.mpr c4
  have c4b1 : (t162 != 0) = false:=bne_eq_false_iff_eq.mpr c4
  clear c4
  by_cases c5 : (t158.length : Int) = 1
  ·rw [if_pos c5] at H
   have c5b0 : ((t158.length : Int) == 1) = true:=beq_iff_eq.mpr c5
   have c5b1 : ((t158.length : Int) != 1) = false:=bne_eq_false_iff_eq.mpr c5
   clear c5
   by_cases c6 : 0 < (t158.length : Int)
   ·rw [if_pos c6] at H
    have c6b0 : decide (0 < (t158.length : Int)) = true:=decide_eq_true c6
    have c6b1 : decide (0 < t158.length) = true:=decide_eq_true (by omega)
    clear c6
    replace H:=Option.bind_eq_some_iff.mp H
    obtain ⟨⟨t165,t166,t167,t168,t169,t170⟩,A70,H⟩:=H
    replace H : (if (((rd_T39 t158 0).f0) == t165 && (((rd_T39 t158 0).f1) == t166 && (feq ((rd_T39 t158 0).f2) t167 && (((rd_T39 t158 0).f3) == t168 && (feq ((rd_T39 t158 0).f4) t169 && (((rd_T39 t158 0).f5) == t170)))))) = true then (some t161) else (some false)) = some r:=H
    have A7:=Aside0.mk A70
    clear A70
    by_cases c8 : (((rd_T39 t158 0).f0) == t165 && (((rd_T39 t158 0).f1) == t166 && (feq ((rd_T39 t158 0).f2) t167 && (((rd_T39 t158 0).f3) == t168 && (feq ((rd_T39 t158 0).f4) t169 && (((rd_T39 t158 0).f5) == t170)))))) = true
    ·rw [if_pos c8] at H
     have c8b0 : (((rd_T39 t158 0).f0) == t165 && (((rd_T39 t158 0).f1) == t166 && (feq ((rd_T39 t158 0).f2) t167 && (((rd_T39 t158 0).f3) == t168 && (feq ((rd_T39 t158 0).f4) t169 && (((rd_T39 t158 0).f5) == t170)))))) = true:=c8
     (try (have c8b1 : decide (((rd_T39 t158 0).f0) = t165 && (((rd_T39 t158 0).f1) == t166 && (feq ((rd_T39 t158 0).f2) t167 && (((rd_T39 t158 0).f3) == t168 && (feq ((rd_T39 t158 0).f4) t169 && (((rd_T39 t158 0).f5) == t170)))))) = true:=by simpa using c8))
     (try (have c8b2 : (((rd_T39 t158 0).f0) == t165 && (((rd_T39 t158 0).f1) == t166 && (feq ((rd_T39 t158 0).f2) t167 && (((rd_T39 t158 0).f3) == t168 && (feq ((rd_T39 t158 0).f4) t169 && (((rd_T39 t158 0).f5) == t170)))))) = true:=by simpa using c8))
     clear c8
     obtain rfl:=Option.some.inj H
     go_enter Try.func13,Try.ntmps13
     try go_wp2_with (first|((with_reducible refine gate_callee (f:=44) rfl ?_);refine zg (some 5) Try.func44 #[.int .i64 3] ?_;(with_reducible refine (beaconlaw17_mark.calls 3 t143 t144 t145 t146 t147 t148 _ A1.out).mono ?_);rintro e w9 ⟨rfl,hb⟩;refine ⟨_,rfl,?_⟩;replace HB:=zS HB hb;(try clear hb))|((with_reducible refine gate_callee (f:=44) rfl ?_);refine zg (some 6) Try.func44 #[.int .i64 5] ?_;(with_reducible refine (beaconlaw17_mark.calls 5 t149 t150 t151 t152 t153 t154 _ A2.out).mono ?_);rintro e w10 ⟨rfl,hb⟩;refine ⟨_,rfl,?_⟩;replace HB:=zS HB hb;(try clear hb))|((with_reducible refine gate_dst (N:=7) rfl ?_);(try (refine gate_guard (by rfl) ?_;dsimp only));refine Kd.R_lit k39 _ 39 ?hg (N:=7) ?hd (xs:=([(⟨t143,t144,t145,t146,t147,t148⟩ : S39),(⟨t149,t150,t151,t152,t153,t154⟩ : S39)] : List (S39))) (inner:=[.int .i64 t143,.int .i64 t144,.float .f64 t145,.int .i64 t146,.float .f64 t147,.int .i64 t148,.int .i64 t149,.int .i64 t150,.float .f64 t151,.int .i64 t152,.float .f64 t153,.int .i64 t154]) (ok:=fun _ => True) (okp:=fun _ => True) ?hr ?hp (fun _ hk => hk) trivial (Below.refl _ _) (Nat.le_refl _) (by simp) ?_;(case hd => rfl);(case hg => rfl);(case hr => first|(go_simp;done)|(go_simp;rfl));(case hp => exact (Reps.c6 (show Kd.M k39 _ _ _ (⟨t143,t144,t145,t146,t147,t148⟩ : S39) [.int .i64 t143,.int .i64 t144,.float .f64 t145,.int .i64 t146,.float .f64 t147,.int .i64 t148] from (k39_mkM _ _ _ (⟨t143,t144,t145,t146,t147,t148⟩ : S39) )) (Reps.c6 (show Kd.M k39 _ _ _ (⟨t149,t150,t151,t152,t153,t154⟩ : S39) [.int .i64 t149,.int .i64 t150,.float .f64 t151,.int .i64 t152,.float .f64 t153,.int .i64 t154] from (k39_mkM _ _ _ (⟨t149,t150,t151,t152,t153,t154⟩ : S39) )) (Reps.none _ _))));intro v156 w11 ho12 hb hg_ hnew_;clear hg_ hnew_;(first|rw [← Ny155.out] at ho12|(simp only [Int.reduceToNat] at ho12;rw [← Ny155.out] at ho12));have HO157:=Aside0.mk (Kd.R_lower ho12 (zW HB));replace HB:=zS HB hb;clear hb ho12;obtain ⟨Ao13,co13,eo13⟩:=Kd.R_slice HO157.out;subst eo13)|((with_reducible refine gate_callee (f:=14) rfl ?_);refine zg (some 8) Try.func14 #[.agg #[.slice none 0 0,.bool false],.slice Ao13 y155.length co13,.int .i64 1] ?_;(refine (table_Keep.calls k _ _ ([] : List (S39)) false _ _ y155 1 t158 t161 t162 _ ?side1 ?side2 ?side3 ?side4 A3.out).mono ?_);(case side1 => exact Kd.C_nil _ _);(case side2 => exact Nat.le_refl _);(case side3 => exact zC ((Kd.R_reads' HO157.out).2.2));(case side4 => exact (Kd.R_reads' HO157.out).2.1);rintro e w14 ⟨v159,rfl,ho0,hb⟩;refine ⟨_,rfl,?_⟩;have HO160:=Aside0.mk (Kd.R_lower (Kd.R_new' ho0 (Kd.R_lt (zR HO157))) (zW HB));replace HO157:=Aside0.mk (Kd.R_elder' (zR HO157) (Kd.R_base ho0) hb);replace HB:=zS HB hb;(try clear hb);(try clear ho0))|((with_reducible refine gate_dst (N:=1) rfl ?_);(try (refine gate_guard (by rfl) ?_;dsimp only));refine zb (N:=1) (cs:=#[.slice none 0 0,.bool false]) (t:=24) ?_;intro G163 hg w15 hbox hb;replace HO157:=Aside0.mk (Kd.R_below (zR HO157) hb);replace HO160:=Aside0.mk (Kd.R_below (zR HO160) hb);have K163:=Aside0.mk (hbox);have GW163:=zN HB hg;have GE163:=zN HB hg;replace HB:=zS HB hb;clear hb hbox hg;obtain ⟨Ao16,co16,eo16⟩:=Kd.R_slice HO160.out;subst eo16;have hcz17_0 : w15.cell? ⟨G163,0,none⟩ = some (.slice none 0 0):=zk K163 0;have hcz17_1 : w15.cell? ⟨G163,1,none⟩ = some (.bool false):=zk K163 1;have hfz17_0:=bF K163.1 0;have hfz17_1:=bF K163.1 1))
     have n0_ : Aside0 (Kd.R k39 39 ((w15.setCell ⟨G163,0,none⟩ (.slice Ao16 t158.length co16)).setCell ⟨G163,1,none⟩ (.bool t161)) w.heap.size (fun k_ => some k_ ≠ (.slice Ao16 t158.length co16 : Value).ownBlock) (.slice Ao13 y155.length co13) y155):=⟨by (with_reducible repeat (first|apply Kd.R_alloc|apply Kd.R_drewN|apply Kd.R_drew));exact Kd.R_mono (Kd.R_far (p:=⟨G163,1,none⟩) (Kd.R_far (p:=⟨G163,0,none⟩) (Kd.R_types HO157.out K163.1 (by decide)) (fun _ hk => hk.2) (.slice Ao16 t158.length co16)) (fun _ hk => hk.2) (.bool t161)) (fun _ hk => hk.1.2)⟩
     have n1_ : Aside0 (Kd.R k39 39 ((w15.setCell ⟨G163,0,none⟩ (.slice Ao16 t158.length co16)).setCell ⟨G163,1,none⟩ (.bool t161)) w.heap.size (fun k_ => some k_ ≠ (.slice Ao13 y155.length co13 : Value).ownBlock) (.slice Ao16 t158.length co16) t158):=⟨by (with_reducible repeat (first|apply Kd.R_alloc|apply Kd.R_drewN|apply Kd.R_drew));exact Kd.R_mono (Kd.R_far (p:=⟨G163,1,none⟩) (Kd.R_far (p:=⟨G163,0,none⟩) (Kd.R_types HO160.out K163.1 (by decide)) (fun _ hk => hk.2) (.slice Ao16 t158.length co16)) (fun _ hk => hk.2) (.bool t161)) (fun _ hk => hk.1.2)⟩
     have n2_ : Aside0 (((w15.setCell ⟨G163,0,none⟩ (.slice Ao16 t158.length co16)).setCell ⟨G163,1,none⟩ (.bool t161)).heap[G163]? = some (.cells #[.slice Ao16 t158.length co16,.bool t161] 24 (0,0))):=⟨zF K163⟩
     have n3_ : Aside0 (Below w.heap.size w ((w15.setCell ⟨G163,0,none⟩ (.slice Ao16 t158.length co16)).setCell ⟨G163,1,none⟩ (.bool t161))):=⟨zH HB⟩
     (try clear HO157)
     (try clear HO160)
     (try clear K163)
     (try clear HB)
     generalize ((w15.setCell ⟨G163,0,none⟩ (.slice Ao16 t158.length co16)).setCell ⟨G163,1,none⟩ (.bool t161)) = w18 at n0_ n1_ n2_ n3_ ⊢
     have HO157:=n0_
     have HO160:=n1_
     have K163:=n2_
     have HB:=n3_
     clear n0_ n1_ n2_ n3_
     replace HO157:=Aside0.mk (Kd.R_drew HO157.out)
     replace HO160:=Aside0.mk (Kd.R_drew HO160.out)
     replace K163:=Aside0.mk (bD K163.1)
     replace HB:=Aside0.mk (bw1 HB.1)
     have p164 : 0 ≤ (0 : Int):=(by omega)
     have q164 : 0 < (t158.length : Int):=zd
     obtain ⟨ad164,e164,hx164_0,hx164_1,hx164_2,hx164_3,hx164_4,hx164_5⟩:=at_T39 (Kd.R_reads' HO160.out).2.2 0 p164 q164
     cases e164
     have qi164 : (0 < t158.length) = True:=eq_true (by omega)
     (try rw [show ((0 : Int)).toNat = 0 from rfl] at hx164_0)
     (try rw [show 0 * 6 = 0 from rfl] at hx164_0)
     (try rw [Addr.add_zero'] at hx164_0)
     (try rw [show ((0 : Int)).toNat = 0 from rfl] at hx164_1)
     (try rw [show 0 * 6 = 0 from rfl] at hx164_1)
     (try rw [Addr.add_zero'] at hx164_1)
     (try rw [show ((0 : Int)).toNat = 0 from rfl] at hx164_2)
     (try rw [show 0 * 6 = 0 from rfl] at hx164_2)
     (try rw [Addr.add_zero'] at hx164_2)
     (try rw [show ((0 : Int)).toNat = 0 from rfl] at hx164_3)
     (try rw [show 0 * 6 = 0 from rfl] at hx164_3)
     (try rw [Addr.add_zero'] at hx164_3)
     (try rw [show ((0 : Int)).toNat = 0 from rfl] at hx164_4)
     (try rw [show 0 * 6 = 0 from rfl] at hx164_4)
     (try rw [Addr.add_zero'] at hx164_4)
     (try rw [show ((0 : Int)).toNat = 0 from rfl] at hx164_5)
     (try rw [show 0 * 6 = 0 from rfl] at hx164_5)
     (try rw [Addr.add_zero'] at hx164_5)
     replace p164:=eq_true p164
     replace q164:=eq_true q164
     refine start_ (n:=21) (S:=fun w' => w'.cell? ⟨G163,0,none⟩ = some (.slice (some ad164) t158.length co16) ∧ w'.cell? ⟨G163,1,none⟩ = some (.bool t161) ∧ w'.cell? ad164 = some (.int .i64 ((rd_T39 t158 0).f0)) ∧ w'.cell? ⟨ad164.block,ad164.off + 1,none⟩ = some (.int .i64 ((rd_T39 t158 0).f1)) ∧ w'.cell? ⟨ad164.block,ad164.off + 2,none⟩ = some (.float .f64 ((rd_T39 t158 0).f2)) ∧ w'.cell? ⟨ad164.block,ad164.off + 3,none⟩ = some (.int .i64 ((rd_T39 t158 0).f3)) ∧ w'.cell? ⟨ad164.block,ad164.off + 4,none⟩ = some (.float .f64 ((rd_T39 t158 0).f4)) ∧ w'.cell? ⟨ad164.block,ad164.off + 5,none⟩ = some (.int .i64 ((rd_T39 t158 0).f5))) (ds:=[]) #[F,F,F,F,F,F,F,F,F,F,F,F,F,F,F,F,F,F,F,F,F] (by kernel_rfl) rfl rfl ⟨zk K163 0,zk K163 1,hx164_0,hx164_1,hx164_2,hx164_3,hx164_4,hx164_5⟩ (fun hHeld => ?_);refine with_tabW beaconlaw17_awake.tab2 beaconlaw17_awake.bits2 (fun HT_ HW_ => ?_)
     generalize w18.drew = w19 at HO157 HO160 K163 HB hx164_0 hx164_1 hx164_2 hx164_3 hx164_4 hx164_5 hHeld ⊢
     refine pz 0 11 #[T,F,F,F,F,F,F,F,F,F,F,F,F,F,F,F,F,F,F,F,F] HT_.1 ?_
     refine pz 1 12 #[T,T,F,F,F,F,F,F,F,F,F,F,F,F,F,F,F,F,F,F,F] HT_.1 ?_
     refine pz 2 13 #[T,T,T,F,F,F,F,F,F,F,F,F,F,F,F,F,F,F,F,F,F] HT_.1 ?_
     refine pz 3 14 #[T,T,T,T,F,F,F,F,F,F,F,F,F,F,F,F,F,F,F,F,F] HT_.1 ?_
     refine tz 4 15 #[T,T,T,T,T,F,F,F,F,F,F,F,F,F,F,F,F,F,F,F,F] HT_.1 HW_.1 hHeld ?_
     refine pz 5 16 #[T,T,T,T,T,T,F,F,F,F,F,F,F,F,F,F,F,F,F,F,F] HT_.1 ?_
     refine pz 6 17 #[T,T,T,T,T,T,T,F,F,F,F,F,F,F,F,F,F,F,F,F,F] HT_.1 ?_
     refine pz 7 18 #[T,T,T,T,T,T,T,T,F,F,F,F,F,F,F,F,F,F,F,F,F] HT_.1 ?_
     refine pz 8 19 #[T,T,T,T,T,T,T,T,T,F,F,F,F,F,F,F,F,F,F,F,F] HT_.1 ?_
     refine pz 9 20 #[T,T,T,T,T,T,T,T,T,T,F,F,F,F,F,F,F,F,F,F,F] HT_.1 ?_
     refine tz 10 21 #[T,T,T,T,T,T,T,T,T,T,T,F,F,F,F,F,F,F,F,F,F] HT_.1 HW_.1 hHeld ?_
     refine pz 11 22 #[T,T,T,T,T,T,T,T,T,T,T,T,F,F,F,F,F,F,F,F,F] HT_.1 ?_
     refine tz 12 23 #[T,T,T,T,T,T,T,T,T,T,T,T,T,F,F,F,F,F,F,F,F] HT_.1 HW_.1 hHeld ?_
     refine one_ (i:=13) (N:=some 24) #[T,T,T,T,T,T,T,T,T,T,T,T,T,T,F,F,F,F,F,F,F] rfl rfl (one_of HT_.out (by kernel_rfl)) (by decide) (fun K hK => ?_)
     refine goes_ Try.func44 (by kernel_rfl) rfl #[.int .i64 3] (by rfl) rfl rfl (by (try simp only [List.map_toArray,List.map_cons,List.map_nil]);first|done|rfl|(simp only [List.length_drop,List.length_take];rfl)) ?_
     with_reducible refine (beaconlaw17_mark.calls 3 t165 t166 t167 t168 t169 t170 _ A7.out).mono ?_
     rintro e w20 ⟨rfl,hb⟩
     have HS2_:=(hb.cell (World.block_lt_of_cell? _ _ (hHeld.2.2.1))).trans (hHeld.2.2.1)
     have HS3_:=(hb.cell (World.block_lt_of_cell? _ _ (hHeld.2.2.2.1))).trans (hHeld.2.2.2.1)
     have HS4_:=(hb.cell (World.block_lt_of_cell? _ _ (hHeld.2.2.2.2.1))).trans (hHeld.2.2.2.2.1)
     have HS5_:=(hb.cell (World.block_lt_of_cell? _ _ (hHeld.2.2.2.2.2.1))).trans (hHeld.2.2.2.2.2.1)
     have HS6_:=(hb.cell (World.block_lt_of_cell? _ _ (hHeld.2.2.2.2.2.2.1))).trans (hHeld.2.2.2.2.2.2.1)
     have HS7_:=(hb.cell (World.block_lt_of_cell? _ _ (hHeld.2.2.2.2.2.2.2))).trans (hHeld.2.2.2.2.2.2.2)
     refine ⟨_,rfl,?_⟩
     replace HO157:=Aside0.mk (Kd.R_below (zR HO157) hb)
     replace HO160:=Aside0.mk (Kd.R_below (zR HO160) hb)
     replace K163:=zB K163 hb
     replace HB:=zS HB hb
     (try clear hb)
     (try clear hb2)
     (try clear hk)
     (try clear hi)
     refine hK.out _ _ ⟨zk K163 0,zk K163 1,HS2_,HS3_,HS4_,HS5_,HS6_,HS7_⟩ (fun hHeld => ?_)
     clear hK K
     refine nz 24 ?_
     refine pz 14 25 #[T,T,T,T,T,T,T,T,T,T,T,T,T,T,T,F,F,F,F,F,F] HT_.1 ?_
     refine pz 15 26 #[T,T,T,T,T,T,T,T,T,T,T,T,T,T,T,T,F,F,F,F,F] HT_.1 ?_
     refine pz 16 27 #[T,T,T,T,T,T,T,T,T,T,T,T,T,T,T,T,T,F,F,F,F] HT_.1 ?_
     refine pz 17 28 #[T,T,T,T,T,T,T,T,T,T,T,T,T,T,T,T,T,T,F,F,F] HT_.1 ?_
     refine tz 18 29 #[T,T,T,T,T,T,T,T,T,T,T,T,T,T,T,T,T,T,T,F,F] HT_.1 HW_.1 hHeld ?_
     refine pz 19 30 #[T,T,T,T,T,T,T,T,T,T,T,T,T,T,T,T,T,T,T,T,F] HT_.1 ?_
     refine pz 20 0 #[T,T,T,T,T,T,T,T,T,T,T,T,T,T,T,T,T,T,T,T,T] HT_.1 ?_
     refine done_ (done_of HT_.out (by kernel_rfl)) ?_
     try go_wp2
     go_ret
     exact ⟨by first|rfl|(simp [errW_none,errW_some] <;> rfl)|(simp [*,errW_none,errW_some] <;> rfl),zH HB⟩
    ·rw [if_neg c8] at H
     have c8b0 : (((rd_T39 t158 0).f0) == t165 && (((rd_T39 t158 0).f1) == t166 && (feq ((rd_T39 t158 0).f2) t167 && (((rd_T39 t158 0).f3) == t168 && (feq ((rd_T39 t158 0).f4) t169 && (((rd_T39 t158 0).f5) == t170)))))) = false:=by simpa using c8
     (try (have c8b1 : decide (((rd_T39 t158 0).f0) = t165 && (((rd_T39 t158 0).f1) == t166 && (feq ((rd_T39 t158 0).f2) t167 && (((rd_T39 t158 0).f3) == t168 && (feq ((rd_T39 t158 0).f4) t169 && (((rd_T39 t158 0).f5) == t170)))))) = false:=by simpa using c8))
     (try (have c8b2 : (((rd_T39 t158 0).f0) == t165 && (((rd_T39 t158 0).f1) == t166 && (feq ((rd_T39 t158 0).f2) t167 && (((rd_T39 t158 0).f3) == t168 && (feq ((rd_T39 t158 0).f4) t169 && (((rd_T39 t158 0).f5) == t170)))))) = false:=by simpa using c8))
     (try (have c8b3 : ¬ (((rd_T39 t158 0).f0) = t165 && (((rd_T39 t158 0).f1) == t166 && (feq ((rd_T39 t158 0).f2) t167 && (((rd_T39 t158 0).f3) == t168 && (feq ((rd_T39 t158 0).f4) t169 && (((rd_T39 t158 0).f5) == t170)))))):=by simpa using c8))
     clear c8
     obtain rfl:=Option.some.inj H
     go_enter Try.func13,Try.ntmps13
     try go_wp2_with (first|((with_reducible refine gate_callee (f:=44) rfl ?_);refine zg (some 5) Try.func44 #[.int .i64 3] ?_;(with_reducible refine (beaconlaw17_mark.calls 3 t143 t144 t145 t146 t147 t148 _ A1.out).mono ?_);rintro e w21 ⟨rfl,hb⟩;refine ⟨_,rfl,?_⟩;replace HB:=zS HB hb;(try clear hb))|((with_reducible refine gate_callee (f:=44) rfl ?_);refine zg (some 6) Try.func44 #[.int .i64 5] ?_;(with_reducible refine (beaconlaw17_mark.calls 5 t149 t150 t151 t152 t153 t154 _ A2.out).mono ?_);rintro e w22 ⟨rfl,hb⟩;refine ⟨_,rfl,?_⟩;replace HB:=zS HB hb;(try clear hb))|((with_reducible refine gate_dst (N:=7) rfl ?_);(try (refine gate_guard (by rfl) ?_;dsimp only));refine Kd.R_lit k39 _ 39 ?hg (N:=7) ?hd (xs:=([(⟨t143,t144,t145,t146,t147,t148⟩ : S39),(⟨t149,t150,t151,t152,t153,t154⟩ : S39)] : List (S39))) (inner:=[.int .i64 t143,.int .i64 t144,.float .f64 t145,.int .i64 t146,.float .f64 t147,.int .i64 t148,.int .i64 t149,.int .i64 t150,.float .f64 t151,.int .i64 t152,.float .f64 t153,.int .i64 t154]) (ok:=fun _ => True) (okp:=fun _ => True) ?hr ?hp (fun _ hk => hk) trivial (Below.refl _ _) (Nat.le_refl _) (by simp) ?_;(case hd => rfl);(case hg => rfl);(case hr => first|(go_simp;done)|(go_simp;rfl));(case hp => exact (Reps.c6 (show Kd.M k39 _ _ _ (⟨t143,t144,t145,t146,t147,t148⟩ : S39) [.int .i64 t143,.int .i64 t144,.float .f64 t145,.int .i64 t146,.float .f64 t147,.int .i64 t148] from (k39_mkM _ _ _ (⟨t143,t144,t145,t146,t147,t148⟩ : S39) )) (Reps.c6 (show Kd.M k39 _ _ _ (⟨t149,t150,t151,t152,t153,t154⟩ : S39) [.int .i64 t149,.int .i64 t150,.float .f64 t151,.int .i64 t152,.float .f64 t153,.int .i64 t154] from (k39_mkM _ _ _ (⟨t149,t150,t151,t152,t153,t154⟩ : S39) )) (Reps.none _ _))));intro v156 w23 ho24 hb hg_ hnew_;clear hg_ hnew_;(first|rw [← Ny155.out] at ho24|(simp only [Int.reduceToNat] at ho24;rw [← Ny155.out] at ho24));have HO157:=Aside0.mk (Kd.R_lower ho24 (zW HB));replace HB:=zS HB hb;clear hb ho24;obtain ⟨Ao25,co25,eo25⟩:=Kd.R_slice HO157.out;subst eo25)|((with_reducible refine gate_callee (f:=14) rfl ?_);refine zg (some 8) Try.func14 #[.agg #[.slice none 0 0,.bool false],.slice Ao25 y155.length co25,.int .i64 1] ?_;(refine (table_Keep.calls k _ _ ([] : List (S39)) false _ _ y155 1 t158 t161 t162 _ ?side1 ?side2 ?side3 ?side4 A3.out).mono ?_);(case side1 => exact Kd.C_nil _ _);(case side2 => exact Nat.le_refl _);(case side3 => exact zC ((Kd.R_reads' HO157.out).2.2));(case side4 => exact (Kd.R_reads' HO157.out).2.1);rintro e w26 ⟨v159,rfl,ho0,hb⟩;refine ⟨_,rfl,?_⟩;have HO160:=Aside0.mk (Kd.R_lower (Kd.R_new' ho0 (Kd.R_lt (zR HO157))) (zW HB));replace HO157:=Aside0.mk (Kd.R_elder' (zR HO157) (Kd.R_base ho0) hb);replace HB:=zS HB hb;(try clear hb);(try clear ho0))|((with_reducible refine gate_dst (N:=1) rfl ?_);(try (refine gate_guard (by rfl) ?_;dsimp only));refine zb (N:=1) (cs:=#[.slice none 0 0,.bool false]) (t:=24) ?_;intro G163 hg w27 hbox hb;replace HO157:=Aside0.mk (Kd.R_below (zR HO157) hb);replace HO160:=Aside0.mk (Kd.R_below (zR HO160) hb);have K163:=Aside0.mk (hbox);have GW163:=zN HB hg;have GE163:=zN HB hg;replace HB:=zS HB hb;clear hb hbox hg;obtain ⟨Ao28,co28,eo28⟩:=Kd.R_slice HO160.out;subst eo28;have hcz29_0 : w27.cell? ⟨G163,0,none⟩ = some (.slice none 0 0):=zk K163 0;have hcz29_1 : w27.cell? ⟨G163,1,none⟩ = some (.bool false):=zk K163 1;have hfz29_0:=bF K163.1 0;have hfz29_1:=bF K163.1 1))
     have n0_ : Aside0 (Kd.R k39 39 ((w27.setCell ⟨G163,0,none⟩ (.slice Ao28 t158.length co28)).setCell ⟨G163,1,none⟩ (.bool t161)) w.heap.size (fun k_ => some k_ ≠ (.slice Ao28 t158.length co28 : Value).ownBlock) (.slice Ao25 y155.length co25) y155):=⟨by (with_reducible repeat (first|apply Kd.R_alloc|apply Kd.R_drewN|apply Kd.R_drew));exact Kd.R_mono (Kd.R_far (p:=⟨G163,1,none⟩) (Kd.R_far (p:=⟨G163,0,none⟩) (Kd.R_types HO157.out K163.1 (by decide)) (fun _ hk => hk.2) (.slice Ao28 t158.length co28)) (fun _ hk => hk.2) (.bool t161)) (fun _ hk => hk.1.2)⟩
     have n1_ : Aside0 (Kd.R k39 39 ((w27.setCell ⟨G163,0,none⟩ (.slice Ao28 t158.length co28)).setCell ⟨G163,1,none⟩ (.bool t161)) w.heap.size (fun k_ => some k_ ≠ (.slice Ao25 y155.length co25 : Value).ownBlock) (.slice Ao28 t158.length co28) t158):=⟨by (with_reducible repeat (first|apply Kd.R_alloc|apply Kd.R_drewN|apply Kd.R_drew));exact Kd.R_mono (Kd.R_far (p:=⟨G163,1,none⟩) (Kd.R_far (p:=⟨G163,0,none⟩) (Kd.R_types HO160.out K163.1 (by decide)) (fun _ hk => hk.2) (.slice Ao28 t158.length co28)) (fun _ hk => hk.2) (.bool t161)) (fun _ hk => hk.1.2)⟩
     have n2_ : Aside0 (((w27.setCell ⟨G163,0,none⟩ (.slice Ao28 t158.length co28)).setCell ⟨G163,1,none⟩ (.bool t161)).heap[G163]? = some (.cells #[.slice Ao28 t158.length co28,.bool t161] 24 (0,0))):=⟨zF K163⟩
     have n3_ : Aside0 (Below w.heap.size w ((w27.setCell ⟨G163,0,none⟩ (.slice Ao28 t158.length co28)).setCell ⟨G163,1,none⟩ (.bool t161))):=⟨zH HB⟩
     (try clear HO157)
     (try clear HO160)
     (try clear K163)
     (try clear HB)
     generalize ((w27.setCell ⟨G163,0,none⟩ (.slice Ao28 t158.length co28)).setCell ⟨G163,1,none⟩ (.bool t161)) = w30 at n0_ n1_ n2_ n3_ ⊢
     have HO157:=n0_
     have HO160:=n1_
     have K163:=n2_
     have HB:=n3_
     clear n0_ n1_ n2_ n3_
     replace HO157:=Aside0.mk (Kd.R_drew HO157.out)
     replace HO160:=Aside0.mk (Kd.R_drew HO160.out)
     replace K163:=Aside0.mk (bD K163.1)
     replace HB:=Aside0.mk (bw1 HB.1)
     have p164 : 0 ≤ (0 : Int):=(by omega)
     have q164 : 0 < (t158.length : Int):=zd
     obtain ⟨ad164,e164,hx164_0,hx164_1,hx164_2,hx164_3,hx164_4,hx164_5⟩:=at_T39 (Kd.R_reads' HO160.out).2.2 0 p164 q164
     cases e164
     have qi164 : (0 < t158.length) = True:=eq_true (by omega)
     (try rw [show ((0 : Int)).toNat = 0 from rfl] at hx164_0)
     (try rw [show 0 * 6 = 0 from rfl] at hx164_0)
     (try rw [Addr.add_zero'] at hx164_0)
     (try rw [show ((0 : Int)).toNat = 0 from rfl] at hx164_1)
     (try rw [show 0 * 6 = 0 from rfl] at hx164_1)
     (try rw [Addr.add_zero'] at hx164_1)
     (try rw [show ((0 : Int)).toNat = 0 from rfl] at hx164_2)
     (try rw [show 0 * 6 = 0 from rfl] at hx164_2)
     (try rw [Addr.add_zero'] at hx164_2)
     (try rw [show ((0 : Int)).toNat = 0 from rfl] at hx164_3)
     (try rw [show 0 * 6 = 0 from rfl] at hx164_3)
     (try rw [Addr.add_zero'] at hx164_3)
     (try rw [show ((0 : Int)).toNat = 0 from rfl] at hx164_4)
     (try rw [show 0 * 6 = 0 from rfl] at hx164_4)
     (try rw [Addr.add_zero'] at hx164_4)
     (try rw [show ((0 : Int)).toNat = 0 from rfl] at hx164_5)
     (try rw [show 0 * 6 = 0 from rfl] at hx164_5)
     (try rw [Addr.add_zero'] at hx164_5)
     replace p164:=eq_true p164
     replace q164:=eq_true q164
     refine start_ (n:=21) (S:=fun w' => w'.cell? ⟨G163,0,none⟩ = some (.slice (some ad164) t158.length co28) ∧ w'.cell? ⟨G163,1,none⟩ = some (.bool t161) ∧ w'.cell? ad164 = some (.int .i64 ((rd_T39 t158 0).f0)) ∧ w'.cell? ⟨ad164.block,ad164.off + 1,none⟩ = some (.int .i64 ((rd_T39 t158 0).f1)) ∧ w'.cell? ⟨ad164.block,ad164.off + 2,none⟩ = some (.float .f64 ((rd_T39 t158 0).f2)) ∧ w'.cell? ⟨ad164.block,ad164.off + 3,none⟩ = some (.int .i64 ((rd_T39 t158 0).f3)) ∧ w'.cell? ⟨ad164.block,ad164.off + 4,none⟩ = some (.float .f64 ((rd_T39 t158 0).f4)) ∧ w'.cell? ⟨ad164.block,ad164.off + 5,none⟩ = some (.int .i64 ((rd_T39 t158 0).f5))) (ds:=[]) #[F,F,F,F,F,F,F,F,F,F,F,F,F,F,F,F,F,F,F,F,F] (by kernel_rfl) rfl rfl ⟨zk K163 0,zk K163 1,hx164_0,hx164_1,hx164_2,hx164_3,hx164_4,hx164_5⟩ (fun hHeld => ?_);refine with_tabW beaconlaw17_awake.tab2 beaconlaw17_awake.bits2 (fun HT_ HW_ => ?_)
     generalize w30.drew = w31 at HO157 HO160 K163 HB hx164_0 hx164_1 hx164_2 hx164_3 hx164_4 hx164_5 hHeld ⊢
     refine pz 0 11 #[T,F,F,F,F,F,F,F,F,F,F,F,F,F,F,F,F,F,F,F,F] HT_.1 ?_
     refine pz 1 12 #[T,T,F,F,F,F,F,F,F,F,F,F,F,F,F,F,F,F,F,F,F] HT_.1 ?_
     refine pz 2 13 #[T,T,T,F,F,F,F,F,F,F,F,F,F,F,F,F,F,F,F,F,F] HT_.1 ?_
     refine pz 3 14 #[T,T,T,T,F,F,F,F,F,F,F,F,F,F,F,F,F,F,F,F,F] HT_.1 ?_
     refine tz 4 15 #[T,T,T,T,T,F,F,F,F,F,F,F,F,F,F,F,F,F,F,F,F] HT_.1 HW_.1 hHeld ?_
     refine pz 5 16 #[T,T,T,T,T,T,F,F,F,F,F,F,F,F,F,F,F,F,F,F,F] HT_.1 ?_
     refine pz 6 17 #[T,T,T,T,T,T,T,F,F,F,F,F,F,F,F,F,F,F,F,F,F] HT_.1 ?_
     refine pz 7 18 #[T,T,T,T,T,T,T,T,F,F,F,F,F,F,F,F,F,F,F,F,F] HT_.1 ?_
     refine pz 8 19 #[T,T,T,T,T,T,T,T,T,F,F,F,F,F,F,F,F,F,F,F,F] HT_.1 ?_
     refine pz 9 20 #[T,T,T,T,T,T,T,T,T,T,F,F,F,F,F,F,F,F,F,F,F] HT_.1 ?_
     refine tz 10 21 #[T,T,T,T,T,T,T,T,T,T,T,F,F,F,F,F,F,F,F,F,F] HT_.1 HW_.1 hHeld ?_
     refine pz 11 22 #[T,T,T,T,T,T,T,T,T,T,T,T,F,F,F,F,F,F,F,F,F] HT_.1 ?_
     refine tz 12 23 #[T,T,T,T,T,T,T,T,T,T,T,T,T,F,F,F,F,F,F,F,F] HT_.1 HW_.1 hHeld ?_
     refine one_ (i:=13) (N:=some 24) #[T,T,T,T,T,T,T,T,T,T,T,T,T,T,F,F,F,F,F,F,F] rfl rfl (one_of HT_.out (by kernel_rfl)) (by decide) (fun K hK => ?_)
     refine goes_ Try.func44 (by kernel_rfl) rfl #[.int .i64 3] (by rfl) rfl rfl (by (try simp only [List.map_toArray,List.map_cons,List.map_nil]);first|done|rfl|(simp only [List.length_drop,List.length_take];rfl)) ?_
     with_reducible refine (beaconlaw17_mark.calls 3 t165 t166 t167 t168 t169 t170 _ A7.out).mono ?_
     rintro e w32 ⟨rfl,hb⟩
     have HS2_:=(hb.cell (World.block_lt_of_cell? _ _ (hHeld.2.2.1))).trans (hHeld.2.2.1)
     have HS3_:=(hb.cell (World.block_lt_of_cell? _ _ (hHeld.2.2.2.1))).trans (hHeld.2.2.2.1)
     have HS4_:=(hb.cell (World.block_lt_of_cell? _ _ (hHeld.2.2.2.2.1))).trans (hHeld.2.2.2.2.1)
     have HS5_:=(hb.cell (World.block_lt_of_cell? _ _ (hHeld.2.2.2.2.2.1))).trans (hHeld.2.2.2.2.2.1)
     have HS6_:=(hb.cell (World.block_lt_of_cell? _ _ (hHeld.2.2.2.2.2.2.1))).trans (hHeld.2.2.2.2.2.2.1)
     have HS7_:=(hb.cell (World.block_lt_of_cell? _ _ (hHeld.2.2.2.2.2.2.2))).trans (hHeld.2.2.2.2.2.2.2)
     refine ⟨_,rfl,?_⟩
     replace HO157:=Aside0.mk (Kd.R_below (zR HO157) hb)
     replace HO160:=Aside0.mk (Kd.R_below (zR HO160) hb)
     replace K163:=zB K163 hb
     replace HB:=zS HB hb
     (try clear hb)
     (try clear hb2)
     (try clear hk)
     (try clear hi)
     refine hK.out _ _ ⟨zk K163 0,zk K163 1,HS2_,HS3_,HS4_,HS5_,HS6_,HS7_⟩ (fun hHeld => ?_)
     clear hK K
     refine nz 24 ?_
     refine pz 14 25 #[T,T,T,T,T,T,T,T,T,T,T,T,T,T,T,F,F,F,F,F,F] HT_.1 ?_
     refine pz 15 26 #[T,T,T,T,T,T,T,T,T,T,T,T,T,T,T,T,F,F,F,F,F] HT_.1 ?_
     refine pz 16 27 #[T,T,T,T,T,T,T,T,T,T,T,T,T,T,T,T,T,F,F,F,F] HT_.1 ?_
     refine pu 17 28 #[T,T,T,T,T,T,T,T,T,T,T,T,T,T,T,T,T,T,F,F,F] HT_.1 ?_
     refine pu 18 29 #[T,T,T,T,T,T,T,T,T,T,T,T,T,T,T,T,T,T,T,F,F] HT_.1 ?_
     refine pz 19 30 #[T,T,T,T,T,T,T,T,T,T,T,T,T,T,T,T,T,T,T,T,F] HT_.1 ?_
     refine pz 20 0 #[T,T,T,T,T,T,T,T,T,T,T,T,T,T,T,T,T,T,T,T,T] HT_.1 ?_
     refine done_ (done_of HT_.out (by kernel_rfl)) ?_
     try go_wp2
     go_ret
     exact ⟨by first|rfl|(simp [errW_none,errW_some] <;> rfl)|(simp [*,errW_none,errW_some] <;> rfl),zH HB⟩
   ·rw [if_neg c6] at H
    exact absurd H (by simp)
  ·rw [if_neg c5] at H
   have c5b0 : ((t158.length : Int) == 1) = false:=beq_eq_false_iff_ne.mpr c5
   have c5b1 : ((t158.length : Int) != 1) = true:=bne_iff_ne.mpr c5
   obtain rfl:=Option.some.inj H
   go_enter Try.func13,Try.ntmps13
   try go_wp2_with (first|((with_reducible refine gate_callee (f:=44) rfl ?_);refine zg (some 5) Try.func44 #[.int .i64 3] ?_;(with_reducible refine (beaconlaw17_mark.calls 3 t143 t144 t145 t146 t147 t148 _ A1.out).mono ?_);rintro e w33 ⟨rfl,hb⟩;refine ⟨_,rfl,?_⟩;replace HB:=zS HB hb;(try clear hb))|((with_reducible refine gate_callee (f:=44) rfl ?_);refine zg (some 6) Try.func44 #[.int .i64 5] ?_;(with_reducible refine (beaconlaw17_mark.calls 5 t149 t150 t151 t152 t153 t154 _ A2.out).mono ?_);rintro e w34 ⟨rfl,hb⟩;refine ⟨_,rfl,?_⟩;replace HB:=zS HB hb;(try clear hb))|((with_reducible refine gate_dst (N:=7) rfl ?_);(try (refine gate_guard (by rfl) ?_;dsimp only));refine Kd.R_lit k39 _ 39 ?hg (N:=7) ?hd (xs:=([(⟨t143,t144,t145,t146,t147,t148⟩ : S39),(⟨t149,t150,t151,t152,t153,t154⟩ : S39)] : List (S39))) (inner:=[.int .i64 t143,.int .i64 t144,.float .f64 t145,.int .i64 t146,.float .f64 t147,.int .i64 t148,.int .i64 t149,.int .i64 t150,.float .f64 t151,.int .i64 t152,.float .f64 t153,.int .i64 t154]) (ok:=fun _ => True) (okp:=fun _ => True) ?hr ?hp (fun _ hk => hk) trivial (Below.refl _ _) (Nat.le_refl _) (by simp) ?_;(case hd => rfl);(case hg => rfl);(case hr => first|(go_simp;done)|(go_simp;rfl));(case hp => exact (Reps.c6 (show Kd.M k39 _ _ _ (⟨t143,t144,t145,t146,t147,t148⟩ : S39) [.int .i64 t143,.int .i64 t144,.float .f64 t145,.int .i64 t146,.float .f64 t147,.int .i64 t148] from (k39_mkM _ _ _ (⟨t143,t144,t145,t146,t147,t148⟩ : S39) )) (Reps.c6 (show Kd.M k39 _ _ _ (⟨t149,t150,t151,t152,t153,t154⟩ : S39) [.int .i64 t149,.int .i64 t150,.float .f64 t151,.int .i64 t152,.float .f64 t153,.int .i64 t154] from (k39_mkM _ _ _ (⟨t149,t150,t151,t152,t153,t154⟩ : S39) )) (Reps.none _ _))));intro v156 w35 ho36 hb hg_ hnew_;clear hg_ hnew_;(first|rw [← Ny155.out] at ho36|(simp only [Int.reduceToNat] at ho36;rw [← Ny155.out] at ho36));have HO157:=Aside0.mk (Kd.R_lower ho36 (zW HB));replace HB:=zS HB hb;clear hb ho36;obtain ⟨Ao37,co37,eo37⟩:=Kd.R_slice HO157.out;subst eo37)|((with_reducible refine gate_callee (f:=14) rfl ?_);refine zg (some 8) Try.func14 #[.agg #[.slice none 0 0,.bool false],.slice Ao37 y155.length co37,.int .i64 1] ?_;(refine (table_Keep.calls k _ _ ([] : List (S39)) false _ _ y155 1 t158 t161 t162 _ ?side1 ?side2 ?side3 ?side4 A3.out).mono ?_);(case side1 => exact Kd.C_nil _ _);(case side2 => exact Nat.le_refl _);(case side3 => exact zC ((Kd.R_reads' HO157.out).2.2));(case side4 => exact (Kd.R_reads' HO157.out).2.1);rintro e w38 ⟨v159,rfl,ho0,hb⟩;refine ⟨_,rfl,?_⟩;have HO160:=Aside0.mk (Kd.R_lower (Kd.R_new' ho0 (Kd.R_lt (zR HO157))) (zW HB));replace HO157:=Aside0.mk (Kd.R_elder' (zR HO157) (Kd.R_base ho0) hb);replace HB:=zS HB hb;(try clear hb);(try clear ho0))|((with_reducible refine gate_dst (N:=1) rfl ?_);(try (refine gate_guard (by rfl) ?_;dsimp only));refine zb (N:=1) (cs:=#[.slice none 0 0,.bool false]) (t:=24) ?_;intro G163 hg w39 hbox hb;replace HO157:=Aside0.mk (Kd.R_below (zR HO157) hb);replace HO160:=Aside0.mk (Kd.R_below (zR HO160) hb);have K163:=Aside0.mk (hbox);have GW163:=zN HB hg;have GE163:=zN HB hg;replace HB:=zS HB hb;clear hb hbox hg;obtain ⟨Ao40,co40,eo40⟩:=Kd.R_slice HO160.out;subst eo40;have hcz41_0 : w39.cell? ⟨G163,0,none⟩ = some (.slice none 0 0):=zk K163 0;have hcz41_1 : w39.cell? ⟨G163,1,none⟩ = some (.bool false):=zk K163 1;have hfz41_0:=bF K163.1 0;have hfz41_1:=bF K163.1 1))
   have n0_ : Aside0 (Kd.R k39 39 ((w39.setCell ⟨G163,0,none⟩ (.slice Ao40 t158.length co40)).setCell ⟨G163,1,none⟩ (.bool t161)) w.heap.size (fun k_ => some k_ ≠ (.slice Ao40 t158.length co40 : Value).ownBlock) (.slice Ao37 y155.length co37) y155):=⟨by (with_reducible repeat (first|apply Kd.R_alloc|apply Kd.R_drewN|apply Kd.R_drew));exact Kd.R_mono (Kd.R_far (p:=⟨G163,1,none⟩) (Kd.R_far (p:=⟨G163,0,none⟩) (Kd.R_types HO157.out K163.1 (by decide)) (fun _ hk => hk.2) (.slice Ao40 t158.length co40)) (fun _ hk => hk.2) (.bool t161)) (fun _ hk => hk.1.2)⟩
   have n1_ : Aside0 (Kd.R k39 39 ((w39.setCell ⟨G163,0,none⟩ (.slice Ao40 t158.length co40)).setCell ⟨G163,1,none⟩ (.bool t161)) w.heap.size (fun k_ => some k_ ≠ (.slice Ao37 y155.length co37 : Value).ownBlock) (.slice Ao40 t158.length co40) t158):=⟨by (with_reducible repeat (first|apply Kd.R_alloc|apply Kd.R_drewN|apply Kd.R_drew));exact Kd.R_mono (Kd.R_far (p:=⟨G163,1,none⟩) (Kd.R_far (p:=⟨G163,0,none⟩) (Kd.R_types HO160.out K163.1 (by decide)) (fun _ hk => hk.2) (.slice Ao40 t158.length co40)) (fun _ hk => hk.2) (.bool t161)) (fun _ hk => hk.1.2)⟩
   have n2_ : Aside0 (((w39.setCell ⟨G163,0,none⟩ (.slice Ao40 t158.length co40)).setCell ⟨G163,1,none⟩ (.bool t161)).heap[G163]? = some (.cells #[.slice Ao40 t158.length co40,.bool t161] 24 (0,0))):=⟨zF K163⟩
   have n3_ : Aside0 (Below w.heap.size w ((w39.setCell ⟨G163,0,none⟩ (.slice Ao40 t158.length co40)).setCell ⟨G163,1,none⟩ (.bool t161))):=⟨zH HB⟩
   (try clear HO157)
   (try clear HO160)
   (try clear K163)
   (try clear HB)
   generalize ((w39.setCell ⟨G163,0,none⟩ (.slice Ao40 t158.length co40)).setCell ⟨G163,1,none⟩ (.bool t161)) = w42 at n0_ n1_ n2_ n3_ ⊢
   have HO157:=n0_
   have HO160:=n1_
   have K163:=n2_
   have HB:=n3_
   clear n0_ n1_ n2_ n3_
   replace HO157:=Aside0.mk (Kd.R_drew HO157.out)
   replace HO160:=Aside0.mk (Kd.R_drew HO160.out)
   replace K163:=Aside0.mk (bD K163.1)
   replace HB:=Aside0.mk (bw1 HB.1)
   refine start_ (n:=21) (S:=fun w' => w'.cell? ⟨G163,0,none⟩ = some (.slice Ao40 t158.length co40) ∧ w'.cell? ⟨G163,1,none⟩ = some (.bool t161)) (ds:=[]) #[F,F,F,F,F,F,F,F,F,F,F,F,F,F,F,F,F,F,F,F,F] (by kernel_rfl) rfl rfl ⟨zk K163 0,zk K163 1⟩ (fun hHeld => ?_);refine with_tabW beaconlaw17_awake.tab2 beaconlaw17_awake.bits2 (fun HT_ HW_ => ?_)
   generalize w42.drew = w43 at HO157 HO160 K163 HB hHeld ⊢
   refine pz 0 11 #[T,F,F,F,F,F,F,F,F,F,F,F,F,F,F,F,F,F,F,F,F] HT_.1 ?_
   refine pz 1 12 #[T,T,F,F,F,F,F,F,F,F,F,F,F,F,F,F,F,F,F,F,F] HT_.1 ?_
   refine pz 2 13 #[T,T,T,F,F,F,F,F,F,F,F,F,F,F,F,F,F,F,F,F,F] HT_.1 ?_
   refine pz 3 14 #[T,T,T,T,F,F,F,F,F,F,F,F,F,F,F,F,F,F,F,F,F] HT_.1 ?_
   refine tz 4 15 #[T,T,T,T,T,F,F,F,F,F,F,F,F,F,F,F,F,F,F,F,F] HT_.1 HW_.1 hHeld ?_
   refine pz 5 16 #[T,T,T,T,T,T,F,F,F,F,F,F,F,F,F,F,F,F,F,F,F] HT_.1 ?_
   refine pz 6 17 #[T,T,T,T,T,T,T,F,F,F,F,F,F,F,F,F,F,F,F,F,F] HT_.1 ?_
   refine pz 7 18 #[T,T,T,T,T,T,T,T,F,F,F,F,F,F,F,F,F,F,F,F,F] HT_.1 ?_
   refine pz 8 19 #[T,T,T,T,T,T,T,T,T,F,F,F,F,F,F,F,F,F,F,F,F] HT_.1 ?_
   refine pu 9 20 #[T,T,T,T,T,T,T,T,T,T,F,F,F,F,F,F,F,F,F,F,F] HT_.1 ?_
   refine pu 10 21 #[T,T,T,T,T,T,T,T,T,T,T,F,F,F,F,F,F,F,F,F,F] HT_.1 ?_
   refine pu 11 22 #[T,T,T,T,T,T,T,T,T,T,T,T,F,F,F,F,F,F,F,F,F] HT_.1 ?_
   refine pu 12 23 #[T,T,T,T,T,T,T,T,T,T,T,T,T,F,F,F,F,F,F,F,F] HT_.1 ?_
   refine pu 13 24 #[T,T,T,T,T,T,T,T,T,T,T,T,T,T,F,F,F,F,F,F,F] HT_.1 ?_
   refine pu 14 25 #[T,T,T,T,T,T,T,T,T,T,T,T,T,T,T,F,F,F,F,F,F] HT_.1 ?_
   refine pz 15 26 #[T,T,T,T,T,T,T,T,T,T,T,T,T,T,T,T,F,F,F,F,F] HT_.1 ?_
   refine pz 16 27 #[T,T,T,T,T,T,T,T,T,T,T,T,T,T,T,T,T,F,F,F,F] HT_.1 ?_
   refine pu 17 28 #[T,T,T,T,T,T,T,T,T,T,T,T,T,T,T,T,T,T,F,F,F] HT_.1 ?_
   refine pu 18 29 #[T,T,T,T,T,T,T,T,T,T,T,T,T,T,T,T,T,T,T,F,F] HT_.1 ?_
   refine pz 19 30 #[T,T,T,T,T,T,T,T,T,T,T,T,T,T,T,T,T,T,T,T,F] HT_.1 ?_
   refine pz 20 0 #[T,T,T,T,T,T,T,T,T,T,T,T,T,T,T,T,T,T,T,T,T] HT_.1 ?_
   refine done_ (done_of HT_.out (by kernel_rfl)) ?_
   try go_wp2
   go_ret
   exact ⟨by first|rfl|(simp [errW_none,errW_some] <;> rfl)|(simp [*,errW_none,errW_some] <;> rfl),zH HB⟩
 ·rw [if_neg c4] at H
  have c4b0 : (t162 == 0) = false:=beq_eq_false_iff_ne.mpr c4
  have c4b1 : (t162 != 0) = true:=bne_iff_ne.mpr c4
  obtain rfl:=Option.some.inj H
  go_enter Try.func13,Try.ntmps13
  try go_wp2_with (first|((with_reducible refine gate_callee (f:=44) rfl ?_);refine zg (some 5) Try.func44 #[.int .i64 3] ?_;(with_reducible refine (beaconlaw17_mark.calls 3 t143 t144 t145 t146 t147 t148 _ A1.out).mono ?_);rintro e w44 ⟨rfl,hb⟩;refine ⟨_,rfl,?_⟩;replace HB:=zS HB hb;(try clear hb))|((with_reducible refine gate_callee (f:=44) rfl ?_);refine zg (some 6) Try.func44 #[.int .i64 5] ?_;(with_reducible refine (beaconlaw17_mark.calls 5 t149 t150 t151 t152 t153 t154 _ A2.out).mono ?_);rintro e w45 ⟨rfl,hb⟩;refine ⟨_,rfl,?_⟩;replace HB:=zS HB hb;(try clear hb))|((with_reducible refine gate_dst (N:=7) rfl ?_);(try (refine gate_guard (by rfl) ?_;dsimp only));refine Kd.R_lit k39 _ 39 ?hg (N:=7) ?hd (xs:=([(⟨t143,t144,t145,t146,t147,t148⟩ : S39),(⟨t149,t150,t151,t152,t153,t154⟩ : S39)] : List (S39))) (inner:=[.int .i64 t143,.int .i64 t144,.float .f64 t145,.int .i64 t146,.float .f64 t147,.int .i64 t148,.int .i64 t149,.int .i64 t150,.float .f64 t151,.int .i64 t152,.float .f64 t153,.int .i64 t154]) (ok:=fun _ => True) (okp:=fun _ => True) ?hr ?hp (fun _ hk => hk) trivial (Below.refl _ _) (Nat.le_refl _) (by simp) ?_;(case hd => rfl);(case hg => rfl);(case hr => first|(go_simp;done)|(go_simp;rfl));(case hp => exact (Reps.c6 (show Kd.M k39 _ _ _ (⟨t143,t144,t145,t146,t147,t148⟩ : S39) [.int .i64 t143,.int .i64 t144,.float .f64 t145,.int .i64 t146,.float .f64 t147,.int .i64 t148] from (k39_mkM _ _ _ (⟨t143,t144,t145,t146,t147,t148⟩ : S39) )) (Reps.c6 (show Kd.M k39 _ _ _ (⟨t149,t150,t151,t152,t153,t154⟩ : S39) [.int .i64 t149,.int .i64 t150,.float .f64 t151,.int .i64 t152,.float .f64 t153,.int .i64 t154] from (k39_mkM _ _ _ (⟨t149,t150,t151,t152,t153,t154⟩ : S39) )) (Reps.none _ _))));intro v156 w46 ho47 hb hg_ hnew_;clear hg_ hnew_;(first|rw [← Ny155.out] at ho47|(simp only [Int.reduceToNat] at ho47;rw [← Ny155.out] at ho47));have HO157:=Aside0.mk (Kd.R_lower ho47 (zW HB));replace HB:=zS HB hb;clear hb ho47;obtain ⟨Ao48,co48,eo48⟩:=Kd.R_slice HO157.out;subst eo48)|((with_reducible refine gate_callee (f:=14) rfl ?_);refine zg (some 8) Try.func14 #[.agg #[.slice none 0 0,.bool false],.slice Ao48 y155.length co48,.int .i64 1] ?_;(refine (table_Keep.calls k _ _ ([] : List (S39)) false _ _ y155 1 t158 t161 t162 _ ?side1 ?side2 ?side3 ?side4 A3.out).mono ?_);(case side1 => exact Kd.C_nil _ _);(case side2 => exact Nat.le_refl _);(case side3 => exact zC ((Kd.R_reads' HO157.out).2.2));(case side4 => exact (Kd.R_reads' HO157.out).2.1);rintro e w49 ⟨v159,rfl,ho0,hb⟩;refine ⟨_,rfl,?_⟩;have HO160:=Aside0.mk (Kd.R_lower (Kd.R_new' ho0 (Kd.R_lt (zR HO157))) (zW HB));replace HO157:=Aside0.mk (Kd.R_elder' (zR HO157) (Kd.R_base ho0) hb);replace HB:=zS HB hb;(try clear hb);(try clear ho0))|((with_reducible refine gate_dst (N:=1) rfl ?_);(try (refine gate_guard (by rfl) ?_;dsimp only));refine zb (N:=1) (cs:=#[.slice none 0 0,.bool false]) (t:=24) ?_;intro G163 hg w50 hbox hb;replace HO157:=Aside0.mk (Kd.R_below (zR HO157) hb);replace HO160:=Aside0.mk (Kd.R_below (zR HO160) hb);have K163:=Aside0.mk (hbox);have GW163:=zN HB hg;have GE163:=zN HB hg;replace HB:=zS HB hb;clear hb hbox hg;obtain ⟨Ao51,co51,eo51⟩:=Kd.R_slice HO160.out;subst eo51;have hcz52_0 : w50.cell? ⟨G163,0,none⟩ = some (.slice none 0 0):=zk K163 0;have hcz52_1 : w50.cell? ⟨G163,1,none⟩ = some (.bool false):=zk K163 1;have hfz52_0:=bF K163.1 0;have hfz52_1:=bF K163.1 1))
  have n0_ : Aside0 (Kd.R k39 39 ((w50.setCell ⟨G163,0,none⟩ (.slice Ao51 t158.length co51)).setCell ⟨G163,1,none⟩ (.bool t161)) w.heap.size (fun k_ => some k_ ≠ (.slice Ao51 t158.length co51 : Value).ownBlock) (.slice Ao48 y155.length co48) y155):=⟨by (with_reducible repeat (first|apply Kd.R_alloc|apply Kd.R_drewN|apply Kd.R_drew));exact Kd.R_mono (Kd.R_far (p:=⟨G163,1,none⟩) (Kd.R_far (p:=⟨G163,0,none⟩) (Kd.R_types HO157.out K163.1 (by decide)) (fun _ hk => hk.2) (.slice Ao51 t158.length co51)) (fun _ hk => hk.2) (.bool t161)) (fun _ hk => hk.1.2)⟩
  have n1_ : Aside0 (Kd.R k39 39 ((w50.setCell ⟨G163,0,none⟩ (.slice Ao51 t158.length co51)).setCell ⟨G163,1,none⟩ (.bool t161)) w.heap.size (fun k_ => some k_ ≠ (.slice Ao48 y155.length co48 : Value).ownBlock) (.slice Ao51 t158.length co51) t158):=⟨by (with_reducible repeat (first|apply Kd.R_alloc|apply Kd.R_drewN|apply Kd.R_drew));exact Kd.R_mono (Kd.R_far (p:=⟨G163,1,none⟩) (Kd.R_far (p:=⟨G163,0,none⟩) (Kd.R_types HO160.out K163.1 (by decide)) (fun _ hk => hk.2) (.slice Ao51 t158.length co51)) (fun _ hk => hk.2) (.bool t161)) (fun _ hk => hk.1.2)⟩
  have n2_ : Aside0 (((w50.setCell ⟨G163,0,none⟩ (.slice Ao51 t158.length co51)).setCell ⟨G163,1,none⟩ (.bool t161)).heap[G163]? = some (.cells #[.slice Ao51 t158.length co51,.bool t161] 24 (0,0))):=⟨zF K163⟩
  have n3_ : Aside0 (Below w.heap.size w ((w50.setCell ⟨G163,0,none⟩ (.slice Ao51 t158.length co51)).setCell ⟨G163,1,none⟩ (.bool t161))):=⟨zH HB⟩
  (try clear HO157)
  (try clear HO160)
  (try clear K163)
  (try clear HB)
  generalize ((w50.setCell ⟨G163,0,none⟩ (.slice Ao51 t158.length co51)).setCell ⟨G163,1,none⟩ (.bool t161)) = w53 at n0_ n1_ n2_ n3_ ⊢
  have HO157:=n0_
  have HO160:=n1_
  have K163:=n2_
  have HB:=n3_
  clear n0_ n1_ n2_ n3_
  replace HO157:=Aside0.mk (Kd.R_drew HO157.out)
  replace HO160:=Aside0.mk (Kd.R_drew HO160.out)
  replace K163:=Aside0.mk (bD K163.1)
  replace HB:=Aside0.mk (bw1 HB.1)
  refine start_ (n:=21) (S:=fun w' => True) (ds:=[]) #[F,F,F,F,F,F,F,F,F,F,F,F,F,F,F,F,F,F,F,F,F] (by kernel_rfl) rfl rfl trivial (fun hHeld => ?_);refine with_tabW beaconlaw17_awake.tab2 beaconlaw17_awake.bits2 (fun HT_ HW_ => ?_)
  generalize w53.drew = w54 at HO157 HO160 K163 HB hHeld ⊢
  refine pz 0 11 #[T,F,F,F,F,F,F,F,F,F,F,F,F,F,F,F,F,F,F,F,F] HT_.1 ?_
  refine pz 1 12 #[T,T,F,F,F,F,F,F,F,F,F,F,F,F,F,F,F,F,F,F,F] HT_.1 ?_
  refine pz 2 13 #[T,T,T,F,F,F,F,F,F,F,F,F,F,F,F,F,F,F,F,F,F] HT_.1 ?_
  refine pu 3 14 #[T,T,T,T,F,F,F,F,F,F,F,F,F,F,F,F,F,F,F,F,F] HT_.1 ?_
  refine pu 4 15 #[T,T,T,T,T,F,F,F,F,F,F,F,F,F,F,F,F,F,F,F,F] HT_.1 ?_
  refine pu 5 16 #[T,T,T,T,T,T,F,F,F,F,F,F,F,F,F,F,F,F,F,F,F] HT_.1 ?_
  refine pu 6 17 #[T,T,T,T,T,T,T,F,F,F,F,F,F,F,F,F,F,F,F,F,F] HT_.1 ?_
  refine pz 7 18 #[T,T,T,T,T,T,T,T,F,F,F,F,F,F,F,F,F,F,F,F,F] HT_.1 ?_
  refine pz 8 19 #[T,T,T,T,T,T,T,T,T,F,F,F,F,F,F,F,F,F,F,F,F] HT_.1 ?_
  refine pu 9 20 #[T,T,T,T,T,T,T,T,T,T,F,F,F,F,F,F,F,F,F,F,F] HT_.1 ?_
  refine pu 10 21 #[T,T,T,T,T,T,T,T,T,T,T,F,F,F,F,F,F,F,F,F,F] HT_.1 ?_
  refine pu 11 22 #[T,T,T,T,T,T,T,T,T,T,T,T,F,F,F,F,F,F,F,F,F] HT_.1 ?_
  refine pu 12 23 #[T,T,T,T,T,T,T,T,T,T,T,T,T,F,F,F,F,F,F,F,F] HT_.1 ?_
  refine pu 13 24 #[T,T,T,T,T,T,T,T,T,T,T,T,T,T,F,F,F,F,F,F,F] HT_.1 ?_
  refine pu 14 25 #[T,T,T,T,T,T,T,T,T,T,T,T,T,T,T,F,F,F,F,F,F] HT_.1 ?_
  refine pz 15 26 #[T,T,T,T,T,T,T,T,T,T,T,T,T,T,T,T,F,F,F,F,F] HT_.1 ?_
  refine pz 16 27 #[T,T,T,T,T,T,T,T,T,T,T,T,T,T,T,T,T,F,F,F,F] HT_.1 ?_
  refine pu 17 28 #[T,T,T,T,T,T,T,T,T,T,T,T,T,T,T,T,T,T,F,F,F] HT_.1 ?_
  refine pu 18 29 #[T,T,T,T,T,T,T,T,T,T,T,T,T,T,T,T,T,T,T,F,F] HT_.1 ?_
  refine pz 19 30 #[T,T,T,T,T,T,T,T,T,T,T,T,T,T,T,T,T,T,T,T,F] HT_.1 ?_
  refine pz 20 0 #[T,T,T,T,T,T,T,T,T,T,T,T,T,T,T,T,T,T,T,T,T] HT_.1 ?_
  refine done_ (done_of HT_.out (by kernel_rfl)) ?_
  try go_wp2
  go_ret
  exact ⟨by first|rfl|(simp [errW_none,errW_some] <;> rfl)|(simp [*,errW_none,errW_some] <;> rfl),zH HB⟩

end Go.Proofs.Ytgmjlhpigfaicaa.XA
