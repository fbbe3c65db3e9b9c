/- Go functions of this seat as Lean functions, with proofs that the calls come to them. (Written by xprint.py, a program of this session, over the kit's print.) -/
import Derived.Test.YtgmjlhpigfaicaaXFx0
import Derived.Test.YtgmjlhpigfaicaaXFx10
namespace Go.Proofs.Ytgmjlhpigfaicaa.XF
open Go.RowKit Go.Proofs.YtgmjlhpigfaicaaW.PrintWords Go.Proofs.YtgmjlhpigfaicaaW.PrintLast Go.Proofs.YtgmjlhpigfaicaaW.PrintMore
attribute [local go_sem] max2_int min2_int max_two min_two max_three min_three max_four min_four   -- for this text's walks alone
set_option linter.unusedVariables false
set_option linter.unusedSimpArgs false
open List renaming setIfInBounds_toArray → xA, set_cons_zero → xB, set_cons_succ → xC
open Go.Proofs.YtgmjlhpigfaicaaW.PrintWords renaming blk_drewN → bN, blk_drew → bD, blk_alloc → bA, below_set → bS, blk_frozen → bF, blk_cell → bC, cell_far → cF, blk_far → bZ, blk_below → bB, pw_below_drewN → bwN, below_drew1 → bw1, below_alloc → bwA
open Go.Proofs.YtgmjlhpigfaicaaW.PrintZ
open Bool renaming true → T,false → F

/-! ### beaconlaw19_own: function 29 -/
def beaconlaw19_own.f (k : Nat) (l0_0 : List (S39)) (a0_1 : Bool) : Option ((List (S39)) × Bool) := (beaconref15_Entries.f k l0_0).bind fun t224 => (some (t224, a0_1))
theorem beaconlaw19_own.mono : ∀ a0 a1 k, LeO (beaconlaw19_own.f k a0 a1) (beaconlaw19_own.f (k + 1) a0 a1) := by
 intro a0 a1 k
 unfold beaconlaw19_own.f
 repeat' first
   | (with_reducible exact beaconref15_Entries.mono _ _)
   | (with_reducible exact LeO.refl _)
   | (with_reducible exact LeO.none _)
   | (with_reducible refine LeO.ite ?_ ?_)
   | (with_reducible refine LeO.bind ?_ (fun _ => ?_))
   | exact beaconref15_Entries.mono _ _
   | exact LeO.none _
   | refine LeO.ite ?_ ?_
   | refine LeO.bind ?_ (fun _ => ?_)
set_option maxHeartbeats 8000000 in
set_option maxRecDepth 100000 in
theorem beaconlaw19_own.calls (k : Nat) (A0_0 : Option Addr) (c0_0 : Nat) (l0_0 : List (S39)) (a0_1 : Bool) (r1 : List (S39)) (r2 : Bool) (w : World) (hr0_0 : Kd.C k39 w A0_0 l0_0.length l0_0) (hc0_0 : l0_0.length ≤ c0_0) (h : beaconlaw19_own.f k l0_0 a0_1 = some (r1, r2)) :
  Calls Try.prog 29 #[.agg #[.slice A0_0 l0_0.length c0_0,.bool a0_1]] w fun e w' => ∃ v0_ : Value,e = .returned (.agg #[v0_,.bool r2]) ∧ Kd.R k39 39 w' w.heap.size (fun _ => True) v0_ r1 ∧ Below w.heap.size w w':=by
 have hu24:=Try.underlying24;have HR0_0:=zA hr0_0;have HC0_0:=zA hc0_0;clear hr0_0 hc0_0;have HB:=zA (Below.refl w.heap.size w);have H : ((beaconref15_Entries.f k l0_0).bind fun t224 => (some (t224,a0_1))) = some (r1,r2):=h;clear h;replace H:=Option.bind_eq_some_iff.mp H;obtain ⟨t224,A20,H⟩:=H;(try dsimp only at H);have A2:=zA A20;clear A20;simp only [Option.some.injEq,Prod.mk.injEq] at H;obtain ⟨rfl,rfl⟩:=H;go_enter Try.func29,Try.ntmps29
 try go_wp2_with (first|((with_reducible refine gate_dst (N:=1) rfl ?_);refine zb (N:=1) (cs:=#[.slice A0_0 l0_0.length c0_0,.bool a0_1]) (t:=24) ?_;intro G222 hg w3 hbox hb;have K222:=zA (hbox);have GW222:=zN HB hg;have GE222:=zN HB hg;replace HB:=zS HB hb;clear hb hbox hg)|((with_reducible refine gate_dst (N:=2) rfl ?_);refine zb (N:=2) (cs:=#[.slice none 0 0,.bool false]) (t:=24) ?_;intro G223 hg w4 hbox hb;have K223:=zA (hbox);have GW223:=zN HB hg;have GE223:=zN HB hg;replace HB:=zS HB hb;have NB222_223:=zL K222 hg;have NB223_222:=zG K222 hg;replace K222:=zB K222 hb;clear hb hbox hg))
 replace K222:=zA (bD K222.1);replace K223:=zA (bD K223.1);replace HB:=zA (bw1 HB.1);refine start_ (n:=7) (S:=fun w' => w'.cell? ⟨G222,0,none⟩ = some (.slice A0_0 l0_0.length c0_0) ∧ w'.cell? ⟨G222,1,none⟩ = some (.bool a0_1)) (ds:=[]) #[F,F,F,F,F,F,F] (by kernel_rfl) rfl rfl ⟨zk K222 0,zk K222 1⟩ (fun hHeld => ?_);generalize w4.drew = w5 at K222 K223 HB hHeld ⊢;refine pk 0 3 #[T,F,F,F,F,F,F] ?_;refine pk 3 6 #[T,F,F,T,F,F,F] ?_;refine tk 1 4 #[T,T,F,T,F,F,F] hHeld ?_;refine tk 4 7 #[T,T,F,T,T,F,F] hHeld ?_;refine one_ (i:=2) (N:=some 5) #[T,T,T,T,T,F,F] rfl rfl (by kernel_rfl) (by decide) (fun K hK => ?_);refine zo_ Try.func17 #[.slice A0_0 l0_0.length c0_0] ?_;with_reducible refine (beaconref15_Entries.calls k _ _ l0_0 t224 _ ?side1 ?side2 A2.out).mono ?_
 (case side1 => exact zC (Kd.C_below HR0_0.out HB.1));(case side2 => exact HC0_0.out);rintro e w6 ⟨v225,rfl,ho0,hb⟩;refine ⟨_,rfl,?_⟩;have HO226:=zA (Kd.R_lower ho0 (zW HB));replace K222:=zB K222 hb;replace K223:=zB K223 hb;replace HB:=zS HB hb;(try clear hb);(try clear hb2);(try clear hk);(try clear hi);(try clear ho0);obtain ⟨Ao7,co7,eo7⟩:=Kd.R_slice HO226.out;(first|subst eo7|(injection eo7 with f1_ f2_ f3_;have f4_:=f1_.symm;have f5_:=f3_.symm;clear f1_ f2_ f3_;subst f4_;subst f5_))
 refine hK.out _ _ ⟨zk K222 0,zk K222 1⟩ (fun hHeld => ?_);clear hK K;refine nz 5 ?_;refine pk 5 8 #[T,T,T,T,T,T,F] ?_;refine one_ (i:=6) (N:=none) #[T,T,T,T,T,T,T] rfl rfl (by kernel_rfl) (by decide) (fun K hK => ?_);have hs8 : w6.cell? ⟨G223,0,none⟩ = some (.slice none 0 0):=zk K223 0;have hfs8:=bF K223.1 0;have:=NB222_223.1;have:=NB223_222.1;have hs9 : w6.cell? ⟨G223,1,none⟩ = some (.bool false):=zk K223 1;have hfs9:=bF K223.1 1;refine sz ?_;refine hK.out _ _ ⟨(zx (hHeld.1) NB222_223.1),(zx (hHeld.2) NB222_223.1)⟩ (fun hHeld => ?_);clear hK K;refine done_ (by kernel_rfl) ?_;try go_wp2
 refine bodyPost_ret (results_cell_row rfl _ _ G223 24 #[.slice Ao7 t224.length co7,.bool a0_1] (0,0) _ rfl (zF K223) Try.underlying24 rfl (by kernel_rfl)) rfl ?_;exact ⟨_,by first|rfl|(simp [errW_none,errW_some] <;> rfl)|(simp [*,errW_none,errW_some] <;> rfl),zRf HO226 K223 (fun _ hk => trivial),zH HB⟩

/-! ### beaconref02_CheckId: function 58 -/
def beaconref02_CheckId.f (a0 : Int) : Option (Int) := if a0 < 1 then (some 20) else (if a0 > 2147483647 then (some 20) else (some 0))
set_option maxHeartbeats 8000000 in
set_option maxRecDepth 100000 in
theorem beaconref02_CheckId.calls (a0 : Int) (r : Int) (w : World) (h : beaconref02_CheckId.f a0 = some r) :
  Calls Try.prog 58 #[.int .i64 a0] w fun e w' => e = .returned (.int .i64 r) ∧ Drawn0 w w':=by
 have H : (if a0 < 1 then (some 20) else (if a0 > 2147483647 then (some 20) else (some 0))) = some r:=h;clear h;by_cases c2 : a0 < 1
 ·rw [if_pos c2] at H;have c2b0 : decide (a0 < 1) = true:=decide_eq_true c2;clear c2;obtain rfl:=Option.some.inj H;go_enter Try.func58,Try.ntmps58
  go_wp2
  go_ret
  exact ⟨by first|rfl|(simp;done)|(simp [*];done),by repeat (first|exact Drawn0.refl _|apply Drawn0.step)⟩
 ·rw [if_neg c2] at H;have c2b0 : decide (a0 < 1) = false:=decide_eq_false c2;clear c2;by_cases c3 : a0 > 2147483647
  ·rw [if_pos c3] at H;have c3b0 : decide (2147483647 < a0) = true:=decide_eq_true c3;clear c3;obtain rfl:=Option.some.inj H;go_enter Try.func58,Try.ntmps58
   go_wp2
   go_ret
   exact ⟨by first|rfl|(simp;done)|(simp [*];done),by repeat (first|exact Drawn0.refl _|apply Drawn0.step)⟩
  ·rw [if_neg c3] at H;have c3b0 : decide (2147483647 < a0) = false:=decide_eq_false c3;clear c3;obtain rfl:=Option.some.inj H;go_enter Try.func58,Try.ntmps58
   go_wp2
   go_ret
   exact ⟨by first|rfl|(simp;done)|(simp [*];done),by repeat (first|exact Drawn0.refl _|apply Drawn0.step)⟩

/-! ### beaconref17_before: function 72 -/
def beaconref17_before.f (a0_0 : Int) (a0_1 : Int) (a0_2 : Nat) (a0_3 : Int) (a0_4 : Nat) (a0_5 : Int) (a1_0 : Int) (a1_1 : Int) (a1_2 : Nat) (a1_3 : Int) (a1_4 : Nat) (a1_5 : Int) : Option (Bool) := if a0_1 < a1_1 then (some true) else (if a0_1 = a1_1 then (some (decide (a0_0 < a1_0))) else (some false))
set_option maxHeartbeats 8000000 in
set_option maxRecDepth 100000 in
theorem beaconref17_before.calls (a0_0 : Int) (a0_1 : Int) (a0_2 : Nat) (a0_3 : Int) (a0_4 : Nat) (a0_5 : Int) (a1_0 : Int) (a1_1 : Int) (a1_2 : Nat) (a1_3 : Int) (a1_4 : Nat) (a1_5 : Int) (r : Bool) (w : World) (h : beaconref17_before.f a0_0 a0_1 a0_2 a0_3 a0_4 a0_5 a1_0 a1_1 a1_2 a1_3 a1_4 a1_5 = some r) :
  Calls Try.prog 72 #[.agg #[.int .i64 a0_0,.int .i64 a0_1,.float .f64 a0_2,.int .i64 a0_3,.float .f64 a0_4,.int .i64 a0_5],.agg #[.int .i64 a1_0,.int .i64 a1_1,.float .f64 a1_2,.int .i64 a1_3,.float .f64 a1_4,.int .i64 a1_5]] w fun e w' => e = .returned (.bool r) ∧ Below w.heap.size w w':=by
 have hu39:=Try.underlying39;have HB:=zA (Below.refl w.heap.size w);have H : (if a0_1 < a1_1 then (some true) else (if a0_1 = a1_1 then (some (decide (a0_0 < a1_0))) else (some false))) = some r:=h;clear h;by_cases c3 : a0_1 < a1_1
 ·rw [if_pos c3] at H;have c3b0 : decide (a0_1 < a1_1) = true:=decide_eq_true c3;clear c3;obtain rfl:=Option.some.inj H;go_enter Try.func72,Try.ntmps72
  go_wp2_with (first|((with_reducible refine gate_dst (N:=2) rfl ?_);refine zb (N:=2) (cs:=#[.int .i64 a0_0,.int .i64 a0_1,.float .f64 a0_2,.int .i64 a0_3,.float .f64 a0_4,.int .i64 a0_5]) (t:=39) ?_;intro G227 hg w4 hbox hb;have K227:=zA (hbox);have GW227:=zN HB hg;have GE227:=zN HB hg;replace HB:=zS HB hb;clear hb hbox hg)|((with_reducible refine gate_dst (N:=3) rfl ?_);refine zb (N:=3) (cs:=#[.int .i64 a1_0,.int .i64 a1_1,.float .f64 a1_2,.int .i64 a1_3,.float .f64 a1_4,.int .i64 a1_5]) (t:=39) ?_;intro G228 hg w5 hbox hb;have K228:=zA (hbox);have GW228:=zN HB hg;have GE228:=zN HB hg;replace HB:=zS HB hb;have NB227_228:=zL K227 hg;have NB228_227:=zG K227 hg;replace K227:=zB K227 hb;clear hb hbox hg;have:=NB227_228.1;have:=NB228_227.1;obtain ⟨_,_,_,_,_,_,_,_,_,_,_,_⟩:=zc6 K227;obtain ⟨_,_,_,_,_,_,_,_,_,_,_,_⟩:=zc6 K228))
  go_ret
  exact ⟨zE,zH HB⟩
 ·rw [if_neg c3] at H;have c3b0 : decide (a0_1 < a1_1) = false:=decide_eq_false c3;clear c3;by_cases c9 : a0_1 = a1_1
  ·rw [if_pos c9] at H;have c9b0 : (a0_1 == a1_1) = true:=beq_iff_eq.mpr c9;have c9b1 : (a0_1 != a1_1) = false:=bne_eq_false_iff_eq.mpr c9;clear c9;obtain rfl:=Option.some.inj H;go_enter Try.func72,Try.ntmps72
   go_wp2_with (first|((with_reducible refine gate_dst (N:=2) rfl ?_);refine zb (N:=2) (cs:=#[.int .i64 a0_0,.int .i64 a0_1,.float .f64 a0_2,.int .i64 a0_3,.float .f64 a0_4,.int .i64 a0_5]) (t:=39) ?_;intro G227 hg w10 hbox hb;have K227:=zA (hbox);have GW227:=zN HB hg;have GE227:=zN HB hg;replace HB:=zS HB hb;clear hb hbox hg)|((with_reducible refine gate_dst (N:=3) rfl ?_);refine zb (N:=3) (cs:=#[.int .i64 a1_0,.int .i64 a1_1,.float .f64 a1_2,.int .i64 a1_3,.float .f64 a1_4,.int .i64 a1_5]) (t:=39) ?_;intro G228 hg w11 hbox hb;have K228:=zA (hbox);have GW228:=zN HB hg;have GE228:=zN HB hg;replace HB:=zS HB hb;have NB227_228:=zL K227 hg;have NB228_227:=zG K227 hg;replace K227:=zB K227 hb;clear hb hbox hg;have:=NB227_228.1;have:=NB228_227.1;obtain ⟨_,_,_,_,_,_,_,_,_,_,_,_⟩:=zc6 K227;obtain ⟨_,_,_,_,_,_,_,_,_,_,_,_⟩:=zc6 K228))
   go_ret
   exact ⟨zE,zH HB⟩
  ·rw [if_neg c9] at H;have c9b0 : (a0_1 == a1_1) = false:=beq_eq_false_iff_ne.mpr c9;have c9b1 : (a0_1 != a1_1) = true:=bne_iff_ne.mpr c9;obtain rfl:=Option.some.inj H;go_enter Try.func72,Try.ntmps72
   go_wp2_with (first|((with_reducible refine gate_dst (N:=2) rfl ?_);refine zb (N:=2) (cs:=#[.int .i64 a0_0,.int .i64 a0_1,.float .f64 a0_2,.int .i64 a0_3,.float .f64 a0_4,.int .i64 a0_5]) (t:=39) ?_;intro G227 hg w15 hbox hb;have K227:=zA (hbox);have GW227:=zN HB hg;have GE227:=zN HB hg;replace HB:=zS HB hb;clear hb hbox hg)|((with_reducible refine gate_dst (N:=3) rfl ?_);refine zb (N:=3) (cs:=#[.int .i64 a1_0,.int .i64 a1_1,.float .f64 a1_2,.int .i64 a1_3,.float .f64 a1_4,.int .i64 a1_5]) (t:=39) ?_;intro G228 hg w16 hbox hb;have K228:=zA (hbox);have GW228:=zN HB hg;have GE228:=zN HB hg;replace HB:=zS HB hb;have NB227_228:=zL K227 hg;have NB228_227:=zG K227 hg;replace K227:=zB K227 hb;clear hb hbox hg;have:=NB227_228.1;have:=NB228_227.1;obtain ⟨_,_,_,_,_,_,_,_,_,_,_,_⟩:=zc6 K227;obtain ⟨_,_,_,_,_,_,_,_,_,_,_,_⟩:=zc6 K228))
   go_ret
   exact ⟨zE,zH HB⟩

end Go.Proofs.Ytgmjlhpigfaicaa.XF
