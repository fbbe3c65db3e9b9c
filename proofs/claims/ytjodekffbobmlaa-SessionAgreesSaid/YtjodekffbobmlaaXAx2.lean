/- Go functions of this seat as Lean functions, with proofs that the calls come to them. (Written by xprint.py, a program of this session, over the kit's print.) -/
import Derived.Test.YtjodekffbobmlaaXAx0
import Derived.Test.YtjodekffbobmlaaXAx1
namespace Go.Proofs.Ytjodekffbobmlaa.XA
open Go.RowKit Go.Proofs.YtjodekffbobmlaaW.PrintWords Go.Proofs.YtjodekffbobmlaaW.PrintLast Go.Proofs.YtjodekffbobmlaaW.PrintMore
attribute [local go_sem] max2_int min2_int max_two min_two max_three min_three max_four min_four   -- for this text's walks alone
set_option linter.unusedVariables false
set_option linter.unusedSimpArgs false
open List renaming setIfInBounds_toArray → xA, set_cons_zero → xB, set_cons_succ → xC
open Go.Proofs.YtjodekffbobmlaaW.PrintWords renaming blk_drewN → bN, blk_drew → bD, blk_alloc → bA, below_set → bS, blk_frozen → bF, blk_cell → bC, cell_far → cF, blk_far → bZ, blk_below → bB, pw_below_drewN → bwN, below_drew1 → bw1, below_alloc → bwA
open Go.Proofs.YtjodekffbobmlaaW.PrintZ
open Bool renaming true → T,false → F

/-! ### session_Accept: function 15 -/
def session_Accept.j0 : Nat → Bool → Int → Int → Bool → Int → Option (Int × Int × Bool × Int × Bool × Bool)
 | 0, _, _, _, _, _ => none
 | k + 1, x22, x139000, x139001, x139002, x139003 => if x22 = true then (some (x139000, x139001, x139002, x139003, false, false)) else ((session_heard.f x139000 x139001 x139002 0).bind fun bt140 => (some (bt140.1, bt140.2.1, bt140.2.2.1, bt140.2.2.2.1, true, bt140.2.2.2.2)))
def session_Accept.f (k : Nat) (a0_0 : Int) (a0_1 : Int) (a0_2 : Bool) (a0_3 : Int) (a1 : Int) (a2 : Int) : Option (Int × Int × Bool × Int × Bool × Bool) := if a1 = 0 then (session_Accept.j0 k true a0_0 a0_1 a0_2 a0_3) else (if a1 = a0_1 then (session_Accept.j0 k (a2 != a0_0) a0_0 a0_1 a0_2 a0_3) else (session_Accept.j0 k true a0_0 a0_1 a0_2 a0_3))
theorem session_Accept.mono_l : ∀ k, (∀ y0 y1 y2 y3 y4, LeO (session_Accept.j0 k y0 y1 y2 y3 y4) (session_Accept.j0 (k + 1) y0 y1 y2 y3 y4))
 | 0 => fun _ _ _ _ _ r h => by simp [session_Accept.j0] at h
 | k + 1 => by
  have ih0:=session_Accept.mono_l k
  ·intro y0 y1 y2 y3 y4
   unfold session_Accept.j0
   repeat' first
   | (with_reducible exact ih0 _ _ _ _ _)
   | (with_reducible exact LeO.refl _)
   | (with_reducible exact LeO.none _)
   | (with_reducible refine LeO.ite ?_ ?_)
   | (with_reducible refine LeO.bind ?_ (fun _ => ?_))
   | exact ih0 _ _ _ _ _
   | exact LeO.none _
   | refine LeO.ite ?_ ?_
   | refine LeO.bind ?_ (fun _ => ?_)
theorem session_Accept.mono : ∀ a0 a1 a2 a3 a4 a5 k, LeO (session_Accept.f k a0 a1 a2 a3 a4 a5) (session_Accept.f (k + 1) a0 a1 a2 a3 a4 a5) := by
 intro a0 a1 a2 a3 a4 a5 k
 have ih0:=session_Accept.mono_l k
 unfold session_Accept.f
 repeat' first
   | (with_reducible exact ih0 _ _ _ _ _)
   | (with_reducible exact LeO.refl _)
   | (with_reducible exact LeO.none _)
   | (with_reducible refine LeO.ite ?_ ?_)
   | (with_reducible refine LeO.bind ?_ (fun _ => ?_))
   | exact ih0 _ _ _ _ _
   | exact LeO.none _
   | refine LeO.ite ?_ ?_
   | refine LeO.bind ?_ (fun _ => ?_)
set_option maxHeartbeats 8000000 in
set_option maxRecDepth 100000 in
theorem session_Accept.calls (k : Nat) (a0_0 : Int) (a0_1 : Int) (a0_2 : Bool) (a0_3 : Int) (a1 : Int) (a2 : Int) (r1 : Int) (r2 : Int) (r3 : Bool) (r4 : Int) (r5 : Bool) (r6 : Bool) (w : World) (h : session_Accept.f k a0_0 a0_1 a0_2 a0_3 a1 a2 = some (r1, r2, r3, r4, r5, r6)) :
  Calls Try.prog 15 #[.agg #[.int .u64 a0_0,.int .u64 a0_1,.bool a0_2,.int .i64 a0_3],.int .u64 a1,.int .u64 a2] w fun e w' => e = .returned (.tuple #[.agg #[.int .u64 r1,.int .u64 r2,.bool r3,.int .i64 r4],.bool r5,.bool r6]) ∧ Below w.heap.size w w':=by
 have hu26:=Try.underlying26
 have HB:=zA (Below.refl w.heap.size w)
 have H : (if a1 = 0 then (session_Accept.j0 k true a0_0 a0_1 a0_2 a0_3) else (if a1 = a0_1 then (session_Accept.j0 k (a2 != a0_0) a0_0 a0_1 a0_2 a0_3) else (session_Accept.j0 k true a0_0 a0_1 a0_2 a0_3))) = some (r1,r2,r3,r4,r5,r6):=h
 clear h
 have HC4:=zA H
 clear H
 go_enter Try.func15,Try.ntmps15
 go_upto_region 1 with (first|((with_reducible refine gate_dst (N:=3) rfl ?_);refine zb (N:=3) (cs:=#[.int .u64 a0_0,.int .u64 a0_1,.bool a0_2,.int .i64 a0_3]) (t:=26) ?_;intro G138 hg w5 hbox hb;have K138:=zA (hbox);have GW138:=zN HB hg;have GE138:=zN HB hg;replace HB:=zS HB hb;clear hb hbox hg)|((with_reducible refine gate_dst (N:=6) rfl ?_);refine zb (N:=6) (cs:=#[.int .u64 0,.int .u64 0,.bool false,.int .i64 0]) (t:=26) ?_;intro G139 hg w6 hbox hb;have K139:=zA (hbox);have GW139:=zN HB hg;have GE139:=zN HB hg;replace HB:=zS HB hb;have NB138_139:=zL K138 hg;have NB139_138:=zG K138 hg;replace K138:=zB K138 hb;clear hb hbox hg))
 (try simp only [Act.put,xA,xB,xC])
 go_cut [22] (fun v22 wc => ∃ (kq : Nat) (x22_3 : Bool),v22 = .bool x22_3 ∧ Aside0 (session_Accept.j0 kq x22_3 a0_0 a0_1 a0_2 a0_3 = some (r1,r2,r3,r4,r5,r6)) ∧ Aside0 (kq ≤ k) ∧ Aside0 (wc.heap[G138]? = some (.cells #[.int .u64 a0_0,.int .u64 a0_1,.bool a0_2,.int .i64 a0_3] 26 (0,0))) ∧ Aside0 (wc.heap[G139]? = some (.cells #[.int .u64 0,.int .u64 0,.bool false,.int .i64 0] 26 (0,0))) ∧ Aside0 (Below w.heap.size w wc))
 case first =>
  have H:=HC4.out
  clear HC4
  by_cases c7 : a1 = 0
  ·rw [if_pos c7] at H
   have c7b0 : (a1 == 0) = true:=beq_iff_eq.mpr c7
   have c7b1 : (a1 != 0) = false:=bne_eq_false_iff_eq.mpr c7
   clear c7
   (first|rw [c7b0]|(simp only [i64_w,i32_w];rw [c7b0])|skip)
   have H':=zA H
   clear H
   go_wp2
   go_meet
   case rel => exact ⟨_,(true),ze,H',⟨zo⟩,⟨z1 K138.1⟩,⟨z1 K139.1⟩,⟨zH HB⟩⟩
  rw [if_neg c7] at H
  have c7b0 : (a1 == 0) = false:=beq_eq_false_iff_ne.mpr c7
  have c7b1 : (a1 != 0) = true:=bne_iff_ne.mpr c7
  (first|rw [c7b0]|(simp only [i64_w,i32_w];rw [c7b0])|skip)
  by_cases c8 : a1 = a0_1
  ·rw [if_pos c8] at H
   have c8b0 : (a1 == a0_1) = true:=beq_iff_eq.mpr c8
   have c8b1 : (a1 != a0_1) = false:=bne_eq_false_iff_eq.mpr c8
   clear c8
   have H':=zA H
   clear H
   have:=NB138_139.1
   have:=NB139_138.1
   obtain ⟨hcz10_0,hcz10_1,hcz10_2,hcz10_3,hfz10_0,hfz10_1,hfz10_2,hfz10_3⟩:=zc4 K138
   go_wp2
   go_meet
   case rel => exact ⟨_,((a2 != a0_0)),ze,H',⟨zo⟩,⟨z1 K138.1⟩,⟨z1 K139.1⟩,⟨zH HB⟩⟩
  rw [if_neg c8] at H
  have c8b0 : (a1 == a0_1) = false:=beq_eq_false_iff_ne.mpr c8
  have c8b1 : (a1 != a0_1) = true:=bne_iff_ne.mpr c8
  have H':=zA H
  clear H
  have:=NB138_139.1
  have:=NB139_138.1
  obtain ⟨hcz12_0,hcz12_1,hcz12_2,hcz12_3,hfz12_0,hfz12_1,hfz12_2,hfz12_3⟩:=zc4 K138
  go_wp2
  go_meet
  case rel => exact ⟨_,(true),ze,H',⟨zo⟩,⟨z1 K138.1⟩,⟨z1 K139.1⟩,⟨zH HB⟩⟩
 clear HC4
 obtain ⟨kq,x22_3,rfl,HA,HJ3,K138,K139,HB⟩:=hcut
 cases kq with
 | zero => exact absurd HA.out (by simp [session_Accept.j0])
 | succ kj3 => ?_
 have H:=HA.out
 clear HA
 simp only [session_Accept.j0] at H
 by_cases c13 : x22_3 = true
 ·subst c13
  rw [if_pos rfl] at H
  simp only [Option.some.injEq,Prod.mk.injEq] at H
  obtain ⟨rfl,rfl,rfl,rfl,rfl,rfl⟩:=H
  have:=NB138_139.1
  have:=NB139_138.1
  obtain ⟨hcz15_0,hcz15_1,hcz15_2,hcz15_3,hfz15_0,hfz15_1,hfz15_2,hfz15_3⟩:=zc4 K138
  obtain ⟨hcz16_0,hcz16_1,hcz16_2,hcz16_3,hfz16_0,hfz16_1,hfz16_2,hfz16_3⟩:=zc4 K139
  go_wp2_with (first|((with_reducible refine gate_store (t:=26) (p:=6) rfl ?_);refine store_event (t:=26) (p:=6) (v:=?vo_w17) (w1:=((((wc.setCell ⟨G139,0,none⟩ (.int .u64 a0_0)).setCell ⟨G139,1,none⟩ (.int .u64 a0_1)).setCell ⟨G139,2,none⟩ (.bool a0_2)).setCell ⟨G139,3,none⟩ (.int .i64 a0_3))) ?hg ?ho ?hn ?hr ?_;(case ho => rfl);(case hg => rfl);(case hn => rfl);(case hr => first|(go_simp;done)|(go_simp;rfl));intro w17 hw;replace K138:=zV hw K138;replace K139:=zVp hw (.cells #[.int .u64 a0_0,.int .u64 a0_1,.bool a0_2,.int .i64 a0_3] 26 (0,0)) K139;replace HB:=zU hw HB;clear hw))
  refine bodyPost_ret (results_ctt rfl _ _ G139 26 #[.int .u64 a0_0,.int .u64 a0_1,.bool a0_2,.int .i64 a0_3] (0,0) _ rfl (zF K139) Try.underlying26 rfl (by kernel_rfl)) rfl ?_
  exact ⟨zE,zH HB⟩
 replace c13:=Bool.eq_false_iff.mpr c13
 subst c13
 rw [if_neg (show ¬ (false = true) by decide)] at H
 replace H:=Option.bind_eq_some_iff.mp H
 obtain ⟨⟨t140,t141,t142,t143,t144⟩,A180,H⟩:=H
 (try dsimp only at H)
 have A18:=zA A180
 clear A180
 simp only [Option.some.injEq,Prod.mk.injEq] at H
 obtain ⟨rfl,rfl,rfl,rfl,rfl,rfl⟩:=H
 have:=NB138_139.1
 have:=NB139_138.1
 obtain ⟨hcz20_0,hcz20_1,hcz20_2,hcz20_3,hfz20_0,hfz20_1,hfz20_2,hfz20_3⟩:=zc4 K138
 go_wp2_with (first|((with_reducible refine gate_callee (f:=27) rfl ?_);refine zg (some 27) Try.func27 #[.agg #[.int .u64 a0_0,.int .u64 a0_1,.bool a0_2,.int .i64 0]] ?_;(with_reducible refine (session_heard.calls a0_0 a0_1 a0_2 0 t140 t141 t142 t143 t144 _ A18.out).mono ?_);rintro e w21 ⟨rfl,hb⟩;refine ⟨_,rfl,?_⟩;replace K138:=zBp (.cells #[.int .u64 a0_0,.int .u64 a0_1,.bool a0_2,.int .i64 0] 26 (0,0)) K138 hb;replace K139:=zBf K139 hb;replace HB:=zS HB hb;(try clear hb);obtain ⟨hcz22_0,hcz22_1,hcz22_2,hcz22_3,hfz22_0,hfz22_1,hfz22_2,hfz22_3⟩:=zc4 K138)|((with_reducible refine gate_store (t:=26) (p:=3) rfl ?_);refine store_event (t:=26) (p:=3) (v:=?vo_w23) (w1:=((((w21.setCell ⟨G138,0,none⟩ (.int .u64 t140)).setCell ⟨G138,1,none⟩ (.int .u64 t141)).setCell ⟨G138,2,none⟩ (.bool t142)).setCell ⟨G138,3,none⟩ (.int .i64 t143))) ?hg ?ho ?hn ?hr ?_;(case ho => rfl);(case hg => rfl);(case hn => rfl);(case hr => first|(go_simp;done)|(go_simp;rfl));intro w23 hw;replace K138:=zVp hw (.cells #[.int .u64 t140,.int .u64 t141,.bool t142,.int .i64 t143] 26 (0,0)) K138;replace K139:=zV hw K139;replace HB:=zU hw HB;clear hw;obtain ⟨hcz24_0,hcz24_1,hcz24_2,hcz24_3,hfz24_0,hfz24_1,hfz24_2,hfz24_3⟩:=zc4 K138;obtain ⟨hcz25_0,hcz25_1,hcz25_2,hcz25_3,hfz25_0,hfz25_1,hfz25_2,hfz25_3⟩:=zc4 K139)|((with_reducible refine gate_store (t:=26) (p:=6) rfl ?_);refine store_event (t:=26) (p:=6) (v:=?vo_w26) (w1:=((((w23.setCell ⟨G139,0,none⟩ (.int .u64 t140)).setCell ⟨G139,1,none⟩ (.int .u64 t141)).setCell ⟨G139,2,none⟩ (.bool t142)).setCell ⟨G139,3,none⟩ (.int .i64 t143))) ?hg ?ho ?hn ?hr ?_;(case ho => rfl);(case hg => rfl);(case hn => rfl);(case hr => first|(go_simp;done)|(go_simp;rfl));intro w26 hw;replace K138:=zV hw K138;replace K139:=zVp hw (.cells #[.int .u64 t140,.int .u64 t141,.bool t142,.int .i64 t143] 26 (0,0)) K139;replace HB:=zU hw HB;clear hw))
 refine bodyPost_ret (results_ctt rfl _ _ G139 26 #[.int .u64 t140,.int .u64 t141,.bool t142,.int .i64 t143] (0,0) _ rfl (zF K139) Try.underlying26 rfl (by kernel_rfl)) rfl ?_
 exact ⟨zE,zH HB⟩

/-! ### beaconlaw12_heard: function 21 -/
mutual
def beaconlaw12_heard.l0 : Nat → List (S50) → Int → Int → Int → Int → Bool → Int → Option (Bool)
 | 0, _, _, _, _, _, _, _ => none
 | k + 1, x0, x1, x7, x146000, x146001, x146002, x146003 => if x7 < (x0.length : Int) then (if 0 ≤ x7 then (if ((rd_T50 x0 x7).f0) = x1 then (beaconlaw12_heard.j1 k x0 x1 x7 false x146000 x146001 x146002 x146003) else (if ((rd_T50 x0 x7).f1) = x146001 then (beaconlaw12_heard.j1 k x0 x1 x7 (((rd_T50 x0 x7).f2) == x146000) x146000 x146001 x146002 x146003) else (beaconlaw12_heard.j1 k x0 x1 x7 false x146000 x146001 x146002 x146003))) else (none)) else (some false)
def beaconlaw12_heard.j1 : Nat → List (S50) → Int → Int → Bool → Int → Int → Bool → Int → Option (Bool)
 | 0, _, _, _, _, _, _, _, _ => none
 | k + 1, x0, x1, x7, x40, x146000, x146001, x146002, x146003 => if x40 = true then (some true) else (beaconlaw12_heard.l0 k x0 x1 (wrap64 (x7 + 1)) x146000 x146001 x146002 x146003)
end
def beaconlaw12_heard.f (k : Nat) (l0 : List (S50)) (a1 : Int) (a2_0 : Int) (a2_1 : Int) (a2_2 : Bool) (a2_3 : Int) : Option (Bool) := beaconlaw12_heard.l0 k l0 a1 0 a2_0 a2_1 a2_2 a2_3
theorem beaconlaw12_heard.mono_l : ∀ k, (∀ y0 y1 y2 y3 y4 y5 y6, LeO (beaconlaw12_heard.l0 k y0 y1 y2 y3 y4 y5 y6) (beaconlaw12_heard.l0 (k + 1) y0 y1 y2 y3 y4 y5 y6)) ∧ (∀ y0 y1 y2 y3 y4 y5 y6 y7, LeO (beaconlaw12_heard.j1 k y0 y1 y2 y3 y4 y5 y6 y7) (beaconlaw12_heard.j1 (k + 1) y0 y1 y2 y3 y4 y5 y6 y7))
 | 0 => ⟨fun _ _ _ _ _ _ _ r h => by simp [beaconlaw12_heard.l0] at h, fun _ _ _ _ _ _ _ _ r h => by simp [beaconlaw12_heard.j1] at h⟩
 | k + 1 => by
  obtain ⟨ih0,ih1⟩:=beaconlaw12_heard.mono_l k
  refine ⟨?_,?_⟩
  ·intro y0 y1 y2 y3 y4 y5 y6
   unfold beaconlaw12_heard.l0
   repeat' first
   | (with_reducible exact ih0 _ _ _ _ _ _ _)
   | (with_reducible exact ih1 _ _ _ _ _ _ _ _)
   | (with_reducible exact LeO.refl _)
   | (with_reducible exact LeO.none _)
   | (with_reducible refine LeO.ite ?_ ?_)
   | (with_reducible refine LeO.bind ?_ (fun _ => ?_))
   | exact ih0 _ _ _ _ _ _ _
   | exact ih1 _ _ _ _ _ _ _ _
   | exact LeO.none _
   | refine LeO.ite ?_ ?_
   | refine LeO.bind ?_ (fun _ => ?_)
  intro y0 y1 y2 y3 y4 y5 y6 y7
  unfold beaconlaw12_heard.j1
  repeat' first
  | (with_reducible exact ih0 _ _ _ _ _ _ _)
  | (with_reducible exact ih1 _ _ _ _ _ _ _ _)
  | (with_reducible exact LeO.refl _)
  | (with_reducible exact LeO.none _)
  | (with_reducible refine LeO.ite ?_ ?_)
  | (with_reducible refine LeO.bind ?_ (fun _ => ?_))
  | exact ih0 _ _ _ _ _ _ _
  | exact ih1 _ _ _ _ _ _ _ _
  | exact LeO.none _
  | refine LeO.ite ?_ ?_
  | refine LeO.bind ?_ (fun _ => ?_)
theorem beaconlaw12_heard.mono : ∀ a0 a1 a2 a3 a4 a5 k, LeO (beaconlaw12_heard.f k a0 a1 a2 a3 a4 a5) (beaconlaw12_heard.f (k + 1) a0 a1 a2 a3 a4 a5) := by
 intro a0 a1 a2 a3 a4 a5 k
 obtain ⟨ih0,ih1⟩:=beaconlaw12_heard.mono_l k
 unfold beaconlaw12_heard.f
 repeat' first
   | (with_reducible exact ih0 _ _ _ _ _ _ _)
   | (with_reducible exact ih1 _ _ _ _ _ _ _ _)
   | (with_reducible exact LeO.refl _)
   | (with_reducible exact LeO.none _)
   | (with_reducible refine LeO.ite ?_ ?_)
   | (with_reducible refine LeO.bind ?_ (fun _ => ?_))
   | exact ih0 _ _ _ _ _ _ _
   | exact ih1 _ _ _ _ _ _ _ _
   | exact LeO.none _
   | refine LeO.ite ?_ ?_
   | refine LeO.bind ?_ (fun _ => ?_)
set_option maxHeartbeats 8000000 in
set_option maxRecDepth 100000 in
theorem beaconlaw12_heard.calls (k : Nat) (A0 : Option Addr) (c0 : Nat) (l0 : List (S50)) (a1 : Int) (a2_0 : Int) (a2_1 : Int) (a2_2 : Bool) (a2_3 : Int) (r : Bool) (w : World) (hr0 : Kd.C k50 w A0 l0.length l0) (hc0 : l0.length ≤ c0) (h : beaconlaw12_heard.f k l0 a1 a2_0 a2_1 a2_2 a2_3 = some r) :
  Calls Try.prog 21 #[.slice A0 l0.length c0,.int .i64 a1,.agg #[.int .u64 a2_0,.int .u64 a2_1,.bool a2_2,.int .i64 a2_3]] w fun e w' => e = .returned (.bool r) ∧ Below w.heap.size w w':=by
 have hu26:=Try.underlying26
 have HR0:=zA hr0
 have HC0:=zA hc0
 clear hr0 hc0
 have HB:=zA (Below.refl w.heap.size w)
 have H : (beaconlaw12_heard.l0 k l0 a1 0 a2_0 a2_1 a2_2 a2_3) = some r:=h
 clear h
 have H':=zA H
 clear H
 go_enter Try.func21,Try.ntmps21
 go_wp2_with (first|((with_reducible refine gate_dst (N:=5) rfl ?_);refine zb (N:=5) (cs:=#[.int .u64 a2_0,.int .u64 a2_1,.bool a2_2,.int .i64 a2_3]) (t:=26) ?_;intro G145 hg w4 hbox hb;have K145:=zA (hbox);have GW145:=zN HB hg;have GE145:=zN HB hg;replace HB:=zS HB hb;clear hb hbox hg))
 repeat (go_quiet (first|((with_reducible refine gate_dst (N:=5) rfl ?_);refine zb (N:=5) (cs:=#[.int .u64 a2_0,.int .u64 a2_1,.bool a2_2,.int .i64 a2_3]) (t:=26) ?_;intro G145 hg w4 hbox hb;have K145:=zA (hbox);have GW145:=zN HB hg;have GE145:=zN HB hg;replace HB:=zS HB hb;clear hb hbox hg));try go_wp2_with (first|((with_reducible refine gate_dst (N:=5) rfl ?_);refine zb (N:=5) (cs:=#[.int .u64 a2_0,.int .u64 a2_1,.bool a2_2,.int .i64 a2_3]) (t:=26) ?_;intro G145 hg w4 hbox hb;have K145:=zA (hbox);have GW145:=zN HB hg;have GE145:=zN HB hg;replace HB:=zS HB hb;clear hb hbox hg)))
 go_loopg [7] k (fun kq v7 w' => ∃ (x7_1 : Int),v7 = .int .i64 x7_1 ∧ Aside0 (beaconlaw12_heard.l0 kq l0 a1 x7_1 a2_0 a2_1 a2_2 a2_3 = some r) ∧ Aside0 (kq ≤ k) ∧ Aside0 (w'.heap[G145]? = some (.cells #[.int .u64 a2_0,.int .u64 a2_1,.bool a2_2,.int .i64 a2_3] 26 (0,0))) ∧ Aside0 (Below w.heap.size w w'))
 case atStart => exact ⟨(0),ze,H',⟨Nat.le_refl _⟩,⟨z1 K145.1⟩,⟨zH HB⟩⟩
 clear H'
 obtain ⟨x7_1,rfl,HA,HK1,K145,HB⟩:=hrel
 cases gk with
 | zero => exact absurd HA.out (by simp [beaconlaw12_heard.l0])
 | succ k1 => ?_
 have H:=HA.out
 clear HA
 simp only [beaconlaw12_heard.l0] at H
 by_cases c5 : x7_1 < (l0.length : Int)
 ·rw [if_pos c5] at H
  have c5b0 : decide (x7_1 < (l0.length : Int)) = true:=decide_eq_true c5
  clear c5
  have HC6:=zA H
  clear H
  go_upto_region 4 with (fail)
  repeat (go_quiet (fail);go_upto_region 4 with (fail))
  go_cut [40] (fun v40 wc => ∃ (kq : Nat) (x40_5 : Bool),v40 = .bool x40_5 ∧ Aside0 (beaconlaw12_heard.j1 kq l0 a1 x7_1 x40_5 a2_0 a2_1 a2_2 a2_3 = some r) ∧ Aside0 (kq ≤ k1) ∧ Aside0 (wc.heap[G145]? = some (.cells #[.int .u64 a2_0,.int .u64 a2_1,.bool a2_2,.int .i64 a2_3] 26 (0,0))) ∧ Aside0 (Below w.heap.size w wc))
  case first =>
   have H:=HC6.out
   clear HC6
   by_cases c7 : 0 ≤ x7_1
   ·rw [if_pos c7] at H
    have c7b0 : decide (0 ≤ x7_1) = true:=decide_eq_true c7
    clear c7
    (first|rw [c7b0]|(simp only [i64_w,i32_w];rw [c7b0])|skip)
    by_cases c8 : ((rd_T50 l0 x7_1).f0) = a1
    ·rw [if_pos c8] at H
     have c8b0 : (((rd_T50 l0 x7_1).f0) == a1) = true:=beq_iff_eq.mpr c8
     have c8b1 : (((rd_T50 l0 x7_1).f0) != a1) = false:=bne_eq_false_iff_eq.mpr c8
     clear c8
     have H':=zA H
     clear H
     have p146 : 0 ≤ (x7_1 : Int):=zd
     have q146 : x7_1 < (l0.length : Int):=zd
     obtain ⟨ad146,e146,hx146_0,hx146_1,hx146_2⟩:=at_T50 HR0.out x7_1 p146 q146
     cases e146
     replace hx146_0:=zh HB hx146_0
     replace hx146_1:=zh HB hx146_1
     replace hx146_2:=zh HB hx146_2
     replace p146:=eq_true p146
     replace q146:=eq_true q146
     go_wp2
     repeat (go_quiet (fail);try go_wp2)
     go_meet
     case rel => exact ⟨_,(false),ze,H',⟨by have:=HK1.out;first|omega|exact Nat.le_refl _⟩,⟨z1 K145.1⟩,⟨zH HB⟩⟩
    rw [if_neg c8] at H
    have c8b0 : (((rd_T50 l0 x7_1).f0) == a1) = false:=beq_eq_false_iff_ne.mpr c8
    have c8b1 : (((rd_T50 l0 x7_1).f0) != a1) = true:=bne_iff_ne.mpr c8
    by_cases c9 : ((rd_T50 l0 x7_1).f1) = a2_1
    ·rw [if_pos c9] at H
     have c9b0 : (((rd_T50 l0 x7_1).f1) == a2_1) = true:=beq_iff_eq.mpr c9
     have c9b1 : (((rd_T50 l0 x7_1).f1) != a2_1) = false:=bne_eq_false_iff_eq.mpr c9
     clear c9
     have H':=zA H
     clear H
     have p146 : 0 ≤ (x7_1 : Int):=zd
     have q146 : x7_1 < (l0.length : Int):=zd
     obtain ⟨ad146,e146,hx146_0,hx146_1,hx146_2⟩:=at_T50 HR0.out x7_1 p146 q146
     cases e146
     replace hx146_0:=zh HB hx146_0
     replace hx146_1:=zh HB hx146_1
     replace hx146_2:=zh HB hx146_2
     replace p146:=eq_true p146
     replace q146:=eq_true q146
     have p147 : 0 ≤ (x7_1 : Int):=zd
     have q147 : x7_1 < (l0.length : Int):=zd
     obtain ⟨ad147,e147,hx147_0,hx147_1,hx147_2⟩:=at_T50 HR0.out x7_1 p147 q147
     obtain rfl : ad146 = ad147:=(by injection e147)
     replace hx147_0:=zh HB hx147_0
     replace hx147_1:=zh HB hx147_1
     replace hx147_2:=zh HB hx147_2
     replace p147:=eq_true p147
     replace q147:=eq_true q147
     obtain ⟨hcz10_0,hcz10_1,hcz10_2,hcz10_3,hfz10_0,hfz10_1,hfz10_2,hfz10_3⟩:=zc4 K145
     have p148 : 0 ≤ (x7_1 : Int):=zd
     have q148 : x7_1 < (l0.length : Int):=zd
     obtain ⟨ad148,e148,hx148_0,hx148_1,hx148_2⟩:=at_T50 HR0.out x7_1 p148 q148
     obtain rfl : ad146 = ad148:=(by injection e148)
     replace hx148_0:=zh HB hx148_0
     replace hx148_1:=zh HB hx148_1
     replace hx148_2:=zh HB hx148_2
     replace p148:=eq_true p148
     replace q148:=eq_true q148
     go_wp2
     repeat (go_quiet (fail);try go_wp2)
     go_meet
     case rel => exact ⟨_,((((rd_T50 l0 x7_1).f2) == a2_0)),ze,H',⟨by have:=HK1.out;first|omega|exact Nat.le_refl _⟩,⟨z1 K145.1⟩,⟨zH HB⟩⟩
    rw [if_neg c9] at H
    have c9b0 : (((rd_T50 l0 x7_1).f1) == a2_1) = false:=beq_eq_false_iff_ne.mpr c9
    have c9b1 : (((rd_T50 l0 x7_1).f1) != a2_1) = true:=bne_iff_ne.mpr c9
    have H':=zA H
    clear H
    have p146 : 0 ≤ (x7_1 : Int):=zd
    have q146 : x7_1 < (l0.length : Int):=zd
    obtain ⟨ad146,e146,hx146_0,hx146_1,hx146_2⟩:=at_T50 HR0.out x7_1 p146 q146
    cases e146
    replace hx146_0:=zh HB hx146_0
    replace hx146_1:=zh HB hx146_1
    replace hx146_2:=zh HB hx146_2
    replace p146:=eq_true p146
    replace q146:=eq_true q146
    have p147 : 0 ≤ (x7_1 : Int):=zd
    have q147 : x7_1 < (l0.length : Int):=zd
    obtain ⟨ad147,e147,hx147_0,hx147_1,hx147_2⟩:=at_T50 HR0.out x7_1 p147 q147
    obtain rfl : ad146 = ad147:=(by injection e147)
    replace hx147_0:=zh HB hx147_0
    replace hx147_1:=zh HB hx147_1
    replace hx147_2:=zh HB hx147_2
    replace p147:=eq_true p147
    replace q147:=eq_true q147
    obtain ⟨hcz11_0,hcz11_1,hcz11_2,hcz11_3,hfz11_0,hfz11_1,hfz11_2,hfz11_3⟩:=zc4 K145
    go_wp2
    repeat (go_quiet (fail);try go_wp2)
    go_meet
    case rel => exact ⟨_,(false),ze,H',⟨by have:=HK1.out;first|omega|exact Nat.le_refl _⟩,⟨z1 K145.1⟩,⟨zH HB⟩⟩
   rw [if_neg c7] at H
   exact absurd H (by simp)
  clear HC6
  try clear c5;try clear c5b0
  obtain ⟨kq,x40_5,rfl,HA,HJ5,K145,HB⟩:=hcut
  cases kq with
  | zero => exact absurd HA.out (by simp [beaconlaw12_heard.j1])
  | succ kj5 => ?_
  have H:=HA.out
  clear HA
  simp only [beaconlaw12_heard.j1] at H
  by_cases c12 : x40_5 = true
  ·subst c12
   rw [if_pos rfl] at H
   obtain rfl:=Option.some.inj H
   go_wp2
   repeat (go_quiet (fail);try go_wp2)
   go_ret
   exact ⟨zE,zH HB⟩
  replace c12:=Bool.eq_false_iff.mpr c12
  subst c12
  rw [if_neg (show ¬ (false = true) by decide)] at H
  have H':=zA H
  clear H
  go_wp2
  repeat (go_quiet (fail);try go_wp2)
  go_roundg kj5
  case measure => have:=HK1.out;have:=HJ5.out;omega
  case rel => exact ⟨(wrap64 (x7_1 + 1)),ze,H',⟨by have:=HK1.out;have:=HJ5.out;omega⟩,⟨z1 K145.1⟩,⟨zH HB⟩⟩
 rw [if_neg c5] at H
 have c5b0 : decide (x7_1 < (l0.length : Int)) = false:=decide_eq_false c5
 clear c5
 obtain rfl:=Option.some.inj H
 go_wp2
 repeat (go_quiet (fail);try go_wp2)
 go_ret
 exact ⟨zE,zH HB⟩

end Go.Proofs.Ytjodekffbobmlaa.XA
