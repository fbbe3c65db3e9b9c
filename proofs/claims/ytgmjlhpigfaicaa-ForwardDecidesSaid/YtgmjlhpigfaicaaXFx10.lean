/- Go functions of this seat as Lean functions, with proofs that the calls come to them. (Written by xprint.py, a program of this session, over the kit's print.) -/
import Derived.Test.YtgmjlhpigfaicaaXFx0
import Derived.Test.YtgmjlhpigfaicaaXFx2
import Derived.Test.YtgmjlhpigfaicaaXFx4
import Derived.Test.YtgmjlhpigfaicaaXFx9
namespace Go.Proofs.Ytgmjlhpigfaicaa.XF
open Go.RowKit Go.Proofs.YtgmjlhpigfaicaaW.PrintWords Go.Proofs.YtgmjlhpigfaicaaW.PrintLast Go.Proofs.YtgmjlhpigfaicaaW.PrintMore
attribute [local go_sem] max2_int min2_int max_two min_two max_three min_three max_four min_four   -- for this text's walks alone
set_option linter.unusedVariables false
set_option linter.unusedSimpArgs false
open List renaming setIfInBounds_toArray → xA, set_cons_zero → xB, set_cons_succ → xC
open Go.Proofs.YtgmjlhpigfaicaaW.PrintWords renaming blk_drewN → bN, blk_drew → bD, blk_alloc → bA, below_set → bS, blk_frozen → bF, blk_cell → bC, cell_far → cF, blk_far → bZ, blk_below → bB, pw_below_drewN → bwN, below_drew1 → bw1, below_alloc → bwA
open Go.Proofs.YtgmjlhpigfaicaaW.PrintZ
open Bool renaming true → T,false → F

/-! ### forward_road: function 78 -/
def forward_road.j0 : Nat → Bool → List (S39) → Bool → Int → Int → Int → Int → Int → Int → Int → Int → ByteArray → Int → Int → ByteArray → Option (Int × Int × Nat × Int × Nat × Int × Bool)
 | 0, _, _, _, _, _, _, _, _, _, _, _, _, _, _, _ => none
 | k + 1, x28, x171000, x171001, x172000, x172001, x172002, x172003, x172004, x172005, x172006, x172007, x172008, x172009, x172010, x172011 => if x28 = true then (some (0, 0, 0, 0, 0, 0, false)) else ((api_Entry.f k x171000 x172000 x172001 x172002 x172003 x172004 x172005 x172006 x172007 x172008 x172009 x172010 x172011).bind fun t181 => (if t181 < 0 then (some (0, 0, 0, 0, 0, 0, false)) else (if 0 ≤ t181 then (if t181 < (x171000.length : Int) then (some ((rd_T39 x171000 t181).f0, (rd_T39 x171000 t181).f1, (rd_T39 x171000 t181).f2, (rd_T39 x171000 t181).f3, (rd_T39 x171000 t181).f4, (rd_T39 x171000 t181).f5, true)) else (none)) else (none))))
def forward_road.f (k : Nat) (a0 : Int) (l1_0 : List (S39)) (a1_1 : Bool) (a2_0 : Int) (a2_1 : Int) (a2_2 : Int) (a2_3 : Int) (a2_4 : Int) (a2_5 : Int) (a2_6 : Int) (a2_7 : Int) (a2_8 : ByteArray) (a2_9 : Int) (a2_10 : Int) (a2_11 : ByteArray) : Option (Int × Int × Nat × Int × Nat × Int × Bool) := (table_Find.f k l1_0 a1_1 a2_3).bind fun bt173 => (if bt173.2.2.2.2.2.2 = true then (some (bt173.1, bt173.2.1, bt173.2.2.1, bt173.2.2.2.1, bt173.2.2.2.2.1, bt173.2.2.2.2.2.1, true)) else (if a2_4 = 0 then (forward_road.j0 k true l1_0 a1_1 a2_0 a2_1 a2_2 a2_3 a2_4 a2_5 a2_6 a2_7 a2_8 a2_9 a2_10 a2_11) else (forward_road.j0 k (a2_4 == a0) l1_0 a1_1 a2_0 a2_1 a2_2 a2_3 a2_4 a2_5 a2_6 a2_7 a2_8 a2_9 a2_10 a2_11)))
theorem forward_road.mono_l : ∀ k, (∀ y0 y1 y2 y3 y4 y5 y6 y7 y8 y9 y10 y11 y12 y13 y14, LeO (forward_road.j0 k y0 y1 y2 y3 y4 y5 y6 y7 y8 y9 y10 y11 y12 y13 y14) (forward_road.j0 (k + 1) y0 y1 y2 y3 y4 y5 y6 y7 y8 y9 y10 y11 y12 y13 y14))
 | 0 => fun _ _ _ _ _ _ _ _ _ _ _ _ _ _ _ r h => by simp [forward_road.j0] at h
 | k + 1 => by
  have ih0:=forward_road.mono_l k
  ·intro y0 y1 y2 y3 y4 y5 y6 y7 y8 y9 y10 y11 y12 y13 y14
   unfold forward_road.j0
   repeat' first
   | (with_reducible exact ih0 _ _ _ _ _ _ _ _ _ _ _ _ _ _ _)
   | (with_reducible exact api_Entry.mono _ _ _ _ _ _ _ _ _ _ _ _ _ _)
   | (with_reducible exact table_Find.mono _ _ _ _)
   | (with_reducible exact LeO.refl _)
   | (with_reducible exact LeO.none _)
   | (with_reducible refine LeO.ite ?_ ?_)
   | (with_reducible refine LeO.bind ?_ (fun _ => ?_))
   | exact ih0 _ _ _ _ _ _ _ _ _ _ _ _ _ _ _
   | exact api_Entry.mono _ _ _ _ _ _ _ _ _ _ _ _ _ _
   | exact table_Find.mono _ _ _ _
   | exact LeO.none _
   | refine LeO.ite ?_ ?_
   | refine LeO.bind ?_ (fun _ => ?_)
theorem forward_road.mono : ∀ a0 a1 a2 a3 a4 a5 a6 a7 a8 a9 a10 a11 a12 a13 a14 k, LeO (forward_road.f k a0 a1 a2 a3 a4 a5 a6 a7 a8 a9 a10 a11 a12 a13 a14) (forward_road.f (k + 1) a0 a1 a2 a3 a4 a5 a6 a7 a8 a9 a10 a11 a12 a13 a14) := by
 intro a0 a1 a2 a3 a4 a5 a6 a7 a8 a9 a10 a11 a12 a13 a14 k
 have ih0:=forward_road.mono_l k
 unfold forward_road.f
 repeat' first
   | (with_reducible exact ih0 _ _ _ _ _ _ _ _ _ _ _ _ _ _ _)
   | (with_reducible exact api_Entry.mono _ _ _ _ _ _ _ _ _ _ _ _ _ _)
   | (with_reducible exact table_Find.mono _ _ _ _)
   | (with_reducible exact LeO.refl _)
   | (with_reducible exact LeO.none _)
   | (with_reducible refine LeO.ite ?_ ?_)
   | (with_reducible refine LeO.bind ?_ (fun _ => ?_))
   | exact ih0 _ _ _ _ _ _ _ _ _ _ _ _ _ _ _
   | exact api_Entry.mono _ _ _ _ _ _ _ _ _ _ _ _ _ _
   | exact table_Find.mono _ _ _ _
   | exact LeO.none _
   | refine LeO.ite ?_ ?_
   | refine LeO.bind ?_ (fun _ => ?_)
set_option maxHeartbeats 8000000 in
set_option maxRecDepth 100000 in
theorem forward_road.calls (k : Nat) (a0 : Int) (A1_0 : Option Addr) (c1_0 : Nat) (l1_0 : List (S39)) (a1_1 : Bool) (a2_0 : Int) (a2_1 : Int) (a2_2 : Int) (a2_3 : Int) (a2_4 : Int) (a2_5 : Int) (a2_6 : Int) (a2_7 : Int) (a2_8 : ByteArray) (a2_9 : Int) (a2_10 : Int) (a2_11 : ByteArray) (r1 : Int) (r2 : Int) (r3 : Nat) (r4 : Int) (r5 : Nat) (r6 : Int) (r7 : Bool) (w : World) (hr1_0 : Kd.C k39 w A1_0 l1_0.length l1_0) (hc1_0 : l1_0.length ≤ c1_0) (h : forward_road.f k a0 l1_0 a1_1 a2_0 a2_1 a2_2 a2_3 a2_4 a2_5 a2_6 a2_7 a2_8 a2_9 a2_10 a2_11 = some (r1, r2, r3, r4, r5, r6, r7)) :
  Calls Try.prog 78 #[.int .i64 a0,.agg #[.slice A1_0 l1_0.length c1_0,.bool a1_1],.agg #[.int .i64 a2_0,.int .i64 a2_1,.int .i64 a2_2,.int .i64 a2_3,.int .i64 a2_4,.int .i64 a2_5,.int .u64 a2_6,.int .i64 a2_7,.string a2_8,.int .i64 a2_9,.int .i64 a2_10,.string a2_11]] w fun e w' => e = .returned (.tuple #[.agg #[.int .i64 r1,.int .i64 r2,.float .f64 r3,.int .i64 r4,.float .f64 r5,.int .i64 r6],.bool r7]) ∧ Below w.heap.size w w':=by
 have hu24:=Try.underlying24
 have hu48:=Try.underlying48
 have hu39:=Try.underlying39
 have HR1_0:=Aside0.mk hr1_0
 have HC1_0:=Aside0.mk hc1_0
 clear hr1_0 hc1_0
 have HB:=Aside0.mk (Below.refl w.heap.size w)
 have H : ((table_Find.f k l1_0 a1_1 a2_3).bind fun bt173 => (if bt173.2.2.2.2.2.2 = true then (some (bt173.1,bt173.2.1,bt173.2.2.1,bt173.2.2.2.1,bt173.2.2.2.2.1,bt173.2.2.2.2.2.1,true)) else (if a2_4 = 0 then (forward_road.j0 k true l1_0 a1_1 a2_0 a2_1 a2_2 a2_3 a2_4 a2_5 a2_6 a2_7 a2_8 a2_9 a2_10 a2_11) else (forward_road.j0 k (a2_4 == a0) l1_0 a1_1 a2_0 a2_1 a2_2 a2_3 a2_4 a2_5 a2_6 a2_7 a2_8 a2_9 a2_10 a2_11)))) = some (r1,r2,r3,r4,r5,r6,r7):=h
 clear h
 replace H:=Option.bind_eq_some_iff.mp H
 obtain ⟨⟨t173,t174,t175,t176,t177,t178,t179⟩,A40,H⟩:=H
 (try dsimp only at H)
 have A4:=Aside0.mk A40
 clear A40
 by_cases c5 : t179 = true
 ·subst c5
  rw [if_pos rfl] at H
  simp only [Option.some.injEq,Prod.mk.injEq] at H
  obtain ⟨rfl,rfl,rfl,rfl,rfl,rfl,rfl⟩:=H
  go_enter Try.func78,Try.ntmps78
  go_wp2_with (first|((with_reducible refine gate_dst (N:=4) rfl ?_);refine zb (N:=4) (cs:=#[.slice A1_0 l1_0.length c1_0,.bool a1_1]) (t:=24) ?_;intro G170 hg w6 hbox hb;have K170:=Aside0.mk (hbox);have GW170:=zN HB hg;have GE170:=zN HB hg;replace HB:=zS HB hb;clear hb hbox hg)|((with_reducible refine gate_dst (N:=5) rfl ?_);refine zb (N:=5) (cs:=#[.int .i64 a2_0,.int .i64 a2_1,.int .i64 a2_2,.int .i64 a2_3,.int .i64 a2_4,.int .i64 a2_5,.int .u64 a2_6,.int .i64 a2_7,.string a2_8,.int .i64 a2_9,.int .i64 a2_10,.string a2_11]) (t:=48) ?_;intro G171 hg w7 hbox hb;have K171:=Aside0.mk (hbox);have GW171:=zN HB hg;have GE171:=zN HB hg;replace HB:=zS HB hb;have NB170_171:=zL K170 hg;have NB171_170:=zG K170 hg;replace K170:=zB K170 hb;clear hb hbox hg)|((with_reducible refine gate_dst (N:=6) rfl ?_);refine zb (N:=6) (cs:=#[.int .i64 0,.int .i64 0,.float .f64 0,.int .i64 0,.float .f64 0,.int .i64 0]) (t:=39) ?_;intro G172 hg w8 hbox hb;have K172:=Aside0.mk (hbox);have GW172:=zN HB hg;have GE172:=zN HB hg;replace HB:=zS HB hb;have NB170_172:=zL K170 hg;have NB172_170:=zG K170 hg;replace K170:=zB K170 hb;have NB171_172:=zL K171 hg;have NB172_171:=zG K171 hg;replace K171:=zB K171 hb;clear hb hbox hg;have:=NB170_171.1;have:=NB171_170.1;have:=NB170_172.1;have:=NB172_170.1;obtain ⟨hcz11_0,hcz11_1,hfz11_0,hfz11_1⟩:=zc2 K170;have:=NB171_172.1;have:=NB172_171.1;obtain ⟨hcz13_0,hcz13_1,hcz13_2,hcz13_3,hcz13_4,hcz13_5,hcz13_6,hcz13_7,hcz13_8,hcz13_9,hcz13_10,hcz13_11,hfz13_0,hfz13_1,hfz13_2,hfz13_3,hfz13_4,hfz13_5,hfz13_6,hfz13_7,hfz13_8,hfz13_9,hfz13_10,hfz13_11⟩:=zc12 K171)|((with_reducible refine gate_callee (f:=23) rfl ?_);refine zg (some 15) Try.func23 #[.agg #[.slice A1_0 l1_0.length c1_0,.bool a1_1],.int .i64 a2_3] ?_;(with_reducible refine (table_Find.calls k _ _ l1_0 a1_1 a2_3 t173 t174 t175 t176 t177 t178 true _ ?side1 ?side2 A4.out).mono ?_);(case side1 => exact zC (Kd.C_below HR1_0.out HB.1));(case side2 => exact HC1_0.out);rintro e w14 ⟨rfl,hb⟩;refine ⟨_,rfl,?_⟩;replace K170:=zB K170 hb;replace K171:=zB K171 hb;replace K172:=zB K172 hb;replace HB:=zS HB hb;(try clear hb))|((with_reducible refine gate_dst (N:=8) rfl ?_);refine zb (N:=8) (cs:=#[.int .i64 0,.int .i64 0,.float .f64 0,.int .i64 0,.float .f64 0,.int .i64 0]) (t:=39) ?_;intro G180 hg w15 hbox hb;have K180:=Aside0.mk (hbox);have GW180:=zN HB hg;have GE180:=zN HB hg;replace HB:=zS HB hb;have NB170_180:=zL K170 hg;have NB180_170:=zG K170 hg;replace K170:=zB K170 hb;have NB171_180:=zL K171 hg;have NB180_171:=zG K171 hg;replace K171:=zB K171 hb;have NB172_180:=zL K172 hg;have NB180_172:=zG K172 hg;replace K172:=zB K172 hb;clear hb hbox hg;have:=NB180_170.1;have:=NB170_180.1;have:=NB180_171.1;have:=NB171_180.1;have:=NB180_172.1;have:=NB172_180.1;obtain ⟨hcz19_0,hcz19_1,hcz19_2,hcz19_3,hcz19_4,hcz19_5,hfz19_0,hfz19_1,hfz19_2,hfz19_3,hfz19_4,hfz19_5⟩:=zc6 K180)|((with_reducible refine gate_store (t:=39) (p:=8) rfl ?_);refine store_event (t:=39) (p:=8) (v:=?vo_w20) (w1:=((((((w15.setCell ⟨G180,0,none⟩ (.int .i64 t173)).setCell ⟨G180,1,none⟩ (.int .i64 t174)).setCell ⟨G180,2,none⟩ (.float .f64 t175)).setCell ⟨G180,3,none⟩ (.int .i64 t176)).setCell ⟨G180,4,none⟩ (.float .f64 t177)).setCell ⟨G180,5,none⟩ (.int .i64 t178))) ?hg ?ho ?hn ?hr ?_;(case ho => rfl);(case hg => rfl);(case hn => rfl);(case hr => first|(go_simp;done)|(go_simp;rfl));intro w20 hw;replace K170:=zV hw K170;replace K171:=zV hw K171;replace K172:=zV hw K172;replace K180:=zVp hw (.cells #[.int .i64 t173,.int .i64 t174,.float .f64 t175,.int .i64 t176,.float .f64 t177,.int .i64 t178] 39 (0,0)) K180;replace HB:=zU hw HB;clear hw;obtain ⟨hcz21_0,hcz21_1,hcz21_2,hcz21_3,hcz21_4,hcz21_5,hfz21_0,hfz21_1,hfz21_2,hfz21_3,hfz21_4,hfz21_5⟩:=zc6 K180;obtain ⟨hcz22_0,hcz22_1,hcz22_2,hcz22_3,hcz22_4,hcz22_5,hfz22_0,hfz22_1,hfz22_2,hfz22_3,hfz22_4,hfz22_5⟩:=zc6 K172)|((with_reducible refine gate_store (t:=39) (p:=6) rfl ?_);refine store_event (t:=39) (p:=6) (v:=?vo_w23) (w1:=((((((w20.setCell ⟨G172,0,none⟩ (.int .i64 t173)).setCell ⟨G172,1,none⟩ (.int .i64 t174)).setCell ⟨G172,2,none⟩ (.float .f64 t175)).setCell ⟨G172,3,none⟩ (.int .i64 t176)).setCell ⟨G172,4,none⟩ (.float .f64 t177)).setCell ⟨G172,5,none⟩ (.int .i64 t178))) ?hg ?ho ?hn ?hr ?_;(case ho => rfl);(case hg => rfl);(case hn => rfl);(case hr => first|(go_simp;done)|(go_simp;rfl));intro w23 hw;replace K170:=zV hw K170;replace K171:=zV hw K171;replace K172:=zVp hw (.cells #[.int .i64 t173,.int .i64 t174,.float .f64 t175,.int .i64 t176,.float .f64 t177,.int .i64 t178] 39 (0,0)) K172;replace K180:=zV hw K180;replace HB:=zU hw HB;clear hw))
  refine bodyPost_ret (results_ct rfl _ _ G172 39 #[.int .i64 t173,.int .i64 t174,.float .f64 t175,.int .i64 t176,.float .f64 t177,.int .i64 t178] (0,0) _ rfl (zF K172) Try.underlying39 rfl (by kernel_rfl)) rfl ?_
  exact ⟨zE,zH HB⟩
 ·replace c5:=Bool.eq_false_iff.mpr c5
  subst c5
  rw [if_neg (show ¬ (false = true) by decide)] at H
  have HC24:=Aside0.mk H
  clear H
  go_enter Try.func78,Try.ntmps78
  go_upto_region 4 with (first|((with_reducible refine gate_dst (N:=4) rfl ?_);refine zb (N:=4) (cs:=#[.slice A1_0 l1_0.length c1_0,.bool a1_1]) (t:=24) ?_;intro G170 hg w25 hbox hb;have K170:=Aside0.mk (hbox);have GW170:=zN HB hg;have GE170:=zN HB hg;replace HB:=zS HB hb;clear hb hbox hg)|((with_reducible refine gate_dst (N:=5) rfl ?_);refine zb (N:=5) (cs:=#[.int .i64 a2_0,.int .i64 a2_1,.int .i64 a2_2,.int .i64 a2_3,.int .i64 a2_4,.int .i64 a2_5,.int .u64 a2_6,.int .i64 a2_7,.string a2_8,.int .i64 a2_9,.int .i64 a2_10,.string a2_11]) (t:=48) ?_;intro G171 hg w26 hbox hb;have K171:=Aside0.mk (hbox);have GW171:=zN HB hg;have GE171:=zN HB hg;replace HB:=zS HB hb;have NB170_171:=zL K170 hg;have NB171_170:=zG K170 hg;replace K170:=zB K170 hb;clear hb hbox hg)|((with_reducible refine gate_dst (N:=6) rfl ?_);refine zb (N:=6) (cs:=#[.int .i64 0,.int .i64 0,.float .f64 0,.int .i64 0,.float .f64 0,.int .i64 0]) (t:=39) ?_;intro G172 hg w27 hbox hb;have K172:=Aside0.mk (hbox);have GW172:=zN HB hg;have GE172:=zN HB hg;replace HB:=zS HB hb;have NB170_172:=zL K170 hg;have NB172_170:=zG K170 hg;replace K170:=zB K170 hb;have NB171_172:=zL K171 hg;have NB172_171:=zG K171 hg;replace K171:=zB K171 hb;clear hb hbox hg;have:=NB170_171.1;have:=NB171_170.1;have:=NB170_172.1;have:=NB172_170.1;obtain ⟨hcz30_0,hcz30_1,hfz30_0,hfz30_1⟩:=zc2 K170;have:=NB171_172.1;have:=NB172_171.1;obtain ⟨hcz32_0,hcz32_1,hcz32_2,hcz32_3,hcz32_4,hcz32_5,hcz32_6,hcz32_7,hcz32_8,hcz32_9,hcz32_10,hcz32_11,hfz32_0,hfz32_1,hfz32_2,hfz32_3,hfz32_4,hfz32_5,hfz32_6,hfz32_7,hfz32_8,hfz32_9,hfz32_10,hfz32_11⟩:=zc12 K171)|((with_reducible refine gate_callee (f:=23) rfl ?_);refine zg (some 15) Try.func23 #[.agg #[.slice A1_0 l1_0.length c1_0,.bool a1_1],.int .i64 a2_3] ?_;(with_reducible refine (table_Find.calls k _ _ l1_0 a1_1 a2_3 t173 t174 t175 t176 t177 t178 false _ ?side1 ?side2 A4.out).mono ?_);(case side1 => exact zC (Kd.C_below HR1_0.out HB.1));(case side2 => exact HC1_0.out);rintro e w33 ⟨rfl,hb⟩;refine ⟨_,rfl,?_⟩;replace K170:=zB K170 hb;replace K171:=zB K171 hb;replace K172:=zB K172 hb;replace HB:=zS HB hb;(try clear hb))|((with_reducible refine gate_dst (N:=8) rfl ?_);refine zb (N:=8) (cs:=#[.int .i64 0,.int .i64 0,.float .f64 0,.int .i64 0,.float .f64 0,.int .i64 0]) (t:=39) ?_;intro G180 hg w34 hbox hb;have K180:=Aside0.mk (hbox);have GW180:=zN HB hg;have GE180:=zN HB hg;replace HB:=zS HB hb;have NB170_180:=zL K170 hg;have NB180_170:=zG K170 hg;replace K170:=zB K170 hb;have NB171_180:=zL K171 hg;have NB180_171:=zG K171 hg;replace K171:=zB K171 hb;have NB172_180:=zL K172 hg;have NB180_172:=zG K172 hg;replace K172:=zB K172 hb;clear hb hbox hg;have:=NB180_170.1;have:=NB170_180.1;have:=NB180_171.1;have:=NB171_180.1;have:=NB180_172.1;have:=NB172_180.1;obtain ⟨hcz38_0,hcz38_1,hcz38_2,hcz38_3,hcz38_4,hcz38_5,hfz38_0,hfz38_1,hfz38_2,hfz38_3,hfz38_4,hfz38_5⟩:=zc6 K180)|((with_reducible refine gate_store (t:=39) (p:=8) rfl ?_);refine store_event (t:=39) (p:=8) (v:=?vo_w39) (w1:=((((((w34.setCell ⟨G180,0,none⟩ (.int .i64 t173)).setCell ⟨G180,1,none⟩ (.int .i64 t174)).setCell ⟨G180,2,none⟩ (.float .f64 t175)).setCell ⟨G180,3,none⟩ (.int .i64 t176)).setCell ⟨G180,4,none⟩ (.float .f64 t177)).setCell ⟨G180,5,none⟩ (.int .i64 t178))) ?hg ?ho ?hn ?hr ?_;(case ho => rfl);(case hg => rfl);(case hn => rfl);(case hr => first|(go_simp;done)|(go_simp;rfl));intro w39 hw;replace K170:=zV hw K170;replace K171:=zV hw K171;replace K172:=zV hw K172;replace K180:=zVp hw (.cells #[.int .i64 t173,.int .i64 t174,.float .f64 t175,.int .i64 t176,.float .f64 t177,.int .i64 t178] 39 (0,0)) K180;replace HB:=zU hw HB;clear hw))
  (try simp only [Act.put,xA,xB,xC])
  go_cut [28] (fun v28 wc => ∃ (kq : Nat) (x28_23 : Bool),v28 = .bool x28_23 ∧ Aside0 (forward_road.j0 kq x28_23 l1_0 a1_1 a2_0 a2_1 a2_2 a2_3 a2_4 a2_5 a2_6 a2_7 a2_8 a2_9 a2_10 a2_11 = some (r1,r2,r3,r4,r5,r6,r7)) ∧ Aside0 (kq ≤ k) ∧ Aside0 (wc.heap[G170]? = some (.cells #[(.slice A1_0 l1_0.length c1_0),.bool a1_1] 24 (0,0))) ∧ Aside0 (wc.heap[G171]? = some (.cells #[.int .i64 a2_0,.int .i64 a2_1,.int .i64 a2_2,.int .i64 a2_3,.int .i64 a2_4,.int .i64 a2_5,.int .u64 a2_6,.int .i64 a2_7,.string a2_8,.int .i64 a2_9,.int .i64 a2_10,.string a2_11] 48 (0,0))) ∧ Aside0 (wc.heap[G172]? = some (.cells #[.int .i64 0,.int .i64 0,.float .f64 0,.int .i64 0,.float .f64 0,.int .i64 0] 39 (0,0))) ∧ Aside0 (wc.heap[G180]? = some (.cells #[.int .i64 t173,.int .i64 t174,.float .f64 t175,.int .i64 t176,.float .f64 t177,.int .i64 t178] 39 (0,0))) ∧ Aside0 (Below w.heap.size w wc))
  case first =>
   have H:=HC24.out
   clear HC24
   by_cases c40 : a2_4 = 0
   ·rw [if_pos c40] at H
    have c40b0 : (a2_4 == 0) = true:=beq_iff_eq.mpr c40
    have c40b1 : (a2_4 != 0) = false:=bne_eq_false_iff_eq.mpr c40
    clear c40
    (first|rw [c40b0]|(simp only [i64_w,i32_w];rw [c40b0])|skip)
    have H':=Aside0.mk H
    clear H
    have:=NB171_170.1
    have:=NB170_171.1
    have:=NB171_172.1
    have:=NB172_171.1
    have:=NB171_180.1
    have:=NB180_171.1
    obtain ⟨hcz44_0,hcz44_1,hcz44_2,hcz44_3,hcz44_4,hcz44_5,hcz44_6,hcz44_7,hcz44_8,hcz44_9,hcz44_10,hcz44_11,hfz44_0,hfz44_1,hfz44_2,hfz44_3,hfz44_4,hfz44_5,hfz44_6,hfz44_7,hfz44_8,hfz44_9,hfz44_10,hfz44_11⟩:=zc12 K171
    go_wp2
    go_meet
    case rel => exact ⟨_,(true),ze,H',⟨zo⟩,⟨z1 K170.1⟩,⟨z1 K171.1⟩,⟨z1 K172.1⟩,⟨z1 K180.1⟩,⟨zH HB⟩⟩
   ·rw [if_neg c40] at H
    have c40b0 : (a2_4 == 0) = false:=beq_eq_false_iff_ne.mpr c40
    have c40b1 : (a2_4 != 0) = true:=bne_iff_ne.mpr c40
    (first|rw [c40b0]|(simp only [i64_w,i32_w];rw [c40b0])|skip)
    have H':=Aside0.mk H
    clear H
    have:=NB171_170.1
    have:=NB170_171.1
    have:=NB171_172.1
    have:=NB172_171.1
    have:=NB171_180.1
    have:=NB180_171.1
    obtain ⟨hcz48_0,hcz48_1,hcz48_2,hcz48_3,hcz48_4,hcz48_5,hcz48_6,hcz48_7,hcz48_8,hcz48_9,hcz48_10,hcz48_11,hfz48_0,hfz48_1,hfz48_2,hfz48_3,hfz48_4,hfz48_5,hfz48_6,hfz48_7,hfz48_8,hfz48_9,hfz48_10,hfz48_11⟩:=zc12 K171
    go_wp2
    go_meet
    case rel => exact ⟨_,((a2_4 == a0)),ze,H',⟨zo⟩,⟨z1 K170.1⟩,⟨z1 K171.1⟩,⟨z1 K172.1⟩,⟨z1 K180.1⟩,⟨zH HB⟩⟩
  case rest =>
   clear HC24
   try clear c5;try clear hcz30_0;try clear hcz30_1;try clear hcz32_0;try clear hcz32_1;try clear hcz32_10;try clear hcz32_11;try clear hcz32_2;try clear hcz32_3;try clear hcz32_4;try clear hcz32_5;try clear hcz32_6;try clear hcz32_7;try clear hcz32_8;try clear hcz32_9;try clear hcz38_0;try clear hcz38_1;try clear hcz38_2;try clear hcz38_3;try clear hcz38_4;try clear hcz38_5;try clear hfz30_0;try clear hfz30_1;try clear hfz32_0;try clear hfz32_1;try clear hfz32_10;try clear hfz32_11;try clear hfz32_2;try clear hfz32_3;try clear hfz32_4;try clear hfz32_5;try clear hfz32_6;try clear hfz32_7;try clear hfz32_8;try clear hfz32_9;try clear hfz38_0;try clear hfz38_1;try clear hfz38_2;try clear hfz38_3;try clear hfz38_4;try clear hfz38_5
   obtain ⟨kq,x28_23,rfl,HA,HJ23,K170,K171,K172,K180,HB⟩:=hcut
   cases kq with
   | zero => exact absurd HA.out (by simp [forward_road.j0])
   | succ kj23 =>
    have H:=HA.out
    clear HA
    simp only [forward_road.j0] at H
    by_cases c49 : x28_23 = true
    ·subst c49
     rw [if_pos rfl] at H
     simp only [Option.some.injEq,Prod.mk.injEq] at H
     obtain ⟨rfl,rfl,rfl,rfl,rfl,rfl,rfl⟩:=H
     have:=NB172_170.1
     have:=NB170_172.1
     have:=NB172_171.1
     have:=NB171_172.1
     have:=NB172_180.1
     have:=NB180_172.1
     obtain ⟨hcz53_0,hcz53_1,hcz53_2,hcz53_3,hcz53_4,hcz53_5,hfz53_0,hfz53_1,hfz53_2,hfz53_3,hfz53_4,hfz53_5⟩:=zc6 K172
     go_wp2_with (first|((with_reducible refine gate_store (t:=39) (p:=6) rfl ?_);refine store_event (t:=39) (p:=6) (v:=?vo_w54) (w1:=((((((wc.setCell ⟨G172,0,none⟩ (.int .i64 0)).setCell ⟨G172,1,none⟩ (.int .i64 0)).setCell ⟨G172,2,none⟩ (.float .f64 0)).setCell ⟨G172,3,none⟩ (.int .i64 0)).setCell ⟨G172,4,none⟩ (.float .f64 0)).setCell ⟨G172,5,none⟩ (.int .i64 0))) ?hg ?ho ?hn ?hr ?_;(case ho => rfl);(case hg => rfl);(case hn => rfl);(case hr => first|(go_simp;done)|(go_simp;rfl));intro w54 hw;replace K170:=zV hw K170;replace K171:=zV hw K171;replace K172:=zVp hw (.cells #[.int .i64 0,.int .i64 0,.float .f64 0,.int .i64 0,.float .f64 0,.int .i64 0] 39 (0,0)) K172;replace K180:=zV hw K180;replace HB:=zU hw HB;clear hw))
     refine bodyPost_ret (results_ct rfl _ _ G172 39 #[.int .i64 0,.int .i64 0,.float .f64 0,.int .i64 0,.float .f64 0,.int .i64 0] (0,0) _ rfl (zF K172) Try.underlying39 rfl (by kernel_rfl)) rfl ?_
     exact ⟨zE,zH HB⟩
    ·replace c49:=Bool.eq_false_iff.mpr c49
     subst c49
     rw [if_neg (show ¬ (false = true) by decide)] at H
     replace H:=Option.bind_eq_some_iff.mp H
     obtain ⟨t181,A550,H⟩:=H
     (try dsimp only at H)
     have A55:=Aside0.mk A550
     clear A550
     by_cases c56 : t181 < 0
     ·rw [if_pos c56] at H
      have c56b0 : decide (t181 < 0) = true:=decide_eq_true c56
      clear c56
      simp only [Option.some.injEq,Prod.mk.injEq] at H
      obtain ⟨rfl,rfl,rfl,rfl,rfl,rfl,rfl⟩:=H
      have:=NB170_171.1
      have:=NB171_170.1
      have:=NB170_172.1
      have:=NB172_170.1
      have:=NB170_180.1
      have:=NB180_170.1
      obtain ⟨hcz60_0,hcz60_1,hfz60_0,hfz60_1⟩:=zc2 K170
      go_wp2_with (first|((with_reducible refine gate_callee (f:=100) rfl ?_);refine zg (some 33) Try.func100 #[.slice A1_0 l1_0.length c1_0,.func (.func 101) #[] #[.pointer (some ⟨G171,0,none⟩)]] ?_;(with_reducible refine (api_Entry.calls kj23 _ _ l1_0 G171 a2_0 a2_1 a2_2 a2_3 a2_4 a2_5 a2_6 a2_7 a2_8 a2_9 a2_10 a2_11 t181 _ ?side1 ?side2 ?side3 A55.out).mono ?_);(case side1 => exact zC (Kd.C_below HR1_0.out HB.1));(case side2 => exact HC1_0.out);(case side3 => (with_reducible repeat first|apply bN|apply bD|apply bA);exact K171.1);rintro e w61 ⟨rfl,hb⟩;refine ⟨_,rfl,?_⟩;replace K170:=zB K170 hb;replace K171:=zB K171 hb;replace K172:=zB K172 hb;replace K180:=zB K180 hb;replace HB:=zS HB hb;(try clear hb);have:=NB172_171.1;have:=NB171_172.1;have:=NB172_180.1;have:=NB180_172.1;obtain ⟨hcz64_0,hcz64_1,hcz64_2,hcz64_3,hcz64_4,hcz64_5,hfz64_0,hfz64_1,hfz64_2,hfz64_3,hfz64_4,hfz64_5⟩:=zc6 K172)|((with_reducible refine gate_store (t:=39) (p:=6) rfl ?_);refine store_event (t:=39) (p:=6) (v:=?vo_w65) (w1:=((((((w61.setCell ⟨G172,0,none⟩ (.int .i64 0)).setCell ⟨G172,1,none⟩ (.int .i64 0)).setCell ⟨G172,2,none⟩ (.float .f64 0)).setCell ⟨G172,3,none⟩ (.int .i64 0)).setCell ⟨G172,4,none⟩ (.float .f64 0)).setCell ⟨G172,5,none⟩ (.int .i64 0))) ?hg ?ho ?hn ?hr ?_;(case ho => rfl);(case hg => rfl);(case hn => rfl);(case hr => first|(go_simp;done)|(go_simp;rfl));intro w65 hw;replace K170:=zV hw K170;replace K171:=zV hw K171;replace K172:=zVp hw (.cells #[.int .i64 0,.int .i64 0,.float .f64 0,.int .i64 0,.float .f64 0,.int .i64 0] 39 (0,0)) K172;replace K180:=zV hw K180;replace HB:=zU hw HB;clear hw))
      refine bodyPost_ret (results_ct rfl _ _ G172 39 #[.int .i64 0,.int .i64 0,.float .f64 0,.int .i64 0,.float .f64 0,.int .i64 0] (0,0) _ rfl (zF K172) Try.underlying39 rfl (by kernel_rfl)) rfl ?_
      exact ⟨zE,zH HB⟩
     ·rw [if_neg c56] at H
      have c56b0 : decide (t181 < 0) = false:=decide_eq_false c56
      clear c56
      by_cases c66 : 0 ≤ t181
      ·rw [if_pos c66] at H
       have c66b0 : decide (0 ≤ t181) = true:=decide_eq_true c66
       clear c66
       by_cases c67 : t181 < (l1_0.length : Int)
       ·rw [if_pos c67] at H
        have c67b0 : decide (t181 < (l1_0.length : Int)) = true:=decide_eq_true c67
        clear c67
        simp only [Option.some.injEq,Prod.mk.injEq] at H
        obtain ⟨rfl,rfl,rfl,rfl,rfl,rfl,rfl⟩:=H
        have:=NB170_171.1
        have:=NB171_170.1
        have:=NB170_172.1
        have:=NB172_170.1
        have:=NB170_180.1
        have:=NB180_170.1
        obtain ⟨hcz71_0,hcz71_1,hfz71_0,hfz71_1⟩:=zc2 K170
        go_wp2_with (first|((with_reducible refine gate_callee (f:=100) rfl ?_);refine zg (some 33) Try.func100 #[.slice A1_0 l1_0.length c1_0,.func (.func 101) #[] #[.pointer (some ⟨G171,0,none⟩)]] ?_;(with_reducible refine (api_Entry.calls kj23 _ _ l1_0 G171 a2_0 a2_1 a2_2 a2_3 a2_4 a2_5 a2_6 a2_7 a2_8 a2_9 a2_10 a2_11 t181 _ ?side1 ?side2 ?side3 A55.out).mono ?_);(case side1 => exact zC (Kd.C_below HR1_0.out HB.1));(case side2 => exact HC1_0.out);(case side3 => (with_reducible repeat first|apply bN|apply bD|apply bA);exact K171.1);rintro e w72 ⟨rfl,hb⟩;refine ⟨_,rfl,?_⟩;replace K170:=zB K170 hb;replace K171:=zB K171 hb;replace K172:=zB K172 hb;replace K180:=zB K180 hb;replace HB:=zS HB hb;(try clear hb);obtain ⟨hcz73_0,hcz73_1,hfz73_0,hfz73_1⟩:=zc2 K170;have p182 : 0 ≤ (t181 : Int):=zd;have q182 : t181 < (l1_0.length : Int):=zd;obtain ⟨ad182,e182,hx182_0,hx182_1,hx182_2,hx182_3,hx182_4,hx182_5⟩:=at_T39 HR1_0.out t181 p182 q182;cases e182;replace hx182_0:=zh HB hx182_0;replace hx182_1:=zh HB hx182_1;replace hx182_2:=zh HB hx182_2;replace hx182_3:=zh HB hx182_3;replace hx182_4:=zh HB hx182_4;replace hx182_5:=zh HB hx182_5;replace p182:=eq_true p182;replace q182:=eq_true q182;have:=NB172_171.1;have:=NB171_172.1;have:=NB172_180.1;have:=NB180_172.1;obtain ⟨hcz76_0,hcz76_1,hcz76_2,hcz76_3,hcz76_4,hcz76_5,hfz76_0,hfz76_1,hfz76_2,hfz76_3,hfz76_4,hfz76_5⟩:=zc6 K172)|((with_reducible refine gate_store (t:=39) (p:=6) rfl ?_);refine store_event (t:=39) (p:=6) (v:=?vo_w77) (w1:=((((((w72.setCell ⟨G172,0,none⟩ (.int .i64 ((rd_T39 l1_0 t181).f0))).setCell ⟨G172,1,none⟩ (.int .i64 ((rd_T39 l1_0 t181).f1))).setCell ⟨G172,2,none⟩ (.float .f64 ((rd_T39 l1_0 t181).f2))).setCell ⟨G172,3,none⟩ (.int .i64 ((rd_T39 l1_0 t181).f3))).setCell ⟨G172,4,none⟩ (.float .f64 ((rd_T39 l1_0 t181).f4))).setCell ⟨G172,5,none⟩ (.int .i64 ((rd_T39 l1_0 t181).f5)))) ?hg ?ho ?hn ?hr ?_;(case ho => rfl);(case hg => rfl);(case hn => rfl);(case hr => first|(go_simp;done)|(go_simp;rfl));intro w77 hw;replace K170:=zV hw K170;replace K171:=zV hw K171;replace K172:=zVp hw (.cells #[.int .i64 ((rd_T39 l1_0 t181).f0),.int .i64 ((rd_T39 l1_0 t181).f1),.float .f64 ((rd_T39 l1_0 t181).f2),.int .i64 ((rd_T39 l1_0 t181).f3),.float .f64 ((rd_T39 l1_0 t181).f4),.int .i64 ((rd_T39 l1_0 t181).f5)] 39 (0,0)) K172;replace K180:=zV hw K180;replace HB:=zU hw HB;clear hw))
        refine bodyPost_ret (results_ct rfl _ _ G172 39 #[.int .i64 ((rd_T39 l1_0 t181).f0),.int .i64 ((rd_T39 l1_0 t181).f1),.float .f64 ((rd_T39 l1_0 t181).f2),.int .i64 ((rd_T39 l1_0 t181).f3),.float .f64 ((rd_T39 l1_0 t181).f4),.int .i64 ((rd_T39 l1_0 t181).f5)] (0,0) _ rfl (zF K172) Try.underlying39 rfl (by kernel_rfl)) rfl ?_
        exact ⟨zE,zH HB⟩
       ·rw [if_neg c67] at H
        exact absurd H (by simp)
      ·rw [if_neg c66] at H
       exact absurd H (by simp)

/-! ### forward_decide: function 57 -/
def forward_decide.f (k : Nat) (a0 : Int) (l1_0 : List (S39)) (a1_1 : Bool) (a2_0 : Int) (a2_1 : Int) (a2_2 : Int) (a2_3 : Int) (a2_4 : Int) (a2_5 : Int) (a2_6 : Int) (a2_7 : Int) (a2_8 : ByteArray) (a2_9 : Int) (a2_10 : Int) (a2_11 : ByteArray) : Option (Int × Int × Int × Int × Int × Int × Int × Int × Int × Int × ByteArray × Int × Int × ByteArray) := if a2_3 = a0 then (some (1, 0, a2_0, a2_1, a2_2, a2_3, a2_4, a2_5, a2_6, a2_7, a2_8, a2_9, a2_10, a2_11)) else ((forward_road.f k a0 l1_0 a1_1 a2_0 a2_1 a2_2 a2_3 a2_4 a2_5 a2_6 a2_7 a2_8 a2_9 a2_10 a2_11).bind fun bt186 => (if bt186.2.2.2.2.2.2 = true then ((math_IsInf.f bt186.2.2.1 1).bind fun t194 => (if t194 = true then (some (4, 0, a2_0, a2_1, a2_2, a2_3, a2_4, a2_5, a2_6, a2_7, a2_8, a2_9, a2_10, a2_11)) else (if a2_5 = 0 then (some (5, 0, a2_0, a2_1, a2_2, a2_3, a2_4, a2_5, a2_6, a2_7, a2_8, a2_9, a2_10, a2_11)) else (some (2, bt186.2.2.2.1, a2_0, a2_1, a2_2, a2_3, a2_4, wrap64 (a2_5 - 1), a2_6, a2_7, a2_8, a2_9, a2_10, a2_11))))) else (some (3, 0, a2_0, a2_1, a2_2, a2_3, a2_4, a2_5, a2_6, a2_7, a2_8, a2_9, a2_10, a2_11))))
theorem forward_decide.mono : ∀ a0 a1 a2 a3 a4 a5 a6 a7 a8 a9 a10 a11 a12 a13 a14 k, LeO (forward_decide.f k a0 a1 a2 a3 a4 a5 a6 a7 a8 a9 a10 a11 a12 a13 a14) (forward_decide.f (k + 1) a0 a1 a2 a3 a4 a5 a6 a7 a8 a9 a10 a11 a12 a13 a14) := by
 intro a0 a1 a2 a3 a4 a5 a6 a7 a8 a9 a10 a11 a12 a13 a14 k
 unfold forward_decide.f
 repeat' first
   | (with_reducible exact forward_road.mono _ _ _ _ _ _ _ _ _ _ _ _ _ _ _ _)
   | (with_reducible exact LeO.refl _)
   | (with_reducible exact LeO.none _)
   | (with_reducible refine LeO.ite ?_ ?_)
   | (with_reducible refine LeO.bind ?_ (fun _ => ?_))
   | exact forward_road.mono _ _ _ _ _ _ _ _ _ _ _ _ _ _ _ _
   | exact LeO.none _
   | refine LeO.ite ?_ ?_
   | refine LeO.bind ?_ (fun _ => ?_)
set_option maxHeartbeats 8000000 in
set_option maxRecDepth 100000 in
theorem forward_decide.calls (k : Nat) (a0 : Int) (A1_0 : Option Addr) (c1_0 : Nat) (l1_0 : List (S39)) (a1_1 : Bool) (a2_0 : Int) (a2_1 : Int) (a2_2 : Int) (a2_3 : Int) (a2_4 : Int) (a2_5 : Int) (a2_6 : Int) (a2_7 : Int) (a2_8 : ByteArray) (a2_9 : Int) (a2_10 : Int) (a2_11 : ByteArray) (r1 : Int) (r2 : Int) (r3 : Int) (r4 : Int) (r5 : Int) (r6 : Int) (r7 : Int) (r8 : Int) (r9 : Int) (r10 : Int) (r11 : ByteArray) (r12 : Int) (r13 : Int) (r14 : ByteArray) (w : World) (hr1_0 : Kd.C k39 w A1_0 l1_0.length l1_0) (hc1_0 : l1_0.length ≤ c1_0) (h : forward_decide.f k a0 l1_0 a1_1 a2_0 a2_1 a2_2 a2_3 a2_4 a2_5 a2_6 a2_7 a2_8 a2_9 a2_10 a2_11 = some (r1, r2, r3, r4, r5, r6, r7, r8, r9, r10, r11, r12, r13, r14)) :
  Calls Try.prog 57 #[.int .i64 a0,.agg #[.slice A1_0 l1_0.length c1_0,.bool a1_1],.agg #[.int .i64 a2_0,.int .i64 a2_1,.int .i64 a2_2,.int .i64 a2_3,.int .i64 a2_4,.int .i64 a2_5,.int .u64 a2_6,.int .i64 a2_7,.string a2_8,.int .i64 a2_9,.int .i64 a2_10,.string a2_11]] w fun e w' => e = .returned (.agg #[.int .i64 r1,.int .i64 r2,.int .i64 r3,.int .i64 r4,.int .i64 r5,.int .i64 r6,.int .i64 r7,.int .i64 r8,.int .u64 r9,.int .i64 r10,.string r11,.int .i64 r12,.int .i64 r13,.string r14]) ∧ Below w.heap.size w w':=by
 have hu24:=Try.underlying24
 have hu48:=Try.underlying48
 have hu50:=Try.underlying50
 have hu39:=Try.underlying39
 have HR1_0:=Aside0.mk hr1_0
 have HC1_0:=Aside0.mk hc1_0
 clear hr1_0 hc1_0
 have HB:=Aside0.mk (Below.refl w.heap.size w)
 have H : (if a2_3 = a0 then (some (1,0,a2_0,a2_1,a2_2,a2_3,a2_4,a2_5,a2_6,a2_7,a2_8,a2_9,a2_10,a2_11)) else ((forward_road.f k a0 l1_0 a1_1 a2_0 a2_1 a2_2 a2_3 a2_4 a2_5 a2_6 a2_7 a2_8 a2_9 a2_10 a2_11).bind fun bt186 => (if bt186.2.2.2.2.2.2 = true then ((math_IsInf.f bt186.2.2.1 1).bind fun t194 => (if t194 = true then (some (4,0,a2_0,a2_1,a2_2,a2_3,a2_4,a2_5,a2_6,a2_7,a2_8,a2_9,a2_10,a2_11)) else (if a2_5 = 0 then (some (5,0,a2_0,a2_1,a2_2,a2_3,a2_4,a2_5,a2_6,a2_7,a2_8,a2_9,a2_10,a2_11)) else (some (2,bt186.2.2.2.1,a2_0,a2_1,a2_2,a2_3,a2_4,wrap64 (a2_5 - 1),a2_6,a2_7,a2_8,a2_9,a2_10,a2_11))))) else (some (3,0,a2_0,a2_1,a2_2,a2_3,a2_4,a2_5,a2_6,a2_7,a2_8,a2_9,a2_10,a2_11))))) = some (r1,r2,r3,r4,r5,r6,r7,r8,r9,r10,r11,r12,r13,r14):=h
 clear h
 by_cases c4 : a2_3 = a0
 ·rw [if_pos c4] at H
  have c4b0 : (a2_3 == a0) = true:=beq_iff_eq.mpr c4
  have c4b1 : (a2_3 != a0) = false:=bne_eq_false_iff_eq.mpr c4
  clear c4
  simp only [Option.some.injEq,Prod.mk.injEq] at H
  obtain ⟨rfl,rfl,rfl,rfl,rfl,rfl,rfl,rfl,rfl,rfl,rfl,rfl,rfl,rfl⟩:=H
  go_enter Try.func57,Try.ntmps57
  go_wp2_with (first|((with_reducible refine gate_dst (N:=4) rfl ?_);refine zb (N:=4) (cs:=#[.slice A1_0 l1_0.length c1_0,.bool a1_1]) (t:=24) ?_;intro G183 hg w5 hbox hb;have K183:=Aside0.mk (hbox);have GW183:=zN HB hg;have GE183:=zN HB hg;replace HB:=zS HB hb;clear hb hbox hg)|((with_reducible refine gate_dst (N:=5) rfl ?_);refine zb (N:=5) (cs:=#[.int .i64 a2_0,.int .i64 a2_1,.int .i64 a2_2,.int .i64 a2_3,.int .i64 a2_4,.int .i64 a2_5,.int .u64 a2_6,.int .i64 a2_7,.string a2_8,.int .i64 a2_9,.int .i64 a2_10,.string a2_11]) (t:=48) ?_;intro G184 hg w6 hbox hb;have K184:=Aside0.mk (hbox);have GW184:=zN HB hg;have GE184:=zN HB hg;replace HB:=zS HB hb;have NB183_184:=zL K183 hg;have NB184_183:=zG K183 hg;replace K183:=zB K183 hb;clear hb hbox hg)|((with_reducible refine gate_dst (N:=6) rfl ?_);refine zb (N:=6) (cs:=#[.int .i64 0,.int .i64 0,.int .i64 0,.int .i64 0,.int .i64 0,.int .i64 0,.int .i64 0,.int .i64 0,.int .u64 0,.int .i64 0,.string (⟨#[]⟩ : ByteArray),.int .i64 0,.int .i64 0,.string (⟨#[]⟩ : ByteArray)]) (t:=50) ?_;intro G185 hg w7 hbox hb;have K185:=Aside0.mk (hbox);have GW185:=zN HB hg;have GE185:=zN HB hg;replace HB:=zS HB hb;have NB183_185:=zL K183 hg;have NB185_183:=zG K183 hg;replace K183:=zB K183 hb;have NB184_185:=zL K184 hg;have NB185_184:=zG K184 hg;replace K184:=zB K184 hb;clear hb hbox hg;have:=NB184_183.1;have:=NB183_184.1;have:=NB184_185.1;have:=NB185_184.1;obtain ⟨hcz10_0,hcz10_1,hcz10_2,hcz10_3,hcz10_4,hcz10_5,hcz10_6,hcz10_7,hcz10_8,hcz10_9,hcz10_10,hcz10_11,hfz10_0,hfz10_1,hfz10_2,hfz10_3,hfz10_4,hfz10_5,hfz10_6,hfz10_7,hfz10_8,hfz10_9,hfz10_10,hfz10_11⟩:=zc12 K184;have:=NB185_183.1;have:=NB183_185.1;obtain ⟨hcz12_0,hcz12_1,hcz12_2,hcz12_3,hcz12_4,hcz12_5,hcz12_6,hcz12_7,hcz12_8,hcz12_9,hcz12_10,hcz12_11,hcz12_12,hcz12_13,hfz12_0,hfz12_1,hfz12_2,hfz12_3,hfz12_4,hfz12_5,hfz12_6,hfz12_7,hfz12_8,hfz12_9,hfz12_10,hfz12_11,hfz12_12,hfz12_13⟩:=zc14 K185)|((with_reducible refine gate_store (t:=50) (p:=6) rfl ?_);refine store_event (t:=50) (p:=6) (v:=?vo_w13) (w1:=((((((((((((((w7.setCell ⟨G185,0,none⟩ (.int .i64 1)).setCell ⟨G185,1,none⟩ (.int .i64 0)).setCell ⟨G185,2,none⟩ (.int .i64 a2_0)).setCell ⟨G185,3,none⟩ (.int .i64 a2_1)).setCell ⟨G185,4,none⟩ (.int .i64 a2_2)).setCell ⟨G185,5,none⟩ (.int .i64 a2_3)).setCell ⟨G185,6,none⟩ (.int .i64 a2_4)).setCell ⟨G185,7,none⟩ (.int .i64 a2_5)).setCell ⟨G185,8,none⟩ (.int .u64 a2_6)).setCell ⟨G185,9,none⟩ (.int .i64 a2_7)).setCell ⟨G185,10,none⟩ (.string a2_8)).setCell ⟨G185,11,none⟩ (.int .i64 a2_9)).setCell ⟨G185,12,none⟩ (.int .i64 a2_10)).setCell ⟨G185,13,none⟩ (.string a2_11))) ?hg ?ho ?hn ?hr ?_;(case ho => rfl);(case hg => rfl);(case hn => rfl);(case hr => first|(go_simp;done)|(go_simp;rfl));intro w13 hw;replace K183:=zV hw K183;replace K184:=zV hw K184;replace K185:=zVp hw (.cells #[.int .i64 1,.int .i64 0,.int .i64 a2_0,.int .i64 a2_1,.int .i64 a2_2,.int .i64 a2_3,.int .i64 a2_4,.int .i64 a2_5,.int .u64 a2_6,.int .i64 a2_7,.string a2_8,.int .i64 a2_9,.int .i64 a2_10,.string a2_11] 50 (0,0)) K185;replace HB:=zU hw HB;clear hw))
  refine bodyPost_ret (results_cell_row rfl _ _ G185 50 #[.int .i64 1,.int .i64 0,.int .i64 a2_0,.int .i64 a2_1,.int .i64 a2_2,.int .i64 a2_3,.int .i64 a2_4,.int .i64 a2_5,.int .u64 a2_6,.int .i64 a2_7,.string a2_8,.int .i64 a2_9,.int .i64 a2_10,.string a2_11] (0,0) _ rfl (zF K185) Try.underlying50 rfl (by kernel_rfl)) rfl ?_
  exact ⟨zE,zH HB⟩
 ·rw [if_neg c4] at H
  have c4b0 : (a2_3 == a0) = false:=beq_eq_false_iff_ne.mpr c4
  have c4b1 : (a2_3 != a0) = true:=bne_iff_ne.mpr c4
  replace H:=Option.bind_eq_some_iff.mp H
  obtain ⟨⟨t186,t187,t188,t189,t190,t191,t192⟩,A140,H⟩:=H
  (try dsimp only at H)
  have A14:=Aside0.mk A140
  clear A140
  by_cases c15 : t192 = true
  ·subst c15
   rw [if_pos rfl] at H
   replace H:=Option.bind_eq_some_iff.mp H
   obtain ⟨t194,A160,H⟩:=H
   (try dsimp only at H)
   have A16:=Aside0.mk A160
   clear A160
   by_cases c17 : t194 = true
   ·subst c17
    rw [if_pos rfl] at H
    simp only [Option.some.injEq,Prod.mk.injEq] at H
    obtain ⟨rfl,rfl,rfl,rfl,rfl,rfl,rfl,rfl,rfl,rfl,rfl,rfl,rfl,rfl⟩:=H
    go_enter Try.func57,Try.ntmps57
    go_wp2_with (first|((with_reducible refine gate_dst (N:=4) rfl ?_);refine zb (N:=4) (cs:=#[.slice A1_0 l1_0.length c1_0,.bool a1_1]) (t:=24) ?_;intro G183 hg w18 hbox hb;have K183:=Aside0.mk (hbox);have GW183:=zN HB hg;have GE183:=zN HB hg;replace HB:=zS HB hb;clear hb hbox hg)|((with_reducible refine gate_dst (N:=5) rfl ?_);refine zb (N:=5) (cs:=#[.int .i64 a2_0,.int .i64 a2_1,.int .i64 a2_2,.int .i64 a2_3,.int .i64 a2_4,.int .i64 a2_5,.int .u64 a2_6,.int .i64 a2_7,.string a2_8,.int .i64 a2_9,.int .i64 a2_10,.string a2_11]) (t:=48) ?_;intro G184 hg w19 hbox hb;have K184:=Aside0.mk (hbox);have GW184:=zN HB hg;have GE184:=zN HB hg;replace HB:=zS HB hb;have NB183_184:=zL K183 hg;have NB184_183:=zG K183 hg;replace K183:=zB K183 hb;clear hb hbox hg)|((with_reducible refine gate_dst (N:=6) rfl ?_);refine zb (N:=6) (cs:=#[.int .i64 0,.int .i64 0,.int .i64 0,.int .i64 0,.int .i64 0,.int .i64 0,.int .i64 0,.int .i64 0,.int .u64 0,.int .i64 0,.string (⟨#[]⟩ : ByteArray),.int .i64 0,.int .i64 0,.string (⟨#[]⟩ : ByteArray)]) (t:=50) ?_;intro G185 hg w20 hbox hb;have K185:=Aside0.mk (hbox);have GW185:=zN HB hg;have GE185:=zN HB hg;replace HB:=zS HB hb;have NB183_185:=zL K183 hg;have NB185_183:=zG K183 hg;replace K183:=zB K183 hb;have NB184_185:=zL K184 hg;have NB185_184:=zG K184 hg;replace K184:=zB K184 hb;clear hb hbox hg;have:=NB184_183.1;have:=NB183_184.1;have:=NB184_185.1;have:=NB185_184.1;obtain ⟨hcz23_0,hcz23_1,hcz23_2,hcz23_3,hcz23_4,hcz23_5,hcz23_6,hcz23_7,hcz23_8,hcz23_9,hcz23_10,hcz23_11,hfz23_0,hfz23_1,hfz23_2,hfz23_3,hfz23_4,hfz23_5,hfz23_6,hfz23_7,hfz23_8,hfz23_9,hfz23_10,hfz23_11⟩:=zc12 K184;have:=NB183_185.1;have:=NB185_183.1;obtain ⟨hcz25_0,hcz25_1,hfz25_0,hfz25_1⟩:=zc2 K183)|((with_reducible refine gate_callee (f:=78) rfl ?_);refine zg (some 19) Try.func78 #[.int .i64 a0,.agg #[.slice A1_0 l1_0.length c1_0,.bool a1_1],.agg #[.int .i64 a2_0,.int .i64 a2_1,.int .i64 a2_2,.int .i64 a2_3,.int .i64 a2_4,.int .i64 a2_5,.int .u64 a2_6,.int .i64 a2_7,.string a2_8,.int .i64 a2_9,.int .i64 a2_10,.string a2_11]] ?_;(with_reducible refine (forward_road.calls k a0 _ _ l1_0 a1_1 a2_0 a2_1 a2_2 a2_3 a2_4 a2_5 a2_6 a2_7 a2_8 a2_9 a2_10 a2_11 t186 t187 t188 t189 t190 t191 true _ ?side1 ?side2 A14.out).mono ?_);(case side1 => exact zC (Kd.C_below HR1_0.out HB.1));(case side2 => exact HC1_0.out);rintro e w26 ⟨rfl,hb⟩;refine ⟨_,rfl,?_⟩;replace K183:=zB K183 hb;replace K184:=zB K184 hb;replace K185:=zB K185 hb;replace HB:=zS HB hb;(try clear hb))|((with_reducible refine gate_dst (N:=7) rfl ?_);refine zb (N:=7) (cs:=#[.int .i64 0,.int .i64 0,.float .f64 0,.int .i64 0,.float .f64 0,.int .i64 0]) (t:=39) ?_;intro G193 hg w27 hbox hb;have K193:=Aside0.mk (hbox);have GW193:=zN HB hg;have GE193:=zN HB hg;replace HB:=zS HB hb;have NB183_193:=zL K183 hg;have NB193_183:=zG K183 hg;replace K183:=zB K183 hb;have NB184_193:=zL K184 hg;have NB193_184:=zG K184 hg;replace K184:=zB K184 hb;have NB185_193:=zL K185 hg;have NB193_185:=zG K185 hg;replace K185:=zB K185 hb;clear hb hbox hg;have:=NB193_183.1;have:=NB183_193.1;have:=NB193_184.1;have:=NB184_193.1;have:=NB193_185.1;have:=NB185_193.1;obtain ⟨hcz31_0,hcz31_1,hcz31_2,hcz31_3,hcz31_4,hcz31_5,hfz31_0,hfz31_1,hfz31_2,hfz31_3,hfz31_4,hfz31_5⟩:=zc6 K193)|((with_reducible refine gate_store (t:=39) (p:=7) rfl ?_);refine store_event (t:=39) (p:=7) (v:=?vo_w32) (w1:=((((((w27.setCell ⟨G193,0,none⟩ (.int .i64 t186)).setCell ⟨G193,1,none⟩ (.int .i64 t187)).setCell ⟨G193,2,none⟩ (.float .f64 t188)).setCell ⟨G193,3,none⟩ (.int .i64 t189)).setCell ⟨G193,4,none⟩ (.float .f64 t190)).setCell ⟨G193,5,none⟩ (.int .i64 t191))) ?hg ?ho ?hn ?hr ?_;(case ho => rfl);(case hg => rfl);(case hn => rfl);(case hr => first|(go_simp;done)|(go_simp;rfl));intro w32 hw;replace K183:=zV hw K183;replace K184:=zV hw K184;replace K185:=zV hw K185;replace K193:=zVp hw (.cells #[.int .i64 t186,.int .i64 t187,.float .f64 t188,.int .i64 t189,.float .f64 t190,.int .i64 t191] 39 (0,0)) K193;replace HB:=zU hw HB;clear hw;obtain ⟨hcz33_0,hcz33_1,hcz33_2,hcz33_3,hcz33_4,hcz33_5,hfz33_0,hfz33_1,hfz33_2,hfz33_3,hfz33_4,hfz33_5⟩:=zc6 K193)|((with_reducible refine gate_callee (f:=53) rfl ?_);refine zg (some 30) Try.func53 #[.float .f64 t188,.int .i64 1] ?_;(with_reducible refine (math_IsInf.calls t188 1 true _ A16.out).mono ?_);rintro e w' ⟨rfl,⟨nd,rfl⟩⟩;refine ⟨_,rfl,?_⟩;(try (rw [drewN_self w32];generalize hq_ : World.drewN w32 _ = w32;replace K183 : Aside0 (w32.heap[G183]? = some (.cells #[.slice A1_0 l1_0.length c1_0,.bool a1_1] 24 (0,0))):=⟨by rw [← hq_];exact (z1 K183.1)⟩;replace K184 : Aside0 (w32.heap[G184]? = some (.cells #[.int .i64 a2_0,.int .i64 a2_1,.int .i64 a2_2,.int .i64 a2_3,.int .i64 a2_4,.int .i64 a2_5,.int .u64 a2_6,.int .i64 a2_7,.string a2_8,.int .i64 a2_9,.int .i64 a2_10,.string a2_11] 48 (0,0))):=⟨by rw [← hq_];exact (z1 K184.1)⟩;replace K185 : Aside0 (w32.heap[G185]? = some (.cells #[.int .i64 0,.int .i64 0,.int .i64 0,.int .i64 0,.int .i64 0,.int .i64 0,.int .i64 0,.int .i64 0,.int .u64 0,.int .i64 0,.string (⟨#[]⟩ : ByteArray),.int .i64 0,.int .i64 0,.string (⟨#[]⟩ : ByteArray)] 50 (0,0))):=⟨by rw [← hq_];exact (z1 K185.1)⟩;replace K193 : Aside0 (w32.heap[G193]? = some (.cells #[.int .i64 t186,.int .i64 t187,.float .f64 t188,.int .i64 t189,.float .f64 t190,.int .i64 t191] 39 (0,0))):=⟨by rw [← hq_];exact (z1 K193.1)⟩;replace HB : Aside0 (Below w.heap.size w w32):=⟨by rw [← hq_];exact (zH HB)⟩;clear hq_));obtain ⟨hcz34_0,hcz34_1,hcz34_2,hcz34_3,hcz34_4,hcz34_5,hcz34_6,hcz34_7,hcz34_8,hcz34_9,hcz34_10,hcz34_11,hfz34_0,hfz34_1,hfz34_2,hfz34_3,hfz34_4,hfz34_5,hfz34_6,hfz34_7,hfz34_8,hfz34_9,hfz34_10,hfz34_11⟩:=zc12 K184;obtain ⟨hcz35_0,hcz35_1,hcz35_2,hcz35_3,hcz35_4,hcz35_5,hcz35_6,hcz35_7,hcz35_8,hcz35_9,hcz35_10,hcz35_11,hcz35_12,hcz35_13,hfz35_0,hfz35_1,hfz35_2,hfz35_3,hfz35_4,hfz35_5,hfz35_6,hfz35_7,hfz35_8,hfz35_9,hfz35_10,hfz35_11,hfz35_12,hfz35_13⟩:=zc14 K185)|((with_reducible refine gate_store (t:=50) (p:=6) rfl ?_);refine store_event (t:=50) (p:=6) (v:=?vo_w36) (w1:=((((((((((((((w32.setCell ⟨G185,0,none⟩ (.int .i64 4)).setCell ⟨G185,1,none⟩ (.int .i64 0)).setCell ⟨G185,2,none⟩ (.int .i64 a2_0)).setCell ⟨G185,3,none⟩ (.int .i64 a2_1)).setCell ⟨G185,4,none⟩ (.int .i64 a2_2)).setCell ⟨G185,5,none⟩ (.int .i64 a2_3)).setCell ⟨G185,6,none⟩ (.int .i64 a2_4)).setCell ⟨G185,7,none⟩ (.int .i64 a2_5)).setCell ⟨G185,8,none⟩ (.int .u64 a2_6)).setCell ⟨G185,9,none⟩ (.int .i64 a2_7)).setCell ⟨G185,10,none⟩ (.string a2_8)).setCell ⟨G185,11,none⟩ (.int .i64 a2_9)).setCell ⟨G185,12,none⟩ (.int .i64 a2_10)).setCell ⟨G185,13,none⟩ (.string a2_11))) ?hg ?ho ?hn ?hr ?_;(case ho => rfl);(case hg => rfl);(case hn => rfl);(case hr => first|(go_simp;done)|(go_simp;rfl));intro w36 hw;replace K183:=zV hw K183;replace K184:=zV hw K184;replace K185:=zVp hw (.cells #[.int .i64 4,.int .i64 0,.int .i64 a2_0,.int .i64 a2_1,.int .i64 a2_2,.int .i64 a2_3,.int .i64 a2_4,.int .i64 a2_5,.int .u64 a2_6,.int .i64 a2_7,.string a2_8,.int .i64 a2_9,.int .i64 a2_10,.string a2_11] 50 (0,0)) K185;replace K193:=zV hw K193;replace HB:=zU hw HB;clear hw))
    refine bodyPost_ret (results_cell_row rfl _ _ G185 50 #[.int .i64 4,.int .i64 0,.int .i64 a2_0,.int .i64 a2_1,.int .i64 a2_2,.int .i64 a2_3,.int .i64 a2_4,.int .i64 a2_5,.int .u64 a2_6,.int .i64 a2_7,.string a2_8,.int .i64 a2_9,.int .i64 a2_10,.string a2_11] (0,0) _ rfl (zF K185) Try.underlying50 rfl (by kernel_rfl)) rfl ?_
    exact ⟨zE,zH HB⟩
   ·replace c17:=Bool.eq_false_iff.mpr c17
    subst c17
    rw [if_neg (show ¬ (false = true) by decide)] at H
    by_cases c37 : a2_5 = 0
    ·rw [if_pos c37] at H
     have c37b0 : (a2_5 == 0) = true:=beq_iff_eq.mpr c37
     have c37b1 : (a2_5 != 0) = false:=bne_eq_false_iff_eq.mpr c37
     clear c37
     simp only [Option.some.injEq,Prod.mk.injEq] at H
     obtain ⟨rfl,rfl,rfl,rfl,rfl,rfl,rfl,rfl,rfl,rfl,rfl,rfl,rfl,rfl⟩:=H
     go_enter Try.func57,Try.ntmps57
     go_wp2_with (first|((with_reducible refine gate_dst (N:=4) rfl ?_);refine zb (N:=4) (cs:=#[.slice A1_0 l1_0.length c1_0,.bool a1_1]) (t:=24) ?_;intro G183 hg w38 hbox hb;have K183:=Aside0.mk (hbox);have GW183:=zN HB hg;have GE183:=zN HB hg;replace HB:=zS HB hb;clear hb hbox hg)|((with_reducible refine gate_dst (N:=5) rfl ?_);refine zb (N:=5) (cs:=#[.int .i64 a2_0,.int .i64 a2_1,.int .i64 a2_2,.int .i64 a2_3,.int .i64 a2_4,.int .i64 a2_5,.int .u64 a2_6,.int .i64 a2_7,.string a2_8,.int .i64 a2_9,.int .i64 a2_10,.string a2_11]) (t:=48) ?_;intro G184 hg w39 hbox hb;have K184:=Aside0.mk (hbox);have GW184:=zN HB hg;have GE184:=zN HB hg;replace HB:=zS HB hb;have NB183_184:=zL K183 hg;have NB184_183:=zG K183 hg;replace K183:=zB K183 hb;clear hb hbox hg)|((with_reducible refine gate_dst (N:=6) rfl ?_);refine zb (N:=6) (cs:=#[.int .i64 0,.int .i64 0,.int .i64 0,.int .i64 0,.int .i64 0,.int .i64 0,.int .i64 0,.int .i64 0,.int .u64 0,.int .i64 0,.string (⟨#[]⟩ : ByteArray),.int .i64 0,.int .i64 0,.string (⟨#[]⟩ : ByteArray)]) (t:=50) ?_;intro G185 hg w40 hbox hb;have K185:=Aside0.mk (hbox);have GW185:=zN HB hg;have GE185:=zN HB hg;replace HB:=zS HB hb;have NB183_185:=zL K183 hg;have NB185_183:=zG K183 hg;replace K183:=zB K183 hb;have NB184_185:=zL K184 hg;have NB185_184:=zG K184 hg;replace K184:=zB K184 hb;clear hb hbox hg;have:=NB184_183.1;have:=NB183_184.1;have:=NB184_185.1;have:=NB185_184.1;obtain ⟨hcz43_0,hcz43_1,hcz43_2,hcz43_3,hcz43_4,hcz43_5,hcz43_6,hcz43_7,hcz43_8,hcz43_9,hcz43_10,hcz43_11,hfz43_0,hfz43_1,hfz43_2,hfz43_3,hfz43_4,hfz43_5,hfz43_6,hfz43_7,hfz43_8,hfz43_9,hfz43_10,hfz43_11⟩:=zc12 K184;have:=NB183_185.1;have:=NB185_183.1;obtain ⟨hcz45_0,hcz45_1,hfz45_0,hfz45_1⟩:=zc2 K183)|((with_reducible refine gate_callee (f:=78) rfl ?_);refine zg (some 19) Try.func78 #[.int .i64 a0,.agg #[.slice A1_0 l1_0.length c1_0,.bool a1_1],.agg #[.int .i64 a2_0,.int .i64 a2_1,.int .i64 a2_2,.int .i64 a2_3,.int .i64 a2_4,.int .i64 a2_5,.int .u64 a2_6,.int .i64 a2_7,.string a2_8,.int .i64 a2_9,.int .i64 a2_10,.string a2_11]] ?_;(with_reducible refine (forward_road.calls k a0 _ _ l1_0 a1_1 a2_0 a2_1 a2_2 a2_3 a2_4 a2_5 a2_6 a2_7 a2_8 a2_9 a2_10 a2_11 t186 t187 t188 t189 t190 t191 true _ ?side1 ?side2 A14.out).mono ?_);(case side1 => exact zC (Kd.C_below HR1_0.out HB.1));(case side2 => exact HC1_0.out);rintro e w46 ⟨rfl,hb⟩;refine ⟨_,rfl,?_⟩;replace K183:=zB K183 hb;replace K184:=zB K184 hb;replace K185:=zB K185 hb;replace HB:=zS HB hb;(try clear hb))|((with_reducible refine gate_dst (N:=7) rfl ?_);refine zb (N:=7) (cs:=#[.int .i64 0,.int .i64 0,.float .f64 0,.int .i64 0,.float .f64 0,.int .i64 0]) (t:=39) ?_;intro G193 hg w47 hbox hb;have K193:=Aside0.mk (hbox);have GW193:=zN HB hg;have GE193:=zN HB hg;replace HB:=zS HB hb;have NB183_193:=zL K183 hg;have NB193_183:=zG K183 hg;replace K183:=zB K183 hb;have NB184_193:=zL K184 hg;have NB193_184:=zG K184 hg;replace K184:=zB K184 hb;have NB185_193:=zL K185 hg;have NB193_185:=zG K185 hg;replace K185:=zB K185 hb;clear hb hbox hg;have:=NB193_183.1;have:=NB183_193.1;have:=NB193_184.1;have:=NB184_193.1;have:=NB193_185.1;have:=NB185_193.1;obtain ⟨hcz51_0,hcz51_1,hcz51_2,hcz51_3,hcz51_4,hcz51_5,hfz51_0,hfz51_1,hfz51_2,hfz51_3,hfz51_4,hfz51_5⟩:=zc6 K193)|((with_reducible refine gate_store (t:=39) (p:=7) rfl ?_);refine store_event (t:=39) (p:=7) (v:=?vo_w52) (w1:=((((((w47.setCell ⟨G193,0,none⟩ (.int .i64 t186)).setCell ⟨G193,1,none⟩ (.int .i64 t187)).setCell ⟨G193,2,none⟩ (.float .f64 t188)).setCell ⟨G193,3,none⟩ (.int .i64 t189)).setCell ⟨G193,4,none⟩ (.float .f64 t190)).setCell ⟨G193,5,none⟩ (.int .i64 t191))) ?hg ?ho ?hn ?hr ?_;(case ho => rfl);(case hg => rfl);(case hn => rfl);(case hr => first|(go_simp;done)|(go_simp;rfl));intro w52 hw;replace K183:=zV hw K183;replace K184:=zV hw K184;replace K185:=zV hw K185;replace K193:=zVp hw (.cells #[.int .i64 t186,.int .i64 t187,.float .f64 t188,.int .i64 t189,.float .f64 t190,.int .i64 t191] 39 (0,0)) K193;replace HB:=zU hw HB;clear hw;obtain ⟨hcz53_0,hcz53_1,hcz53_2,hcz53_3,hcz53_4,hcz53_5,hfz53_0,hfz53_1,hfz53_2,hfz53_3,hfz53_4,hfz53_5⟩:=zc6 K193)|((with_reducible refine gate_callee (f:=53) rfl ?_);refine zg (some 30) Try.func53 #[.float .f64 t188,.int .i64 1] ?_;(with_reducible refine (math_IsInf.calls t188 1 false _ A16.out).mono ?_);rintro e w' ⟨rfl,⟨nd,rfl⟩⟩;refine ⟨_,rfl,?_⟩;(try (rw [drewN_self w52];generalize hq_ : World.drewN w52 _ = w52;replace K183 : Aside0 (w52.heap[G183]? = some (.cells #[.slice A1_0 l1_0.length c1_0,.bool a1_1] 24 (0,0))):=⟨by rw [← hq_];exact (z1 K183.1)⟩;replace K184 : Aside0 (w52.heap[G184]? = some (.cells #[.int .i64 a2_0,.int .i64 a2_1,.int .i64 a2_2,.int .i64 a2_3,.int .i64 a2_4,.int .i64 a2_5,.int .u64 a2_6,.int .i64 a2_7,.string a2_8,.int .i64 a2_9,.int .i64 a2_10,.string a2_11] 48 (0,0))):=⟨by rw [← hq_];exact (z1 K184.1)⟩;replace K185 : Aside0 (w52.heap[G185]? = some (.cells #[.int .i64 0,.int .i64 0,.int .i64 0,.int .i64 0,.int .i64 0,.int .i64 0,.int .i64 0,.int .i64 0,.int .u64 0,.int .i64 0,.string (⟨#[]⟩ : ByteArray),.int .i64 0,.int .i64 0,.string (⟨#[]⟩ : ByteArray)] 50 (0,0))):=⟨by rw [← hq_];exact (z1 K185.1)⟩;replace K193 : Aside0 (w52.heap[G193]? = some (.cells #[.int .i64 t186,.int .i64 t187,.float .f64 t188,.int .i64 t189,.float .f64 t190,.int .i64 t191] 39 (0,0))):=⟨by rw [← hq_];exact (z1 K193.1)⟩;replace HB : Aside0 (Below w.heap.size w w52):=⟨by rw [← hq_];exact (zH HB)⟩;clear hq_));obtain ⟨hcz54_0,hcz54_1,hcz54_2,hcz54_3,hcz54_4,hcz54_5,hcz54_6,hcz54_7,hcz54_8,hcz54_9,hcz54_10,hcz54_11,hfz54_0,hfz54_1,hfz54_2,hfz54_3,hfz54_4,hfz54_5,hfz54_6,hfz54_7,hfz54_8,hfz54_9,hfz54_10,hfz54_11⟩:=zc12 K184;obtain ⟨hcz55_0,hcz55_1,hcz55_2,hcz55_3,hcz55_4,hcz55_5,hcz55_6,hcz55_7,hcz55_8,hcz55_9,hcz55_10,hcz55_11,hcz55_12,hcz55_13,hfz55_0,hfz55_1,hfz55_2,hfz55_3,hfz55_4,hfz55_5,hfz55_6,hfz55_7,hfz55_8,hfz55_9,hfz55_10,hfz55_11,hfz55_12,hfz55_13⟩:=zc14 K185)|((with_reducible refine gate_store (t:=50) (p:=6) rfl ?_);refine store_event (t:=50) (p:=6) (v:=?vo_w56) (w1:=((((((((((((((w52.setCell ⟨G185,0,none⟩ (.int .i64 5)).setCell ⟨G185,1,none⟩ (.int .i64 0)).setCell ⟨G185,2,none⟩ (.int .i64 a2_0)).setCell ⟨G185,3,none⟩ (.int .i64 a2_1)).setCell ⟨G185,4,none⟩ (.int .i64 a2_2)).setCell ⟨G185,5,none⟩ (.int .i64 a2_3)).setCell ⟨G185,6,none⟩ (.int .i64 a2_4)).setCell ⟨G185,7,none⟩ (.int .i64 a2_5)).setCell ⟨G185,8,none⟩ (.int .u64 a2_6)).setCell ⟨G185,9,none⟩ (.int .i64 a2_7)).setCell ⟨G185,10,none⟩ (.string a2_8)).setCell ⟨G185,11,none⟩ (.int .i64 a2_9)).setCell ⟨G185,12,none⟩ (.int .i64 a2_10)).setCell ⟨G185,13,none⟩ (.string a2_11))) ?hg ?ho ?hn ?hr ?_;(case ho => rfl);(case hg => rfl);(case hn => rfl);(case hr => first|(go_simp;done)|(go_simp;rfl));intro w56 hw;replace K183:=zV hw K183;replace K184:=zV hw K184;replace K185:=zVp hw (.cells #[.int .i64 5,.int .i64 0,.int .i64 a2_0,.int .i64 a2_1,.int .i64 a2_2,.int .i64 a2_3,.int .i64 a2_4,.int .i64 a2_5,.int .u64 a2_6,.int .i64 a2_7,.string a2_8,.int .i64 a2_9,.int .i64 a2_10,.string a2_11] 50 (0,0)) K185;replace K193:=zV hw K193;replace HB:=zU hw HB;clear hw))
     refine bodyPost_ret (results_cell_row rfl _ _ G185 50 #[.int .i64 5,.int .i64 0,.int .i64 a2_0,.int .i64 a2_1,.int .i64 a2_2,.int .i64 a2_3,.int .i64 a2_4,.int .i64 a2_5,.int .u64 a2_6,.int .i64 a2_7,.string a2_8,.int .i64 a2_9,.int .i64 a2_10,.string a2_11] (0,0) _ rfl (zF K185) Try.underlying50 rfl (by kernel_rfl)) rfl ?_
     exact ⟨zE,zH HB⟩
    ·rw [if_neg c37] at H
     have c37b0 : (a2_5 == 0) = false:=beq_eq_false_iff_ne.mpr c37
     have c37b1 : (a2_5 != 0) = true:=bne_iff_ne.mpr c37
     simp only [Option.some.injEq,Prod.mk.injEq] at H
     obtain ⟨rfl,rfl,rfl,rfl,rfl,rfl,rfl,rfl,rfl,rfl,rfl,rfl,rfl,rfl⟩:=H
     go_enter Try.func57,Try.ntmps57
     go_wp2_with (first|((with_reducible refine gate_dst (N:=4) rfl ?_);refine zb (N:=4) (cs:=#[.slice A1_0 l1_0.length c1_0,.bool a1_1]) (t:=24) ?_;intro G183 hg w57 hbox hb;have K183:=Aside0.mk (hbox);have GW183:=zN HB hg;have GE183:=zN HB hg;replace HB:=zS HB hb;clear hb hbox hg)|((with_reducible refine gate_dst (N:=5) rfl ?_);refine zb (N:=5) (cs:=#[.int .i64 a2_0,.int .i64 a2_1,.int .i64 a2_2,.int .i64 a2_3,.int .i64 a2_4,.int .i64 a2_5,.int .u64 a2_6,.int .i64 a2_7,.string a2_8,.int .i64 a2_9,.int .i64 a2_10,.string a2_11]) (t:=48) ?_;intro G184 hg w58 hbox hb;have K184:=Aside0.mk (hbox);have GW184:=zN HB hg;have GE184:=zN HB hg;replace HB:=zS HB hb;have NB183_184:=zL K183 hg;have NB184_183:=zG K183 hg;replace K183:=zB K183 hb;clear hb hbox hg)|((with_reducible refine gate_dst (N:=6) rfl ?_);refine zb (N:=6) (cs:=#[.int .i64 0,.int .i64 0,.int .i64 0,.int .i64 0,.int .i64 0,.int .i64 0,.int .i64 0,.int .i64 0,.int .u64 0,.int .i64 0,.string (⟨#[]⟩ : ByteArray),.int .i64 0,.int .i64 0,.string (⟨#[]⟩ : ByteArray)]) (t:=50) ?_;intro G185 hg w59 hbox hb;have K185:=Aside0.mk (hbox);have GW185:=zN HB hg;have GE185:=zN HB hg;replace HB:=zS HB hb;have NB183_185:=zL K183 hg;have NB185_183:=zG K183 hg;replace K183:=zB K183 hb;have NB184_185:=zL K184 hg;have NB185_184:=zG K184 hg;replace K184:=zB K184 hb;clear hb hbox hg;have:=NB184_183.1;have:=NB183_184.1;have:=NB184_185.1;have:=NB185_184.1;obtain ⟨hcz62_0,hcz62_1,hcz62_2,hcz62_3,hcz62_4,hcz62_5,hcz62_6,hcz62_7,hcz62_8,hcz62_9,hcz62_10,hcz62_11,hfz62_0,hfz62_1,hfz62_2,hfz62_3,hfz62_4,hfz62_5,hfz62_6,hfz62_7,hfz62_8,hfz62_9,hfz62_10,hfz62_11⟩:=zc12 K184;have:=NB183_185.1;have:=NB185_183.1;obtain ⟨hcz64_0,hcz64_1,hfz64_0,hfz64_1⟩:=zc2 K183)|((with_reducible refine gate_callee (f:=78) rfl ?_);refine zg (some 19) Try.func78 #[.int .i64 a0,.agg #[.slice A1_0 l1_0.length c1_0,.bool a1_1],.agg #[.int .i64 a2_0,.int .i64 a2_1,.int .i64 a2_2,.int .i64 a2_3,.int .i64 a2_4,.int .i64 a2_5,.int .u64 a2_6,.int .i64 a2_7,.string a2_8,.int .i64 a2_9,.int .i64 a2_10,.string a2_11]] ?_;(with_reducible refine (forward_road.calls k a0 _ _ l1_0 a1_1 a2_0 a2_1 a2_2 a2_3 a2_4 a2_5 a2_6 a2_7 a2_8 a2_9 a2_10 a2_11 t186 t187 t188 t189 t190 t191 true _ ?side1 ?side2 A14.out).mono ?_);(case side1 => exact zC (Kd.C_below HR1_0.out HB.1));(case side2 => exact HC1_0.out);rintro e w65 ⟨rfl,hb⟩;refine ⟨_,rfl,?_⟩;replace K183:=zB K183 hb;replace K184:=zB K184 hb;replace K185:=zB K185 hb;replace HB:=zS HB hb;(try clear hb))|((with_reducible refine gate_dst (N:=7) rfl ?_);refine zb (N:=7) (cs:=#[.int .i64 0,.int .i64 0,.float .f64 0,.int .i64 0,.float .f64 0,.int .i64 0]) (t:=39) ?_;intro G193 hg w66 hbox hb;have K193:=Aside0.mk (hbox);have GW193:=zN HB hg;have GE193:=zN HB hg;replace HB:=zS HB hb;have NB183_193:=zL K183 hg;have NB193_183:=zG K183 hg;replace K183:=zB K183 hb;have NB184_193:=zL K184 hg;have NB193_184:=zG K184 hg;replace K184:=zB K184 hb;have NB185_193:=zL K185 hg;have NB193_185:=zG K185 hg;replace K185:=zB K185 hb;clear hb hbox hg;have:=NB193_183.1;have:=NB183_193.1;have:=NB193_184.1;have:=NB184_193.1;have:=NB193_185.1;have:=NB185_193.1;obtain ⟨hcz70_0,hcz70_1,hcz70_2,hcz70_3,hcz70_4,hcz70_5,hfz70_0,hfz70_1,hfz70_2,hfz70_3,hfz70_4,hfz70_5⟩:=zc6 K193)|((with_reducible refine gate_store (t:=39) (p:=7) rfl ?_);refine store_event (t:=39) (p:=7) (v:=?vo_w71) (w1:=((((((w66.setCell ⟨G193,0,none⟩ (.int .i64 t186)).setCell ⟨G193,1,none⟩ (.int .i64 t187)).setCell ⟨G193,2,none⟩ (.float .f64 t188)).setCell ⟨G193,3,none⟩ (.int .i64 t189)).setCell ⟨G193,4,none⟩ (.float .f64 t190)).setCell ⟨G193,5,none⟩ (.int .i64 t191))) ?hg ?ho ?hn ?hr ?_;(case ho => rfl);(case hg => rfl);(case hn => rfl);(case hr => first|(go_simp;done)|(go_simp;rfl));intro w71 hw;replace K183:=zV hw K183;replace K184:=zV hw K184;replace K185:=zV hw K185;replace K193:=zVp hw (.cells #[.int .i64 t186,.int .i64 t187,.float .f64 t188,.int .i64 t189,.float .f64 t190,.int .i64 t191] 39 (0,0)) K193;replace HB:=zU hw HB;clear hw;obtain ⟨hcz72_0,hcz72_1,hcz72_2,hcz72_3,hcz72_4,hcz72_5,hfz72_0,hfz72_1,hfz72_2,hfz72_3,hfz72_4,hfz72_5⟩:=zc6 K193)|((with_reducible refine gate_callee (f:=53) rfl ?_);refine zg (some 30) Try.func53 #[.float .f64 t188,.int .i64 1] ?_;(with_reducible refine (math_IsInf.calls t188 1 false _ A16.out).mono ?_);rintro e w' ⟨rfl,⟨nd,rfl⟩⟩;refine ⟨_,rfl,?_⟩;(try (rw [drewN_self w71];generalize hq_ : World.drewN w71 _ = w71;replace K183 : Aside0 (w71.heap[G183]? = some (.cells #[.slice A1_0 l1_0.length c1_0,.bool a1_1] 24 (0,0))):=⟨by rw [← hq_];exact (z1 K183.1)⟩;replace K184 : Aside0 (w71.heap[G184]? = some (.cells #[.int .i64 a2_0,.int .i64 a2_1,.int .i64 a2_2,.int .i64 a2_3,.int .i64 a2_4,.int .i64 a2_5,.int .u64 a2_6,.int .i64 a2_7,.string a2_8,.int .i64 a2_9,.int .i64 a2_10,.string a2_11] 48 (0,0))):=⟨by rw [← hq_];exact (z1 K184.1)⟩;replace K185 : Aside0 (w71.heap[G185]? = some (.cells #[.int .i64 0,.int .i64 0,.int .i64 0,.int .i64 0,.int .i64 0,.int .i64 0,.int .i64 0,.int .i64 0,.int .u64 0,.int .i64 0,.string (⟨#[]⟩ : ByteArray),.int .i64 0,.int .i64 0,.string (⟨#[]⟩ : ByteArray)] 50 (0,0))):=⟨by rw [← hq_];exact (z1 K185.1)⟩;replace K193 : Aside0 (w71.heap[G193]? = some (.cells #[.int .i64 t186,.int .i64 t187,.float .f64 t188,.int .i64 t189,.float .f64 t190,.int .i64 t191] 39 (0,0))):=⟨by rw [← hq_];exact (z1 K193.1)⟩;replace HB : Aside0 (Below w.heap.size w w71):=⟨by rw [← hq_];exact (zH HB)⟩;clear hq_));obtain ⟨hcz73_0,hcz73_1,hcz73_2,hcz73_3,hcz73_4,hcz73_5,hcz73_6,hcz73_7,hcz73_8,hcz73_9,hcz73_10,hcz73_11,hfz73_0,hfz73_1,hfz73_2,hfz73_3,hfz73_4,hfz73_5,hfz73_6,hfz73_7,hfz73_8,hfz73_9,hfz73_10,hfz73_11⟩:=zc12 K184;obtain ⟨hcz74_0,hcz74_1,hcz74_2,hcz74_3,hcz74_4,hcz74_5,hfz74_0,hfz74_1,hfz74_2,hfz74_3,hfz74_4,hfz74_5⟩:=zc6 K193;obtain ⟨hcz75_0,hcz75_1,hcz75_2,hcz75_3,hcz75_4,hcz75_5,hcz75_6,hcz75_7,hcz75_8,hcz75_9,hcz75_10,hcz75_11,hcz75_12,hcz75_13,hfz75_0,hfz75_1,hfz75_2,hfz75_3,hfz75_4,hfz75_5,hfz75_6,hfz75_7,hfz75_8,hfz75_9,hfz75_10,hfz75_11,hfz75_12,hfz75_13⟩:=zc14 K185)|((with_reducible refine gate_store (t:=50) (p:=6) rfl ?_);refine store_event (t:=50) (p:=6) (v:=?vo_w76) (w1:=(((((((((((((((w71.setCell ⟨G184,5,none⟩ (.int .i64 (wrap64 (a2_5 - 1)))).setCell ⟨G185,0,none⟩ (.int .i64 2)).setCell ⟨G185,1,none⟩ (.int .i64 t189)).setCell ⟨G185,2,none⟩ (.int .i64 a2_0)).setCell ⟨G185,3,none⟩ (.int .i64 a2_1)).setCell ⟨G185,4,none⟩ (.int .i64 a2_2)).setCell ⟨G185,5,none⟩ (.int .i64 a2_3)).setCell ⟨G185,6,none⟩ (.int .i64 a2_4)).setCell ⟨G185,7,none⟩ (.int .i64 (wrap64 (a2_5 - 1)))).setCell ⟨G185,8,none⟩ (.int .u64 a2_6)).setCell ⟨G185,9,none⟩ (.int .i64 a2_7)).setCell ⟨G185,10,none⟩ (.string a2_8)).setCell ⟨G185,11,none⟩ (.int .i64 a2_9)).setCell ⟨G185,12,none⟩ (.int .i64 a2_10)).setCell ⟨G185,13,none⟩ (.string a2_11))) ?hg ?ho ?hn ?hr ?_;(case ho => rfl);(case hg => rfl);(case hn => rfl);(case hr => first|(go_simp;done)|(go_simp;rfl));intro w76 hw;replace K183:=zV hw K183;replace K184:=zVp hw (.cells #[.int .i64 a2_0,.int .i64 a2_1,.int .i64 a2_2,.int .i64 a2_3,.int .i64 a2_4,.int .i64 (wrap64 (a2_5 - 1)),.int .u64 a2_6,.int .i64 a2_7,.string a2_8,.int .i64 a2_9,.int .i64 a2_10,.string a2_11] 48 (0,0)) K184;replace K185:=zVp hw (.cells #[.int .i64 2,.int .i64 t189,.int .i64 a2_0,.int .i64 a2_1,.int .i64 a2_2,.int .i64 a2_3,.int .i64 a2_4,.int .i64 (wrap64 (a2_5 - 1)),.int .u64 a2_6,.int .i64 a2_7,.string a2_8,.int .i64 a2_9,.int .i64 a2_10,.string a2_11] 50 (0,0)) K185;replace K193:=zV hw K193;replace HB:=zU hw HB;clear hw))
     refine bodyPost_ret (results_cell_row rfl _ _ G185 50 #[.int .i64 2,.int .i64 t189,.int .i64 a2_0,.int .i64 a2_1,.int .i64 a2_2,.int .i64 a2_3,.int .i64 a2_4,.int .i64 (wrap64 (a2_5 - 1)),.int .u64 a2_6,.int .i64 a2_7,.string a2_8,.int .i64 a2_9,.int .i64 a2_10,.string a2_11] (0,0) _ rfl (zF K185) Try.underlying50 rfl (by kernel_rfl)) rfl ?_
     exact ⟨zE,zH HB⟩
  ·replace c15:=Bool.eq_false_iff.mpr c15
   subst c15
   rw [if_neg (show ¬ (false = true) by decide)] at H
   simp only [Option.some.injEq,Prod.mk.injEq] at H
   obtain ⟨rfl,rfl,rfl,rfl,rfl,rfl,rfl,rfl,rfl,rfl,rfl,rfl,rfl,rfl⟩:=H
   go_enter Try.func57,Try.ntmps57
   go_wp2_with (first|((with_reducible refine gate_dst (N:=4) rfl ?_);refine zb (N:=4) (cs:=#[.slice A1_0 l1_0.length c1_0,.bool a1_1]) (t:=24) ?_;intro G183 hg w77 hbox hb;have K183:=Aside0.mk (hbox);have GW183:=zN HB hg;have GE183:=zN HB hg;replace HB:=zS HB hb;clear hb hbox hg)|((with_reducible refine gate_dst (N:=5) rfl ?_);refine zb (N:=5) (cs:=#[.int .i64 a2_0,.int .i64 a2_1,.int .i64 a2_2,.int .i64 a2_3,.int .i64 a2_4,.int .i64 a2_5,.int .u64 a2_6,.int .i64 a2_7,.string a2_8,.int .i64 a2_9,.int .i64 a2_10,.string a2_11]) (t:=48) ?_;intro G184 hg w78 hbox hb;have K184:=Aside0.mk (hbox);have GW184:=zN HB hg;have GE184:=zN HB hg;replace HB:=zS HB hb;have NB183_184:=zL K183 hg;have NB184_183:=zG K183 hg;replace K183:=zB K183 hb;clear hb hbox hg)|((with_reducible refine gate_dst (N:=6) rfl ?_);refine zb (N:=6) (cs:=#[.int .i64 0,.int .i64 0,.int .i64 0,.int .i64 0,.int .i64 0,.int .i64 0,.int .i64 0,.int .i64 0,.int .u64 0,.int .i64 0,.string (⟨#[]⟩ : ByteArray),.int .i64 0,.int .i64 0,.string (⟨#[]⟩ : ByteArray)]) (t:=50) ?_;intro G185 hg w79 hbox hb;have K185:=Aside0.mk (hbox);have GW185:=zN HB hg;have GE185:=zN HB hg;replace HB:=zS HB hb;have NB183_185:=zL K183 hg;have NB185_183:=zG K183 hg;replace K183:=zB K183 hb;have NB184_185:=zL K184 hg;have NB185_184:=zG K184 hg;replace K184:=zB K184 hb;clear hb hbox hg;have:=NB184_183.1;have:=NB183_184.1;have:=NB184_185.1;have:=NB185_184.1;obtain ⟨hcz82_0,hcz82_1,hcz82_2,hcz82_3,hcz82_4,hcz82_5,hcz82_6,hcz82_7,hcz82_8,hcz82_9,hcz82_10,hcz82_11,hfz82_0,hfz82_1,hfz82_2,hfz82_3,hfz82_4,hfz82_5,hfz82_6,hfz82_7,hfz82_8,hfz82_9,hfz82_10,hfz82_11⟩:=zc12 K184;have:=NB183_185.1;have:=NB185_183.1;obtain ⟨hcz84_0,hcz84_1,hfz84_0,hfz84_1⟩:=zc2 K183)|((with_reducible refine gate_callee (f:=78) rfl ?_);refine zg (some 19) Try.func78 #[.int .i64 a0,.agg #[.slice A1_0 l1_0.length c1_0,.bool a1_1],.agg #[.int .i64 a2_0,.int .i64 a2_1,.int .i64 a2_2,.int .i64 a2_3,.int .i64 a2_4,.int .i64 a2_5,.int .u64 a2_6,.int .i64 a2_7,.string a2_8,.int .i64 a2_9,.int .i64 a2_10,.string a2_11]] ?_;(with_reducible refine (forward_road.calls k a0 _ _ l1_0 a1_1 a2_0 a2_1 a2_2 a2_3 a2_4 a2_5 a2_6 a2_7 a2_8 a2_9 a2_10 a2_11 t186 t187 t188 t189 t190 t191 false _ ?side1 ?side2 A14.out).mono ?_);(case side1 => exact zC (Kd.C_below HR1_0.out HB.1));(case side2 => exact HC1_0.out);rintro e w85 ⟨rfl,hb⟩;refine ⟨_,rfl,?_⟩;replace K183:=zB K183 hb;replace K184:=zB K184 hb;replace K185:=zB K185 hb;replace HB:=zS HB hb;(try clear hb))|((with_reducible refine gate_dst (N:=7) rfl ?_);refine zb (N:=7) (cs:=#[.int .i64 0,.int .i64 0,.float .f64 0,.int .i64 0,.float .f64 0,.int .i64 0]) (t:=39) ?_;intro G193 hg w86 hbox hb;have K193:=Aside0.mk (hbox);have GW193:=zN HB hg;have GE193:=zN HB hg;replace HB:=zS HB hb;have NB183_193:=zL K183 hg;have NB193_183:=zG K183 hg;replace K183:=zB K183 hb;have NB184_193:=zL K184 hg;have NB193_184:=zG K184 hg;replace K184:=zB K184 hb;have NB185_193:=zL K185 hg;have NB193_185:=zG K185 hg;replace K185:=zB K185 hb;clear hb hbox hg;have:=NB193_183.1;have:=NB183_193.1;have:=NB193_184.1;have:=NB184_193.1;have:=NB193_185.1;have:=NB185_193.1;obtain ⟨hcz90_0,hcz90_1,hcz90_2,hcz90_3,hcz90_4,hcz90_5,hfz90_0,hfz90_1,hfz90_2,hfz90_3,hfz90_4,hfz90_5⟩:=zc6 K193)|((with_reducible refine gate_store (t:=39) (p:=7) rfl ?_);refine store_event (t:=39) (p:=7) (v:=?vo_w91) (w1:=((((((w86.setCell ⟨G193,0,none⟩ (.int .i64 t186)).setCell ⟨G193,1,none⟩ (.int .i64 t187)).setCell ⟨G193,2,none⟩ (.float .f64 t188)).setCell ⟨G193,3,none⟩ (.int .i64 t189)).setCell ⟨G193,4,none⟩ (.float .f64 t190)).setCell ⟨G193,5,none⟩ (.int .i64 t191))) ?hg ?ho ?hn ?hr ?_;(case ho => rfl);(case hg => rfl);(case hn => rfl);(case hr => first|(go_simp;done)|(go_simp;rfl));intro w91 hw;replace K183:=zV hw K183;replace K184:=zV hw K184;replace K185:=zV hw K185;replace K193:=zVp hw (.cells #[.int .i64 t186,.int .i64 t187,.float .f64 t188,.int .i64 t189,.float .f64 t190,.int .i64 t191] 39 (0,0)) K193;replace HB:=zU hw HB;clear hw;obtain ⟨hcz92_0,hcz92_1,hcz92_2,hcz92_3,hcz92_4,hcz92_5,hcz92_6,hcz92_7,hcz92_8,hcz92_9,hcz92_10,hcz92_11,hfz92_0,hfz92_1,hfz92_2,hfz92_3,hfz92_4,hfz92_5,hfz92_6,hfz92_7,hfz92_8,hfz92_9,hfz92_10,hfz92_11⟩:=zc12 K184;obtain ⟨hcz93_0,hcz93_1,hcz93_2,hcz93_3,hcz93_4,hcz93_5,hcz93_6,hcz93_7,hcz93_8,hcz93_9,hcz93_10,hcz93_11,hcz93_12,hcz93_13,hfz93_0,hfz93_1,hfz93_2,hfz93_3,hfz93_4,hfz93_5,hfz93_6,hfz93_7,hfz93_8,hfz93_9,hfz93_10,hfz93_11,hfz93_12,hfz93_13⟩:=zc14 K185)|((with_reducible refine gate_store (t:=50) (p:=6) rfl ?_);refine store_event (t:=50) (p:=6) (v:=?vo_w94) (w1:=((((((((((((((w91.setCell ⟨G185,0,none⟩ (.int .i64 3)).setCell ⟨G185,1,none⟩ (.int .i64 0)).setCell ⟨G185,2,none⟩ (.int .i64 a2_0)).setCell ⟨G185,3,none⟩ (.int .i64 a2_1)).setCell ⟨G185,4,none⟩ (.int .i64 a2_2)).setCell ⟨G185,5,none⟩ (.int .i64 a2_3)).setCell ⟨G185,6,none⟩ (.int .i64 a2_4)).setCell ⟨G185,7,none⟩ (.int .i64 a2_5)).setCell ⟨G185,8,none⟩ (.int .u64 a2_6)).setCell ⟨G185,9,none⟩ (.int .i64 a2_7)).setCell ⟨G185,10,none⟩ (.string a2_8)).setCell ⟨G185,11,none⟩ (.int .i64 a2_9)).setCell ⟨G185,12,none⟩ (.int .i64 a2_10)).setCell ⟨G185,13,none⟩ (.string a2_11))) ?hg ?ho ?hn ?hr ?_;(case ho => rfl);(case hg => rfl);(case hn => rfl);(case hr => first|(go_simp;done)|(go_simp;rfl));intro w94 hw;replace K183:=zV hw K183;replace K184:=zV hw K184;replace K185:=zVp hw (.cells #[.int .i64 3,.int .i64 0,.int .i64 a2_0,.int .i64 a2_1,.int .i64 a2_2,.int .i64 a2_3,.int .i64 a2_4,.int .i64 a2_5,.int .u64 a2_6,.int .i64 a2_7,.string a2_8,.int .i64 a2_9,.int .i64 a2_10,.string a2_11] 50 (0,0)) K185;replace K193:=zV hw K193;replace HB:=zU hw HB;clear hw))
   refine bodyPost_ret (results_cell_row rfl _ _ G185 50 #[.int .i64 3,.int .i64 0,.int .i64 a2_0,.int .i64 a2_1,.int .i64 a2_2,.int .i64 a2_3,.int .i64 a2_4,.int .i64 a2_5,.int .u64 a2_6,.int .i64 a2_7,.string a2_8,.int .i64 a2_9,.int .i64 a2_10,.string a2_11] (0,0) _ rfl (zF K185) Try.underlying50 rfl (by kernel_rfl)) rfl ?_
   exact ⟨zE,zH HB⟩

/-! ### forward_Decide: function 28 -/
def forward_Decide.f (k : Nat) (a0 : Int) (l1_0 : List (S39)) (a1_1 : Bool) (a2_0 : Int) (a2_1 : Int) (a2_2 : Int) (a2_3 : Int) (a2_4 : Int) (a2_5 : Int) (a2_6 : Int) (a2_7 : Int) (a2_8 : ByteArray) (a2_9 : Int) (a2_10 : Int) (a2_11 : ByteArray) : Option (Int × Int × Int × Int × Int × Int × Int × Int × Int × Int × ByteArray × Int × Int × ByteArray × Int) := (ident_CheckId.f a0).bind fun t198 => (if t198 = 0 then ((forward_may.f k a2_0 a2_1 a2_2 a2_3 a2_4 a2_5 a2_6 a2_7 a2_8 a2_9 a2_10 a2_11).bind fun t199 => (if t199 = true then ((table_Check.f k l1_0 a1_1).bind fun t200 => (if t200 = 0 then ((forward_decide.f k a0 l1_0 a1_1 a2_0 a2_1 a2_2 a2_3 a2_4 a2_5 a2_6 a2_7 a2_8 a2_9 a2_10 a2_11).bind fun bt201 => (some (bt201.1, bt201.2.1, bt201.2.2.1, bt201.2.2.2.1, bt201.2.2.2.2.1, bt201.2.2.2.2.2.1, bt201.2.2.2.2.2.2.1, bt201.2.2.2.2.2.2.2.1, bt201.2.2.2.2.2.2.2.2.1, bt201.2.2.2.2.2.2.2.2.2.1, bt201.2.2.2.2.2.2.2.2.2.2.1, bt201.2.2.2.2.2.2.2.2.2.2.2.1, bt201.2.2.2.2.2.2.2.2.2.2.2.2.1, bt201.2.2.2.2.2.2.2.2.2.2.2.2.2, 0))) else (some (0, 0, 0, 0, 0, 0, 0, 0, 0, 0, (⟨#[]⟩ : ByteArray), 0, 0, (⟨#[]⟩ : ByteArray), t200)))) else (some (0, 0, 0, 0, 0, 0, 0, 0, 0, 0, (⟨#[]⟩ : ByteArray), 0, 0, (⟨#[]⟩ : ByteArray), 60)))) else (some (0, 0, 0, 0, 0, 0, 0, 0, 0, 0, (⟨#[]⟩ : ByteArray), 0, 0, (⟨#[]⟩ : ByteArray), t198)))
theorem forward_Decide.mono : ∀ a0 a1 a2 a3 a4 a5 a6 a7 a8 a9 a10 a11 a12 a13 a14 k, LeO (forward_Decide.f k a0 a1 a2 a3 a4 a5 a6 a7 a8 a9 a10 a11 a12 a13 a14) (forward_Decide.f (k + 1) a0 a1 a2 a3 a4 a5 a6 a7 a8 a9 a10 a11 a12 a13 a14) := by
 intro a0 a1 a2 a3 a4 a5 a6 a7 a8 a9 a10 a11 a12 a13 a14 k
 unfold forward_Decide.f
 repeat' first
   | (with_reducible exact forward_decide.mono _ _ _ _ _ _ _ _ _ _ _ _ _ _ _ _)
   | (with_reducible exact forward_may.mono _ _ _ _ _ _ _ _ _ _ _ _ _)
   | (with_reducible exact table_Check.mono _ _ _)
   | (with_reducible exact LeO.refl _)
   | (with_reducible exact LeO.none _)
   | (with_reducible refine LeO.ite ?_ ?_)
   | (with_reducible refine LeO.bind ?_ (fun _ => ?_))
   | exact forward_decide.mono _ _ _ _ _ _ _ _ _ _ _ _ _ _ _ _
   | exact forward_may.mono _ _ _ _ _ _ _ _ _ _ _ _ _
   | exact table_Check.mono _ _ _
   | exact LeO.none _
   | refine LeO.ite ?_ ?_
   | refine LeO.bind ?_ (fun _ => ?_)
set_option maxHeartbeats 8000000 in
set_option maxRecDepth 100000 in
theorem forward_Decide.calls (k : Nat) (a0 : Int) (A1_0 : Option Addr) (c1_0 : Nat) (l1_0 : List (S39)) (a1_1 : Bool) (a2_0 : Int) (a2_1 : Int) (a2_2 : Int) (a2_3 : Int) (a2_4 : Int) (a2_5 : Int) (a2_6 : Int) (a2_7 : Int) (a2_8 : ByteArray) (a2_9 : Int) (a2_10 : Int) (a2_11 : ByteArray) (r1 : Int) (r2 : Int) (r3 : Int) (r4 : Int) (r5 : Int) (r6 : Int) (r7 : Int) (r8 : Int) (r9 : Int) (r10 : Int) (r11 : ByteArray) (r12 : Int) (r13 : Int) (r14 : ByteArray) (r15 : Int) (w : World) (hr1_0 : Kd.C k39 w A1_0 l1_0.length l1_0) (hc1_0 : l1_0.length ≤ c1_0) (h : forward_Decide.f k a0 l1_0 a1_1 a2_0 a2_1 a2_2 a2_3 a2_4 a2_5 a2_6 a2_7 a2_8 a2_9 a2_10 a2_11 = some (r1, r2, r3, r4, r5, r6, r7, r8, r9, r10, r11, r12, r13, r14, r15)) :
  Calls Try.prog 28 #[.int .i64 a0,.agg #[.slice A1_0 l1_0.length c1_0,.bool a1_1],.agg #[.int .i64 a2_0,.int .i64 a2_1,.int .i64 a2_2,.int .i64 a2_3,.int .i64 a2_4,.int .i64 a2_5,.int .u64 a2_6,.int .i64 a2_7,.string a2_8,.int .i64 a2_9,.int .i64 a2_10,.string a2_11]] w fun e w' => e = .returned (.tuple #[.agg #[.int .i64 r1,.int .i64 r2,.int .i64 r3,.int .i64 r4,.int .i64 r5,.int .i64 r6,.int .i64 r7,.int .i64 r8,.int .u64 r9,.int .i64 r10,.string r11,.int .i64 r12,.int .i64 r13,.string r14],.int .i64 r15]) ∧ Below w.heap.size w w':=by
 have hu24:=Try.underlying24
 have hu48:=Try.underlying48
 have hu50:=Try.underlying50
 have HR1_0:=Aside0.mk hr1_0
 have HC1_0:=Aside0.mk hc1_0
 clear hr1_0 hc1_0
 have HB:=Aside0.mk (Below.refl w.heap.size w)
 have H : ((ident_CheckId.f a0).bind fun t198 => (if t198 = 0 then ((forward_may.f k a2_0 a2_1 a2_2 a2_3 a2_4 a2_5 a2_6 a2_7 a2_8 a2_9 a2_10 a2_11).bind fun t199 => (if t199 = true then ((table_Check.f k l1_0 a1_1).bind fun t200 => (if t200 = 0 then ((forward_decide.f k a0 l1_0 a1_1 a2_0 a2_1 a2_2 a2_3 a2_4 a2_5 a2_6 a2_7 a2_8 a2_9 a2_10 a2_11).bind fun bt201 => (some (bt201.1,bt201.2.1,bt201.2.2.1,bt201.2.2.2.1,bt201.2.2.2.2.1,bt201.2.2.2.2.2.1,bt201.2.2.2.2.2.2.1,bt201.2.2.2.2.2.2.2.1,bt201.2.2.2.2.2.2.2.2.1,bt201.2.2.2.2.2.2.2.2.2.1,bt201.2.2.2.2.2.2.2.2.2.2.1,bt201.2.2.2.2.2.2.2.2.2.2.2.1,bt201.2.2.2.2.2.2.2.2.2.2.2.2.1,bt201.2.2.2.2.2.2.2.2.2.2.2.2.2,0))) else (some (0,0,0,0,0,0,0,0,0,0,(⟨#[]⟩ : ByteArray),0,0,(⟨#[]⟩ : ByteArray),t200)))) else (some (0,0,0,0,0,0,0,0,0,0,(⟨#[]⟩ : ByteArray),0,0,(⟨#[]⟩ : ByteArray),60)))) else (some (0,0,0,0,0,0,0,0,0,0,(⟨#[]⟩ : ByteArray),0,0,(⟨#[]⟩ : ByteArray),t198)))) = some (r1,r2,r3,r4,r5,r6,r7,r8,r9,r10,r11,r12,r13,r14,r15):=h
 clear h
 replace H:=Option.bind_eq_some_iff.mp H
 obtain ⟨t198,A40,H⟩:=H
 (try dsimp only at H)
 have A4:=Aside0.mk A40
 clear A40
 by_cases c5 : t198 = 0
 ·rw [if_pos c5] at H
  have c5b0 : (t198 == 0) = true:=beq_iff_eq.mpr c5
  have c5b1 : (t198 != 0) = false:=bne_eq_false_iff_eq.mpr c5
  clear c5
  replace H:=Option.bind_eq_some_iff.mp H
  obtain ⟨t199,A60,H⟩:=H
  (try dsimp only at H)
  have A6:=Aside0.mk A60
  clear A60
  by_cases c7 : t199 = true
  ·subst c7
   rw [if_pos rfl] at H
   replace H:=Option.bind_eq_some_iff.mp H
   obtain ⟨t200,A80,H⟩:=H
   (try dsimp only at H)
   have A8:=Aside0.mk A80
   clear A80
   by_cases c9 : t200 = 0
   ·rw [if_pos c9] at H
    have c9b0 : (t200 == 0) = true:=beq_iff_eq.mpr c9
    have c9b1 : (t200 != 0) = false:=bne_eq_false_iff_eq.mpr c9
    clear c9
    replace H:=Option.bind_eq_some_iff.mp H
    obtain ⟨⟨t201,t202,t203,t204,t205,t206,t207,t208,t209,t210,t211,t212,t213,t214⟩,A100,H⟩:=H
    (try dsimp only at H)
    have A10:=Aside0.mk A100
    clear A100
    simp only [Option.some.injEq,Prod.mk.injEq] at H
    obtain ⟨rfl,rfl,rfl,rfl,rfl,rfl,rfl,rfl,rfl,rfl,rfl,rfl,rfl,rfl,rfl⟩:=H
    go_enter Try.func28,Try.ntmps28
    go_wp2_with (first|((with_reducible refine gate_dst (N:=4) rfl ?_);refine zb (N:=4) (cs:=#[.slice A1_0 l1_0.length c1_0,.bool a1_1]) (t:=24) ?_;intro G195 hg w11 hbox hb;have K195:=Aside0.mk (hbox);have GW195:=zN HB hg;have GE195:=zN HB hg;replace HB:=zS HB hb;clear hb hbox hg)|((with_reducible refine gate_dst (N:=5) rfl ?_);refine zb (N:=5) (cs:=#[.int .i64 a2_0,.int .i64 a2_1,.int .i64 a2_2,.int .i64 a2_3,.int .i64 a2_4,.int .i64 a2_5,.int .u64 a2_6,.int .i64 a2_7,.string a2_8,.int .i64 a2_9,.int .i64 a2_10,.string a2_11]) (t:=48) ?_;intro G196 hg w12 hbox hb;have K196:=Aside0.mk (hbox);have GW196:=zN HB hg;have GE196:=zN HB hg;replace HB:=zS HB hb;have NB195_196:=zL K195 hg;have NB196_195:=zG K195 hg;replace K195:=zB K195 hb;clear hb hbox hg)|((with_reducible refine gate_dst (N:=6) rfl ?_);refine zb (N:=6) (cs:=#[.int .i64 0,.int .i64 0,.int .i64 0,.int .i64 0,.int .i64 0,.int .i64 0,.int .i64 0,.int .i64 0,.int .u64 0,.int .i64 0,.string (⟨#[]⟩ : ByteArray),.int .i64 0,.int .i64 0,.string (⟨#[]⟩ : ByteArray)]) (t:=50) ?_;intro G197 hg w13 hbox hb;have K197:=Aside0.mk (hbox);have GW197:=zN HB hg;have GE197:=zN HB hg;replace HB:=zS HB hb;have NB195_197:=zL K195 hg;have NB197_195:=zG K195 hg;replace K195:=zB K195 hb;have NB196_197:=zL K196 hg;have NB197_196:=zG K196 hg;replace K196:=zB K196 hb;clear hb hbox hg)|((with_reducible refine gate_callee (f:=55) rfl ?_);refine zg (some 11) Try.func55 #[.int .i64 a0] ?_;(with_reducible refine (ident_CheckId.calls a0 t198 _ A4.out).mono ?_);rintro e w' ⟨rfl,⟨nd,rfl⟩⟩;refine ⟨_,rfl,?_⟩;(try (rw [drewN_self w13];generalize hq_ : World.drewN w13 _ = w13;replace K195 : Aside0 (w13.heap[G195]? = some (.cells #[.slice A1_0 l1_0.length c1_0,.bool a1_1] 24 (0,0))):=⟨by rw [← hq_];exact (z1 K195.1)⟩;replace K196 : Aside0 (w13.heap[G196]? = some (.cells #[.int .i64 a2_0,.int .i64 a2_1,.int .i64 a2_2,.int .i64 a2_3,.int .i64 a2_4,.int .i64 a2_5,.int .u64 a2_6,.int .i64 a2_7,.string a2_8,.int .i64 a2_9,.int .i64 a2_10,.string a2_11] 48 (0,0))):=⟨by rw [← hq_];exact (z1 K196.1)⟩;replace K197 : Aside0 (w13.heap[G197]? = some (.cells #[.int .i64 0,.int .i64 0,.int .i64 0,.int .i64 0,.int .i64 0,.int .i64 0,.int .i64 0,.int .i64 0,.int .u64 0,.int .i64 0,.string (⟨#[]⟩ : ByteArray),.int .i64 0,.int .i64 0,.string (⟨#[]⟩ : ByteArray)] 50 (0,0))):=⟨by rw [← hq_];exact (z1 K197.1)⟩;replace HB : Aside0 (Below w.heap.size w w13):=⟨by rw [← hq_];exact (zH HB)⟩;clear hq_));have:=NB196_195.1;have:=NB195_196.1;have:=NB196_197.1;have:=NB197_196.1;obtain ⟨hcz16_0,hcz16_1,hcz16_2,hcz16_3,hcz16_4,hcz16_5,hcz16_6,hcz16_7,hcz16_8,hcz16_9,hcz16_10,hcz16_11,hfz16_0,hfz16_1,hfz16_2,hfz16_3,hfz16_4,hfz16_5,hfz16_6,hfz16_7,hfz16_8,hfz16_9,hfz16_10,hfz16_11⟩:=zc12 K196)|((with_reducible refine gate_callee (f:=56) rfl ?_);refine zg (some 17) Try.func56 #[.agg #[.int .i64 a2_0,.int .i64 a2_1,.int .i64 a2_2,.int .i64 a2_3,.int .i64 a2_4,.int .i64 a2_5,.int .u64 a2_6,.int .i64 a2_7,.string a2_8,.int .i64 a2_9,.int .i64 a2_10,.string a2_11]] ?_;(with_reducible refine (forward_may.calls k a2_0 a2_1 a2_2 a2_3 a2_4 a2_5 a2_6 a2_7 a2_8 a2_9 a2_10 a2_11 true _ A6.out).mono ?_);rintro e w17 ⟨rfl,hb⟩;refine ⟨_,rfl,?_⟩;replace K195:=zB K195 hb;replace K196:=zB K196 hb;replace K197:=zB K197 hb;replace HB:=zS HB hb;(try clear hb);have:=NB195_197.1;have:=NB197_195.1;obtain ⟨hcz19_0,hcz19_1,hfz19_0,hfz19_1⟩:=zc2 K195)|((with_reducible refine gate_callee (f:=19) rfl ?_);refine zg (some 21) Try.func19 #[.agg #[.slice A1_0 l1_0.length c1_0,.bool a1_1]] ?_;(with_reducible refine (table_Check.calls k _ _ l1_0 a1_1 t200 _ ?side1 ?side2 A8.out).mono ?_);(case side1 => exact zC (Kd.C_below HR1_0.out HB.1));(case side2 => exact HC1_0.out);rintro e w20 ⟨rfl,hb⟩;refine ⟨_,rfl,?_⟩;replace K195:=zB K195 hb;replace K196:=zB K196 hb;replace K197:=zB K197 hb;replace HB:=zS HB hb;(try clear hb);obtain ⟨hcz21_0,hcz21_1,hfz21_0,hfz21_1⟩:=zc2 K195;obtain ⟨hcz22_0,hcz22_1,hcz22_2,hcz22_3,hcz22_4,hcz22_5,hcz22_6,hcz22_7,hcz22_8,hcz22_9,hcz22_10,hcz22_11,hfz22_0,hfz22_1,hfz22_2,hfz22_3,hfz22_4,hfz22_5,hfz22_6,hfz22_7,hfz22_8,hfz22_9,hfz22_10,hfz22_11⟩:=zc12 K196)|((with_reducible refine gate_callee (f:=57) rfl ?_);refine zg (some 29) Try.func57 #[.int .i64 a0,.agg #[.slice A1_0 l1_0.length c1_0,.bool a1_1],.agg #[.int .i64 a2_0,.int .i64 a2_1,.int .i64 a2_2,.int .i64 a2_3,.int .i64 a2_4,.int .i64 a2_5,.int .u64 a2_6,.int .i64 a2_7,.string a2_8,.int .i64 a2_9,.int .i64 a2_10,.string a2_11]] ?_;(with_reducible refine (forward_decide.calls k a0 _ _ l1_0 a1_1 a2_0 a2_1 a2_2 a2_3 a2_4 a2_5 a2_6 a2_7 a2_8 a2_9 a2_10 a2_11 t201 t202 t203 t204 t205 t206 t207 t208 t209 t210 t211 t212 t213 t214 _ ?side1 ?side2 A10.out).mono ?_);(case side1 => exact zC (Kd.C_below HR1_0.out HB.1));(case side2 => exact HC1_0.out);rintro e w23 ⟨rfl,hb⟩;refine ⟨_,rfl,?_⟩;replace K195:=zB K195 hb;replace K196:=zB K196 hb;replace K197:=zB K197 hb;replace HB:=zS HB hb;(try clear hb);obtain ⟨hcz24_0,hcz24_1,hcz24_2,hcz24_3,hcz24_4,hcz24_5,hcz24_6,hcz24_7,hcz24_8,hcz24_9,hcz24_10,hcz24_11,hcz24_12,hcz24_13,hfz24_0,hfz24_1,hfz24_2,hfz24_3,hfz24_4,hfz24_5,hfz24_6,hfz24_7,hfz24_8,hfz24_9,hfz24_10,hfz24_11,hfz24_12,hfz24_13⟩:=zc14 K197)|((with_reducible refine gate_store (t:=50) (p:=6) rfl ?_);refine store_event (t:=50) (p:=6) (v:=?vo_w25) (w1:=((((((((((((((w23.setCell ⟨G197,0,none⟩ (.int .i64 t201)).setCell ⟨G197,1,none⟩ (.int .i64 t202)).setCell ⟨G197,2,none⟩ (.int .i64 t203)).setCell ⟨G197,3,none⟩ (.int .i64 t204)).setCell ⟨G197,4,none⟩ (.int .i64 t205)).setCell ⟨G197,5,none⟩ (.int .i64 t206)).setCell ⟨G197,6,none⟩ (.int .i64 t207)).setCell ⟨G197,7,none⟩ (.int .i64 t208)).setCell ⟨G197,8,none⟩ (.int .u64 t209)).setCell ⟨G197,9,none⟩ (.int .i64 t210)).setCell ⟨G197,10,none⟩ (.string t211)).setCell ⟨G197,11,none⟩ (.int .i64 t212)).setCell ⟨G197,12,none⟩ (.int .i64 t213)).setCell ⟨G197,13,none⟩ (.string t214))) ?hg ?ho ?hn ?hr ?_;(case ho => rfl);(case hg => rfl);(case hn => rfl);(case hr => first|(go_simp;done)|(go_simp;rfl));intro w25 hw;replace K195:=zV hw K195;replace K196:=zV hw K196;replace K197:=zVp hw (.cells #[.int .i64 t201,.int .i64 t202,.int .i64 t203,.int .i64 t204,.int .i64 t205,.int .i64 t206,.int .i64 t207,.int .i64 t208,.int .u64 t209,.int .i64 t210,.string t211,.int .i64 t212,.int .i64 t213,.string t214] 50 (0,0)) K197;replace HB:=zU hw HB;clear hw))
    refine bodyPost_ret (results_ct rfl _ _ G197 50 #[.int .i64 t201,.int .i64 t202,.int .i64 t203,.int .i64 t204,.int .i64 t205,.int .i64 t206,.int .i64 t207,.int .i64 t208,.int .u64 t209,.int .i64 t210,.string t211,.int .i64 t212,.int .i64 t213,.string t214] (0,0) _ rfl (zF K197) Try.underlying50 rfl (by kernel_rfl)) rfl ?_
    exact ⟨zE,zH HB⟩
   ·rw [if_neg c9] at H
    have c9b0 : (t200 == 0) = false:=beq_eq_false_iff_ne.mpr c9
    have c9b1 : (t200 != 0) = true:=bne_iff_ne.mpr c9
    simp only [Option.some.injEq,Prod.mk.injEq] at H
    obtain ⟨rfl,rfl,rfl,rfl,rfl,rfl,rfl,rfl,rfl,rfl,rfl,rfl,rfl,rfl,rfl⟩:=H
    go_enter Try.func28,Try.ntmps28
    go_wp2_with (first|((with_reducible refine gate_dst (N:=4) rfl ?_);refine zb (N:=4) (cs:=#[.slice A1_0 l1_0.length c1_0,.bool a1_1]) (t:=24) ?_;intro G195 hg w26 hbox hb;have K195:=Aside0.mk (hbox);have GW195:=zN HB hg;have GE195:=zN HB hg;replace HB:=zS HB hb;clear hb hbox hg)|((with_reducible refine gate_dst (N:=5) rfl ?_);refine zb (N:=5) (cs:=#[.int .i64 a2_0,.int .i64 a2_1,.int .i64 a2_2,.int .i64 a2_3,.int .i64 a2_4,.int .i64 a2_5,.int .u64 a2_6,.int .i64 a2_7,.string a2_8,.int .i64 a2_9,.int .i64 a2_10,.string a2_11]) (t:=48) ?_;intro G196 hg w27 hbox hb;have K196:=Aside0.mk (hbox);have GW196:=zN HB hg;have GE196:=zN HB hg;replace HB:=zS HB hb;have NB195_196:=zL K195 hg;have NB196_195:=zG K195 hg;replace K195:=zB K195 hb;clear hb hbox hg)|((with_reducible refine gate_dst (N:=6) rfl ?_);refine zb (N:=6) (cs:=#[.int .i64 0,.int .i64 0,.int .i64 0,.int .i64 0,.int .i64 0,.int .i64 0,.int .i64 0,.int .i64 0,.int .u64 0,.int .i64 0,.string (⟨#[]⟩ : ByteArray),.int .i64 0,.int .i64 0,.string (⟨#[]⟩ : ByteArray)]) (t:=50) ?_;intro G197 hg w28 hbox hb;have K197:=Aside0.mk (hbox);have GW197:=zN HB hg;have GE197:=zN HB hg;replace HB:=zS HB hb;have NB195_197:=zL K195 hg;have NB197_195:=zG K195 hg;replace K195:=zB K195 hb;have NB196_197:=zL K196 hg;have NB197_196:=zG K196 hg;replace K196:=zB K196 hb;clear hb hbox hg)|((with_reducible refine gate_callee (f:=55) rfl ?_);refine zg (some 11) Try.func55 #[.int .i64 a0] ?_;(with_reducible refine (ident_CheckId.calls a0 t198 _ A4.out).mono ?_);rintro e w' ⟨rfl,⟨nd,rfl⟩⟩;refine ⟨_,rfl,?_⟩;(try (rw [drewN_self w28];generalize hq_ : World.drewN w28 _ = w28;replace K195 : Aside0 (w28.heap[G195]? = some (.cells #[.slice A1_0 l1_0.length c1_0,.bool a1_1] 24 (0,0))):=⟨by rw [← hq_];exact (z1 K195.1)⟩;replace K196 : Aside0 (w28.heap[G196]? = some (.cells #[.int .i64 a2_0,.int .i64 a2_1,.int .i64 a2_2,.int .i64 a2_3,.int .i64 a2_4,.int .i64 a2_5,.int .u64 a2_6,.int .i64 a2_7,.string a2_8,.int .i64 a2_9,.int .i64 a2_10,.string a2_11] 48 (0,0))):=⟨by rw [← hq_];exact (z1 K196.1)⟩;replace K197 : Aside0 (w28.heap[G197]? = some (.cells #[.int .i64 0,.int .i64 0,.int .i64 0,.int .i64 0,.int .i64 0,.int .i64 0,.int .i64 0,.int .i64 0,.int .u64 0,.int .i64 0,.string (⟨#[]⟩ : ByteArray),.int .i64 0,.int .i64 0,.string (⟨#[]⟩ : ByteArray)] 50 (0,0))):=⟨by rw [← hq_];exact (z1 K197.1)⟩;replace HB : Aside0 (Below w.heap.size w w28):=⟨by rw [← hq_];exact (zH HB)⟩;clear hq_));have:=NB196_195.1;have:=NB195_196.1;have:=NB196_197.1;have:=NB197_196.1;obtain ⟨hcz31_0,hcz31_1,hcz31_2,hcz31_3,hcz31_4,hcz31_5,hcz31_6,hcz31_7,hcz31_8,hcz31_9,hcz31_10,hcz31_11,hfz31_0,hfz31_1,hfz31_2,hfz31_3,hfz31_4,hfz31_5,hfz31_6,hfz31_7,hfz31_8,hfz31_9,hfz31_10,hfz31_11⟩:=zc12 K196)|((with_reducible refine gate_callee (f:=56) rfl ?_);refine zg (some 17) Try.func56 #[.agg #[.int .i64 a2_0,.int .i64 a2_1,.int .i64 a2_2,.int .i64 a2_3,.int .i64 a2_4,.int .i64 a2_5,.int .u64 a2_6,.int .i64 a2_7,.string a2_8,.int .i64 a2_9,.int .i64 a2_10,.string a2_11]] ?_;(with_reducible refine (forward_may.calls k a2_0 a2_1 a2_2 a2_3 a2_4 a2_5 a2_6 a2_7 a2_8 a2_9 a2_10 a2_11 true _ A6.out).mono ?_);rintro e w32 ⟨rfl,hb⟩;refine ⟨_,rfl,?_⟩;replace K195:=zB K195 hb;replace K196:=zB K196 hb;replace K197:=zB K197 hb;replace HB:=zS HB hb;(try clear hb);have:=NB195_197.1;have:=NB197_195.1;obtain ⟨hcz34_0,hcz34_1,hfz34_0,hfz34_1⟩:=zc2 K195)|((with_reducible refine gate_callee (f:=19) rfl ?_);refine zg (some 21) Try.func19 #[.agg #[.slice A1_0 l1_0.length c1_0,.bool a1_1]] ?_;(with_reducible refine (table_Check.calls k _ _ l1_0 a1_1 t200 _ ?side1 ?side2 A8.out).mono ?_);(case side1 => exact zC (Kd.C_below HR1_0.out HB.1));(case side2 => exact HC1_0.out);rintro e w35 ⟨rfl,hb⟩;refine ⟨_,rfl,?_⟩;replace K195:=zB K195 hb;replace K196:=zB K196 hb;replace K197:=zB K197 hb;replace HB:=zS HB hb;(try clear hb);obtain ⟨hcz36_0,hcz36_1,hcz36_2,hcz36_3,hcz36_4,hcz36_5,hcz36_6,hcz36_7,hcz36_8,hcz36_9,hcz36_10,hcz36_11,hcz36_12,hcz36_13,hfz36_0,hfz36_1,hfz36_2,hfz36_3,hfz36_4,hfz36_5,hfz36_6,hfz36_7,hfz36_8,hfz36_9,hfz36_10,hfz36_11,hfz36_12,hfz36_13⟩:=zc14 K197)|((with_reducible refine gate_store (t:=50) (p:=6) rfl ?_);refine store_event (t:=50) (p:=6) (v:=?vo_w37) (w1:=((((((((((((((w35.setCell ⟨G197,0,none⟩ (.int .i64 0)).setCell ⟨G197,1,none⟩ (.int .i64 0)).setCell ⟨G197,2,none⟩ (.int .i64 0)).setCell ⟨G197,3,none⟩ (.int .i64 0)).setCell ⟨G197,4,none⟩ (.int .i64 0)).setCell ⟨G197,5,none⟩ (.int .i64 0)).setCell ⟨G197,6,none⟩ (.int .i64 0)).setCell ⟨G197,7,none⟩ (.int .i64 0)).setCell ⟨G197,8,none⟩ (.int .u64 0)).setCell ⟨G197,9,none⟩ (.int .i64 0)).setCell ⟨G197,10,none⟩ (.string (⟨#[]⟩ : ByteArray))).setCell ⟨G197,11,none⟩ (.int .i64 0)).setCell ⟨G197,12,none⟩ (.int .i64 0)).setCell ⟨G197,13,none⟩ (.string (⟨#[]⟩ : ByteArray)))) ?hg ?ho ?hn ?hr ?_;(case ho => rfl);(case hg => rfl);(case hn => rfl);(case hr => first|(go_simp;done)|(go_simp;rfl));intro w37 hw;replace K195:=zV hw K195;replace K196:=zV hw K196;replace K197:=zVp hw (.cells #[.int .i64 0,.int .i64 0,.int .i64 0,.int .i64 0,.int .i64 0,.int .i64 0,.int .i64 0,.int .i64 0,.int .u64 0,.int .i64 0,.string (⟨#[]⟩ : ByteArray),.int .i64 0,.int .i64 0,.string (⟨#[]⟩ : ByteArray)] 50 (0,0)) K197;replace HB:=zU hw HB;clear hw))
    refine bodyPost_ret (results_ct rfl _ _ G197 50 #[.int .i64 0,.int .i64 0,.int .i64 0,.int .i64 0,.int .i64 0,.int .i64 0,.int .i64 0,.int .i64 0,.int .u64 0,.int .i64 0,.string (⟨#[]⟩ : ByteArray),.int .i64 0,.int .i64 0,.string (⟨#[]⟩ : ByteArray)] (0,0) _ rfl (zF K197) Try.underlying50 rfl (by kernel_rfl)) rfl ?_
    exact ⟨zE,zH HB⟩
  ·replace c7:=Bool.eq_false_iff.mpr c7
   subst c7
   rw [if_neg (show ¬ (false = true) by decide)] at H
   simp only [Option.some.injEq,Prod.mk.injEq] at H
   obtain ⟨rfl,rfl,rfl,rfl,rfl,rfl,rfl,rfl,rfl,rfl,rfl,rfl,rfl,rfl,rfl⟩:=H
   go_enter Try.func28,Try.ntmps28
   go_wp2_with (first|((with_reducible refine gate_dst (N:=4) rfl ?_);refine zb (N:=4) (cs:=#[.slice A1_0 l1_0.length c1_0,.bool a1_1]) (t:=24) ?_;intro G195 hg w38 hbox hb;have K195:=Aside0.mk (hbox);have GW195:=zN HB hg;have GE195:=zN HB hg;replace HB:=zS HB hb;clear hb hbox hg)|((with_reducible refine gate_dst (N:=5) rfl ?_);refine zb (N:=5) (cs:=#[.int .i64 a2_0,.int .i64 a2_1,.int .i64 a2_2,.int .i64 a2_3,.int .i64 a2_4,.int .i64 a2_5,.int .u64 a2_6,.int .i64 a2_7,.string a2_8,.int .i64 a2_9,.int .i64 a2_10,.string a2_11]) (t:=48) ?_;intro G196 hg w39 hbox hb;have K196:=Aside0.mk (hbox);have GW196:=zN HB hg;have GE196:=zN HB hg;replace HB:=zS HB hb;have NB195_196:=zL K195 hg;have NB196_195:=zG K195 hg;replace K195:=zB K195 hb;clear hb hbox hg)|((with_reducible refine gate_dst (N:=6) rfl ?_);refine zb (N:=6) (cs:=#[.int .i64 0,.int .i64 0,.int .i64 0,.int .i64 0,.int .i64 0,.int .i64 0,.int .i64 0,.int .i64 0,.int .u64 0,.int .i64 0,.string (⟨#[]⟩ : ByteArray),.int .i64 0,.int .i64 0,.string (⟨#[]⟩ : ByteArray)]) (t:=50) ?_;intro G197 hg w40 hbox hb;have K197:=Aside0.mk (hbox);have GW197:=zN HB hg;have GE197:=zN HB hg;replace HB:=zS HB hb;have NB195_197:=zL K195 hg;have NB197_195:=zG K195 hg;replace K195:=zB K195 hb;have NB196_197:=zL K196 hg;have NB197_196:=zG K196 hg;replace K196:=zB K196 hb;clear hb hbox hg)|((with_reducible refine gate_callee (f:=55) rfl ?_);refine zg (some 11) Try.func55 #[.int .i64 a0] ?_;(with_reducible refine (ident_CheckId.calls a0 t198 _ A4.out).mono ?_);rintro e w' ⟨rfl,⟨nd,rfl⟩⟩;refine ⟨_,rfl,?_⟩;(try (rw [drewN_self w40];generalize hq_ : World.drewN w40 _ = w40;replace K195 : Aside0 (w40.heap[G195]? = some (.cells #[.slice A1_0 l1_0.length c1_0,.bool a1_1] 24 (0,0))):=⟨by rw [← hq_];exact (z1 K195.1)⟩;replace K196 : Aside0 (w40.heap[G196]? = some (.cells #[.int .i64 a2_0,.int .i64 a2_1,.int .i64 a2_2,.int .i64 a2_3,.int .i64 a2_4,.int .i64 a2_5,.int .u64 a2_6,.int .i64 a2_7,.string a2_8,.int .i64 a2_9,.int .i64 a2_10,.string a2_11] 48 (0,0))):=⟨by rw [← hq_];exact (z1 K196.1)⟩;replace K197 : Aside0 (w40.heap[G197]? = some (.cells #[.int .i64 0,.int .i64 0,.int .i64 0,.int .i64 0,.int .i64 0,.int .i64 0,.int .i64 0,.int .i64 0,.int .u64 0,.int .i64 0,.string (⟨#[]⟩ : ByteArray),.int .i64 0,.int .i64 0,.string (⟨#[]⟩ : ByteArray)] 50 (0,0))):=⟨by rw [← hq_];exact (z1 K197.1)⟩;replace HB : Aside0 (Below w.heap.size w w40):=⟨by rw [← hq_];exact (zH HB)⟩;clear hq_));have:=NB196_195.1;have:=NB195_196.1;have:=NB196_197.1;have:=NB197_196.1;obtain ⟨hcz43_0,hcz43_1,hcz43_2,hcz43_3,hcz43_4,hcz43_5,hcz43_6,hcz43_7,hcz43_8,hcz43_9,hcz43_10,hcz43_11,hfz43_0,hfz43_1,hfz43_2,hfz43_3,hfz43_4,hfz43_5,hfz43_6,hfz43_7,hfz43_8,hfz43_9,hfz43_10,hfz43_11⟩:=zc12 K196)|((with_reducible refine gate_callee (f:=56) rfl ?_);refine zg (some 17) Try.func56 #[.agg #[.int .i64 a2_0,.int .i64 a2_1,.int .i64 a2_2,.int .i64 a2_3,.int .i64 a2_4,.int .i64 a2_5,.int .u64 a2_6,.int .i64 a2_7,.string a2_8,.int .i64 a2_9,.int .i64 a2_10,.string a2_11]] ?_;(with_reducible refine (forward_may.calls k a2_0 a2_1 a2_2 a2_3 a2_4 a2_5 a2_6 a2_7 a2_8 a2_9 a2_10 a2_11 false _ A6.out).mono ?_);rintro e w44 ⟨rfl,hb⟩;refine ⟨_,rfl,?_⟩;replace K195:=zB K195 hb;replace K196:=zB K196 hb;replace K197:=zB K197 hb;replace HB:=zS HB hb;(try clear hb);have:=NB197_195.1;have:=NB195_197.1;obtain ⟨hcz46_0,hcz46_1,hcz46_2,hcz46_3,hcz46_4,hcz46_5,hcz46_6,hcz46_7,hcz46_8,hcz46_9,hcz46_10,hcz46_11,hcz46_12,hcz46_13,hfz46_0,hfz46_1,hfz46_2,hfz46_3,hfz46_4,hfz46_5,hfz46_6,hfz46_7,hfz46_8,hfz46_9,hfz46_10,hfz46_11,hfz46_12,hfz46_13⟩:=zc14 K197)|((with_reducible refine gate_store (t:=50) (p:=6) rfl ?_);refine store_event (t:=50) (p:=6) (v:=?vo_w47) (w1:=((((((((((((((w44.setCell ⟨G197,0,none⟩ (.int .i64 0)).setCell ⟨G197,1,none⟩ (.int .i64 0)).setCell ⟨G197,2,none⟩ (.int .i64 0)).setCell ⟨G197,3,none⟩ (.int .i64 0)).setCell ⟨G197,4,none⟩ (.int .i64 0)).setCell ⟨G197,5,none⟩ (.int .i64 0)).setCell ⟨G197,6,none⟩ (.int .i64 0)).setCell ⟨G197,7,none⟩ (.int .i64 0)).setCell ⟨G197,8,none⟩ (.int .u64 0)).setCell ⟨G197,9,none⟩ (.int .i64 0)).setCell ⟨G197,10,none⟩ (.string (⟨#[]⟩ : ByteArray))).setCell ⟨G197,11,none⟩ (.int .i64 0)).setCell ⟨G197,12,none⟩ (.int .i64 0)).setCell ⟨G197,13,none⟩ (.string (⟨#[]⟩ : ByteArray)))) ?hg ?ho ?hn ?hr ?_;(case ho => rfl);(case hg => rfl);(case hn => rfl);(case hr => first|(go_simp;done)|(go_simp;rfl));intro w47 hw;replace K195:=zV hw K195;replace K196:=zV hw K196;replace K197:=zVp hw (.cells #[.int .i64 0,.int .i64 0,.int .i64 0,.int .i64 0,.int .i64 0,.int .i64 0,.int .i64 0,.int .i64 0,.int .u64 0,.int .i64 0,.string (⟨#[]⟩ : ByteArray),.int .i64 0,.int .i64 0,.string (⟨#[]⟩ : ByteArray)] 50 (0,0)) K197;replace HB:=zU hw HB;clear hw))
   refine bodyPost_ret (results_ct rfl _ _ G197 50 #[.int .i64 0,.int .i64 0,.int .i64 0,.int .i64 0,.int .i64 0,.int .i64 0,.int .i64 0,.int .i64 0,.int .u64 0,.int .i64 0,.string (⟨#[]⟩ : ByteArray),.int .i64 0,.int .i64 0,.string (⟨#[]⟩ : ByteArray)] (0,0) _ rfl (zF K197) Try.underlying50 rfl (by kernel_rfl)) rfl ?_
   exact ⟨zE,zH HB⟩
 ·rw [if_neg c5] at H
  have c5b0 : (t198 == 0) = false:=beq_eq_false_iff_ne.mpr c5
  have c5b1 : (t198 != 0) = true:=bne_iff_ne.mpr c5
  simp only [Option.some.injEq,Prod.mk.injEq] at H
  obtain ⟨rfl,rfl,rfl,rfl,rfl,rfl,rfl,rfl,rfl,rfl,rfl,rfl,rfl,rfl,rfl⟩:=H
  go_enter Try.func28,Try.ntmps28
  go_wp2_with (first|((with_reducible refine gate_dst (N:=4) rfl ?_);refine zb (N:=4) (cs:=#[.slice A1_0 l1_0.length c1_0,.bool a1_1]) (t:=24) ?_;intro G195 hg w48 hbox hb;have K195:=Aside0.mk (hbox);have GW195:=zN HB hg;have GE195:=zN HB hg;replace HB:=zS HB hb;clear hb hbox hg)|((with_reducible refine gate_dst (N:=5) rfl ?_);refine zb (N:=5) (cs:=#[.int .i64 a2_0,.int .i64 a2_1,.int .i64 a2_2,.int .i64 a2_3,.int .i64 a2_4,.int .i64 a2_5,.int .u64 a2_6,.int .i64 a2_7,.string a2_8,.int .i64 a2_9,.int .i64 a2_10,.string a2_11]) (t:=48) ?_;intro G196 hg w49 hbox hb;have K196:=Aside0.mk (hbox);have GW196:=zN HB hg;have GE196:=zN HB hg;replace HB:=zS HB hb;have NB195_196:=zL K195 hg;have NB196_195:=zG K195 hg;replace K195:=zB K195 hb;clear hb hbox hg)|((with_reducible refine gate_dst (N:=6) rfl ?_);refine zb (N:=6) (cs:=#[.int .i64 0,.int .i64 0,.int .i64 0,.int .i64 0,.int .i64 0,.int .i64 0,.int .i64 0,.int .i64 0,.int .u64 0,.int .i64 0,.string (⟨#[]⟩ : ByteArray),.int .i64 0,.int .i64 0,.string (⟨#[]⟩ : ByteArray)]) (t:=50) ?_;intro G197 hg w50 hbox hb;have K197:=Aside0.mk (hbox);have GW197:=zN HB hg;have GE197:=zN HB hg;replace HB:=zS HB hb;have NB195_197:=zL K195 hg;have NB197_195:=zG K195 hg;replace K195:=zB K195 hb;have NB196_197:=zL K196 hg;have NB197_196:=zG K196 hg;replace K196:=zB K196 hb;clear hb hbox hg)|((with_reducible refine gate_callee (f:=55) rfl ?_);refine zg (some 11) Try.func55 #[.int .i64 a0] ?_;(with_reducible refine (ident_CheckId.calls a0 t198 _ A4.out).mono ?_);rintro e w' ⟨rfl,⟨nd,rfl⟩⟩;refine ⟨_,rfl,?_⟩;(try (rw [drewN_self w50];generalize hq_ : World.drewN w50 _ = w50;replace K195 : Aside0 (w50.heap[G195]? = some (.cells #[.slice A1_0 l1_0.length c1_0,.bool a1_1] 24 (0,0))):=⟨by rw [← hq_];exact (z1 K195.1)⟩;replace K196 : Aside0 (w50.heap[G196]? = some (.cells #[.int .i64 a2_0,.int .i64 a2_1,.int .i64 a2_2,.int .i64 a2_3,.int .i64 a2_4,.int .i64 a2_5,.int .u64 a2_6,.int .i64 a2_7,.string a2_8,.int .i64 a2_9,.int .i64 a2_10,.string a2_11] 48 (0,0))):=⟨by rw [← hq_];exact (z1 K196.1)⟩;replace K197 : Aside0 (w50.heap[G197]? = some (.cells #[.int .i64 0,.int .i64 0,.int .i64 0,.int .i64 0,.int .i64 0,.int .i64 0,.int .i64 0,.int .i64 0,.int .u64 0,.int .i64 0,.string (⟨#[]⟩ : ByteArray),.int .i64 0,.int .i64 0,.string (⟨#[]⟩ : ByteArray)] 50 (0,0))):=⟨by rw [← hq_];exact (z1 K197.1)⟩;replace HB : Aside0 (Below w.heap.size w w50):=⟨by rw [← hq_];exact (zH HB)⟩;clear hq_));have:=NB197_195.1;have:=NB195_197.1;have:=NB197_196.1;have:=NB196_197.1;obtain ⟨hcz53_0,hcz53_1,hcz53_2,hcz53_3,hcz53_4,hcz53_5,hcz53_6,hcz53_7,hcz53_8,hcz53_9,hcz53_10,hcz53_11,hcz53_12,hcz53_13,hfz53_0,hfz53_1,hfz53_2,hfz53_3,hfz53_4,hfz53_5,hfz53_6,hfz53_7,hfz53_8,hfz53_9,hfz53_10,hfz53_11,hfz53_12,hfz53_13⟩:=zc14 K197)|((with_reducible refine gate_store (t:=50) (p:=6) rfl ?_);refine store_event (t:=50) (p:=6) (v:=?vo_w54) (w1:=((((((((((((((w50.setCell ⟨G197,0,none⟩ (.int .i64 0)).setCell ⟨G197,1,none⟩ (.int .i64 0)).setCell ⟨G197,2,none⟩ (.int .i64 0)).setCell ⟨G197,3,none⟩ (.int .i64 0)).setCell ⟨G197,4,none⟩ (.int .i64 0)).setCell ⟨G197,5,none⟩ (.int .i64 0)).setCell ⟨G197,6,none⟩ (.int .i64 0)).setCell ⟨G197,7,none⟩ (.int .i64 0)).setCell ⟨G197,8,none⟩ (.int .u64 0)).setCell ⟨G197,9,none⟩ (.int .i64 0)).setCell ⟨G197,10,none⟩ (.string (⟨#[]⟩ : ByteArray))).setCell ⟨G197,11,none⟩ (.int .i64 0)).setCell ⟨G197,12,none⟩ (.int .i64 0)).setCell ⟨G197,13,none⟩ (.string (⟨#[]⟩ : ByteArray)))) ?hg ?ho ?hn ?hr ?_;(case ho => rfl);(case hg => rfl);(case hn => rfl);(case hr => first|(go_simp;done)|(go_simp;rfl));intro w54 hw;replace K195:=zV hw K195;replace K196:=zV hw K196;replace K197:=zVp hw (.cells #[.int .i64 0,.int .i64 0,.int .i64 0,.int .i64 0,.int .i64 0,.int .i64 0,.int .i64 0,.int .i64 0,.int .u64 0,.int .i64 0,.string (⟨#[]⟩ : ByteArray),.int .i64 0,.int .i64 0,.string (⟨#[]⟩ : ByteArray)] 50 (0,0)) K197;replace HB:=zU hw HB;clear hw))
  refine bodyPost_ret (results_ct rfl _ _ G197 50 #[.int .i64 0,.int .i64 0,.int .i64 0,.int .i64 0,.int .i64 0,.int .i64 0,.int .i64 0,.int .i64 0,.int .u64 0,.int .i64 0,.string (⟨#[]⟩ : ByteArray),.int .i64 0,.int .i64 0,.string (⟨#[]⟩ : ByteArray)] (0,0) _ rfl (zF K197) Try.underlying50 rfl (by kernel_rfl)) rfl ?_
  exact ⟨zE,zH HB⟩

/-! ### beaconref15_Entries: function 17 -/
def beaconref15_Entries.l0 : Nat → List (S39) → List (S39) → Int → Option ((List (S39)))
 | 0, _, _, _ => none
 | k + 1, x0, x3, x4 => if x4 < (x0.length : Int) then (if 0 ≤ x4 then (if x3.length < 2932031007402 then (beaconref15_Entries.l0 k x0 (x3 ++ [(⟨(rd_T39 x0 x4).f0, (rd_T39 x0 x4).f1, (rd_T39 x0 x4).f2, (rd_T39 x0 x4).f3, (rd_T39 x0 x4).f4, (rd_T39 x0 x4).f5⟩ : S39)]) (wrap64 (x4 + 1))) else (none)) else (none)) else (some x3)
def beaconref15_Entries.f (k : Nat) (l0 : List (S39)) : Option ((List (S39))) := beaconref15_Entries.l0 k l0 (([] : List (S39))) 0
theorem beaconref15_Entries.mono_l : ∀ k, (∀ y0 y1 y2, LeO (beaconref15_Entries.l0 k y0 y1 y2) (beaconref15_Entries.l0 (k + 1) y0 y1 y2))
 | 0 => fun _ _ _ r h => by simp [beaconref15_Entries.l0] at h
 | k + 1 => by
  have ih0:=beaconref15_Entries.mono_l k
  ·intro y0 y1 y2
   unfold beaconref15_Entries.l0
   repeat' first
   | (with_reducible exact ih0 _ _ _)
   | (with_reducible exact LeO.refl _)
   | (with_reducible exact LeO.none _)
   | (with_reducible refine LeO.ite ?_ ?_)
   | (with_reducible refine LeO.bind ?_ (fun _ => ?_))
   | exact ih0 _ _ _
   | exact LeO.none _
   | refine LeO.ite ?_ ?_
   | refine LeO.bind ?_ (fun _ => ?_)
theorem beaconref15_Entries.mono : ∀ a0 k, LeO (beaconref15_Entries.f k a0) (beaconref15_Entries.f (k + 1) a0) := by
 intro a0 k
 have ih0:=beaconref15_Entries.mono_l k
 unfold beaconref15_Entries.f
 repeat' first
   | (with_reducible exact ih0 _ _ _)
   | (with_reducible exact LeO.refl _)
   | (with_reducible exact LeO.none _)
   | (with_reducible refine LeO.ite ?_ ?_)
   | (with_reducible refine LeO.bind ?_ (fun _ => ?_))
   | exact ih0 _ _ _
   | exact LeO.none _
   | refine LeO.ite ?_ ?_
   | refine LeO.bind ?_ (fun _ => ?_)
set_option maxHeartbeats 8000000 in
set_option maxRecDepth 100000 in
theorem beaconref15_Entries.calls (k : Nat) (A0 : Option Addr) (c0 : Nat) (l0 : List (S39)) (r : List (S39)) (w : World) (hr0 : Kd.C k39 w A0 l0.length l0) (hc0 : l0.length ≤ c0) (h : beaconref15_Entries.f k l0 = some r) :
  Calls Try.prog 17 #[.slice A0 l0.length c0] w fun e w' => ∃ v0_ : Value,e = .returned (v0_) ∧ Kd.R k39 39 w' w.heap.size (fun _ => True) v0_ r ∧ Below w.heap.size w w':=by
 have hu39:=Try.underlying39
 have HR0:=Aside0.mk hr0
 have HC0:=Aside0.mk hc0
 clear hr0 hc0
 have HB:=Aside0.mk (Below.refl w.heap.size w)
 have H : (beaconref15_Entries.l0 k l0 (([] : List (S39))) 0) = some r:=h
 clear h
 obtain ⟨y215,hy215⟩ : ∃ y_ : List (S39),y_ = (([] : List (S39))):=⟨_,rfl⟩
 replace H : (beaconref15_Entries.l0 k l0 y215 0) = some r:=by first|(rw [hy215];with_reducible exact H)|(have H2_:=(Option.bind_some _ _).symm.trans H;rw [hy215];with_reducible exact H2_)|(have H2_:=(Option.bind_some _ _).symm.trans H;with_reducible exact H2_)|with_reducible exact H|(rw [hy215];exact H)|exact H
 have Ny215:=Aside0.mk hy215
 clear hy215
 have H':=Aside0.mk H
 clear H
 go_enter Try.func17,Try.ntmps17
 go_wp2_with (first|((with_reducible refine gate_dst (N:=5) rfl ?_);refine Kd.R_lit k39 _ 39 ?hg (N:=5) ?hd (xs:=([] : List (S39))) (inner:=[]) (ok:=fun _ => True) (okp:=fun _ => True) ?hr ?hp (fun _ hk => hk) trivial (Below.refl _ _) (Nat.le_refl _) (by simp) ?_;(case hd => rfl);(case hg => rfl);(case hr => first|(go_simp;done)|(go_simp;rfl));(case hp => exact (Reps.none _ _));intro v216 w2 ho3 hb hg_ hnew_;clear hg_ hnew_;(first|rw [← Ny215.out] at ho3|(simp only [Int.reduceToNat] at ho3;rw [← Ny215.out] at ho3));have HO217:=Aside0.mk (Kd.R_lower ho3 (zW HB));replace HB:=zS HB hb;clear hb ho3))
 go_loopg [3,4] k (fun kq v3 v4 w' => ∃ (x3_1 : List (S39)) (x4_1 : Int),v4 = .int .i64 x4_1 ∧ Aside0 (beaconref15_Entries.l0 kq l0 x3_1 x4_1 = some r) ∧ Aside0 (kq ≤ k) ∧ Aside0 (Kd.R k39 39 w' w.heap.size (fun _ => True) v3 x3_1) ∧ Aside0 (Below w.heap.size w w'))
 case atStart => exact ⟨(y215),(0),ze,H',⟨Nat.le_refl _⟩,⟨zR HO217⟩,⟨zH HB⟩⟩
 case round =>
  clear H'
  obtain ⟨x3_1,x4_1,rfl,HA,HK1,HO_3,HB⟩:=hrel
  cases gk with
  | zero => exact absurd HA.out (by simp [beaconref15_Entries.l0])
  | succ k1 =>
   have H:=HA.out
   clear HA
   simp only [beaconref15_Entries.l0] at H
   by_cases c4 : x4_1 < (l0.length : Int)
   ·rw [if_pos c4] at H
    have c4b0 : decide (x4_1 < (l0.length : Int)) = true:=decide_eq_true c4
    clear c4
    by_cases c5 : 0 ≤ x4_1
    ·rw [if_pos c5] at H
     have c5b0 : decide (0 ≤ x4_1) = true:=decide_eq_true c5
     clear c5
     by_cases c6 : x3_1.length < 2932031007402
     ·rw [if_pos c6] at H
      have LMc6:=Aside0.mk c6
      clear c6
      obtain ⟨y219,hy219⟩ : ∃ y_ : List (S39),y_ = (x3_1 ++ [(⟨(rd_T39 l0 x4_1).f0,(rd_T39 l0 x4_1).f1,(rd_T39 l0 x4_1).f2,(rd_T39 l0 x4_1).f3,(rd_T39 l0 x4_1).f4,(rd_T39 l0 x4_1).f5⟩ : S39)]):=⟨_,rfl⟩
      replace H : (beaconref15_Entries.l0 k1 l0 y219 (wrap64 (x4_1 + 1))) = some r:=by first|(rw [hy219];with_reducible exact H)|(have H2_:=(Option.bind_some _ _).symm.trans H;rw [hy219];with_reducible exact H2_)|(have H2_:=(Option.bind_some _ _).symm.trans H;with_reducible exact H2_)|with_reducible exact H|(rw [hy219];exact H)|exact H
      have Ny219:=Aside0.mk hy219
      clear hy219
      have H':=Aside0.mk H
      clear H
      have p218 : 0 ≤ (x4_1 : Int):=zd
      have q218 : x4_1 < (l0.length : Int):=zd
      obtain ⟨ad218,e218,hx218_0,hx218_1,hx218_2,hx218_3,hx218_4,hx218_5⟩:=at_T39 HR0.out x4_1 p218 q218
      cases e218
      replace hx218_0:=zh HB hx218_0
      replace hx218_1:=zh HB hx218_1
      replace hx218_2:=zh HB hx218_2
      replace hx218_3:=zh HB hx218_3
      replace hx218_4:=zh HB hx218_4
      replace hx218_5:=zh HB hx218_5
      replace p218:=eq_true p218
      replace q218:=eq_true q218
      go_wp2_with (first|((with_reducible refine gate_builtin (b:=.append) (xs:=#[.tmp 12,.tmp 17]) rfl ?_);at_builtin;refine Kd.R_append k39 (w0:=w) w.heap.size rfl (.tmp 12) (.tmp 17) 22 39 (.agg #[(.int .i64 0),(.int .i64 0),(.float .f64 0),(.int .i64 0),(.float .f64 0),(.int .i64 0)]) 48 rfl Try.underlying22 info39 rfl (by decide) (by omega) u3 x3_1 (⟨(rd_T39 l0 x4_1).f0,(rd_T39 l0 x4_1).f1,(rd_T39 l0 x4_1).f2,(rd_T39 l0 x4_1).f3,(rd_T39 l0 x4_1).f4,(rd_T39 l0 x4_1).f5⟩ : S39) [.int .i64 ((rd_T39 l0 x4_1).f0),.int .i64 ((rd_T39 l0 x4_1).f1),.float .f64 ((rd_T39 l0 x4_1).f2),.int .i64 ((rd_T39 l0 x4_1).f3),.float .f64 ((rd_T39 l0 x4_1).f4),.int .i64 ((rd_T39 l0 x4_1).f5)] (fun _ => True) (fun _ => False) rfl rfl ?aP (fun _ hk => hk.elim) ?aF ?aO ?aB ?aS ?aL ?_;(case aP => exact k39_mkM _ _ _ (⟨(rd_T39 l0 x4_1).f0,(rd_T39 l0 x4_1).f1,(rd_T39 l0 x4_1).f2,(rd_T39 l0 x4_1).f3,(rd_T39 l0 x4_1).f4,(rd_T39 l0 x4_1).f5⟩ : S39));(case aB => exact (zH HB));(case aF => exact (fun _ _ => trivial));(case aO => exact (zR HO_3));(case aS => exact (zW HB));(case aL => have:=LMc6.out;omega);intro v220 w7 ho hb hg hat;rw [← Ny219.out] at ho;replace HB:=Aside0.mk (hb);have HO221:=Aside0.mk (ho);clear HO_3;clear ho hb hg hat))
      go_roundg k1
      case measure => have:=HK1.out;omega
      case rel => exact ⟨(y219),(wrap64 (x4_1 + 1)),ze,H',⟨by have:=HK1.out;omega⟩,⟨zR HO221⟩,⟨zH HB⟩⟩
     ·rw [if_neg c6] at H
      exact absurd H (by simp)
    ·rw [if_neg c5] at H
     exact absurd H (by simp)
   ·rw [if_neg c4] at H
    have c4b0 : decide (x4_1 < (l0.length : Int)) = false:=decide_eq_false c4
    clear c4
    obtain rfl:=Option.some.inj H
    go_wp2
    go_ret
    exact ⟨_,by first|rfl|(simp [errW_none,errW_some] <;> rfl)|(simp [*,errW_none,errW_some] <;> rfl),by (with_reducible repeat (first|apply Kd.R_alloc|apply Kd.R_drewN|apply Kd.R_drew));exact HO_3.out,zH HB⟩

end Go.Proofs.Ytgmjlhpigfaicaa.XF
