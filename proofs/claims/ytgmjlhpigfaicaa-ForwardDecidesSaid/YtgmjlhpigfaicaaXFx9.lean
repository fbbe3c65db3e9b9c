/- Go functions of this seat as Lean functions, with proofs that the calls come to them. (Written by xprint.py, a program of this session, over the kit's print.) -/
import Derived.Test.YtgmjlhpigfaicaaXFx0
import Derived.Test.YtgmjlhpigfaicaaXFx4
import Derived.Test.YtgmjlhpigfaicaaXFx8
namespace Go.Proofs.Ytgmjlhpigfaicaa.XF
open Go.RowKit Go.Proofs.YtgmjlhpigfaicaaW.PrintWords Go.Proofs.YtgmjlhpigfaicaaW.PrintLast Go.Proofs.YtgmjlhpigfaicaaW.PrintMore
attribute [local go_sem] max2_int min2_int max_two min_two max_three min_three max_four min_four   -- for this text's walks alone
set_option linter.unusedVariables false
set_option linter.unusedSimpArgs false
open List renaming setIfInBounds_toArray → xA, set_cons_zero → xB, set_cons_succ → xC
open Go.Proofs.YtgmjlhpigfaicaaW.PrintWords renaming blk_drewN → bN, blk_drew → bD, blk_alloc → bA, below_set → bS, blk_frozen → bF, blk_cell → bC, cell_far → cF, blk_far → bZ, blk_below → bB, pw_below_drewN → bwN, below_drew1 → bw1, below_alloc → bwA
open Go.Proofs.YtgmjlhpigfaicaaW.PrintZ
open Bool renaming true → T,false → F

/-! ### forward_may: function 56 -/
def forward_may.f (k : Nat) (a0_0 : Int) (a0_1 : Int) (a0_2 : Int) (a0_3 : Int) (a0_4 : Int) (a0_5 : Int) (a0_6 : Int) (a0_7 : Int) (a0_8 : ByteArray) (a0_9 : Int) (a0_10 : Int) (a0_11 : ByteArray) : Option (Bool) := (message_Check.f k 4 0 0 0 ([] : List (S145)) a0_0 a0_1 a0_2 a0_3 a0_4 a0_5 a0_6 a0_7 a0_8 a0_9 a0_10 a0_11).bind fun t158 => (some (t158 == 0))
theorem forward_may.mono : ∀ a0 a1 a2 a3 a4 a5 a6 a7 a8 a9 a10 a11 k, LeO (forward_may.f k a0 a1 a2 a3 a4 a5 a6 a7 a8 a9 a10 a11) (forward_may.f (k + 1) a0 a1 a2 a3 a4 a5 a6 a7 a8 a9 a10 a11) := by
 intro a0 a1 a2 a3 a4 a5 a6 a7 a8 a9 a10 a11 k
 unfold forward_may.f
 repeat' first
   | (with_reducible exact message_Check.mono _ _ _ _ _ _ _ _ _ _ _ _ _ _ _ _ _ _)
   | (with_reducible exact LeO.refl _)
   | (with_reducible exact LeO.none _)
   | (with_reducible refine LeO.ite ?_ ?_)
   | (with_reducible refine LeO.bind ?_ (fun _ => ?_))
   | exact message_Check.mono _ _ _ _ _ _ _ _ _ _ _ _ _ _ _ _ _ _
   | exact LeO.none _
   | refine LeO.ite ?_ ?_
   | refine LeO.bind ?_ (fun _ => ?_)
set_option maxHeartbeats 8000000 in
set_option maxRecDepth 100000 in
theorem forward_may.calls (k : Nat) (a0_0 : Int) (a0_1 : Int) (a0_2 : Int) (a0_3 : Int) (a0_4 : Int) (a0_5 : Int) (a0_6 : Int) (a0_7 : Int) (a0_8 : ByteArray) (a0_9 : Int) (a0_10 : Int) (a0_11 : ByteArray) (r : Bool) (w : World) (h : forward_may.f k a0_0 a0_1 a0_2 a0_3 a0_4 a0_5 a0_6 a0_7 a0_8 a0_9 a0_10 a0_11 = some r) :
  Calls Try.prog 56 #[.agg #[.int .i64 a0_0,.int .i64 a0_1,.int .i64 a0_2,.int .i64 a0_3,.int .i64 a0_4,.int .i64 a0_5,.int .u64 a0_6,.int .i64 a0_7,.string a0_8,.int .i64 a0_9,.int .i64 a0_10,.string a0_11]] w fun e w' => e = .returned (.bool r) ∧ Below w.heap.size w w':=by
 have hu48:=Try.underlying48
 have hu128:=Try.underlying128
 have HB:=Aside0.mk (Below.refl w.heap.size w)
 have H : ((message_Check.f k 4 0 0 0 ([] : List (S145)) a0_0 a0_1 a0_2 a0_3 a0_4 a0_5 a0_6 a0_7 a0_8 a0_9 a0_10 a0_11).bind fun t158 => (some (t158 == 0))) = some r:=h
 clear h
 replace H:=Option.bind_eq_some_iff.mp H
 obtain ⟨t158,A20,H⟩:=H
 (try dsimp only at H)
 have A2:=Aside0.mk A20
 clear A20
 obtain rfl:=Option.some.inj H
 go_enter Try.func56,Try.ntmps56
 go_wp2_with (first|((with_reducible refine gate_dst (N:=1) rfl ?_);refine zb (N:=1) (cs:=#[.int .i64 a0_0,.int .i64 a0_1,.int .i64 a0_2,.int .i64 a0_3,.int .i64 a0_4,.int .i64 a0_5,.int .u64 a0_6,.int .i64 a0_7,.string a0_8,.int .i64 a0_9,.int .i64 a0_10,.string a0_11]) (t:=48) ?_;intro G157 hg w3 hbox hb;have K157:=Aside0.mk (hbox);have GW157:=zN HB hg;have GE157:=zN HB hg;replace HB:=zS HB hb;clear hb hbox hg;obtain ⟨hcz4_0,hcz4_1,hcz4_2,hcz4_3,hcz4_4,hcz4_5,hcz4_6,hcz4_7,hcz4_8,hcz4_9,hcz4_10,hcz4_11,hfz4_0,hfz4_1,hfz4_2,hfz4_3,hfz4_4,hfz4_5,hfz4_6,hfz4_7,hfz4_8,hfz4_9,hfz4_10,hfz4_11⟩:=zc12 K157)|((with_reducible refine gate_callee (f:=77) rfl ?_);refine zg (some 5) Try.func77 #[.agg #[.int .i64 4,.int .u64 0,.int .u64 0,.int .u64 0,.slice none 0 0,.int .i64 a0_0,.int .i64 a0_1,.int .i64 a0_2,.int .i64 a0_3,.int .i64 a0_4,.int .i64 a0_5,.int .u64 a0_6,.int .i64 a0_7,.string a0_8,.int .i64 a0_9,.int .i64 a0_10,.string a0_11]] ?_;(refine (message_Check.calls k 4 0 0 0 _ _ ([] : List (S145)) a0_0 a0_1 a0_2 a0_3 a0_4 a0_5 a0_6 a0_7 a0_8 a0_9 a0_10 a0_11 t158 _ ?side1 ?side2 A2.out).mono ?_);(case side1 => exact Kd.C_nil _ _);(case side2 => exact Nat.le_refl _);rintro e w5 ⟨rfl,hb⟩;refine ⟨_,rfl,?_⟩;replace K157:=zB K157 hb;replace HB:=zS HB hb;(try clear hb)))
 go_ret
 exact ⟨zE,zH HB⟩

/-! ### table_Find: function 23 -/
def table_Find.l0 : Nat → Int → Bool → Bool → List (S39) → Int → Int → Int → Int → Nat → Int → Nat → Int → Int → Int → Nat → Int → Nat → Int → Option (Int × Int × Nat × Int × Nat × Int × Bool)
 | 0, _, _, _, _, _, _, _, _, _, _, _, _, _, _, _, _, _, _ => none
 | k + 1, x1, x8, x9, x13, x14, x15, x162000, x162001, x162002, x162003, x162004, x162005, x163000, x163001, x163002, x163003, x163004, x163005 => if x15 < x14 then (if 0 ≤ x15 then (if x15 < (x13.length : Int) then (if ((rd_T39 x13 x15).f0) = x1 then (if x9 = true then ((math_IsInf.f ((rd_T39 x13 x15).f2) 1).bind fun t165 => (if t165 = true then (table_Find.l0 k x1 x8 x9 x13 x14 (wrap64 (x15 + 1)) x162000 x162001 x162002 x162003 x162004 x162005 x163000 x163001 x163002 x163003 x163004 x163005) else (if x8 = true then (if ((rd_T39 x13 x15).f1) < x162001 then (table_Find.l0 k x1 true x9 x13 x14 (wrap64 (x15 + 1)) ((rd_T39 x13 x15).f0) ((rd_T39 x13 x15).f1) ((rd_T39 x13 x15).f2) ((rd_T39 x13 x15).f3) ((rd_T39 x13 x15).f4) ((rd_T39 x13 x15).f5) x163000 x163001 x163002 x163003 x163004 x163005) else (table_Find.l0 k x1 x8 x9 x13 x14 (wrap64 (x15 + 1)) x162000 x162001 x162002 x162003 x162004 x162005 x163000 x163001 x163002 x163003 x163004 x163005)) else (table_Find.l0 k x1 true x9 x13 x14 (wrap64 (x15 + 1)) ((rd_T39 x13 x15).f0) ((rd_T39 x13 x15).f1) ((rd_T39 x13 x15).f2) ((rd_T39 x13 x15).f3) ((rd_T39 x13 x15).f4) ((rd_T39 x13 x15).f5) x163000 x163001 x163002 x163003 x163004 x163005)))) else ((math_IsInf.f ((rd_T39 x13 x15).f2) 1).bind fun t166 => (if t166 = true then (table_Find.l0 k x1 x8 true x13 x14 (wrap64 (x15 + 1)) x162000 x162001 x162002 x162003 x162004 x162005 ((rd_T39 x13 x15).f0) ((rd_T39 x13 x15).f1) ((rd_T39 x13 x15).f2) ((rd_T39 x13 x15).f3) ((rd_T39 x13 x15).f4) ((rd_T39 x13 x15).f5)) else (if x8 = true then (if ((rd_T39 x13 x15).f1) < x162001 then (table_Find.l0 k x1 true true x13 x14 (wrap64 (x15 + 1)) ((rd_T39 x13 x15).f0) ((rd_T39 x13 x15).f1) ((rd_T39 x13 x15).f2) ((rd_T39 x13 x15).f3) ((rd_T39 x13 x15).f4) ((rd_T39 x13 x15).f5) ((rd_T39 x13 x15).f0) ((rd_T39 x13 x15).f1) ((rd_T39 x13 x15).f2) ((rd_T39 x13 x15).f3) ((rd_T39 x13 x15).f4) ((rd_T39 x13 x15).f5)) else (table_Find.l0 k x1 x8 true x13 x14 (wrap64 (x15 + 1)) x162000 x162001 x162002 x162003 x162004 x162005 ((rd_T39 x13 x15).f0) ((rd_T39 x13 x15).f1) ((rd_T39 x13 x15).f2) ((rd_T39 x13 x15).f3) ((rd_T39 x13 x15).f4) ((rd_T39 x13 x15).f5))) else (table_Find.l0 k x1 true true x13 x14 (wrap64 (x15 + 1)) ((rd_T39 x13 x15).f0) ((rd_T39 x13 x15).f1) ((rd_T39 x13 x15).f2) ((rd_T39 x13 x15).f3) ((rd_T39 x13 x15).f4) ((rd_T39 x13 x15).f5) ((rd_T39 x13 x15).f0) ((rd_T39 x13 x15).f1) ((rd_T39 x13 x15).f2) ((rd_T39 x13 x15).f3) ((rd_T39 x13 x15).f4) ((rd_T39 x13 x15).f5)))))) else (table_Find.l0 k x1 x8 x9 x13 x14 (wrap64 (x15 + 1)) x162000 x162001 x162002 x162003 x162004 x162005 x163000 x163001 x163002 x163003 x163004 x163005)) else (none)) else (none)) else (if x8 = true then (some (x162000, x162001, x162002, x162003, x162004, x162005, true)) else (some (x163000, x163001, x163002, x163003, x163004, x163005, x9)))
def table_Find.f (k : Nat) (l0_0 : List (S39)) (a0_1 : Bool) (a1 : Int) : Option (Int × Int × Nat × Int × Nat × Int × Bool) := table_Find.l0 k a1 false false l0_0 (l0_0.length : Int) 0 0 0 0 0 0 0 0 0 0 0 0 0
theorem table_Find.mono_l : ∀ k, (∀ y0 y1 y2 y3 y4 y5 y6 y7 y8 y9 y10 y11 y12 y13 y14 y15 y16 y17, LeO (table_Find.l0 k y0 y1 y2 y3 y4 y5 y6 y7 y8 y9 y10 y11 y12 y13 y14 y15 y16 y17) (table_Find.l0 (k + 1) y0 y1 y2 y3 y4 y5 y6 y7 y8 y9 y10 y11 y12 y13 y14 y15 y16 y17))
 | 0 => fun _ _ _ _ _ _ _ _ _ _ _ _ _ _ _ _ _ _ r h => by simp [table_Find.l0] at h
 | k + 1 => by
  have ih0:=table_Find.mono_l k
  ·intro y0 y1 y2 y3 y4 y5 y6 y7 y8 y9 y10 y11 y12 y13 y14 y15 y16 y17
   unfold table_Find.l0
   repeat' first
   | (with_reducible exact ih0 _ _ _ _ _ _ _ _ _ _ _ _ _ _ _ _ _ _)
   | (with_reducible exact LeO.refl _)
   | (with_reducible exact LeO.none _)
   | (with_reducible refine LeO.ite ?_ ?_)
   | (with_reducible refine LeO.bind ?_ (fun _ => ?_))
   | exact ih0 _ _ _ _ _ _ _ _ _ _ _ _ _ _ _ _ _ _
   | exact LeO.none _
   | refine LeO.ite ?_ ?_
   | refine LeO.bind ?_ (fun _ => ?_)
theorem table_Find.mono : ∀ a0 a1 a2 k, LeO (table_Find.f k a0 a1 a2) (table_Find.f (k + 1) a0 a1 a2) := by
 intro a0 a1 a2 k
 have ih0:=table_Find.mono_l k
 unfold table_Find.f
 repeat' first
   | (with_reducible exact ih0 _ _ _ _ _ _ _ _ _ _ _ _ _ _ _ _ _ _)
   | (with_reducible exact LeO.refl _)
   | (with_reducible exact LeO.none _)
   | (with_reducible refine LeO.ite ?_ ?_)
   | (with_reducible refine LeO.bind ?_ (fun _ => ?_))
   | exact ih0 _ _ _ _ _ _ _ _ _ _ _ _ _ _ _ _ _ _
   | exact LeO.none _
   | refine LeO.ite ?_ ?_
   | refine LeO.bind ?_ (fun _ => ?_)
set_option maxHeartbeats 8000000 in
set_option maxRecDepth 100000 in
theorem table_Find.calls (k : Nat) (A0_0 : Option Addr) (c0_0 : Nat) (l0_0 : List (S39)) (a0_1 : Bool) (a1 : Int) (r1 : Int) (r2 : Int) (r3 : Nat) (r4 : Int) (r5 : Nat) (r6 : Int) (r7 : Bool) (w : World) (hr0_0 : Kd.C k39 w A0_0 l0_0.length l0_0) (hc0_0 : l0_0.length ≤ c0_0) (h : table_Find.f k l0_0 a0_1 a1 = some (r1, r2, r3, r4, r5, r6, r7)) :
  Calls Try.prog 23 #[.agg #[.slice A0_0 l0_0.length c0_0,.bool a0_1],.int .i64 a1] w fun e w' => e = .returned (.tuple #[.agg #[.int .i64 r1,.int .i64 r2,.float .f64 r3,.int .i64 r4,.float .f64 r5,.int .i64 r6],.bool r7]) ∧ Below w.heap.size w w':=by
 have hu24:=Try.underlying24
 have hu39:=Try.underlying39
 have HR0_0:=Aside0.mk hr0_0
 have HC0_0:=Aside0.mk hc0_0
 clear hr0_0 hc0_0
 have HB:=Aside0.mk (Below.refl w.heap.size w)
 have H : (table_Find.l0 k a1 false false l0_0 (l0_0.length : Int) 0 0 0 0 0 0 0 0 0 0 0 0 0) = some (r1,r2,r3,r4,r5,r6,r7):=h
 clear h
 have H':=Aside0.mk H
 clear H
 go_enter Try.func23,Try.ntmps23
 go_wp2_with (first|((with_reducible refine gate_dst (N:=2) rfl ?_);refine zb (N:=2) (cs:=#[.slice A0_0 l0_0.length c0_0,.bool a0_1]) (t:=24) ?_;intro G159 hg w3 hbox hb;have K159:=Aside0.mk (hbox);have GW159:=zN HB hg;have GE159:=zN HB hg;replace HB:=zS HB hb;clear hb hbox hg)|((with_reducible refine gate_dst (N:=4) rfl ?_);refine zb (N:=4) (cs:=#[.int .i64 0,.int .i64 0,.float .f64 0,.int .i64 0,.float .f64 0,.int .i64 0]) (t:=39) ?_;intro G160 hg w4 hbox hb;have K160:=Aside0.mk (hbox);have GW160:=zN HB hg;have GE160:=zN HB hg;replace HB:=zS HB hb;have NB159_160:=zL K159 hg;have NB160_159:=zG K159 hg;replace K159:=zB K159 hb;clear hb hbox hg)|((with_reducible refine gate_dst (N:=6) rfl ?_);refine zb (N:=6) (cs:=#[.int .i64 0,.int .i64 0,.float .f64 0,.int .i64 0,.float .f64 0,.int .i64 0]) (t:=39) ?_;intro G161 hg w5 hbox hb;have K161:=Aside0.mk (hbox);have GW161:=zN HB hg;have GE161:=zN HB hg;replace HB:=zS HB hb;have NB159_161:=zL K159 hg;have NB161_159:=zG K159 hg;replace K159:=zB K159 hb;have NB160_161:=zL K160 hg;have NB161_160:=zG K160 hg;replace K160:=zB K160 hb;clear hb hbox hg)|((with_reducible refine gate_dst (N:=7) rfl ?_);refine zb (N:=7) (cs:=#[.int .i64 0,.int .i64 0,.float .f64 0,.int .i64 0,.float .f64 0,.int .i64 0]) (t:=39) ?_;intro G162 hg w6 hbox hb;have K162:=Aside0.mk (hbox);have GW162:=zN HB hg;have GE162:=zN HB hg;replace HB:=zS HB hb;have NB159_162:=zL K159 hg;have NB162_159:=zG K159 hg;replace K159:=zB K159 hb;have NB160_162:=zL K160 hg;have NB162_160:=zG K160 hg;replace K160:=zB K160 hb;have NB161_162:=zL K161 hg;have NB162_161:=zG K161 hg;replace K161:=zB K161 hb;clear hb hbox hg;have:=NB159_160.1;have:=NB160_159.1;have:=NB159_161.1;have:=NB161_159.1;have:=NB159_162.1;have:=NB162_159.1;obtain ⟨hcz10_0,hcz10_1,hfz10_0,hfz10_1⟩:=zc2 K159))
 go_loopg [8,9,15] k (fun kq v8 v9 v15 w' => ∃ (x8_1 : Bool) (x9_1 : Bool) (x15_1 : Int) (x162000_1 : Int) (x162001_1 : Int) (x162002_1 : Nat) (x162003_1 : Int) (x162004_1 : Nat) (x162005_1 : Int) (x163000_1 : Int) (x163001_1 : Int) (x163002_1 : Nat) (x163003_1 : Int) (x163004_1 : Nat) (x163005_1 : Int),v8 = .bool x8_1 ∧ v9 = .bool x9_1 ∧ v15 = .int .i64 x15_1 ∧ Aside0 (table_Find.l0 kq a1 x8_1 x9_1 l0_0 (l0_0.length : Int) x15_1 x162000_1 x162001_1 x162002_1 x162003_1 x162004_1 x162005_1 x163000_1 x163001_1 x163002_1 x163003_1 x163004_1 x163005_1 = some (r1,r2,r3,r4,r5,r6,r7)) ∧ Aside0 (kq ≤ k) ∧ Aside0 (w'.heap[G159]? = some (.cells #[(.slice A0_0 l0_0.length c0_0),.bool a0_1] 24 (0,0))) ∧ Aside0 (w'.heap[G160]? = some (.cells #[.int .i64 0,.int .i64 0,.float .f64 0,.int .i64 0,.float .f64 0,.int .i64 0] 39 (0,0))) ∧ Aside0 (w'.heap[G161]? = some (.cells #[.int .i64 x162000_1,.int .i64 x162001_1,.float .f64 x162002_1,.int .i64 x162003_1,.float .f64 x162004_1,.int .i64 x162005_1] 39 (0,0))) ∧ Aside0 (w'.heap[G162]? = some (.cells #[.int .i64 x163000_1,.int .i64 x163001_1,.float .f64 x163002_1,.int .i64 x163003_1,.float .f64 x163004_1,.int .i64 x163005_1] 39 (0,0))) ∧ Aside0 (Below w.heap.size w w'))
 case atStart => exact ⟨(false),(false),(0),(0),(0),(0),(0),(0),(0),(0),(0),(0),(0),(0),(0),ze,ze,ze,H',⟨Nat.le_refl _⟩,⟨z1 K159.1⟩,⟨z1 K160.1⟩,⟨z1 K161.1⟩,⟨z1 K162.1⟩,⟨zH HB⟩⟩
 case round =>
  clear H'
  try clear hcz10_0;try clear hcz10_1;try clear hfz10_0;try clear hfz10_1
  obtain ⟨x8_1,x9_1,x15_1,x162000_1,x162001_1,x162002_1,x162003_1,x162004_1,x162005_1,x163000_1,x163001_1,x163002_1,x163003_1,x163004_1,x163005_1,rfl,rfl,rfl,HA,HK1,K159,K160,K161,K162,HB⟩:=hrel
  cases gk with
  | zero => exact absurd HA.out (by simp [table_Find.l0])
  | succ k1 =>
   have H:=HA.out
   clear HA
   simp only [table_Find.l0] at H
   by_cases c11 : x15_1 < (l0_0.length : Int)
   ·rw [if_pos c11] at H
    have c11b0 : decide (x15_1 < (l0_0.length : Int)) = true:=decide_eq_true c11
    clear c11
    by_cases c12 : 0 ≤ x15_1
    ·rw [if_pos c12] at H
     have c12b0 : decide (0 ≤ x15_1) = true:=decide_eq_true c12
     clear c12
     by_cases c13 : x15_1 < (l0_0.length : Int)
     ·rw [if_pos c13] at H
      have c13b0 : decide (x15_1 < (l0_0.length : Int)) = true:=decide_eq_true c13
      clear c13
      by_cases c14 : ((rd_T39 l0_0 x15_1).f0) = a1
      ·rw [if_pos c14] at H
       have c14b0 : (((rd_T39 l0_0 x15_1).f0) == a1) = true:=beq_iff_eq.mpr c14
       have c14b1 : (((rd_T39 l0_0 x15_1).f0) != a1) = false:=bne_eq_false_iff_eq.mpr c14
       clear c14
       by_cases c15 : x9_1 = true
       ·subst c15
        rw [if_pos rfl] at H
        replace H:=Option.bind_eq_some_iff.mp H
        obtain ⟨t165,A160,H⟩:=H
        (try dsimp only at H)
        have A16:=Aside0.mk A160
        clear A160
        by_cases c17 : t165 = true
        ·subst c17
         rw [if_pos rfl] at H
         have H':=Aside0.mk H
         clear H
         have p163 : 0 ≤ (x15_1 : Int):=zd
         have q163 : x15_1 < (l0_0.length : Int):=zd
         obtain ⟨ad163,e163,hx163_0,hx163_1,hx163_2,hx163_3,hx163_4,hx163_5⟩:=at_T39 HR0_0.out x15_1 p163 q163
         cases e163
         replace hx163_0:=zh HB hx163_0
         replace hx163_1:=zh HB hx163_1
         replace hx163_2:=zh HB hx163_2
         replace hx163_3:=zh HB hx163_3
         replace hx163_4:=zh HB hx163_4
         replace hx163_5:=zh HB hx163_5
         replace p163:=eq_true p163
         replace q163:=eq_true q163
         go_wp2_with (first|((with_reducible refine gate_dst (N:=11) rfl ?_);refine zb (N:=11) (cs:=#[.int .i64 0,.int .i64 0,.float .f64 0,.int .i64 0,.float .f64 0,.int .i64 0]) (t:=39) ?_;intro G164 hg w18 hbox hb;have K164:=Aside0.mk (hbox);have GW164:=zN HB hg;have GE164:=zN HB hg;replace HB:=zS HB hb;have NB159_164:=zL K159 hg;have NB164_159:=zG K159 hg;replace K159:=zB K159 hb;have NB160_164:=zL K160 hg;have NB164_160:=zG K160 hg;replace K160:=zB K160 hb;have NB161_164:=zL K161 hg;have NB164_161:=zG K161 hg;replace K161:=zB K161 hb;have NB162_164:=zL K162 hg;have NB164_162:=zG K162 hg;replace K162:=zB K162 hb;clear hb hbox hg;have:=NB164_159.1;have:=NB159_164.1;have:=NB164_160.1;have:=NB160_164.1;have:=NB164_161.1;have:=NB161_164.1;have:=NB164_162.1;have:=NB162_164.1;obtain ⟨hcz23_0,hcz23_1,hcz23_2,hcz23_3,hcz23_4,hcz23_5,hfz23_0,hfz23_1,hfz23_2,hfz23_3,hfz23_4,hfz23_5⟩:=zc6 K164)|((with_reducible refine gate_store (t:=39) (p:=11) rfl ?_);refine store_event (t:=39) (p:=11) (v:=?vo_w24) (w1:=((((((w18.setCell ⟨G164,0,none⟩ (.int .i64 ((rd_T39 l0_0 x15_1).f0))).setCell ⟨G164,1,none⟩ (.int .i64 ((rd_T39 l0_0 x15_1).f1))).setCell ⟨G164,2,none⟩ (.float .f64 ((rd_T39 l0_0 x15_1).f2))).setCell ⟨G164,3,none⟩ (.int .i64 ((rd_T39 l0_0 x15_1).f3))).setCell ⟨G164,4,none⟩ (.float .f64 ((rd_T39 l0_0 x15_1).f4))).setCell ⟨G164,5,none⟩ (.int .i64 ((rd_T39 l0_0 x15_1).f5)))) ?hg ?ho ?hn ?hr ?_;(case ho => rfl);(case hg => rfl);(case hn => rfl);(case hr => first|(go_simp;done)|(go_simp;rfl));intro w24 hw;replace K159:=zV hw K159;replace K160:=zV hw K160;replace K161:=zV hw K161;replace K162:=zV hw K162;replace K164:=zVp hw (.cells #[.int .i64 ((rd_T39 l0_0 x15_1).f0),.int .i64 ((rd_T39 l0_0 x15_1).f1),.float .f64 ((rd_T39 l0_0 x15_1).f2),.int .i64 ((rd_T39 l0_0 x15_1).f3),.float .f64 ((rd_T39 l0_0 x15_1).f4),.int .i64 ((rd_T39 l0_0 x15_1).f5)] 39 (0,0)) K164;replace HB:=zU hw HB;clear hw;obtain ⟨hcz25_0,hcz25_1,hcz25_2,hcz25_3,hcz25_4,hcz25_5,hfz25_0,hfz25_1,hfz25_2,hfz25_3,hfz25_4,hfz25_5⟩:=zc6 K164)|((with_reducible refine gate_callee (f:=53) rfl ?_);refine zg (some 28) Try.func53 #[.float .f64 ((rd_T39 l0_0 x15_1).f2),.int .i64 1] ?_;(with_reducible refine (math_IsInf.calls ((rd_T39 l0_0 x15_1).f2) 1 true _ A16.out).mono ?_);rintro e w' ⟨rfl,⟨nd,rfl⟩⟩;refine ⟨_,rfl,?_⟩))
         go_roundg k1
         case measure => have:=HK1.out;omega
         case rel => exact ⟨(x8_1),(true),(wrap64 (x15_1 + 1)),(x162000_1),(x162001_1),(x162002_1),(x162003_1),(x162004_1),(x162005_1),(x163000_1),(x163001_1),(x163002_1),(x163003_1),(x163004_1),(x163005_1),ze,ze,ze,H',⟨by have:=HK1.out;omega⟩,⟨z1 K159.1⟩,⟨z1 K160.1⟩,⟨z1 K161.1⟩,⟨z1 K162.1⟩,⟨zH HB⟩⟩
        ·replace c17:=Bool.eq_false_iff.mpr c17
         subst c17
         rw [if_neg (show ¬ (false = true) by decide)] at H
         by_cases c26 : x8_1 = true
         ·subst c26
          rw [if_pos rfl] at H
          by_cases c27 : ((rd_T39 l0_0 x15_1).f1) < x162001_1
          ·rw [if_pos c27] at H
           have c27b0 : decide (((rd_T39 l0_0 x15_1).f1) < x162001_1) = true:=decide_eq_true c27
           clear c27
           have H':=Aside0.mk H
           clear H
           have p163 : 0 ≤ (x15_1 : Int):=zd
           have q163 : x15_1 < (l0_0.length : Int):=zd
           obtain ⟨ad163,e163,hx163_0,hx163_1,hx163_2,hx163_3,hx163_4,hx163_5⟩:=at_T39 HR0_0.out x15_1 p163 q163
           cases e163
           replace hx163_0:=zh HB hx163_0
           replace hx163_1:=zh HB hx163_1
           replace hx163_2:=zh HB hx163_2
           replace hx163_3:=zh HB hx163_3
           replace hx163_4:=zh HB hx163_4
           replace hx163_5:=zh HB hx163_5
           replace p163:=eq_true p163
           replace q163:=eq_true q163
           go_wp2_with (first|((with_reducible refine gate_dst (N:=11) rfl ?_);refine zb (N:=11) (cs:=#[.int .i64 0,.int .i64 0,.float .f64 0,.int .i64 0,.float .f64 0,.int .i64 0]) (t:=39) ?_;intro G164 hg w28 hbox hb;have K164:=Aside0.mk (hbox);have GW164:=zN HB hg;have GE164:=zN HB hg;replace HB:=zS HB hb;have NB159_164:=zL K159 hg;have NB164_159:=zG K159 hg;replace K159:=zB K159 hb;have NB160_164:=zL K160 hg;have NB164_160:=zG K160 hg;replace K160:=zB K160 hb;have NB161_164:=zL K161 hg;have NB164_161:=zG K161 hg;replace K161:=zB K161 hb;have NB162_164:=zL K162 hg;have NB164_162:=zG K162 hg;replace K162:=zB K162 hb;clear hb hbox hg;have:=NB164_159.1;have:=NB159_164.1;have:=NB164_160.1;have:=NB160_164.1;have:=NB164_161.1;have:=NB161_164.1;have:=NB164_162.1;have:=NB162_164.1;obtain ⟨hcz33_0,hcz33_1,hcz33_2,hcz33_3,hcz33_4,hcz33_5,hfz33_0,hfz33_1,hfz33_2,hfz33_3,hfz33_4,hfz33_5⟩:=zc6 K164)|((with_reducible refine gate_store (t:=39) (p:=11) rfl ?_);refine store_event (t:=39) (p:=11) (v:=?vo_w34) (w1:=((((((w28.setCell ⟨G164,0,none⟩ (.int .i64 ((rd_T39 l0_0 x15_1).f0))).setCell ⟨G164,1,none⟩ (.int .i64 ((rd_T39 l0_0 x15_1).f1))).setCell ⟨G164,2,none⟩ (.float .f64 ((rd_T39 l0_0 x15_1).f2))).setCell ⟨G164,3,none⟩ (.int .i64 ((rd_T39 l0_0 x15_1).f3))).setCell ⟨G164,4,none⟩ (.float .f64 ((rd_T39 l0_0 x15_1).f4))).setCell ⟨G164,5,none⟩ (.int .i64 ((rd_T39 l0_0 x15_1).f5)))) ?hg ?ho ?hn ?hr ?_;(case ho => rfl);(case hg => rfl);(case hn => rfl);(case hr => first|(go_simp;done)|(go_simp;rfl));intro w34 hw;replace K159:=zV hw K159;replace K160:=zV hw K160;replace K161:=zV hw K161;replace K162:=zV hw K162;replace K164:=zVp hw (.cells #[.int .i64 ((rd_T39 l0_0 x15_1).f0),.int .i64 ((rd_T39 l0_0 x15_1).f1),.float .f64 ((rd_T39 l0_0 x15_1).f2),.int .i64 ((rd_T39 l0_0 x15_1).f3),.float .f64 ((rd_T39 l0_0 x15_1).f4),.int .i64 ((rd_T39 l0_0 x15_1).f5)] 39 (0,0)) K164;replace HB:=zU hw HB;clear hw;obtain ⟨hcz35_0,hcz35_1,hcz35_2,hcz35_3,hcz35_4,hcz35_5,hfz35_0,hfz35_1,hfz35_2,hfz35_3,hfz35_4,hfz35_5⟩:=zc6 K164)|((with_reducible refine gate_callee (f:=53) rfl ?_);refine zg (some 28) Try.func53 #[.float .f64 ((rd_T39 l0_0 x15_1).f2),.int .i64 1] ?_;(with_reducible refine (math_IsInf.calls ((rd_T39 l0_0 x15_1).f2) 1 false _ A16.out).mono ?_);rintro e w' ⟨rfl,⟨nd,rfl⟩⟩;refine ⟨_,rfl,?_⟩;(try (rw [drewN_self w34];generalize hq_ : World.drewN w34 _ = w34;replace K159 : Aside0 (w34.heap[G159]? = some (.cells #[.slice (some ad163) l0_0.length c0_0,.bool a0_1] 24 (0,0))):=⟨by rw [← hq_];exact (z1 K159.1)⟩;replace K160 : Aside0 (w34.heap[G160]? = some (.cells #[.int .i64 0,.int .i64 0,.float .f64 0,.int .i64 0,.float .f64 0,.int .i64 0] 39 (0,0))):=⟨by rw [← hq_];exact (z1 K160.1)⟩;replace K161 : Aside0 (w34.heap[G161]? = some (.cells #[.int .i64 x162000_1,.int .i64 x162001_1,.float .f64 x162002_1,.int .i64 x162003_1,.float .f64 x162004_1,.int .i64 x162005_1] 39 (0,0))):=⟨by rw [← hq_];exact (z1 K161.1)⟩;replace K162 : Aside0 (w34.heap[G162]? = some (.cells #[.int .i64 x163000_1,.int .i64 x163001_1,.float .f64 x163002_1,.int .i64 x163003_1,.float .f64 x163004_1,.int .i64 x163005_1] 39 (0,0))):=⟨by rw [← hq_];exact (z1 K162.1)⟩;replace K164 : Aside0 (w34.heap[G164]? = some (.cells #[.int .i64 ((rd_T39 l0_0 x15_1).f0),.int .i64 ((rd_T39 l0_0 x15_1).f1),.float .f64 ((rd_T39 l0_0 x15_1).f2),.int .i64 ((rd_T39 l0_0 x15_1).f3),.float .f64 ((rd_T39 l0_0 x15_1).f4),.int .i64 ((rd_T39 l0_0 x15_1).f5)] 39 (0,0))):=⟨by rw [← hq_];exact (z1 K164.1)⟩;replace HB : Aside0 (Below w.heap.size w w34):=⟨by rw [← hq_];exact (zH HB)⟩;clear hq_));obtain ⟨hcz36_0,hcz36_1,hcz36_2,hcz36_3,hcz36_4,hcz36_5,hfz36_0,hfz36_1,hfz36_2,hfz36_3,hfz36_4,hfz36_5⟩:=zc6 K164;have:=NB161_159.1;have:=NB159_161.1;have:=NB161_160.1;have:=NB160_161.1;have:=NB161_162.1;have:=NB162_161.1;obtain ⟨hcz40_0,hcz40_1,hcz40_2,hcz40_3,hcz40_4,hcz40_5,hfz40_0,hfz40_1,hfz40_2,hfz40_3,hfz40_4,hfz40_5⟩:=zc6 K161)|((with_reducible refine gate_store (t:=39) (p:=6) rfl ?_);refine store_event (t:=39) (p:=6) (v:=?vo_w41) (w1:=((((((w34.setCell ⟨G161,0,none⟩ (.int .i64 ((rd_T39 l0_0 x15_1).f0))).setCell ⟨G161,1,none⟩ (.int .i64 ((rd_T39 l0_0 x15_1).f1))).setCell ⟨G161,2,none⟩ (.float .f64 ((rd_T39 l0_0 x15_1).f2))).setCell ⟨G161,3,none⟩ (.int .i64 ((rd_T39 l0_0 x15_1).f3))).setCell ⟨G161,4,none⟩ (.float .f64 ((rd_T39 l0_0 x15_1).f4))).setCell ⟨G161,5,none⟩ (.int .i64 ((rd_T39 l0_0 x15_1).f5)))) ?hg ?ho ?hn ?hr ?_;(case ho => rfl);(case hg => rfl);(case hn => rfl);(case hr => first|(go_simp;done)|(go_simp;rfl));intro w41 hw;replace K159:=zV hw K159;replace K160:=zV hw K160;replace K161:=zVp hw (.cells #[.int .i64 ((rd_T39 l0_0 x15_1).f0),.int .i64 ((rd_T39 l0_0 x15_1).f1),.float .f64 ((rd_T39 l0_0 x15_1).f2),.int .i64 ((rd_T39 l0_0 x15_1).f3),.float .f64 ((rd_T39 l0_0 x15_1).f4),.int .i64 ((rd_T39 l0_0 x15_1).f5)] 39 (0,0)) K161;replace K162:=zV hw K162;replace K164:=zV hw K164;replace HB:=zU hw HB;clear hw))
           go_roundg k1
           case measure => have:=HK1.out;omega
           case rel => exact ⟨(true),(true),(wrap64 (x15_1 + 1)),((rd_T39 l0_0 x15_1).f0),((rd_T39 l0_0 x15_1).f1),((rd_T39 l0_0 x15_1).f2),((rd_T39 l0_0 x15_1).f3),((rd_T39 l0_0 x15_1).f4),((rd_T39 l0_0 x15_1).f5),(x163000_1),(x163001_1),(x163002_1),(x163003_1),(x163004_1),(x163005_1),ze,ze,ze,H',⟨by have:=HK1.out;omega⟩,⟨z1 K159.1⟩,⟨z1 K160.1⟩,⟨z1 K161.1⟩,⟨z1 K162.1⟩,⟨zH HB⟩⟩
          ·rw [if_neg c27] at H
           have c27b0 : decide (((rd_T39 l0_0 x15_1).f1) < x162001_1) = false:=decide_eq_false c27
           clear c27
           have H':=Aside0.mk H
           clear H
           have p163 : 0 ≤ (x15_1 : Int):=zd
           have q163 : x15_1 < (l0_0.length : Int):=zd
           obtain ⟨ad163,e163,hx163_0,hx163_1,hx163_2,hx163_3,hx163_4,hx163_5⟩:=at_T39 HR0_0.out x15_1 p163 q163
           cases e163
           replace hx163_0:=zh HB hx163_0
           replace hx163_1:=zh HB hx163_1
           replace hx163_2:=zh HB hx163_2
           replace hx163_3:=zh HB hx163_3
           replace hx163_4:=zh HB hx163_4
           replace hx163_5:=zh HB hx163_5
           replace p163:=eq_true p163
           replace q163:=eq_true q163
           go_wp2_with (first|((with_reducible refine gate_dst (N:=11) rfl ?_);refine zb (N:=11) (cs:=#[.int .i64 0,.int .i64 0,.float .f64 0,.int .i64 0,.float .f64 0,.int .i64 0]) (t:=39) ?_;intro G164 hg w42 hbox hb;have K164:=Aside0.mk (hbox);have GW164:=zN HB hg;have GE164:=zN HB hg;replace HB:=zS HB hb;have NB159_164:=zL K159 hg;have NB164_159:=zG K159 hg;replace K159:=zB K159 hb;have NB160_164:=zL K160 hg;have NB164_160:=zG K160 hg;replace K160:=zB K160 hb;have NB161_164:=zL K161 hg;have NB164_161:=zG K161 hg;replace K161:=zB K161 hb;have NB162_164:=zL K162 hg;have NB164_162:=zG K162 hg;replace K162:=zB K162 hb;clear hb hbox hg;have:=NB164_159.1;have:=NB159_164.1;have:=NB164_160.1;have:=NB160_164.1;have:=NB164_161.1;have:=NB161_164.1;have:=NB164_162.1;have:=NB162_164.1;obtain ⟨hcz47_0,hcz47_1,hcz47_2,hcz47_3,hcz47_4,hcz47_5,hfz47_0,hfz47_1,hfz47_2,hfz47_3,hfz47_4,hfz47_5⟩:=zc6 K164)|((with_reducible refine gate_store (t:=39) (p:=11) rfl ?_);refine store_event (t:=39) (p:=11) (v:=?vo_w48) (w1:=((((((w42.setCell ⟨G164,0,none⟩ (.int .i64 ((rd_T39 l0_0 x15_1).f0))).setCell ⟨G164,1,none⟩ (.int .i64 ((rd_T39 l0_0 x15_1).f1))).setCell ⟨G164,2,none⟩ (.float .f64 ((rd_T39 l0_0 x15_1).f2))).setCell ⟨G164,3,none⟩ (.int .i64 ((rd_T39 l0_0 x15_1).f3))).setCell ⟨G164,4,none⟩ (.float .f64 ((rd_T39 l0_0 x15_1).f4))).setCell ⟨G164,5,none⟩ (.int .i64 ((rd_T39 l0_0 x15_1).f5)))) ?hg ?ho ?hn ?hr ?_;(case ho => rfl);(case hg => rfl);(case hn => rfl);(case hr => first|(go_simp;done)|(go_simp;rfl));intro w48 hw;replace K159:=zV hw K159;replace K160:=zV hw K160;replace K161:=zV hw K161;replace K162:=zV hw K162;replace K164:=zVp hw (.cells #[.int .i64 ((rd_T39 l0_0 x15_1).f0),.int .i64 ((rd_T39 l0_0 x15_1).f1),.float .f64 ((rd_T39 l0_0 x15_1).f2),.int .i64 ((rd_T39 l0_0 x15_1).f3),.float .f64 ((rd_T39 l0_0 x15_1).f4),.int .i64 ((rd_T39 l0_0 x15_1).f5)] 39 (0,0)) K164;replace HB:=zU hw HB;clear hw;obtain ⟨hcz49_0,hcz49_1,hcz49_2,hcz49_3,hcz49_4,hcz49_5,hfz49_0,hfz49_1,hfz49_2,hfz49_3,hfz49_4,hfz49_5⟩:=zc6 K164)|((with_reducible refine gate_callee (f:=53) rfl ?_);refine zg (some 28) Try.func53 #[.float .f64 ((rd_T39 l0_0 x15_1).f2),.int .i64 1] ?_;(with_reducible refine (math_IsInf.calls ((rd_T39 l0_0 x15_1).f2) 1 false _ A16.out).mono ?_);rintro e w' ⟨rfl,⟨nd,rfl⟩⟩;refine ⟨_,rfl,?_⟩;have:=NB161_159.1;have:=NB159_161.1;have:=NB161_160.1;have:=NB160_161.1;have:=NB161_162.1;have:=NB162_161.1;obtain ⟨hcz53_0,hcz53_1,hcz53_2,hcz53_3,hcz53_4,hcz53_5,hfz53_0,hfz53_1,hfz53_2,hfz53_3,hfz53_4,hfz53_5⟩:=zc6 K161))
           go_roundg k1
           case measure => have:=HK1.out;omega
           case rel => exact ⟨(true),(true),(wrap64 (x15_1 + 1)),(x162000_1),(x162001_1),(x162002_1),(x162003_1),(x162004_1),(x162005_1),(x163000_1),(x163001_1),(x163002_1),(x163003_1),(x163004_1),(x163005_1),ze,ze,ze,H',⟨by have:=HK1.out;omega⟩,⟨z1 K159.1⟩,⟨z1 K160.1⟩,⟨z1 K161.1⟩,⟨z1 K162.1⟩,⟨zH HB⟩⟩
         ·replace c26:=Bool.eq_false_iff.mpr c26
          subst c26
          rw [if_neg (show ¬ (false = true) by decide)] at H
          have H':=Aside0.mk H
          clear H
          have p163 : 0 ≤ (x15_1 : Int):=zd
          have q163 : x15_1 < (l0_0.length : Int):=zd
          obtain ⟨ad163,e163,hx163_0,hx163_1,hx163_2,hx163_3,hx163_4,hx163_5⟩:=at_T39 HR0_0.out x15_1 p163 q163
          cases e163
          replace hx163_0:=zh HB hx163_0
          replace hx163_1:=zh HB hx163_1
          replace hx163_2:=zh HB hx163_2
          replace hx163_3:=zh HB hx163_3
          replace hx163_4:=zh HB hx163_4
          replace hx163_5:=zh HB hx163_5
          replace p163:=eq_true p163
          replace q163:=eq_true q163
          go_wp2_with (first|((with_reducible refine gate_dst (N:=11) rfl ?_);refine zb (N:=11) (cs:=#[.int .i64 0,.int .i64 0,.float .f64 0,.int .i64 0,.float .f64 0,.int .i64 0]) (t:=39) ?_;intro G164 hg w54 hbox hb;have K164:=Aside0.mk (hbox);have GW164:=zN HB hg;have GE164:=zN HB hg;replace HB:=zS HB hb;have NB159_164:=zL K159 hg;have NB164_159:=zG K159 hg;replace K159:=zB K159 hb;have NB160_164:=zL K160 hg;have NB164_160:=zG K160 hg;replace K160:=zB K160 hb;have NB161_164:=zL K161 hg;have NB164_161:=zG K161 hg;replace K161:=zB K161 hb;have NB162_164:=zL K162 hg;have NB164_162:=zG K162 hg;replace K162:=zB K162 hb;clear hb hbox hg;have:=NB164_159.1;have:=NB159_164.1;have:=NB164_160.1;have:=NB160_164.1;have:=NB164_161.1;have:=NB161_164.1;have:=NB164_162.1;have:=NB162_164.1;obtain ⟨hcz59_0,hcz59_1,hcz59_2,hcz59_3,hcz59_4,hcz59_5,hfz59_0,hfz59_1,hfz59_2,hfz59_3,hfz59_4,hfz59_5⟩:=zc6 K164)|((with_reducible refine gate_store (t:=39) (p:=11) rfl ?_);refine store_event (t:=39) (p:=11) (v:=?vo_w60) (w1:=((((((w54.setCell ⟨G164,0,none⟩ (.int .i64 ((rd_T39 l0_0 x15_1).f0))).setCell ⟨G164,1,none⟩ (.int .i64 ((rd_T39 l0_0 x15_1).f1))).setCell ⟨G164,2,none⟩ (.float .f64 ((rd_T39 l0_0 x15_1).f2))).setCell ⟨G164,3,none⟩ (.int .i64 ((rd_T39 l0_0 x15_1).f3))).setCell ⟨G164,4,none⟩ (.float .f64 ((rd_T39 l0_0 x15_1).f4))).setCell ⟨G164,5,none⟩ (.int .i64 ((rd_T39 l0_0 x15_1).f5)))) ?hg ?ho ?hn ?hr ?_;(case ho => rfl);(case hg => rfl);(case hn => rfl);(case hr => first|(go_simp;done)|(go_simp;rfl));intro w60 hw;replace K159:=zV hw K159;replace K160:=zV hw K160;replace K161:=zV hw K161;replace K162:=zV hw K162;replace K164:=zVp hw (.cells #[.int .i64 ((rd_T39 l0_0 x15_1).f0),.int .i64 ((rd_T39 l0_0 x15_1).f1),.float .f64 ((rd_T39 l0_0 x15_1).f2),.int .i64 ((rd_T39 l0_0 x15_1).f3),.float .f64 ((rd_T39 l0_0 x15_1).f4),.int .i64 ((rd_T39 l0_0 x15_1).f5)] 39 (0,0)) K164;replace HB:=zU hw HB;clear hw;obtain ⟨hcz61_0,hcz61_1,hcz61_2,hcz61_3,hcz61_4,hcz61_5,hfz61_0,hfz61_1,hfz61_2,hfz61_3,hfz61_4,hfz61_5⟩:=zc6 K164)|((with_reducible refine gate_callee (f:=53) rfl ?_);refine zg (some 28) Try.func53 #[.float .f64 ((rd_T39 l0_0 x15_1).f2),.int .i64 1] ?_;(with_reducible refine (math_IsInf.calls ((rd_T39 l0_0 x15_1).f2) 1 false _ A16.out).mono ?_);rintro e w' ⟨rfl,⟨nd,rfl⟩⟩;refine ⟨_,rfl,?_⟩;(try (rw [drewN_self w60];generalize hq_ : World.drewN w60 _ = w60;replace K159 : Aside0 (w60.heap[G159]? = some (.cells #[.slice (some ad163) l0_0.length c0_0,.bool a0_1] 24 (0,0))):=⟨by rw [← hq_];exact (z1 K159.1)⟩;replace K160 : Aside0 (w60.heap[G160]? = some (.cells #[.int .i64 0,.int .i64 0,.float .f64 0,.int .i64 0,.float .f64 0,.int .i64 0] 39 (0,0))):=⟨by rw [← hq_];exact (z1 K160.1)⟩;replace K161 : Aside0 (w60.heap[G161]? = some (.cells #[.int .i64 x162000_1,.int .i64 x162001_1,.float .f64 x162002_1,.int .i64 x162003_1,.float .f64 x162004_1,.int .i64 x162005_1] 39 (0,0))):=⟨by rw [← hq_];exact (z1 K161.1)⟩;replace K162 : Aside0 (w60.heap[G162]? = some (.cells #[.int .i64 x163000_1,.int .i64 x163001_1,.float .f64 x163002_1,.int .i64 x163003_1,.float .f64 x163004_1,.int .i64 x163005_1] 39 (0,0))):=⟨by rw [← hq_];exact (z1 K162.1)⟩;replace K164 : Aside0 (w60.heap[G164]? = some (.cells #[.int .i64 ((rd_T39 l0_0 x15_1).f0),.int .i64 ((rd_T39 l0_0 x15_1).f1),.float .f64 ((rd_T39 l0_0 x15_1).f2),.int .i64 ((rd_T39 l0_0 x15_1).f3),.float .f64 ((rd_T39 l0_0 x15_1).f4),.int .i64 ((rd_T39 l0_0 x15_1).f5)] 39 (0,0))):=⟨by rw [← hq_];exact (z1 K164.1)⟩;replace HB : Aside0 (Below w.heap.size w w60):=⟨by rw [← hq_];exact (zH HB)⟩;clear hq_));obtain ⟨hcz62_0,hcz62_1,hcz62_2,hcz62_3,hcz62_4,hcz62_5,hfz62_0,hfz62_1,hfz62_2,hfz62_3,hfz62_4,hfz62_5⟩:=zc6 K164;have:=NB161_159.1;have:=NB159_161.1;have:=NB161_160.1;have:=NB160_161.1;have:=NB161_162.1;have:=NB162_161.1;obtain ⟨hcz66_0,hcz66_1,hcz66_2,hcz66_3,hcz66_4,hcz66_5,hfz66_0,hfz66_1,hfz66_2,hfz66_3,hfz66_4,hfz66_5⟩:=zc6 K161)|((with_reducible refine gate_store (t:=39) (p:=6) rfl ?_);refine store_event (t:=39) (p:=6) (v:=?vo_w67) (w1:=((((((w60.setCell ⟨G161,0,none⟩ (.int .i64 ((rd_T39 l0_0 x15_1).f0))).setCell ⟨G161,1,none⟩ (.int .i64 ((rd_T39 l0_0 x15_1).f1))).setCell ⟨G161,2,none⟩ (.float .f64 ((rd_T39 l0_0 x15_1).f2))).setCell ⟨G161,3,none⟩ (.int .i64 ((rd_T39 l0_0 x15_1).f3))).setCell ⟨G161,4,none⟩ (.float .f64 ((rd_T39 l0_0 x15_1).f4))).setCell ⟨G161,5,none⟩ (.int .i64 ((rd_T39 l0_0 x15_1).f5)))) ?hg ?ho ?hn ?hr ?_;(case ho => rfl);(case hg => rfl);(case hn => rfl);(case hr => first|(go_simp;done)|(go_simp;rfl));intro w67 hw;replace K159:=zV hw K159;replace K160:=zV hw K160;replace K161:=zVp hw (.cells #[.int .i64 ((rd_T39 l0_0 x15_1).f0),.int .i64 ((rd_T39 l0_0 x15_1).f1),.float .f64 ((rd_T39 l0_0 x15_1).f2),.int .i64 ((rd_T39 l0_0 x15_1).f3),.float .f64 ((rd_T39 l0_0 x15_1).f4),.int .i64 ((rd_T39 l0_0 x15_1).f5)] 39 (0,0)) K161;replace K162:=zV hw K162;replace K164:=zV hw K164;replace HB:=zU hw HB;clear hw))
          go_roundg k1
          case measure => have:=HK1.out;omega
          case rel => exact ⟨(true),(true),(wrap64 (x15_1 + 1)),((rd_T39 l0_0 x15_1).f0),((rd_T39 l0_0 x15_1).f1),((rd_T39 l0_0 x15_1).f2),((rd_T39 l0_0 x15_1).f3),((rd_T39 l0_0 x15_1).f4),((rd_T39 l0_0 x15_1).f5),(x163000_1),(x163001_1),(x163002_1),(x163003_1),(x163004_1),(x163005_1),ze,ze,ze,H',⟨by have:=HK1.out;omega⟩,⟨z1 K159.1⟩,⟨z1 K160.1⟩,⟨z1 K161.1⟩,⟨z1 K162.1⟩,⟨zH HB⟩⟩
       ·replace c15:=Bool.eq_false_iff.mpr c15
        subst c15
        rw [if_neg (show ¬ (false = true) by decide)] at H
        replace H:=Option.bind_eq_some_iff.mp H
        obtain ⟨t166,A680,H⟩:=H
        (try dsimp only at H)
        have A68:=Aside0.mk A680
        clear A680
        by_cases c69 : t166 = true
        ·subst c69
         rw [if_pos rfl] at H
         have H':=Aside0.mk H
         clear H
         have p163 : 0 ≤ (x15_1 : Int):=zd
         have q163 : x15_1 < (l0_0.length : Int):=zd
         obtain ⟨ad163,e163,hx163_0,hx163_1,hx163_2,hx163_3,hx163_4,hx163_5⟩:=at_T39 HR0_0.out x15_1 p163 q163
         cases e163
         replace hx163_0:=zh HB hx163_0
         replace hx163_1:=zh HB hx163_1
         replace hx163_2:=zh HB hx163_2
         replace hx163_3:=zh HB hx163_3
         replace hx163_4:=zh HB hx163_4
         replace hx163_5:=zh HB hx163_5
         replace p163:=eq_true p163
         replace q163:=eq_true q163
         go_wp2_with (first|((with_reducible refine gate_dst (N:=11) rfl ?_);refine zb (N:=11) (cs:=#[.int .i64 0,.int .i64 0,.float .f64 0,.int .i64 0,.float .f64 0,.int .i64 0]) (t:=39) ?_;intro G164 hg w70 hbox hb;have K164:=Aside0.mk (hbox);have GW164:=zN HB hg;have GE164:=zN HB hg;replace HB:=zS HB hb;have NB159_164:=zL K159 hg;have NB164_159:=zG K159 hg;replace K159:=zB K159 hb;have NB160_164:=zL K160 hg;have NB164_160:=zG K160 hg;replace K160:=zB K160 hb;have NB161_164:=zL K161 hg;have NB164_161:=zG K161 hg;replace K161:=zB K161 hb;have NB162_164:=zL K162 hg;have NB164_162:=zG K162 hg;replace K162:=zB K162 hb;clear hb hbox hg;have:=NB164_159.1;have:=NB159_164.1;have:=NB164_160.1;have:=NB160_164.1;have:=NB164_161.1;have:=NB161_164.1;have:=NB164_162.1;have:=NB162_164.1;obtain ⟨hcz75_0,hcz75_1,hcz75_2,hcz75_3,hcz75_4,hcz75_5,hfz75_0,hfz75_1,hfz75_2,hfz75_3,hfz75_4,hfz75_5⟩:=zc6 K164)|((with_reducible refine gate_store (t:=39) (p:=11) rfl ?_);refine store_event (t:=39) (p:=11) (v:=?vo_w76) (w1:=((((((w70.setCell ⟨G164,0,none⟩ (.int .i64 ((rd_T39 l0_0 x15_1).f0))).setCell ⟨G164,1,none⟩ (.int .i64 ((rd_T39 l0_0 x15_1).f1))).setCell ⟨G164,2,none⟩ (.float .f64 ((rd_T39 l0_0 x15_1).f2))).setCell ⟨G164,3,none⟩ (.int .i64 ((rd_T39 l0_0 x15_1).f3))).setCell ⟨G164,4,none⟩ (.float .f64 ((rd_T39 l0_0 x15_1).f4))).setCell ⟨G164,5,none⟩ (.int .i64 ((rd_T39 l0_0 x15_1).f5)))) ?hg ?ho ?hn ?hr ?_;(case ho => rfl);(case hg => rfl);(case hn => rfl);(case hr => first|(go_simp;done)|(go_simp;rfl));intro w76 hw;replace K159:=zV hw K159;replace K160:=zV hw K160;replace K161:=zV hw K161;replace K162:=zV hw K162;replace K164:=zVp hw (.cells #[.int .i64 ((rd_T39 l0_0 x15_1).f0),.int .i64 ((rd_T39 l0_0 x15_1).f1),.float .f64 ((rd_T39 l0_0 x15_1).f2),.int .i64 ((rd_T39 l0_0 x15_1).f3),.float .f64 ((rd_T39 l0_0 x15_1).f4),.int .i64 ((rd_T39 l0_0 x15_1).f5)] 39 (0,0)) K164;replace HB:=zU hw HB;clear hw;obtain ⟨hcz77_0,hcz77_1,hcz77_2,hcz77_3,hcz77_4,hcz77_5,hfz77_0,hfz77_1,hfz77_2,hfz77_3,hfz77_4,hfz77_5⟩:=zc6 K164;have:=NB162_159.1;have:=NB159_162.1;have:=NB162_160.1;have:=NB160_162.1;have:=NB162_161.1;have:=NB161_162.1;obtain ⟨hcz81_0,hcz81_1,hcz81_2,hcz81_3,hcz81_4,hcz81_5,hfz81_0,hfz81_1,hfz81_2,hfz81_3,hfz81_4,hfz81_5⟩:=zc6 K162)|((with_reducible refine gate_store (t:=39) (p:=7) rfl ?_);refine store_event (t:=39) (p:=7) (v:=?vo_w82) (w1:=((((((w76.setCell ⟨G162,0,none⟩ (.int .i64 ((rd_T39 l0_0 x15_1).f0))).setCell ⟨G162,1,none⟩ (.int .i64 ((rd_T39 l0_0 x15_1).f1))).setCell ⟨G162,2,none⟩ (.float .f64 ((rd_T39 l0_0 x15_1).f2))).setCell ⟨G162,3,none⟩ (.int .i64 ((rd_T39 l0_0 x15_1).f3))).setCell ⟨G162,4,none⟩ (.float .f64 ((rd_T39 l0_0 x15_1).f4))).setCell ⟨G162,5,none⟩ (.int .i64 ((rd_T39 l0_0 x15_1).f5)))) ?hg ?ho ?hn ?hr ?_;(case ho => rfl);(case hg => rfl);(case hn => rfl);(case hr => first|(go_simp;done)|(go_simp;rfl));intro w82 hw;replace K159:=zV hw K159;replace K160:=zV hw K160;replace K161:=zV hw K161;replace K162:=zVp hw (.cells #[.int .i64 ((rd_T39 l0_0 x15_1).f0),.int .i64 ((rd_T39 l0_0 x15_1).f1),.float .f64 ((rd_T39 l0_0 x15_1).f2),.int .i64 ((rd_T39 l0_0 x15_1).f3),.float .f64 ((rd_T39 l0_0 x15_1).f4),.int .i64 ((rd_T39 l0_0 x15_1).f5)] 39 (0,0)) K162;replace K164:=zV hw K164;replace HB:=zU hw HB;clear hw;obtain ⟨hcz83_0,hcz83_1,hcz83_2,hcz83_3,hcz83_4,hcz83_5,hfz83_0,hfz83_1,hfz83_2,hfz83_3,hfz83_4,hfz83_5⟩:=zc6 K164)|((with_reducible refine gate_callee (f:=53) rfl ?_);refine zg (some 28) Try.func53 #[.float .f64 ((rd_T39 l0_0 x15_1).f2),.int .i64 1] ?_;(with_reducible refine (math_IsInf.calls ((rd_T39 l0_0 x15_1).f2) 1 true _ A68.out).mono ?_);rintro e w' ⟨rfl,⟨nd,rfl⟩⟩;refine ⟨_,rfl,?_⟩))
         go_roundg k1
         case measure => have:=HK1.out;omega
         case rel => exact ⟨(x8_1),(true),(wrap64 (x15_1 + 1)),(x162000_1),(x162001_1),(x162002_1),(x162003_1),(x162004_1),(x162005_1),((rd_T39 l0_0 x15_1).f0),((rd_T39 l0_0 x15_1).f1),((rd_T39 l0_0 x15_1).f2),((rd_T39 l0_0 x15_1).f3),((rd_T39 l0_0 x15_1).f4),((rd_T39 l0_0 x15_1).f5),ze,ze,ze,H',⟨by have:=HK1.out;omega⟩,⟨z1 K159.1⟩,⟨z1 K160.1⟩,⟨z1 K161.1⟩,⟨z1 K162.1⟩,⟨zH HB⟩⟩
        ·replace c69:=Bool.eq_false_iff.mpr c69
         subst c69
         rw [if_neg (show ¬ (false = true) by decide)] at H
         by_cases c84 : x8_1 = true
         ·subst c84
          rw [if_pos rfl] at H
          by_cases c85 : ((rd_T39 l0_0 x15_1).f1) < x162001_1
          ·rw [if_pos c85] at H
           have c85b0 : decide (((rd_T39 l0_0 x15_1).f1) < x162001_1) = true:=decide_eq_true c85
           clear c85
           have H':=Aside0.mk H
           clear H
           have p163 : 0 ≤ (x15_1 : Int):=zd
           have q163 : x15_1 < (l0_0.length : Int):=zd
           obtain ⟨ad163,e163,hx163_0,hx163_1,hx163_2,hx163_3,hx163_4,hx163_5⟩:=at_T39 HR0_0.out x15_1 p163 q163
           cases e163
           replace hx163_0:=zh HB hx163_0
           replace hx163_1:=zh HB hx163_1
           replace hx163_2:=zh HB hx163_2
           replace hx163_3:=zh HB hx163_3
           replace hx163_4:=zh HB hx163_4
           replace hx163_5:=zh HB hx163_5
           replace p163:=eq_true p163
           replace q163:=eq_true q163
           go_wp2_with (first|((with_reducible refine gate_dst (N:=11) rfl ?_);refine zb (N:=11) (cs:=#[.int .i64 0,.int .i64 0,.float .f64 0,.int .i64 0,.float .f64 0,.int .i64 0]) (t:=39) ?_;intro G164 hg w86 hbox hb;have K164:=Aside0.mk (hbox);have GW164:=zN HB hg;have GE164:=zN HB hg;replace HB:=zS HB hb;have NB159_164:=zL K159 hg;have NB164_159:=zG K159 hg;replace K159:=zB K159 hb;have NB160_164:=zL K160 hg;have NB164_160:=zG K160 hg;replace K160:=zB K160 hb;have NB161_164:=zL K161 hg;have NB164_161:=zG K161 hg;replace K161:=zB K161 hb;have NB162_164:=zL K162 hg;have NB164_162:=zG K162 hg;replace K162:=zB K162 hb;clear hb hbox hg;have:=NB164_159.1;have:=NB159_164.1;have:=NB164_160.1;have:=NB160_164.1;have:=NB164_161.1;have:=NB161_164.1;have:=NB164_162.1;have:=NB162_164.1;obtain ⟨hcz91_0,hcz91_1,hcz91_2,hcz91_3,hcz91_4,hcz91_5,hfz91_0,hfz91_1,hfz91_2,hfz91_3,hfz91_4,hfz91_5⟩:=zc6 K164)|((with_reducible refine gate_store (t:=39) (p:=11) rfl ?_);refine store_event (t:=39) (p:=11) (v:=?vo_w92) (w1:=((((((w86.setCell ⟨G164,0,none⟩ (.int .i64 ((rd_T39 l0_0 x15_1).f0))).setCell ⟨G164,1,none⟩ (.int .i64 ((rd_T39 l0_0 x15_1).f1))).setCell ⟨G164,2,none⟩ (.float .f64 ((rd_T39 l0_0 x15_1).f2))).setCell ⟨G164,3,none⟩ (.int .i64 ((rd_T39 l0_0 x15_1).f3))).setCell ⟨G164,4,none⟩ (.float .f64 ((rd_T39 l0_0 x15_1).f4))).setCell ⟨G164,5,none⟩ (.int .i64 ((rd_T39 l0_0 x15_1).f5)))) ?hg ?ho ?hn ?hr ?_;(case ho => rfl);(case hg => rfl);(case hn => rfl);(case hr => first|(go_simp;done)|(go_simp;rfl));intro w92 hw;replace K159:=zV hw K159;replace K160:=zV hw K160;replace K161:=zV hw K161;replace K162:=zV hw K162;replace K164:=zVp hw (.cells #[.int .i64 ((rd_T39 l0_0 x15_1).f0),.int .i64 ((rd_T39 l0_0 x15_1).f1),.float .f64 ((rd_T39 l0_0 x15_1).f2),.int .i64 ((rd_T39 l0_0 x15_1).f3),.float .f64 ((rd_T39 l0_0 x15_1).f4),.int .i64 ((rd_T39 l0_0 x15_1).f5)] 39 (0,0)) K164;replace HB:=zU hw HB;clear hw;obtain ⟨hcz93_0,hcz93_1,hcz93_2,hcz93_3,hcz93_4,hcz93_5,hfz93_0,hfz93_1,hfz93_2,hfz93_3,hfz93_4,hfz93_5⟩:=zc6 K164;have:=NB162_159.1;have:=NB159_162.1;have:=NB162_160.1;have:=NB160_162.1;have:=NB162_161.1;have:=NB161_162.1;obtain ⟨hcz97_0,hcz97_1,hcz97_2,hcz97_3,hcz97_4,hcz97_5,hfz97_0,hfz97_1,hfz97_2,hfz97_3,hfz97_4,hfz97_5⟩:=zc6 K162)|((with_reducible refine gate_store (t:=39) (p:=7) rfl ?_);refine store_event (t:=39) (p:=7) (v:=?vo_w98) (w1:=((((((w92.setCell ⟨G162,0,none⟩ (.int .i64 ((rd_T39 l0_0 x15_1).f0))).setCell ⟨G162,1,none⟩ (.int .i64 ((rd_T39 l0_0 x15_1).f1))).setCell ⟨G162,2,none⟩ (.float .f64 ((rd_T39 l0_0 x15_1).f2))).setCell ⟨G162,3,none⟩ (.int .i64 ((rd_T39 l0_0 x15_1).f3))).setCell ⟨G162,4,none⟩ (.float .f64 ((rd_T39 l0_0 x15_1).f4))).setCell ⟨G162,5,none⟩ (.int .i64 ((rd_T39 l0_0 x15_1).f5)))) ?hg ?ho ?hn ?hr ?_;(case ho => rfl);(case hg => rfl);(case hn => rfl);(case hr => first|(go_simp;done)|(go_simp;rfl));intro w98 hw;replace K159:=zV hw K159;replace K160:=zV hw K160;replace K161:=zV hw K161;replace K162:=zVp hw (.cells #[.int .i64 ((rd_T39 l0_0 x15_1).f0),.int .i64 ((rd_T39 l0_0 x15_1).f1),.float .f64 ((rd_T39 l0_0 x15_1).f2),.int .i64 ((rd_T39 l0_0 x15_1).f3),.float .f64 ((rd_T39 l0_0 x15_1).f4),.int .i64 ((rd_T39 l0_0 x15_1).f5)] 39 (0,0)) K162;replace K164:=zV hw K164;replace HB:=zU hw HB;clear hw;obtain ⟨hcz99_0,hcz99_1,hcz99_2,hcz99_3,hcz99_4,hcz99_5,hfz99_0,hfz99_1,hfz99_2,hfz99_3,hfz99_4,hfz99_5⟩:=zc6 K164)|((with_reducible refine gate_callee (f:=53) rfl ?_);refine zg (some 28) Try.func53 #[.float .f64 ((rd_T39 l0_0 x15_1).f2),.int .i64 1] ?_;(with_reducible refine (math_IsInf.calls ((rd_T39 l0_0 x15_1).f2) 1 false _ A68.out).mono ?_);rintro e w' ⟨rfl,⟨nd,rfl⟩⟩;refine ⟨_,rfl,?_⟩;(try (rw [drewN_self w98];generalize hq_ : World.drewN w98 _ = w98;replace K159 : Aside0 (w98.heap[G159]? = some (.cells #[.slice (some ad163) l0_0.length c0_0,.bool a0_1] 24 (0,0))):=⟨by rw [← hq_];exact (z1 K159.1)⟩;replace K160 : Aside0 (w98.heap[G160]? = some (.cells #[.int .i64 0,.int .i64 0,.float .f64 0,.int .i64 0,.float .f64 0,.int .i64 0] 39 (0,0))):=⟨by rw [← hq_];exact (z1 K160.1)⟩;replace K161 : Aside0 (w98.heap[G161]? = some (.cells #[.int .i64 x162000_1,.int .i64 x162001_1,.float .f64 x162002_1,.int .i64 x162003_1,.float .f64 x162004_1,.int .i64 x162005_1] 39 (0,0))):=⟨by rw [← hq_];exact (z1 K161.1)⟩;replace K162 : Aside0 (w98.heap[G162]? = some (.cells #[.int .i64 ((rd_T39 l0_0 x15_1).f0),.int .i64 ((rd_T39 l0_0 x15_1).f1),.float .f64 ((rd_T39 l0_0 x15_1).f2),.int .i64 ((rd_T39 l0_0 x15_1).f3),.float .f64 ((rd_T39 l0_0 x15_1).f4),.int .i64 ((rd_T39 l0_0 x15_1).f5)] 39 (0,0))):=⟨by rw [← hq_];exact (z1 K162.1)⟩;replace K164 : Aside0 (w98.heap[G164]? = some (.cells #[.int .i64 ((rd_T39 l0_0 x15_1).f0),.int .i64 ((rd_T39 l0_0 x15_1).f1),.float .f64 ((rd_T39 l0_0 x15_1).f2),.int .i64 ((rd_T39 l0_0 x15_1).f3),.float .f64 ((rd_T39 l0_0 x15_1).f4),.int .i64 ((rd_T39 l0_0 x15_1).f5)] 39 (0,0))):=⟨by rw [← hq_];exact (z1 K164.1)⟩;replace HB : Aside0 (Below w.heap.size w w98):=⟨by rw [← hq_];exact (zH HB)⟩;clear hq_));obtain ⟨hcz100_0,hcz100_1,hcz100_2,hcz100_3,hcz100_4,hcz100_5,hfz100_0,hfz100_1,hfz100_2,hfz100_3,hfz100_4,hfz100_5⟩:=zc6 K164;have:=NB161_159.1;have:=NB159_161.1;have:=NB161_160.1;have:=NB160_161.1;obtain ⟨hcz103_0,hcz103_1,hcz103_2,hcz103_3,hcz103_4,hcz103_5,hfz103_0,hfz103_1,hfz103_2,hfz103_3,hfz103_4,hfz103_5⟩:=zc6 K161)|((with_reducible refine gate_store (t:=39) (p:=6) rfl ?_);refine store_event (t:=39) (p:=6) (v:=?vo_w104) (w1:=((((((w98.setCell ⟨G161,0,none⟩ (.int .i64 ((rd_T39 l0_0 x15_1).f0))).setCell ⟨G161,1,none⟩ (.int .i64 ((rd_T39 l0_0 x15_1).f1))).setCell ⟨G161,2,none⟩ (.float .f64 ((rd_T39 l0_0 x15_1).f2))).setCell ⟨G161,3,none⟩ (.int .i64 ((rd_T39 l0_0 x15_1).f3))).setCell ⟨G161,4,none⟩ (.float .f64 ((rd_T39 l0_0 x15_1).f4))).setCell ⟨G161,5,none⟩ (.int .i64 ((rd_T39 l0_0 x15_1).f5)))) ?hg ?ho ?hn ?hr ?_;(case ho => rfl);(case hg => rfl);(case hn => rfl);(case hr => first|(go_simp;done)|(go_simp;rfl));intro w104 hw;replace K159:=zV hw K159;replace K160:=zV hw K160;replace K161:=zVp hw (.cells #[.int .i64 ((rd_T39 l0_0 x15_1).f0),.int .i64 ((rd_T39 l0_0 x15_1).f1),.float .f64 ((rd_T39 l0_0 x15_1).f2),.int .i64 ((rd_T39 l0_0 x15_1).f3),.float .f64 ((rd_T39 l0_0 x15_1).f4),.int .i64 ((rd_T39 l0_0 x15_1).f5)] 39 (0,0)) K161;replace K162:=zV hw K162;replace K164:=zV hw K164;replace HB:=zU hw HB;clear hw))
           go_roundg k1
           case measure => have:=HK1.out;omega
           case rel => exact ⟨(true),(true),(wrap64 (x15_1 + 1)),((rd_T39 l0_0 x15_1).f0),((rd_T39 l0_0 x15_1).f1),((rd_T39 l0_0 x15_1).f2),((rd_T39 l0_0 x15_1).f3),((rd_T39 l0_0 x15_1).f4),((rd_T39 l0_0 x15_1).f5),((rd_T39 l0_0 x15_1).f0),((rd_T39 l0_0 x15_1).f1),((rd_T39 l0_0 x15_1).f2),((rd_T39 l0_0 x15_1).f3),((rd_T39 l0_0 x15_1).f4),((rd_T39 l0_0 x15_1).f5),ze,ze,ze,H',⟨by have:=HK1.out;omega⟩,⟨z1 K159.1⟩,⟨z1 K160.1⟩,⟨z1 K161.1⟩,⟨z1 K162.1⟩,⟨zH HB⟩⟩
          ·rw [if_neg c85] at H
           have c85b0 : decide (((rd_T39 l0_0 x15_1).f1) < x162001_1) = false:=decide_eq_false c85
           clear c85
           have H':=Aside0.mk H
           clear H
           have p163 : 0 ≤ (x15_1 : Int):=zd
           have q163 : x15_1 < (l0_0.length : Int):=zd
           obtain ⟨ad163,e163,hx163_0,hx163_1,hx163_2,hx163_3,hx163_4,hx163_5⟩:=at_T39 HR0_0.out x15_1 p163 q163
           cases e163
           replace hx163_0:=zh HB hx163_0
           replace hx163_1:=zh HB hx163_1
           replace hx163_2:=zh HB hx163_2
           replace hx163_3:=zh HB hx163_3
           replace hx163_4:=zh HB hx163_4
           replace hx163_5:=zh HB hx163_5
           replace p163:=eq_true p163
           replace q163:=eq_true q163
           go_wp2_with (first|((with_reducible refine gate_dst (N:=11) rfl ?_);refine zb (N:=11) (cs:=#[.int .i64 0,.int .i64 0,.float .f64 0,.int .i64 0,.float .f64 0,.int .i64 0]) (t:=39) ?_;intro G164 hg w105 hbox hb;have K164:=Aside0.mk (hbox);have GW164:=zN HB hg;have GE164:=zN HB hg;replace HB:=zS HB hb;have NB159_164:=zL K159 hg;have NB164_159:=zG K159 hg;replace K159:=zB K159 hb;have NB160_164:=zL K160 hg;have NB164_160:=zG K160 hg;replace K160:=zB K160 hb;have NB161_164:=zL K161 hg;have NB164_161:=zG K161 hg;replace K161:=zB K161 hb;have NB162_164:=zL K162 hg;have NB164_162:=zG K162 hg;replace K162:=zB K162 hb;clear hb hbox hg;have:=NB164_159.1;have:=NB159_164.1;have:=NB164_160.1;have:=NB160_164.1;have:=NB164_161.1;have:=NB161_164.1;have:=NB164_162.1;have:=NB162_164.1;obtain ⟨hcz110_0,hcz110_1,hcz110_2,hcz110_3,hcz110_4,hcz110_5,hfz110_0,hfz110_1,hfz110_2,hfz110_3,hfz110_4,hfz110_5⟩:=zc6 K164)|((with_reducible refine gate_store (t:=39) (p:=11) rfl ?_);refine store_event (t:=39) (p:=11) (v:=?vo_w111) (w1:=((((((w105.setCell ⟨G164,0,none⟩ (.int .i64 ((rd_T39 l0_0 x15_1).f0))).setCell ⟨G164,1,none⟩ (.int .i64 ((rd_T39 l0_0 x15_1).f1))).setCell ⟨G164,2,none⟩ (.float .f64 ((rd_T39 l0_0 x15_1).f2))).setCell ⟨G164,3,none⟩ (.int .i64 ((rd_T39 l0_0 x15_1).f3))).setCell ⟨G164,4,none⟩ (.float .f64 ((rd_T39 l0_0 x15_1).f4))).setCell ⟨G164,5,none⟩ (.int .i64 ((rd_T39 l0_0 x15_1).f5)))) ?hg ?ho ?hn ?hr ?_;(case ho => rfl);(case hg => rfl);(case hn => rfl);(case hr => first|(go_simp;done)|(go_simp;rfl));intro w111 hw;replace K159:=zV hw K159;replace K160:=zV hw K160;replace K161:=zV hw K161;replace K162:=zV hw K162;replace K164:=zVp hw (.cells #[.int .i64 ((rd_T39 l0_0 x15_1).f0),.int .i64 ((rd_T39 l0_0 x15_1).f1),.float .f64 ((rd_T39 l0_0 x15_1).f2),.int .i64 ((rd_T39 l0_0 x15_1).f3),.float .f64 ((rd_T39 l0_0 x15_1).f4),.int .i64 ((rd_T39 l0_0 x15_1).f5)] 39 (0,0)) K164;replace HB:=zU hw HB;clear hw;obtain ⟨hcz112_0,hcz112_1,hcz112_2,hcz112_3,hcz112_4,hcz112_5,hfz112_0,hfz112_1,hfz112_2,hfz112_3,hfz112_4,hfz112_5⟩:=zc6 K164;have:=NB162_159.1;have:=NB159_162.1;have:=NB162_160.1;have:=NB160_162.1;have:=NB162_161.1;have:=NB161_162.1;obtain ⟨hcz116_0,hcz116_1,hcz116_2,hcz116_3,hcz116_4,hcz116_5,hfz116_0,hfz116_1,hfz116_2,hfz116_3,hfz116_4,hfz116_5⟩:=zc6 K162)|((with_reducible refine gate_store (t:=39) (p:=7) rfl ?_);refine store_event (t:=39) (p:=7) (v:=?vo_w117) (w1:=((((((w111.setCell ⟨G162,0,none⟩ (.int .i64 ((rd_T39 l0_0 x15_1).f0))).setCell ⟨G162,1,none⟩ (.int .i64 ((rd_T39 l0_0 x15_1).f1))).setCell ⟨G162,2,none⟩ (.float .f64 ((rd_T39 l0_0 x15_1).f2))).setCell ⟨G162,3,none⟩ (.int .i64 ((rd_T39 l0_0 x15_1).f3))).setCell ⟨G162,4,none⟩ (.float .f64 ((rd_T39 l0_0 x15_1).f4))).setCell ⟨G162,5,none⟩ (.int .i64 ((rd_T39 l0_0 x15_1).f5)))) ?hg ?ho ?hn ?hr ?_;(case ho => rfl);(case hg => rfl);(case hn => rfl);(case hr => first|(go_simp;done)|(go_simp;rfl));intro w117 hw;replace K159:=zV hw K159;replace K160:=zV hw K160;replace K161:=zV hw K161;replace K162:=zVp hw (.cells #[.int .i64 ((rd_T39 l0_0 x15_1).f0),.int .i64 ((rd_T39 l0_0 x15_1).f1),.float .f64 ((rd_T39 l0_0 x15_1).f2),.int .i64 ((rd_T39 l0_0 x15_1).f3),.float .f64 ((rd_T39 l0_0 x15_1).f4),.int .i64 ((rd_T39 l0_0 x15_1).f5)] 39 (0,0)) K162;replace K164:=zV hw K164;replace HB:=zU hw HB;clear hw;obtain ⟨hcz118_0,hcz118_1,hcz118_2,hcz118_3,hcz118_4,hcz118_5,hfz118_0,hfz118_1,hfz118_2,hfz118_3,hfz118_4,hfz118_5⟩:=zc6 K164)|((with_reducible refine gate_callee (f:=53) rfl ?_);refine zg (some 28) Try.func53 #[.float .f64 ((rd_T39 l0_0 x15_1).f2),.int .i64 1] ?_;(with_reducible refine (math_IsInf.calls ((rd_T39 l0_0 x15_1).f2) 1 false _ A68.out).mono ?_);rintro e w' ⟨rfl,⟨nd,rfl⟩⟩;refine ⟨_,rfl,?_⟩;have:=NB161_159.1;have:=NB159_161.1;have:=NB161_160.1;have:=NB160_161.1;obtain ⟨hcz121_0,hcz121_1,hcz121_2,hcz121_3,hcz121_4,hcz121_5,hfz121_0,hfz121_1,hfz121_2,hfz121_3,hfz121_4,hfz121_5⟩:=zc6 K161))
           go_roundg k1
           case measure => have:=HK1.out;omega
           case rel => exact ⟨(true),(true),(wrap64 (x15_1 + 1)),(x162000_1),(x162001_1),(x162002_1),(x162003_1),(x162004_1),(x162005_1),((rd_T39 l0_0 x15_1).f0),((rd_T39 l0_0 x15_1).f1),((rd_T39 l0_0 x15_1).f2),((rd_T39 l0_0 x15_1).f3),((rd_T39 l0_0 x15_1).f4),((rd_T39 l0_0 x15_1).f5),ze,ze,ze,H',⟨by have:=HK1.out;omega⟩,⟨z1 K159.1⟩,⟨z1 K160.1⟩,⟨z1 K161.1⟩,⟨z1 K162.1⟩,⟨zH HB⟩⟩
         ·replace c84:=Bool.eq_false_iff.mpr c84
          subst c84
          rw [if_neg (show ¬ (false = true) by decide)] at H
          have H':=Aside0.mk H
          clear H
          have p163 : 0 ≤ (x15_1 : Int):=zd
          have q163 : x15_1 < (l0_0.length : Int):=zd
          obtain ⟨ad163,e163,hx163_0,hx163_1,hx163_2,hx163_3,hx163_4,hx163_5⟩:=at_T39 HR0_0.out x15_1 p163 q163
          cases e163
          replace hx163_0:=zh HB hx163_0
          replace hx163_1:=zh HB hx163_1
          replace hx163_2:=zh HB hx163_2
          replace hx163_3:=zh HB hx163_3
          replace hx163_4:=zh HB hx163_4
          replace hx163_5:=zh HB hx163_5
          replace p163:=eq_true p163
          replace q163:=eq_true q163
          go_wp2_with (first|((with_reducible refine gate_dst (N:=11) rfl ?_);refine zb (N:=11) (cs:=#[.int .i64 0,.int .i64 0,.float .f64 0,.int .i64 0,.float .f64 0,.int .i64 0]) (t:=39) ?_;intro G164 hg w122 hbox hb;have K164:=Aside0.mk (hbox);have GW164:=zN HB hg;have GE164:=zN HB hg;replace HB:=zS HB hb;have NB159_164:=zL K159 hg;have NB164_159:=zG K159 hg;replace K159:=zB K159 hb;have NB160_164:=zL K160 hg;have NB164_160:=zG K160 hg;replace K160:=zB K160 hb;have NB161_164:=zL K161 hg;have NB164_161:=zG K161 hg;replace K161:=zB K161 hb;have NB162_164:=zL K162 hg;have NB164_162:=zG K162 hg;replace K162:=zB K162 hb;clear hb hbox hg;have:=NB164_159.1;have:=NB159_164.1;have:=NB164_160.1;have:=NB160_164.1;have:=NB164_161.1;have:=NB161_164.1;have:=NB164_162.1;have:=NB162_164.1;obtain ⟨hcz127_0,hcz127_1,hcz127_2,hcz127_3,hcz127_4,hcz127_5,hfz127_0,hfz127_1,hfz127_2,hfz127_3,hfz127_4,hfz127_5⟩:=zc6 K164)|((with_reducible refine gate_store (t:=39) (p:=11) rfl ?_);refine store_event (t:=39) (p:=11) (v:=?vo_w128) (w1:=((((((w122.setCell ⟨G164,0,none⟩ (.int .i64 ((rd_T39 l0_0 x15_1).f0))).setCell ⟨G164,1,none⟩ (.int .i64 ((rd_T39 l0_0 x15_1).f1))).setCell ⟨G164,2,none⟩ (.float .f64 ((rd_T39 l0_0 x15_1).f2))).setCell ⟨G164,3,none⟩ (.int .i64 ((rd_T39 l0_0 x15_1).f3))).setCell ⟨G164,4,none⟩ (.float .f64 ((rd_T39 l0_0 x15_1).f4))).setCell ⟨G164,5,none⟩ (.int .i64 ((rd_T39 l0_0 x15_1).f5)))) ?hg ?ho ?hn ?hr ?_;(case ho => rfl);(case hg => rfl);(case hn => rfl);(case hr => first|(go_simp;done)|(go_simp;rfl));intro w128 hw;replace K159:=zV hw K159;replace K160:=zV hw K160;replace K161:=zV hw K161;replace K162:=zV hw K162;replace K164:=zVp hw (.cells #[.int .i64 ((rd_T39 l0_0 x15_1).f0),.int .i64 ((rd_T39 l0_0 x15_1).f1),.float .f64 ((rd_T39 l0_0 x15_1).f2),.int .i64 ((rd_T39 l0_0 x15_1).f3),.float .f64 ((rd_T39 l0_0 x15_1).f4),.int .i64 ((rd_T39 l0_0 x15_1).f5)] 39 (0,0)) K164;replace HB:=zU hw HB;clear hw;obtain ⟨hcz129_0,hcz129_1,hcz129_2,hcz129_3,hcz129_4,hcz129_5,hfz129_0,hfz129_1,hfz129_2,hfz129_3,hfz129_4,hfz129_5⟩:=zc6 K164;have:=NB162_159.1;have:=NB159_162.1;have:=NB162_160.1;have:=NB160_162.1;have:=NB162_161.1;have:=NB161_162.1;obtain ⟨hcz133_0,hcz133_1,hcz133_2,hcz133_3,hcz133_4,hcz133_5,hfz133_0,hfz133_1,hfz133_2,hfz133_3,hfz133_4,hfz133_5⟩:=zc6 K162)|((with_reducible refine gate_store (t:=39) (p:=7) rfl ?_);refine store_event (t:=39) (p:=7) (v:=?vo_w134) (w1:=((((((w128.setCell ⟨G162,0,none⟩ (.int .i64 ((rd_T39 l0_0 x15_1).f0))).setCell ⟨G162,1,none⟩ (.int .i64 ((rd_T39 l0_0 x15_1).f1))).setCell ⟨G162,2,none⟩ (.float .f64 ((rd_T39 l0_0 x15_1).f2))).setCell ⟨G162,3,none⟩ (.int .i64 ((rd_T39 l0_0 x15_1).f3))).setCell ⟨G162,4,none⟩ (.float .f64 ((rd_T39 l0_0 x15_1).f4))).setCell ⟨G162,5,none⟩ (.int .i64 ((rd_T39 l0_0 x15_1).f5)))) ?hg ?ho ?hn ?hr ?_;(case ho => rfl);(case hg => rfl);(case hn => rfl);(case hr => first|(go_simp;done)|(go_simp;rfl));intro w134 hw;replace K159:=zV hw K159;replace K160:=zV hw K160;replace K161:=zV hw K161;replace K162:=zVp hw (.cells #[.int .i64 ((rd_T39 l0_0 x15_1).f0),.int .i64 ((rd_T39 l0_0 x15_1).f1),.float .f64 ((rd_T39 l0_0 x15_1).f2),.int .i64 ((rd_T39 l0_0 x15_1).f3),.float .f64 ((rd_T39 l0_0 x15_1).f4),.int .i64 ((rd_T39 l0_0 x15_1).f5)] 39 (0,0)) K162;replace K164:=zV hw K164;replace HB:=zU hw HB;clear hw;obtain ⟨hcz135_0,hcz135_1,hcz135_2,hcz135_3,hcz135_4,hcz135_5,hfz135_0,hfz135_1,hfz135_2,hfz135_3,hfz135_4,hfz135_5⟩:=zc6 K164)|((with_reducible refine gate_callee (f:=53) rfl ?_);refine zg (some 28) Try.func53 #[.float .f64 ((rd_T39 l0_0 x15_1).f2),.int .i64 1] ?_;(with_reducible refine (math_IsInf.calls ((rd_T39 l0_0 x15_1).f2) 1 false _ A68.out).mono ?_);rintro e w' ⟨rfl,⟨nd,rfl⟩⟩;refine ⟨_,rfl,?_⟩;(try (rw [drewN_self w134];generalize hq_ : World.drewN w134 _ = w134;replace K159 : Aside0 (w134.heap[G159]? = some (.cells #[.slice (some ad163) l0_0.length c0_0,.bool a0_1] 24 (0,0))):=⟨by rw [← hq_];exact (z1 K159.1)⟩;replace K160 : Aside0 (w134.heap[G160]? = some (.cells #[.int .i64 0,.int .i64 0,.float .f64 0,.int .i64 0,.float .f64 0,.int .i64 0] 39 (0,0))):=⟨by rw [← hq_];exact (z1 K160.1)⟩;replace K161 : Aside0 (w134.heap[G161]? = some (.cells #[.int .i64 x162000_1,.int .i64 x162001_1,.float .f64 x162002_1,.int .i64 x162003_1,.float .f64 x162004_1,.int .i64 x162005_1] 39 (0,0))):=⟨by rw [← hq_];exact (z1 K161.1)⟩;replace K162 : Aside0 (w134.heap[G162]? = some (.cells #[.int .i64 ((rd_T39 l0_0 x15_1).f0),.int .i64 ((rd_T39 l0_0 x15_1).f1),.float .f64 ((rd_T39 l0_0 x15_1).f2),.int .i64 ((rd_T39 l0_0 x15_1).f3),.float .f64 ((rd_T39 l0_0 x15_1).f4),.int .i64 ((rd_T39 l0_0 x15_1).f5)] 39 (0,0))):=⟨by rw [← hq_];exact (z1 K162.1)⟩;replace K164 : Aside0 (w134.heap[G164]? = some (.cells #[.int .i64 ((rd_T39 l0_0 x15_1).f0),.int .i64 ((rd_T39 l0_0 x15_1).f1),.float .f64 ((rd_T39 l0_0 x15_1).f2),.int .i64 ((rd_T39 l0_0 x15_1).f3),.float .f64 ((rd_T39 l0_0 x15_1).f4),.int .i64 ((rd_T39 l0_0 x15_1).f5)] 39 (0,0))):=⟨by rw [← hq_];exact (z1 K164.1)⟩;replace HB : Aside0 (Below w.heap.size w w134):=⟨by rw [← hq_];exact (zH HB)⟩;clear hq_));obtain ⟨hcz136_0,hcz136_1,hcz136_2,hcz136_3,hcz136_4,hcz136_5,hfz136_0,hfz136_1,hfz136_2,hfz136_3,hfz136_4,hfz136_5⟩:=zc6 K164;have:=NB161_159.1;have:=NB159_161.1;have:=NB161_160.1;have:=NB160_161.1;obtain ⟨hcz139_0,hcz139_1,hcz139_2,hcz139_3,hcz139_4,hcz139_5,hfz139_0,hfz139_1,hfz139_2,hfz139_3,hfz139_4,hfz139_5⟩:=zc6 K161)|((with_reducible refine gate_store (t:=39) (p:=6) rfl ?_);refine store_event (t:=39) (p:=6) (v:=?vo_w140) (w1:=((((((w134.setCell ⟨G161,0,none⟩ (.int .i64 ((rd_T39 l0_0 x15_1).f0))).setCell ⟨G161,1,none⟩ (.int .i64 ((rd_T39 l0_0 x15_1).f1))).setCell ⟨G161,2,none⟩ (.float .f64 ((rd_T39 l0_0 x15_1).f2))).setCell ⟨G161,3,none⟩ (.int .i64 ((rd_T39 l0_0 x15_1).f3))).setCell ⟨G161,4,none⟩ (.float .f64 ((rd_T39 l0_0 x15_1).f4))).setCell ⟨G161,5,none⟩ (.int .i64 ((rd_T39 l0_0 x15_1).f5)))) ?hg ?ho ?hn ?hr ?_;(case ho => rfl);(case hg => rfl);(case hn => rfl);(case hr => first|(go_simp;done)|(go_simp;rfl));intro w140 hw;replace K159:=zV hw K159;replace K160:=zV hw K160;replace K161:=zVp hw (.cells #[.int .i64 ((rd_T39 l0_0 x15_1).f0),.int .i64 ((rd_T39 l0_0 x15_1).f1),.float .f64 ((rd_T39 l0_0 x15_1).f2),.int .i64 ((rd_T39 l0_0 x15_1).f3),.float .f64 ((rd_T39 l0_0 x15_1).f4),.int .i64 ((rd_T39 l0_0 x15_1).f5)] 39 (0,0)) K161;replace K162:=zV hw K162;replace K164:=zV hw K164;replace HB:=zU hw HB;clear hw))
          go_roundg k1
          case measure => have:=HK1.out;omega
          case rel => exact ⟨(true),(true),(wrap64 (x15_1 + 1)),((rd_T39 l0_0 x15_1).f0),((rd_T39 l0_0 x15_1).f1),((rd_T39 l0_0 x15_1).f2),((rd_T39 l0_0 x15_1).f3),((rd_T39 l0_0 x15_1).f4),((rd_T39 l0_0 x15_1).f5),((rd_T39 l0_0 x15_1).f0),((rd_T39 l0_0 x15_1).f1),((rd_T39 l0_0 x15_1).f2),((rd_T39 l0_0 x15_1).f3),((rd_T39 l0_0 x15_1).f4),((rd_T39 l0_0 x15_1).f5),ze,ze,ze,H',⟨by have:=HK1.out;omega⟩,⟨z1 K159.1⟩,⟨z1 K160.1⟩,⟨z1 K161.1⟩,⟨z1 K162.1⟩,⟨zH HB⟩⟩
      ·rw [if_neg c14] at H
       have c14b0 : (((rd_T39 l0_0 x15_1).f0) == a1) = false:=beq_eq_false_iff_ne.mpr c14
       have c14b1 : (((rd_T39 l0_0 x15_1).f0) != a1) = true:=bne_iff_ne.mpr c14
       have H':=Aside0.mk H
       clear H
       have p163 : 0 ≤ (x15_1 : Int):=zd
       have q163 : x15_1 < (l0_0.length : Int):=zd
       obtain ⟨ad163,e163,hx163_0,hx163_1,hx163_2,hx163_3,hx163_4,hx163_5⟩:=at_T39 HR0_0.out x15_1 p163 q163
       cases e163
       replace hx163_0:=zh HB hx163_0
       replace hx163_1:=zh HB hx163_1
       replace hx163_2:=zh HB hx163_2
       replace hx163_3:=zh HB hx163_3
       replace hx163_4:=zh HB hx163_4
       replace hx163_5:=zh HB hx163_5
       replace p163:=eq_true p163
       replace q163:=eq_true q163
       go_wp2_with (first|((with_reducible refine gate_dst (N:=11) rfl ?_);refine zb (N:=11) (cs:=#[.int .i64 0,.int .i64 0,.float .f64 0,.int .i64 0,.float .f64 0,.int .i64 0]) (t:=39) ?_;intro G164 hg w141 hbox hb;have K164:=Aside0.mk (hbox);have GW164:=zN HB hg;have GE164:=zN HB hg;replace HB:=zS HB hb;have NB159_164:=zL K159 hg;have NB164_159:=zG K159 hg;replace K159:=zB K159 hb;have NB160_164:=zL K160 hg;have NB164_160:=zG K160 hg;replace K160:=zB K160 hb;have NB161_164:=zL K161 hg;have NB164_161:=zG K161 hg;replace K161:=zB K161 hb;have NB162_164:=zL K162 hg;have NB164_162:=zG K162 hg;replace K162:=zB K162 hb;clear hb hbox hg;have:=NB164_159.1;have:=NB159_164.1;have:=NB164_160.1;have:=NB160_164.1;have:=NB164_161.1;have:=NB161_164.1;have:=NB164_162.1;have:=NB162_164.1;obtain ⟨hcz146_0,hcz146_1,hcz146_2,hcz146_3,hcz146_4,hcz146_5,hfz146_0,hfz146_1,hfz146_2,hfz146_3,hfz146_4,hfz146_5⟩:=zc6 K164)|((with_reducible refine gate_store (t:=39) (p:=11) rfl ?_);refine store_event (t:=39) (p:=11) (v:=?vo_w147) (w1:=((((((w141.setCell ⟨G164,0,none⟩ (.int .i64 ((rd_T39 l0_0 x15_1).f0))).setCell ⟨G164,1,none⟩ (.int .i64 ((rd_T39 l0_0 x15_1).f1))).setCell ⟨G164,2,none⟩ (.float .f64 ((rd_T39 l0_0 x15_1).f2))).setCell ⟨G164,3,none⟩ (.int .i64 ((rd_T39 l0_0 x15_1).f3))).setCell ⟨G164,4,none⟩ (.float .f64 ((rd_T39 l0_0 x15_1).f4))).setCell ⟨G164,5,none⟩ (.int .i64 ((rd_T39 l0_0 x15_1).f5)))) ?hg ?ho ?hn ?hr ?_;(case ho => rfl);(case hg => rfl);(case hn => rfl);(case hr => first|(go_simp;done)|(go_simp;rfl));intro w147 hw;replace K159:=zV hw K159;replace K160:=zV hw K160;replace K161:=zV hw K161;replace K162:=zV hw K162;replace K164:=zVp hw (.cells #[.int .i64 ((rd_T39 l0_0 x15_1).f0),.int .i64 ((rd_T39 l0_0 x15_1).f1),.float .f64 ((rd_T39 l0_0 x15_1).f2),.int .i64 ((rd_T39 l0_0 x15_1).f3),.float .f64 ((rd_T39 l0_0 x15_1).f4),.int .i64 ((rd_T39 l0_0 x15_1).f5)] 39 (0,0)) K164;replace HB:=zU hw HB;clear hw;obtain ⟨hcz148_0,hcz148_1,hcz148_2,hcz148_3,hcz148_4,hcz148_5,hfz148_0,hfz148_1,hfz148_2,hfz148_3,hfz148_4,hfz148_5⟩:=zc6 K164))
       go_roundg k1
       case measure => have:=HK1.out;omega
       case rel => exact ⟨(x8_1),(x9_1),(wrap64 (x15_1 + 1)),(x162000_1),(x162001_1),(x162002_1),(x162003_1),(x162004_1),(x162005_1),(x163000_1),(x163001_1),(x163002_1),(x163003_1),(x163004_1),(x163005_1),ze,ze,ze,H',⟨by have:=HK1.out;omega⟩,⟨z1 K159.1⟩,⟨z1 K160.1⟩,⟨z1 K161.1⟩,⟨z1 K162.1⟩,⟨zH HB⟩⟩
     ·rw [if_neg c13] at H
      exact absurd H (by simp)
    ·rw [if_neg c12] at H
     exact absurd H (by simp)
   ·rw [if_neg c11] at H
    have c11b0 : decide (x15_1 < (l0_0.length : Int)) = false:=decide_eq_false c11
    clear c11
    by_cases c149 : x8_1 = true
    ·subst c149
     rw [if_pos rfl] at H
     simp only [Option.some.injEq,Prod.mk.injEq] at H
     obtain ⟨rfl,rfl,rfl,rfl,rfl,rfl,rfl⟩:=H
     have:=NB161_159.1
     have:=NB159_161.1
     have:=NB161_160.1
     have:=NB160_161.1
     have:=NB161_162.1
     have:=NB162_161.1
     obtain ⟨hcz153_0,hcz153_1,hcz153_2,hcz153_3,hcz153_4,hcz153_5,hfz153_0,hfz153_1,hfz153_2,hfz153_3,hfz153_4,hfz153_5⟩:=zc6 K161
     have:=NB160_159.1
     have:=NB159_160.1
     have:=NB160_162.1
     have:=NB162_160.1
     obtain ⟨hcz156_0,hcz156_1,hcz156_2,hcz156_3,hcz156_4,hcz156_5,hfz156_0,hfz156_1,hfz156_2,hfz156_3,hfz156_4,hfz156_5⟩:=zc6 K160
     go_wp2_with (first|((with_reducible refine gate_store (t:=39) (p:=4) rfl ?_);refine store_event (t:=39) (p:=4) (v:=?vo_w157) (w1:=((((((wr.setCell ⟨G160,0,none⟩ (.int .i64 x162000_1)).setCell ⟨G160,1,none⟩ (.int .i64 x162001_1)).setCell ⟨G160,2,none⟩ (.float .f64 x162002_1)).setCell ⟨G160,3,none⟩ (.int .i64 x162003_1)).setCell ⟨G160,4,none⟩ (.float .f64 x162004_1)).setCell ⟨G160,5,none⟩ (.int .i64 x162005_1))) ?hg ?ho ?hn ?hr ?_;(case ho => rfl);(case hg => rfl);(case hn => rfl);(case hr => first|(go_simp;done)|(go_simp;rfl));intro w157 hw;replace K159:=zV hw K159;replace K160:=zVp hw (.cells #[.int .i64 x162000_1,.int .i64 x162001_1,.float .f64 x162002_1,.int .i64 x162003_1,.float .f64 x162004_1,.int .i64 x162005_1] 39 (0,0)) K160;replace K161:=zV hw K161;replace K162:=zV hw K162;replace HB:=zU hw HB;clear hw))
     refine bodyPost_ret (results_ct rfl _ _ G160 39 #[.int .i64 x162000_1,.int .i64 x162001_1,.float .f64 x162002_1,.int .i64 x162003_1,.float .f64 x162004_1,.int .i64 x162005_1] (0,0) _ rfl (zF K160) Try.underlying39 rfl (by kernel_rfl)) rfl ?_
     exact ⟨zE,zH HB⟩
    ·replace c149:=Bool.eq_false_iff.mpr c149
     subst c149
     rw [if_neg (show ¬ (false = true) by decide)] at H
     simp only [Option.some.injEq,Prod.mk.injEq] at H
     obtain ⟨rfl,rfl,rfl,rfl,rfl,rfl,rfl⟩:=H
     have:=NB162_159.1
     have:=NB159_162.1
     have:=NB162_160.1
     have:=NB160_162.1
     have:=NB162_161.1
     have:=NB161_162.1
     obtain ⟨hcz161_0,hcz161_1,hcz161_2,hcz161_3,hcz161_4,hcz161_5,hfz161_0,hfz161_1,hfz161_2,hfz161_3,hfz161_4,hfz161_5⟩:=zc6 K162
     have:=NB160_159.1
     have:=NB159_160.1
     have:=NB160_161.1
     have:=NB161_160.1
     obtain ⟨hcz164_0,hcz164_1,hcz164_2,hcz164_3,hcz164_4,hcz164_5,hfz164_0,hfz164_1,hfz164_2,hfz164_3,hfz164_4,hfz164_5⟩:=zc6 K160
     go_wp2_with (first|((with_reducible refine gate_store (t:=39) (p:=4) rfl ?_);refine store_event (t:=39) (p:=4) (v:=?vo_w165) (w1:=((((((wr.setCell ⟨G160,0,none⟩ (.int .i64 x163000_1)).setCell ⟨G160,1,none⟩ (.int .i64 x163001_1)).setCell ⟨G160,2,none⟩ (.float .f64 x163002_1)).setCell ⟨G160,3,none⟩ (.int .i64 x163003_1)).setCell ⟨G160,4,none⟩ (.float .f64 x163004_1)).setCell ⟨G160,5,none⟩ (.int .i64 x163005_1))) ?hg ?ho ?hn ?hr ?_;(case ho => rfl);(case hg => rfl);(case hn => rfl);(case hr => first|(go_simp;done)|(go_simp;rfl));intro w165 hw;replace K159:=zV hw K159;replace K160:=zVp hw (.cells #[.int .i64 x163000_1,.int .i64 x163001_1,.float .f64 x163002_1,.int .i64 x163003_1,.float .f64 x163004_1,.int .i64 x163005_1] 39 (0,0)) K160;replace K161:=zV hw K161;replace K162:=zV hw K162;replace HB:=zU hw HB;clear hw))
     refine bodyPost_ret (results_ct rfl _ _ G160 39 #[.int .i64 x163000_1,.int .i64 x163001_1,.float .f64 x163002_1,.int .i64 x163003_1,.float .f64 x163004_1,.int .i64 x163005_1] (0,0) _ rfl (zF K160) Try.underlying39 rfl (by kernel_rfl)) rfl ?_
     exact ⟨zE,zH HB⟩

/-! ### forward_road_1: function 101 -/
def forward_road_1.f (a0_0 : Int) (a0_1 : Int) (a0_2 : Nat) (a0_3 : Int) (a0_4 : Nat) (a0_5 : Int) (a1_0 : Int) (a1_1 : Int) (a1_2 : Int) (a1_3 : Int) (a1_4 : Int) (a1_5 : Int) (a1_6 : Int) (a1_7 : Int) (a1_8 : ByteArray) (a1_9 : Int) (a1_10 : Int) (a1_11 : ByteArray) : Option (Bool) := if a0_1 = 1 then (some (a0_0 == a1_4)) else (some false)
set_option maxHeartbeats 8000000 in
set_option maxRecDepth 100000 in
theorem forward_road_1.calls (a0_0 : Int) (a0_1 : Int) (a0_2 : Nat) (a0_3 : Int) (a0_4 : Nat) (a0_5 : Int) (G1 : Nat) (a1_0 : Int) (a1_1 : Int) (a1_2 : Int) (a1_3 : Int) (a1_4 : Int) (a1_5 : Int) (a1_6 : Int) (a1_7 : Int) (a1_8 : ByteArray) (a1_9 : Int) (a1_10 : Int) (a1_11 : ByteArray) (r : Bool) (w : World) (hb1_ : w.heap[G1]? = some (.cells #[.int .i64 a1_0, .int .i64 a1_1, .int .i64 a1_2, .int .i64 a1_3, .int .i64 a1_4, .int .i64 a1_5, .int .u64 a1_6, .int .i64 a1_7, .string a1_8, .int .i64 a1_9, .int .i64 a1_10, .string a1_11] 48 (0, 0))) (h : forward_road_1.f a0_0 a0_1 a0_2 a0_3 a0_4 a0_5 a1_0 a1_1 a1_2 a1_3 a1_4 a1_5 a1_6 a1_7 a1_8 a1_9 a1_10 a1_11 = some r) :
  Calls Try.prog 101 #[.agg #[.int .i64 a0_0,.int .i64 a0_1,.float .f64 a0_2,.int .i64 a0_3,.float .f64 a0_4,.int .i64 a0_5],.pointer (some ⟨G1,0,none⟩)] w fun e w' => e = .returned (.bool r) ∧ Below w.heap.size w w':=by
 have hu39:=Try.underlying39
 have K1:=Aside0.mk hb1_
 clear hb1_
 have HB:=Aside0.mk (Below.refl w.heap.size w)
 have H : (if a0_1 = 1 then (some (a0_0 == a1_4)) else (some false)) = some r:=h
 clear h
 by_cases c3 : a0_1 = 1
 ·rw [if_pos c3] at H
  have c3b0 : (a0_1 == 1) = true:=beq_iff_eq.mpr c3
  have c3b1 : (a0_1 != 1) = false:=bne_eq_false_iff_eq.mpr c3
  clear c3
  obtain rfl:=Option.some.inj H
  go_enter Try.func101,Try.ntmps101
  go_wp2_with (first|((with_reducible refine gate_dst (N:=2) rfl ?_);refine zb (N:=2) (cs:=#[.int .i64 a0_0,.int .i64 a0_1,.float .f64 a0_2,.int .i64 a0_3,.float .f64 a0_4,.int .i64 a0_5]) (t:=39) ?_;intro G167 hg w4 hbox hb;have K167:=Aside0.mk (hbox);have GW167:=zN HB hg;have GE167:=zN HB hg;replace HB:=zS HB hb;have NB1_167:=zL K1 hg;have NB167_1:=zG K1 hg;replace K1:=zB K1 hb;clear hb hbox hg;have:=NB167_1.1;have:=NB1_167.1;obtain ⟨hcz6_0,hcz6_1,hcz6_2,hcz6_3,hcz6_4,hcz6_5,hfz6_0,hfz6_1,hfz6_2,hfz6_3,hfz6_4,hfz6_5⟩:=zc6 K167;obtain ⟨hcz7_0,hcz7_1,hcz7_2,hcz7_3,hcz7_4,hcz7_5,hcz7_6,hcz7_7,hcz7_8,hcz7_9,hcz7_10,hcz7_11,hfz7_0,hfz7_1,hfz7_2,hfz7_3,hfz7_4,hfz7_5,hfz7_6,hfz7_7,hfz7_8,hfz7_9,hfz7_10,hfz7_11⟩:=zc12 K1))
  go_ret
  exact ⟨zE,zH HB⟩
 ·rw [if_neg c3] at H
  have c3b0 : (a0_1 == 1) = false:=beq_eq_false_iff_ne.mpr c3
  have c3b1 : (a0_1 != 1) = true:=bne_iff_ne.mpr c3
  obtain rfl:=Option.some.inj H
  go_enter Try.func101,Try.ntmps101
  go_wp2_with (first|((with_reducible refine gate_dst (N:=2) rfl ?_);refine zb (N:=2) (cs:=#[.int .i64 a0_0,.int .i64 a0_1,.float .f64 a0_2,.int .i64 a0_3,.float .f64 a0_4,.int .i64 a0_5]) (t:=39) ?_;intro G167 hg w8 hbox hb;have K167:=Aside0.mk (hbox);have GW167:=zN HB hg;have GE167:=zN HB hg;replace HB:=zS HB hb;have NB1_167:=zL K1 hg;have NB167_1:=zG K1 hg;replace K1:=zB K1 hb;clear hb hbox hg;have:=NB167_1.1;have:=NB1_167.1;obtain ⟨hcz10_0,hcz10_1,hcz10_2,hcz10_3,hcz10_4,hcz10_5,hfz10_0,hfz10_1,hfz10_2,hfz10_3,hfz10_4,hfz10_5⟩:=zc6 K167))
  go_ret
  exact ⟨zE,zH HB⟩

/-! ### api_Entry: function 100 -/
def api_Entry.l0 : Nat → List (S39) → Int → Int → Int → Int → Int → Int → Int → Int → Int → Int → ByteArray → Int → Int → ByteArray → Option (Int)
 | 0, _, _, _, _, _, _, _, _, _, _, _, _, _, _, _ => none
 | k + 1, x0, x7, x8, x2000, x2001, x2002, x2003, x2004, x2005, x2006, x2007, x2008, x2009, x2010, x2011 => if x8 < x7 then (if 0 ≤ x8 then (if x8 < (x0.length : Int) then ((forward_road_1.f ((rd_T39 x0 x8).f0) ((rd_T39 x0 x8).f1) ((rd_T39 x0 x8).f2) ((rd_T39 x0 x8).f3) ((rd_T39 x0 x8).f4) ((rd_T39 x0 x8).f5) x2000 x2001 x2002 x2003 x2004 x2005 x2006 x2007 x2008 x2009 x2010 x2011).bind fun t169 => (if t169 = true then (some x8) else (api_Entry.l0 k x0 x7 (wrap64 (x8 + 1)) x2000 x2001 x2002 x2003 x2004 x2005 x2006 x2007 x2008 x2009 x2010 x2011))) else (none)) else (none)) else (some (-1))
def api_Entry.f (k : Nat) (l0 : List (S39)) (a1_0 : Int) (a1_1 : Int) (a1_2 : Int) (a1_3 : Int) (a1_4 : Int) (a1_5 : Int) (a1_6 : Int) (a1_7 : Int) (a1_8 : ByteArray) (a1_9 : Int) (a1_10 : Int) (a1_11 : ByteArray) : Option (Int) := api_Entry.l0 k l0 (l0.length : Int) 0 a1_0 a1_1 a1_2 a1_3 a1_4 a1_5 a1_6 a1_7 a1_8 a1_9 a1_10 a1_11
theorem api_Entry.mono_l : ∀ k, (∀ y0 y1 y2 y3 y4 y5 y6 y7 y8 y9 y10 y11 y12 y13 y14, LeO (api_Entry.l0 k y0 y1 y2 y3 y4 y5 y6 y7 y8 y9 y10 y11 y12 y13 y14) (api_Entry.l0 (k + 1) y0 y1 y2 y3 y4 y5 y6 y7 y8 y9 y10 y11 y12 y13 y14))
 | 0 => fun _ _ _ _ _ _ _ _ _ _ _ _ _ _ _ r h => by simp [api_Entry.l0] at h
 | k + 1 => by
  have ih0:=api_Entry.mono_l k
  ·intro y0 y1 y2 y3 y4 y5 y6 y7 y8 y9 y10 y11 y12 y13 y14
   unfold api_Entry.l0
   repeat' first
   | (with_reducible exact ih0 _ _ _ _ _ _ _ _ _ _ _ _ _ _ _)
   | (with_reducible exact LeO.refl _)
   | (with_reducible exact LeO.none _)
   | (with_reducible refine LeO.ite ?_ ?_)
   | (with_reducible refine LeO.bind ?_ (fun _ => ?_))
   | exact ih0 _ _ _ _ _ _ _ _ _ _ _ _ _ _ _
   | exact LeO.none _
   | refine LeO.ite ?_ ?_
   | refine LeO.bind ?_ (fun _ => ?_)
theorem api_Entry.mono : ∀ a0 a1 a2 a3 a4 a5 a6 a7 a8 a9 a10 a11 a12 k, LeO (api_Entry.f k a0 a1 a2 a3 a4 a5 a6 a7 a8 a9 a10 a11 a12) (api_Entry.f (k + 1) a0 a1 a2 a3 a4 a5 a6 a7 a8 a9 a10 a11 a12) := by
 intro a0 a1 a2 a3 a4 a5 a6 a7 a8 a9 a10 a11 a12 k
 have ih0:=api_Entry.mono_l k
 unfold api_Entry.f
 repeat' first
   | (with_reducible exact ih0 _ _ _ _ _ _ _ _ _ _ _ _ _ _ _)
   | (with_reducible exact LeO.refl _)
   | (with_reducible exact LeO.none _)
   | (with_reducible refine LeO.ite ?_ ?_)
   | (with_reducible refine LeO.bind ?_ (fun _ => ?_))
   | exact ih0 _ _ _ _ _ _ _ _ _ _ _ _ _ _ _
   | exact LeO.none _
   | refine LeO.ite ?_ ?_
   | refine LeO.bind ?_ (fun _ => ?_)
set_option maxHeartbeats 8000000 in
set_option maxRecDepth 100000 in
theorem api_Entry.calls (k : Nat) (A0 : Option Addr) (c0 : Nat) (l0 : List (S39)) (G1 : Nat) (a1_0 : Int) (a1_1 : Int) (a1_2 : Int) (a1_3 : Int) (a1_4 : Int) (a1_5 : Int) (a1_6 : Int) (a1_7 : Int) (a1_8 : ByteArray) (a1_9 : Int) (a1_10 : Int) (a1_11 : ByteArray) (r : Int) (w : World) (hr0 : Kd.C k39 w A0 l0.length l0) (hc0 : l0.length ≤ c0) (hb1_ : w.heap[G1]? = some (.cells #[.int .i64 a1_0, .int .i64 a1_1, .int .i64 a1_2, .int .i64 a1_3, .int .i64 a1_4, .int .i64 a1_5, .int .u64 a1_6, .int .i64 a1_7, .string a1_8, .int .i64 a1_9, .int .i64 a1_10, .string a1_11] 48 (0, 0))) (h : api_Entry.f k l0 a1_0 a1_1 a1_2 a1_3 a1_4 a1_5 a1_6 a1_7 a1_8 a1_9 a1_10 a1_11 = some r) :
  Calls Try.prog 100 #[.slice A0 l0.length c0,.func (.func 101) #[] #[.pointer (some ⟨G1,0,none⟩)]] w fun e w' => e = .returned (.int .i64 r) ∧ Below w.heap.size w w':=by
 have hu39:=Try.underlying39
 have HR0:=Aside0.mk hr0
 have HC0:=Aside0.mk hc0
 clear hr0 hc0
 have K1:=Aside0.mk hb1_
 clear hb1_
 have HB:=Aside0.mk (Below.refl w.heap.size w)
 have H : (api_Entry.l0 k l0 (l0.length : Int) 0 a1_0 a1_1 a1_2 a1_3 a1_4 a1_5 a1_6 a1_7 a1_8 a1_9 a1_10 a1_11) = some r:=h
 clear h
 have H':=Aside0.mk H
 clear H
 go_enter Try.func100,Try.ntmps100
 go_wp2
 go_loopg [8] k (fun kq v8 w' => ∃ (x8_1 : Int),v8 = .int .i64 x8_1 ∧ Aside0 (api_Entry.l0 kq l0 (l0.length : Int) x8_1 a1_0 a1_1 a1_2 a1_3 a1_4 a1_5 a1_6 a1_7 a1_8 a1_9 a1_10 a1_11 = some r) ∧ Aside0 (kq ≤ k) ∧ Aside0 (w'.heap[G1]? = some (.cells #[.int .i64 a1_0,.int .i64 a1_1,.int .i64 a1_2,.int .i64 a1_3,.int .i64 a1_4,.int .i64 a1_5,.int .u64 a1_6,.int .i64 a1_7,.string a1_8,.int .i64 a1_9,.int .i64 a1_10,.string a1_11] 48 (0,0))) ∧ Aside0 (Below w.heap.size w w'))
 case atStart => exact ⟨(0),ze,H',⟨Nat.le_refl _⟩,⟨z1 K1.1⟩,⟨zH HB⟩⟩
 case round =>
  clear H'
  obtain ⟨x8_1,rfl,HA,HK1,K1,HB⟩:=hrel
  cases gk with
  | zero => exact absurd HA.out (by simp [api_Entry.l0])
  | succ k1 =>
   have H:=HA.out
   clear HA
   simp only [api_Entry.l0] at H
   by_cases c3 : x8_1 < (l0.length : Int)
   ·rw [if_pos c3] at H
    have c3b0 : decide (x8_1 < (l0.length : Int)) = true:=decide_eq_true c3
    clear c3
    by_cases c4 : 0 ≤ x8_1
    ·rw [if_pos c4] at H
     have c4b0 : decide (0 ≤ x8_1) = true:=decide_eq_true c4
     clear c4
     by_cases c5 : x8_1 < (l0.length : Int)
     ·rw [if_pos c5] at H
      have c5b0 : decide (x8_1 < (l0.length : Int)) = true:=decide_eq_true c5
      clear c5
      replace H:=Option.bind_eq_some_iff.mp H
      obtain ⟨t169,A60,H⟩:=H
      (try dsimp only at H)
      have A6:=Aside0.mk A60
      clear A60
      by_cases c7 : t169 = true
      ·subst c7
       rw [if_pos rfl] at H
       obtain rfl:=Option.some.inj H
       have p168 : 0 ≤ (x8_1 : Int):=zd
       have q168 : x8_1 < (l0.length : Int):=zd
       obtain ⟨ad168,e168,hx168_0,hx168_1,hx168_2,hx168_3,hx168_4,hx168_5⟩:=at_T39 HR0.out x8_1 p168 q168
       cases e168
       replace hx168_0:=zh HB hx168_0
       replace hx168_1:=zh HB hx168_1
       replace hx168_2:=zh HB hx168_2
       replace hx168_3:=zh HB hx168_3
       replace hx168_4:=zh HB hx168_4
       replace hx168_5:=zh HB hx168_5
       replace p168:=eq_true p168
       replace q168:=eq_true q168
       go_wp2_with (first|((with_reducible refine gate_calleeV (c:=.tmp 11) rfl ?_);refine goesLC_ (caps:=#[.pointer (some ⟨G1,0,none⟩)]) (some 16) rfl rfl Try.func101 (by kernel_rfl) rfl #[.agg #[.int .i64 ((rd_T39 l0 x8_1).f0),.int .i64 ((rd_T39 l0 x8_1).f1),.float .f64 ((rd_T39 l0 x8_1).f2),.int .i64 ((rd_T39 l0 x8_1).f3),.float .f64 ((rd_T39 l0 x8_1).f4),.int .i64 ((rd_T39 l0 x8_1).f5)],.pointer (some ⟨G1,0,none⟩)] rfl (by (try simp only [List.map_toArray,List.map_cons,List.map_nil]);first|done|rfl|(simp only [List.length_drop,List.length_take];rfl)) ?_;(with_reducible refine (forward_road_1.calls ((rd_T39 l0 x8_1).f0) ((rd_T39 l0 x8_1).f1) ((rd_T39 l0 x8_1).f2) ((rd_T39 l0 x8_1).f3) ((rd_T39 l0 x8_1).f4) ((rd_T39 l0 x8_1).f5) G1 a1_0 a1_1 a1_2 a1_3 a1_4 a1_5 a1_6 a1_7 a1_8 a1_9 a1_10 a1_11 true _ ?side1 A6.out).mono ?_);(case side1 => (with_reducible repeat first|apply bN|apply bD|apply bA);exact K1.1);rintro e w8 ⟨rfl,hb⟩;refine ⟨_,rfl,?_⟩;replace K1:=zB K1 hb;replace HB:=zS HB hb;(try clear hb)))
       go_ret
       exact ⟨zE,zH HB⟩
      ·replace c7:=Bool.eq_false_iff.mpr c7
       subst c7
       rw [if_neg (show ¬ (false = true) by decide)] at H
       have H':=Aside0.mk H
       clear H
       have p168 : 0 ≤ (x8_1 : Int):=zd
       have q168 : x8_1 < (l0.length : Int):=zd
       obtain ⟨ad168,e168,hx168_0,hx168_1,hx168_2,hx168_3,hx168_4,hx168_5⟩:=at_T39 HR0.out x8_1 p168 q168
       cases e168
       replace hx168_0:=zh HB hx168_0
       replace hx168_1:=zh HB hx168_1
       replace hx168_2:=zh HB hx168_2
       replace hx168_3:=zh HB hx168_3
       replace hx168_4:=zh HB hx168_4
       replace hx168_5:=zh HB hx168_5
       replace p168:=eq_true p168
       replace q168:=eq_true q168
       go_wp2_with (first|((with_reducible refine gate_calleeV (c:=.tmp 11) rfl ?_);refine goesLC_ (caps:=#[.pointer (some ⟨G1,0,none⟩)]) (some 16) rfl rfl Try.func101 (by kernel_rfl) rfl #[.agg #[.int .i64 ((rd_T39 l0 x8_1).f0),.int .i64 ((rd_T39 l0 x8_1).f1),.float .f64 ((rd_T39 l0 x8_1).f2),.int .i64 ((rd_T39 l0 x8_1).f3),.float .f64 ((rd_T39 l0 x8_1).f4),.int .i64 ((rd_T39 l0 x8_1).f5)],.pointer (some ⟨G1,0,none⟩)] rfl (by (try simp only [List.map_toArray,List.map_cons,List.map_nil]);first|done|rfl|(simp only [List.length_drop,List.length_take];rfl)) ?_;(with_reducible refine (forward_road_1.calls ((rd_T39 l0 x8_1).f0) ((rd_T39 l0 x8_1).f1) ((rd_T39 l0 x8_1).f2) ((rd_T39 l0 x8_1).f3) ((rd_T39 l0 x8_1).f4) ((rd_T39 l0 x8_1).f5) G1 a1_0 a1_1 a1_2 a1_3 a1_4 a1_5 a1_6 a1_7 a1_8 a1_9 a1_10 a1_11 false _ ?side1 A6.out).mono ?_);(case side1 => (with_reducible repeat first|apply bN|apply bD|apply bA);exact K1.1);rintro e w9 ⟨rfl,hb⟩;refine ⟨_,rfl,?_⟩;replace K1:=zB K1 hb;replace HB:=zS HB hb;(try clear hb)))
       go_roundg k1
       case measure => have:=HK1.out;omega
       case rel => exact ⟨(wrap64 (x8_1 + 1)),ze,H',⟨by have:=HK1.out;omega⟩,⟨z1 K1.1⟩,⟨zH HB⟩⟩
     ·rw [if_neg c5] at H
      exact absurd H (by simp)
    ·rw [if_neg c4] at H
     exact absurd H (by simp)
   ·rw [if_neg c3] at H
    have c3b0 : decide (x8_1 < (l0.length : Int)) = false:=decide_eq_false c3
    clear c3
    obtain rfl:=Option.some.inj H
    go_wp2
    go_ret
    exact ⟨zE,zH HB⟩

end Go.Proofs.Ytgmjlhpigfaicaa.XF
