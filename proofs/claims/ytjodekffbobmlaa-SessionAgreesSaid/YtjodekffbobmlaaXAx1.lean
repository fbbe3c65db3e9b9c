/- Go functions of this seat as Lean functions, with proofs that the calls come to them. (Written by xprint.py, a program of this session, over the kit's print.) -/
import Derived.Test.YtjodekffbobmlaaXAx0
namespace Go.Proofs.Ytjodekffbobmlaa.XA
open Go.RowKit Go.Proofs.YtjodekffbobmlaaW.PrintWords Go.Proofs.YtjodekffbobmlaaW.PrintLast Go.Proofs.YtjodekffbobmlaaW.PrintMore
attribute [local go_sem] max2_int min2_int max_two min_two max_three min_three max_four min_four   -- for this text's walks alone
set_option linter.unusedVariables false
set_option linter.unusedSimpArgs false
open List renaming setIfInBounds_toArray → xA, set_cons_zero → xB, set_cons_succ → xC
open Go.Proofs.YtjodekffbobmlaaW.PrintWords renaming blk_drewN → bN, blk_drew → bD, blk_alloc → bA, below_set → bS, blk_frozen → bF, blk_cell → bC, cell_far → cF, blk_far → bZ, blk_below → bB, pw_below_drewN → bwN, below_drew1 → bw1, below_alloc → bwA
open Go.Proofs.YtjodekffbobmlaaW.PrintZ
open Bool renaming true → T,false → F

/-! ### session_New: function 7 -/
def session_New.f (a0 : Int) : Option (Int × Int × Bool × Int × Int) := if a0 = 0 then (some (0, 0, false, 0, 1)) else (some (a0, 0, false, 0, 0))
set_option maxHeartbeats 8000000 in
set_option maxRecDepth 100000 in
theorem session_New.calls (a0 : Int) (r1 : Int) (r2 : Int) (r3 : Bool) (r4 : Int) (r5 : Int) (w : World) (h : session_New.f a0 = some (r1, r2, r3, r4, r5)) :
  Calls Try.prog 7 #[.int .u64 a0] w fun e w' => e = .returned (.tuple #[.agg #[.int .u64 r1,.int .u64 r2,.bool r3,.int .i64 r4],.int .i64 r5]) ∧ Below w.heap.size w w':=by
 have hu26:=Try.underlying26
 have HB:=zA (Below.refl w.heap.size w)
 have H : (if a0 = 0 then (some (0,0,false,0,1)) else (some (a0,0,false,0,0))) = some (r1,r2,r3,r4,r5):=h
 clear h
 by_cases c2 : a0 = 0
 ·rw [if_pos c2] at H
  have c2b0 : (a0 == 0) = true:=beq_iff_eq.mpr c2
  have c2b1 : (a0 != 0) = false:=bne_eq_false_iff_eq.mpr c2
  clear c2
  simp only [Option.some.injEq,Prod.mk.injEq] at H
  obtain ⟨rfl,rfl,rfl,rfl,rfl⟩:=H
  go_enter Try.func7,Try.ntmps7
  go_wp2_with (first|((with_reducible refine gate_dst (N:=2) rfl ?_);refine zb (N:=2) (cs:=#[.int .u64 0,.int .u64 0,.bool false,.int .i64 0]) (t:=26) ?_;intro G101 hg w3 hbox hb;have K101:=zA (hbox);have GW101:=zN HB hg;have GE101:=zN HB hg;replace HB:=zS HB hb;clear hb hbox hg;obtain ⟨hcz4_0,hcz4_1,hcz4_2,hcz4_3,hfz4_0,hfz4_1,hfz4_2,hfz4_3⟩:=zc4 K101)|((with_reducible refine gate_store (t:=26) (p:=2) rfl ?_);refine store_event (t:=26) (p:=2) (v:=?vo_w5) (w1:=((((w3.setCell ⟨G101,0,none⟩ (.int .u64 0)).setCell ⟨G101,1,none⟩ (.int .u64 0)).setCell ⟨G101,2,none⟩ (.bool false)).setCell ⟨G101,3,none⟩ (.int .i64 0))) ?hg ?ho ?hn ?hr ?_;(case ho => rfl);(case hg => rfl);(case hn => rfl);(case hr => first|(go_simp;done)|(go_simp;rfl));intro w5 hw;replace K101:=zVp hw (.cells #[.int .u64 0,.int .u64 0,.bool false,.int .i64 0] 26 (0,0)) K101;replace HB:=zU hw HB;clear hw))
  refine bodyPost_ret (results_ct rfl _ _ G101 26 #[.int .u64 0,.int .u64 0,.bool false,.int .i64 0] (0,0) _ rfl (zF K101) Try.underlying26 rfl (by kernel_rfl)) rfl ?_
  exact ⟨zE,zH HB⟩
 rw [if_neg c2] at H
 have c2b0 : (a0 == 0) = false:=beq_eq_false_iff_ne.mpr c2
 have c2b1 : (a0 != 0) = true:=bne_iff_ne.mpr c2
 simp only [Option.some.injEq,Prod.mk.injEq] at H
 obtain ⟨rfl,rfl,rfl,rfl,rfl⟩:=H
 go_enter Try.func7,Try.ntmps7
 go_wp2_with (first|((with_reducible refine gate_dst (N:=2) rfl ?_);refine zb (N:=2) (cs:=#[.int .u64 0,.int .u64 0,.bool false,.int .i64 0]) (t:=26) ?_;intro G101 hg w6 hbox hb;have K101:=zA (hbox);have GW101:=zN HB hg;have GE101:=zN HB hg;replace HB:=zS HB hb;clear hb hbox hg;obtain ⟨hcz7_0,hcz7_1,hcz7_2,hcz7_3,hfz7_0,hfz7_1,hfz7_2,hfz7_3⟩:=zc4 K101)|((with_reducible refine gate_store (t:=26) (p:=2) rfl ?_);refine store_event (t:=26) (p:=2) (v:=?vo_w8) (w1:=((((w6.setCell ⟨G101,0,none⟩ (.int .u64 a0)).setCell ⟨G101,1,none⟩ (.int .u64 0)).setCell ⟨G101,2,none⟩ (.bool false)).setCell ⟨G101,3,none⟩ (.int .i64 0))) ?hg ?ho ?hn ?hr ?_;(case ho => rfl);(case hg => rfl);(case hn => rfl);(case hr => first|(go_simp;done)|(go_simp;rfl));intro w8 hw;replace K101:=zVp hw (.cells #[.int .u64 a0,.int .u64 0,.bool false,.int .i64 0] 26 (0,0)) K101;replace HB:=zU hw HB;clear hw))
 refine bodyPost_ret (results_ct rfl _ _ G101 26 #[.int .u64 a0,.int .u64 0,.bool false,.int .i64 0] (0,0) _ rfl (zF K101) Try.underlying26 rfl (by kernel_rfl)) rfl ?_
 exact ⟨zE,zH HB⟩

/-! ### session_heard: function 27 -/
def session_heard.f (a0_0 : Int) (a0_1 : Int) (a0_2 : Bool) (a0_3 : Int) : Option (Int × Int × Bool × Int × Bool) := some (a0_0, a0_1, true, a0_3, !a0_2)
set_option maxHeartbeats 8000000 in
set_option maxRecDepth 100000 in
theorem session_heard.calls (a0_0 : Int) (a0_1 : Int) (a0_2 : Bool) (a0_3 : Int) (r1 : Int) (r2 : Int) (r3 : Bool) (r4 : Int) (r5 : Bool) (w : World) (h : session_heard.f a0_0 a0_1 a0_2 a0_3 = some (r1, r2, r3, r4, r5)) :
  Calls Try.prog 27 #[.agg #[.int .u64 a0_0,.int .u64 a0_1,.bool a0_2,.int .i64 a0_3]] w fun e w' => e = .returned (.tuple #[.agg #[.int .u64 r1,.int .u64 r2,.bool r3,.int .i64 r4],.bool r5]) ∧ Below w.heap.size w w':=by
 have hu26:=Try.underlying26
 have HB:=zA (Below.refl w.heap.size w)
 have H : (some (a0_0,a0_1,true,a0_3,!a0_2)) = some (r1,r2,r3,r4,r5):=h
 clear h
 simp only [Option.some.injEq,Prod.mk.injEq] at H
 obtain ⟨rfl,rfl,rfl,rfl,rfl⟩:=H
 go_enter Try.func27,Try.ntmps27
 go_wp2_with (first|((with_reducible refine gate_dst (N:=1) rfl ?_);refine zb (N:=1) (cs:=#[.int .u64 a0_0,.int .u64 a0_1,.bool a0_2,.int .i64 a0_3]) (t:=26) ?_;intro G102 hg w2 hbox hb;have K102:=zA (hbox);have GW102:=zN HB hg;have GE102:=zN HB hg;replace HB:=zS HB hb;clear hb hbox hg)|((with_reducible refine gate_dst (N:=2) rfl ?_);refine zb (N:=2) (cs:=#[.int .u64 0,.int .u64 0,.bool false,.int .i64 0]) (t:=26) ?_;intro G103 hg w3 hbox hb;have K103:=zA (hbox);have GW103:=zN HB hg;have GE103:=zN HB hg;replace HB:=zS HB hb;have NB102_103:=zL K102 hg;have NB103_102:=zG K102 hg;replace K102:=zB K102 hb;clear hb hbox hg;have:=NB102_103.1;have:=NB103_102.1;obtain ⟨hcz5_0,hcz5_1,hcz5_2,hcz5_3,hfz5_0,hfz5_1,hfz5_2,hfz5_3⟩:=zc4 K102;obtain ⟨hcz6_0,hcz6_1,hcz6_2,hcz6_3,hfz6_0,hfz6_1,hfz6_2,hfz6_3⟩:=zc4 K103)|((with_reducible refine gate_store (t:=26) (p:=2) rfl ?_);refine store_event (t:=26) (p:=2) (v:=?vo_w7) (w1:=(((((w3.setCell ⟨G102,2,none⟩ (.bool true)).setCell ⟨G103,0,none⟩ (.int .u64 a0_0)).setCell ⟨G103,1,none⟩ (.int .u64 a0_1)).setCell ⟨G103,2,none⟩ (.bool true)).setCell ⟨G103,3,none⟩ (.int .i64 a0_3))) ?hg ?ho ?hn ?hr ?_;(case ho => rfl);(case hg => rfl);(case hn => rfl);(case hr => first|(go_simp;done)|(go_simp;rfl));intro w7 hw;replace K102:=zVp hw (.cells #[.int .u64 a0_0,.int .u64 a0_1,.bool true,.int .i64 a0_3] 26 (0,0)) K102;replace K103:=zVp hw (.cells #[.int .u64 a0_0,.int .u64 a0_1,.bool true,.int .i64 a0_3] 26 (0,0)) K103;replace HB:=zU hw HB;clear hw))
 refine bodyPost_ret (results_ct rfl _ _ G103 26 #[.int .u64 a0_0,.int .u64 a0_1,.bool true,.int .i64 a0_3] (0,0) _ rfl (zF K103) Try.underlying26 rfl (by kernel_rfl)) rfl ?_
 exact ⟨zE,zH HB⟩

/-! ### session_Hear: function 10 -/
mutual
def session_Hear.j0 : Nat → Int → Int → Bool → Bool → Bool → Int → Int → Bool → Int → Option (Int × Int × Bool × Int × Bool × Bool)
 | 0, _, _, _, _, _, _, _, _, _ => none
 | k + 1, x1, x2, x7, x8, x16, x105000, x105001, x105002, x105003 => if x16 = true then (some (x105000, x105001, x105002, x105003, false, false)) else (if x1 > x105001 then (session_Hear.j1 k x2 true x8 x105000 x1 false x105003) else (session_Hear.j1 k x2 x7 x8 x105000 x105001 x105002 x105003))
def session_Hear.j1 : Nat → Int → Bool → Bool → Int → Int → Bool → Int → Option (Int × Int × Bool × Int × Bool × Bool)
 | 0, _, _, _, _, _, _, _ => none
 | k + 1, x2, x7, x8, x105000, x105001, x105002, x105003 => if x2 = x105000 then ((session_heard.f x105000 x105001 x105002 0).bind fun bt106 => (some (bt106.1, bt106.2.1, bt106.2.2.1, bt106.2.2.2.1, x7, bt106.2.2.2.2))) else (some (x105000, x105001, x105002, 0, x7, x8))
end
def session_Hear.f (k : Nat) (a0_0 : Int) (a0_1 : Int) (a0_2 : Bool) (a0_3 : Int) (a1 : Int) (a2 : Int) : Option (Int × Int × Bool × Int × Bool × Bool) := if a1 = 0 then (session_Hear.j0 k a1 a2 false false true a0_0 a0_1 a0_2 a0_3) else (session_Hear.j0 k a1 a2 false false (decide (a1 < a0_1)) a0_0 a0_1 a0_2 a0_3)
theorem session_Hear.mono_l : ∀ k, (∀ y0 y1 y2 y3 y4 y5 y6 y7 y8, LeO (session_Hear.j0 k y0 y1 y2 y3 y4 y5 y6 y7 y8) (session_Hear.j0 (k + 1) y0 y1 y2 y3 y4 y5 y6 y7 y8)) ∧ (∀ y0 y1 y2 y3 y4 y5 y6, LeO (session_Hear.j1 k y0 y1 y2 y3 y4 y5 y6) (session_Hear.j1 (k + 1) y0 y1 y2 y3 y4 y5 y6))
 | 0 => ⟨fun _ _ _ _ _ _ _ _ _ r h => by simp [session_Hear.j0] at h, fun _ _ _ _ _ _ _ r h => by simp [session_Hear.j1] at h⟩
 | k + 1 => by
  obtain ⟨ih0,ih1⟩:=session_Hear.mono_l k
  refine ⟨?_,?_⟩
  ·intro y0 y1 y2 y3 y4 y5 y6 y7 y8
   unfold session_Hear.j0
   repeat' first
   | (with_reducible exact ih0 _ _ _ _ _ _ _ _ _)
   | (with_reducible exact ih1 _ _ _ _ _ _ _)
   | (with_reducible exact LeO.refl _)
   | (with_reducible exact LeO.none _)
   | (with_reducible refine LeO.ite ?_ ?_)
   | (with_reducible refine LeO.bind ?_ (fun _ => ?_))
   | exact ih0 _ _ _ _ _ _ _ _ _
   | exact ih1 _ _ _ _ _ _ _
   | exact LeO.none _
   | refine LeO.ite ?_ ?_
   | refine LeO.bind ?_ (fun _ => ?_)
  intro y0 y1 y2 y3 y4 y5 y6
  unfold session_Hear.j1
  repeat' first
  | (with_reducible exact ih0 _ _ _ _ _ _ _ _ _)
  | (with_reducible exact ih1 _ _ _ _ _ _ _)
  | (with_reducible exact LeO.refl _)
  | (with_reducible exact LeO.none _)
  | (with_reducible refine LeO.ite ?_ ?_)
  | (with_reducible refine LeO.bind ?_ (fun _ => ?_))
  | exact ih0 _ _ _ _ _ _ _ _ _
  | exact ih1 _ _ _ _ _ _ _
  | exact LeO.none _
  | refine LeO.ite ?_ ?_
  | refine LeO.bind ?_ (fun _ => ?_)
theorem session_Hear.mono : ∀ a0 a1 a2 a3 a4 a5 k, LeO (session_Hear.f k a0 a1 a2 a3 a4 a5) (session_Hear.f (k + 1) a0 a1 a2 a3 a4 a5) := by
 intro a0 a1 a2 a3 a4 a5 k
 obtain ⟨ih0,ih1⟩:=session_Hear.mono_l k
 unfold session_Hear.f
 repeat' first
   | (with_reducible exact ih0 _ _ _ _ _ _ _ _ _)
   | (with_reducible exact ih1 _ _ _ _ _ _ _)
   | (with_reducible exact LeO.refl _)
   | (with_reducible exact LeO.none _)
   | (with_reducible refine LeO.ite ?_ ?_)
   | (with_reducible refine LeO.bind ?_ (fun _ => ?_))
   | exact ih0 _ _ _ _ _ _ _ _ _
   | exact ih1 _ _ _ _ _ _ _
   | exact LeO.none _
   | refine LeO.ite ?_ ?_
   | refine LeO.bind ?_ (fun _ => ?_)
set_option maxHeartbeats 8000000 in
set_option maxRecDepth 100000 in
theorem session_Hear.calls (k : Nat) (a0_0 : Int) (a0_1 : Int) (a0_2 : Bool) (a0_3 : Int) (a1 : Int) (a2 : Int) (r1 : Int) (r2 : Int) (r3 : Bool) (r4 : Int) (r5 : Bool) (r6 : Bool) (w : World) (h : session_Hear.f k a0_0 a0_1 a0_2 a0_3 a1 a2 = some (r1, r2, r3, r4, r5, r6)) :
  Calls Try.prog 10 #[.agg #[.int .u64 a0_0,.int .u64 a0_1,.bool a0_2,.int .i64 a0_3],.int .u64 a1,.int .u64 a2] w fun e w' => e = .returned (.tuple #[.agg #[.int .u64 r1,.int .u64 r2,.bool r3,.int .i64 r4],.bool r5,.bool r6]) ∧ Below w.heap.size w w':=by
 have hu26:=Try.underlying26
 have HB:=zA (Below.refl w.heap.size w)
 have H : (if a1 = 0 then (session_Hear.j0 k a1 a2 false false true a0_0 a0_1 a0_2 a0_3) else (session_Hear.j0 k a1 a2 false false (decide (a1 < a0_1)) a0_0 a0_1 a0_2 a0_3)) = some (r1,r2,r3,r4,r5,r6):=h
 clear h
 have HC4:=zA H
 clear H
 go_enter Try.func10,Try.ntmps10
 go_upto_region 1 with (first|((with_reducible refine gate_dst (N:=3) rfl ?_);refine zb (N:=3) (cs:=#[.int .u64 a0_0,.int .u64 a0_1,.bool a0_2,.int .i64 a0_3]) (t:=26) ?_;intro G104 hg w5 hbox hb;have K104:=zA (hbox);have GW104:=zN HB hg;have GE104:=zN HB hg;replace HB:=zS HB hb;clear hb hbox hg)|((with_reducible refine gate_dst (N:=6) rfl ?_);refine zb (N:=6) (cs:=#[.int .u64 0,.int .u64 0,.bool false,.int .i64 0]) (t:=26) ?_;intro G105 hg w6 hbox hb;have K105:=zA (hbox);have GW105:=zN HB hg;have GE105:=zN HB hg;replace HB:=zS HB hb;have NB104_105:=zL K104 hg;have NB105_104:=zG K104 hg;replace K104:=zB K104 hb;clear hb hbox hg))
 (try simp only [Act.put,xA,xB,xC])
 go_cut [16] (fun v16 wc => ∃ (kq : Nat) (x16_3 : Bool),v16 = .bool x16_3 ∧ Aside0 (session_Hear.j0 kq a1 a2 false false x16_3 a0_0 a0_1 a0_2 a0_3 = some (r1,r2,r3,r4,r5,r6)) ∧ Aside0 (kq ≤ k) ∧ Aside0 (wc.heap[G104]? = some (.cells #[.int .u64 a0_0,.int .u64 a0_1,.bool a0_2,.int .i64 a0_3] 26 (0,0))) ∧ Aside0 (wc.heap[G105]? = some (.cells #[.int .u64 0,.int .u64 0,.bool false,.int .i64 0] 26 (0,0))) ∧ Aside0 (Below w.heap.size w wc))
 case first =>
  have H:=HC4.out
  clear HC4
  by_cases c7 : a1 = 0
  ·rw [if_pos c7] at H
   have c7b0 : (a1 == 0) = true:=beq_iff_eq.mpr c7
   have c7b1 : (a1 != 0) = false:=bne_eq_false_iff_eq.mpr c7
   clear c7
   (first|rw [c7b0]|(simp only [i64_w,i32_w];rw [c7b0])|skip)
   have H':=zA H
   clear H
   go_wp2
   go_meet
   case rel => exact ⟨_,(true),ze,H',⟨zo⟩,⟨z1 K104.1⟩,⟨z1 K105.1⟩,⟨zH HB⟩⟩
  rw [if_neg c7] at H
  have c7b0 : (a1 == 0) = false:=beq_eq_false_iff_ne.mpr c7
  have c7b1 : (a1 != 0) = true:=bne_iff_ne.mpr c7
  (first|rw [c7b0]|(simp only [i64_w,i32_w];rw [c7b0])|skip)
  have H':=zA H
  clear H
  have:=NB104_105.1
  have:=NB105_104.1
  obtain ⟨hcz9_0,hcz9_1,hcz9_2,hcz9_3,hfz9_0,hfz9_1,hfz9_2,hfz9_3⟩:=zc4 K104
  go_wp2
  go_meet
  case rel => exact ⟨_,(decide (a1 < a0_1)),ze,H',⟨zo⟩,⟨z1 K104.1⟩,⟨z1 K105.1⟩,⟨zH HB⟩⟩
 clear HC4
 obtain ⟨kq,x16_3,rfl,HA,HJ3,K104,K105,HB⟩:=hcut
 cases kq with
 | zero => exact absurd HA.out (by simp [session_Hear.j0])
 | succ kj3 => ?_
 have H:=HA.out
 clear HA
 simp only [session_Hear.j0] at H
 by_cases c10 : x16_3 = true
 ·subst c10
  rw [if_pos rfl] at H
  simp only [Option.some.injEq,Prod.mk.injEq] at H
  obtain ⟨rfl,rfl,rfl,rfl,rfl,rfl⟩:=H
  have:=NB104_105.1
  have:=NB105_104.1
  obtain ⟨hcz12_0,hcz12_1,hcz12_2,hcz12_3,hfz12_0,hfz12_1,hfz12_2,hfz12_3⟩:=zc4 K104
  obtain ⟨hcz13_0,hcz13_1,hcz13_2,hcz13_3,hfz13_0,hfz13_1,hfz13_2,hfz13_3⟩:=zc4 K105
  go_wp2_with (first|((with_reducible refine gate_store (t:=26) (p:=6) rfl ?_);refine store_event (t:=26) (p:=6) (v:=?vo_w14) (w1:=((((wc.setCell ⟨G105,0,none⟩ (.int .u64 a0_0)).setCell ⟨G105,1,none⟩ (.int .u64 a0_1)).setCell ⟨G105,2,none⟩ (.bool a0_2)).setCell ⟨G105,3,none⟩ (.int .i64 a0_3))) ?hg ?ho ?hn ?hr ?_;(case ho => rfl);(case hg => rfl);(case hn => rfl);(case hr => first|(go_simp;done)|(go_simp;rfl));intro w14 hw;replace K104:=zV hw K104;replace K105:=zVp hw (.cells #[.int .u64 a0_0,.int .u64 a0_1,.bool a0_2,.int .i64 a0_3] 26 (0,0)) K105;replace HB:=zU hw HB;clear hw))
  refine bodyPost_ret (results_ctt rfl _ _ G105 26 #[.int .u64 a0_0,.int .u64 a0_1,.bool a0_2,.int .i64 a0_3] (0,0) _ rfl (zF K105) Try.underlying26 rfl (by kernel_rfl)) rfl ?_
  exact ⟨zE,zH HB⟩
 replace c10:=Bool.eq_false_iff.mpr c10
 subst c10
 rw [if_neg (show ¬ (false = true) by decide)] at H
 have HC15:=zA H
 clear H
 have:=NB104_105.1
 have:=NB105_104.1
 obtain ⟨hcz17_0,hcz17_1,hcz17_2,hcz17_3,hfz17_0,hfz17_1,hfz17_2,hfz17_3⟩:=zc4 K104
 go_upto_if 21 with (fail)
 go_cut [7] (fun v7 wc => ∃ (kq : Nat) (x7_14 : Bool) (x105001_14 : Int) (x105002_14 : Bool),v7 = .bool x7_14 ∧ Aside0 (session_Hear.j1 kq a2 x7_14 false a0_0 x105001_14 x105002_14 a0_3 = some (r1,r2,r3,r4,r5,r6)) ∧ Aside0 (kq ≤ kj3) ∧ Aside0 (wc.heap[G104]? = some (.cells #[.int .u64 a0_0,.int .u64 x105001_14,.bool x105002_14,.int .i64 a0_3] 26 (0,0))) ∧ Aside0 (wc.heap[G105]? = some (.cells #[.int .u64 0,.int .u64 0,.bool false,.int .i64 0] 26 (0,0))) ∧ Aside0 (Below w.heap.size w wc))
 case first =>
  have H:=HC15.out
  clear HC15
  by_cases c18 : a1 > a0_1
  ·rw [if_pos c18] at H
   have c18b0 : decide (a0_1 < a1) = true:=decide_eq_true c18
   clear c18
   (first|rw [c18b0]|(simp only [i64_w,i32_w];rw [c18b0])|skip)
   have H':=zA H
   clear H
   obtain ⟨hcz20_0,hcz20_1,hcz20_2,hcz20_3,hfz20_0,hfz20_1,hfz20_2,hfz20_3⟩:=zc4 K104
   go_wp2
   go_meet
   case rel => exact ⟨_,(true),(a1),(false),ze,H',⟨by have:=HJ3.out;first|omega|exact Nat.le_refl _⟩,⟨zF K104⟩,⟨zf K105⟩,⟨zH HB⟩⟩
  rw [if_neg c18] at H
  have c18b0 : decide (a0_1 < a1) = false:=decide_eq_false c18
  clear c18
  (first|rw [c18b0]|(simp only [i64_w,i32_w];rw [c18b0])|skip)
  have H':=zA H
  clear H
  go_wp2
  go_meet
  case rel => exact ⟨_,(false),(a0_1),(a0_2),ze,H',⟨by have:=HJ3.out;first|omega|exact Nat.le_refl _⟩,⟨z1 K104.1⟩,⟨z1 K105.1⟩,⟨zH HB⟩⟩
 clear HC15
 try clear c10;try clear hcz17_0;try clear hcz17_1;try clear hcz17_2;try clear hcz17_3;try clear hfz17_0;try clear hfz17_1;try clear hfz17_2;try clear hfz17_3
 obtain ⟨kq,x7_14,x105001_14,x105002_14,rfl,HA,HJ14,K104,K105,HB⟩:=hcut
 cases kq with
 | zero => exact absurd HA.out (by simp [session_Hear.j1])
 | succ kj14 => ?_
 have H:=HA.out
 clear HA
 simp only [session_Hear.j1] at H
 by_cases c21 : a2 = a0_0
 ·rw [if_pos c21] at H
  have c21b0 : (a2 == a0_0) = true:=beq_iff_eq.mpr c21
  have c21b1 : (a2 != a0_0) = false:=bne_eq_false_iff_eq.mpr c21
  clear c21
  replace H:=Option.bind_eq_some_iff.mp H
  obtain ⟨⟨t106,t107,t108,t109,t110⟩,A220,H⟩:=H
  (try dsimp only at H)
  have A22:=zA A220
  clear A220
  simp only [Option.some.injEq,Prod.mk.injEq] at H
  obtain ⟨rfl,rfl,rfl,rfl,rfl,rfl⟩:=H
  obtain ⟨hcz24_0,hcz24_1,hcz24_2,hcz24_3,hfz24_0,hfz24_1,hfz24_2,hfz24_3⟩:=zc4 K104
  go_wp2_with (first|((with_reducible refine gate_callee (f:=27) rfl ?_);refine zg (some 32) Try.func27 #[.agg #[.int .u64 a0_0,.int .u64 x105001_14,.bool x105002_14,.int .i64 0]] ?_;(with_reducible refine (session_heard.calls a0_0 x105001_14 x105002_14 0 t106 t107 t108 t109 t110 _ A22.out).mono ?_);rintro e w25 ⟨rfl,hb⟩;refine ⟨_,rfl,?_⟩;replace K104:=zBp (.cells #[.int .u64 a0_0,.int .u64 x105001_14,.bool x105002_14,.int .i64 0] 26 (0,0)) K104 hb;replace K105:=zBf K105 hb;replace HB:=zS HB hb;(try clear hb);obtain ⟨hcz26_0,hcz26_1,hcz26_2,hcz26_3,hfz26_0,hfz26_1,hfz26_2,hfz26_3⟩:=zc4 K104)|((with_reducible refine gate_store (t:=26) (p:=3) rfl ?_);refine store_event (t:=26) (p:=3) (v:=?vo_w27) (w1:=((((w25.setCell ⟨G104,0,none⟩ (.int .u64 t106)).setCell ⟨G104,1,none⟩ (.int .u64 t107)).setCell ⟨G104,2,none⟩ (.bool t108)).setCell ⟨G104,3,none⟩ (.int .i64 t109))) ?hg ?ho ?hn ?hr ?_;(case ho => rfl);(case hg => rfl);(case hn => rfl);(case hr => first|(go_simp;done)|(go_simp;rfl));intro w27 hw;replace K104:=zVp hw (.cells #[.int .u64 t106,.int .u64 t107,.bool t108,.int .i64 t109] 26 (0,0)) K104;replace K105:=zV hw K105;replace HB:=zU hw HB;clear hw;obtain ⟨hcz28_0,hcz28_1,hcz28_2,hcz28_3,hfz28_0,hfz28_1,hfz28_2,hfz28_3⟩:=zc4 K104;obtain ⟨hcz29_0,hcz29_1,hcz29_2,hcz29_3,hfz29_0,hfz29_1,hfz29_2,hfz29_3⟩:=zc4 K105)|((with_reducible refine gate_store (t:=26) (p:=6) rfl ?_);refine store_event (t:=26) (p:=6) (v:=?vo_w30) (w1:=((((w27.setCell ⟨G105,0,none⟩ (.int .u64 t106)).setCell ⟨G105,1,none⟩ (.int .u64 t107)).setCell ⟨G105,2,none⟩ (.bool t108)).setCell ⟨G105,3,none⟩ (.int .i64 t109))) ?hg ?ho ?hn ?hr ?_;(case ho => rfl);(case hg => rfl);(case hn => rfl);(case hr => first|(go_simp;done)|(go_simp;rfl));intro w30 hw;replace K104:=zV hw K104;replace K105:=zVp hw (.cells #[.int .u64 t106,.int .u64 t107,.bool t108,.int .i64 t109] 26 (0,0)) K105;replace HB:=zU hw HB;clear hw))
  refine bodyPost_ret (results_ctt rfl _ _ G105 26 #[.int .u64 t106,.int .u64 t107,.bool t108,.int .i64 t109] (0,0) _ rfl (zF K105) Try.underlying26 rfl (by kernel_rfl)) rfl ?_
  exact ⟨zE,zH HB⟩
 rw [if_neg c21] at H
 have c21b0 : (a2 == a0_0) = false:=beq_eq_false_iff_ne.mpr c21
 have c21b1 : (a2 != a0_0) = true:=bne_iff_ne.mpr c21
 simp only [Option.some.injEq,Prod.mk.injEq] at H
 obtain ⟨rfl,rfl,rfl,rfl,rfl,rfl⟩:=H
 obtain ⟨hcz32_0,hcz32_1,hcz32_2,hcz32_3,hfz32_0,hfz32_1,hfz32_2,hfz32_3⟩:=zc4 K104
 obtain ⟨hcz33_0,hcz33_1,hcz33_2,hcz33_3,hfz33_0,hfz33_1,hfz33_2,hfz33_3⟩:=zc4 K105
 go_wp2_with (first|((with_reducible refine gate_store (t:=26) (p:=6) rfl ?_);refine store_event (t:=26) (p:=6) (v:=?vo_w34) (w1:=(((((wc.setCell ⟨G104,3,none⟩ (.int .i64 0)).setCell ⟨G105,0,none⟩ (.int .u64 a0_0)).setCell ⟨G105,1,none⟩ (.int .u64 x105001_14)).setCell ⟨G105,2,none⟩ (.bool x105002_14)).setCell ⟨G105,3,none⟩ (.int .i64 0))) ?hg ?ho ?hn ?hr ?_;(case ho => rfl);(case hg => rfl);(case hn => rfl);(case hr => first|(go_simp;done)|(go_simp;rfl));intro w34 hw;replace K104:=zVp hw (.cells #[.int .u64 a0_0,.int .u64 x105001_14,.bool x105002_14,.int .i64 0] 26 (0,0)) K104;replace K105:=zVp hw (.cells #[.int .u64 a0_0,.int .u64 x105001_14,.bool x105002_14,.int .i64 0] 26 (0,0)) K105;replace HB:=zU hw HB;clear hw))
 refine bodyPost_ret (results_ctt rfl _ _ G105 26 #[.int .u64 a0_0,.int .u64 x105001_14,.bool x105002_14,.int .i64 0] (0,0) _ rfl (zF K105) Try.underlying26 rfl (by kernel_rfl)) rfl ?_
 exact ⟨zE,zH HB⟩

/-! ### beaconlaw12_awake: function 8 -/
def beaconlaw12_awake.f (k : Nat)  : Option (Bool) := (session_New.f 5).bind fun bt111 => ((session_Hear.f k bt111.1 bt111.2.1 bt111.2.2.1 bt111.2.2.2.1 9 0).bind fun bt117 => ((session_Hear.f k bt117.1 bt117.2.1 bt117.2.2.1 bt117.2.2.2.1 9 5).bind fun bt123 => (if bt111.2.2.2.2 = 0 then (if bt117.2.2.2.2.1 = true then (if bt123.2.2.2.2.2 = true then (if bt123.2.2.1 = true then (if bt123.2.1 = 9 then (some (bt123.1 == 5)) else (some false)) else (some false)) else (some false)) else (some false)) else (some false))))
theorem beaconlaw12_awake.mono : ∀ k, LeO (beaconlaw12_awake.f k ) (beaconlaw12_awake.f (k + 1) ) := by
 intro  k
 unfold beaconlaw12_awake.f
 repeat' first
   | (with_reducible exact session_Hear.mono _ _ _ _ _ _ _)
   | (with_reducible exact LeO.refl _)
   | (with_reducible exact LeO.none _)
   | (with_reducible refine LeO.ite ?_ ?_)
   | (with_reducible refine LeO.bind ?_ (fun _ => ?_))
   | exact session_Hear.mono _ _ _ _ _ _ _
   | exact LeO.none _
   | refine LeO.ite ?_ ?_
   | refine LeO.bind ?_ (fun _ => ?_)
set_option maxHeartbeats 8000000 in
set_option maxRecDepth 100000 in
theorem beaconlaw12_awake.calls (k : Nat)  (r : Bool) (w : World) (h : beaconlaw12_awake.f k  = some r) :
  Calls Try.prog 8 #[] w fun e w' => e = .returned (.bool r) ∧ Below w.heap.size w w':=by
 have hu26:=Try.underlying26
 have HB:=zA (Below.refl w.heap.size w)
 have H : ((session_New.f 5).bind fun bt111 => ((session_Hear.f k bt111.1 bt111.2.1 bt111.2.2.1 bt111.2.2.2.1 9 0).bind fun bt117 => ((session_Hear.f k bt117.1 bt117.2.1 bt117.2.2.1 bt117.2.2.2.1 9 5).bind fun bt123 => (if bt111.2.2.2.2 = 0 then (if bt117.2.2.2.2.1 = true then (if bt123.2.2.2.2.2 = true then (if bt123.2.2.1 = true then (if bt123.2.1 = 9 then (some (bt123.1 == 5)) else (some false)) else (some false)) else (some false)) else (some false)) else (some false))))) = some r:=h
 clear h
 replace H:=Option.bind_eq_some_iff.mp H
 obtain ⟨⟨t111,t112,t113,t114,t115⟩,A10,H⟩:=H
 (try dsimp only at H)
 have A1:=zA A10
 clear A10
 replace H:=Option.bind_eq_some_iff.mp H
 obtain ⟨⟨t117,t118,t119,t120,t121,t122⟩,A20,H⟩:=H
 (try dsimp only at H)
 have A2:=zA A20
 clear A20
 replace H:=Option.bind_eq_some_iff.mp H
 obtain ⟨⟨t123,t124,t125,t126,t127,t128⟩,A30,H⟩:=H
 (try dsimp only at H)
 have A3:=zA A30
 clear A30
 by_cases c4 : t115 = 0
 ·rw [if_pos c4] at H
  have c4b0 : (t115 == 0) = true:=beq_iff_eq.mpr c4
  have c4b1 : (t115 != 0) = false:=bne_eq_false_iff_eq.mpr c4
  clear c4
  by_cases c5 : t121 = true
  ·subst c5
   rw [if_pos rfl] at H
   by_cases c6 : t128 = true
   ·subst c6
    rw [if_pos rfl] at H
    by_cases c7 : t125 = true
    ·subst c7
     rw [if_pos rfl] at H
     by_cases c8 : t124 = 9
     ·rw [if_pos c8] at H
      have c8b0 : (t124 == 9) = true:=beq_iff_eq.mpr c8
      have c8b1 : (t124 != 9) = false:=bne_eq_false_iff_eq.mpr c8
      clear c8
      obtain rfl:=Option.some.inj H
      go_enter Try.func8,Try.ntmps8
      go_wp2_with (first|((with_reducible refine gate_callee (f:=7) rfl ?_);refine zg (some 8) Try.func7 #[.int .u64 5] ?_;(with_reducible refine (session_New.calls 5 t111 t112 t113 t114 t115 _ A1.out).mono ?_);rintro e w9 ⟨rfl,hb⟩;refine ⟨_,rfl,?_⟩;replace HB:=zS HB hb;(try clear hb))|((with_reducible refine gate_dst (N:=1) rfl ?_);refine zb (N:=1) (cs:=#[.int .u64 0,.int .u64 0,.bool false,.int .i64 0]) (t:=26) ?_;intro G116 hg w10 hbox hb;have K116:=zA (hbox);have GW116:=zN HB hg;have GE116:=zN HB hg;replace HB:=zS HB hb;clear hb hbox hg;obtain ⟨hcz11_0,hcz11_1,hcz11_2,hcz11_3,hfz11_0,hfz11_1,hfz11_2,hfz11_3⟩:=zc4 K116)|((with_reducible refine gate_store (t:=26) (p:=1) rfl ?_);refine store_event (t:=26) (p:=1) (v:=?vo_w12) (w1:=((((w10.setCell ⟨G116,0,none⟩ (.int .u64 t111)).setCell ⟨G116,1,none⟩ (.int .u64 t112)).setCell ⟨G116,2,none⟩ (.bool t113)).setCell ⟨G116,3,none⟩ (.int .i64 t114))) ?hg ?ho ?hn ?hr ?_;(case ho => rfl);(case hg => rfl);(case hn => rfl);(case hr => first|(go_simp;done)|(go_simp;rfl));intro w12 hw;replace K116:=zVp hw (.cells #[.int .u64 t111,.int .u64 t112,.bool t113,.int .i64 t114] 26 (0,0)) K116;replace HB:=zU hw HB;clear hw;obtain ⟨hcz13_0,hcz13_1,hcz13_2,hcz13_3,hfz13_0,hfz13_1,hfz13_2,hfz13_3⟩:=zc4 K116)|((with_reducible refine gate_callee (f:=10) rfl ?_);refine zg (some 13) Try.func10 #[.agg #[.int .u64 t111,.int .u64 t112,.bool t113,.int .i64 t114],.int .u64 9,.int .u64 0] ?_;(with_reducible refine (session_Hear.calls k t111 t112 t113 t114 9 0 t117 t118 t119 t120 true t122 _ A2.out).mono ?_);rintro e w14 ⟨rfl,hb⟩;refine ⟨_,rfl,?_⟩;replace K116:=zB K116 hb;replace HB:=zS HB hb;(try clear hb);obtain ⟨hcz15_0,hcz15_1,hcz15_2,hcz15_3,hfz15_0,hfz15_1,hfz15_2,hfz15_3⟩:=zc4 K116)|((with_reducible refine gate_store (t:=26) (p:=1) rfl ?_);refine store_event (t:=26) (p:=1) (v:=?vo_w16) (w1:=((((w14.setCell ⟨G116,0,none⟩ (.int .u64 t117)).setCell ⟨G116,1,none⟩ (.int .u64 t118)).setCell ⟨G116,2,none⟩ (.bool t119)).setCell ⟨G116,3,none⟩ (.int .i64 t120))) ?hg ?ho ?hn ?hr ?_;(case ho => rfl);(case hg => rfl);(case hn => rfl);(case hr => first|(go_simp;done)|(go_simp;rfl));intro w16 hw;replace K116:=zVp hw (.cells #[.int .u64 t117,.int .u64 t118,.bool t119,.int .i64 t120] 26 (0,0)) K116;replace HB:=zU hw HB;clear hw;obtain ⟨hcz17_0,hcz17_1,hcz17_2,hcz17_3,hfz17_0,hfz17_1,hfz17_2,hfz17_3⟩:=zc4 K116)|((with_reducible refine gate_callee (f:=10) rfl ?_);refine zg (some 19) Try.func10 #[.agg #[.int .u64 t117,.int .u64 t118,.bool t119,.int .i64 t120],.int .u64 9,.int .u64 5] ?_;(with_reducible refine (session_Hear.calls k t117 t118 t119 t120 9 5 t123 t124 true t126 t127 true _ A3.out).mono ?_);rintro e w18 ⟨rfl,hb⟩;refine ⟨_,rfl,?_⟩;replace K116:=zB K116 hb;replace HB:=zS HB hb;(try clear hb);obtain ⟨hcz19_0,hcz19_1,hcz19_2,hcz19_3,hfz19_0,hfz19_1,hfz19_2,hfz19_3⟩:=zc4 K116)|((with_reducible refine gate_store (t:=26) (p:=1) rfl ?_);refine store_event (t:=26) (p:=1) (v:=?vo_w20) (w1:=((((w18.setCell ⟨G116,0,none⟩ (.int .u64 t123)).setCell ⟨G116,1,none⟩ (.int .u64 t124)).setCell ⟨G116,2,none⟩ (.bool true)).setCell ⟨G116,3,none⟩ (.int .i64 t126))) ?hg ?ho ?hn ?hr ?_;(case ho => rfl);(case hg => rfl);(case hn => rfl);(case hr => first|(go_simp;done)|(go_simp;rfl));intro w20 hw;replace K116:=zVp hw (.cells #[.int .u64 t123,.int .u64 t124,.bool true,.int .i64 t126] 26 (0,0)) K116;replace HB:=zU hw HB;clear hw;obtain ⟨hcz21_0,hcz21_1,hcz21_2,hcz21_3,hfz21_0,hfz21_1,hfz21_2,hfz21_3⟩:=zc4 K116))
      go_ret
      exact ⟨zE,zH HB⟩
     rw [if_neg c8] at H
     have c8b0 : (t124 == 9) = false:=beq_eq_false_iff_ne.mpr c8
     have c8b1 : (t124 != 9) = true:=bne_iff_ne.mpr c8
     obtain rfl:=Option.some.inj H
     go_enter Try.func8,Try.ntmps8
     go_wp2_with (first|((with_reducible refine gate_callee (f:=7) rfl ?_);refine zg (some 8) Try.func7 #[.int .u64 5] ?_;(with_reducible refine (session_New.calls 5 t111 t112 t113 t114 t115 _ A1.out).mono ?_);rintro e w22 ⟨rfl,hb⟩;refine ⟨_,rfl,?_⟩;replace HB:=zS HB hb;(try clear hb))|((with_reducible refine gate_dst (N:=1) rfl ?_);refine zb (N:=1) (cs:=#[.int .u64 0,.int .u64 0,.bool false,.int .i64 0]) (t:=26) ?_;intro G116 hg w23 hbox hb;have K116:=zA (hbox);have GW116:=zN HB hg;have GE116:=zN HB hg;replace HB:=zS HB hb;clear hb hbox hg;obtain ⟨hcz24_0,hcz24_1,hcz24_2,hcz24_3,hfz24_0,hfz24_1,hfz24_2,hfz24_3⟩:=zc4 K116)|((with_reducible refine gate_store (t:=26) (p:=1) rfl ?_);refine store_event (t:=26) (p:=1) (v:=?vo_w25) (w1:=((((w23.setCell ⟨G116,0,none⟩ (.int .u64 t111)).setCell ⟨G116,1,none⟩ (.int .u64 t112)).setCell ⟨G116,2,none⟩ (.bool t113)).setCell ⟨G116,3,none⟩ (.int .i64 t114))) ?hg ?ho ?hn ?hr ?_;(case ho => rfl);(case hg => rfl);(case hn => rfl);(case hr => first|(go_simp;done)|(go_simp;rfl));intro w25 hw;replace K116:=zVp hw (.cells #[.int .u64 t111,.int .u64 t112,.bool t113,.int .i64 t114] 26 (0,0)) K116;replace HB:=zU hw HB;clear hw;obtain ⟨hcz26_0,hcz26_1,hcz26_2,hcz26_3,hfz26_0,hfz26_1,hfz26_2,hfz26_3⟩:=zc4 K116)|((with_reducible refine gate_callee (f:=10) rfl ?_);refine zg (some 13) Try.func10 #[.agg #[.int .u64 t111,.int .u64 t112,.bool t113,.int .i64 t114],.int .u64 9,.int .u64 0] ?_;(with_reducible refine (session_Hear.calls k t111 t112 t113 t114 9 0 t117 t118 t119 t120 true t122 _ A2.out).mono ?_);rintro e w27 ⟨rfl,hb⟩;refine ⟨_,rfl,?_⟩;replace K116:=zB K116 hb;replace HB:=zS HB hb;(try clear hb);obtain ⟨hcz28_0,hcz28_1,hcz28_2,hcz28_3,hfz28_0,hfz28_1,hfz28_2,hfz28_3⟩:=zc4 K116)|((with_reducible refine gate_store (t:=26) (p:=1) rfl ?_);refine store_event (t:=26) (p:=1) (v:=?vo_w29) (w1:=((((w27.setCell ⟨G116,0,none⟩ (.int .u64 t117)).setCell ⟨G116,1,none⟩ (.int .u64 t118)).setCell ⟨G116,2,none⟩ (.bool t119)).setCell ⟨G116,3,none⟩ (.int .i64 t120))) ?hg ?ho ?hn ?hr ?_;(case ho => rfl);(case hg => rfl);(case hn => rfl);(case hr => first|(go_simp;done)|(go_simp;rfl));intro w29 hw;replace K116:=zVp hw (.cells #[.int .u64 t117,.int .u64 t118,.bool t119,.int .i64 t120] 26 (0,0)) K116;replace HB:=zU hw HB;clear hw;obtain ⟨hcz30_0,hcz30_1,hcz30_2,hcz30_3,hfz30_0,hfz30_1,hfz30_2,hfz30_3⟩:=zc4 K116)|((with_reducible refine gate_callee (f:=10) rfl ?_);refine zg (some 19) Try.func10 #[.agg #[.int .u64 t117,.int .u64 t118,.bool t119,.int .i64 t120],.int .u64 9,.int .u64 5] ?_;(with_reducible refine (session_Hear.calls k t117 t118 t119 t120 9 5 t123 t124 true t126 t127 true _ A3.out).mono ?_);rintro e w31 ⟨rfl,hb⟩;refine ⟨_,rfl,?_⟩;replace K116:=zB K116 hb;replace HB:=zS HB hb;(try clear hb);obtain ⟨hcz32_0,hcz32_1,hcz32_2,hcz32_3,hfz32_0,hfz32_1,hfz32_2,hfz32_3⟩:=zc4 K116)|((with_reducible refine gate_store (t:=26) (p:=1) rfl ?_);refine store_event (t:=26) (p:=1) (v:=?vo_w33) (w1:=((((w31.setCell ⟨G116,0,none⟩ (.int .u64 t123)).setCell ⟨G116,1,none⟩ (.int .u64 t124)).setCell ⟨G116,2,none⟩ (.bool true)).setCell ⟨G116,3,none⟩ (.int .i64 t126))) ?hg ?ho ?hn ?hr ?_;(case ho => rfl);(case hg => rfl);(case hn => rfl);(case hr => first|(go_simp;done)|(go_simp;rfl));intro w33 hw;replace K116:=zVp hw (.cells #[.int .u64 t123,.int .u64 t124,.bool true,.int .i64 t126] 26 (0,0)) K116;replace HB:=zU hw HB;clear hw;obtain ⟨hcz34_0,hcz34_1,hcz34_2,hcz34_3,hfz34_0,hfz34_1,hfz34_2,hfz34_3⟩:=zc4 K116))
     go_ret
     exact ⟨zE,zH HB⟩
    replace c7:=Bool.eq_false_iff.mpr c7
    subst c7
    rw [if_neg (show ¬ (false = true) by decide)] at H
    obtain rfl:=Option.some.inj H
    go_enter Try.func8,Try.ntmps8
    go_wp2_with (first|((with_reducible refine gate_callee (f:=7) rfl ?_);refine zg (some 8) Try.func7 #[.int .u64 5] ?_;(with_reducible refine (session_New.calls 5 t111 t112 t113 t114 t115 _ A1.out).mono ?_);rintro e w35 ⟨rfl,hb⟩;refine ⟨_,rfl,?_⟩;replace HB:=zS HB hb;(try clear hb))|((with_reducible refine gate_dst (N:=1) rfl ?_);refine zb (N:=1) (cs:=#[.int .u64 0,.int .u64 0,.bool false,.int .i64 0]) (t:=26) ?_;intro G116 hg w36 hbox hb;have K116:=zA (hbox);have GW116:=zN HB hg;have GE116:=zN HB hg;replace HB:=zS HB hb;clear hb hbox hg;obtain ⟨hcz37_0,hcz37_1,hcz37_2,hcz37_3,hfz37_0,hfz37_1,hfz37_2,hfz37_3⟩:=zc4 K116)|((with_reducible refine gate_store (t:=26) (p:=1) rfl ?_);refine store_event (t:=26) (p:=1) (v:=?vo_w38) (w1:=((((w36.setCell ⟨G116,0,none⟩ (.int .u64 t111)).setCell ⟨G116,1,none⟩ (.int .u64 t112)).setCell ⟨G116,2,none⟩ (.bool t113)).setCell ⟨G116,3,none⟩ (.int .i64 t114))) ?hg ?ho ?hn ?hr ?_;(case ho => rfl);(case hg => rfl);(case hn => rfl);(case hr => first|(go_simp;done)|(go_simp;rfl));intro w38 hw;replace K116:=zVp hw (.cells #[.int .u64 t111,.int .u64 t112,.bool t113,.int .i64 t114] 26 (0,0)) K116;replace HB:=zU hw HB;clear hw;obtain ⟨hcz39_0,hcz39_1,hcz39_2,hcz39_3,hfz39_0,hfz39_1,hfz39_2,hfz39_3⟩:=zc4 K116)|((with_reducible refine gate_callee (f:=10) rfl ?_);refine zg (some 13) Try.func10 #[.agg #[.int .u64 t111,.int .u64 t112,.bool t113,.int .i64 t114],.int .u64 9,.int .u64 0] ?_;(with_reducible refine (session_Hear.calls k t111 t112 t113 t114 9 0 t117 t118 t119 t120 true t122 _ A2.out).mono ?_);rintro e w40 ⟨rfl,hb⟩;refine ⟨_,rfl,?_⟩;replace K116:=zB K116 hb;replace HB:=zS HB hb;(try clear hb);obtain ⟨hcz41_0,hcz41_1,hcz41_2,hcz41_3,hfz41_0,hfz41_1,hfz41_2,hfz41_3⟩:=zc4 K116)|((with_reducible refine gate_store (t:=26) (p:=1) rfl ?_);refine store_event (t:=26) (p:=1) (v:=?vo_w42) (w1:=((((w40.setCell ⟨G116,0,none⟩ (.int .u64 t117)).setCell ⟨G116,1,none⟩ (.int .u64 t118)).setCell ⟨G116,2,none⟩ (.bool t119)).setCell ⟨G116,3,none⟩ (.int .i64 t120))) ?hg ?ho ?hn ?hr ?_;(case ho => rfl);(case hg => rfl);(case hn => rfl);(case hr => first|(go_simp;done)|(go_simp;rfl));intro w42 hw;replace K116:=zVp hw (.cells #[.int .u64 t117,.int .u64 t118,.bool t119,.int .i64 t120] 26 (0,0)) K116;replace HB:=zU hw HB;clear hw;obtain ⟨hcz43_0,hcz43_1,hcz43_2,hcz43_3,hfz43_0,hfz43_1,hfz43_2,hfz43_3⟩:=zc4 K116)|((with_reducible refine gate_callee (f:=10) rfl ?_);refine zg (some 19) Try.func10 #[.agg #[.int .u64 t117,.int .u64 t118,.bool t119,.int .i64 t120],.int .u64 9,.int .u64 5] ?_;(with_reducible refine (session_Hear.calls k t117 t118 t119 t120 9 5 t123 t124 false t126 t127 true _ A3.out).mono ?_);rintro e w44 ⟨rfl,hb⟩;refine ⟨_,rfl,?_⟩;replace K116:=zB K116 hb;replace HB:=zS HB hb;(try clear hb);obtain ⟨hcz45_0,hcz45_1,hcz45_2,hcz45_3,hfz45_0,hfz45_1,hfz45_2,hfz45_3⟩:=zc4 K116)|((with_reducible refine gate_store (t:=26) (p:=1) rfl ?_);refine store_event (t:=26) (p:=1) (v:=?vo_w46) (w1:=((((w44.setCell ⟨G116,0,none⟩ (.int .u64 t123)).setCell ⟨G116,1,none⟩ (.int .u64 t124)).setCell ⟨G116,2,none⟩ (.bool false)).setCell ⟨G116,3,none⟩ (.int .i64 t126))) ?hg ?ho ?hn ?hr ?_;(case ho => rfl);(case hg => rfl);(case hn => rfl);(case hr => first|(go_simp;done)|(go_simp;rfl));intro w46 hw;replace K116:=zVp hw (.cells #[.int .u64 t123,.int .u64 t124,.bool false,.int .i64 t126] 26 (0,0)) K116;replace HB:=zU hw HB;clear hw;obtain ⟨hcz47_0,hcz47_1,hcz47_2,hcz47_3,hfz47_0,hfz47_1,hfz47_2,hfz47_3⟩:=zc4 K116))
    go_ret
    exact ⟨zE,zH HB⟩
   replace c6:=Bool.eq_false_iff.mpr c6
   subst c6
   rw [if_neg (show ¬ (false = true) by decide)] at H
   obtain rfl:=Option.some.inj H
   go_enter Try.func8,Try.ntmps8
   go_wp2_with (first|((with_reducible refine gate_callee (f:=7) rfl ?_);refine zg (some 8) Try.func7 #[.int .u64 5] ?_;(with_reducible refine (session_New.calls 5 t111 t112 t113 t114 t115 _ A1.out).mono ?_);rintro e w48 ⟨rfl,hb⟩;refine ⟨_,rfl,?_⟩;replace HB:=zS HB hb;(try clear hb))|((with_reducible refine gate_dst (N:=1) rfl ?_);refine zb (N:=1) (cs:=#[.int .u64 0,.int .u64 0,.bool false,.int .i64 0]) (t:=26) ?_;intro G116 hg w49 hbox hb;have K116:=zA (hbox);have GW116:=zN HB hg;have GE116:=zN HB hg;replace HB:=zS HB hb;clear hb hbox hg;obtain ⟨hcz50_0,hcz50_1,hcz50_2,hcz50_3,hfz50_0,hfz50_1,hfz50_2,hfz50_3⟩:=zc4 K116)|((with_reducible refine gate_store (t:=26) (p:=1) rfl ?_);refine store_event (t:=26) (p:=1) (v:=?vo_w51) (w1:=((((w49.setCell ⟨G116,0,none⟩ (.int .u64 t111)).setCell ⟨G116,1,none⟩ (.int .u64 t112)).setCell ⟨G116,2,none⟩ (.bool t113)).setCell ⟨G116,3,none⟩ (.int .i64 t114))) ?hg ?ho ?hn ?hr ?_;(case ho => rfl);(case hg => rfl);(case hn => rfl);(case hr => first|(go_simp;done)|(go_simp;rfl));intro w51 hw;replace K116:=zVp hw (.cells #[.int .u64 t111,.int .u64 t112,.bool t113,.int .i64 t114] 26 (0,0)) K116;replace HB:=zU hw HB;clear hw;obtain ⟨hcz52_0,hcz52_1,hcz52_2,hcz52_3,hfz52_0,hfz52_1,hfz52_2,hfz52_3⟩:=zc4 K116)|((with_reducible refine gate_callee (f:=10) rfl ?_);refine zg (some 13) Try.func10 #[.agg #[.int .u64 t111,.int .u64 t112,.bool t113,.int .i64 t114],.int .u64 9,.int .u64 0] ?_;(with_reducible refine (session_Hear.calls k t111 t112 t113 t114 9 0 t117 t118 t119 t120 true t122 _ A2.out).mono ?_);rintro e w53 ⟨rfl,hb⟩;refine ⟨_,rfl,?_⟩;replace K116:=zB K116 hb;replace HB:=zS HB hb;(try clear hb);obtain ⟨hcz54_0,hcz54_1,hcz54_2,hcz54_3,hfz54_0,hfz54_1,hfz54_2,hfz54_3⟩:=zc4 K116)|((with_reducible refine gate_store (t:=26) (p:=1) rfl ?_);refine store_event (t:=26) (p:=1) (v:=?vo_w55) (w1:=((((w53.setCell ⟨G116,0,none⟩ (.int .u64 t117)).setCell ⟨G116,1,none⟩ (.int .u64 t118)).setCell ⟨G116,2,none⟩ (.bool t119)).setCell ⟨G116,3,none⟩ (.int .i64 t120))) ?hg ?ho ?hn ?hr ?_;(case ho => rfl);(case hg => rfl);(case hn => rfl);(case hr => first|(go_simp;done)|(go_simp;rfl));intro w55 hw;replace K116:=zVp hw (.cells #[.int .u64 t117,.int .u64 t118,.bool t119,.int .i64 t120] 26 (0,0)) K116;replace HB:=zU hw HB;clear hw;obtain ⟨hcz56_0,hcz56_1,hcz56_2,hcz56_3,hfz56_0,hfz56_1,hfz56_2,hfz56_3⟩:=zc4 K116)|((with_reducible refine gate_callee (f:=10) rfl ?_);refine zg (some 19) Try.func10 #[.agg #[.int .u64 t117,.int .u64 t118,.bool t119,.int .i64 t120],.int .u64 9,.int .u64 5] ?_;(with_reducible refine (session_Hear.calls k t117 t118 t119 t120 9 5 t123 t124 t125 t126 t127 false _ A3.out).mono ?_);rintro e w57 ⟨rfl,hb⟩;refine ⟨_,rfl,?_⟩;replace K116:=zB K116 hb;replace HB:=zS HB hb;(try clear hb);obtain ⟨hcz58_0,hcz58_1,hcz58_2,hcz58_3,hfz58_0,hfz58_1,hfz58_2,hfz58_3⟩:=zc4 K116)|((with_reducible refine gate_store (t:=26) (p:=1) rfl ?_);refine store_event (t:=26) (p:=1) (v:=?vo_w59) (w1:=((((w57.setCell ⟨G116,0,none⟩ (.int .u64 t123)).setCell ⟨G116,1,none⟩ (.int .u64 t124)).setCell ⟨G116,2,none⟩ (.bool t125)).setCell ⟨G116,3,none⟩ (.int .i64 t126))) ?hg ?ho ?hn ?hr ?_;(case ho => rfl);(case hg => rfl);(case hn => rfl);(case hr => first|(go_simp;done)|(go_simp;rfl));intro w59 hw;replace K116:=zVp hw (.cells #[.int .u64 t123,.int .u64 t124,.bool t125,.int .i64 t126] 26 (0,0)) K116;replace HB:=zU hw HB;clear hw))
   go_ret
   exact ⟨zE,zH HB⟩
  replace c5:=Bool.eq_false_iff.mpr c5
  subst c5
  rw [if_neg (show ¬ (false = true) by decide)] at H
  obtain rfl:=Option.some.inj H
  go_enter Try.func8,Try.ntmps8
  go_wp2_with (first|((with_reducible refine gate_callee (f:=7) rfl ?_);refine zg (some 8) Try.func7 #[.int .u64 5] ?_;(with_reducible refine (session_New.calls 5 t111 t112 t113 t114 t115 _ A1.out).mono ?_);rintro e w60 ⟨rfl,hb⟩;refine ⟨_,rfl,?_⟩;replace HB:=zS HB hb;(try clear hb))|((with_reducible refine gate_dst (N:=1) rfl ?_);refine zb (N:=1) (cs:=#[.int .u64 0,.int .u64 0,.bool false,.int .i64 0]) (t:=26) ?_;intro G116 hg w61 hbox hb;have K116:=zA (hbox);have GW116:=zN HB hg;have GE116:=zN HB hg;replace HB:=zS HB hb;clear hb hbox hg;obtain ⟨hcz62_0,hcz62_1,hcz62_2,hcz62_3,hfz62_0,hfz62_1,hfz62_2,hfz62_3⟩:=zc4 K116)|((with_reducible refine gate_store (t:=26) (p:=1) rfl ?_);refine store_event (t:=26) (p:=1) (v:=?vo_w63) (w1:=((((w61.setCell ⟨G116,0,none⟩ (.int .u64 t111)).setCell ⟨G116,1,none⟩ (.int .u64 t112)).setCell ⟨G116,2,none⟩ (.bool t113)).setCell ⟨G116,3,none⟩ (.int .i64 t114))) ?hg ?ho ?hn ?hr ?_;(case ho => rfl);(case hg => rfl);(case hn => rfl);(case hr => first|(go_simp;done)|(go_simp;rfl));intro w63 hw;replace K116:=zVp hw (.cells #[.int .u64 t111,.int .u64 t112,.bool t113,.int .i64 t114] 26 (0,0)) K116;replace HB:=zU hw HB;clear hw;obtain ⟨hcz64_0,hcz64_1,hcz64_2,hcz64_3,hfz64_0,hfz64_1,hfz64_2,hfz64_3⟩:=zc4 K116)|((with_reducible refine gate_callee (f:=10) rfl ?_);refine zg (some 13) Try.func10 #[.agg #[.int .u64 t111,.int .u64 t112,.bool t113,.int .i64 t114],.int .u64 9,.int .u64 0] ?_;(with_reducible refine (session_Hear.calls k t111 t112 t113 t114 9 0 t117 t118 t119 t120 false t122 _ A2.out).mono ?_);rintro e w65 ⟨rfl,hb⟩;refine ⟨_,rfl,?_⟩;replace K116:=zB K116 hb;replace HB:=zS HB hb;(try clear hb);obtain ⟨hcz66_0,hcz66_1,hcz66_2,hcz66_3,hfz66_0,hfz66_1,hfz66_2,hfz66_3⟩:=zc4 K116)|((with_reducible refine gate_store (t:=26) (p:=1) rfl ?_);refine store_event (t:=26) (p:=1) (v:=?vo_w67) (w1:=((((w65.setCell ⟨G116,0,none⟩ (.int .u64 t117)).setCell ⟨G116,1,none⟩ (.int .u64 t118)).setCell ⟨G116,2,none⟩ (.bool t119)).setCell ⟨G116,3,none⟩ (.int .i64 t120))) ?hg ?ho ?hn ?hr ?_;(case ho => rfl);(case hg => rfl);(case hn => rfl);(case hr => first|(go_simp;done)|(go_simp;rfl));intro w67 hw;replace K116:=zVp hw (.cells #[.int .u64 t117,.int .u64 t118,.bool t119,.int .i64 t120] 26 (0,0)) K116;replace HB:=zU hw HB;clear hw;obtain ⟨hcz68_0,hcz68_1,hcz68_2,hcz68_3,hfz68_0,hfz68_1,hfz68_2,hfz68_3⟩:=zc4 K116)|((with_reducible refine gate_callee (f:=10) rfl ?_);refine zg (some 19) Try.func10 #[.agg #[.int .u64 t117,.int .u64 t118,.bool t119,.int .i64 t120],.int .u64 9,.int .u64 5] ?_;(with_reducible refine (session_Hear.calls k t117 t118 t119 t120 9 5 t123 t124 t125 t126 t127 t128 _ A3.out).mono ?_);rintro e w69 ⟨rfl,hb⟩;refine ⟨_,rfl,?_⟩;replace K116:=zB K116 hb;replace HB:=zS HB hb;(try clear hb);obtain ⟨hcz70_0,hcz70_1,hcz70_2,hcz70_3,hfz70_0,hfz70_1,hfz70_2,hfz70_3⟩:=zc4 K116)|((with_reducible refine gate_store (t:=26) (p:=1) rfl ?_);refine store_event (t:=26) (p:=1) (v:=?vo_w71) (w1:=((((w69.setCell ⟨G116,0,none⟩ (.int .u64 t123)).setCell ⟨G116,1,none⟩ (.int .u64 t124)).setCell ⟨G116,2,none⟩ (.bool t125)).setCell ⟨G116,3,none⟩ (.int .i64 t126))) ?hg ?ho ?hn ?hr ?_;(case ho => rfl);(case hg => rfl);(case hn => rfl);(case hr => first|(go_simp;done)|(go_simp;rfl));intro w71 hw;replace K116:=zVp hw (.cells #[.int .u64 t123,.int .u64 t124,.bool t125,.int .i64 t126] 26 (0,0)) K116;replace HB:=zU hw HB;clear hw))
  go_ret
  exact ⟨zE,zH HB⟩
 rw [if_neg c4] at H
 have c4b0 : (t115 == 0) = false:=beq_eq_false_iff_ne.mpr c4
 have c4b1 : (t115 != 0) = true:=bne_iff_ne.mpr c4
 obtain rfl:=Option.some.inj H
 go_enter Try.func8,Try.ntmps8
 go_wp2_with (first|((with_reducible refine gate_callee (f:=7) rfl ?_);refine zg (some 8) Try.func7 #[.int .u64 5] ?_;(with_reducible refine (session_New.calls 5 t111 t112 t113 t114 t115 _ A1.out).mono ?_);rintro e w72 ⟨rfl,hb⟩;refine ⟨_,rfl,?_⟩;replace HB:=zS HB hb;(try clear hb))|((with_reducible refine gate_dst (N:=1) rfl ?_);refine zb (N:=1) (cs:=#[.int .u64 0,.int .u64 0,.bool false,.int .i64 0]) (t:=26) ?_;intro G116 hg w73 hbox hb;have K116:=zA (hbox);have GW116:=zN HB hg;have GE116:=zN HB hg;replace HB:=zS HB hb;clear hb hbox hg;obtain ⟨hcz74_0,hcz74_1,hcz74_2,hcz74_3,hfz74_0,hfz74_1,hfz74_2,hfz74_3⟩:=zc4 K116)|((with_reducible refine gate_store (t:=26) (p:=1) rfl ?_);refine store_event (t:=26) (p:=1) (v:=?vo_w75) (w1:=((((w73.setCell ⟨G116,0,none⟩ (.int .u64 t111)).setCell ⟨G116,1,none⟩ (.int .u64 t112)).setCell ⟨G116,2,none⟩ (.bool t113)).setCell ⟨G116,3,none⟩ (.int .i64 t114))) ?hg ?ho ?hn ?hr ?_;(case ho => rfl);(case hg => rfl);(case hn => rfl);(case hr => first|(go_simp;done)|(go_simp;rfl));intro w75 hw;replace K116:=zVp hw (.cells #[.int .u64 t111,.int .u64 t112,.bool t113,.int .i64 t114] 26 (0,0)) K116;replace HB:=zU hw HB;clear hw;obtain ⟨hcz76_0,hcz76_1,hcz76_2,hcz76_3,hfz76_0,hfz76_1,hfz76_2,hfz76_3⟩:=zc4 K116)|((with_reducible refine gate_callee (f:=10) rfl ?_);refine zg (some 13) Try.func10 #[.agg #[.int .u64 t111,.int .u64 t112,.bool t113,.int .i64 t114],.int .u64 9,.int .u64 0] ?_;(with_reducible refine (session_Hear.calls k t111 t112 t113 t114 9 0 t117 t118 t119 t120 t121 t122 _ A2.out).mono ?_);rintro e w77 ⟨rfl,hb⟩;refine ⟨_,rfl,?_⟩;replace K116:=zB K116 hb;replace HB:=zS HB hb;(try clear hb);obtain ⟨hcz78_0,hcz78_1,hcz78_2,hcz78_3,hfz78_0,hfz78_1,hfz78_2,hfz78_3⟩:=zc4 K116)|((with_reducible refine gate_store (t:=26) (p:=1) rfl ?_);refine store_event (t:=26) (p:=1) (v:=?vo_w79) (w1:=((((w77.setCell ⟨G116,0,none⟩ (.int .u64 t117)).setCell ⟨G116,1,none⟩ (.int .u64 t118)).setCell ⟨G116,2,none⟩ (.bool t119)).setCell ⟨G116,3,none⟩ (.int .i64 t120))) ?hg ?ho ?hn ?hr ?_;(case ho => rfl);(case hg => rfl);(case hn => rfl);(case hr => first|(go_simp;done)|(go_simp;rfl));intro w79 hw;replace K116:=zVp hw (.cells #[.int .u64 t117,.int .u64 t118,.bool t119,.int .i64 t120] 26 (0,0)) K116;replace HB:=zU hw HB;clear hw;obtain ⟨hcz80_0,hcz80_1,hcz80_2,hcz80_3,hfz80_0,hfz80_1,hfz80_2,hfz80_3⟩:=zc4 K116)|((with_reducible refine gate_callee (f:=10) rfl ?_);refine zg (some 19) Try.func10 #[.agg #[.int .u64 t117,.int .u64 t118,.bool t119,.int .i64 t120],.int .u64 9,.int .u64 5] ?_;(with_reducible refine (session_Hear.calls k t117 t118 t119 t120 9 5 t123 t124 t125 t126 t127 t128 _ A3.out).mono ?_);rintro e w81 ⟨rfl,hb⟩;refine ⟨_,rfl,?_⟩;replace K116:=zB K116 hb;replace HB:=zS HB hb;(try clear hb);obtain ⟨hcz82_0,hcz82_1,hcz82_2,hcz82_3,hfz82_0,hfz82_1,hfz82_2,hfz82_3⟩:=zc4 K116)|((with_reducible refine gate_store (t:=26) (p:=1) rfl ?_);refine store_event (t:=26) (p:=1) (v:=?vo_w83) (w1:=((((w81.setCell ⟨G116,0,none⟩ (.int .u64 t123)).setCell ⟨G116,1,none⟩ (.int .u64 t124)).setCell ⟨G116,2,none⟩ (.bool t125)).setCell ⟨G116,3,none⟩ (.int .i64 t126))) ?hg ?ho ?hn ?hr ?_;(case ho => rfl);(case hg => rfl);(case hn => rfl);(case hr => first|(go_simp;done)|(go_simp;rfl));intro w83 hw;replace K116:=zVp hw (.cells #[.int .u64 t123,.int .u64 t124,.bool t125,.int .i64 t126] 26 (0,0)) K116;replace HB:=zU hw HB;clear hw))
 go_ret
 exact ⟨zE,zH HB⟩

/-! ### session_Hello: function 9 -/
def session_Hello.f (a0_0 : Int) (a0_1 : Int) (a0_2 : Bool) (a0_3 : Int) : Option (Int × Int) := some (a0_0, a0_1)
set_option maxHeartbeats 8000000 in
set_option maxRecDepth 100000 in
theorem session_Hello.calls (a0_0 : Int) (a0_1 : Int) (a0_2 : Bool) (a0_3 : Int) (r1 : Int) (r2 : Int) (w : World) (h : session_Hello.f a0_0 a0_1 a0_2 a0_3 = some (r1, r2)) :
  Calls Try.prog 9 #[.agg #[.int .u64 a0_0,.int .u64 a0_1,.bool a0_2,.int .i64 a0_3]] w fun e w' => e = .returned (.tuple #[.int .u64 r1,.int .u64 r2]) ∧ Below w.heap.size w w':=by
 have hu26:=Try.underlying26
 have HB:=zA (Below.refl w.heap.size w)
 have H : (some (a0_0,a0_1)) = some (r1,r2):=h
 clear h
 simp only [Option.some.injEq,Prod.mk.injEq] at H
 obtain ⟨rfl,rfl⟩:=H
 go_enter Try.func9,Try.ntmps9
 go_wp2_with (first|((with_reducible refine gate_dst (N:=1) rfl ?_);refine zb (N:=1) (cs:=#[.int .u64 a0_0,.int .u64 a0_1,.bool a0_2,.int .i64 a0_3]) (t:=26) ?_;intro G129 hg w2 hbox hb;have K129:=zA (hbox);have GW129:=zN HB hg;have GE129:=zN HB hg;replace HB:=zS HB hb;clear hb hbox hg;obtain ⟨hcz3_0,hcz3_1,hcz3_2,hcz3_3,hfz3_0,hfz3_1,hfz3_2,hfz3_3⟩:=zc4 K129))
 repeat (go_quiet (first|((with_reducible refine gate_dst (N:=1) rfl ?_);refine zb (N:=1) (cs:=#[.int .u64 a0_0,.int .u64 a0_1,.bool a0_2,.int .i64 a0_3]) (t:=26) ?_;intro G129 hg w2 hbox hb;have K129:=zA (hbox);have GW129:=zN HB hg;have GE129:=zN HB hg;replace HB:=zS HB hb;clear hb hbox hg;obtain ⟨hcz3_0,hcz3_1,hcz3_2,hcz3_3,hfz3_0,hfz3_1,hfz3_2,hfz3_3⟩:=zc4 K129));try go_wp2_with (first|((with_reducible refine gate_dst (N:=1) rfl ?_);refine zb (N:=1) (cs:=#[.int .u64 a0_0,.int .u64 a0_1,.bool a0_2,.int .i64 a0_3]) (t:=26) ?_;intro G129 hg w2 hbox hb;have K129:=zA (hbox);have GW129:=zN HB hg;have GE129:=zN HB hg;replace HB:=zS HB hb;clear hb hbox hg;obtain ⟨hcz3_0,hcz3_1,hcz3_2,hcz3_3,hfz3_0,hfz3_1,hfz3_2,hfz3_3⟩:=zc4 K129)))
 go_ret2
 exact ⟨zE,zH HB⟩

/-! ### session_Down: function 12 -/
def session_Down.f (a0_0 : Int) (a0_1 : Int) (a0_2 : Bool) (a0_3 : Int) : Option (Int × Int × Bool × Int) := if a0_0 < 18446744073709551615 then (some (IntKind.u64.wrap (a0_0 + 1), 0, false, 0)) else (some (a0_0, 0, false, 0))
set_option maxHeartbeats 8000000 in
set_option maxRecDepth 100000 in
theorem session_Down.calls (a0_0 : Int) (a0_1 : Int) (a0_2 : Bool) (a0_3 : Int) (r1 : Int) (r2 : Int) (r3 : Bool) (r4 : Int) (w : World) (h : session_Down.f a0_0 a0_1 a0_2 a0_3 = some (r1, r2, r3, r4)) :
  Calls Try.prog 12 #[.agg #[.int .u64 a0_0,.int .u64 a0_1,.bool a0_2,.int .i64 a0_3]] w fun e w' => e = .returned (.agg #[.int .u64 r1,.int .u64 r2,.bool r3,.int .i64 r4]) ∧ Below w.heap.size w w':=by
 have hu26:=Try.underlying26
 have HB:=zA (Below.refl w.heap.size w)
 have H : (if a0_0 < 18446744073709551615 then (some (IntKind.u64.wrap (a0_0 + 1),0,false,0)) else (some (a0_0,0,false,0))) = some (r1,r2,r3,r4):=h
 clear h
 by_cases c2 : a0_0 < 18446744073709551615
 ·rw [if_pos c2] at H
  have c2b0 : decide (a0_0 < 18446744073709551615) = true:=decide_eq_true c2
  clear c2
  simp only [Option.some.injEq,Prod.mk.injEq] at H
  obtain ⟨rfl,rfl,rfl,rfl⟩:=H
  go_enter Try.func12,Try.ntmps12
  go_wp2_with (first|((with_reducible refine gate_dst (N:=1) rfl ?_);refine zb (N:=1) (cs:=#[.int .u64 a0_0,.int .u64 a0_1,.bool a0_2,.int .i64 a0_3]) (t:=26) ?_;intro G130 hg w3 hbox hb;have K130:=zA (hbox);have GW130:=zN HB hg;have GE130:=zN HB hg;replace HB:=zS HB hb;clear hb hbox hg)|((with_reducible refine gate_dst (N:=2) rfl ?_);refine zb (N:=2) (cs:=#[.int .u64 0,.int .u64 0,.bool false,.int .i64 0]) (t:=26) ?_;intro G131 hg w4 hbox hb;have K131:=zA (hbox);have GW131:=zN HB hg;have GE131:=zN HB hg;replace HB:=zS HB hb;have NB130_131:=zL K130 hg;have NB131_130:=zG K130 hg;replace K130:=zB K130 hb;clear hb hbox hg;have:=NB130_131.1;have:=NB131_130.1;obtain ⟨hcz6_0,hcz6_1,hcz6_2,hcz6_3,hfz6_0,hfz6_1,hfz6_2,hfz6_3⟩:=zc4 K130;obtain ⟨hcz7_0,hcz7_1,hcz7_2,hcz7_3,hfz7_0,hfz7_1,hfz7_2,hfz7_3⟩:=zc4 K131)|((with_reducible refine gate_store (t:=26) (p:=2) rfl ?_);refine store_event (t:=26) (p:=2) (v:=?vo_w8) (w1:=(((((w4.setCell ⟨G130,0,none⟩ (.int .u64 (IntKind.u64.wrap (a0_0 + 1)))).setCell ⟨G131,0,none⟩ (.int .u64 (IntKind.u64.wrap (a0_0 + 1)))).setCell ⟨G131,1,none⟩ (.int .u64 0)).setCell ⟨G131,2,none⟩ (.bool false)).setCell ⟨G131,3,none⟩ (.int .i64 0))) ?hg ?ho ?hn ?hr ?_;(case ho => rfl);(case hg => rfl);(case hn => rfl);(case hr => first|(go_simp;done)|(go_simp;rfl));intro w8 hw;replace K130:=zVp hw (.cells #[.int .u64 (IntKind.u64.wrap (a0_0 + 1)),.int .u64 a0_1,.bool a0_2,.int .i64 a0_3] 26 (0,0)) K130;replace K131:=zVp hw (.cells #[.int .u64 (IntKind.u64.wrap (a0_0 + 1)),.int .u64 0,.bool false,.int .i64 0] 26 (0,0)) K131;replace HB:=zU hw HB;clear hw))
  refine bodyPost_ret (results_cell_row rfl _ _ G131 26 #[.int .u64 (IntKind.u64.wrap (a0_0 + 1)),.int .u64 0,.bool false,.int .i64 0] (0,0) _ rfl (zF K131) Try.underlying26 rfl (by kernel_rfl)) rfl ?_
  exact ⟨zE,zH HB⟩
 rw [if_neg c2] at H
 have c2b0 : decide (a0_0 < 18446744073709551615) = false:=decide_eq_false c2
 clear c2
 simp only [Option.some.injEq,Prod.mk.injEq] at H
 obtain ⟨rfl,rfl,rfl,rfl⟩:=H
 go_enter Try.func12,Try.ntmps12
 go_wp2_with (first|((with_reducible refine gate_dst (N:=1) rfl ?_);refine zb (N:=1) (cs:=#[.int .u64 a0_0,.int .u64 a0_1,.bool a0_2,.int .i64 a0_3]) (t:=26) ?_;intro G130 hg w9 hbox hb;have K130:=zA (hbox);have GW130:=zN HB hg;have GE130:=zN HB hg;replace HB:=zS HB hb;clear hb hbox hg)|((with_reducible refine gate_dst (N:=2) rfl ?_);refine zb (N:=2) (cs:=#[.int .u64 0,.int .u64 0,.bool false,.int .i64 0]) (t:=26) ?_;intro G131 hg w10 hbox hb;have K131:=zA (hbox);have GW131:=zN HB hg;have GE131:=zN HB hg;replace HB:=zS HB hb;have NB130_131:=zL K130 hg;have NB131_130:=zG K130 hg;replace K130:=zB K130 hb;clear hb hbox hg;have:=NB130_131.1;have:=NB131_130.1;obtain ⟨hcz12_0,hcz12_1,hcz12_2,hcz12_3,hfz12_0,hfz12_1,hfz12_2,hfz12_3⟩:=zc4 K130;obtain ⟨hcz13_0,hcz13_1,hcz13_2,hcz13_3,hfz13_0,hfz13_1,hfz13_2,hfz13_3⟩:=zc4 K131)|((with_reducible refine gate_store (t:=26) (p:=2) rfl ?_);refine store_event (t:=26) (p:=2) (v:=?vo_w14) (w1:=((((w10.setCell ⟨G131,0,none⟩ (.int .u64 a0_0)).setCell ⟨G131,1,none⟩ (.int .u64 0)).setCell ⟨G131,2,none⟩ (.bool false)).setCell ⟨G131,3,none⟩ (.int .i64 0))) ?hg ?ho ?hn ?hr ?_;(case ho => rfl);(case hg => rfl);(case hn => rfl);(case hr => first|(go_simp;done)|(go_simp;rfl));intro w14 hw;replace K130:=zV hw K130;replace K131:=zVp hw (.cells #[.int .u64 a0_0,.int .u64 0,.bool false,.int .i64 0] 26 (0,0)) K131;replace HB:=zU hw HB;clear hw))
 refine bodyPost_ret (results_cell_row rfl _ _ G131 26 #[.int .u64 a0_0,.int .u64 0,.bool false,.int .i64 0] (0,0) _ rfl (zF K131) Try.underlying26 rfl (by kernel_rfl)) rfl ?_
 exact ⟨zE,zH HB⟩

/-! ### session_Tick: function 11 -/
def session_Tick.j0 : Nat → Int → Int → Int → Bool → Int → Option (Int × Int × Bool × Int × Bool)
 | 0, _, _, _, _, _ => none
 | k + 1, x1, x133000, x133001, x133002, x133003 => if x133003 ≥ x1 then ((session_Down.f x133000 x133001 x133002 x133003).bind fun bt134 => (some (bt134.1, bt134.2.1, bt134.2.2.1, bt134.2.2.2, true))) else (some (x133000, x133001, x133002, x133003, false))
def session_Tick.f (k : Nat) (a0_0 : Int) (a0_1 : Int) (a0_2 : Bool) (a0_3 : Int) (a1 : Int) : Option (Int × Int × Bool × Int × Bool) := if a0_1 = 0 then (some (a0_0, a0_1, a0_2, a0_3, false)) else (if a0_3 < 9223372036854775807 then (session_Tick.j0 k a1 a0_0 a0_1 a0_2 (wrap64 (a0_3 + 1))) else (session_Tick.j0 k a1 a0_0 a0_1 a0_2 a0_3))
theorem session_Tick.mono_l : ∀ k, (∀ y0 y1 y2 y3 y4, LeO (session_Tick.j0 k y0 y1 y2 y3 y4) (session_Tick.j0 (k + 1) y0 y1 y2 y3 y4))
 | 0 => fun _ _ _ _ _ r h => by simp [session_Tick.j0] at h
 | k + 1 => by
  have ih0:=session_Tick.mono_l k
  ·intro y0 y1 y2 y3 y4
   unfold session_Tick.j0
   repeat' first
   | (with_reducible exact ih0 _ _ _ _ _)
   | (with_reducible exact LeO.refl _)
   | (with_reducible exact LeO.none _)
   | (with_reducible refine LeO.ite ?_ ?_)
   | (with_reducible refine LeO.bind ?_ (fun _ => ?_))
   | exact ih0 _ _ _ _ _
   | exact LeO.none _
   | refine LeO.ite ?_ ?_
   | refine LeO.bind ?_ (fun _ => ?_)
theorem session_Tick.mono : ∀ a0 a1 a2 a3 a4 k, LeO (session_Tick.f k a0 a1 a2 a3 a4) (session_Tick.f (k + 1) a0 a1 a2 a3 a4) := by
 intro a0 a1 a2 a3 a4 k
 have ih0:=session_Tick.mono_l k
 unfold session_Tick.f
 repeat' first
   | (with_reducible exact ih0 _ _ _ _ _)
   | (with_reducible exact LeO.refl _)
   | (with_reducible exact LeO.none _)
   | (with_reducible refine LeO.ite ?_ ?_)
   | (with_reducible refine LeO.bind ?_ (fun _ => ?_))
   | exact ih0 _ _ _ _ _
   | exact LeO.none _
   | refine LeO.ite ?_ ?_
   | refine LeO.bind ?_ (fun _ => ?_)
set_option maxHeartbeats 8000000 in
set_option maxRecDepth 100000 in
theorem session_Tick.calls (k : Nat) (a0_0 : Int) (a0_1 : Int) (a0_2 : Bool) (a0_3 : Int) (a1 : Int) (r1 : Int) (r2 : Int) (r3 : Bool) (r4 : Int) (r5 : Bool) (w : World) (h : session_Tick.f k a0_0 a0_1 a0_2 a0_3 a1 = some (r1, r2, r3, r4, r5)) :
  Calls Try.prog 11 #[.agg #[.int .u64 a0_0,.int .u64 a0_1,.bool a0_2,.int .i64 a0_3],.int .i64 a1] w fun e w' => e = .returned (.tuple #[.agg #[.int .u64 r1,.int .u64 r2,.bool r3,.int .i64 r4],.bool r5]) ∧ Below w.heap.size w w':=by
 have hu26:=Try.underlying26
 have HB:=zA (Below.refl w.heap.size w)
 have H : (if a0_1 = 0 then (some (a0_0,a0_1,a0_2,a0_3,false)) else (if a0_3 < 9223372036854775807 then (session_Tick.j0 k a1 a0_0 a0_1 a0_2 (wrap64 (a0_3 + 1))) else (session_Tick.j0 k a1 a0_0 a0_1 a0_2 a0_3))) = some (r1,r2,r3,r4,r5):=h
 clear h
 by_cases c3 : a0_1 = 0
 ·rw [if_pos c3] at H
  have c3b0 : (a0_1 == 0) = true:=beq_iff_eq.mpr c3
  have c3b1 : (a0_1 != 0) = false:=bne_eq_false_iff_eq.mpr c3
  clear c3
  simp only [Option.some.injEq,Prod.mk.injEq] at H
  obtain ⟨rfl,rfl,rfl,rfl,rfl⟩:=H
  go_enter Try.func11,Try.ntmps11
  go_wp2_with (first|((with_reducible refine gate_dst (N:=2) rfl ?_);refine zb (N:=2) (cs:=#[.int .u64 a0_0,.int .u64 a0_1,.bool a0_2,.int .i64 a0_3]) (t:=26) ?_;intro G132 hg w4 hbox hb;have K132:=zA (hbox);have GW132:=zN HB hg;have GE132:=zN HB hg;replace HB:=zS HB hb;clear hb hbox hg)|((with_reducible refine gate_dst (N:=4) rfl ?_);refine zb (N:=4) (cs:=#[.int .u64 0,.int .u64 0,.bool false,.int .i64 0]) (t:=26) ?_;intro G133 hg w5 hbox hb;have K133:=zA (hbox);have GW133:=zN HB hg;have GE133:=zN HB hg;replace HB:=zS HB hb;have NB132_133:=zL K132 hg;have NB133_132:=zG K132 hg;replace K132:=zB K132 hb;clear hb hbox hg;have:=NB132_133.1;have:=NB133_132.1;obtain ⟨hcz7_0,hcz7_1,hcz7_2,hcz7_3,hfz7_0,hfz7_1,hfz7_2,hfz7_3⟩:=zc4 K132;obtain ⟨hcz8_0,hcz8_1,hcz8_2,hcz8_3,hfz8_0,hfz8_1,hfz8_2,hfz8_3⟩:=zc4 K133)|((with_reducible refine gate_store (t:=26) (p:=4) rfl ?_);refine store_event (t:=26) (p:=4) (v:=?vo_w9) (w1:=((((w5.setCell ⟨G133,0,none⟩ (.int .u64 a0_0)).setCell ⟨G133,1,none⟩ (.int .u64 a0_1)).setCell ⟨G133,2,none⟩ (.bool a0_2)).setCell ⟨G133,3,none⟩ (.int .i64 a0_3))) ?hg ?ho ?hn ?hr ?_;(case ho => rfl);(case hg => rfl);(case hn => rfl);(case hr => first|(go_simp;done)|(go_simp;rfl));intro w9 hw;replace K132:=zV hw K132;replace K133:=zVp hw (.cells #[.int .u64 a0_0,.int .u64 a0_1,.bool a0_2,.int .i64 a0_3] 26 (0,0)) K133;replace HB:=zU hw HB;clear hw))
  refine bodyPost_ret (results_ct rfl _ _ G133 26 #[.int .u64 a0_0,.int .u64 a0_1,.bool a0_2,.int .i64 a0_3] (0,0) _ rfl (zF K133) Try.underlying26 rfl (by kernel_rfl)) rfl ?_
  exact ⟨zE,zH HB⟩
 rw [if_neg c3] at H
 have c3b0 : (a0_1 == 0) = false:=beq_eq_false_iff_ne.mpr c3
 have c3b1 : (a0_1 != 0) = true:=bne_iff_ne.mpr c3
 have HC10:=zA H
 clear H
 go_enter Try.func11,Try.ntmps11
 go_upto_if 12 with (first|((with_reducible refine gate_dst (N:=2) rfl ?_);refine zb (N:=2) (cs:=#[.int .u64 a0_0,.int .u64 a0_1,.bool a0_2,.int .i64 a0_3]) (t:=26) ?_;intro G132 hg w11 hbox hb;have K132:=zA (hbox);have GW132:=zN HB hg;have GE132:=zN HB hg;replace HB:=zS HB hb;clear hb hbox hg)|((with_reducible refine gate_dst (N:=4) rfl ?_);refine zb (N:=4) (cs:=#[.int .u64 0,.int .u64 0,.bool false,.int .i64 0]) (t:=26) ?_;intro G133 hg w12 hbox hb;have K133:=zA (hbox);have GW133:=zN HB hg;have GE133:=zN HB hg;replace HB:=zS HB hb;have NB132_133:=zL K132 hg;have NB133_132:=zG K132 hg;replace K132:=zB K132 hb;clear hb hbox hg;have:=NB132_133.1;have:=NB133_132.1;obtain ⟨hcz14_0,hcz14_1,hcz14_2,hcz14_3,hfz14_0,hfz14_1,hfz14_2,hfz14_3⟩:=zc4 K132))
 (try simp only [Act.put,xA,xB,xC])
 go_cut [] (fun wc => ∃ (kq : Nat) (x133003_9 : Int),Aside0 (session_Tick.j0 kq a1 a0_0 a0_1 a0_2 x133003_9 = some (r1,r2,r3,r4,r5)) ∧ Aside0 (kq ≤ k) ∧ Aside0 (wc.heap[G132]? = some (.cells #[.int .u64 a0_0,.int .u64 a0_1,.bool a0_2,.int .i64 x133003_9] 26 (0,0))) ∧ Aside0 (wc.heap[G133]? = some (.cells #[.int .u64 0,.int .u64 0,.bool false,.int .i64 0] 26 (0,0))) ∧ Aside0 (Below w.heap.size w wc))
 case first =>
  have H:=HC10.out
  clear HC10
  by_cases c15 : a0_3 < 9223372036854775807
  ·rw [if_pos c15] at H
   have c15b0 : decide (a0_3 < 9223372036854775807) = true:=decide_eq_true c15
   clear c15
   (first|rw [c15b0]|(simp only [i64_w,i32_w];rw [c15b0])|skip)
   have H':=zA H
   clear H
   have:=NB132_133.1
   have:=NB133_132.1
   obtain ⟨hcz17_0,hcz17_1,hcz17_2,hcz17_3,hfz17_0,hfz17_1,hfz17_2,hfz17_3⟩:=zc4 K132
   go_wp2
   go_meet
   case rel => exact ⟨_,(wrap64 (a0_3 + 1)),H',⟨zo⟩,⟨zF K132⟩,⟨zf K133⟩,⟨zH HB⟩⟩
  rw [if_neg c15] at H
  have c15b0 : decide (a0_3 < 9223372036854775807) = false:=decide_eq_false c15
  clear c15
  (first|rw [c15b0]|(simp only [i64_w,i32_w];rw [c15b0])|skip)
  have H':=zA H
  clear H
  go_wp2
  go_meet
  case rel => exact ⟨_,(a0_3),H',⟨zo⟩,⟨z1 K132.1⟩,⟨z1 K133.1⟩,⟨zH HB⟩⟩
 clear HC10
 try clear c3;try clear c3b0;try clear c3b1;try clear hcz14_0;try clear hcz14_1;try clear hcz14_2;try clear hcz14_3;try clear hfz14_0;try clear hfz14_1;try clear hfz14_2;try clear hfz14_3
 obtain ⟨kq,x133003_9,HA,HJ9,K132,K133,HB⟩:=hcut
 cases kq with
 | zero => exact absurd HA.out (by simp [session_Tick.j0])
 | succ kj9 => ?_
 have H:=HA.out
 clear HA
 simp only [session_Tick.j0] at H
 by_cases c18 : x133003_9 ≥ a1
 ·rw [if_pos c18] at H
  have c18b0 : decide (a1 ≤ x133003_9) = true:=decide_eq_true c18
  clear c18
  replace H:=Option.bind_eq_some_iff.mp H
  obtain ⟨⟨t134,t135,t136,t137⟩,A190,H⟩:=H
  (try dsimp only at H)
  have A19:=zA A190
  clear A190
  simp only [Option.some.injEq,Prod.mk.injEq] at H
  obtain ⟨rfl,rfl,rfl,rfl,rfl⟩:=H
  have:=NB132_133.1
  have:=NB133_132.1
  obtain ⟨hcz21_0,hcz21_1,hcz21_2,hcz21_3,hfz21_0,hfz21_1,hfz21_2,hfz21_3⟩:=zc4 K132
  go_wp2_with (first|((with_reducible refine gate_callee (f:=12) rfl ?_);refine zg (some 22) Try.func12 #[.agg #[.int .u64 a0_0,.int .u64 a0_1,.bool a0_2,.int .i64 x133003_9]] ?_;(with_reducible refine (session_Down.calls a0_0 a0_1 a0_2 x133003_9 t134 t135 t136 t137 _ A19.out).mono ?_);rintro e w22 ⟨rfl,hb⟩;refine ⟨_,rfl,?_⟩;replace K132:=zB K132 hb;replace K133:=zB K133 hb;replace HB:=zS HB hb;(try clear hb);obtain ⟨hcz23_0,hcz23_1,hcz23_2,hcz23_3,hfz23_0,hfz23_1,hfz23_2,hfz23_3⟩:=zc4 K133)|((with_reducible refine gate_store (t:=26) (p:=4) rfl ?_);refine store_event (t:=26) (p:=4) (v:=?vo_w24) (w1:=((((w22.setCell ⟨G133,0,none⟩ (.int .u64 t134)).setCell ⟨G133,1,none⟩ (.int .u64 t135)).setCell ⟨G133,2,none⟩ (.bool t136)).setCell ⟨G133,3,none⟩ (.int .i64 t137))) ?hg ?ho ?hn ?hr ?_;(case ho => rfl);(case hg => rfl);(case hn => rfl);(case hr => first|(go_simp;done)|(go_simp;rfl));intro w24 hw;replace K132:=zV hw K132;replace K133:=zVp hw (.cells #[.int .u64 t134,.int .u64 t135,.bool t136,.int .i64 t137] 26 (0,0)) K133;replace HB:=zU hw HB;clear hw))
  refine bodyPost_ret (results_ct rfl _ _ G133 26 #[.int .u64 t134,.int .u64 t135,.bool t136,.int .i64 t137] (0,0) _ rfl (zF K133) Try.underlying26 rfl (by kernel_rfl)) rfl ?_
  exact ⟨zE,zH HB⟩
 rw [if_neg c18] at H
 have c18b0 : decide (a1 ≤ x133003_9) = false:=decide_eq_false c18
 clear c18
 simp only [Option.some.injEq,Prod.mk.injEq] at H
 obtain ⟨rfl,rfl,rfl,rfl,rfl⟩:=H
 have:=NB132_133.1
 have:=NB133_132.1
 obtain ⟨hcz26_0,hcz26_1,hcz26_2,hcz26_3,hfz26_0,hfz26_1,hfz26_2,hfz26_3⟩:=zc4 K132
 obtain ⟨hcz27_0,hcz27_1,hcz27_2,hcz27_3,hfz27_0,hfz27_1,hfz27_2,hfz27_3⟩:=zc4 K133
 go_wp2_with (first|((with_reducible refine gate_store (t:=26) (p:=4) rfl ?_);refine store_event (t:=26) (p:=4) (v:=?vo_w28) (w1:=((((wc.setCell ⟨G133,0,none⟩ (.int .u64 a0_0)).setCell ⟨G133,1,none⟩ (.int .u64 a0_1)).setCell ⟨G133,2,none⟩ (.bool a0_2)).setCell ⟨G133,3,none⟩ (.int .i64 x133003_9))) ?hg ?ho ?hn ?hr ?_;(case ho => rfl);(case hg => rfl);(case hn => rfl);(case hr => first|(go_simp;done)|(go_simp;rfl));intro w28 hw;replace K132:=zV hw K132;replace K133:=zVp hw (.cells #[.int .u64 a0_0,.int .u64 a0_1,.bool a0_2,.int .i64 x133003_9] 26 (0,0)) K133;replace HB:=zU hw HB;clear hw))
 refine bodyPost_ret (results_ct rfl _ _ G133 26 #[.int .u64 a0_0,.int .u64 a0_1,.bool a0_2,.int .i64 x133003_9] (0,0) _ rfl (zF K133) Try.underlying26 rfl (by kernel_rfl)) rfl ?_
 exact ⟨zE,zH HB⟩

end Go.Proofs.Ytjodekffbobmlaa.XA
