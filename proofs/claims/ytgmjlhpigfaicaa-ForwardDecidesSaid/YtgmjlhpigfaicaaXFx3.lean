/- Go functions of this seat as Lean functions, with proofs that the calls come to them. (Written by xprint.py, a program of this session, over the kit's print.) -/
import Derived.Test.YtgmjlhpigfaicaaXFx0
import Derived.Test.YtgmjlhpigfaicaaXFx2
namespace Go.Proofs.Ytgmjlhpigfaicaa.XF
open Go.RowKit Go.Proofs.YtgmjlhpigfaicaaW.PrintWords Go.Proofs.YtgmjlhpigfaicaaW.PrintLast Go.Proofs.YtgmjlhpigfaicaaW.PrintMore
attribute [local go_sem] max2_int min2_int max_two min_two max_three min_three max_four min_four   -- for this text's walks alone
set_option linter.unusedVariables false
set_option linter.unusedSimpArgs false
open List renaming setIfInBounds_toArray → xA, set_cons_zero → xB, set_cons_succ → xC
open Go.Proofs.YtgmjlhpigfaicaaW.PrintWords renaming blk_drewN → bN, blk_drew → bD, blk_alloc → bA, below_set → bS, blk_frozen → bF, blk_cell → bC, cell_far → cF, blk_far → bZ, blk_below → bB, pw_below_drewN → bwN, below_drew1 → bw1, below_alloc → bwA
open Go.Proofs.YtgmjlhpigfaicaaW.PrintZ
open Bool renaming true → T,false → F

/-! ### table_may: function 45 -/
def table_may.l0 : Nat → List (S39) → List (S39) → Int → Int → Option (Bool)
 | 0, _, _, _, _ => none
 | k + 1, x0, x5, x6, x7 => if x7 < x6 then (if 0 ≤ x7 then (if x7 < (x5.length : Int) then (if ((rd_T39 x5 x7).f1) < 1 then (some false) else (if ((rd_T39 x5 x7).f1) > 3 then (some false) else ((ident_CheckId.f ((rd_T39 x5 x7).f0)).bind fun t114 => (if t114 = 0 then (if x7 > 0 then (if 0 ≤ (wrap64 (x7 - 1)) then (if (wrap64 (x7 - 1)) < (x0.length : Int) then ((table_order.f k ((rd_T39 x0 (wrap64 (x7 - 1))).f0) ((rd_T39 x0 (wrap64 (x7 - 1))).f1) ((rd_T39 x0 (wrap64 (x7 - 1))).f2) ((rd_T39 x0 (wrap64 (x7 - 1))).f3) ((rd_T39 x0 (wrap64 (x7 - 1))).f4) ((rd_T39 x0 (wrap64 (x7 - 1))).f5) ((rd_T39 x5 x7).f0) ((rd_T39 x5 x7).f1) ((rd_T39 x5 x7).f2) ((rd_T39 x5 x7).f3) ((rd_T39 x5 x7).f4) ((rd_T39 x5 x7).f5)).bind fun t116 => (if t116 ≥ 0 then (some false) else (table_may.l0 k x0 x5 x6 (wrap64 (x7 + 1))))) else (none)) else (none)) else (table_may.l0 k x0 x5 x6 (wrap64 (x7 + 1)))) else (some false))))) else (none)) else (none)) else (some true)
def table_may.f (k : Nat) (l0 : List (S39)) : Option (Bool) := table_may.l0 k l0 l0 (l0.length : Int) 0
theorem table_may.mono_l : ∀ k, (∀ y0 y1 y2 y3, LeO (table_may.l0 k y0 y1 y2 y3) (table_may.l0 (k + 1) y0 y1 y2 y3))
 | 0 => fun _ _ _ _ r h => by simp [table_may.l0] at h
 | k + 1 => by
  have ih0:=table_may.mono_l k
  ·intro y0 y1 y2 y3
   unfold table_may.l0
   repeat' first
   | (with_reducible exact ih0 _ _ _ _)
   | (with_reducible exact table_order.mono _ _ _ _ _ _ _ _ _ _ _ _ _)
   | (with_reducible exact LeO.refl _)
   | (with_reducible exact LeO.none _)
   | (with_reducible refine LeO.ite ?_ ?_)
   | (with_reducible refine LeO.bind ?_ (fun _ => ?_))
   | exact ih0 _ _ _ _
   | exact table_order.mono _ _ _ _ _ _ _ _ _ _ _ _ _
   | exact LeO.none _
   | refine LeO.ite ?_ ?_
   | refine LeO.bind ?_ (fun _ => ?_)
theorem table_may.mono : ∀ a0 k, LeO (table_may.f k a0) (table_may.f (k + 1) a0) := by
 intro a0 k
 have ih0:=table_may.mono_l k
 unfold table_may.f
 repeat' first
   | (with_reducible exact ih0 _ _ _ _)
   | (with_reducible exact table_order.mono _ _ _ _ _ _ _ _ _ _ _ _ _)
   | (with_reducible exact LeO.refl _)
   | (with_reducible exact LeO.none _)
   | (with_reducible refine LeO.ite ?_ ?_)
   | (with_reducible refine LeO.bind ?_ (fun _ => ?_))
   | exact ih0 _ _ _ _
   | exact table_order.mono _ _ _ _ _ _ _ _ _ _ _ _ _
   | exact LeO.none _
   | refine LeO.ite ?_ ?_
   | refine LeO.bind ?_ (fun _ => ?_)
def table_may.T4 : Bool × List (List Nat × List Nat) := (true, [([], []), ([0], [0]), ([1], [1]), ([2], [2]), ([3], [3]), ([4, 3], [3, 4]), ([5, 3], [3, 5]), ([3, 6], [3, 6]), ([7, 3], [7]), ([8], [8]), ([9, 8], [8, 9]), ([10, 8, 8], [8, 10]), ([11, 8], [8, 11]), ([8, 12], [8, 12]), ([13, 11], [13]), ([14], [14]), ([15, 14], [14, 15]), ([16, 14, 14], [14, 16]), ([17], [17]), ([17], [17]), ([19, 17], [17, 19]), ([18, 20, 17], [17, 18, 20]), ([21, 17], [17, 21]), ([17], [17]), ([22, 23, 17, 17], [17, 22, 23]), ([24, 17], [17, 24]), ([17, 25, 14], [14, 17, 25]), ([14, 26], [14, 26])])
def table_may.B4 : List Nat := [0, 1, 3, 7, 15, 31, 63, 127, 255, 511, 1023, 2047, 4095, 8191, 16383, 32767, 65535, 131071, 262143, 262143, 786431, 2097151, 4194303, 262143, 16777215, 33554431, 67108863, 134217727]
theorem table_may.tab4 : rtab .any (opsOf Try.f45 4) = table_may.T4 := by kernel_rfl
theorem table_may.bits4 : waitsOk table_may.T4.2 table_may.B4 = true := by kernel_rfl
set_option maxHeartbeats 8000000 in
set_option maxRecDepth 100000 in
theorem table_may.calls (k : Nat) (A0 : Option Addr) (c0 : Nat) (l0 : List (S39)) (r : Bool) (w : World) (hr0 : Kd.C k39 w A0 l0.length l0) (hc0 : l0.length ≤ c0) (h : table_may.f k l0 = some r) :
  Calls Try.prog 45 #[.slice A0 l0.length c0] w fun e w' => e = .returned (.bool r) ∧ Below w.heap.size w w':=by
 have hu39:=Try.underlying39
 have HR0:=Aside0.mk hr0
 have HC0:=Aside0.mk hc0
 clear hr0 hc0
 have HB:=Aside0.mk (Below.refl w.heap.size w)
 have H : (table_may.l0 k l0 l0 (l0.length : Int) 0) = some r:=h
 clear h
 have H':=Aside0.mk H
 clear H
 go_enter Try.func45,Try.ntmps45
 go_wp2
 go_loopg [7] k (fun kq v7 w' => ∃ (x7_1 : Int),v7 = .int .i64 x7_1 ∧ Aside0 (table_may.l0 kq l0 l0 (l0.length : Int) x7_1 = some r) ∧ Aside0 (kq ≤ k) ∧ Aside0 (Below w.heap.size w w'))
 case atStart => exact ⟨(0),ze,H',⟨Nat.le_refl _⟩,⟨zH HB⟩⟩
 case round =>
  clear H'
  obtain ⟨x7_1,rfl,HA,HK1,HB⟩:=hrel
  cases gk with
  | zero => exact absurd HA.out (by simp [table_may.l0])
  | succ k1 =>
   have H:=HA.out
   clear HA
   simp only [table_may.l0] at H
   by_cases c2 : x7_1 < (l0.length : Int)
   ·rw [if_pos c2] at H
    have c2b0 : decide (x7_1 < (l0.length : Int)) = true:=decide_eq_true c2
    clear c2
    by_cases c3 : 0 ≤ x7_1
    ·rw [if_pos c3] at H
     have c3b0 : decide (0 ≤ x7_1) = true:=decide_eq_true c3
     clear c3
     by_cases c4 : x7_1 < (l0.length : Int)
     ·rw [if_pos c4] at H
      have c4b0 : decide (x7_1 < (l0.length : Int)) = true:=decide_eq_true c4
      clear c4
      by_cases c5 : ((rd_T39 l0 x7_1).f1) < 1
      ·rw [if_pos c5] at H
       have c5b0 : decide (((rd_T39 l0 x7_1).f1) < 1) = true:=decide_eq_true c5
       clear c5
       obtain rfl:=Option.some.inj H
       have p112 : 0 ≤ (x7_1 : Int):=zd
       have q112 : x7_1 < (l0.length : Int):=zd
       obtain ⟨ad112,e112,hx112_0,hx112_1,hx112_2,hx112_3,hx112_4,hx112_5⟩:=at_T39 HR0.out x7_1 p112 q112
       cases e112
       replace hx112_0:=zh HB hx112_0
       replace hx112_1:=zh HB hx112_1
       replace hx112_2:=zh HB hx112_2
       replace hx112_3:=zh HB hx112_3
       replace hx112_4:=zh HB hx112_4
       replace hx112_5:=zh HB hx112_5
       replace p112:=eq_true p112
       replace q112:=eq_true q112
       try go_wp2_with (first|((with_reducible refine gate_dst (N:=4) rfl ?_);refine zb (N:=4) (cs:=#[.int .i64 0,.int .i64 0,.float .f64 0,.int .i64 0,.float .f64 0,.int .i64 0]) (t:=39) ?_;intro G113 hg w6 hbox hb;have K113:=Aside0.mk (hbox);have GW113:=zN HB hg;have GE113:=zN HB hg;replace HB:=zS HB hb;clear hb hbox hg;obtain ⟨hcz7_0,hcz7_1,hcz7_2,hcz7_3,hcz7_4,hcz7_5,hfz7_0,hfz7_1,hfz7_2,hfz7_3,hfz7_4,hfz7_5⟩:=zc6 K113)|((with_reducible refine gate_store (t:=39) (p:=4) rfl ?_);refine store_event (t:=39) (p:=4) (v:=?vo_w8) (w1:=((((((w6.setCell ⟨G113,0,none⟩ (.int .i64 ((rd_T39 l0 x7_1).f0))).setCell ⟨G113,1,none⟩ (.int .i64 ((rd_T39 l0 x7_1).f1))).setCell ⟨G113,2,none⟩ (.float .f64 ((rd_T39 l0 x7_1).f2))).setCell ⟨G113,3,none⟩ (.int .i64 ((rd_T39 l0 x7_1).f3))).setCell ⟨G113,4,none⟩ (.float .f64 ((rd_T39 l0 x7_1).f4))).setCell ⟨G113,5,none⟩ (.int .i64 ((rd_T39 l0 x7_1).f5)))) ?hg ?ho ?hn ?hr ?_;(case ho => rfl);(case hg => rfl);(case hn => rfl);(case hr => first|(go_simp;done)|(go_simp;rfl));intro w8 hw;replace K113:=zVp hw (.cells #[.int .i64 ((rd_T39 l0 x7_1).f0),.int .i64 ((rd_T39 l0 x7_1).f1),.float .f64 ((rd_T39 l0 x7_1).f2),.int .i64 ((rd_T39 l0 x7_1).f3),.float .f64 ((rd_T39 l0 x7_1).f4),.int .i64 ((rd_T39 l0 x7_1).f5)] 39 (0,0)) K113;replace HB:=zU hw HB;clear hw))
       replace K113:=Aside0.mk (bD K113.1)
       replace HB:=Aside0.mk (bw1 HB.1)
       refine start_ (n:=28) (S:=fun w' => w'.cell? ⟨G113,0,none⟩ = some (.int .i64 ((rd_T39 l0 x7_1).f0)) ∧ w'.cell? ⟨G113,1,none⟩ = some (.int .i64 ((rd_T39 l0 x7_1).f1)) ∧ w'.cell? ⟨G113,2,none⟩ = some (.float .f64 ((rd_T39 l0 x7_1).f2)) ∧ w'.cell? ⟨G113,3,none⟩ = some (.int .i64 ((rd_T39 l0 x7_1).f3)) ∧ w'.cell? ⟨G113,4,none⟩ = some (.float .f64 ((rd_T39 l0 x7_1).f4)) ∧ w'.cell? ⟨G113,5,none⟩ = some (.int .i64 ((rd_T39 l0 x7_1).f5))) (ds:=[]) #[F,F,F,F,F,F,F,F,F,F,F,F,F,F,F,F,F,F,F,F,F,F,F,F,F,F,F,F] (by kernel_rfl) rfl rfl ⟨zk K113 0,zk K113 1,zk K113 2,zk K113 3,zk K113 4,zk K113 5⟩ (fun hHeld => ?_);refine with_tabW table_may.tab4 table_may.bits4 (fun HT_ HW_ => ?_)
       generalize w8.drew = w9 at K113 HB hHeld ⊢
       refine pz 0 12 #[T,F,F,F,F,F,F,F,F,F,F,F,F,F,F,F,F,F,F,F,F,F,F,F,F,F,F,F] HT_.1 ?_
       refine tz 1 13 #[T,T,F,F,F,F,F,F,F,F,F,F,F,F,F,F,F,F,F,F,F,F,F,F,F,F,F,F] HT_.1 HW_.1 hHeld ?_
       refine pz 2 14 #[T,T,T,F,F,F,F,F,F,F,F,F,F,F,F,F,F,F,F,F,F,F,F,F,F,F,F,F] HT_.1 ?_
       refine pz 3 15 #[T,T,T,T,F,F,F,F,F,F,F,F,F,F,F,F,F,F,F,F,F,F,F,F,F,F,F,F] HT_.1 ?_
       refine pu 4 16 #[T,T,T,T,T,F,F,F,F,F,F,F,F,F,F,F,F,F,F,F,F,F,F,F,F,F,F,F] HT_.1 ?_
       refine pu 5 17 #[T,T,T,T,T,T,F,F,F,F,F,F,F,F,F,F,F,F,F,F,F,F,F,F,F,F,F,F] HT_.1 ?_
       refine pu 6 18 #[T,T,T,T,T,T,T,F,F,F,F,F,F,F,F,F,F,F,F,F,F,F,F,F,F,F,F,F] HT_.1 ?_
       refine pz 7 19 #[T,T,T,T,T,T,T,T,F,F,F,F,F,F,F,F,F,F,F,F,F,F,F,F,F,F,F,F] HT_.1 ?_
       refine pz 8 20 #[T,T,T,T,T,T,T,T,T,F,F,F,F,F,F,F,F,F,F,F,F,F,F,F,F,F,F,F] HT_.1 ?_
       refine pu 9 21 #[T,T,T,T,T,T,T,T,T,T,F,F,F,F,F,F,F,F,F,F,F,F,F,F,F,F,F,F] HT_.1 ?_
       refine pu 10 22 #[T,T,T,T,T,T,T,T,T,T,T,F,F,F,F,F,F,F,F,F,F,F,F,F,F,F,F,F] HT_.1 ?_
       refine pu 11 23 #[T,T,T,T,T,T,T,T,T,T,T,T,F,F,F,F,F,F,F,F,F,F,F,F,F,F,F,F] HT_.1 ?_
       refine pu 12 24 #[T,T,T,T,T,T,T,T,T,T,T,T,T,F,F,F,F,F,F,F,F,F,F,F,F,F,F,F] HT_.1 ?_
       refine pz 13 25 #[T,T,T,T,T,T,T,T,T,T,T,T,T,T,F,F,F,F,F,F,F,F,F,F,F,F,F,F] HT_.1 ?_
       refine pz 14 26 #[T,T,T,T,T,T,T,T,T,T,T,T,T,T,T,F,F,F,F,F,F,F,F,F,F,F,F,F] HT_.1 ?_
       refine pu 15 27 #[T,T,T,T,T,T,T,T,T,T,T,T,T,T,T,T,F,F,F,F,F,F,F,F,F,F,F,F] HT_.1 ?_
       refine pu 16 28 #[T,T,T,T,T,T,T,T,T,T,T,T,T,T,T,T,T,F,F,F,F,F,F,F,F,F,F,F] HT_.1 ?_
       refine pu 17 29 #[T,T,T,T,T,T,T,T,T,T,T,T,T,T,T,T,T,T,F,F,F,F,F,F,F,F,F,F] HT_.1 ?_
       refine pu 18 30 #[T,T,T,T,T,T,T,T,T,T,T,T,T,T,T,T,T,T,T,F,F,F,F,F,F,F,F,F] HT_.1 ?_
       refine pu 19 31 #[T,T,T,T,T,T,T,T,T,T,T,T,T,T,T,T,T,T,T,T,F,F,F,F,F,F,F,F] HT_.1 ?_
       refine pu 20 32 #[T,T,T,T,T,T,T,T,T,T,T,T,T,T,T,T,T,T,T,T,T,F,F,F,F,F,F,F] HT_.1 ?_
       refine pu 21 33 #[T,T,T,T,T,T,T,T,T,T,T,T,T,T,T,T,T,T,T,T,T,T,F,F,F,F,F,F] HT_.1 ?_
       refine pu 22 34 #[T,T,T,T,T,T,T,T,T,T,T,T,T,T,T,T,T,T,T,T,T,T,T,F,F,F,F,F] HT_.1 ?_
       refine pu 23 35 #[T,T,T,T,T,T,T,T,T,T,T,T,T,T,T,T,T,T,T,T,T,T,T,T,F,F,F,F] HT_.1 ?_
       refine pu 24 36 #[T,T,T,T,T,T,T,T,T,T,T,T,T,T,T,T,T,T,T,T,T,T,T,T,T,F,F,F] HT_.1 ?_
       refine pu 25 37 #[T,T,T,T,T,T,T,T,T,T,T,T,T,T,T,T,T,T,T,T,T,T,T,T,T,T,F,F] HT_.1 ?_
       refine pu 26 38 #[T,T,T,T,T,T,T,T,T,T,T,T,T,T,T,T,T,T,T,T,T,T,T,T,T,T,T,F] HT_.1 ?_
       refine pz 27 39 #[T,T,T,T,T,T,T,T,T,T,T,T,T,T,T,T,T,T,T,T,T,T,T,T,T,T,T,T] HT_.1 ?_
       refine done_ (done_of HT_.out (by kernel_rfl)) ?_
       try go_wp2
       go_ret
       exact ⟨zE,zH HB⟩
      ·rw [if_neg c5] at H
       have c5b0 : decide (((rd_T39 l0 x7_1).f1) < 1) = false:=decide_eq_false c5
       clear c5
       by_cases c10 : ((rd_T39 l0 x7_1).f1) > 3
       ·rw [if_pos c10] at H
        have c10b0 : decide (3 < ((rd_T39 l0 x7_1).f1)) = true:=decide_eq_true c10
        clear c10
        obtain rfl:=Option.some.inj H
        have p112 : 0 ≤ (x7_1 : Int):=zd
        have q112 : x7_1 < (l0.length : Int):=zd
        obtain ⟨ad112,e112,hx112_0,hx112_1,hx112_2,hx112_3,hx112_4,hx112_5⟩:=at_T39 HR0.out x7_1 p112 q112
        cases e112
        replace hx112_0:=zh HB hx112_0
        replace hx112_1:=zh HB hx112_1
        replace hx112_2:=zh HB hx112_2
        replace hx112_3:=zh HB hx112_3
        replace hx112_4:=zh HB hx112_4
        replace hx112_5:=zh HB hx112_5
        replace p112:=eq_true p112
        replace q112:=eq_true q112
        try go_wp2_with (first|((with_reducible refine gate_dst (N:=4) rfl ?_);refine zb (N:=4) (cs:=#[.int .i64 0,.int .i64 0,.float .f64 0,.int .i64 0,.float .f64 0,.int .i64 0]) (t:=39) ?_;intro G113 hg w11 hbox hb;have K113:=Aside0.mk (hbox);have GW113:=zN HB hg;have GE113:=zN HB hg;replace HB:=zS HB hb;clear hb hbox hg;obtain ⟨hcz12_0,hcz12_1,hcz12_2,hcz12_3,hcz12_4,hcz12_5,hfz12_0,hfz12_1,hfz12_2,hfz12_3,hfz12_4,hfz12_5⟩:=zc6 K113)|((with_reducible refine gate_store (t:=39) (p:=4) rfl ?_);refine store_event (t:=39) (p:=4) (v:=?vo_w13) (w1:=((((((w11.setCell ⟨G113,0,none⟩ (.int .i64 ((rd_T39 l0 x7_1).f0))).setCell ⟨G113,1,none⟩ (.int .i64 ((rd_T39 l0 x7_1).f1))).setCell ⟨G113,2,none⟩ (.float .f64 ((rd_T39 l0 x7_1).f2))).setCell ⟨G113,3,none⟩ (.int .i64 ((rd_T39 l0 x7_1).f3))).setCell ⟨G113,4,none⟩ (.float .f64 ((rd_T39 l0 x7_1).f4))).setCell ⟨G113,5,none⟩ (.int .i64 ((rd_T39 l0 x7_1).f5)))) ?hg ?ho ?hn ?hr ?_;(case ho => rfl);(case hg => rfl);(case hn => rfl);(case hr => first|(go_simp;done)|(go_simp;rfl));intro w13 hw;replace K113:=zVp hw (.cells #[.int .i64 ((rd_T39 l0 x7_1).f0),.int .i64 ((rd_T39 l0 x7_1).f1),.float .f64 ((rd_T39 l0 x7_1).f2),.int .i64 ((rd_T39 l0 x7_1).f3),.float .f64 ((rd_T39 l0 x7_1).f4),.int .i64 ((rd_T39 l0 x7_1).f5)] 39 (0,0)) K113;replace HB:=zU hw HB;clear hw))
        replace K113:=Aside0.mk (bD K113.1)
        replace HB:=Aside0.mk (bw1 HB.1)
        refine start_ (n:=28) (S:=fun w' => w'.cell? ⟨G113,0,none⟩ = some (.int .i64 ((rd_T39 l0 x7_1).f0)) ∧ w'.cell? ⟨G113,1,none⟩ = some (.int .i64 ((rd_T39 l0 x7_1).f1)) ∧ w'.cell? ⟨G113,2,none⟩ = some (.float .f64 ((rd_T39 l0 x7_1).f2)) ∧ w'.cell? ⟨G113,3,none⟩ = some (.int .i64 ((rd_T39 l0 x7_1).f3)) ∧ w'.cell? ⟨G113,4,none⟩ = some (.float .f64 ((rd_T39 l0 x7_1).f4)) ∧ w'.cell? ⟨G113,5,none⟩ = some (.int .i64 ((rd_T39 l0 x7_1).f5))) (ds:=[]) #[F,F,F,F,F,F,F,F,F,F,F,F,F,F,F,F,F,F,F,F,F,F,F,F,F,F,F,F] (by kernel_rfl) rfl rfl ⟨zk K113 0,zk K113 1,zk K113 2,zk K113 3,zk K113 4,zk K113 5⟩ (fun hHeld => ?_);refine with_tabW table_may.tab4 table_may.bits4 (fun HT_ HW_ => ?_)
        generalize w13.drew = w14 at K113 HB hHeld ⊢
        refine pz 0 12 #[T,F,F,F,F,F,F,F,F,F,F,F,F,F,F,F,F,F,F,F,F,F,F,F,F,F,F,F] HT_.1 ?_
        refine tz 1 13 #[T,T,F,F,F,F,F,F,F,F,F,F,F,F,F,F,F,F,F,F,F,F,F,F,F,F,F,F] HT_.1 HW_.1 hHeld ?_
        refine pz 2 14 #[T,T,T,F,F,F,F,F,F,F,F,F,F,F,F,F,F,F,F,F,F,F,F,F,F,F,F,F] HT_.1 ?_
        refine pz 3 15 #[T,T,T,T,F,F,F,F,F,F,F,F,F,F,F,F,F,F,F,F,F,F,F,F,F,F,F,F] HT_.1 ?_
        refine pz 4 16 #[T,T,T,T,T,F,F,F,F,F,F,F,F,F,F,F,F,F,F,F,F,F,F,F,F,F,F,F] HT_.1 ?_
        refine tz 5 17 #[T,T,T,T,T,T,F,F,F,F,F,F,F,F,F,F,F,F,F,F,F,F,F,F,F,F,F,F] HT_.1 HW_.1 hHeld ?_
        refine pz 6 18 #[T,T,T,T,T,T,T,F,F,F,F,F,F,F,F,F,F,F,F,F,F,F,F,F,F,F,F,F] HT_.1 ?_
        refine pz 7 19 #[T,T,T,T,T,T,T,T,F,F,F,F,F,F,F,F,F,F,F,F,F,F,F,F,F,F,F,F] HT_.1 ?_
        refine pz 8 20 #[T,T,T,T,T,T,T,T,T,F,F,F,F,F,F,F,F,F,F,F,F,F,F,F,F,F,F,F] HT_.1 ?_
        refine pu 9 21 #[T,T,T,T,T,T,T,T,T,T,F,F,F,F,F,F,F,F,F,F,F,F,F,F,F,F,F,F] HT_.1 ?_
        refine pu 10 22 #[T,T,T,T,T,T,T,T,T,T,T,F,F,F,F,F,F,F,F,F,F,F,F,F,F,F,F,F] HT_.1 ?_
        refine pu 11 23 #[T,T,T,T,T,T,T,T,T,T,T,T,F,F,F,F,F,F,F,F,F,F,F,F,F,F,F,F] HT_.1 ?_
        refine pu 12 24 #[T,T,T,T,T,T,T,T,T,T,T,T,T,F,F,F,F,F,F,F,F,F,F,F,F,F,F,F] HT_.1 ?_
        refine pz 13 25 #[T,T,T,T,T,T,T,T,T,T,T,T,T,T,F,F,F,F,F,F,F,F,F,F,F,F,F,F] HT_.1 ?_
        refine pz 14 26 #[T,T,T,T,T,T,T,T,T,T,T,T,T,T,T,F,F,F,F,F,F,F,F,F,F,F,F,F] HT_.1 ?_
        refine pu 15 27 #[T,T,T,T,T,T,T,T,T,T,T,T,T,T,T,T,F,F,F,F,F,F,F,F,F,F,F,F] HT_.1 ?_
        refine pu 16 28 #[T,T,T,T,T,T,T,T,T,T,T,T,T,T,T,T,T,F,F,F,F,F,F,F,F,F,F,F] HT_.1 ?_
        refine pu 17 29 #[T,T,T,T,T,T,T,T,T,T,T,T,T,T,T,T,T,T,F,F,F,F,F,F,F,F,F,F] HT_.1 ?_
        refine pu 18 30 #[T,T,T,T,T,T,T,T,T,T,T,T,T,T,T,T,T,T,T,F,F,F,F,F,F,F,F,F] HT_.1 ?_
        refine pu 19 31 #[T,T,T,T,T,T,T,T,T,T,T,T,T,T,T,T,T,T,T,T,F,F,F,F,F,F,F,F] HT_.1 ?_
        refine pu 20 32 #[T,T,T,T,T,T,T,T,T,T,T,T,T,T,T,T,T,T,T,T,T,F,F,F,F,F,F,F] HT_.1 ?_
        refine pu 21 33 #[T,T,T,T,T,T,T,T,T,T,T,T,T,T,T,T,T,T,T,T,T,T,F,F,F,F,F,F] HT_.1 ?_
        refine pu 22 34 #[T,T,T,T,T,T,T,T,T,T,T,T,T,T,T,T,T,T,T,T,T,T,T,F,F,F,F,F] HT_.1 ?_
        refine pu 23 35 #[T,T,T,T,T,T,T,T,T,T,T,T,T,T,T,T,T,T,T,T,T,T,T,T,F,F,F,F] HT_.1 ?_
        refine pu 24 36 #[T,T,T,T,T,T,T,T,T,T,T,T,T,T,T,T,T,T,T,T,T,T,T,T,T,F,F,F] HT_.1 ?_
        refine pu 25 37 #[T,T,T,T,T,T,T,T,T,T,T,T,T,T,T,T,T,T,T,T,T,T,T,T,T,T,F,F] HT_.1 ?_
        refine pu 26 38 #[T,T,T,T,T,T,T,T,T,T,T,T,T,T,T,T,T,T,T,T,T,T,T,T,T,T,T,F] HT_.1 ?_
        refine pz 27 39 #[T,T,T,T,T,T,T,T,T,T,T,T,T,T,T,T,T,T,T,T,T,T,T,T,T,T,T,T] HT_.1 ?_
        refine done_ (done_of HT_.out (by kernel_rfl)) ?_
        try go_wp2
        go_ret
        exact ⟨zE,zH HB⟩
       ·rw [if_neg c10] at H
        have c10b0 : decide (3 < ((rd_T39 l0 x7_1).f1)) = false:=decide_eq_false c10
        clear c10
        replace H:=Option.bind_eq_some_iff.mp H
        obtain ⟨t114,A150,H⟩:=H
        (try dsimp only at H)
        have A15:=Aside0.mk A150
        clear A150
        by_cases c16 : t114 = 0
        ·rw [if_pos c16] at H
         have c16b0 : (t114 == 0) = true:=beq_iff_eq.mpr c16
         have c16b1 : (t114 != 0) = false:=bne_eq_false_iff_eq.mpr c16
         clear c16
         by_cases c17 : x7_1 > 0
         ·rw [if_pos c17] at H
          have c17b0 : decide (0 < x7_1) = true:=decide_eq_true c17
          clear c17
          obtain ⟨ji18,hji18⟩ : ∃ j_ : Int,(wrap64 (x7_1 - 1)) = j_:=⟨_,rfl⟩
          replace H : (if 0 ≤ (ji18) then (if (ji18) < (l0.length : Int) then ((table_order.f k1 ((rd_T39 l0 (ji18)).f0) ((rd_T39 l0 (ji18)).f1) ((rd_T39 l0 (ji18)).f2) ((rd_T39 l0 (ji18)).f3) ((rd_T39 l0 (ji18)).f4) ((rd_T39 l0 (ji18)).f5) ((rd_T39 l0 x7_1).f0) ((rd_T39 l0 x7_1).f1) ((rd_T39 l0 x7_1).f2) ((rd_T39 l0 x7_1).f3) ((rd_T39 l0 x7_1).f4) ((rd_T39 l0 x7_1).f5)).bind fun t116 => (if t116 ≥ 0 then (some false) else (table_may.l0 k1 l0 l0 (l0.length : Int) (wrap64 (x7_1 + 1))))) else (none)) else (none)) = some r:=by first|(rw [hji18] at H;exact H)|(simp only [hji18] at H ⊢;exact H)
          (try rw [hji18] at A15)
          have hji18w : (IntKind.i64.wrap (x7_1 - 1)) = ji18:=(i64_w _).trans hji18
          by_cases c19 : 0 ≤ (ji18)
          ·rw [if_pos c19] at H
           have c19b0 : decide (0 ≤ (ji18)) = true:=decide_eq_true c19
           clear c19
           by_cases c20 : (ji18) < (l0.length : Int)
           ·rw [if_pos c20] at H
            have c20b0 : decide ((ji18) < (l0.length : Int)) = true:=decide_eq_true c20
            clear c20
            replace H:=Option.bind_eq_some_iff.mp H
            obtain ⟨t116,A210,H⟩:=H
            (try dsimp only at H)
            have A21:=Aside0.mk A210
            clear A210
            by_cases c22 : t116 ≥ 0
            ·rw [if_pos c22] at H
             have c22b0 : decide (0 ≤ t116) = true:=decide_eq_true c22
             clear c22
             obtain rfl:=Option.some.inj H
             have p112 : 0 ≤ (x7_1 : Int):=zd
             have q112 : x7_1 < (l0.length : Int):=zd
             obtain ⟨ad112,e112,hx112_0,hx112_1,hx112_2,hx112_3,hx112_4,hx112_5⟩:=at_T39 HR0.out x7_1 p112 q112
             cases e112
             replace hx112_0:=zh HB hx112_0
             replace hx112_1:=zh HB hx112_1
             replace hx112_2:=zh HB hx112_2
             replace hx112_3:=zh HB hx112_3
             replace hx112_4:=zh HB hx112_4
             replace hx112_5:=zh HB hx112_5
             replace p112:=eq_true p112
             replace q112:=eq_true q112
             try go_wp2_with (first|((with_reducible refine gate_dst (N:=4) rfl ?_);refine zb (N:=4) (cs:=#[.int .i64 0,.int .i64 0,.float .f64 0,.int .i64 0,.float .f64 0,.int .i64 0]) (t:=39) ?_;intro G113 hg w23 hbox hb;have K113:=Aside0.mk (hbox);have GW113:=zN HB hg;have GE113:=zN HB hg;replace HB:=zS HB hb;clear hb hbox hg;obtain ⟨hcz24_0,hcz24_1,hcz24_2,hcz24_3,hcz24_4,hcz24_5,hfz24_0,hfz24_1,hfz24_2,hfz24_3,hfz24_4,hfz24_5⟩:=zc6 K113)|((with_reducible refine gate_store (t:=39) (p:=4) rfl ?_);refine store_event (t:=39) (p:=4) (v:=?vo_w25) (w1:=((((((w23.setCell ⟨G113,0,none⟩ (.int .i64 ((rd_T39 l0 x7_1).f0))).setCell ⟨G113,1,none⟩ (.int .i64 ((rd_T39 l0 x7_1).f1))).setCell ⟨G113,2,none⟩ (.float .f64 ((rd_T39 l0 x7_1).f2))).setCell ⟨G113,3,none⟩ (.int .i64 ((rd_T39 l0 x7_1).f3))).setCell ⟨G113,4,none⟩ (.float .f64 ((rd_T39 l0 x7_1).f4))).setCell ⟨G113,5,none⟩ (.int .i64 ((rd_T39 l0 x7_1).f5)))) ?hg ?ho ?hn ?hr ?_;(case ho => rfl);(case hg => rfl);(case hn => rfl);(case hr => first|(go_simp;done)|(go_simp;rfl));intro w25 hw;replace K113:=zVp hw (.cells #[.int .i64 ((rd_T39 l0 x7_1).f0),.int .i64 ((rd_T39 l0 x7_1).f1),.float .f64 ((rd_T39 l0 x7_1).f2),.int .i64 ((rd_T39 l0 x7_1).f3),.float .f64 ((rd_T39 l0 x7_1).f4),.int .i64 ((rd_T39 l0 x7_1).f5)] 39 (0,0)) K113;replace HB:=zU hw HB;clear hw))
             replace K113:=Aside0.mk (bD K113.1)
             replace HB:=Aside0.mk (bw1 HB.1)
             have p115 : 0 ≤ ((ji18) : Int):=zd
             have q115 : (ji18) < (l0.length : Int):=zd
             obtain ⟨ad115,e115,hx115_0,hx115_1,hx115_2,hx115_3,hx115_4,hx115_5⟩:=at_T39 HR0.out (ji18) p115 q115
             have hw115_5:=hx115_5
             have hw115_4:=hx115_4
             have hw115_3:=hx115_3
             have hw115_2:=hx115_2
             have hw115_1:=hx115_1
             have hw115_0:=hx115_0
             obtain rfl : ad112 = ad115:=(by injection e115)
             replace hx115_0:=zh HB hx115_0
             replace hx115_1:=zh HB hx115_1
             replace hx115_2:=zh HB hx115_2
             replace hx115_3:=zh HB hx115_3
             replace hx115_4:=zh HB hx115_4
             replace hx115_5:=zh HB hx115_5
             replace p115:=eq_true p115
             replace q115:=eq_true q115
             refine start_ (n:=28) (S:=fun w' => w'.cell? ⟨G113,0,none⟩ = some (.int .i64 ((rd_T39 l0 x7_1).f0)) ∧ w'.cell? ⟨G113,1,none⟩ = some (.int .i64 ((rd_T39 l0 x7_1).f1)) ∧ w'.cell? ⟨G113,2,none⟩ = some (.float .f64 ((rd_T39 l0 x7_1).f2)) ∧ w'.cell? ⟨G113,3,none⟩ = some (.int .i64 ((rd_T39 l0 x7_1).f3)) ∧ w'.cell? ⟨G113,4,none⟩ = some (.float .f64 ((rd_T39 l0 x7_1).f4)) ∧ w'.cell? ⟨G113,5,none⟩ = some (.int .i64 ((rd_T39 l0 x7_1).f5)) ∧ w'.cell? (ad112.add (((ji18)).toNat * 6)) = some (.int .i64 ((rd_T39 l0 (ji18)).f0)) ∧ w'.cell? ⟨(ad112.add (((ji18)).toNat * 6)).block,(ad112.add (((ji18)).toNat * 6)).off + 1,none⟩ = some (.int .i64 ((rd_T39 l0 (ji18)).f1)) ∧ w'.cell? ⟨(ad112.add (((ji18)).toNat * 6)).block,(ad112.add (((ji18)).toNat * 6)).off + 2,none⟩ = some (.float .f64 ((rd_T39 l0 (ji18)).f2)) ∧ w'.cell? ⟨(ad112.add (((ji18)).toNat * 6)).block,(ad112.add (((ji18)).toNat * 6)).off + 3,none⟩ = some (.int .i64 ((rd_T39 l0 (ji18)).f3)) ∧ w'.cell? ⟨(ad112.add (((ji18)).toNat * 6)).block,(ad112.add (((ji18)).toNat * 6)).off + 4,none⟩ = some (.float .f64 ((rd_T39 l0 (ji18)).f4)) ∧ w'.cell? ⟨(ad112.add (((ji18)).toNat * 6)).block,(ad112.add (((ji18)).toNat * 6)).off + 5,none⟩ = some (.int .i64 ((rd_T39 l0 (ji18)).f5))) (ds:=[]) #[F,F,F,F,F,F,F,F,F,F,F,F,F,F,F,F,F,F,F,F,F,F,F,F,F,F,F,F] (by kernel_rfl) rfl rfl ⟨zk K113 0,zk K113 1,zk K113 2,zk K113 3,zk K113 4,zk K113 5,(zh HB hw115_0),(zh HB hw115_1),(zh HB hw115_2),(zh HB hw115_3),(zh HB hw115_4),(zh HB hw115_5)⟩ (fun hHeld => ?_);refine with_tabW table_may.tab4 table_may.bits4 (fun HT_ HW_ => ?_)
             generalize w25.drew = w26 at K113 HB hx115_0 hx115_1 hx115_2 hx115_3 hx115_4 hx115_5 hHeld ⊢
             refine pz 0 12 #[T,F,F,F,F,F,F,F,F,F,F,F,F,F,F,F,F,F,F,F,F,F,F,F,F,F,F,F] HT_.1 ?_
             refine tz 1 13 #[T,T,F,F,F,F,F,F,F,F,F,F,F,F,F,F,F,F,F,F,F,F,F,F,F,F,F,F] HT_.1 HW_.1 hHeld ?_
             refine pz 2 14 #[T,T,T,F,F,F,F,F,F,F,F,F,F,F,F,F,F,F,F,F,F,F,F,F,F,F,F,F] HT_.1 ?_
             refine pz 3 15 #[T,T,T,T,F,F,F,F,F,F,F,F,F,F,F,F,F,F,F,F,F,F,F,F,F,F,F,F] HT_.1 ?_
             refine pz 4 16 #[T,T,T,T,T,F,F,F,F,F,F,F,F,F,F,F,F,F,F,F,F,F,F,F,F,F,F,F] HT_.1 ?_
             refine tz 5 17 #[T,T,T,T,T,T,F,F,F,F,F,F,F,F,F,F,F,F,F,F,F,F,F,F,F,F,F,F] HT_.1 HW_.1 hHeld ?_
             refine pz 6 18 #[T,T,T,T,T,T,T,F,F,F,F,F,F,F,F,F,F,F,F,F,F,F,F,F,F,F,F,F] HT_.1 ?_
             refine pz 7 19 #[T,T,T,T,T,T,T,T,F,F,F,F,F,F,F,F,F,F,F,F,F,F,F,F,F,F,F,F] HT_.1 ?_
             refine pz 8 20 #[T,T,T,T,T,T,T,T,T,F,F,F,F,F,F,F,F,F,F,F,F,F,F,F,F,F,F,F] HT_.1 ?_
             refine pz 9 21 #[T,T,T,T,T,T,T,T,T,T,F,F,F,F,F,F,F,F,F,F,F,F,F,F,F,F,F,F] HT_.1 ?_
             refine tz 10 22 #[T,T,T,T,T,T,T,T,T,T,T,F,F,F,F,F,F,F,F,F,F,F,F,F,F,F,F,F] HT_.1 HW_.1 hHeld ?_
             refine one_ (i:=11) (N:=some 23) #[T,T,T,T,T,T,T,T,T,T,T,T,F,F,F,F,F,F,F,F,F,F,F,F,F,F,F,F] rfl rfl (one_of HT_.out (by kernel_rfl)) (by decide) (fun K hK => ?_)
             refine zo_ Try.func55 #[.int .i64 ((rd_T39 l0 x7_1).f0)] ?_
             with_reducible refine (ident_CheckId.calls ((rd_T39 l0 x7_1).f0) t114 _ A15.out).mono ?_
             rintro e w' ⟨rfl,⟨nd,rfl⟩⟩
             refine ⟨_,rfl,?_⟩
             refine hK.out _ _ ⟨zk K113 0,zk K113 1,zk K113 2,zk K113 3,zk K113 4,zk K113 5,(zh HB hw115_0),(zh HB hw115_1),(zh HB hw115_2),(zh HB hw115_3),(zh HB hw115_4),(zh HB hw115_5)⟩ (fun hHeld => ?_)
             clear hK K
             refine nz 23 ?_
             refine pz 12 24 #[T,T,T,T,T,T,T,T,T,T,T,T,T,F,F,F,F,F,F,F,F,F,F,F,F,F,F,F] HT_.1 ?_
             refine pz 13 25 #[T,T,T,T,T,T,T,T,T,T,T,T,T,T,F,F,F,F,F,F,F,F,F,F,F,F,F,F] HT_.1 ?_
             refine pz 14 26 #[T,T,T,T,T,T,T,T,T,T,T,T,T,T,T,F,F,F,F,F,F,F,F,F,F,F,F,F] HT_.1 ?_
             refine pz 15 27 #[T,T,T,T,T,T,T,T,T,T,T,T,T,T,T,T,F,F,F,F,F,F,F,F,F,F,F,F] HT_.1 ?_
             refine pz 16 28 #[T,T,T,T,T,T,T,T,T,T,T,T,T,T,T,T,T,F,F,F,F,F,F,F,F,F,F,F] HT_.1 ?_
             refine pz 17 29 #[T,T,T,T,T,T,T,T,T,T,T,T,T,T,T,T,T,T,F,F,F,F,F,F,F,F,F,F] HT_.1 ?_
             refine pz 18 30 #[T,T,T,T,T,T,T,T,T,T,T,T,T,T,T,T,T,T,T,F,F,F,F,F,F,F,F,F] HT_.1 ?_
             refine pz 19 31 #[T,T,T,T,T,T,T,T,T,T,T,T,T,T,T,T,T,T,T,T,F,F,F,F,F,F,F,F] HT_.1 ?_
             refine pz 20 32 #[T,T,T,T,T,T,T,T,T,T,T,T,T,T,T,T,T,T,T,T,T,F,F,F,F,F,F,F] HT_.1 ?_
             refine pz 21 33 #[T,T,T,T,T,T,T,T,T,T,T,T,T,T,T,T,T,T,T,T,T,T,F,F,F,F,F,F] HT_.1 ?_
             refine tz 22 34 #[T,T,T,T,T,T,T,T,T,T,T,T,T,T,T,T,T,T,T,T,T,T,T,F,F,F,F,F] HT_.1 HW_.1 hHeld ?_
             refine tz 23 35 #[T,T,T,T,T,T,T,T,T,T,T,T,T,T,T,T,T,T,T,T,T,T,T,T,F,F,F,F] HT_.1 HW_.1 hHeld ?_
             refine one_ (i:=24) (N:=some 36) #[T,T,T,T,T,T,T,T,T,T,T,T,T,T,T,T,T,T,T,T,T,T,T,T,T,F,F,F] rfl rfl (one_of HT_.out (by kernel_rfl)) (by decide) (fun K hK => ?_)
             refine goes_ Try.func48 (by kernel_rfl) rfl #[.agg #[.int .i64 ((rd_T39 l0 (ji18)).f0),.int .i64 ((rd_T39 l0 (ji18)).f1),.float .f64 ((rd_T39 l0 (ji18)).f2),.int .i64 ((rd_T39 l0 (ji18)).f3),.float .f64 ((rd_T39 l0 (ji18)).f4),.int .i64 ((rd_T39 l0 (ji18)).f5)],.agg #[.int .i64 ((rd_T39 l0 x7_1).f0),.int .i64 ((rd_T39 l0 x7_1).f1),.float .f64 ((rd_T39 l0 x7_1).f2),.int .i64 ((rd_T39 l0 x7_1).f3),.float .f64 ((rd_T39 l0 x7_1).f4),.int .i64 ((rd_T39 l0 x7_1).f5)]] (by rfl) rfl rfl (by (try simp only [List.map_toArray,List.map_cons,List.map_nil]);first|done|(simp only [hji18];rfl)|rfl|(simp only [List.length_drop,List.length_take];rfl)) ?_
             with_reducible refine (table_order.calls k1 ((rd_T39 l0 (ji18)).f0) ((rd_T39 l0 (ji18)).f1) ((rd_T39 l0 (ji18)).f2) ((rd_T39 l0 (ji18)).f3) ((rd_T39 l0 (ji18)).f4) ((rd_T39 l0 (ji18)).f5) ((rd_T39 l0 x7_1).f0) ((rd_T39 l0 x7_1).f1) ((rd_T39 l0 x7_1).f2) ((rd_T39 l0 x7_1).f3) ((rd_T39 l0 x7_1).f4) ((rd_T39 l0 x7_1).f5) t116 _ A21.out).mono ?_
             rintro e w27 ⟨rfl,hb⟩
             refine ⟨_,rfl,?_⟩
             replace K113:=zB K113 hb
             replace HB:=zS HB hb
             (try clear hb)
             (try clear hb2)
             (try clear hk)
             (try clear hi)
             refine hK.out _ _ ⟨zk K113 0,zk K113 1,zk K113 2,zk K113 3,zk K113 4,zk K113 5,(zh HB hw115_0),(zh HB hw115_1),(zh HB hw115_2),(zh HB hw115_3),(zh HB hw115_4),(zh HB hw115_5)⟩ (fun hHeld => ?_)
             clear hK K
             refine nz 36 ?_
             refine pz 25 37 #[T,T,T,T,T,T,T,T,T,T,T,T,T,T,T,T,T,T,T,T,T,T,T,T,T,T,F,F] HT_.1 ?_
             refine pz 26 38 #[T,T,T,T,T,T,T,T,T,T,T,T,T,T,T,T,T,T,T,T,T,T,T,T,T,T,T,F] HT_.1 ?_
             refine pz 27 39 #[T,T,T,T,T,T,T,T,T,T,T,T,T,T,T,T,T,T,T,T,T,T,T,T,T,T,T,T] HT_.1 ?_
             refine done_ (done_of HT_.out (by kernel_rfl)) ?_
             try go_wp2
             go_ret
             exact ⟨by first|rfl|(simp [errW_none,errW_some] <;> rfl)|(simp only [← hji18];first|rfl|(simp [errW_none,errW_some] <;> rfl))|(simp [*,errW_none,errW_some] <;> rfl),zH HB⟩
            ·rw [if_neg c22] at H
             have c22b0 : decide (0 ≤ t116) = false:=decide_eq_false c22
             clear c22
             have H':=Aside0.mk H
             clear H
             have p112 : 0 ≤ (x7_1 : Int):=zd
             have q112 : x7_1 < (l0.length : Int):=zd
             obtain ⟨ad112,e112,hx112_0,hx112_1,hx112_2,hx112_3,hx112_4,hx112_5⟩:=at_T39 HR0.out x7_1 p112 q112
             cases e112
             replace hx112_0:=zh HB hx112_0
             replace hx112_1:=zh HB hx112_1
             replace hx112_2:=zh HB hx112_2
             replace hx112_3:=zh HB hx112_3
             replace hx112_4:=zh HB hx112_4
             replace hx112_5:=zh HB hx112_5
             replace p112:=eq_true p112
             replace q112:=eq_true q112
             try go_wp2_with (first|((with_reducible refine gate_dst (N:=4) rfl ?_);refine zb (N:=4) (cs:=#[.int .i64 0,.int .i64 0,.float .f64 0,.int .i64 0,.float .f64 0,.int .i64 0]) (t:=39) ?_;intro G113 hg w28 hbox hb;have K113:=Aside0.mk (hbox);have GW113:=zN HB hg;have GE113:=zN HB hg;replace HB:=zS HB hb;clear hb hbox hg;obtain ⟨hcz29_0,hcz29_1,hcz29_2,hcz29_3,hcz29_4,hcz29_5,hfz29_0,hfz29_1,hfz29_2,hfz29_3,hfz29_4,hfz29_5⟩:=zc6 K113)|((with_reducible refine gate_store (t:=39) (p:=4) rfl ?_);refine store_event (t:=39) (p:=4) (v:=?vo_w30) (w1:=((((((w28.setCell ⟨G113,0,none⟩ (.int .i64 ((rd_T39 l0 x7_1).f0))).setCell ⟨G113,1,none⟩ (.int .i64 ((rd_T39 l0 x7_1).f1))).setCell ⟨G113,2,none⟩ (.float .f64 ((rd_T39 l0 x7_1).f2))).setCell ⟨G113,3,none⟩ (.int .i64 ((rd_T39 l0 x7_1).f3))).setCell ⟨G113,4,none⟩ (.float .f64 ((rd_T39 l0 x7_1).f4))).setCell ⟨G113,5,none⟩ (.int .i64 ((rd_T39 l0 x7_1).f5)))) ?hg ?ho ?hn ?hr ?_;(case ho => rfl);(case hg => rfl);(case hn => rfl);(case hr => first|(go_simp;done)|(go_simp;rfl));intro w30 hw;replace K113:=zVp hw (.cells #[.int .i64 ((rd_T39 l0 x7_1).f0),.int .i64 ((rd_T39 l0 x7_1).f1),.float .f64 ((rd_T39 l0 x7_1).f2),.int .i64 ((rd_T39 l0 x7_1).f3),.float .f64 ((rd_T39 l0 x7_1).f4),.int .i64 ((rd_T39 l0 x7_1).f5)] 39 (0,0)) K113;replace HB:=zU hw HB;clear hw))
             replace K113:=Aside0.mk (bD K113.1)
             replace HB:=Aside0.mk (bw1 HB.1)
             have p115 : 0 ≤ ((ji18) : Int):=zd
             have q115 : (ji18) < (l0.length : Int):=zd
             obtain ⟨ad115,e115,hx115_0,hx115_1,hx115_2,hx115_3,hx115_4,hx115_5⟩:=at_T39 HR0.out (ji18) p115 q115
             have hw115_5:=hx115_5
             have hw115_4:=hx115_4
             have hw115_3:=hx115_3
             have hw115_2:=hx115_2
             have hw115_1:=hx115_1
             have hw115_0:=hx115_0
             obtain rfl : ad112 = ad115:=(by injection e115)
             replace hx115_0:=zh HB hx115_0
             replace hx115_1:=zh HB hx115_1
             replace hx115_2:=zh HB hx115_2
             replace hx115_3:=zh HB hx115_3
             replace hx115_4:=zh HB hx115_4
             replace hx115_5:=zh HB hx115_5
             replace p115:=eq_true p115
             replace q115:=eq_true q115
             refine start_ (n:=28) (S:=fun w' => w'.cell? ⟨G113,0,none⟩ = some (.int .i64 ((rd_T39 l0 x7_1).f0)) ∧ w'.cell? ⟨G113,1,none⟩ = some (.int .i64 ((rd_T39 l0 x7_1).f1)) ∧ w'.cell? ⟨G113,2,none⟩ = some (.float .f64 ((rd_T39 l0 x7_1).f2)) ∧ w'.cell? ⟨G113,3,none⟩ = some (.int .i64 ((rd_T39 l0 x7_1).f3)) ∧ w'.cell? ⟨G113,4,none⟩ = some (.float .f64 ((rd_T39 l0 x7_1).f4)) ∧ w'.cell? ⟨G113,5,none⟩ = some (.int .i64 ((rd_T39 l0 x7_1).f5)) ∧ w'.cell? (ad112.add (((ji18)).toNat * 6)) = some (.int .i64 ((rd_T39 l0 (ji18)).f0)) ∧ w'.cell? ⟨(ad112.add (((ji18)).toNat * 6)).block,(ad112.add (((ji18)).toNat * 6)).off + 1,none⟩ = some (.int .i64 ((rd_T39 l0 (ji18)).f1)) ∧ w'.cell? ⟨(ad112.add (((ji18)).toNat * 6)).block,(ad112.add (((ji18)).toNat * 6)).off + 2,none⟩ = some (.float .f64 ((rd_T39 l0 (ji18)).f2)) ∧ w'.cell? ⟨(ad112.add (((ji18)).toNat * 6)).block,(ad112.add (((ji18)).toNat * 6)).off + 3,none⟩ = some (.int .i64 ((rd_T39 l0 (ji18)).f3)) ∧ w'.cell? ⟨(ad112.add (((ji18)).toNat * 6)).block,(ad112.add (((ji18)).toNat * 6)).off + 4,none⟩ = some (.float .f64 ((rd_T39 l0 (ji18)).f4)) ∧ w'.cell? ⟨(ad112.add (((ji18)).toNat * 6)).block,(ad112.add (((ji18)).toNat * 6)).off + 5,none⟩ = some (.int .i64 ((rd_T39 l0 (ji18)).f5))) (ds:=[]) #[F,F,F,F,F,F,F,F,F,F,F,F,F,F,F,F,F,F,F,F,F,F,F,F,F,F,F,F] (by kernel_rfl) rfl rfl ⟨zk K113 0,zk K113 1,zk K113 2,zk K113 3,zk K113 4,zk K113 5,(zh HB hw115_0),(zh HB hw115_1),(zh HB hw115_2),(zh HB hw115_3),(zh HB hw115_4),(zh HB hw115_5)⟩ (fun hHeld => ?_);refine with_tabW table_may.tab4 table_may.bits4 (fun HT_ HW_ => ?_)
             generalize w30.drew = w31 at K113 HB hx115_0 hx115_1 hx115_2 hx115_3 hx115_4 hx115_5 hHeld ⊢
             refine pz 0 12 #[T,F,F,F,F,F,F,F,F,F,F,F,F,F,F,F,F,F,F,F,F,F,F,F,F,F,F,F] HT_.1 ?_
             refine tz 1 13 #[T,T,F,F,F,F,F,F,F,F,F,F,F,F,F,F,F,F,F,F,F,F,F,F,F,F,F,F] HT_.1 HW_.1 hHeld ?_
             refine pz 2 14 #[T,T,T,F,F,F,F,F,F,F,F,F,F,F,F,F,F,F,F,F,F,F,F,F,F,F,F,F] HT_.1 ?_
             refine pz 3 15 #[T,T,T,T,F,F,F,F,F,F,F,F,F,F,F,F,F,F,F,F,F,F,F,F,F,F,F,F] HT_.1 ?_
             refine pz 4 16 #[T,T,T,T,T,F,F,F,F,F,F,F,F,F,F,F,F,F,F,F,F,F,F,F,F,F,F,F] HT_.1 ?_
             refine tz 5 17 #[T,T,T,T,T,T,F,F,F,F,F,F,F,F,F,F,F,F,F,F,F,F,F,F,F,F,F,F] HT_.1 HW_.1 hHeld ?_
             refine pz 6 18 #[T,T,T,T,T,T,T,F,F,F,F,F,F,F,F,F,F,F,F,F,F,F,F,F,F,F,F,F] HT_.1 ?_
             refine pz 7 19 #[T,T,T,T,T,T,T,T,F,F,F,F,F,F,F,F,F,F,F,F,F,F,F,F,F,F,F,F] HT_.1 ?_
             refine pz 8 20 #[T,T,T,T,T,T,T,T,T,F,F,F,F,F,F,F,F,F,F,F,F,F,F,F,F,F,F,F] HT_.1 ?_
             refine pz 9 21 #[T,T,T,T,T,T,T,T,T,T,F,F,F,F,F,F,F,F,F,F,F,F,F,F,F,F,F,F] HT_.1 ?_
             refine tz 10 22 #[T,T,T,T,T,T,T,T,T,T,T,F,F,F,F,F,F,F,F,F,F,F,F,F,F,F,F,F] HT_.1 HW_.1 hHeld ?_
             refine one_ (i:=11) (N:=some 23) #[T,T,T,T,T,T,T,T,T,T,T,T,F,F,F,F,F,F,F,F,F,F,F,F,F,F,F,F] rfl rfl (one_of HT_.out (by kernel_rfl)) (by decide) (fun K hK => ?_)
             refine zo_ Try.func55 #[.int .i64 ((rd_T39 l0 x7_1).f0)] ?_
             with_reducible refine (ident_CheckId.calls ((rd_T39 l0 x7_1).f0) t114 _ A15.out).mono ?_
             rintro e w' ⟨rfl,⟨nd,rfl⟩⟩
             refine ⟨_,rfl,?_⟩
             refine hK.out _ _ ⟨zk K113 0,zk K113 1,zk K113 2,zk K113 3,zk K113 4,zk K113 5,(zh HB hw115_0),(zh HB hw115_1),(zh HB hw115_2),(zh HB hw115_3),(zh HB hw115_4),(zh HB hw115_5)⟩ (fun hHeld => ?_)
             clear hK K
             refine nz 23 ?_
             refine pz 12 24 #[T,T,T,T,T,T,T,T,T,T,T,T,T,F,F,F,F,F,F,F,F,F,F,F,F,F,F,F] HT_.1 ?_
             refine pz 13 25 #[T,T,T,T,T,T,T,T,T,T,T,T,T,T,F,F,F,F,F,F,F,F,F,F,F,F,F,F] HT_.1 ?_
             refine pz 14 26 #[T,T,T,T,T,T,T,T,T,T,T,T,T,T,T,F,F,F,F,F,F,F,F,F,F,F,F,F] HT_.1 ?_
             refine pz 15 27 #[T,T,T,T,T,T,T,T,T,T,T,T,T,T,T,T,F,F,F,F,F,F,F,F,F,F,F,F] HT_.1 ?_
             refine pz 16 28 #[T,T,T,T,T,T,T,T,T,T,T,T,T,T,T,T,T,F,F,F,F,F,F,F,F,F,F,F] HT_.1 ?_
             refine pz 17 29 #[T,T,T,T,T,T,T,T,T,T,T,T,T,T,T,T,T,T,F,F,F,F,F,F,F,F,F,F] HT_.1 ?_
             refine pz 18 30 #[T,T,T,T,T,T,T,T,T,T,T,T,T,T,T,T,T,T,T,F,F,F,F,F,F,F,F,F] HT_.1 ?_
             refine pz 19 31 #[T,T,T,T,T,T,T,T,T,T,T,T,T,T,T,T,T,T,T,T,F,F,F,F,F,F,F,F] HT_.1 ?_
             refine pz 20 32 #[T,T,T,T,T,T,T,T,T,T,T,T,T,T,T,T,T,T,T,T,T,F,F,F,F,F,F,F] HT_.1 ?_
             refine pz 21 33 #[T,T,T,T,T,T,T,T,T,T,T,T,T,T,T,T,T,T,T,T,T,T,F,F,F,F,F,F] HT_.1 ?_
             refine tz 22 34 #[T,T,T,T,T,T,T,T,T,T,T,T,T,T,T,T,T,T,T,T,T,T,T,F,F,F,F,F] HT_.1 HW_.1 hHeld ?_
             refine tz 23 35 #[T,T,T,T,T,T,T,T,T,T,T,T,T,T,T,T,T,T,T,T,T,T,T,T,F,F,F,F] HT_.1 HW_.1 hHeld ?_
             refine one_ (i:=24) (N:=some 36) #[T,T,T,T,T,T,T,T,T,T,T,T,T,T,T,T,T,T,T,T,T,T,T,T,T,F,F,F] rfl rfl (one_of HT_.out (by kernel_rfl)) (by decide) (fun K hK => ?_)
             refine goes_ Try.func48 (by kernel_rfl) rfl #[.agg #[.int .i64 ((rd_T39 l0 (ji18)).f0),.int .i64 ((rd_T39 l0 (ji18)).f1),.float .f64 ((rd_T39 l0 (ji18)).f2),.int .i64 ((rd_T39 l0 (ji18)).f3),.float .f64 ((rd_T39 l0 (ji18)).f4),.int .i64 ((rd_T39 l0 (ji18)).f5)],.agg #[.int .i64 ((rd_T39 l0 x7_1).f0),.int .i64 ((rd_T39 l0 x7_1).f1),.float .f64 ((rd_T39 l0 x7_1).f2),.int .i64 ((rd_T39 l0 x7_1).f3),.float .f64 ((rd_T39 l0 x7_1).f4),.int .i64 ((rd_T39 l0 x7_1).f5)]] (by rfl) rfl rfl (by (try simp only [List.map_toArray,List.map_cons,List.map_nil]);first|done|(simp only [hji18];rfl)|rfl|(simp only [List.length_drop,List.length_take];rfl)) ?_
             with_reducible refine (table_order.calls k1 ((rd_T39 l0 (ji18)).f0) ((rd_T39 l0 (ji18)).f1) ((rd_T39 l0 (ji18)).f2) ((rd_T39 l0 (ji18)).f3) ((rd_T39 l0 (ji18)).f4) ((rd_T39 l0 (ji18)).f5) ((rd_T39 l0 x7_1).f0) ((rd_T39 l0 x7_1).f1) ((rd_T39 l0 x7_1).f2) ((rd_T39 l0 x7_1).f3) ((rd_T39 l0 x7_1).f4) ((rd_T39 l0 x7_1).f5) t116 _ A21.out).mono ?_
             rintro e w32 ⟨rfl,hb⟩
             refine ⟨_,rfl,?_⟩
             replace K113:=zB K113 hb
             replace HB:=zS HB hb
             (try clear hb)
             (try clear hb2)
             (try clear hk)
             (try clear hi)
             refine hK.out _ _ ⟨zk K113 0,zk K113 1,zk K113 2,zk K113 3,zk K113 4,zk K113 5,(zh HB hw115_0),(zh HB hw115_1),(zh HB hw115_2),(zh HB hw115_3),(zh HB hw115_4),(zh HB hw115_5)⟩ (fun hHeld => ?_)
             clear hK K
             refine nz 36 ?_
             refine pz 25 37 #[T,T,T,T,T,T,T,T,T,T,T,T,T,T,T,T,T,T,T,T,T,T,T,T,T,T,F,F] HT_.1 ?_
             refine pz 26 38 #[T,T,T,T,T,T,T,T,T,T,T,T,T,T,T,T,T,T,T,T,T,T,T,T,T,T,T,F] HT_.1 ?_
             refine pz 27 39 #[T,T,T,T,T,T,T,T,T,T,T,T,T,T,T,T,T,T,T,T,T,T,T,T,T,T,T,T] HT_.1 ?_
             refine done_ (done_of HT_.out (by kernel_rfl)) ?_
             try go_wp2
             go_roundg k1
             case measure => have:=HK1.out;omega
             case rel => exact ⟨(wrap64 (x7_1 + 1)),ze,H',⟨by have:=HK1.out;omega⟩,⟨zH HB⟩⟩
           ·rw [if_neg c20] at H
            exact absurd H (by simp)
          ·rw [if_neg c19] at H
           exact absurd H (by simp)
         ·rw [if_neg c17] at H
          have c17b0 : decide (0 < x7_1) = false:=decide_eq_false c17
          clear c17
          have H':=Aside0.mk H
          clear H
          have p112 : 0 ≤ (x7_1 : Int):=zd
          have q112 : x7_1 < (l0.length : Int):=zd
          obtain ⟨ad112,e112,hx112_0,hx112_1,hx112_2,hx112_3,hx112_4,hx112_5⟩:=at_T39 HR0.out x7_1 p112 q112
          cases e112
          replace hx112_0:=zh HB hx112_0
          replace hx112_1:=zh HB hx112_1
          replace hx112_2:=zh HB hx112_2
          replace hx112_3:=zh HB hx112_3
          replace hx112_4:=zh HB hx112_4
          replace hx112_5:=zh HB hx112_5
          replace p112:=eq_true p112
          replace q112:=eq_true q112
          try go_wp2_with (first|((with_reducible refine gate_dst (N:=4) rfl ?_);refine zb (N:=4) (cs:=#[.int .i64 0,.int .i64 0,.float .f64 0,.int .i64 0,.float .f64 0,.int .i64 0]) (t:=39) ?_;intro G113 hg w33 hbox hb;have K113:=Aside0.mk (hbox);have GW113:=zN HB hg;have GE113:=zN HB hg;replace HB:=zS HB hb;clear hb hbox hg;obtain ⟨hcz34_0,hcz34_1,hcz34_2,hcz34_3,hcz34_4,hcz34_5,hfz34_0,hfz34_1,hfz34_2,hfz34_3,hfz34_4,hfz34_5⟩:=zc6 K113)|((with_reducible refine gate_store (t:=39) (p:=4) rfl ?_);refine store_event (t:=39) (p:=4) (v:=?vo_w35) (w1:=((((((w33.setCell ⟨G113,0,none⟩ (.int .i64 ((rd_T39 l0 x7_1).f0))).setCell ⟨G113,1,none⟩ (.int .i64 ((rd_T39 l0 x7_1).f1))).setCell ⟨G113,2,none⟩ (.float .f64 ((rd_T39 l0 x7_1).f2))).setCell ⟨G113,3,none⟩ (.int .i64 ((rd_T39 l0 x7_1).f3))).setCell ⟨G113,4,none⟩ (.float .f64 ((rd_T39 l0 x7_1).f4))).setCell ⟨G113,5,none⟩ (.int .i64 ((rd_T39 l0 x7_1).f5)))) ?hg ?ho ?hn ?hr ?_;(case ho => rfl);(case hg => rfl);(case hn => rfl);(case hr => first|(go_simp;done)|(go_simp;rfl));intro w35 hw;replace K113:=zVp hw (.cells #[.int .i64 ((rd_T39 l0 x7_1).f0),.int .i64 ((rd_T39 l0 x7_1).f1),.float .f64 ((rd_T39 l0 x7_1).f2),.int .i64 ((rd_T39 l0 x7_1).f3),.float .f64 ((rd_T39 l0 x7_1).f4),.int .i64 ((rd_T39 l0 x7_1).f5)] 39 (0,0)) K113;replace HB:=zU hw HB;clear hw))
          replace K113:=Aside0.mk (bD K113.1)
          replace HB:=Aside0.mk (bw1 HB.1)
          refine start_ (n:=28) (S:=fun w' => w'.cell? ⟨G113,0,none⟩ = some (.int .i64 ((rd_T39 l0 x7_1).f0)) ∧ w'.cell? ⟨G113,1,none⟩ = some (.int .i64 ((rd_T39 l0 x7_1).f1)) ∧ w'.cell? ⟨G113,2,none⟩ = some (.float .f64 ((rd_T39 l0 x7_1).f2)) ∧ w'.cell? ⟨G113,3,none⟩ = some (.int .i64 ((rd_T39 l0 x7_1).f3)) ∧ w'.cell? ⟨G113,4,none⟩ = some (.float .f64 ((rd_T39 l0 x7_1).f4)) ∧ w'.cell? ⟨G113,5,none⟩ = some (.int .i64 ((rd_T39 l0 x7_1).f5))) (ds:=[]) #[F,F,F,F,F,F,F,F,F,F,F,F,F,F,F,F,F,F,F,F,F,F,F,F,F,F,F,F] (by kernel_rfl) rfl rfl ⟨zk K113 0,zk K113 1,zk K113 2,zk K113 3,zk K113 4,zk K113 5⟩ (fun hHeld => ?_);refine with_tabW table_may.tab4 table_may.bits4 (fun HT_ HW_ => ?_)
          generalize w35.drew = w36 at K113 HB hHeld ⊢
          refine pz 0 12 #[T,F,F,F,F,F,F,F,F,F,F,F,F,F,F,F,F,F,F,F,F,F,F,F,F,F,F,F] HT_.1 ?_
          refine tz 1 13 #[T,T,F,F,F,F,F,F,F,F,F,F,F,F,F,F,F,F,F,F,F,F,F,F,F,F,F,F] HT_.1 HW_.1 hHeld ?_
          refine pz 2 14 #[T,T,T,F,F,F,F,F,F,F,F,F,F,F,F,F,F,F,F,F,F,F,F,F,F,F,F,F] HT_.1 ?_
          refine pz 3 15 #[T,T,T,T,F,F,F,F,F,F,F,F,F,F,F,F,F,F,F,F,F,F,F,F,F,F,F,F] HT_.1 ?_
          refine pz 4 16 #[T,T,T,T,T,F,F,F,F,F,F,F,F,F,F,F,F,F,F,F,F,F,F,F,F,F,F,F] HT_.1 ?_
          refine tz 5 17 #[T,T,T,T,T,T,F,F,F,F,F,F,F,F,F,F,F,F,F,F,F,F,F,F,F,F,F,F] HT_.1 HW_.1 hHeld ?_
          refine pz 6 18 #[T,T,T,T,T,T,T,F,F,F,F,F,F,F,F,F,F,F,F,F,F,F,F,F,F,F,F,F] HT_.1 ?_
          refine pz 7 19 #[T,T,T,T,T,T,T,T,F,F,F,F,F,F,F,F,F,F,F,F,F,F,F,F,F,F,F,F] HT_.1 ?_
          refine pz 8 20 #[T,T,T,T,T,T,T,T,T,F,F,F,F,F,F,F,F,F,F,F,F,F,F,F,F,F,F,F] HT_.1 ?_
          refine pz 9 21 #[T,T,T,T,T,T,T,T,T,T,F,F,F,F,F,F,F,F,F,F,F,F,F,F,F,F,F,F] HT_.1 ?_
          refine tz 10 22 #[T,T,T,T,T,T,T,T,T,T,T,F,F,F,F,F,F,F,F,F,F,F,F,F,F,F,F,F] HT_.1 HW_.1 hHeld ?_
          refine one_ (i:=11) (N:=some 23) #[T,T,T,T,T,T,T,T,T,T,T,T,F,F,F,F,F,F,F,F,F,F,F,F,F,F,F,F] rfl rfl (one_of HT_.out (by kernel_rfl)) (by decide) (fun K hK => ?_)
          refine zo_ Try.func55 #[.int .i64 ((rd_T39 l0 x7_1).f0)] ?_
          with_reducible refine (ident_CheckId.calls ((rd_T39 l0 x7_1).f0) t114 _ A15.out).mono ?_
          rintro e w' ⟨rfl,⟨nd,rfl⟩⟩
          refine ⟨_,rfl,?_⟩
          refine hK.out _ _ ⟨zk K113 0,zk K113 1,zk K113 2,zk K113 3,zk K113 4,zk K113 5⟩ (fun hHeld => ?_)
          clear hK K
          refine nz 23 ?_
          refine pz 12 24 #[T,T,T,T,T,T,T,T,T,T,T,T,T,F,F,F,F,F,F,F,F,F,F,F,F,F,F,F] HT_.1 ?_
          refine pz 13 25 #[T,T,T,T,T,T,T,T,T,T,T,T,T,T,F,F,F,F,F,F,F,F,F,F,F,F,F,F] HT_.1 ?_
          refine pz 14 26 #[T,T,T,T,T,T,T,T,T,T,T,T,T,T,T,F,F,F,F,F,F,F,F,F,F,F,F,F] HT_.1 ?_
          refine pz 15 27 #[T,T,T,T,T,T,T,T,T,T,T,T,T,T,T,T,F,F,F,F,F,F,F,F,F,F,F,F] HT_.1 ?_
          refine pz 16 28 #[T,T,T,T,T,T,T,T,T,T,T,T,T,T,T,T,T,F,F,F,F,F,F,F,F,F,F,F] HT_.1 ?_
          refine pz 17 29 #[T,T,T,T,T,T,T,T,T,T,T,T,T,T,T,T,T,T,F,F,F,F,F,F,F,F,F,F] HT_.1 ?_
          refine pu 18 30 #[T,T,T,T,T,T,T,T,T,T,T,T,T,T,T,T,T,T,T,F,F,F,F,F,F,F,F,F] HT_.1 ?_
          refine pu 19 31 #[T,T,T,T,T,T,T,T,T,T,T,T,T,T,T,T,T,T,T,T,F,F,F,F,F,F,F,F] HT_.1 ?_
          refine pu 20 32 #[T,T,T,T,T,T,T,T,T,T,T,T,T,T,T,T,T,T,T,T,T,F,F,F,F,F,F,F] HT_.1 ?_
          refine pu 21 33 #[T,T,T,T,T,T,T,T,T,T,T,T,T,T,T,T,T,T,T,T,T,T,F,F,F,F,F,F] HT_.1 ?_
          refine pu 22 34 #[T,T,T,T,T,T,T,T,T,T,T,T,T,T,T,T,T,T,T,T,T,T,T,F,F,F,F,F] HT_.1 ?_
          refine pu 23 35 #[T,T,T,T,T,T,T,T,T,T,T,T,T,T,T,T,T,T,T,T,T,T,T,T,F,F,F,F] HT_.1 ?_
          refine pu 24 36 #[T,T,T,T,T,T,T,T,T,T,T,T,T,T,T,T,T,T,T,T,T,T,T,T,T,F,F,F] HT_.1 ?_
          refine pu 25 37 #[T,T,T,T,T,T,T,T,T,T,T,T,T,T,T,T,T,T,T,T,T,T,T,T,T,T,F,F] HT_.1 ?_
          refine pz 26 38 #[T,T,T,T,T,T,T,T,T,T,T,T,T,T,T,T,T,T,T,T,T,T,T,T,T,T,T,F] HT_.1 ?_
          refine pz 27 39 #[T,T,T,T,T,T,T,T,T,T,T,T,T,T,T,T,T,T,T,T,T,T,T,T,T,T,T,T] HT_.1 ?_
          refine done_ (done_of HT_.out (by kernel_rfl)) ?_
          try go_wp2
          go_roundg k1
          case measure => have:=HK1.out;omega
          case rel => exact ⟨(wrap64 (x7_1 + 1)),ze,H',⟨by have:=HK1.out;omega⟩,⟨zH HB⟩⟩
        ·rw [if_neg c16] at H
         have c16b0 : (t114 == 0) = false:=beq_eq_false_iff_ne.mpr c16
         have c16b1 : (t114 != 0) = true:=bne_iff_ne.mpr c16
         obtain rfl:=Option.some.inj H
         have p112 : 0 ≤ (x7_1 : Int):=zd
         have q112 : x7_1 < (l0.length : Int):=zd
         obtain ⟨ad112,e112,hx112_0,hx112_1,hx112_2,hx112_3,hx112_4,hx112_5⟩:=at_T39 HR0.out x7_1 p112 q112
         cases e112
         replace hx112_0:=zh HB hx112_0
         replace hx112_1:=zh HB hx112_1
         replace hx112_2:=zh HB hx112_2
         replace hx112_3:=zh HB hx112_3
         replace hx112_4:=zh HB hx112_4
         replace hx112_5:=zh HB hx112_5
         replace p112:=eq_true p112
         replace q112:=eq_true q112
         try go_wp2_with (first|((with_reducible refine gate_dst (N:=4) rfl ?_);refine zb (N:=4) (cs:=#[.int .i64 0,.int .i64 0,.float .f64 0,.int .i64 0,.float .f64 0,.int .i64 0]) (t:=39) ?_;intro G113 hg w37 hbox hb;have K113:=Aside0.mk (hbox);have GW113:=zN HB hg;have GE113:=zN HB hg;replace HB:=zS HB hb;clear hb hbox hg;obtain ⟨hcz38_0,hcz38_1,hcz38_2,hcz38_3,hcz38_4,hcz38_5,hfz38_0,hfz38_1,hfz38_2,hfz38_3,hfz38_4,hfz38_5⟩:=zc6 K113)|((with_reducible refine gate_store (t:=39) (p:=4) rfl ?_);refine store_event (t:=39) (p:=4) (v:=?vo_w39) (w1:=((((((w37.setCell ⟨G113,0,none⟩ (.int .i64 ((rd_T39 l0 x7_1).f0))).setCell ⟨G113,1,none⟩ (.int .i64 ((rd_T39 l0 x7_1).f1))).setCell ⟨G113,2,none⟩ (.float .f64 ((rd_T39 l0 x7_1).f2))).setCell ⟨G113,3,none⟩ (.int .i64 ((rd_T39 l0 x7_1).f3))).setCell ⟨G113,4,none⟩ (.float .f64 ((rd_T39 l0 x7_1).f4))).setCell ⟨G113,5,none⟩ (.int .i64 ((rd_T39 l0 x7_1).f5)))) ?hg ?ho ?hn ?hr ?_;(case ho => rfl);(case hg => rfl);(case hn => rfl);(case hr => first|(go_simp;done)|(go_simp;rfl));intro w39 hw;replace K113:=zVp hw (.cells #[.int .i64 ((rd_T39 l0 x7_1).f0),.int .i64 ((rd_T39 l0 x7_1).f1),.float .f64 ((rd_T39 l0 x7_1).f2),.int .i64 ((rd_T39 l0 x7_1).f3),.float .f64 ((rd_T39 l0 x7_1).f4),.int .i64 ((rd_T39 l0 x7_1).f5)] 39 (0,0)) K113;replace HB:=zU hw HB;clear hw))
         replace K113:=Aside0.mk (bD K113.1)
         replace HB:=Aside0.mk (bw1 HB.1)
         refine start_ (n:=28) (S:=fun w' => w'.cell? ⟨G113,0,none⟩ = some (.int .i64 ((rd_T39 l0 x7_1).f0)) ∧ w'.cell? ⟨G113,1,none⟩ = some (.int .i64 ((rd_T39 l0 x7_1).f1)) ∧ w'.cell? ⟨G113,2,none⟩ = some (.float .f64 ((rd_T39 l0 x7_1).f2)) ∧ w'.cell? ⟨G113,3,none⟩ = some (.int .i64 ((rd_T39 l0 x7_1).f3)) ∧ w'.cell? ⟨G113,4,none⟩ = some (.float .f64 ((rd_T39 l0 x7_1).f4)) ∧ w'.cell? ⟨G113,5,none⟩ = some (.int .i64 ((rd_T39 l0 x7_1).f5))) (ds:=[]) #[F,F,F,F,F,F,F,F,F,F,F,F,F,F,F,F,F,F,F,F,F,F,F,F,F,F,F,F] (by kernel_rfl) rfl rfl ⟨zk K113 0,zk K113 1,zk K113 2,zk K113 3,zk K113 4,zk K113 5⟩ (fun hHeld => ?_);refine with_tabW table_may.tab4 table_may.bits4 (fun HT_ HW_ => ?_)
         generalize w39.drew = w40 at K113 HB hHeld ⊢
         refine pz 0 12 #[T,F,F,F,F,F,F,F,F,F,F,F,F,F,F,F,F,F,F,F,F,F,F,F,F,F,F,F] HT_.1 ?_
         refine tz 1 13 #[T,T,F,F,F,F,F,F,F,F,F,F,F,F,F,F,F,F,F,F,F,F,F,F,F,F,F,F] HT_.1 HW_.1 hHeld ?_
         refine pz 2 14 #[T,T,T,F,F,F,F,F,F,F,F,F,F,F,F,F,F,F,F,F,F,F,F,F,F,F,F,F] HT_.1 ?_
         refine pz 3 15 #[T,T,T,T,F,F,F,F,F,F,F,F,F,F,F,F,F,F,F,F,F,F,F,F,F,F,F,F] HT_.1 ?_
         refine pz 4 16 #[T,T,T,T,T,F,F,F,F,F,F,F,F,F,F,F,F,F,F,F,F,F,F,F,F,F,F,F] HT_.1 ?_
         refine tz 5 17 #[T,T,T,T,T,T,F,F,F,F,F,F,F,F,F,F,F,F,F,F,F,F,F,F,F,F,F,F] HT_.1 HW_.1 hHeld ?_
         refine pz 6 18 #[T,T,T,T,T,T,T,F,F,F,F,F,F,F,F,F,F,F,F,F,F,F,F,F,F,F,F,F] HT_.1 ?_
         refine pz 7 19 #[T,T,T,T,T,T,T,T,F,F,F,F,F,F,F,F,F,F,F,F,F,F,F,F,F,F,F,F] HT_.1 ?_
         refine pz 8 20 #[T,T,T,T,T,T,T,T,T,F,F,F,F,F,F,F,F,F,F,F,F,F,F,F,F,F,F,F] HT_.1 ?_
         refine pz 9 21 #[T,T,T,T,T,T,T,T,T,T,F,F,F,F,F,F,F,F,F,F,F,F,F,F,F,F,F,F] HT_.1 ?_
         refine tz 10 22 #[T,T,T,T,T,T,T,T,T,T,T,F,F,F,F,F,F,F,F,F,F,F,F,F,F,F,F,F] HT_.1 HW_.1 hHeld ?_
         refine one_ (i:=11) (N:=some 23) #[T,T,T,T,T,T,T,T,T,T,T,T,F,F,F,F,F,F,F,F,F,F,F,F,F,F,F,F] rfl rfl (one_of HT_.out (by kernel_rfl)) (by decide) (fun K hK => ?_)
         refine zo_ Try.func55 #[.int .i64 ((rd_T39 l0 x7_1).f0)] ?_
         with_reducible refine (ident_CheckId.calls ((rd_T39 l0 x7_1).f0) t114 _ A15.out).mono ?_
         rintro e w' ⟨rfl,⟨nd,rfl⟩⟩
         refine ⟨_,rfl,?_⟩
         refine hK.out _ _ ⟨zk K113 0,zk K113 1,zk K113 2,zk K113 3,zk K113 4,zk K113 5⟩ (fun hHeld => ?_)
         clear hK K
         refine nz 23 ?_
         refine pz 12 24 #[T,T,T,T,T,T,T,T,T,T,T,T,T,F,F,F,F,F,F,F,F,F,F,F,F,F,F,F] HT_.1 ?_
         refine pz 13 25 #[T,T,T,T,T,T,T,T,T,T,T,T,T,T,F,F,F,F,F,F,F,F,F,F,F,F,F,F] HT_.1 ?_
         refine pz 14 26 #[T,T,T,T,T,T,T,T,T,T,T,T,T,T,T,F,F,F,F,F,F,F,F,F,F,F,F,F] HT_.1 ?_
         refine pu 15 27 #[T,T,T,T,T,T,T,T,T,T,T,T,T,T,T,T,F,F,F,F,F,F,F,F,F,F,F,F] HT_.1 ?_
         refine pu 16 28 #[T,T,T,T,T,T,T,T,T,T,T,T,T,T,T,T,T,F,F,F,F,F,F,F,F,F,F,F] HT_.1 ?_
         refine pu 17 29 #[T,T,T,T,T,T,T,T,T,T,T,T,T,T,T,T,T,T,F,F,F,F,F,F,F,F,F,F] HT_.1 ?_
         refine pu 18 30 #[T,T,T,T,T,T,T,T,T,T,T,T,T,T,T,T,T,T,T,F,F,F,F,F,F,F,F,F] HT_.1 ?_
         refine pu 19 31 #[T,T,T,T,T,T,T,T,T,T,T,T,T,T,T,T,T,T,T,T,F,F,F,F,F,F,F,F] HT_.1 ?_
         refine pu 20 32 #[T,T,T,T,T,T,T,T,T,T,T,T,T,T,T,T,T,T,T,T,T,F,F,F,F,F,F,F] HT_.1 ?_
         refine pu 21 33 #[T,T,T,T,T,T,T,T,T,T,T,T,T,T,T,T,T,T,T,T,T,T,F,F,F,F,F,F] HT_.1 ?_
         refine pu 22 34 #[T,T,T,T,T,T,T,T,T,T,T,T,T,T,T,T,T,T,T,T,T,T,T,F,F,F,F,F] HT_.1 ?_
         refine pu 23 35 #[T,T,T,T,T,T,T,T,T,T,T,T,T,T,T,T,T,T,T,T,T,T,T,T,F,F,F,F] HT_.1 ?_
         refine pu 24 36 #[T,T,T,T,T,T,T,T,T,T,T,T,T,T,T,T,T,T,T,T,T,T,T,T,T,F,F,F] HT_.1 ?_
         refine pu 25 37 #[T,T,T,T,T,T,T,T,T,T,T,T,T,T,T,T,T,T,T,T,T,T,T,T,T,T,F,F] HT_.1 ?_
         refine pu 26 38 #[T,T,T,T,T,T,T,T,T,T,T,T,T,T,T,T,T,T,T,T,T,T,T,T,T,T,T,F] HT_.1 ?_
         refine pz 27 39 #[T,T,T,T,T,T,T,T,T,T,T,T,T,T,T,T,T,T,T,T,T,T,T,T,T,T,T,T] HT_.1 ?_
         refine done_ (done_of HT_.out (by kernel_rfl)) ?_
         try go_wp2
         go_ret
         exact ⟨zE,zH HB⟩
     ·rw [if_neg c4] at H
      exact absurd H (by simp)
    ·rw [if_neg c3] at H
     exact absurd H (by simp)
   ·rw [if_neg c2] at H
    have c2b0 : decide (x7_1 < (l0.length : Int)) = false:=decide_eq_false c2
    clear c2
    obtain rfl:=Option.some.inj H
    go_wp2
    go_ret
    exact ⟨zE,zH HB⟩

end Go.Proofs.Ytgmjlhpigfaicaa.XF
