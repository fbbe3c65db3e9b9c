/- Go functions of this seat as Lean functions, with proofs that the calls come to them. (Written by xprint.py, a program of this session, over the kit's print.) -/
import Derived.Test.YtgmjlhpigfaicaaXAx0
import Derived.Test.YtgmjlhpigfaicaaXAx18
namespace Go.Proofs.Ytgmjlhpigfaicaa.XA
open Go.RowKit Go.Proofs.YtgmjlhpigfaicaaW.PrintWords Go.Proofs.YtgmjlhpigfaicaaW.PrintLast Go.Proofs.YtgmjlhpigfaicaaW.PrintMore
attribute [local go_sem] max2_int min2_int max_two min_two max_three min_three max_four min_four   -- for this text's walks alone
set_option linter.unusedVariables false
set_option linter.unusedSimpArgs false
open List renaming setIfInBounds_toArray → xA, set_cons_zero → xB, set_cons_succ → xC
open Go.Proofs.YtgmjlhpigfaicaaW.PrintWords renaming blk_drewN → bN, blk_drew → bD, blk_alloc → bA, below_set → bS, blk_frozen → bF, blk_cell → bC, cell_far → cF, blk_far → bZ, blk_below → bB, pw_below_drewN → bwN, below_drew1 → bw1, below_alloc → bwA
open Go.Proofs.YtgmjlhpigfaicaaW.PrintZ
open Bool renaming true → T,false → F

/-! ### table_Count: function 25 -/
def table_Count.l0 : Nat → Int → Int → List (S39) → Int → Int → Option (Int)
 | 0, _, _, _, _, _ => none
 | k + 1, x1, x5, x9, x10, x11 => if x11 < x10 then (if 0 ≤ x11 then (if x11 < (x9.length : Int) then (if ((rd_T39 x9 x11).f1) = x1 then (table_Count.l0 k x1 (wrap64 (x5 + 1)) x9 x10 (wrap64 (x11 + 1))) else (table_Count.l0 k x1 x5 x9 x10 (wrap64 (x11 + 1)))) else (none)) else (none)) else (some x5)
def table_Count.f (k : Nat) (l0_0 : List (S39)) (a0_1 : Bool) (a1 : Int) : Option (Int) := table_Count.l0 k a1 0 l0_0 (l0_0.length : Int) 0
theorem table_Count.mono_l : ∀ k, (∀ y0 y1 y2 y3 y4, LeO (table_Count.l0 k y0 y1 y2 y3 y4) (table_Count.l0 (k + 1) y0 y1 y2 y3 y4))
 | 0 => fun _ _ _ _ _ r h => by simp [table_Count.l0] at h
 | k + 1 => by
  have ih0:=table_Count.mono_l k
  ·intro y0 y1 y2 y3 y4
   unfold table_Count.l0
   repeat' first
   | (with_reducible exact ih0 _ _ _ _ _)
   | (with_reducible exact LeO.refl _)
   | (with_reducible exact LeO.none _)
   | (with_reducible refine LeO.ite ?_ ?_)
   | (with_reducible refine LeO.bind ?_ (fun _ => ?_))
   | exact ih0 _ _ _ _ _
   | exact LeO.none _
   | refine LeO.ite ?_ ?_
   | refine LeO.bind ?_ (fun _ => ?_)
theorem table_Count.mono : ∀ a0 a1 a2 k, LeO (table_Count.f k a0 a1 a2) (table_Count.f (k + 1) a0 a1 a2) := by
 intro a0 a1 a2 k
 have ih0:=table_Count.mono_l k
 unfold table_Count.f
 repeat' first
   | (with_reducible exact ih0 _ _ _ _ _)
   | (with_reducible exact LeO.refl _)
   | (with_reducible exact LeO.none _)
   | (with_reducible refine LeO.ite ?_ ?_)
   | (with_reducible refine LeO.bind ?_ (fun _ => ?_))
   | exact ih0 _ _ _ _ _
   | exact LeO.none _
   | refine LeO.ite ?_ ?_
   | refine LeO.bind ?_ (fun _ => ?_)
set_option maxHeartbeats 8000000 in
set_option maxRecDepth 100000 in
theorem table_Count.calls (k : Nat) (A0_0 : Option Addr) (c0_0 : Nat) (l0_0 : List (S39)) (a0_1 : Bool) (a1 : Int) (r : Int) (w : World) (hr0_0 : Kd.C k39 w A0_0 l0_0.length l0_0) (hc0_0 : l0_0.length ≤ c0_0) (h : table_Count.f k l0_0 a0_1 a1 = some r) :
  Calls Try.prog 25 #[.agg #[.slice A0_0 l0_0.length c0_0,.bool a0_1],.int .i64 a1] w fun e w' => e = .returned (.int .i64 r) ∧ Below w.heap.size w w':=by
 have hu24:=Try.underlying24
 have hu39:=Try.underlying39
 have HR0_0:=Aside0.mk hr0_0
 have HC0_0:=Aside0.mk hc0_0
 clear hr0_0 hc0_0
 have HB:=Aside0.mk (Below.refl w.heap.size w)
 have H : (table_Count.l0 k a1 0 l0_0 (l0_0.length : Int) 0) = some r:=h
 clear h
 have H':=Aside0.mk H
 clear H
 go_enter Try.func25,Try.ntmps25
 go_wp2_with (first|((with_reducible refine gate_dst (N:=2) rfl ?_);refine zb (N:=2) (cs:=#[.slice A0_0 l0_0.length c0_0,.bool a0_1]) (t:=24) ?_;intro G319 hg w3 hbox hb;have K319:=Aside0.mk (hbox);have GW319:=zN HB hg;have GE319:=zN HB hg;replace HB:=zS HB hb;clear hb hbox hg;have hcz4_0 : w3.cell? ⟨G319,0,none⟩ = some (.slice A0_0 l0_0.length c0_0):=zk K319 0;have hcz4_1 : w3.cell? ⟨G319,1,none⟩ = some (.bool a0_1):=zk K319 1;have hfz4_0:=bF K319.1 0;have hfz4_1:=bF K319.1 1))
 go_loopg [5,11] k (fun kq v5 v11 w' => ∃ (x5_1 : Int) (x11_1 : Int),v5 = .int .i64 x5_1 ∧ v11 = .int .i64 x11_1 ∧ Aside0 (table_Count.l0 kq a1 x5_1 l0_0 (l0_0.length : Int) x11_1 = some r) ∧ Aside0 (kq ≤ k) ∧ Aside0 (w'.heap[G319]? = some (.cells #[(.slice A0_0 l0_0.length c0_0),.bool a0_1] 24 (0,0))) ∧ Aside0 (Below w.heap.size w w'))
 case atStart => exact ⟨(0),(0),ze,ze,H',⟨Nat.le_refl _⟩,⟨z1 K319.1⟩,⟨zH HB⟩⟩
 case round =>
  clear H'
  try clear c2;try clear p2;try clear hcz4_0;try clear hcz4_1;try clear hfz4_0;try clear hfz4_1
  obtain ⟨x5_1,x11_1,rfl,rfl,HA,HK1,K319,HB⟩:=hrel
  cases gk with
  | zero => exact absurd HA.out (by simp [table_Count.l0])
  | succ k1 =>
   have H:=HA.out
   clear HA
   simp only [table_Count.l0] at H
   by_cases c5 : x11_1 < (l0_0.length : Int)
   ·rw [if_pos c5] at H
    have c5b0 : decide (x11_1 < (l0_0.length : Int)) = true:=decide_eq_true c5
    clear c5
    by_cases c6 : 0 ≤ x11_1
    ·rw [if_pos c6] at H
     have c6b0 : decide (0 ≤ x11_1) = true:=decide_eq_true c6
     clear c6
     by_cases c7 : x11_1 < (l0_0.length : Int)
     ·rw [if_pos c7] at H
      have c7b0 : decide (x11_1 < (l0_0.length : Int)) = true:=decide_eq_true c7
      clear c7
      by_cases c8 : ((rd_T39 l0_0 x11_1).f1) = a1
      ·rw [if_pos c8] at H
       have c8b0 : (((rd_T39 l0_0 x11_1).f1) == a1) = true:=beq_iff_eq.mpr c8
       have c8b1 : (((rd_T39 l0_0 x11_1).f1) != a1) = false:=bne_eq_false_iff_eq.mpr c8
       clear c8
       have H':=Aside0.mk H
       clear H
       have p320 : 0 ≤ (x11_1 : Int):=zd
       have q320 : x11_1 < (l0_0.length : Int):=zd
       obtain ⟨ad320,e320,hx320_0,hx320_1,hx320_2,hx320_3,hx320_4,hx320_5⟩:=at_T39 HR0_0.out x11_1 p320 q320
       cases e320
       replace hx320_0:=zh HB hx320_0
       replace hx320_1:=zh HB hx320_1
       replace hx320_2:=zh HB hx320_2
       replace hx320_3:=zh HB hx320_3
       replace hx320_4:=zh HB hx320_4
       replace hx320_5:=zh HB hx320_5
       replace p320:=eq_true p320
       replace q320:=eq_true q320
       go_wp2_with (first|((with_reducible refine gate_dst (N:=7) rfl ?_);refine zb (N:=7) (cs:=#[.int .i64 0,.int .i64 0,.float .f64 0,.int .i64 0,.float .f64 0,.int .i64 0]) (t:=39) ?_;intro G321 hg w9 hbox hb;have K321:=Aside0.mk (hbox);have GW321:=zN HB hg;have GE321:=zN HB hg;replace HB:=zS HB hb;have NB319_321:=zL K319 hg;have NB321_319:=zG K319 hg;replace K319:=zB K319 hb;clear hb hbox hg;have hnb10:=NB321_319.1;have hnc10:=NB319_321.1;have hcz11_0 : w9.cell? ⟨G321,0,none⟩ = some (.int .i64 0):=zk K321 0;have hcz11_1 : w9.cell? ⟨G321,1,none⟩ = some (.int .i64 0):=zk K321 1;have hcz11_2 : w9.cell? ⟨G321,2,none⟩ = some (.float .f64 0):=zk K321 2;have hcz11_3 : w9.cell? ⟨G321,3,none⟩ = some (.int .i64 0):=zk K321 3;have hcz11_4 : w9.cell? ⟨G321,4,none⟩ = some (.float .f64 0):=zk K321 4;have hcz11_5 : w9.cell? ⟨G321,5,none⟩ = some (.int .i64 0):=zk K321 5;have hfz11_0:=bF K321.1 0;have hfz11_1:=bF K321.1 1;have hfz11_2:=bF K321.1 2;have hfz11_3:=bF K321.1 3;have hfz11_4:=bF K321.1 4;have hfz11_5:=bF K321.1 5)|((with_reducible refine gate_store (t:=39) (p:=7) rfl ?_);refine store_event (t:=39) (p:=7) (v:=?vo_w12) (w1:=((((((w9.setCell ⟨G321,0,none⟩ (.int .i64 ((rd_T39 l0_0 x11_1).f0))).setCell ⟨G321,1,none⟩ (.int .i64 ((rd_T39 l0_0 x11_1).f1))).setCell ⟨G321,2,none⟩ (.float .f64 ((rd_T39 l0_0 x11_1).f2))).setCell ⟨G321,3,none⟩ (.int .i64 ((rd_T39 l0_0 x11_1).f3))).setCell ⟨G321,4,none⟩ (.float .f64 ((rd_T39 l0_0 x11_1).f4))).setCell ⟨G321,5,none⟩ (.int .i64 ((rd_T39 l0_0 x11_1).f5)))) ?hg ?ho ?hn ?hr ?_;(case ho => rfl);(case hg => rfl);(case hn => rfl);(case hr => first|(go_simp;done)|(go_simp;rfl));intro w12 hw;replace K319 : Aside0 (w12.heap[G319]? = some (.cells #[.slice (some ad320) l0_0.length c0_0,.bool a0_1] 24 (0,0))):=⟨(by rw [hw];exact (zf K319))⟩;replace K321 : Aside0 (w12.heap[G321]? = some (.cells #[.int .i64 ((rd_T39 l0_0 x11_1).f0),.int .i64 ((rd_T39 l0_0 x11_1).f1),.float .f64 ((rd_T39 l0_0 x11_1).f2),.int .i64 ((rd_T39 l0_0 x11_1).f3),.float .f64 ((rd_T39 l0_0 x11_1).f4),.int .i64 ((rd_T39 l0_0 x11_1).f5)] 39 (0,0))):=⟨(by rw [hw];exact (zF K321))⟩;replace HB : Aside0 (Below w.heap.size w w12):=⟨(by rw [hw];exact (zH HB))⟩;clear hw;have hcz13_0 : w12.cell? ⟨G321,0,none⟩ = some (.int .i64 ((rd_T39 l0_0 x11_1).f0)):=zk K321 0;have hcz13_1 : w12.cell? ⟨G321,1,none⟩ = some (.int .i64 ((rd_T39 l0_0 x11_1).f1)):=zk K321 1;have hcz13_2 : w12.cell? ⟨G321,2,none⟩ = some (.float .f64 ((rd_T39 l0_0 x11_1).f2)):=zk K321 2;have hcz13_3 : w12.cell? ⟨G321,3,none⟩ = some (.int .i64 ((rd_T39 l0_0 x11_1).f3)):=zk K321 3;have hcz13_4 : w12.cell? ⟨G321,4,none⟩ = some (.float .f64 ((rd_T39 l0_0 x11_1).f4)):=zk K321 4;have hcz13_5 : w12.cell? ⟨G321,5,none⟩ = some (.int .i64 ((rd_T39 l0_0 x11_1).f5)):=zk K321 5;have hfz13_0:=bF K321.1 0;have hfz13_1:=bF K321.1 1;have hfz13_2:=bF K321.1 2;have hfz13_3:=bF K321.1 3;have hfz13_4:=bF K321.1 4;have hfz13_5:=bF K321.1 5))
       go_roundg k1
       case measure => have:=HK1.out;omega
       case rel => exact ⟨(wrap64 (x5_1 + 1)),(wrap64 (x11_1 + 1)),ze,ze,H',⟨by have:=HK1.out;omega⟩,⟨z1 K319.1⟩,⟨zH HB⟩⟩
      ·rw [if_neg c8] at H
       have c8b0 : (((rd_T39 l0_0 x11_1).f1) == a1) = false:=beq_eq_false_iff_ne.mpr c8
       have c8b1 : (((rd_T39 l0_0 x11_1).f1) != a1) = true:=bne_iff_ne.mpr c8
       have H':=Aside0.mk H
       clear H
       have p320 : 0 ≤ (x11_1 : Int):=zd
       have q320 : x11_1 < (l0_0.length : Int):=zd
       obtain ⟨ad320,e320,hx320_0,hx320_1,hx320_2,hx320_3,hx320_4,hx320_5⟩:=at_T39 HR0_0.out x11_1 p320 q320
       cases e320
       replace hx320_0:=zh HB hx320_0
       replace hx320_1:=zh HB hx320_1
       replace hx320_2:=zh HB hx320_2
       replace hx320_3:=zh HB hx320_3
       replace hx320_4:=zh HB hx320_4
       replace hx320_5:=zh HB hx320_5
       replace p320:=eq_true p320
       replace q320:=eq_true q320
       go_wp2_with (first|((with_reducible refine gate_dst (N:=7) rfl ?_);refine zb (N:=7) (cs:=#[.int .i64 0,.int .i64 0,.float .f64 0,.int .i64 0,.float .f64 0,.int .i64 0]) (t:=39) ?_;intro G321 hg w14 hbox hb;have K321:=Aside0.mk (hbox);have GW321:=zN HB hg;have GE321:=zN HB hg;replace HB:=zS HB hb;have NB319_321:=zL K319 hg;have NB321_319:=zG K319 hg;replace K319:=zB K319 hb;clear hb hbox hg;have hnb15:=NB321_319.1;have hnc15:=NB319_321.1;have hcz16_0 : w14.cell? ⟨G321,0,none⟩ = some (.int .i64 0):=zk K321 0;have hcz16_1 : w14.cell? ⟨G321,1,none⟩ = some (.int .i64 0):=zk K321 1;have hcz16_2 : w14.cell? ⟨G321,2,none⟩ = some (.float .f64 0):=zk K321 2;have hcz16_3 : w14.cell? ⟨G321,3,none⟩ = some (.int .i64 0):=zk K321 3;have hcz16_4 : w14.cell? ⟨G321,4,none⟩ = some (.float .f64 0):=zk K321 4;have hcz16_5 : w14.cell? ⟨G321,5,none⟩ = some (.int .i64 0):=zk K321 5;have hfz16_0:=bF K321.1 0;have hfz16_1:=bF K321.1 1;have hfz16_2:=bF K321.1 2;have hfz16_3:=bF K321.1 3;have hfz16_4:=bF K321.1 4;have hfz16_5:=bF K321.1 5)|((with_reducible refine gate_store (t:=39) (p:=7) rfl ?_);refine store_event (t:=39) (p:=7) (v:=?vo_w17) (w1:=((((((w14.setCell ⟨G321,0,none⟩ (.int .i64 ((rd_T39 l0_0 x11_1).f0))).setCell ⟨G321,1,none⟩ (.int .i64 ((rd_T39 l0_0 x11_1).f1))).setCell ⟨G321,2,none⟩ (.float .f64 ((rd_T39 l0_0 x11_1).f2))).setCell ⟨G321,3,none⟩ (.int .i64 ((rd_T39 l0_0 x11_1).f3))).setCell ⟨G321,4,none⟩ (.float .f64 ((rd_T39 l0_0 x11_1).f4))).setCell ⟨G321,5,none⟩ (.int .i64 ((rd_T39 l0_0 x11_1).f5)))) ?hg ?ho ?hn ?hr ?_;(case ho => rfl);(case hg => rfl);(case hn => rfl);(case hr => first|(go_simp;done)|(go_simp;rfl));intro w17 hw;replace K319 : Aside0 (w17.heap[G319]? = some (.cells #[.slice (some ad320) l0_0.length c0_0,.bool a0_1] 24 (0,0))):=⟨(by rw [hw];exact (zf K319))⟩;replace K321 : Aside0 (w17.heap[G321]? = some (.cells #[.int .i64 ((rd_T39 l0_0 x11_1).f0),.int .i64 ((rd_T39 l0_0 x11_1).f1),.float .f64 ((rd_T39 l0_0 x11_1).f2),.int .i64 ((rd_T39 l0_0 x11_1).f3),.float .f64 ((rd_T39 l0_0 x11_1).f4),.int .i64 ((rd_T39 l0_0 x11_1).f5)] 39 (0,0))):=⟨(by rw [hw];exact (zF K321))⟩;replace HB : Aside0 (Below w.heap.size w w17):=⟨(by rw [hw];exact (zH HB))⟩;clear hw;have hcz18_0 : w17.cell? ⟨G321,0,none⟩ = some (.int .i64 ((rd_T39 l0_0 x11_1).f0)):=zk K321 0;have hcz18_1 : w17.cell? ⟨G321,1,none⟩ = some (.int .i64 ((rd_T39 l0_0 x11_1).f1)):=zk K321 1;have hcz18_2 : w17.cell? ⟨G321,2,none⟩ = some (.float .f64 ((rd_T39 l0_0 x11_1).f2)):=zk K321 2;have hcz18_3 : w17.cell? ⟨G321,3,none⟩ = some (.int .i64 ((rd_T39 l0_0 x11_1).f3)):=zk K321 3;have hcz18_4 : w17.cell? ⟨G321,4,none⟩ = some (.float .f64 ((rd_T39 l0_0 x11_1).f4)):=zk K321 4;have hcz18_5 : w17.cell? ⟨G321,5,none⟩ = some (.int .i64 ((rd_T39 l0_0 x11_1).f5)):=zk K321 5;have hfz18_0:=bF K321.1 0;have hfz18_1:=bF K321.1 1;have hfz18_2:=bF K321.1 2;have hfz18_3:=bF K321.1 3;have hfz18_4:=bF K321.1 4;have hfz18_5:=bF K321.1 5))
       go_roundg k1
       case measure => have:=HK1.out;omega
       case rel => exact ⟨(x5_1),(wrap64 (x11_1 + 1)),ze,ze,H',⟨by have:=HK1.out;omega⟩,⟨z1 K319.1⟩,⟨zH HB⟩⟩
     ·rw [if_neg c7] at H
      exact absurd H (by simp)
    ·rw [if_neg c6] at H
     exact absurd H (by simp)
   ·rw [if_neg c5] at H
    have c5b0 : decide (x11_1 < (l0_0.length : Int)) = false:=decide_eq_false c5
    clear c5
    obtain rfl:=Option.some.inj H
    go_wp2
    go_ret
    exact ⟨by first|rfl|(simp [errW_none,errW_some] <;> rfl)|(simp [*,errW_none,errW_some] <;> rfl),zH HB⟩

/-! ### beaconref17_Count: function 26 -/
def beaconref17_Count.l0 : Nat → Int → Int → Int → List (S39) → Bool → Option (Int)
 | 0, _, _, _, _, _ => none
 | k + 1, x1, x5, x6, x323000, x323001 => if x6 < (x323000.length : Int) then (if 0 ≤ x6 then (if ((rd_T39 x323000 x6).f1) = x1 then (beaconref17_Count.l0 k x1 (wrap64 (x5 + 1)) (wrap64 (x6 + 1)) x323000 x323001) else (beaconref17_Count.l0 k x1 x5 (wrap64 (x6 + 1)) x323000 x323001)) else (none)) else (some x5)
def beaconref17_Count.f (k : Nat) (l0_0 : List (S39)) (a0_1 : Bool) (a1 : Int) : Option (Int) := beaconref17_Count.l0 k a1 0 0 l0_0 a0_1
theorem beaconref17_Count.mono_l : ∀ k, (∀ y0 y1 y2 y3 y4, LeO (beaconref17_Count.l0 k y0 y1 y2 y3 y4) (beaconref17_Count.l0 (k + 1) y0 y1 y2 y3 y4))
 | 0 => fun _ _ _ _ _ r h => by simp [beaconref17_Count.l0] at h
 | k + 1 => by
  have ih0:=beaconref17_Count.mono_l k
  ·intro y0 y1 y2 y3 y4
   unfold beaconref17_Count.l0
   repeat' first
   | (with_reducible exact ih0 _ _ _ _ _)
   | (with_reducible exact LeO.refl _)
   | (with_reducible exact LeO.none _)
   | (with_reducible refine LeO.ite ?_ ?_)
   | (with_reducible refine LeO.bind ?_ (fun _ => ?_))
   | exact ih0 _ _ _ _ _
   | exact LeO.none _
   | refine LeO.ite ?_ ?_
   | refine LeO.bind ?_ (fun _ => ?_)
theorem beaconref17_Count.mono : ∀ a0 a1 a2 k, LeO (beaconref17_Count.f k a0 a1 a2) (beaconref17_Count.f (k + 1) a0 a1 a2) := by
 intro a0 a1 a2 k
 have ih0:=beaconref17_Count.mono_l k
 unfold beaconref17_Count.f
 repeat' first
   | (with_reducible exact ih0 _ _ _ _ _)
   | (with_reducible exact LeO.refl _)
   | (with_reducible exact LeO.none _)
   | (with_reducible refine LeO.ite ?_ ?_)
   | (with_reducible refine LeO.bind ?_ (fun _ => ?_))
   | exact ih0 _ _ _ _ _
   | exact LeO.none _
   | refine LeO.ite ?_ ?_
   | refine LeO.bind ?_ (fun _ => ?_)
set_option maxHeartbeats 8000000 in
set_option maxRecDepth 100000 in
theorem beaconref17_Count.calls (k : Nat) (A0_0 : Option Addr) (c0_0 : Nat) (l0_0 : List (S39)) (a0_1 : Bool) (a1 : Int) (r : Int) (w : World) (hr0_0 : Kd.C k39 w A0_0 l0_0.length l0_0) (hc0_0 : l0_0.length ≤ c0_0) (h : beaconref17_Count.f k l0_0 a0_1 a1 = some r) :
  Calls Try.prog 26 #[.agg #[.slice A0_0 l0_0.length c0_0,.bool a0_1],.int .i64 a1] w fun e w' => e = .returned (.int .i64 r) ∧ Below w.heap.size w w':=by
 have hu24:=Try.underlying24
 have HR0_0:=Aside0.mk hr0_0
 have HC0_0:=Aside0.mk hc0_0
 clear hr0_0 hc0_0
 have HB:=Aside0.mk (Below.refl w.heap.size w)
 have H : (beaconref17_Count.l0 k a1 0 0 l0_0 a0_1) = some r:=h
 clear h
 have H':=Aside0.mk H
 clear H
 go_enter Try.func26,Try.ntmps26
 go_wp2_with (first|((with_reducible refine gate_dst (N:=2) rfl ?_);refine zb (N:=2) (cs:=#[.slice A0_0 l0_0.length c0_0,.bool a0_1]) (t:=24) ?_;intro G322 hg w3 hbox hb;have K322:=Aside0.mk (hbox);have GW322:=zN HB hg;have GE322:=zN HB hg;replace HB:=zS HB hb;clear hb hbox hg))
 go_loopg [5,6] k (fun kq v5 v6 w' => ∃ (x5_1 : Int) (x6_1 : Int),v5 = .int .i64 x5_1 ∧ v6 = .int .i64 x6_1 ∧ Aside0 (beaconref17_Count.l0 kq a1 x5_1 x6_1 l0_0 a0_1 = some r) ∧ Aside0 (kq ≤ k) ∧ Aside0 (w'.heap[G322]? = some (.cells #[(.slice A0_0 l0_0.length c0_0),.bool a0_1] 24 (0,0))) ∧ Aside0 (Below w.heap.size w w'))
 case atStart => exact ⟨(0),(0),ze,ze,H',⟨Nat.le_refl _⟩,⟨z1 K322.1⟩,⟨zH HB⟩⟩
 case round =>
  clear H'
  try clear c2;try clear p2
  obtain ⟨x5_1,x6_1,rfl,rfl,HA,HK1,K322,HB⟩:=hrel
  cases gk with
  | zero => exact absurd HA.out (by simp [beaconref17_Count.l0])
  | succ k1 =>
   have H:=HA.out
   clear HA
   simp only [beaconref17_Count.l0] at H
   by_cases c4 : x6_1 < (l0_0.length : Int)
   ·rw [if_pos c4] at H
    have c4b0 : decide (x6_1 < (l0_0.length : Int)) = true:=decide_eq_true c4
    clear c4
    by_cases c5 : 0 ≤ x6_1
    ·rw [if_pos c5] at H
     have c5b0 : decide (0 ≤ x6_1) = true:=decide_eq_true c5
     clear c5
     by_cases c6 : ((rd_T39 l0_0 x6_1).f1) = a1
     ·rw [if_pos c6] at H
      have c6b0 : (((rd_T39 l0_0 x6_1).f1) == a1) = true:=beq_iff_eq.mpr c6
      have c6b1 : (((rd_T39 l0_0 x6_1).f1) != a1) = false:=bne_eq_false_iff_eq.mpr c6
      clear c6
      have H':=Aside0.mk H
      clear H
      have hcz7_0 : wr.cell? ⟨G322,0,none⟩ = some (.slice A0_0 l0_0.length c0_0):=zk K322 0
      have hcz7_1 : wr.cell? ⟨G322,1,none⟩ = some (.bool a0_1):=zk K322 1
      have hfz7_0:=bF K322.1 0
      have hfz7_1:=bF K322.1 1
      have p323 : 0 ≤ (x6_1 : Int):=zd
      have q323 : x6_1 < (l0_0.length : Int):=zd
      obtain ⟨ad323,e323,hx323_0,hx323_1,hx323_2,hx323_3,hx323_4,hx323_5⟩:=at_T39 HR0_0.out x6_1 p323 q323
      cases e323
      replace hx323_0:=zh HB hx323_0
      replace hx323_1:=zh HB hx323_1
      replace hx323_2:=zh HB hx323_2
      replace hx323_3:=zh HB hx323_3
      replace hx323_4:=zh HB hx323_4
      replace hx323_5:=zh HB hx323_5
      replace p323:=eq_true p323
      replace q323:=eq_true q323
      go_wp2
      go_roundg k1
      case measure => have:=HK1.out;omega
      case rel => exact ⟨(wrap64 (x5_1 + 1)),(wrap64 (x6_1 + 1)),ze,ze,H',⟨by have:=HK1.out;omega⟩,⟨z1 K322.1⟩,⟨zH HB⟩⟩
     ·rw [if_neg c6] at H
      have c6b0 : (((rd_T39 l0_0 x6_1).f1) == a1) = false:=beq_eq_false_iff_ne.mpr c6
      have c6b1 : (((rd_T39 l0_0 x6_1).f1) != a1) = true:=bne_iff_ne.mpr c6
      have H':=Aside0.mk H
      clear H
      have hcz8_0 : wr.cell? ⟨G322,0,none⟩ = some (.slice A0_0 l0_0.length c0_0):=zk K322 0
      have hcz8_1 : wr.cell? ⟨G322,1,none⟩ = some (.bool a0_1):=zk K322 1
      have hfz8_0:=bF K322.1 0
      have hfz8_1:=bF K322.1 1
      have p323 : 0 ≤ (x6_1 : Int):=zd
      have q323 : x6_1 < (l0_0.length : Int):=zd
      obtain ⟨ad323,e323,hx323_0,hx323_1,hx323_2,hx323_3,hx323_4,hx323_5⟩:=at_T39 HR0_0.out x6_1 p323 q323
      cases e323
      replace hx323_0:=zh HB hx323_0
      replace hx323_1:=zh HB hx323_1
      replace hx323_2:=zh HB hx323_2
      replace hx323_3:=zh HB hx323_3
      replace hx323_4:=zh HB hx323_4
      replace hx323_5:=zh HB hx323_5
      replace p323:=eq_true p323
      replace q323:=eq_true q323
      go_wp2
      go_roundg k1
      case measure => have:=HK1.out;omega
      case rel => exact ⟨(x5_1),(wrap64 (x6_1 + 1)),ze,ze,H',⟨by have:=HK1.out;omega⟩,⟨z1 K322.1⟩,⟨zH HB⟩⟩
    ·rw [if_neg c5] at H
     exact absurd H (by simp)
   ·rw [if_neg c4] at H
    have c4b0 : decide (x6_1 < (l0_0.length : Int)) = false:=decide_eq_false c4
    clear c4
    obtain rfl:=Option.some.inj H
    have hcz9_0 : wr.cell? ⟨G322,0,none⟩ = some (.slice A0_0 l0_0.length c0_0):=zk K322 0
    have hcz9_1 : wr.cell? ⟨G322,1,none⟩ = some (.bool a0_1):=zk K322 1
    have hfz9_0:=bF K322.1 0
    have hfz9_1:=bF K322.1 1
    go_wp2
    go_ret
    exact ⟨by first|rfl|(simp [errW_none,errW_some] <;> rfl)|(simp [*,errW_none,errW_some] <;> rfl),zH HB⟩

/-! ### beaconref17_Marks: function 27 -/
def beaconref17_Marks.l0 : Nat → List Int → Int → List (S39) → Bool → Option (List Int)
 | 0, _, _, _, _ => none
 | k + 1, x3, x4, x325000, x325001 => if x4 < (x325000.length : Int) then (if 0 ≤ x4 then (if ((rd_T39 x325000 x4).f1) = 1 then ((beaconref17_Far.f ((rd_T39 x325000 x4).f2)).bind fun t330 => (if t330 = true then (beaconref17_Marks.l0 k x3 (wrap64 (x4 + 1)) x325000 x325001) else (if x3.length < 17592186044416 then (beaconref17_Marks.l0 k (x3 ++ [(rd_T39 x325000 x4).f0]) (wrap64 (x4 + 1)) x325000 x325001) else (none)))) else (beaconref17_Marks.l0 k x3 (wrap64 (x4 + 1)) x325000 x325001)) else (none)) else (some x3)
def beaconref17_Marks.f (k : Nat) (l0_0 : List (S39)) (a0_1 : Bool) : Option (List Int) := beaconref17_Marks.l0 k (([] : List Int)) 0 l0_0 a0_1
theorem beaconref17_Marks.mono_l : ∀ k, (∀ y0 y1 y2 y3, LeO (beaconref17_Marks.l0 k y0 y1 y2 y3) (beaconref17_Marks.l0 (k + 1) y0 y1 y2 y3))
 | 0 => fun _ _ _ _ r h => by simp [beaconref17_Marks.l0] at h
 | k + 1 => by
  have ih0:=beaconref17_Marks.mono_l k
  ·intro y0 y1 y2 y3
   unfold beaconref17_Marks.l0
   repeat' first
   | (with_reducible exact ih0 _ _ _ _)
   | (with_reducible exact LeO.refl _)
   | (with_reducible exact LeO.none _)
   | (with_reducible refine LeO.ite ?_ ?_)
   | (with_reducible refine LeO.bind ?_ (fun _ => ?_))
   | exact ih0 _ _ _ _
   | exact LeO.none _
   | refine LeO.ite ?_ ?_
   | refine LeO.bind ?_ (fun _ => ?_)
theorem beaconref17_Marks.mono : ∀ a0 a1 k, LeO (beaconref17_Marks.f k a0 a1) (beaconref17_Marks.f (k + 1) a0 a1) := by
 intro a0 a1 k
 have ih0:=beaconref17_Marks.mono_l k
 unfold beaconref17_Marks.f
 repeat' first
   | (with_reducible exact ih0 _ _ _ _)
   | (with_reducible exact LeO.refl _)
   | (with_reducible exact LeO.none _)
   | (with_reducible refine LeO.ite ?_ ?_)
   | (with_reducible refine LeO.bind ?_ (fun _ => ?_))
   | exact ih0 _ _ _ _
   | exact LeO.none _
   | refine LeO.ite ?_ ?_
   | refine LeO.bind ?_ (fun _ => ?_)
set_option maxHeartbeats 8000000 in
set_option maxRecDepth 100000 in
theorem beaconref17_Marks.calls (k : Nat) (A0_0 : Option Addr) (c0_0 : Nat) (l0_0 : List (S39)) (a0_1 : Bool) (r : List Int) (w : World) (hr0_0 : Kd.C k39 w A0_0 l0_0.length l0_0) (hc0_0 : l0_0.length ≤ c0_0) (h : beaconref17_Marks.f k l0_0 a0_1 = some r) :
  Calls Try.prog 27 #[.agg #[.slice A0_0 l0_0.length c0_0,.bool a0_1]] w fun e w' => ∃ v0_ : Value,e = .returned (v0_) ∧ Kd.R (Kd.int .i64) 3 w' w.heap.size (fun _ => True) v0_ r ∧ Below w.heap.size w w':=by
 have hu24:=Try.underlying24
 have HR0_0:=Aside0.mk hr0_0
 have HC0_0:=Aside0.mk hc0_0
 clear hr0_0 hc0_0
 have HB:=Aside0.mk (Below.refl w.heap.size w)
 have H : (beaconref17_Marks.l0 k (([] : List Int)) 0 l0_0 a0_1) = some r:=h
 clear h
 obtain ⟨y325,hy325⟩ : ∃ y_ : List Int,y_ = (([] : List Int)):=⟨_,rfl⟩
 replace H : (beaconref17_Marks.l0 k y325 0 l0_0 a0_1) = some r:=by first|(rw [hy325];with_reducible exact H)|(have H2_:=(Option.bind_some _ _).symm.trans H;rw [hy325];with_reducible exact H2_)|(have H2_:=(Option.bind_some _ _).symm.trans H;with_reducible exact H2_)|with_reducible exact H|(rw [hy325];exact H)|exact H
 have Ny325:=Aside0.mk hy325
 clear hy325
 have H':=Aside0.mk H
 clear H
 go_enter Try.func27,Try.ntmps27
 go_wp2_with (first|((with_reducible refine gate_dst (N:=1) rfl ?_);refine zb (N:=1) (cs:=#[.slice A0_0 l0_0.length c0_0,.bool a0_1]) (t:=24) ?_;intro G324 hg w2 hbox hb;have K324:=Aside0.mk (hbox);have GW324:=zN HB hg;have GE324:=zN HB hg;replace HB:=zS HB hb;clear hb hbox hg)|((with_reducible refine gate_dst (N:=5) rfl ?_);refine Kd.R_lit (Kd.int .i64) _ 3 ?hg (N:=5) ?hd (xs:=([] : List Int)) (inner:=[]) (ok:=fun _ => True) (okp:=fun _ => True) ?hr ?hp (fun _ hk => hk) trivial (Below.refl _ _) (Nat.le_refl _) (by simp) ?_;(case hd => rfl);(case hg => rfl);(case hr => first|(go_simp;done)|(go_simp;rfl));(case hp => exact (Reps.none _ _));intro v326 w3 ho4 hb hg_ hnew_;clear hg_ hnew_;(first|rw [← Ny325.out] at ho4|(simp only [Int.reduceToNat] at ho4;rw [← Ny325.out] at ho4));have HO327:=Aside0.mk (Kd.R_lower ho4 (zW HB));replace K324:=zB K324 hb;replace HB:=zS HB hb;clear hb ho4))
 go_loopg [3,4] k (fun kq v3 v4 w' => ∃ (x3_1 : List Int) (x4_1 : Int),v4 = .int .i64 x4_1 ∧ Aside0 (beaconref17_Marks.l0 kq x3_1 x4_1 l0_0 a0_1 = some r) ∧ Aside0 (kq ≤ k) ∧ Aside0 (Kd.R (Kd.int .i64) 3 w' w.heap.size (fun _ => True) v3 x3_1) ∧ Aside0 (w'.heap[G324]? = some (.cells #[(.slice A0_0 l0_0.length c0_0),.bool a0_1] 24 (0,0))) ∧ Aside0 (Below w.heap.size w w'))
 case atStart => exact ⟨(y325),(0),ze,H',⟨Nat.le_refl _⟩,⟨zR HO327⟩,⟨z1 K324.1⟩,⟨zH HB⟩⟩
 case round =>
  clear H'
  try clear c2;try clear p2
  obtain ⟨x3_1,x4_1,rfl,HA,HK1,HO_3,K324,HB⟩:=hrel
  cases gk with
  | zero => exact absurd HA.out (by simp [beaconref17_Marks.l0])
  | succ k1 =>
   have H:=HA.out
   clear HA
   simp only [beaconref17_Marks.l0] at H
   by_cases c5 : x4_1 < (l0_0.length : Int)
   ·rw [if_pos c5] at H
    have c5b0 : decide (x4_1 < (l0_0.length : Int)) = true:=decide_eq_true c5
    clear c5
    by_cases c6 : 0 ≤ x4_1
    ·rw [if_pos c6] at H
     have c6b0 : decide (0 ≤ x4_1) = true:=decide_eq_true c6
     clear c6
     by_cases c7 : ((rd_T39 l0_0 x4_1).f1) = 1
     ·rw [if_pos c7] at H
      have c7b0 : (((rd_T39 l0_0 x4_1).f1) == 1) = true:=beq_iff_eq.mpr c7
      have c7b1 : (((rd_T39 l0_0 x4_1).f1) != 1) = false:=bne_eq_false_iff_eq.mpr c7
      clear c7
      replace H:=Option.bind_eq_some_iff.mp H
      obtain ⟨t330,A80,H⟩:=H
      replace H : (if t330 = true then (beaconref17_Marks.l0 k1 x3_1 (wrap64 (x4_1 + 1)) l0_0 a0_1) else (if x3_1.length < 17592186044416 then (beaconref17_Marks.l0 k1 (x3_1 ++ [(rd_T39 l0_0 x4_1).f0]) (wrap64 (x4_1 + 1)) l0_0 a0_1) else (none))) = some r:=H
      have A8:=Aside0.mk A80
      clear A80
      by_cases c9 : t330 = true
      ·subst c9
       have H1 : (beaconref17_Marks.l0 k1 x3_1 (wrap64 (x4_1 + 1)) l0_0 a0_1) = some r:=by rw [if_pos rfl] at H;exact H
       clear H
       have H:=H1
       clear H1
       have H':=Aside0.mk H
       clear H
       have hcz10_0 : wr.cell? ⟨G324,0,none⟩ = some (.slice A0_0 l0_0.length c0_0):=zk K324 0
       have hcz10_1 : wr.cell? ⟨G324,1,none⟩ = some (.bool a0_1):=zk K324 1
       have hfz10_0:=bF K324.1 0
       have hfz10_1:=bF K324.1 1
       have p328 : 0 ≤ (x4_1 : Int):=zd
       have q328 : x4_1 < (l0_0.length : Int):=zd
       obtain ⟨ad328,e328,hx328_0,hx328_1,hx328_2,hx328_3,hx328_4,hx328_5⟩:=at_T39 HR0_0.out x4_1 p328 q328
       cases e328
       replace hx328_0:=zh HB hx328_0
       replace hx328_1:=zh HB hx328_1
       replace hx328_2:=zh HB hx328_2
       replace hx328_3:=zh HB hx328_3
       replace hx328_4:=zh HB hx328_4
       replace hx328_5:=zh HB hx328_5
       replace p328:=eq_true p328
       replace q328:=eq_true q328
       have p329 : 0 ≤ (x4_1 : Int):=zd
       have q329 : x4_1 < (l0_0.length : Int):=zd
       obtain ⟨ad329,e329,hx329_0,hx329_1,hx329_2,hx329_3,hx329_4,hx329_5⟩:=at_T39 HR0_0.out x4_1 p329 q329
       obtain rfl : ad328 = ad329:=(by injection e329)
       replace hx329_0:=zh HB hx329_0
       replace hx329_1:=zh HB hx329_1
       replace hx329_2:=zh HB hx329_2
       replace hx329_3:=zh HB hx329_3
       replace hx329_4:=zh HB hx329_4
       replace hx329_5:=zh HB hx329_5
       replace p329:=eq_true p329
       replace q329:=eq_true q329
       go_wp2_with (first|(go_at_call 54;(with_reducible refine (beaconref17_Far.calls ((rd_T39 l0_0 x4_1).f2) true _ A8.out).mono ?_);rintro e w' ⟨rfl,⟨nd,rfl⟩⟩))
       go_roundg k1
       case measure => have:=HK1.out;omega
       case rel => exact ⟨(x3_1),(wrap64 (x4_1 + 1)),ze,H',⟨by have:=HK1.out;omega⟩,⟨zR HO_3⟩,⟨z1 K324.1⟩,⟨zH HB⟩⟩
      ·replace c9:=Bool.eq_false_iff.mpr c9
       subst c9
       have H1 : (if x3_1.length < 17592186044416 then (beaconref17_Marks.l0 k1 (x3_1 ++ [(rd_T39 l0_0 x4_1).f0]) (wrap64 (x4_1 + 1)) l0_0 a0_1) else (none)) = some r:=by rw [if_neg (show ¬ (false = true) by decide)] at H;exact H
       clear H
       have H:=H1
       clear H1
       by_cases c11 : x3_1.length < 17592186044416
       ·rw [if_pos c11] at H
        have LMc11:=Aside0.mk c11
        clear c11
        obtain ⟨y332,hy332⟩ : ∃ y_ : List Int,y_ = (x3_1 ++ [(rd_T39 l0_0 x4_1).f0]):=⟨_,rfl⟩
        replace H : (beaconref17_Marks.l0 k1 y332 (wrap64 (x4_1 + 1)) l0_0 a0_1) = some r:=by first|(rw [hy332];with_reducible exact H)|(have H2_:=(Option.bind_some _ _).symm.trans H;rw [hy332];with_reducible exact H2_)|(have H2_:=(Option.bind_some _ _).symm.trans H;with_reducible exact H2_)|with_reducible exact H|(rw [hy332];exact H)|exact H
        have Ny332:=Aside0.mk hy332
        clear hy332
        have H':=Aside0.mk H
        clear H
        have hcz12_0 : wr.cell? ⟨G324,0,none⟩ = some (.slice A0_0 l0_0.length c0_0):=zk K324 0
        have hcz12_1 : wr.cell? ⟨G324,1,none⟩ = some (.bool a0_1):=zk K324 1
        have hfz12_0:=bF K324.1 0
        have hfz12_1:=bF K324.1 1
        have p328 : 0 ≤ (x4_1 : Int):=zd
        have q328 : x4_1 < (l0_0.length : Int):=zd
        obtain ⟨ad328,e328,hx328_0,hx328_1,hx328_2,hx328_3,hx328_4,hx328_5⟩:=at_T39 HR0_0.out x4_1 p328 q328
        cases e328
        replace hx328_0:=zh HB hx328_0
        replace hx328_1:=zh HB hx328_1
        replace hx328_2:=zh HB hx328_2
        replace hx328_3:=zh HB hx328_3
        replace hx328_4:=zh HB hx328_4
        replace hx328_5:=zh HB hx328_5
        replace p328:=eq_true p328
        replace q328:=eq_true q328
        have p329 : 0 ≤ (x4_1 : Int):=zd
        have q329 : x4_1 < (l0_0.length : Int):=zd
        obtain ⟨ad329,e329,hx329_0,hx329_1,hx329_2,hx329_3,hx329_4,hx329_5⟩:=at_T39 HR0_0.out x4_1 p329 q329
        obtain rfl : ad328 = ad329:=(by injection e329)
        replace hx329_0:=zh HB hx329_0
        replace hx329_1:=zh HB hx329_1
        replace hx329_2:=zh HB hx329_2
        replace hx329_3:=zh HB hx329_3
        replace hx329_4:=zh HB hx329_4
        replace hx329_5:=zh HB hx329_5
        replace p329:=eq_true p329
        replace q329:=eq_true q329
        go_wp2_with (first|(go_at_call 54;(with_reducible refine (beaconref17_Far.calls ((rd_T39 l0_0 x4_1).f2) false _ A8.out).mono ?_);rintro e w' ⟨rfl,⟨nd,rfl⟩⟩;have p331 : 0 ≤ (x4_1 : Int):=zd;have q331 : x4_1 < (l0_0.length : Int):=zd;obtain ⟨ad331,e331,hx331_0,hx331_1,hx331_2,hx331_3,hx331_4,hx331_5⟩:=at_T39 HR0_0.out x4_1 p331 q331;obtain rfl : ad328 = ad331:=(by injection e331);replace hx331_0:=zh HB hx331_0;replace hx331_1:=zh HB hx331_1;replace hx331_2:=zh HB hx331_2;replace hx331_3:=zh HB hx331_3;replace hx331_4:=zh HB hx331_4;replace hx331_5:=zh HB hx331_5;replace p331:=eq_true p331;replace q331:=eq_true q331)|((with_reducible refine gate_builtin (b:=.append) (xs:=#[.tmp 30,.tmp 37]) rfl ?_);at_builtin;refine Kd.R_append (Kd.int .i64) (w0:=w) w.heap.size rfl (.tmp 30) (.tmp 37) 40 3 (.int .i64 0) 8 rfl Try.underlying40 info3 rfl (by decide) (by omega) u3 x3_1 ((rd_T39 l0_0 x4_1).f0) [.int .i64 ((rd_T39 l0_0 x4_1).f0)] (fun _ => True) (fun _ => False) rfl rfl ?aP (fun _ hk => hk.elim) ?aF ?aO ?aB ?aS ?aL ?_;(case aP => exact rfl);(case aB => exact (zH HB));(case aF => exact (fun _ _ => trivial));(case aO => exact (zR HO_3));(case aS => exact (zW HB));(case aL => have:=LMc11.out;omega);intro v333 w13 ho hb hg hat;rw [← Ny332.out] at ho;replace K324:=Aside0.mk (blk_grown (g:=G324) (z1 K324.1) hg (Kd.R_ne HO_3.out K324.1 (by decide)));replace HB:=Aside0.mk (hb);have HO334:=Aside0.mk (ho);clear HO_3;clear ho hb hg hat))
        go_roundg k1
        case measure => have:=HK1.out;omega
        case rel => exact ⟨(y332),(wrap64 (x4_1 + 1)),ze,H',⟨by have:=HK1.out;omega⟩,⟨zR HO334⟩,⟨z1 K324.1⟩,⟨zH HB⟩⟩
       ·rw [if_neg c11] at H
        exact absurd H (by simp)
     ·rw [if_neg c7] at H
      have c7b0 : (((rd_T39 l0_0 x4_1).f1) == 1) = false:=beq_eq_false_iff_ne.mpr c7
      have c7b1 : (((rd_T39 l0_0 x4_1).f1) != 1) = true:=bne_iff_ne.mpr c7
      have H':=Aside0.mk H
      clear H
      have hcz14_0 : wr.cell? ⟨G324,0,none⟩ = some (.slice A0_0 l0_0.length c0_0):=zk K324 0
      have hcz14_1 : wr.cell? ⟨G324,1,none⟩ = some (.bool a0_1):=zk K324 1
      have hfz14_0:=bF K324.1 0
      have hfz14_1:=bF K324.1 1
      have p328 : 0 ≤ (x4_1 : Int):=zd
      have q328 : x4_1 < (l0_0.length : Int):=zd
      obtain ⟨ad328,e328,hx328_0,hx328_1,hx328_2,hx328_3,hx328_4,hx328_5⟩:=at_T39 HR0_0.out x4_1 p328 q328
      cases e328
      replace hx328_0:=zh HB hx328_0
      replace hx328_1:=zh HB hx328_1
      replace hx328_2:=zh HB hx328_2
      replace hx328_3:=zh HB hx328_3
      replace hx328_4:=zh HB hx328_4
      replace hx328_5:=zh HB hx328_5
      replace p328:=eq_true p328
      replace q328:=eq_true q328
      go_wp2
      go_roundg k1
      case measure => have:=HK1.out;omega
      case rel => exact ⟨(x3_1),(wrap64 (x4_1 + 1)),ze,H',⟨by have:=HK1.out;omega⟩,⟨zR HO_3⟩,⟨z1 K324.1⟩,⟨zH HB⟩⟩
    ·rw [if_neg c6] at H
     exact absurd H (by simp)
   ·rw [if_neg c5] at H
    have c5b0 : decide (x4_1 < (l0_0.length : Int)) = false:=decide_eq_false c5
    clear c5
    obtain rfl:=Option.some.inj H
    have hcz15_0 : wr.cell? ⟨G324,0,none⟩ = some (.slice A0_0 l0_0.length c0_0):=zk K324 0
    have hcz15_1 : wr.cell? ⟨G324,1,none⟩ = some (.bool a0_1):=zk K324 1
    have hfz15_0:=bF K324.1 0
    have hfz15_1:=bF K324.1 1
    go_wp2
    go_ret
    exact ⟨_,by first|rfl|(simp [errW_none,errW_some] <;> rfl)|(simp [*,errW_none,errW_some] <;> rfl),by (with_reducible repeat (first|apply Kd.R_alloc|apply Kd.R_drewN|apply Kd.R_drew));exact HO_3.out,zH HB⟩

end Go.Proofs.Ytgmjlhpigfaicaa.XA
