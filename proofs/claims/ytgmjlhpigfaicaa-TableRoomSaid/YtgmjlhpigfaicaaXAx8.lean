/- Go functions of this seat as Lean functions, with proofs that the calls come to them. (Written by xprint.py, a program of this session, over the kit's print.) -/
import Derived.Test.YtgmjlhpigfaicaaXAx0
import Derived.Test.YtgmjlhpigfaicaaXAx7
namespace Go.Proofs.Ytgmjlhpigfaicaa.XA
open Go.RowKit Go.Proofs.YtgmjlhpigfaicaaW.PrintWords Go.Proofs.YtgmjlhpigfaicaaW.PrintLast Go.Proofs.YtgmjlhpigfaicaaW.PrintMore
attribute [local go_sem] max2_int min2_int max_two min_two max_three min_three max_four min_four   -- for this text's walks alone
set_option linter.unusedVariables false
set_option linter.unusedSimpArgs false
open List renaming setIfInBounds_toArray → xA, set_cons_zero → xB, set_cons_succ → xC
open Go.Proofs.YtgmjlhpigfaicaaW.PrintWords renaming blk_drewN → bN, blk_drew → bD, blk_alloc → bA, below_set → bS, blk_frozen → bF, blk_cell → bC, cell_far → cF, blk_far → bZ, blk_below → bB, pw_below_drewN → bwN, below_drew1 → bw1, below_alloc → bwA
open Go.Proofs.YtgmjlhpigfaicaaW.PrintZ
open Bool renaming true → T,false → F

/-! ### api_Entry_50: function 50 -/
def api_Entry_50.l0 : Nat → List (S39) → List (S39) → Int → Int → Option (Bool)
 | 0, _, _, _, _ => none
 | k + 1, x1, x15, x16, x17 => if x17 < x16 then (if 0 ≤ x17 then (if x17 < (x15.length : Int) then (if x17 < (x1.length : Int) then ((table_same.f ((rd_T39 x15 x17).f0) ((rd_T39 x15 x17).f1) ((rd_T39 x15 x17).f2) ((rd_T39 x15 x17).f3) ((rd_T39 x15 x17).f4) ((rd_T39 x15 x17).f5) ((rd_T39 x1 x17).f0) ((rd_T39 x1 x17).f1) ((rd_T39 x1 x17).f2) ((rd_T39 x1 x17).f3) ((rd_T39 x1 x17).f4) ((rd_T39 x1 x17).f5)).bind fun t177 => (if t177 = true then (api_Entry_50.l0 k x1 x15 x16 (wrap64 (x17 + 1))) else (some false))) else (none)) else (none)) else (none)) else (some true)
def api_Entry_50.f (k : Nat) (l0 : List (S39)) (l1 : List (S39))  : Option (Bool) := if (l0.length : Int) = (l1.length : Int) then (api_Entry_50.l0 k l1 l0 (l0.length : Int) 0) else (some false)
theorem api_Entry_50.mono_l : ∀ k, (∀ y0 y1 y2 y3, LeO (api_Entry_50.l0 k y0 y1 y2 y3) (api_Entry_50.l0 (k + 1) y0 y1 y2 y3))
 | 0 => fun _ _ _ _ r h => by simp [api_Entry_50.l0] at h
 | k + 1 => by
  have ih0:=api_Entry_50.mono_l k
  ·intro y0 y1 y2 y3
   unfold api_Entry_50.l0
   repeat' first
   | (with_reducible exact ih0 _ _ _ _)
   | (with_reducible exact LeO.refl _)
   | (with_reducible exact LeO.none _)
   | (with_reducible refine LeO.ite ?_ ?_)
   | (with_reducible refine LeO.bind ?_ (fun _ => ?_))
   | exact ih0 _ _ _ _
   | exact LeO.none _
   | refine LeO.ite ?_ ?_
   | refine LeO.bind ?_ (fun _ => ?_)
theorem api_Entry_50.mono : ∀ a0 a1 k, LeO (api_Entry_50.f k a0 a1) (api_Entry_50.f (k + 1) a0 a1) := by
 intro a0 a1 k
 have ih0:=api_Entry_50.mono_l k
 unfold api_Entry_50.f
 repeat' first
   | (with_reducible exact ih0 _ _ _ _)
   | (with_reducible exact LeO.refl _)
   | (with_reducible exact LeO.none _)
   | (with_reducible refine LeO.ite ?_ ?_)
   | (with_reducible refine LeO.bind ?_ (fun _ => ?_))
   | exact ih0 _ _ _ _
   | exact LeO.none _
   | refine LeO.ite ?_ ?_
   | refine LeO.bind ?_ (fun _ => ?_)
set_option maxHeartbeats 8000000 in
set_option maxRecDepth 100000 in
theorem api_Entry_50.calls (k : Nat) (A0 : Option Addr) (c0 : Nat) (l0 : List (S39)) (A1 : Option Addr) (c1 : Nat) (l1 : List (S39))  (r : Bool) (w : World) (hr0 : Kd.C k39 w A0 l0.length l0) (hc0 : l0.length ≤ c0) (hr1 : Kd.C k39 w A1 l1.length l1) (hc1 : l1.length ≤ c1) (h : api_Entry_50.f k l0 l1 = some r) :
  Calls Try.prog 50 #[.slice A0 l0.length c0,.slice A1 l1.length c1,.func (.func 51) #[] #[]] w fun e w' => e = .returned (.bool r) ∧ Below w.heap.size w w':=by
 have hu39:=Try.underlying39
 have HR0:=Aside0.mk hr0
 have HC0:=Aside0.mk hc0
 clear hr0 hc0
 have HR1:=Aside0.mk hr1
 have HC1:=Aside0.mk hc1
 clear hr1 hc1
 have HB:=Aside0.mk (Below.refl w.heap.size w)
 have H : (if (l0.length : Int) = (l1.length : Int) then (api_Entry_50.l0 k l1 l0 (l0.length : Int) 0) else (some false)) = some r:=h
 clear h
 by_cases c4 : (l0.length : Int) = (l1.length : Int)
 ·rw [if_pos c4] at H
  have c4b0 : ((l0.length : Int) == (l1.length : Int)) = true:=beq_iff_eq.mpr c4
  have c4b1 : ((l0.length : Int) != (l1.length : Int)) = false:=bne_eq_false_iff_eq.mpr c4
  have c4b2 : (l0.length == l1.length) = true:=by first|simpa using c4|(simp at c4 ⊢;omega)
  clear c4
  have H':=Aside0.mk H
  clear H
  go_enter Try.func50,Try.ntmps50
  go_wp2
  go_loopg [17] k (fun kq v17 w' => ∃ (x17_1 : Int),v17 = .int .i64 x17_1 ∧ Aside0 (api_Entry_50.l0 kq l1 l0 (l0.length : Int) x17_1 = some r) ∧ Aside0 (kq ≤ k) ∧ Aside0 (Below w.heap.size w w'))
  case atStart => exact ⟨(0),ze,H',⟨Nat.le_refl _⟩,⟨zH HB⟩⟩
  case round =>
   clear H'
   try clear c1;try clear p2;try clear c4;try clear c4b0;try clear c4b1;try clear c4b2
   obtain ⟨x17_1,rfl,HA,HK1,HB⟩:=hrel
   cases gk with
   | zero => exact absurd HA.out (by simp [api_Entry_50.l0])
   | succ k1 =>
    have H:=HA.out
    clear HA
    simp only [api_Entry_50.l0] at H
    by_cases c5 : x17_1 < (l0.length : Int)
    ·rw [if_pos c5] at H
     have c5b0 : decide (x17_1 < (l0.length : Int)) = true:=decide_eq_true c5
     clear c5
     by_cases c6 : 0 ≤ x17_1
     ·rw [if_pos c6] at H
      have c6b0 : decide (0 ≤ x17_1) = true:=decide_eq_true c6
      clear c6
      by_cases c7 : x17_1 < (l0.length : Int)
      ·rw [if_pos c7] at H
       have c7b0 : decide (x17_1 < (l0.length : Int)) = true:=decide_eq_true c7
       clear c7
       by_cases c8 : x17_1 < (l1.length : Int)
       ·rw [if_pos c8] at H
        have c8b0 : decide (x17_1 < (l1.length : Int)) = true:=decide_eq_true c8
        clear c8
        replace H:=Option.bind_eq_some_iff.mp H
        obtain ⟨t177,A90,H⟩:=H
        replace H : (if t177 = true then (api_Entry_50.l0 k1 l1 l0 (l0.length : Int) (wrap64 (x17_1 + 1))) else (some false)) = some r:=H
        have A9:=Aside0.mk A90
        clear A90
        by_cases c10 : t177 = true
        ·subst c10
         have H1 : (api_Entry_50.l0 k1 l1 l0 (l0.length : Int) (wrap64 (x17_1 + 1))) = some r:=by rw [if_pos rfl] at H;exact H
         clear H
         have H:=H1
         clear H1
         have H':=Aside0.mk H
         clear H
         have p173 : 0 ≤ (x17_1 : Int):=zd
         have q173 : x17_1 < (l0.length : Int):=zd
         obtain ⟨ad173,e173,hx173_0,hx173_1,hx173_2,hx173_3,hx173_4,hx173_5⟩:=at_T39 HR0.out x17_1 p173 q173
         cases e173
         replace hx173_0:=zh HB hx173_0
         replace hx173_1:=zh HB hx173_1
         replace hx173_2:=zh HB hx173_2
         replace hx173_3:=zh HB hx173_3
         replace hx173_4:=zh HB hx173_4
         replace hx173_5:=zh HB hx173_5
         replace p173:=eq_true p173
         replace q173:=eq_true q173
         go_wp2_with (first|((with_reducible refine gate_dst (N:=8) rfl ?_);refine zb (N:=8) (cs:=#[.int .i64 0,.int .i64 0,.float .f64 0,.int .i64 0,.float .f64 0,.int .i64 0]) (t:=39) ?_;intro G174 hg w11 hbox hb;have K174:=Aside0.mk (hbox);have GW174:=zN HB hg;have GE174:=zN HB hg;replace HB:=zS HB hb;clear hb hbox hg;have hcz12_0 : w11.cell? ⟨G174,0,none⟩ = some (.int .i64 0):=zk K174 0;have hcz12_1 : w11.cell? ⟨G174,1,none⟩ = some (.int .i64 0):=zk K174 1;have hcz12_2 : w11.cell? ⟨G174,2,none⟩ = some (.float .f64 0):=zk K174 2;have hcz12_3 : w11.cell? ⟨G174,3,none⟩ = some (.int .i64 0):=zk K174 3;have hcz12_4 : w11.cell? ⟨G174,4,none⟩ = some (.float .f64 0):=zk K174 4;have hcz12_5 : w11.cell? ⟨G174,5,none⟩ = some (.int .i64 0):=zk K174 5;have hfz12_0:=bF K174.1 0;have hfz12_1:=bF K174.1 1;have hfz12_2:=bF K174.1 2;have hfz12_3:=bF K174.1 3;have hfz12_4:=bF K174.1 4;have hfz12_5:=bF K174.1 5)|((with_reducible refine gate_store (t:=39) (p:=8) rfl ?_);refine store_event (t:=39) (p:=8) (v:=?vo_w13) (w1:=((((((w11.setCell ⟨G174,0,none⟩ (.int .i64 ((rd_T39 l0 x17_1).f0))).setCell ⟨G174,1,none⟩ (.int .i64 ((rd_T39 l0 x17_1).f1))).setCell ⟨G174,2,none⟩ (.float .f64 ((rd_T39 l0 x17_1).f2))).setCell ⟨G174,3,none⟩ (.int .i64 ((rd_T39 l0 x17_1).f3))).setCell ⟨G174,4,none⟩ (.float .f64 ((rd_T39 l0 x17_1).f4))).setCell ⟨G174,5,none⟩ (.int .i64 ((rd_T39 l0 x17_1).f5)))) ?hg ?ho ?hn ?hr ?_;(case ho => rfl);(case hg => rfl);(case hn => rfl);(case hr => first|(go_simp;done)|(go_simp;rfl));intro w13 hw;replace K174 : Aside0 (w13.heap[G174]? = some (.cells #[.int .i64 ((rd_T39 l0 x17_1).f0),.int .i64 ((rd_T39 l0 x17_1).f1),.float .f64 ((rd_T39 l0 x17_1).f2),.int .i64 ((rd_T39 l0 x17_1).f3),.float .f64 ((rd_T39 l0 x17_1).f4),.int .i64 ((rd_T39 l0 x17_1).f5)] 39 (0,0))):=⟨(by rw [hw];exact (zF K174))⟩;replace HB : Aside0 (Below w.heap.size w w13):=⟨(by rw [hw];exact (zH HB))⟩;clear hw;have p175 : 0 ≤ (x17_1 : Int):=zd;have q175 : x17_1 < (l1.length : Int):=zd;obtain ⟨ad175,e175,hx175_0,hx175_1,hx175_2,hx175_3,hx175_4,hx175_5⟩:=at_T39 HR1.out x17_1 p175 q175;cases e175;replace hx175_0:=zh HB hx175_0;replace hx175_1:=zh HB hx175_1;replace hx175_2:=zh HB hx175_2;replace hx175_3:=zh HB hx175_3;replace hx175_4:=zh HB hx175_4;replace hx175_5:=zh HB hx175_5;replace p175:=eq_true p175;replace q175:=eq_true q175)|((with_reducible refine gate_dst (N:=9) rfl ?_);refine zb (N:=9) (cs:=#[.int .i64 0,.int .i64 0,.float .f64 0,.int .i64 0,.float .f64 0,.int .i64 0]) (t:=39) ?_;intro G176 hg w14 hbox hb;have K176:=Aside0.mk (hbox);have GW176:=zN HB hg;have GE176:=zN HB hg;replace HB:=zS HB hb;have NB174_176:=zL K174 hg;have NB176_174:=zG K174 hg;replace K174:=zB K174 hb;clear hb hbox hg;have hnb15:=NB176_174.1;have hnc15:=NB174_176.1;have hcz16_0 : w14.cell? ⟨G176,0,none⟩ = some (.int .i64 0):=zk K176 0;have hcz16_1 : w14.cell? ⟨G176,1,none⟩ = some (.int .i64 0):=zk K176 1;have hcz16_2 : w14.cell? ⟨G176,2,none⟩ = some (.float .f64 0):=zk K176 2;have hcz16_3 : w14.cell? ⟨G176,3,none⟩ = some (.int .i64 0):=zk K176 3;have hcz16_4 : w14.cell? ⟨G176,4,none⟩ = some (.float .f64 0):=zk K176 4;have hcz16_5 : w14.cell? ⟨G176,5,none⟩ = some (.int .i64 0):=zk K176 5;have hfz16_0:=bF K176.1 0;have hfz16_1:=bF K176.1 1;have hfz16_2:=bF K176.1 2;have hfz16_3:=bF K176.1 3;have hfz16_4:=bF K176.1 4;have hfz16_5:=bF K176.1 5)|((with_reducible refine gate_store (t:=39) (p:=9) rfl ?_);refine store_event (t:=39) (p:=9) (v:=?vo_w17) (w1:=((((((w14.setCell ⟨G176,0,none⟩ (.int .i64 ((rd_T39 l1 x17_1).f0))).setCell ⟨G176,1,none⟩ (.int .i64 ((rd_T39 l1 x17_1).f1))).setCell ⟨G176,2,none⟩ (.float .f64 ((rd_T39 l1 x17_1).f2))).setCell ⟨G176,3,none⟩ (.int .i64 ((rd_T39 l1 x17_1).f3))).setCell ⟨G176,4,none⟩ (.float .f64 ((rd_T39 l1 x17_1).f4))).setCell ⟨G176,5,none⟩ (.int .i64 ((rd_T39 l1 x17_1).f5)))) ?hg ?ho ?hn ?hr ?_;(case ho => rfl);(case hg => rfl);(case hn => rfl);(case hr => first|(go_simp;done)|(go_simp;rfl));intro w17 hw;replace K174 : Aside0 (w17.heap[G174]? = some (.cells #[.int .i64 ((rd_T39 l0 x17_1).f0),.int .i64 ((rd_T39 l0 x17_1).f1),.float .f64 ((rd_T39 l0 x17_1).f2),.int .i64 ((rd_T39 l0 x17_1).f3),.float .f64 ((rd_T39 l0 x17_1).f4),.int .i64 ((rd_T39 l0 x17_1).f5)] 39 (0,0))):=⟨(by rw [hw];exact (zf K174))⟩;replace K176 : Aside0 (w17.heap[G176]? = some (.cells #[.int .i64 ((rd_T39 l1 x17_1).f0),.int .i64 ((rd_T39 l1 x17_1).f1),.float .f64 ((rd_T39 l1 x17_1).f2),.int .i64 ((rd_T39 l1 x17_1).f3),.float .f64 ((rd_T39 l1 x17_1).f4),.int .i64 ((rd_T39 l1 x17_1).f5)] 39 (0,0))):=⟨(by rw [hw];exact (zF K176))⟩;replace HB : Aside0 (Below w.heap.size w w17):=⟨(by rw [hw];exact (zH HB))⟩;clear hw;have hcz18_0 : w17.cell? ⟨G174,0,none⟩ = some (.int .i64 ((rd_T39 l0 x17_1).f0)):=zk K174 0;have hcz18_1 : w17.cell? ⟨G174,1,none⟩ = some (.int .i64 ((rd_T39 l0 x17_1).f1)):=zk K174 1;have hcz18_2 : w17.cell? ⟨G174,2,none⟩ = some (.float .f64 ((rd_T39 l0 x17_1).f2)):=zk K174 2;have hcz18_3 : w17.cell? ⟨G174,3,none⟩ = some (.int .i64 ((rd_T39 l0 x17_1).f3)):=zk K174 3;have hcz18_4 : w17.cell? ⟨G174,4,none⟩ = some (.float .f64 ((rd_T39 l0 x17_1).f4)):=zk K174 4;have hcz18_5 : w17.cell? ⟨G174,5,none⟩ = some (.int .i64 ((rd_T39 l0 x17_1).f5)):=zk K174 5;have hfz18_0:=bF K174.1 0;have hfz18_1:=bF K174.1 1;have hfz18_2:=bF K174.1 2;have hfz18_3:=bF K174.1 3;have hfz18_4:=bF K174.1 4;have hfz18_5:=bF K174.1 5;have hcz19_0 : w17.cell? ⟨G176,0,none⟩ = some (.int .i64 ((rd_T39 l1 x17_1).f0)):=zk K176 0;have hcz19_1 : w17.cell? ⟨G176,1,none⟩ = some (.int .i64 ((rd_T39 l1 x17_1).f1)):=zk K176 1;have hcz19_2 : w17.cell? ⟨G176,2,none⟩ = some (.float .f64 ((rd_T39 l1 x17_1).f2)):=zk K176 2;have hcz19_3 : w17.cell? ⟨G176,3,none⟩ = some (.int .i64 ((rd_T39 l1 x17_1).f3)):=zk K176 3;have hcz19_4 : w17.cell? ⟨G176,4,none⟩ = some (.float .f64 ((rd_T39 l1 x17_1).f4)):=zk K176 4;have hcz19_5 : w17.cell? ⟨G176,5,none⟩ = some (.int .i64 ((rd_T39 l1 x17_1).f5)):=zk K176 5;have hfz19_0:=bF K176.1 0;have hfz19_1:=bF K176.1 1;have hfz19_2:=bF K176.1 2;have hfz19_3:=bF K176.1 3;have hfz19_4:=bF K176.1 4;have hfz19_5:=bF K176.1 5)|((with_reducible refine gate_calleeV (c:=.tmp 26) rfl ?_);refine goesLV_ (some 29) rfl rfl Try.func51 (by kernel_rfl) rfl #[.agg #[.int .i64 ((rd_T39 l0 x17_1).f0),.int .i64 ((rd_T39 l0 x17_1).f1),.float .f64 ((rd_T39 l0 x17_1).f2),.int .i64 ((rd_T39 l0 x17_1).f3),.float .f64 ((rd_T39 l0 x17_1).f4),.int .i64 ((rd_T39 l0 x17_1).f5)],.agg #[.int .i64 ((rd_T39 l1 x17_1).f0),.int .i64 ((rd_T39 l1 x17_1).f1),.float .f64 ((rd_T39 l1 x17_1).f2),.int .i64 ((rd_T39 l1 x17_1).f3),.float .f64 ((rd_T39 l1 x17_1).f4),.int .i64 ((rd_T39 l1 x17_1).f5)]] rfl (by (try simp only [List.map_toArray,List.map_cons,List.map_nil]);first|done|rfl|(simp only [List.length_drop,List.length_take];rfl)) ?_;(with_reducible refine (table_same.calls ((rd_T39 l0 x17_1).f0) ((rd_T39 l0 x17_1).f1) ((rd_T39 l0 x17_1).f2) ((rd_T39 l0 x17_1).f3) ((rd_T39 l0 x17_1).f4) ((rd_T39 l0 x17_1).f5) ((rd_T39 l1 x17_1).f0) ((rd_T39 l1 x17_1).f1) ((rd_T39 l1 x17_1).f2) ((rd_T39 l1 x17_1).f3) ((rd_T39 l1 x17_1).f4) ((rd_T39 l1 x17_1).f5) true _ A9.out).mono ?_);rintro e w20 ⟨rfl,hb⟩;refine ⟨_,rfl,?_⟩;replace K174:=zB K174 hb;replace K176:=zB K176 hb;replace HB:=zS HB hb;(try clear hb)))
         go_roundg k1
         case measure => have:=HK1.out;omega
         case rel => exact ⟨(wrap64 (x17_1 + 1)),ze,H',⟨by have:=HK1.out;omega⟩,⟨zH HB⟩⟩
        ·replace c10:=Bool.eq_false_iff.mpr c10
         subst c10
         have H1 : (some false) = some r:=by rw [if_neg (show ¬ (false = true) by decide)] at H;exact H
         clear H
         have H:=H1
         clear H1
         obtain rfl:=Option.some.inj H
         have p173 : 0 ≤ (x17_1 : Int):=zd
         have q173 : x17_1 < (l0.length : Int):=zd
         obtain ⟨ad173,e173,hx173_0,hx173_1,hx173_2,hx173_3,hx173_4,hx173_5⟩:=at_T39 HR0.out x17_1 p173 q173
         cases e173
         replace hx173_0:=zh HB hx173_0
         replace hx173_1:=zh HB hx173_1
         replace hx173_2:=zh HB hx173_2
         replace hx173_3:=zh HB hx173_3
         replace hx173_4:=zh HB hx173_4
         replace hx173_5:=zh HB hx173_5
         replace p173:=eq_true p173
         replace q173:=eq_true q173
         go_wp2_with (first|((with_reducible refine gate_dst (N:=8) rfl ?_);refine zb (N:=8) (cs:=#[.int .i64 0,.int .i64 0,.float .f64 0,.int .i64 0,.float .f64 0,.int .i64 0]) (t:=39) ?_;intro G174 hg w21 hbox hb;have K174:=Aside0.mk (hbox);have GW174:=zN HB hg;have GE174:=zN HB hg;replace HB:=zS HB hb;clear hb hbox hg;have hcz22_0 : w21.cell? ⟨G174,0,none⟩ = some (.int .i64 0):=zk K174 0;have hcz22_1 : w21.cell? ⟨G174,1,none⟩ = some (.int .i64 0):=zk K174 1;have hcz22_2 : w21.cell? ⟨G174,2,none⟩ = some (.float .f64 0):=zk K174 2;have hcz22_3 : w21.cell? ⟨G174,3,none⟩ = some (.int .i64 0):=zk K174 3;have hcz22_4 : w21.cell? ⟨G174,4,none⟩ = some (.float .f64 0):=zk K174 4;have hcz22_5 : w21.cell? ⟨G174,5,none⟩ = some (.int .i64 0):=zk K174 5;have hfz22_0:=bF K174.1 0;have hfz22_1:=bF K174.1 1;have hfz22_2:=bF K174.1 2;have hfz22_3:=bF K174.1 3;have hfz22_4:=bF K174.1 4;have hfz22_5:=bF K174.1 5)|((with_reducible refine gate_store (t:=39) (p:=8) rfl ?_);refine store_event (t:=39) (p:=8) (v:=?vo_w23) (w1:=((((((w21.setCell ⟨G174,0,none⟩ (.int .i64 ((rd_T39 l0 x17_1).f0))).setCell ⟨G174,1,none⟩ (.int .i64 ((rd_T39 l0 x17_1).f1))).setCell ⟨G174,2,none⟩ (.float .f64 ((rd_T39 l0 x17_1).f2))).setCell ⟨G174,3,none⟩ (.int .i64 ((rd_T39 l0 x17_1).f3))).setCell ⟨G174,4,none⟩ (.float .f64 ((rd_T39 l0 x17_1).f4))).setCell ⟨G174,5,none⟩ (.int .i64 ((rd_T39 l0 x17_1).f5)))) ?hg ?ho ?hn ?hr ?_;(case ho => rfl);(case hg => rfl);(case hn => rfl);(case hr => first|(go_simp;done)|(go_simp;rfl));intro w23 hw;replace K174 : Aside0 (w23.heap[G174]? = some (.cells #[.int .i64 ((rd_T39 l0 x17_1).f0),.int .i64 ((rd_T39 l0 x17_1).f1),.float .f64 ((rd_T39 l0 x17_1).f2),.int .i64 ((rd_T39 l0 x17_1).f3),.float .f64 ((rd_T39 l0 x17_1).f4),.int .i64 ((rd_T39 l0 x17_1).f5)] 39 (0,0))):=⟨(by rw [hw];exact (zF K174))⟩;replace HB : Aside0 (Below w.heap.size w w23):=⟨(by rw [hw];exact (zH HB))⟩;clear hw;have p175 : 0 ≤ (x17_1 : Int):=zd;have q175 : x17_1 < (l1.length : Int):=zd;obtain ⟨ad175,e175,hx175_0,hx175_1,hx175_2,hx175_3,hx175_4,hx175_5⟩:=at_T39 HR1.out x17_1 p175 q175;cases e175;replace hx175_0:=zh HB hx175_0;replace hx175_1:=zh HB hx175_1;replace hx175_2:=zh HB hx175_2;replace hx175_3:=zh HB hx175_3;replace hx175_4:=zh HB hx175_4;replace hx175_5:=zh HB hx175_5;replace p175:=eq_true p175;replace q175:=eq_true q175)|((with_reducible refine gate_dst (N:=9) rfl ?_);refine zb (N:=9) (cs:=#[.int .i64 0,.int .i64 0,.float .f64 0,.int .i64 0,.float .f64 0,.int .i64 0]) (t:=39) ?_;intro G176 hg w24 hbox hb;have K176:=Aside0.mk (hbox);have GW176:=zN HB hg;have GE176:=zN HB hg;replace HB:=zS HB hb;have NB174_176:=zL K174 hg;have NB176_174:=zG K174 hg;replace K174:=zB K174 hb;clear hb hbox hg;have hnb25:=NB176_174.1;have hnc25:=NB174_176.1;have hcz26_0 : w24.cell? ⟨G176,0,none⟩ = some (.int .i64 0):=zk K176 0;have hcz26_1 : w24.cell? ⟨G176,1,none⟩ = some (.int .i64 0):=zk K176 1;have hcz26_2 : w24.cell? ⟨G176,2,none⟩ = some (.float .f64 0):=zk K176 2;have hcz26_3 : w24.cell? ⟨G176,3,none⟩ = some (.int .i64 0):=zk K176 3;have hcz26_4 : w24.cell? ⟨G176,4,none⟩ = some (.float .f64 0):=zk K176 4;have hcz26_5 : w24.cell? ⟨G176,5,none⟩ = some (.int .i64 0):=zk K176 5;have hfz26_0:=bF K176.1 0;have hfz26_1:=bF K176.1 1;have hfz26_2:=bF K176.1 2;have hfz26_3:=bF K176.1 3;have hfz26_4:=bF K176.1 4;have hfz26_5:=bF K176.1 5)|((with_reducible refine gate_store (t:=39) (p:=9) rfl ?_);refine store_event (t:=39) (p:=9) (v:=?vo_w27) (w1:=((((((w24.setCell ⟨G176,0,none⟩ (.int .i64 ((rd_T39 l1 x17_1).f0))).setCell ⟨G176,1,none⟩ (.int .i64 ((rd_T39 l1 x17_1).f1))).setCell ⟨G176,2,none⟩ (.float .f64 ((rd_T39 l1 x17_1).f2))).setCell ⟨G176,3,none⟩ (.int .i64 ((rd_T39 l1 x17_1).f3))).setCell ⟨G176,4,none⟩ (.float .f64 ((rd_T39 l1 x17_1).f4))).setCell ⟨G176,5,none⟩ (.int .i64 ((rd_T39 l1 x17_1).f5)))) ?hg ?ho ?hn ?hr ?_;(case ho => rfl);(case hg => rfl);(case hn => rfl);(case hr => first|(go_simp;done)|(go_simp;rfl));intro w27 hw;replace K174 : Aside0 (w27.heap[G174]? = some (.cells #[.int .i64 ((rd_T39 l0 x17_1).f0),.int .i64 ((rd_T39 l0 x17_1).f1),.float .f64 ((rd_T39 l0 x17_1).f2),.int .i64 ((rd_T39 l0 x17_1).f3),.float .f64 ((rd_T39 l0 x17_1).f4),.int .i64 ((rd_T39 l0 x17_1).f5)] 39 (0,0))):=⟨(by rw [hw];exact (zf K174))⟩;replace K176 : Aside0 (w27.heap[G176]? = some (.cells #[.int .i64 ((rd_T39 l1 x17_1).f0),.int .i64 ((rd_T39 l1 x17_1).f1),.float .f64 ((rd_T39 l1 x17_1).f2),.int .i64 ((rd_T39 l1 x17_1).f3),.float .f64 ((rd_T39 l1 x17_1).f4),.int .i64 ((rd_T39 l1 x17_1).f5)] 39 (0,0))):=⟨(by rw [hw];exact (zF K176))⟩;replace HB : Aside0 (Below w.heap.size w w27):=⟨(by rw [hw];exact (zH HB))⟩;clear hw;have hcz28_0 : w27.cell? ⟨G174,0,none⟩ = some (.int .i64 ((rd_T39 l0 x17_1).f0)):=zk K174 0;have hcz28_1 : w27.cell? ⟨G174,1,none⟩ = some (.int .i64 ((rd_T39 l0 x17_1).f1)):=zk K174 1;have hcz28_2 : w27.cell? ⟨G174,2,none⟩ = some (.float .f64 ((rd_T39 l0 x17_1).f2)):=zk K174 2;have hcz28_3 : w27.cell? ⟨G174,3,none⟩ = some (.int .i64 ((rd_T39 l0 x17_1).f3)):=zk K174 3;have hcz28_4 : w27.cell? ⟨G174,4,none⟩ = some (.float .f64 ((rd_T39 l0 x17_1).f4)):=zk K174 4;have hcz28_5 : w27.cell? ⟨G174,5,none⟩ = some (.int .i64 ((rd_T39 l0 x17_1).f5)):=zk K174 5;have hfz28_0:=bF K174.1 0;have hfz28_1:=bF K174.1 1;have hfz28_2:=bF K174.1 2;have hfz28_3:=bF K174.1 3;have hfz28_4:=bF K174.1 4;have hfz28_5:=bF K174.1 5;have hcz29_0 : w27.cell? ⟨G176,0,none⟩ = some (.int .i64 ((rd_T39 l1 x17_1).f0)):=zk K176 0;have hcz29_1 : w27.cell? ⟨G176,1,none⟩ = some (.int .i64 ((rd_T39 l1 x17_1).f1)):=zk K176 1;have hcz29_2 : w27.cell? ⟨G176,2,none⟩ = some (.float .f64 ((rd_T39 l1 x17_1).f2)):=zk K176 2;have hcz29_3 : w27.cell? ⟨G176,3,none⟩ = some (.int .i64 ((rd_T39 l1 x17_1).f3)):=zk K176 3;have hcz29_4 : w27.cell? ⟨G176,4,none⟩ = some (.float .f64 ((rd_T39 l1 x17_1).f4)):=zk K176 4;have hcz29_5 : w27.cell? ⟨G176,5,none⟩ = some (.int .i64 ((rd_T39 l1 x17_1).f5)):=zk K176 5;have hfz29_0:=bF K176.1 0;have hfz29_1:=bF K176.1 1;have hfz29_2:=bF K176.1 2;have hfz29_3:=bF K176.1 3;have hfz29_4:=bF K176.1 4;have hfz29_5:=bF K176.1 5)|((with_reducible refine gate_calleeV (c:=.tmp 26) rfl ?_);refine goesLV_ (some 29) rfl rfl Try.func51 (by kernel_rfl) rfl #[.agg #[.int .i64 ((rd_T39 l0 x17_1).f0),.int .i64 ((rd_T39 l0 x17_1).f1),.float .f64 ((rd_T39 l0 x17_1).f2),.int .i64 ((rd_T39 l0 x17_1).f3),.float .f64 ((rd_T39 l0 x17_1).f4),.int .i64 ((rd_T39 l0 x17_1).f5)],.agg #[.int .i64 ((rd_T39 l1 x17_1).f0),.int .i64 ((rd_T39 l1 x17_1).f1),.float .f64 ((rd_T39 l1 x17_1).f2),.int .i64 ((rd_T39 l1 x17_1).f3),.float .f64 ((rd_T39 l1 x17_1).f4),.int .i64 ((rd_T39 l1 x17_1).f5)]] rfl (by (try simp only [List.map_toArray,List.map_cons,List.map_nil]);first|done|rfl|(simp only [List.length_drop,List.length_take];rfl)) ?_;(with_reducible refine (table_same.calls ((rd_T39 l0 x17_1).f0) ((rd_T39 l0 x17_1).f1) ((rd_T39 l0 x17_1).f2) ((rd_T39 l0 x17_1).f3) ((rd_T39 l0 x17_1).f4) ((rd_T39 l0 x17_1).f5) ((rd_T39 l1 x17_1).f0) ((rd_T39 l1 x17_1).f1) ((rd_T39 l1 x17_1).f2) ((rd_T39 l1 x17_1).f3) ((rd_T39 l1 x17_1).f4) ((rd_T39 l1 x17_1).f5) false _ A9.out).mono ?_);rintro e w30 ⟨rfl,hb⟩;refine ⟨_,rfl,?_⟩;replace K174:=zB K174 hb;replace K176:=zB K176 hb;replace HB:=zS HB hb;(try clear hb)))
         go_ret
         exact ⟨by first|rfl|(simp [errW_none,errW_some] <;> rfl)|(simp [*,errW_none,errW_some] <;> rfl),zH HB⟩
       ·rw [if_neg c8] at H
        exact absurd H (by simp)
      ·rw [if_neg c7] at H
       exact absurd H (by simp)
     ·rw [if_neg c6] at H
      exact absurd H (by simp)
    ·rw [if_neg c5] at H
     have c5b0 : decide (x17_1 < (l0.length : Int)) = false:=decide_eq_false c5
     clear c5
     obtain rfl:=Option.some.inj H
     go_wp2
     go_ret
     exact ⟨by first|rfl|(simp [errW_none,errW_some] <;> rfl)|(simp [*,errW_none,errW_some] <;> rfl),zH HB⟩
 ·rw [if_neg c4] at H
  have c4b0 : ((l0.length : Int) == (l1.length : Int)) = false:=beq_eq_false_iff_ne.mpr c4
  have c4b1 : ((l0.length : Int) != (l1.length : Int)) = true:=bne_iff_ne.mpr c4
  have c4b2 : (l0.length == l1.length) = false:=by first|simpa using c4|(simp at c4 ⊢;omega)
  obtain rfl:=Option.some.inj H
  go_enter Try.func50,Try.ntmps50
  go_wp2
  go_ret
  exact ⟨by first|rfl|(simp [errW_none,errW_some] <;> rfl)|(simp [*,errW_none,errW_some] <;> rfl),zH HB⟩

/-! ### table_Same: function 20 -/
def table_Same.f (k : Nat) (l0 : List (S39)) (l1 : List (S39)) : Option (Bool) := (api_Entry_50.f k l0 l1).bind fun t178 => (some t178)
theorem table_Same.mono : ∀ a0 a1 k, LeO (table_Same.f k a0 a1) (table_Same.f (k + 1) a0 a1) := by
 intro a0 a1 k
 unfold table_Same.f
 repeat' first
   | (with_reducible exact api_Entry_50.mono _ _ _)
   | (with_reducible exact LeO.refl _)
   | (with_reducible exact LeO.none _)
   | (with_reducible refine LeO.ite ?_ ?_)
   | (with_reducible refine LeO.bind ?_ (fun _ => ?_))
   | exact api_Entry_50.mono _ _ _
   | exact LeO.none _
   | refine LeO.ite ?_ ?_
   | refine LeO.bind ?_ (fun _ => ?_)
set_option maxHeartbeats 8000000 in
set_option maxRecDepth 100000 in
theorem table_Same.calls (k : Nat) (A0 : Option Addr) (c0 : Nat) (l0 : List (S39)) (A1 : Option Addr) (c1 : Nat) (l1 : List (S39)) (r : Bool) (w : World) (hr0 : Kd.C k39 w A0 l0.length l0) (hc0 : l0.length ≤ c0) (hr1 : Kd.C k39 w A1 l1.length l1) (hc1 : l1.length ≤ c1) (h : table_Same.f k l0 l1 = some r) :
  Calls Try.prog 20 #[.slice A0 l0.length c0,.slice A1 l1.length c1] w fun e w' => e = .returned (.bool r) ∧ Below w.heap.size w w':=by
 have HR0:=Aside0.mk hr0
 have HC0:=Aside0.mk hc0
 clear hr0 hc0
 have HR1:=Aside0.mk hr1
 have HC1:=Aside0.mk hc1
 clear hr1 hc1
 have HB:=Aside0.mk (Below.refl w.heap.size w)
 have H : ((api_Entry_50.f k l0 l1).bind fun t178 => (some t178)) = some r:=h
 clear h
 replace H:=Option.bind_eq_some_iff.mp H
 obtain ⟨t178,A30,H⟩:=H
 replace H : (some t178) = some r:=H
 have A3:=Aside0.mk A30
 clear A30
 obtain rfl:=Option.some.inj H
 go_enter Try.func20,Try.ntmps20
 go_wp2_with (first|((with_reducible refine gate_callee (f:=50) rfl ?_);refine zg (some 7) Try.func50 #[.slice A0 l0.length c0,.slice A1 l1.length c1,.func (.func 51) #[] #[]] ?_;(with_reducible refine (api_Entry_50.calls k _ _ l0 _ _ l1 t178 _ ?side1 ?side2 ?side3 ?side4 A3.out).mono ?_);(case side1 => exact zC HR0.out);(case side2 => exact HC0.out);(case side3 => exact zC HR1.out);(case side4 => exact HC1.out);rintro e w4 ⟨rfl,hb⟩;refine ⟨_,rfl,?_⟩;replace HB:=zS HB hb;(try clear hb)))
 go_ret
 exact ⟨by first|rfl|(simp [errW_none,errW_some] <;> rfl)|(simp [*,errW_none,errW_some] <;> rfl),zH HB⟩

/-! ### beaconref01_Same: function 52 -/
def beaconref01_Same.f (a0 : Nat) (a1 : Nat) : Option (Bool) := some ((fbits a0) == (fbits a1))
set_option maxHeartbeats 8000000 in
set_option maxRecDepth 100000 in
theorem beaconref01_Same.calls (a0 : Nat) (a1 : Nat) (r : Bool) (w : World) (h : beaconref01_Same.f a0 a1 = some r) :
  Calls Try.prog 52 #[.float .f64 a0,.float .f64 a1] w fun e w' => e = .returned (.bool r) ∧ Drawn0 w w':=by
 have H : (some ((fbits a0) == (fbits a1))) = some r:=h
 clear h
 obtain rfl:=Option.some.inj H
 go_enter Try.func52,Try.ntmps52
 go_wp2
 go_ret
 exact ⟨by first|rfl|(simp;done)|(simp [*];done),by repeat (first|exact Drawn0.refl _|apply Drawn0.step)⟩

end Go.Proofs.Ytgmjlhpigfaicaa.XA
