/- Go functions of this seat as Lean functions, with proofs that the calls come to them. (Written by xprint.py, a program of this session, over the kit's print.) -/
import Derived.Test.YtpcgjdllgdkobaaXDx0
namespace Go.Proofs.Ytpcgjdllgdkobaa.XD
open Go.RowKit Go.Proofs.YtpcgjdllgdkobaaW.PrintWords Go.Proofs.YtpcgjdllgdkobaaW.PrintLast Go.Proofs.YtpcgjdllgdkobaaW.PrintMore
attribute [local go_sem] max2_int min2_int max_two min_two max_three min_three max_four min_four   -- for this text's walks alone
set_option linter.unusedVariables false
set_option linter.unusedSimpArgs false
open List renaming setIfInBounds_toArray → xA, set_cons_zero → xB, set_cons_succ → xC
open Go.Proofs.YtpcgjdllgdkobaaW.PrintWords renaming blk_drewN → bN, blk_drew → bD, blk_alloc → bA, below_set → bS, blk_frozen → bF, blk_cell → bC, cell_far → cF, blk_far → bZ, blk_below → bB, pw_below_drewN → bwN, below_drew1 → bw1, below_alloc → bwA
open Go.Proofs.YtpcgjdllgdkobaaW.PrintZ
open Bool renaming true → T,false → F

/-! ### beaconref06_SameNews: function 17 -/
def beaconref06_SameNews.l0 : Nat → List (S61) → List (S61) → Int → Option (Bool)
 | 0, _, _, _ => none
 | k + 1, x0, x1, x5 => if x5 < (x0.length : Int) then (if 0 ≤ x5 then (if x5 < (x1.length : Int) then (if ((rd_T61 x0 x5).f0) = ((rd_T61 x1 x5).f0) then (if ((rd_T61 x0 x5).f1) = ((rd_T61 x1 x5).f1) then (if ((rd_T61 x0 x5).f4) = ((rd_T61 x1 x5).f4) then (if (fbits ((rd_T61 x0 x5).f2)) = (fbits ((rd_T61 x1 x5).f2)) then (if (fbits ((rd_T61 x0 x5).f3)) = (fbits ((rd_T61 x1 x5).f3)) then (beaconref06_SameNews.l0 k x0 x1 (wrap64 (x5 + 1))) else (some false)) else (some false)) else (some false)) else (some false)) else (some false)) else (none)) else (none)) else (some true)
def beaconref06_SameNews.f (k : Nat) (l0 : List (S61)) (l1 : List (S61)) : Option (Bool) := if (l0.length : Int) = (l1.length : Int) then (beaconref06_SameNews.l0 k l0 l1 0) else (some false)
theorem beaconref06_SameNews.mono_l : ∀ k, (∀ y0 y1 y2, LeO (beaconref06_SameNews.l0 k y0 y1 y2) (beaconref06_SameNews.l0 (k + 1) y0 y1 y2))
 | 0 => fun _ _ _ r h => by simp [beaconref06_SameNews.l0] at h
 | k + 1 => by
  have ih0:=beaconref06_SameNews.mono_l k
  ·intro y0 y1 y2
   unfold beaconref06_SameNews.l0
   repeat' first
   | (with_reducible exact ih0 _ _ _)
   | (with_reducible exact LeO.refl _)
   | (with_reducible exact LeO.none _)
   | (with_reducible refine LeO.ite ?_ ?_)
   | (with_reducible refine LeO.bind ?_ (fun _ => ?_))
   | exact ih0 _ _ _
   | exact LeO.none _
   | refine LeO.ite ?_ ?_
   | refine LeO.bind ?_ (fun _ => ?_)
theorem beaconref06_SameNews.mono : ∀ a0 a1 k, LeO (beaconref06_SameNews.f k a0 a1) (beaconref06_SameNews.f (k + 1) a0 a1) := by
 intro a0 a1 k
 have ih0:=beaconref06_SameNews.mono_l k
 unfold beaconref06_SameNews.f
 repeat' first
   | (with_reducible exact ih0 _ _ _)
   | (with_reducible exact LeO.refl _)
   | (with_reducible exact LeO.none _)
   | (with_reducible refine LeO.ite ?_ ?_)
   | (with_reducible refine LeO.bind ?_ (fun _ => ?_))
   | exact ih0 _ _ _
   | exact LeO.none _
   | refine LeO.ite ?_ ?_
   | refine LeO.bind ?_ (fun _ => ?_)
def beaconref06_SameNews.T8 : Bool × List (List Nat × List Nat) := (true, [([], []), ([0], [0]), ([], []), ([2], [2]), ([1, 3], [1, 3]), ([4], [4]), ([5], [5]), ([6, 5], [5, 6]), ([5], [5]), ([8, 5], [5, 8]), ([7, 9, 5], [5, 7, 9]), ([5, 10], [5, 10]), ([11, 5], [11]), ([12], [12]), ([13, 12], [12, 13]), ([12], [12]), ([15, 12], [12, 15]), ([14, 16, 12], [12, 14, 16]), ([12, 17], [12, 17]), ([18, 12], [18]), ([19], [19]), ([20, 19], [19, 20]), ([21, 19, 19], [19, 21]), ([19], [19]), ([23, 19], [19, 23]), ([24, 22, 19], [19, 24]), ([22, 25, 19], [19, 22, 25]), ([19, 26], [19, 26]), ([27, 25], [27]), ([28], [28]), ([29, 28], [28, 29]), ([30, 28, 28], [28, 30]), ([28], [28]), ([32, 28], [28, 32]), ([33, 31, 28], [28, 33]), ([31, 34, 28], [28, 31, 34]), ([28, 35], [28, 35])])
def beaconref06_SameNews.B8 : List Nat := [0, 1, 0, 4, 15, 31, 63, 127, 63, 319, 1023, 2047, 4095, 8191, 16383, 8191, 40959, 131071, 262143, 524287, 1048575, 2097151, 4194303, 1048575, 9437183, 33554431, 67108863, 134217727, 268435455, 536870911, 1073741823, 2147483647, 536870911, 4831838207, 17179869183, 34359738367, 68719476735]
theorem beaconref06_SameNews.tab8 : rtab .any (opsOf Try.f17 8) = beaconref06_SameNews.T8 := by kernel_rfl
theorem beaconref06_SameNews.bits8 : waitsOk beaconref06_SameNews.T8.2 beaconref06_SameNews.B8 = true := by kernel_rfl
set_option maxHeartbeats 8000000 in
set_option maxRecDepth 100000 in
theorem beaconref06_SameNews.calls (k : Nat) (A0 : Option Addr) (c0 : Nat) (l0 : List (S61)) (A1 : Option Addr) (c1 : Nat) (l1 : List (S61)) (r : Bool) (w : World) (hr0 : Kd.C k61 w A0 l0.length l0) (hc0 : l0.length ≤ c0) (hr1 : Kd.C k61 w A1 l1.length l1) (hc1 : l1.length ≤ c1) (h : beaconref06_SameNews.f k l0 l1 = some r) :
  Calls Try.prog 17 #[.slice A0 l0.length c0,.slice A1 l1.length c1] w fun e w' => e = .returned (.bool r) ∧ Below w.heap.size w w':=by
 have hu61:=Try.underlying61
 have HR0:=zA hr0
 have HC0:=zA hc0
 clear hr0 hc0
 have HR1:=zA hr1
 have HC1:=zA hc1
 clear hr1 hc1
 have HB:=zA (Below.refl w.heap.size w)
 have H : (if (l0.length : Int) = (l1.length : Int) then (beaconref06_SameNews.l0 k l0 l1 0) else (some false)) = some r:=h
 clear h
 by_cases c3 : (l0.length : Int) = (l1.length : Int)
 ·rw [if_pos c3] at H
  have c3b0 : ((l0.length : Int) == (l1.length : Int)) = true:=beq_iff_eq.mpr c3
  have c3b1 : ((l0.length : Int) != (l1.length : Int)) = false:=bne_eq_false_iff_eq.mpr c3
  have c3b2 : (l0.length == l1.length) = true:=by first|simpa using c3|(simp at c3 ⊢;omega)
  clear c3
  have H':=zA H
  clear H
  go_enter Try.func17,Try.ntmps17
  go_wp2
  go_loopg [5] k (fun kq v5 w' => ∃ (x5_1 : Int),v5 = .int .i64 x5_1 ∧ Aside0 (beaconref06_SameNews.l0 kq l0 l1 x5_1 = some r) ∧ Aside0 (kq ≤ k) ∧ Aside0 (Below w.heap.size w w'))
  case atStart => exact ⟨(0),ze,H',⟨Nat.le_refl _⟩,⟨zH HB⟩⟩
  case round =>
   clear H'
   try clear c1;try clear c3;try clear c3b0;try clear c3b1;try clear c3b2
   obtain ⟨x5_1,rfl,HA,HK1,HB⟩:=hrel
   cases gk with
   | zero => exact absurd HA.out (by simp [beaconref06_SameNews.l0])
   | succ k1 =>
    have H:=HA.out
    clear HA
    simp only [beaconref06_SameNews.l0] at H
    by_cases c4 : x5_1 < (l0.length : Int)
    ·rw [if_pos c4] at H
     have c4b0 : decide (x5_1 < (l0.length : Int)) = true:=decide_eq_true c4
     clear c4
     by_cases c5 : 0 ≤ x5_1
     ·rw [if_pos c5] at H
      have c5b0 : decide (0 ≤ x5_1) = true:=decide_eq_true c5
      clear c5
      by_cases c6 : x5_1 < (l1.length : Int)
      ·rw [if_pos c6] at H
       have c6b0 : decide (x5_1 < (l1.length : Int)) = true:=decide_eq_true c6
       clear c6
       by_cases c7 : ((rd_T61 l0 x5_1).f0) = ((rd_T61 l1 x5_1).f0)
       ·rw [if_pos c7] at H
        have c7b0 : (((rd_T61 l0 x5_1).f0) == ((rd_T61 l1 x5_1).f0)) = true:=beq_iff_eq.mpr c7
        have c7b1 : (((rd_T61 l0 x5_1).f0) != ((rd_T61 l1 x5_1).f0)) = false:=bne_eq_false_iff_eq.mpr c7
        clear c7
        by_cases c8 : ((rd_T61 l0 x5_1).f1) = ((rd_T61 l1 x5_1).f1)
        ·rw [if_pos c8] at H
         have c8b0 : (((rd_T61 l0 x5_1).f1) == ((rd_T61 l1 x5_1).f1)) = true:=beq_iff_eq.mpr c8
         have c8b1 : (((rd_T61 l0 x5_1).f1) != ((rd_T61 l1 x5_1).f1)) = false:=bne_eq_false_iff_eq.mpr c8
         clear c8
         by_cases c9 : ((rd_T61 l0 x5_1).f4) = ((rd_T61 l1 x5_1).f4)
         ·rw [if_pos c9] at H
          have c9b0 : (((rd_T61 l0 x5_1).f4) == ((rd_T61 l1 x5_1).f4)) = true:=beq_iff_eq.mpr c9
          have c9b1 : (((rd_T61 l0 x5_1).f4) != ((rd_T61 l1 x5_1).f4)) = false:=bne_eq_false_iff_eq.mpr c9
          clear c9
          by_cases c10 : (fbits ((rd_T61 l0 x5_1).f2)) = (fbits ((rd_T61 l1 x5_1).f2))
          ·rw [if_pos c10] at H
           have c10b0 : ((fbits ((rd_T61 l0 x5_1).f2)) == (fbits ((rd_T61 l1 x5_1).f2))) = true:=beq_iff_eq.mpr c10
           have c10b1 : ((fbits ((rd_T61 l0 x5_1).f2)) != (fbits ((rd_T61 l1 x5_1).f2))) = false:=bne_eq_false_iff_eq.mpr c10
           clear c10
           by_cases c11 : (fbits ((rd_T61 l0 x5_1).f3)) = (fbits ((rd_T61 l1 x5_1).f3))
           ·rw [if_pos c11] at H
            have c11b0 : ((fbits ((rd_T61 l0 x5_1).f3)) == (fbits ((rd_T61 l1 x5_1).f3))) = true:=beq_iff_eq.mpr c11
            have c11b1 : ((fbits ((rd_T61 l0 x5_1).f3)) != (fbits ((rd_T61 l1 x5_1).f3))) = false:=bne_eq_false_iff_eq.mpr c11
            clear c11
            have H':=zA H
            clear H
            have p214 : 0 ≤ (x5_1 : Int):=zd
            have q214 : x5_1 < (l0.length : Int):=zd
            obtain ⟨ad214,e214,hx214_0,hx214_1,hx214_2,hx214_3,hx214_4⟩:=at_T61 HR0.out x5_1 p214 q214
            cases e214
            replace hx214_0:=zh HB hx214_0
            replace hx214_1:=zh HB hx214_1
            replace hx214_2:=zh HB hx214_2
            replace hx214_3:=zh HB hx214_3
            replace hx214_4:=zh HB hx214_4
            replace p214:=eq_true p214
            replace q214:=eq_true q214
            try go_wp2_with (first|((with_reducible refine gate_dst (N:=6) rfl ?_);refine zb (N:=6) (cs:=#[.int .i64 0,.int .i64 0,.float .f64 0,.float .f64 0,.int .i64 0]) (t:=61) ?_;intro G215 hg w12 hbox hb;have K215:=zA (hbox);have GW215:=zN HB hg;have GE215:=zN HB hg;replace HB:=zS HB hb;clear hb hbox hg;obtain ⟨hcz13_0,hcz13_1,hcz13_2,hcz13_3,hcz13_4,hfz13_0,hfz13_1,hfz13_2,hfz13_3,hfz13_4⟩:=zc5 K215)|((with_reducible refine gate_store (t:=61) (p:=6) rfl ?_);refine store_event (t:=61) (p:=6) (v:=?vo_w14) (w1:=(((((w12.setCell ⟨G215,0,none⟩ (.int .i64 ((rd_T61 l0 x5_1).f0))).setCell ⟨G215,1,none⟩ (.int .i64 ((rd_T61 l0 x5_1).f1))).setCell ⟨G215,2,none⟩ (.float .f64 ((rd_T61 l0 x5_1).f2))).setCell ⟨G215,3,none⟩ (.float .f64 ((rd_T61 l0 x5_1).f3))).setCell ⟨G215,4,none⟩ (.int .i64 ((rd_T61 l0 x5_1).f4)))) ?hg ?ho ?hn ?hr ?_;(case ho => rfl);(case hg => rfl);(case hn => rfl);(case hr => first|(go_simp;done)|(go_simp;rfl));intro w14 hw;replace K215:=zVp hw (.cells #[.int .i64 ((rd_T61 l0 x5_1).f0),.int .i64 ((rd_T61 l0 x5_1).f1),.float .f64 ((rd_T61 l0 x5_1).f2),.float .f64 ((rd_T61 l0 x5_1).f3),.int .i64 ((rd_T61 l0 x5_1).f4)] 61 (0,0)) K215;replace HB:=zU hw HB;clear hw;have p216 : 0 ≤ (x5_1 : Int):=zd;have q216 : x5_1 < (l1.length : Int):=zd;obtain ⟨ad216,e216,hx216_0,hx216_1,hx216_2,hx216_3,hx216_4⟩:=at_T61 HR1.out x5_1 p216 q216;cases e216;replace hx216_0:=zh HB hx216_0;replace hx216_1:=zh HB hx216_1;replace hx216_2:=zh HB hx216_2;replace hx216_3:=zh HB hx216_3;replace hx216_4:=zh HB hx216_4;replace p216:=eq_true p216;replace q216:=eq_true q216)|((with_reducible refine gate_dst (N:=7) rfl ?_);refine zb (N:=7) (cs:=#[.int .i64 0,.int .i64 0,.float .f64 0,.float .f64 0,.int .i64 0]) (t:=61) ?_;intro G217 hg w15 hbox hb;have K217:=zA (hbox);have GW217:=zN HB hg;have GE217:=zN HB hg;replace HB:=zS HB hb;have NB215_217:=zL K215 hg;have NB217_215:=zG K215 hg;replace K215:=zB K215 hb;clear hb hbox hg;have:=NB217_215.1;have:=NB215_217.1;obtain ⟨hcz17_0,hcz17_1,hcz17_2,hcz17_3,hcz17_4,hfz17_0,hfz17_1,hfz17_2,hfz17_3,hfz17_4⟩:=zc5 K217)|((with_reducible refine gate_store (t:=61) (p:=7) rfl ?_);refine store_event (t:=61) (p:=7) (v:=?vo_w18) (w1:=(((((w15.setCell ⟨G217,0,none⟩ (.int .i64 ((rd_T61 l1 x5_1).f0))).setCell ⟨G217,1,none⟩ (.int .i64 ((rd_T61 l1 x5_1).f1))).setCell ⟨G217,2,none⟩ (.float .f64 ((rd_T61 l1 x5_1).f2))).setCell ⟨G217,3,none⟩ (.float .f64 ((rd_T61 l1 x5_1).f3))).setCell ⟨G217,4,none⟩ (.int .i64 ((rd_T61 l1 x5_1).f4)))) ?hg ?ho ?hn ?hr ?_;(case ho => rfl);(case hg => rfl);(case hn => rfl);(case hr => first|(go_simp;done)|(go_simp;rfl));intro w18 hw;replace K215:=zV hw K215;replace K217:=zVp hw (.cells #[.int .i64 ((rd_T61 l1 x5_1).f0),.int .i64 ((rd_T61 l1 x5_1).f1),.float .f64 ((rd_T61 l1 x5_1).f2),.float .f64 ((rd_T61 l1 x5_1).f3),.int .i64 ((rd_T61 l1 x5_1).f4)] 61 (0,0)) K217;replace HB:=zU hw HB;clear hw))
            replace K215:=zA (bD K215.1)
            replace K217:=zA (bD K217.1)
            replace HB:=zA (bw1 HB.1)
            refine start_ (n:=37) (S:=fun w' => w'.cell? ⟨G215,0,none⟩ = some (.int .i64 ((rd_T61 l0 x5_1).f0)) ∧ w'.cell? ⟨G215,1,none⟩ = some (.int .i64 ((rd_T61 l0 x5_1).f1)) ∧ w'.cell? ⟨G215,2,none⟩ = some (.float .f64 ((rd_T61 l0 x5_1).f2)) ∧ w'.cell? ⟨G215,3,none⟩ = some (.float .f64 ((rd_T61 l0 x5_1).f3)) ∧ w'.cell? ⟨G215,4,none⟩ = some (.int .i64 ((rd_T61 l0 x5_1).f4)) ∧ w'.cell? ⟨G217,0,none⟩ = some (.int .i64 ((rd_T61 l1 x5_1).f0)) ∧ w'.cell? ⟨G217,1,none⟩ = some (.int .i64 ((rd_T61 l1 x5_1).f1)) ∧ w'.cell? ⟨G217,2,none⟩ = some (.float .f64 ((rd_T61 l1 x5_1).f2)) ∧ w'.cell? ⟨G217,3,none⟩ = some (.float .f64 ((rd_T61 l1 x5_1).f3)) ∧ w'.cell? ⟨G217,4,none⟩ = some (.int .i64 ((rd_T61 l1 x5_1).f4))) (ds:=[]) #[F,F,F,F,F,F,F,F,F,F,F,F,F,F,F,F,F,F,F,F,F,F,F,F,F,F,F,F,F,F,F,F,F,F,F,F,F] (by kernel_rfl) rfl rfl ⟨zk K215 0,zk K215 1,zk K215 2,zk K215 3,zk K215 4,zk K217 0,zk K217 1,zk K217 2,zk K217 3,zk K217 4⟩ (fun hHeld => ?_);refine with_tabW beaconref06_SameNews.tab8 beaconref06_SameNews.bits8 (fun HT_ HW_ => ?_)
            generalize w18.drew = w19 at K215 K217 HB hHeld ⊢
            refine pz 0 27 #[T,F,F,F,F,F,F,F,F,F,F,F,F,F,F,F,F,F,F,F,F,F,F,F,F,F,F,F,F,F,F,F,F,F,F,F,F] HT_.1 ?_
            refine pz 2 29 #[T,F,T,F,F,F,F,F,F,F,F,F,F,F,F,F,F,F,F,F,F,F,F,F,F,F,F,F,F,F,F,F,F,F,F,F,F] HT_.1 ?_
            refine tz 1 28 #[T,T,T,F,F,F,F,F,F,F,F,F,F,F,F,F,F,F,F,F,F,F,F,F,F,F,F,F,F,F,F,F,F,F,F,F,F] HT_.1 HW_.1 hHeld ?_
            refine tz 3 30 #[T,T,T,T,F,F,F,F,F,F,F,F,F,F,F,F,F,F,F,F,F,F,F,F,F,F,F,F,F,F,F,F,F,F,F,F,F] HT_.1 HW_.1 hHeld ?_
            refine pz 4 31 #[T,T,T,T,T,F,F,F,F,F,F,F,F,F,F,F,F,F,F,F,F,F,F,F,F,F,F,F,F,F,F,F,F,F,F,F,F] HT_.1 ?_
            refine pz 5 32 #[T,T,T,T,T,T,F,F,F,F,F,F,F,F,F,F,F,F,F,F,F,F,F,F,F,F,F,F,F,F,F,F,F,F,F,F,F] HT_.1 ?_
            refine pz 6 33 #[T,T,T,T,T,T,T,F,F,F,F,F,F,F,F,F,F,F,F,F,F,F,F,F,F,F,F,F,F,F,F,F,F,F,F,F,F] HT_.1 ?_
            refine pz 8 35 #[T,T,T,T,T,T,T,F,T,F,F,F,F,F,F,F,F,F,F,F,F,F,F,F,F,F,F,F,F,F,F,F,F,F,F,F,F] HT_.1 ?_
            refine tz 7 34 #[T,T,T,T,T,T,T,T,T,F,F,F,F,F,F,F,F,F,F,F,F,F,F,F,F,F,F,F,F,F,F,F,F,F,F,F,F] HT_.1 HW_.1 hHeld ?_
            refine tz 9 36 #[T,T,T,T,T,T,T,T,T,T,F,F,F,F,F,F,F,F,F,F,F,F,F,F,F,F,F,F,F,F,F,F,F,F,F,F,F] HT_.1 HW_.1 hHeld ?_
            refine pz 10 37 #[T,T,T,T,T,T,T,T,T,T,T,F,F,F,F,F,F,F,F,F,F,F,F,F,F,F,F,F,F,F,F,F,F,F,F,F,F] HT_.1 ?_
            refine pz 11 38 #[T,T,T,T,T,T,T,T,T,T,T,T,F,F,F,F,F,F,F,F,F,F,F,F,F,F,F,F,F,F,F,F,F,F,F,F,F] HT_.1 ?_
            refine pz 12 39 #[T,T,T,T,T,T,T,T,T,T,T,T,T,F,F,F,F,F,F,F,F,F,F,F,F,F,F,F,F,F,F,F,F,F,F,F,F] HT_.1 ?_
            refine pz 13 40 #[T,T,T,T,T,T,T,T,T,T,T,T,T,T,F,F,F,F,F,F,F,F,F,F,F,F,F,F,F,F,F,F,F,F,F,F,F] HT_.1 ?_
            refine pz 15 42 #[T,T,T,T,T,T,T,T,T,T,T,T,T,T,F,T,F,F,F,F,F,F,F,F,F,F,F,F,F,F,F,F,F,F,F,F,F] HT_.1 ?_
            refine tz 14 41 #[T,T,T,T,T,T,T,T,T,T,T,T,T,T,T,T,F,F,F,F,F,F,F,F,F,F,F,F,F,F,F,F,F,F,F,F,F] HT_.1 HW_.1 hHeld ?_
            refine tz 16 43 #[T,T,T,T,T,T,T,T,T,T,T,T,T,T,T,T,T,F,F,F,F,F,F,F,F,F,F,F,F,F,F,F,F,F,F,F,F] HT_.1 HW_.1 hHeld ?_
            refine pz 17 44 #[T,T,T,T,T,T,T,T,T,T,T,T,T,T,T,T,T,T,F,F,F,F,F,F,F,F,F,F,F,F,F,F,F,F,F,F,F] HT_.1 ?_
            refine pz 18 45 #[T,T,T,T,T,T,T,T,T,T,T,T,T,T,T,T,T,T,T,F,F,F,F,F,F,F,F,F,F,F,F,F,F,F,F,F,F] HT_.1 ?_
            refine pz 19 46 #[T,T,T,T,T,T,T,T,T,T,T,T,T,T,T,T,T,T,T,T,F,F,F,F,F,F,F,F,F,F,F,F,F,F,F,F,F] HT_.1 ?_
            refine pz 20 47 #[T,T,T,T,T,T,T,T,T,T,T,T,T,T,T,T,T,T,T,T,T,F,F,F,F,F,F,F,F,F,F,F,F,F,F,F,F] HT_.1 ?_
            refine pz 23 50 #[T,T,T,T,T,T,T,T,T,T,T,T,T,T,T,T,T,T,T,T,T,F,F,T,F,F,F,F,F,F,F,F,F,F,F,F,F] HT_.1 ?_
            refine tz 21 48 #[T,T,T,T,T,T,T,T,T,T,T,T,T,T,T,T,T,T,T,T,T,T,F,T,F,F,F,F,F,F,F,F,F,F,F,F,F] HT_.1 HW_.1 hHeld ?_
            refine pz 22 49 #[T,T,T,T,T,T,T,T,T,T,T,T,T,T,T,T,T,T,T,T,T,T,T,T,F,F,F,F,F,F,F,F,F,F,F,F,F] HT_.1 ?_
            refine tz 24 51 #[T,T,T,T,T,T,T,T,T,T,T,T,T,T,T,T,T,T,T,T,T,T,T,T,T,F,F,F,F,F,F,F,F,F,F,F,F] HT_.1 HW_.1 hHeld ?_
            refine pz 25 52 #[T,T,T,T,T,T,T,T,T,T,T,T,T,T,T,T,T,T,T,T,T,T,T,T,T,T,F,F,F,F,F,F,F,F,F,F,F] HT_.1 ?_
            refine pz 26 53 #[T,T,T,T,T,T,T,T,T,T,T,T,T,T,T,T,T,T,T,T,T,T,T,T,T,T,T,F,F,F,F,F,F,F,F,F,F] HT_.1 ?_
            refine pz 27 54 #[T,T,T,T,T,T,T,T,T,T,T,T,T,T,T,T,T,T,T,T,T,T,T,T,T,T,T,T,F,F,F,F,F,F,F,F,F] HT_.1 ?_
            refine pz 28 55 #[T,T,T,T,T,T,T,T,T,T,T,T,T,T,T,T,T,T,T,T,T,T,T,T,T,T,T,T,T,F,F,F,F,F,F,F,F] HT_.1 ?_
            refine pz 29 56 #[T,T,T,T,T,T,T,T,T,T,T,T,T,T,T,T,T,T,T,T,T,T,T,T,T,T,T,T,T,T,F,F,F,F,F,F,F] HT_.1 ?_
            refine pz 32 59 #[T,T,T,T,T,T,T,T,T,T,T,T,T,T,T,T,T,T,T,T,T,T,T,T,T,T,T,T,T,T,F,F,T,F,F,F,F] HT_.1 ?_
            refine tz 30 57 #[T,T,T,T,T,T,T,T,T,T,T,T,T,T,T,T,T,T,T,T,T,T,T,T,T,T,T,T,T,T,T,F,T,F,F,F,F] HT_.1 HW_.1 hHeld ?_
            refine pz 31 58 #[T,T,T,T,T,T,T,T,T,T,T,T,T,T,T,T,T,T,T,T,T,T,T,T,T,T,T,T,T,T,T,T,T,F,F,F,F] HT_.1 ?_
            refine tz 33 60 #[T,T,T,T,T,T,T,T,T,T,T,T,T,T,T,T,T,T,T,T,T,T,T,T,T,T,T,T,T,T,T,T,T,T,F,F,F] HT_.1 HW_.1 hHeld ?_
            refine pz 34 61 #[T,T,T,T,T,T,T,T,T,T,T,T,T,T,T,T,T,T,T,T,T,T,T,T,T,T,T,T,T,T,T,T,T,T,T,F,F] HT_.1 ?_
            refine pz 35 62 #[T,T,T,T,T,T,T,T,T,T,T,T,T,T,T,T,T,T,T,T,T,T,T,T,T,T,T,T,T,T,T,T,T,T,T,T,F] HT_.1 ?_
            refine pz 36 63 #[T,T,T,T,T,T,T,T,T,T,T,T,T,T,T,T,T,T,T,T,T,T,T,T,T,T,T,T,T,T,T,T,T,T,T,T,T] HT_.1 ?_
            refine done_ (done_of HT_.out (by kernel_rfl)) ?_
            try go_wp2
            go_roundg k1
            case measure => have:=HK1.out;omega
            case rel => exact ⟨(wrap64 (x5_1 + 1)),ze,H',⟨by have:=HK1.out;omega⟩,⟨zH HB⟩⟩
           ·rw [if_neg c11] at H
            have c11b0 : ((fbits ((rd_T61 l0 x5_1).f3)) == (fbits ((rd_T61 l1 x5_1).f3))) = false:=beq_eq_false_iff_ne.mpr c11
            have c11b1 : ((fbits ((rd_T61 l0 x5_1).f3)) != (fbits ((rd_T61 l1 x5_1).f3))) = true:=bne_iff_ne.mpr c11
            obtain rfl:=Option.some.inj H
            have p214 : 0 ≤ (x5_1 : Int):=zd
            have q214 : x5_1 < (l0.length : Int):=zd
            obtain ⟨ad214,e214,hx214_0,hx214_1,hx214_2,hx214_3,hx214_4⟩:=at_T61 HR0.out x5_1 p214 q214
            cases e214
            replace hx214_0:=zh HB hx214_0
            replace hx214_1:=zh HB hx214_1
            replace hx214_2:=zh HB hx214_2
            replace hx214_3:=zh HB hx214_3
            replace hx214_4:=zh HB hx214_4
            replace p214:=eq_true p214
            replace q214:=eq_true q214
            try go_wp2_with (first|((with_reducible refine gate_dst (N:=6) rfl ?_);refine zb (N:=6) (cs:=#[.int .i64 0,.int .i64 0,.float .f64 0,.float .f64 0,.int .i64 0]) (t:=61) ?_;intro G215 hg w20 hbox hb;have K215:=zA (hbox);have GW215:=zN HB hg;have GE215:=zN HB hg;replace HB:=zS HB hb;clear hb hbox hg;obtain ⟨hcz21_0,hcz21_1,hcz21_2,hcz21_3,hcz21_4,hfz21_0,hfz21_1,hfz21_2,hfz21_3,hfz21_4⟩:=zc5 K215)|((with_reducible refine gate_store (t:=61) (p:=6) rfl ?_);refine store_event (t:=61) (p:=6) (v:=?vo_w22) (w1:=(((((w20.setCell ⟨G215,0,none⟩ (.int .i64 ((rd_T61 l0 x5_1).f0))).setCell ⟨G215,1,none⟩ (.int .i64 ((rd_T61 l0 x5_1).f1))).setCell ⟨G215,2,none⟩ (.float .f64 ((rd_T61 l0 x5_1).f2))).setCell ⟨G215,3,none⟩ (.float .f64 ((rd_T61 l0 x5_1).f3))).setCell ⟨G215,4,none⟩ (.int .i64 ((rd_T61 l0 x5_1).f4)))) ?hg ?ho ?hn ?hr ?_;(case ho => rfl);(case hg => rfl);(case hn => rfl);(case hr => first|(go_simp;done)|(go_simp;rfl));intro w22 hw;replace K215:=zVp hw (.cells #[.int .i64 ((rd_T61 l0 x5_1).f0),.int .i64 ((rd_T61 l0 x5_1).f1),.float .f64 ((rd_T61 l0 x5_1).f2),.float .f64 ((rd_T61 l0 x5_1).f3),.int .i64 ((rd_T61 l0 x5_1).f4)] 61 (0,0)) K215;replace HB:=zU hw HB;clear hw;have p216 : 0 ≤ (x5_1 : Int):=zd;have q216 : x5_1 < (l1.length : Int):=zd;obtain ⟨ad216,e216,hx216_0,hx216_1,hx216_2,hx216_3,hx216_4⟩:=at_T61 HR1.out x5_1 p216 q216;cases e216;replace hx216_0:=zh HB hx216_0;replace hx216_1:=zh HB hx216_1;replace hx216_2:=zh HB hx216_2;replace hx216_3:=zh HB hx216_3;replace hx216_4:=zh HB hx216_4;replace p216:=eq_true p216;replace q216:=eq_true q216)|((with_reducible refine gate_dst (N:=7) rfl ?_);refine zb (N:=7) (cs:=#[.int .i64 0,.int .i64 0,.float .f64 0,.float .f64 0,.int .i64 0]) (t:=61) ?_;intro G217 hg w23 hbox hb;have K217:=zA (hbox);have GW217:=zN HB hg;have GE217:=zN HB hg;replace HB:=zS HB hb;have NB215_217:=zL K215 hg;have NB217_215:=zG K215 hg;replace K215:=zB K215 hb;clear hb hbox hg;have:=NB217_215.1;have:=NB215_217.1;obtain ⟨hcz25_0,hcz25_1,hcz25_2,hcz25_3,hcz25_4,hfz25_0,hfz25_1,hfz25_2,hfz25_3,hfz25_4⟩:=zc5 K217)|((with_reducible refine gate_store (t:=61) (p:=7) rfl ?_);refine store_event (t:=61) (p:=7) (v:=?vo_w26) (w1:=(((((w23.setCell ⟨G217,0,none⟩ (.int .i64 ((rd_T61 l1 x5_1).f0))).setCell ⟨G217,1,none⟩ (.int .i64 ((rd_T61 l1 x5_1).f1))).setCell ⟨G217,2,none⟩ (.float .f64 ((rd_T61 l1 x5_1).f2))).setCell ⟨G217,3,none⟩ (.float .f64 ((rd_T61 l1 x5_1).f3))).setCell ⟨G217,4,none⟩ (.int .i64 ((rd_T61 l1 x5_1).f4)))) ?hg ?ho ?hn ?hr ?_;(case ho => rfl);(case hg => rfl);(case hn => rfl);(case hr => first|(go_simp;done)|(go_simp;rfl));intro w26 hw;replace K215:=zV hw K215;replace K217:=zVp hw (.cells #[.int .i64 ((rd_T61 l1 x5_1).f0),.int .i64 ((rd_T61 l1 x5_1).f1),.float .f64 ((rd_T61 l1 x5_1).f2),.float .f64 ((rd_T61 l1 x5_1).f3),.int .i64 ((rd_T61 l1 x5_1).f4)] 61 (0,0)) K217;replace HB:=zU hw HB;clear hw))
            replace K215:=zA (bD K215.1)
            replace K217:=zA (bD K217.1)
            replace HB:=zA (bw1 HB.1)
            refine start_ (n:=37) (S:=fun w' => w'.cell? ⟨G215,0,none⟩ = some (.int .i64 ((rd_T61 l0 x5_1).f0)) ∧ w'.cell? ⟨G215,1,none⟩ = some (.int .i64 ((rd_T61 l0 x5_1).f1)) ∧ w'.cell? ⟨G215,2,none⟩ = some (.float .f64 ((rd_T61 l0 x5_1).f2)) ∧ w'.cell? ⟨G215,3,none⟩ = some (.float .f64 ((rd_T61 l0 x5_1).f3)) ∧ w'.cell? ⟨G215,4,none⟩ = some (.int .i64 ((rd_T61 l0 x5_1).f4)) ∧ w'.cell? ⟨G217,0,none⟩ = some (.int .i64 ((rd_T61 l1 x5_1).f0)) ∧ w'.cell? ⟨G217,1,none⟩ = some (.int .i64 ((rd_T61 l1 x5_1).f1)) ∧ w'.cell? ⟨G217,2,none⟩ = some (.float .f64 ((rd_T61 l1 x5_1).f2)) ∧ w'.cell? ⟨G217,3,none⟩ = some (.float .f64 ((rd_T61 l1 x5_1).f3)) ∧ w'.cell? ⟨G217,4,none⟩ = some (.int .i64 ((rd_T61 l1 x5_1).f4))) (ds:=[]) #[F,F,F,F,F,F,F,F,F,F,F,F,F,F,F,F,F,F,F,F,F,F,F,F,F,F,F,F,F,F,F,F,F,F,F,F,F] (by kernel_rfl) rfl rfl ⟨zk K215 0,zk K215 1,zk K215 2,zk K215 3,zk K215 4,zk K217 0,zk K217 1,zk K217 2,zk K217 3,zk K217 4⟩ (fun hHeld => ?_);refine with_tabW beaconref06_SameNews.tab8 beaconref06_SameNews.bits8 (fun HT_ HW_ => ?_)
            generalize w26.drew = w27 at K215 K217 HB hHeld ⊢
            refine pz 0 27 #[T,F,F,F,F,F,F,F,F,F,F,F,F,F,F,F,F,F,F,F,F,F,F,F,F,F,F,F,F,F,F,F,F,F,F,F,F] HT_.1 ?_
            refine pz 2 29 #[T,F,T,F,F,F,F,F,F,F,F,F,F,F,F,F,F,F,F,F,F,F,F,F,F,F,F,F,F,F,F,F,F,F,F,F,F] HT_.1 ?_
            refine tz 1 28 #[T,T,T,F,F,F,F,F,F,F,F,F,F,F,F,F,F,F,F,F,F,F,F,F,F,F,F,F,F,F,F,F,F,F,F,F,F] HT_.1 HW_.1 hHeld ?_
            refine tz 3 30 #[T,T,T,T,F,F,F,F,F,F,F,F,F,F,F,F,F,F,F,F,F,F,F,F,F,F,F,F,F,F,F,F,F,F,F,F,F] HT_.1 HW_.1 hHeld ?_
            refine pz 4 31 #[T,T,T,T,T,F,F,F,F,F,F,F,F,F,F,F,F,F,F,F,F,F,F,F,F,F,F,F,F,F,F,F,F,F,F,F,F] HT_.1 ?_
            refine pz 5 32 #[T,T,T,T,T,T,F,F,F,F,F,F,F,F,F,F,F,F,F,F,F,F,F,F,F,F,F,F,F,F,F,F,F,F,F,F,F] HT_.1 ?_
            refine pz 6 33 #[T,T,T,T,T,T,T,F,F,F,F,F,F,F,F,F,F,F,F,F,F,F,F,F,F,F,F,F,F,F,F,F,F,F,F,F,F] HT_.1 ?_
            refine pz 8 35 #[T,T,T,T,T,T,T,F,T,F,F,F,F,F,F,F,F,F,F,F,F,F,F,F,F,F,F,F,F,F,F,F,F,F,F,F,F] HT_.1 ?_
            refine tz 7 34 #[T,T,T,T,T,T,T,T,T,F,F,F,F,F,F,F,F,F,F,F,F,F,F,F,F,F,F,F,F,F,F,F,F,F,F,F,F] HT_.1 HW_.1 hHeld ?_
            refine tz 9 36 #[T,T,T,T,T,T,T,T,T,T,F,F,F,F,F,F,F,F,F,F,F,F,F,F,F,F,F,F,F,F,F,F,F,F,F,F,F] HT_.1 HW_.1 hHeld ?_
            refine pz 10 37 #[T,T,T,T,T,T,T,T,T,T,T,F,F,F,F,F,F,F,F,F,F,F,F,F,F,F,F,F,F,F,F,F,F,F,F,F,F] HT_.1 ?_
            refine pz 11 38 #[T,T,T,T,T,T,T,T,T,T,T,T,F,F,F,F,F,F,F,F,F,F,F,F,F,F,F,F,F,F,F,F,F,F,F,F,F] HT_.1 ?_
            refine pz 12 39 #[T,T,T,T,T,T,T,T,T,T,T,T,T,F,F,F,F,F,F,F,F,F,F,F,F,F,F,F,F,F,F,F,F,F,F,F,F] HT_.1 ?_
            refine pz 13 40 #[T,T,T,T,T,T,T,T,T,T,T,T,T,T,F,F,F,F,F,F,F,F,F,F,F,F,F,F,F,F,F,F,F,F,F,F,F] HT_.1 ?_
            refine pz 15 42 #[T,T,T,T,T,T,T,T,T,T,T,T,T,T,F,T,F,F,F,F,F,F,F,F,F,F,F,F,F,F,F,F,F,F,F,F,F] HT_.1 ?_
            refine tz 14 41 #[T,T,T,T,T,T,T,T,T,T,T,T,T,T,T,T,F,F,F,F,F,F,F,F,F,F,F,F,F,F,F,F,F,F,F,F,F] HT_.1 HW_.1 hHeld ?_
            refine tz 16 43 #[T,T,T,T,T,T,T,T,T,T,T,T,T,T,T,T,T,F,F,F,F,F,F,F,F,F,F,F,F,F,F,F,F,F,F,F,F] HT_.1 HW_.1 hHeld ?_
            refine pz 17 44 #[T,T,T,T,T,T,T,T,T,T,T,T,T,T,T,T,T,T,F,F,F,F,F,F,F,F,F,F,F,F,F,F,F,F,F,F,F] HT_.1 ?_
            refine pz 18 45 #[T,T,T,T,T,T,T,T,T,T,T,T,T,T,T,T,T,T,T,F,F,F,F,F,F,F,F,F,F,F,F,F,F,F,F,F,F] HT_.1 ?_
            refine pz 19 46 #[T,T,T,T,T,T,T,T,T,T,T,T,T,T,T,T,T,T,T,T,F,F,F,F,F,F,F,F,F,F,F,F,F,F,F,F,F] HT_.1 ?_
            refine pz 20 47 #[T,T,T,T,T,T,T,T,T,T,T,T,T,T,T,T,T,T,T,T,T,F,F,F,F,F,F,F,F,F,F,F,F,F,F,F,F] HT_.1 ?_
            refine pz 23 50 #[T,T,T,T,T,T,T,T,T,T,T,T,T,T,T,T,T,T,T,T,T,F,F,T,F,F,F,F,F,F,F,F,F,F,F,F,F] HT_.1 ?_
            refine tz 21 48 #[T,T,T,T,T,T,T,T,T,T,T,T,T,T,T,T,T,T,T,T,T,T,F,T,F,F,F,F,F,F,F,F,F,F,F,F,F] HT_.1 HW_.1 hHeld ?_
            refine pz 22 49 #[T,T,T,T,T,T,T,T,T,T,T,T,T,T,T,T,T,T,T,T,T,T,T,T,F,F,F,F,F,F,F,F,F,F,F,F,F] HT_.1 ?_
            refine tz 24 51 #[T,T,T,T,T,T,T,T,T,T,T,T,T,T,T,T,T,T,T,T,T,T,T,T,T,F,F,F,F,F,F,F,F,F,F,F,F] HT_.1 HW_.1 hHeld ?_
            refine pz 25 52 #[T,T,T,T,T,T,T,T,T,T,T,T,T,T,T,T,T,T,T,T,T,T,T,T,T,T,F,F,F,F,F,F,F,F,F,F,F] HT_.1 ?_
            refine pz 26 53 #[T,T,T,T,T,T,T,T,T,T,T,T,T,T,T,T,T,T,T,T,T,T,T,T,T,T,T,F,F,F,F,F,F,F,F,F,F] HT_.1 ?_
            refine pz 27 54 #[T,T,T,T,T,T,T,T,T,T,T,T,T,T,T,T,T,T,T,T,T,T,T,T,T,T,T,T,F,F,F,F,F,F,F,F,F] HT_.1 ?_
            refine pz 28 55 #[T,T,T,T,T,T,T,T,T,T,T,T,T,T,T,T,T,T,T,T,T,T,T,T,T,T,T,T,T,F,F,F,F,F,F,F,F] HT_.1 ?_
            refine pz 29 56 #[T,T,T,T,T,T,T,T,T,T,T,T,T,T,T,T,T,T,T,T,T,T,T,T,T,T,T,T,T,T,F,F,F,F,F,F,F] HT_.1 ?_
            refine pz 32 59 #[T,T,T,T,T,T,T,T,T,T,T,T,T,T,T,T,T,T,T,T,T,T,T,T,T,T,T,T,T,T,F,F,T,F,F,F,F] HT_.1 ?_
            refine tz 30 57 #[T,T,T,T,T,T,T,T,T,T,T,T,T,T,T,T,T,T,T,T,T,T,T,T,T,T,T,T,T,T,T,F,T,F,F,F,F] HT_.1 HW_.1 hHeld ?_
            refine pz 31 58 #[T,T,T,T,T,T,T,T,T,T,T,T,T,T,T,T,T,T,T,T,T,T,T,T,T,T,T,T,T,T,T,T,T,F,F,F,F] HT_.1 ?_
            refine tz 33 60 #[T,T,T,T,T,T,T,T,T,T,T,T,T,T,T,T,T,T,T,T,T,T,T,T,T,T,T,T,T,T,T,T,T,T,F,F,F] HT_.1 HW_.1 hHeld ?_
            refine pz 34 61 #[T,T,T,T,T,T,T,T,T,T,T,T,T,T,T,T,T,T,T,T,T,T,T,T,T,T,T,T,T,T,T,T,T,T,T,F,F] HT_.1 ?_
            refine pz 35 62 #[T,T,T,T,T,T,T,T,T,T,T,T,T,T,T,T,T,T,T,T,T,T,T,T,T,T,T,T,T,T,T,T,T,T,T,T,F] HT_.1 ?_
            refine pz 36 63 #[T,T,T,T,T,T,T,T,T,T,T,T,T,T,T,T,T,T,T,T,T,T,T,T,T,T,T,T,T,T,T,T,T,T,T,T,T] HT_.1 ?_
            refine done_ (done_of HT_.out (by kernel_rfl)) ?_
            try go_wp2
            go_ret
            exact ⟨zE,zH HB⟩
          ·rw [if_neg c10] at H
           have c10b0 : ((fbits ((rd_T61 l0 x5_1).f2)) == (fbits ((rd_T61 l1 x5_1).f2))) = false:=beq_eq_false_iff_ne.mpr c10
           have c10b1 : ((fbits ((rd_T61 l0 x5_1).f2)) != (fbits ((rd_T61 l1 x5_1).f2))) = true:=bne_iff_ne.mpr c10
           obtain rfl:=Option.some.inj H
           have p214 : 0 ≤ (x5_1 : Int):=zd
           have q214 : x5_1 < (l0.length : Int):=zd
           obtain ⟨ad214,e214,hx214_0,hx214_1,hx214_2,hx214_3,hx214_4⟩:=at_T61 HR0.out x5_1 p214 q214
           cases e214
           replace hx214_0:=zh HB hx214_0
           replace hx214_1:=zh HB hx214_1
           replace hx214_2:=zh HB hx214_2
           replace hx214_3:=zh HB hx214_3
           replace hx214_4:=zh HB hx214_4
           replace p214:=eq_true p214
           replace q214:=eq_true q214
           try go_wp2_with (first|((with_reducible refine gate_dst (N:=6) rfl ?_);refine zb (N:=6) (cs:=#[.int .i64 0,.int .i64 0,.float .f64 0,.float .f64 0,.int .i64 0]) (t:=61) ?_;intro G215 hg w28 hbox hb;have K215:=zA (hbox);have GW215:=zN HB hg;have GE215:=zN HB hg;replace HB:=zS HB hb;clear hb hbox hg;obtain ⟨hcz29_0,hcz29_1,hcz29_2,hcz29_3,hcz29_4,hfz29_0,hfz29_1,hfz29_2,hfz29_3,hfz29_4⟩:=zc5 K215)|((with_reducible refine gate_store (t:=61) (p:=6) rfl ?_);refine store_event (t:=61) (p:=6) (v:=?vo_w30) (w1:=(((((w28.setCell ⟨G215,0,none⟩ (.int .i64 ((rd_T61 l0 x5_1).f0))).setCell ⟨G215,1,none⟩ (.int .i64 ((rd_T61 l0 x5_1).f1))).setCell ⟨G215,2,none⟩ (.float .f64 ((rd_T61 l0 x5_1).f2))).setCell ⟨G215,3,none⟩ (.float .f64 ((rd_T61 l0 x5_1).f3))).setCell ⟨G215,4,none⟩ (.int .i64 ((rd_T61 l0 x5_1).f4)))) ?hg ?ho ?hn ?hr ?_;(case ho => rfl);(case hg => rfl);(case hn => rfl);(case hr => first|(go_simp;done)|(go_simp;rfl));intro w30 hw;replace K215:=zVp hw (.cells #[.int .i64 ((rd_T61 l0 x5_1).f0),.int .i64 ((rd_T61 l0 x5_1).f1),.float .f64 ((rd_T61 l0 x5_1).f2),.float .f64 ((rd_T61 l0 x5_1).f3),.int .i64 ((rd_T61 l0 x5_1).f4)] 61 (0,0)) K215;replace HB:=zU hw HB;clear hw;have p216 : 0 ≤ (x5_1 : Int):=zd;have q216 : x5_1 < (l1.length : Int):=zd;obtain ⟨ad216,e216,hx216_0,hx216_1,hx216_2,hx216_3,hx216_4⟩:=at_T61 HR1.out x5_1 p216 q216;cases e216;replace hx216_0:=zh HB hx216_0;replace hx216_1:=zh HB hx216_1;replace hx216_2:=zh HB hx216_2;replace hx216_3:=zh HB hx216_3;replace hx216_4:=zh HB hx216_4;replace p216:=eq_true p216;replace q216:=eq_true q216)|((with_reducible refine gate_dst (N:=7) rfl ?_);refine zb (N:=7) (cs:=#[.int .i64 0,.int .i64 0,.float .f64 0,.float .f64 0,.int .i64 0]) (t:=61) ?_;intro G217 hg w31 hbox hb;have K217:=zA (hbox);have GW217:=zN HB hg;have GE217:=zN HB hg;replace HB:=zS HB hb;have NB215_217:=zL K215 hg;have NB217_215:=zG K215 hg;replace K215:=zB K215 hb;clear hb hbox hg;have:=NB217_215.1;have:=NB215_217.1;obtain ⟨hcz33_0,hcz33_1,hcz33_2,hcz33_3,hcz33_4,hfz33_0,hfz33_1,hfz33_2,hfz33_3,hfz33_4⟩:=zc5 K217)|((with_reducible refine gate_store (t:=61) (p:=7) rfl ?_);refine store_event (t:=61) (p:=7) (v:=?vo_w34) (w1:=(((((w31.setCell ⟨G217,0,none⟩ (.int .i64 ((rd_T61 l1 x5_1).f0))).setCell ⟨G217,1,none⟩ (.int .i64 ((rd_T61 l1 x5_1).f1))).setCell ⟨G217,2,none⟩ (.float .f64 ((rd_T61 l1 x5_1).f2))).setCell ⟨G217,3,none⟩ (.float .f64 ((rd_T61 l1 x5_1).f3))).setCell ⟨G217,4,none⟩ (.int .i64 ((rd_T61 l1 x5_1).f4)))) ?hg ?ho ?hn ?hr ?_;(case ho => rfl);(case hg => rfl);(case hn => rfl);(case hr => first|(go_simp;done)|(go_simp;rfl));intro w34 hw;replace K215:=zV hw K215;replace K217:=zVp hw (.cells #[.int .i64 ((rd_T61 l1 x5_1).f0),.int .i64 ((rd_T61 l1 x5_1).f1),.float .f64 ((rd_T61 l1 x5_1).f2),.float .f64 ((rd_T61 l1 x5_1).f3),.int .i64 ((rd_T61 l1 x5_1).f4)] 61 (0,0)) K217;replace HB:=zU hw HB;clear hw))
           replace K215:=zA (bD K215.1)
           replace K217:=zA (bD K217.1)
           replace HB:=zA (bw1 HB.1)
           refine start_ (n:=37) (S:=fun w' => w'.cell? ⟨G215,0,none⟩ = some (.int .i64 ((rd_T61 l0 x5_1).f0)) ∧ w'.cell? ⟨G215,1,none⟩ = some (.int .i64 ((rd_T61 l0 x5_1).f1)) ∧ w'.cell? ⟨G215,2,none⟩ = some (.float .f64 ((rd_T61 l0 x5_1).f2)) ∧ w'.cell? ⟨G215,3,none⟩ = some (.float .f64 ((rd_T61 l0 x5_1).f3)) ∧ w'.cell? ⟨G215,4,none⟩ = some (.int .i64 ((rd_T61 l0 x5_1).f4)) ∧ w'.cell? ⟨G217,0,none⟩ = some (.int .i64 ((rd_T61 l1 x5_1).f0)) ∧ w'.cell? ⟨G217,1,none⟩ = some (.int .i64 ((rd_T61 l1 x5_1).f1)) ∧ w'.cell? ⟨G217,2,none⟩ = some (.float .f64 ((rd_T61 l1 x5_1).f2)) ∧ w'.cell? ⟨G217,3,none⟩ = some (.float .f64 ((rd_T61 l1 x5_1).f3)) ∧ w'.cell? ⟨G217,4,none⟩ = some (.int .i64 ((rd_T61 l1 x5_1).f4))) (ds:=[]) #[F,F,F,F,F,F,F,F,F,F,F,F,F,F,F,F,F,F,F,F,F,F,F,F,F,F,F,F,F,F,F,F,F,F,F,F,F] (by kernel_rfl) rfl rfl ⟨zk K215 0,zk K215 1,zk K215 2,zk K215 3,zk K215 4,zk K217 0,zk K217 1,zk K217 2,zk K217 3,zk K217 4⟩ (fun hHeld => ?_);refine with_tabW beaconref06_SameNews.tab8 beaconref06_SameNews.bits8 (fun HT_ HW_ => ?_)
           generalize w34.drew = w35 at K215 K217 HB hHeld ⊢
           refine pz 0 27 #[T,F,F,F,F,F,F,F,F,F,F,F,F,F,F,F,F,F,F,F,F,F,F,F,F,F,F,F,F,F,F,F,F,F,F,F,F] HT_.1 ?_
           refine pz 2 29 #[T,F,T,F,F,F,F,F,F,F,F,F,F,F,F,F,F,F,F,F,F,F,F,F,F,F,F,F,F,F,F,F,F,F,F,F,F] HT_.1 ?_
           refine tz 1 28 #[T,T,T,F,F,F,F,F,F,F,F,F,F,F,F,F,F,F,F,F,F,F,F,F,F,F,F,F,F,F,F,F,F,F,F,F,F] HT_.1 HW_.1 hHeld ?_
           refine tz 3 30 #[T,T,T,T,F,F,F,F,F,F,F,F,F,F,F,F,F,F,F,F,F,F,F,F,F,F,F,F,F,F,F,F,F,F,F,F,F] HT_.1 HW_.1 hHeld ?_
           refine pz 4 31 #[T,T,T,T,T,F,F,F,F,F,F,F,F,F,F,F,F,F,F,F,F,F,F,F,F,F,F,F,F,F,F,F,F,F,F,F,F] HT_.1 ?_
           refine pz 5 32 #[T,T,T,T,T,T,F,F,F,F,F,F,F,F,F,F,F,F,F,F,F,F,F,F,F,F,F,F,F,F,F,F,F,F,F,F,F] HT_.1 ?_
           refine pz 6 33 #[T,T,T,T,T,T,T,F,F,F,F,F,F,F,F,F,F,F,F,F,F,F,F,F,F,F,F,F,F,F,F,F,F,F,F,F,F] HT_.1 ?_
           refine pz 8 35 #[T,T,T,T,T,T,T,F,T,F,F,F,F,F,F,F,F,F,F,F,F,F,F,F,F,F,F,F,F,F,F,F,F,F,F,F,F] HT_.1 ?_
           refine tz 7 34 #[T,T,T,T,T,T,T,T,T,F,F,F,F,F,F,F,F,F,F,F,F,F,F,F,F,F,F,F,F,F,F,F,F,F,F,F,F] HT_.1 HW_.1 hHeld ?_
           refine tz 9 36 #[T,T,T,T,T,T,T,T,T,T,F,F,F,F,F,F,F,F,F,F,F,F,F,F,F,F,F,F,F,F,F,F,F,F,F,F,F] HT_.1 HW_.1 hHeld ?_
           refine pz 10 37 #[T,T,T,T,T,T,T,T,T,T,T,F,F,F,F,F,F,F,F,F,F,F,F,F,F,F,F,F,F,F,F,F,F,F,F,F,F] HT_.1 ?_
           refine pz 11 38 #[T,T,T,T,T,T,T,T,T,T,T,T,F,F,F,F,F,F,F,F,F,F,F,F,F,F,F,F,F,F,F,F,F,F,F,F,F] HT_.1 ?_
           refine pz 12 39 #[T,T,T,T,T,T,T,T,T,T,T,T,T,F,F,F,F,F,F,F,F,F,F,F,F,F,F,F,F,F,F,F,F,F,F,F,F] HT_.1 ?_
           refine pz 13 40 #[T,T,T,T,T,T,T,T,T,T,T,T,T,T,F,F,F,F,F,F,F,F,F,F,F,F,F,F,F,F,F,F,F,F,F,F,F] HT_.1 ?_
           refine pz 15 42 #[T,T,T,T,T,T,T,T,T,T,T,T,T,T,F,T,F,F,F,F,F,F,F,F,F,F,F,F,F,F,F,F,F,F,F,F,F] HT_.1 ?_
           refine tz 14 41 #[T,T,T,T,T,T,T,T,T,T,T,T,T,T,T,T,F,F,F,F,F,F,F,F,F,F,F,F,F,F,F,F,F,F,F,F,F] HT_.1 HW_.1 hHeld ?_
           refine tz 16 43 #[T,T,T,T,T,T,T,T,T,T,T,T,T,T,T,T,T,F,F,F,F,F,F,F,F,F,F,F,F,F,F,F,F,F,F,F,F] HT_.1 HW_.1 hHeld ?_
           refine pz 17 44 #[T,T,T,T,T,T,T,T,T,T,T,T,T,T,T,T,T,T,F,F,F,F,F,F,F,F,F,F,F,F,F,F,F,F,F,F,F] HT_.1 ?_
           refine pz 18 45 #[T,T,T,T,T,T,T,T,T,T,T,T,T,T,T,T,T,T,T,F,F,F,F,F,F,F,F,F,F,F,F,F,F,F,F,F,F] HT_.1 ?_
           refine pz 19 46 #[T,T,T,T,T,T,T,T,T,T,T,T,T,T,T,T,T,T,T,T,F,F,F,F,F,F,F,F,F,F,F,F,F,F,F,F,F] HT_.1 ?_
           refine pz 20 47 #[T,T,T,T,T,T,T,T,T,T,T,T,T,T,T,T,T,T,T,T,T,F,F,F,F,F,F,F,F,F,F,F,F,F,F,F,F] HT_.1 ?_
           refine pz 23 50 #[T,T,T,T,T,T,T,T,T,T,T,T,T,T,T,T,T,T,T,T,T,F,F,T,F,F,F,F,F,F,F,F,F,F,F,F,F] HT_.1 ?_
           refine tz 21 48 #[T,T,T,T,T,T,T,T,T,T,T,T,T,T,T,T,T,T,T,T,T,T,F,T,F,F,F,F,F,F,F,F,F,F,F,F,F] HT_.1 HW_.1 hHeld ?_
           refine pz 22 49 #[T,T,T,T,T,T,T,T,T,T,T,T,T,T,T,T,T,T,T,T,T,T,T,T,F,F,F,F,F,F,F,F,F,F,F,F,F] HT_.1 ?_
           refine tz 24 51 #[T,T,T,T,T,T,T,T,T,T,T,T,T,T,T,T,T,T,T,T,T,T,T,T,T,F,F,F,F,F,F,F,F,F,F,F,F] HT_.1 HW_.1 hHeld ?_
           refine pz 25 52 #[T,T,T,T,T,T,T,T,T,T,T,T,T,T,T,T,T,T,T,T,T,T,T,T,T,T,F,F,F,F,F,F,F,F,F,F,F] HT_.1 ?_
           refine pz 26 53 #[T,T,T,T,T,T,T,T,T,T,T,T,T,T,T,T,T,T,T,T,T,T,T,T,T,T,T,F,F,F,F,F,F,F,F,F,F] HT_.1 ?_
           refine pz 27 54 #[T,T,T,T,T,T,T,T,T,T,T,T,T,T,T,T,T,T,T,T,T,T,T,T,T,T,T,T,F,F,F,F,F,F,F,F,F] HT_.1 ?_
           refine pz 28 55 #[T,T,T,T,T,T,T,T,T,T,T,T,T,T,T,T,T,T,T,T,T,T,T,T,T,T,T,T,T,F,F,F,F,F,F,F,F] HT_.1 ?_
           refine pu 29 56 #[T,T,T,T,T,T,T,T,T,T,T,T,T,T,T,T,T,T,T,T,T,T,T,T,T,T,T,T,T,T,F,F,F,F,F,F,F] HT_.1 ?_
           refine pu 30 57 #[T,T,T,T,T,T,T,T,T,T,T,T,T,T,T,T,T,T,T,T,T,T,T,T,T,T,T,T,T,T,T,F,F,F,F,F,F] HT_.1 ?_
           refine pu 31 58 #[T,T,T,T,T,T,T,T,T,T,T,T,T,T,T,T,T,T,T,T,T,T,T,T,T,T,T,T,T,T,T,T,F,F,F,F,F] HT_.1 ?_
           refine pu 32 59 #[T,T,T,T,T,T,T,T,T,T,T,T,T,T,T,T,T,T,T,T,T,T,T,T,T,T,T,T,T,T,T,T,T,F,F,F,F] HT_.1 ?_
           refine pu 33 60 #[T,T,T,T,T,T,T,T,T,T,T,T,T,T,T,T,T,T,T,T,T,T,T,T,T,T,T,T,T,T,T,T,T,T,F,F,F] HT_.1 ?_
           refine pu 34 61 #[T,T,T,T,T,T,T,T,T,T,T,T,T,T,T,T,T,T,T,T,T,T,T,T,T,T,T,T,T,T,T,T,T,T,T,F,F] HT_.1 ?_
           refine pu 35 62 #[T,T,T,T,T,T,T,T,T,T,T,T,T,T,T,T,T,T,T,T,T,T,T,T,T,T,T,T,T,T,T,T,T,T,T,T,F] HT_.1 ?_
           refine pz 36 63 #[T,T,T,T,T,T,T,T,T,T,T,T,T,T,T,T,T,T,T,T,T,T,T,T,T,T,T,T,T,T,T,T,T,T,T,T,T] HT_.1 ?_
           refine done_ (done_of HT_.out (by kernel_rfl)) ?_
           try go_wp2
           go_ret
           exact ⟨zE,zH HB⟩
         ·rw [if_neg c9] at H
          have c9b0 : (((rd_T61 l0 x5_1).f4) == ((rd_T61 l1 x5_1).f4)) = false:=beq_eq_false_iff_ne.mpr c9
          have c9b1 : (((rd_T61 l0 x5_1).f4) != ((rd_T61 l1 x5_1).f4)) = true:=bne_iff_ne.mpr c9
          obtain rfl:=Option.some.inj H
          have p214 : 0 ≤ (x5_1 : Int):=zd
          have q214 : x5_1 < (l0.length : Int):=zd
          obtain ⟨ad214,e214,hx214_0,hx214_1,hx214_2,hx214_3,hx214_4⟩:=at_T61 HR0.out x5_1 p214 q214
          cases e214
          replace hx214_0:=zh HB hx214_0
          replace hx214_1:=zh HB hx214_1
          replace hx214_2:=zh HB hx214_2
          replace hx214_3:=zh HB hx214_3
          replace hx214_4:=zh HB hx214_4
          replace p214:=eq_true p214
          replace q214:=eq_true q214
          try go_wp2_with (first|((with_reducible refine gate_dst (N:=6) rfl ?_);refine zb (N:=6) (cs:=#[.int .i64 0,.int .i64 0,.float .f64 0,.float .f64 0,.int .i64 0]) (t:=61) ?_;intro G215 hg w36 hbox hb;have K215:=zA (hbox);have GW215:=zN HB hg;have GE215:=zN HB hg;replace HB:=zS HB hb;clear hb hbox hg;obtain ⟨hcz37_0,hcz37_1,hcz37_2,hcz37_3,hcz37_4,hfz37_0,hfz37_1,hfz37_2,hfz37_3,hfz37_4⟩:=zc5 K215)|((with_reducible refine gate_store (t:=61) (p:=6) rfl ?_);refine store_event (t:=61) (p:=6) (v:=?vo_w38) (w1:=(((((w36.setCell ⟨G215,0,none⟩ (.int .i64 ((rd_T61 l0 x5_1).f0))).setCell ⟨G215,1,none⟩ (.int .i64 ((rd_T61 l0 x5_1).f1))).setCell ⟨G215,2,none⟩ (.float .f64 ((rd_T61 l0 x5_1).f2))).setCell ⟨G215,3,none⟩ (.float .f64 ((rd_T61 l0 x5_1).f3))).setCell ⟨G215,4,none⟩ (.int .i64 ((rd_T61 l0 x5_1).f4)))) ?hg ?ho ?hn ?hr ?_;(case ho => rfl);(case hg => rfl);(case hn => rfl);(case hr => first|(go_simp;done)|(go_simp;rfl));intro w38 hw;replace K215:=zVp hw (.cells #[.int .i64 ((rd_T61 l0 x5_1).f0),.int .i64 ((rd_T61 l0 x5_1).f1),.float .f64 ((rd_T61 l0 x5_1).f2),.float .f64 ((rd_T61 l0 x5_1).f3),.int .i64 ((rd_T61 l0 x5_1).f4)] 61 (0,0)) K215;replace HB:=zU hw HB;clear hw;have p216 : 0 ≤ (x5_1 : Int):=zd;have q216 : x5_1 < (l1.length : Int):=zd;obtain ⟨ad216,e216,hx216_0,hx216_1,hx216_2,hx216_3,hx216_4⟩:=at_T61 HR1.out x5_1 p216 q216;cases e216;replace hx216_0:=zh HB hx216_0;replace hx216_1:=zh HB hx216_1;replace hx216_2:=zh HB hx216_2;replace hx216_3:=zh HB hx216_3;replace hx216_4:=zh HB hx216_4;replace p216:=eq_true p216;replace q216:=eq_true q216)|((with_reducible refine gate_dst (N:=7) rfl ?_);refine zb (N:=7) (cs:=#[.int .i64 0,.int .i64 0,.float .f64 0,.float .f64 0,.int .i64 0]) (t:=61) ?_;intro G217 hg w39 hbox hb;have K217:=zA (hbox);have GW217:=zN HB hg;have GE217:=zN HB hg;replace HB:=zS HB hb;have NB215_217:=zL K215 hg;have NB217_215:=zG K215 hg;replace K215:=zB K215 hb;clear hb hbox hg;have:=NB217_215.1;have:=NB215_217.1;obtain ⟨hcz41_0,hcz41_1,hcz41_2,hcz41_3,hcz41_4,hfz41_0,hfz41_1,hfz41_2,hfz41_3,hfz41_4⟩:=zc5 K217)|((with_reducible refine gate_store (t:=61) (p:=7) rfl ?_);refine store_event (t:=61) (p:=7) (v:=?vo_w42) (w1:=(((((w39.setCell ⟨G217,0,none⟩ (.int .i64 ((rd_T61 l1 x5_1).f0))).setCell ⟨G217,1,none⟩ (.int .i64 ((rd_T61 l1 x5_1).f1))).setCell ⟨G217,2,none⟩ (.float .f64 ((rd_T61 l1 x5_1).f2))).setCell ⟨G217,3,none⟩ (.float .f64 ((rd_T61 l1 x5_1).f3))).setCell ⟨G217,4,none⟩ (.int .i64 ((rd_T61 l1 x5_1).f4)))) ?hg ?ho ?hn ?hr ?_;(case ho => rfl);(case hg => rfl);(case hn => rfl);(case hr => first|(go_simp;done)|(go_simp;rfl));intro w42 hw;replace K215:=zV hw K215;replace K217:=zVp hw (.cells #[.int .i64 ((rd_T61 l1 x5_1).f0),.int .i64 ((rd_T61 l1 x5_1).f1),.float .f64 ((rd_T61 l1 x5_1).f2),.float .f64 ((rd_T61 l1 x5_1).f3),.int .i64 ((rd_T61 l1 x5_1).f4)] 61 (0,0)) K217;replace HB:=zU hw HB;clear hw))
          replace K215:=zA (bD K215.1)
          replace K217:=zA (bD K217.1)
          replace HB:=zA (bw1 HB.1)
          refine start_ (n:=37) (S:=fun w' => w'.cell? ⟨G215,0,none⟩ = some (.int .i64 ((rd_T61 l0 x5_1).f0)) ∧ w'.cell? ⟨G215,1,none⟩ = some (.int .i64 ((rd_T61 l0 x5_1).f1)) ∧ w'.cell? ⟨G215,2,none⟩ = some (.float .f64 ((rd_T61 l0 x5_1).f2)) ∧ w'.cell? ⟨G215,3,none⟩ = some (.float .f64 ((rd_T61 l0 x5_1).f3)) ∧ w'.cell? ⟨G215,4,none⟩ = some (.int .i64 ((rd_T61 l0 x5_1).f4)) ∧ w'.cell? ⟨G217,0,none⟩ = some (.int .i64 ((rd_T61 l1 x5_1).f0)) ∧ w'.cell? ⟨G217,1,none⟩ = some (.int .i64 ((rd_T61 l1 x5_1).f1)) ∧ w'.cell? ⟨G217,2,none⟩ = some (.float .f64 ((rd_T61 l1 x5_1).f2)) ∧ w'.cell? ⟨G217,3,none⟩ = some (.float .f64 ((rd_T61 l1 x5_1).f3)) ∧ w'.cell? ⟨G217,4,none⟩ = some (.int .i64 ((rd_T61 l1 x5_1).f4))) (ds:=[]) #[F,F,F,F,F,F,F,F,F,F,F,F,F,F,F,F,F,F,F,F,F,F,F,F,F,F,F,F,F,F,F,F,F,F,F,F,F] (by kernel_rfl) rfl rfl ⟨zk K215 0,zk K215 1,zk K215 2,zk K215 3,zk K215 4,zk K217 0,zk K217 1,zk K217 2,zk K217 3,zk K217 4⟩ (fun hHeld => ?_);refine with_tabW beaconref06_SameNews.tab8 beaconref06_SameNews.bits8 (fun HT_ HW_ => ?_)
          generalize w42.drew = w43 at K215 K217 HB hHeld ⊢
          refine pz 0 27 #[T,F,F,F,F,F,F,F,F,F,F,F,F,F,F,F,F,F,F,F,F,F,F,F,F,F,F,F,F,F,F,F,F,F,F,F,F] HT_.1 ?_
          refine pz 2 29 #[T,F,T,F,F,F,F,F,F,F,F,F,F,F,F,F,F,F,F,F,F,F,F,F,F,F,F,F,F,F,F,F,F,F,F,F,F] HT_.1 ?_
          refine tz 1 28 #[T,T,T,F,F,F,F,F,F,F,F,F,F,F,F,F,F,F,F,F,F,F,F,F,F,F,F,F,F,F,F,F,F,F,F,F,F] HT_.1 HW_.1 hHeld ?_
          refine tz 3 30 #[T,T,T,T,F,F,F,F,F,F,F,F,F,F,F,F,F,F,F,F,F,F,F,F,F,F,F,F,F,F,F,F,F,F,F,F,F] HT_.1 HW_.1 hHeld ?_
          refine pz 4 31 #[T,T,T,T,T,F,F,F,F,F,F,F,F,F,F,F,F,F,F,F,F,F,F,F,F,F,F,F,F,F,F,F,F,F,F,F,F] HT_.1 ?_
          refine pz 5 32 #[T,T,T,T,T,T,F,F,F,F,F,F,F,F,F,F,F,F,F,F,F,F,F,F,F,F,F,F,F,F,F,F,F,F,F,F,F] HT_.1 ?_
          refine pz 6 33 #[T,T,T,T,T,T,T,F,F,F,F,F,F,F,F,F,F,F,F,F,F,F,F,F,F,F,F,F,F,F,F,F,F,F,F,F,F] HT_.1 ?_
          refine pz 8 35 #[T,T,T,T,T,T,T,F,T,F,F,F,F,F,F,F,F,F,F,F,F,F,F,F,F,F,F,F,F,F,F,F,F,F,F,F,F] HT_.1 ?_
          refine tz 7 34 #[T,T,T,T,T,T,T,T,T,F,F,F,F,F,F,F,F,F,F,F,F,F,F,F,F,F,F,F,F,F,F,F,F,F,F,F,F] HT_.1 HW_.1 hHeld ?_
          refine tz 9 36 #[T,T,T,T,T,T,T,T,T,T,F,F,F,F,F,F,F,F,F,F,F,F,F,F,F,F,F,F,F,F,F,F,F,F,F,F,F] HT_.1 HW_.1 hHeld ?_
          refine pz 10 37 #[T,T,T,T,T,T,T,T,T,T,T,F,F,F,F,F,F,F,F,F,F,F,F,F,F,F,F,F,F,F,F,F,F,F,F,F,F] HT_.1 ?_
          refine pz 11 38 #[T,T,T,T,T,T,T,T,T,T,T,T,F,F,F,F,F,F,F,F,F,F,F,F,F,F,F,F,F,F,F,F,F,F,F,F,F] HT_.1 ?_
          refine pz 12 39 #[T,T,T,T,T,T,T,T,T,T,T,T,T,F,F,F,F,F,F,F,F,F,F,F,F,F,F,F,F,F,F,F,F,F,F,F,F] HT_.1 ?_
          refine pz 13 40 #[T,T,T,T,T,T,T,T,T,T,T,T,T,T,F,F,F,F,F,F,F,F,F,F,F,F,F,F,F,F,F,F,F,F,F,F,F] HT_.1 ?_
          refine pz 15 42 #[T,T,T,T,T,T,T,T,T,T,T,T,T,T,F,T,F,F,F,F,F,F,F,F,F,F,F,F,F,F,F,F,F,F,F,F,F] HT_.1 ?_
          refine tz 14 41 #[T,T,T,T,T,T,T,T,T,T,T,T,T,T,T,T,F,F,F,F,F,F,F,F,F,F,F,F,F,F,F,F,F,F,F,F,F] HT_.1 HW_.1 hHeld ?_
          refine tz 16 43 #[T,T,T,T,T,T,T,T,T,T,T,T,T,T,T,T,T,F,F,F,F,F,F,F,F,F,F,F,F,F,F,F,F,F,F,F,F] HT_.1 HW_.1 hHeld ?_
          refine pz 17 44 #[T,T,T,T,T,T,T,T,T,T,T,T,T,T,T,T,T,T,F,F,F,F,F,F,F,F,F,F,F,F,F,F,F,F,F,F,F] HT_.1 ?_
          refine pz 18 45 #[T,T,T,T,T,T,T,T,T,T,T,T,T,T,T,T,T,T,T,F,F,F,F,F,F,F,F,F,F,F,F,F,F,F,F,F,F] HT_.1 ?_
          refine pz 19 46 #[T,T,T,T,T,T,T,T,T,T,T,T,T,T,T,T,T,T,T,T,F,F,F,F,F,F,F,F,F,F,F,F,F,F,F,F,F] HT_.1 ?_
          refine pu 20 47 #[T,T,T,T,T,T,T,T,T,T,T,T,T,T,T,T,T,T,T,T,T,F,F,F,F,F,F,F,F,F,F,F,F,F,F,F,F] HT_.1 ?_
          refine pu 21 48 #[T,T,T,T,T,T,T,T,T,T,T,T,T,T,T,T,T,T,T,T,T,T,F,F,F,F,F,F,F,F,F,F,F,F,F,F,F] HT_.1 ?_
          refine pu 22 49 #[T,T,T,T,T,T,T,T,T,T,T,T,T,T,T,T,T,T,T,T,T,T,T,F,F,F,F,F,F,F,F,F,F,F,F,F,F] HT_.1 ?_
          refine pu 23 50 #[T,T,T,T,T,T,T,T,T,T,T,T,T,T,T,T,T,T,T,T,T,T,T,T,F,F,F,F,F,F,F,F,F,F,F,F,F] HT_.1 ?_
          refine pu 24 51 #[T,T,T,T,T,T,T,T,T,T,T,T,T,T,T,T,T,T,T,T,T,T,T,T,T,F,F,F,F,F,F,F,F,F,F,F,F] HT_.1 ?_
          refine pu 25 52 #[T,T,T,T,T,T,T,T,T,T,T,T,T,T,T,T,T,T,T,T,T,T,T,T,T,T,F,F,F,F,F,F,F,F,F,F,F] HT_.1 ?_
          refine pu 26 53 #[T,T,T,T,T,T,T,T,T,T,T,T,T,T,T,T,T,T,T,T,T,T,T,T,T,T,T,F,F,F,F,F,F,F,F,F,F] HT_.1 ?_
          refine pz 27 54 #[T,T,T,T,T,T,T,T,T,T,T,T,T,T,T,T,T,T,T,T,T,T,T,T,T,T,T,T,F,F,F,F,F,F,F,F,F] HT_.1 ?_
          refine pz 28 55 #[T,T,T,T,T,T,T,T,T,T,T,T,T,T,T,T,T,T,T,T,T,T,T,T,T,T,T,T,T,F,F,F,F,F,F,F,F] HT_.1 ?_
          refine pu 29 56 #[T,T,T,T,T,T,T,T,T,T,T,T,T,T,T,T,T,T,T,T,T,T,T,T,T,T,T,T,T,T,F,F,F,F,F,F,F] HT_.1 ?_
          refine pu 30 57 #[T,T,T,T,T,T,T,T,T,T,T,T,T,T,T,T,T,T,T,T,T,T,T,T,T,T,T,T,T,T,T,F,F,F,F,F,F] HT_.1 ?_
          refine pu 31 58 #[T,T,T,T,T,T,T,T,T,T,T,T,T,T,T,T,T,T,T,T,T,T,T,T,T,T,T,T,T,T,T,T,F,F,F,F,F] HT_.1 ?_
          refine pu 32 59 #[T,T,T,T,T,T,T,T,T,T,T,T,T,T,T,T,T,T,T,T,T,T,T,T,T,T,T,T,T,T,T,T,T,F,F,F,F] HT_.1 ?_
          refine pu 33 60 #[T,T,T,T,T,T,T,T,T,T,T,T,T,T,T,T,T,T,T,T,T,T,T,T,T,T,T,T,T,T,T,T,T,T,F,F,F] HT_.1 ?_
          refine pu 34 61 #[T,T,T,T,T,T,T,T,T,T,T,T,T,T,T,T,T,T,T,T,T,T,T,T,T,T,T,T,T,T,T,T,T,T,T,F,F] HT_.1 ?_
          refine pu 35 62 #[T,T,T,T,T,T,T,T,T,T,T,T,T,T,T,T,T,T,T,T,T,T,T,T,T,T,T,T,T,T,T,T,T,T,T,T,F] HT_.1 ?_
          refine pz 36 63 #[T,T,T,T,T,T,T,T,T,T,T,T,T,T,T,T,T,T,T,T,T,T,T,T,T,T,T,T,T,T,T,T,T,T,T,T,T] HT_.1 ?_
          refine done_ (done_of HT_.out (by kernel_rfl)) ?_
          try go_wp2
          go_ret
          exact ⟨zE,zH HB⟩
        ·rw [if_neg c8] at H
         have c8b0 : (((rd_T61 l0 x5_1).f1) == ((rd_T61 l1 x5_1).f1)) = false:=beq_eq_false_iff_ne.mpr c8
         have c8b1 : (((rd_T61 l0 x5_1).f1) != ((rd_T61 l1 x5_1).f1)) = true:=bne_iff_ne.mpr c8
         obtain rfl:=Option.some.inj H
         have p214 : 0 ≤ (x5_1 : Int):=zd
         have q214 : x5_1 < (l0.length : Int):=zd
         obtain ⟨ad214,e214,hx214_0,hx214_1,hx214_2,hx214_3,hx214_4⟩:=at_T61 HR0.out x5_1 p214 q214
         cases e214
         replace hx214_0:=zh HB hx214_0
         replace hx214_1:=zh HB hx214_1
         replace hx214_2:=zh HB hx214_2
         replace hx214_3:=zh HB hx214_3
         replace hx214_4:=zh HB hx214_4
         replace p214:=eq_true p214
         replace q214:=eq_true q214
         try go_wp2_with (first|((with_reducible refine gate_dst (N:=6) rfl ?_);refine zb (N:=6) (cs:=#[.int .i64 0,.int .i64 0,.float .f64 0,.float .f64 0,.int .i64 0]) (t:=61) ?_;intro G215 hg w44 hbox hb;have K215:=zA (hbox);have GW215:=zN HB hg;have GE215:=zN HB hg;replace HB:=zS HB hb;clear hb hbox hg;obtain ⟨hcz45_0,hcz45_1,hcz45_2,hcz45_3,hcz45_4,hfz45_0,hfz45_1,hfz45_2,hfz45_3,hfz45_4⟩:=zc5 K215)|((with_reducible refine gate_store (t:=61) (p:=6) rfl ?_);refine store_event (t:=61) (p:=6) (v:=?vo_w46) (w1:=(((((w44.setCell ⟨G215,0,none⟩ (.int .i64 ((rd_T61 l0 x5_1).f0))).setCell ⟨G215,1,none⟩ (.int .i64 ((rd_T61 l0 x5_1).f1))).setCell ⟨G215,2,none⟩ (.float .f64 ((rd_T61 l0 x5_1).f2))).setCell ⟨G215,3,none⟩ (.float .f64 ((rd_T61 l0 x5_1).f3))).setCell ⟨G215,4,none⟩ (.int .i64 ((rd_T61 l0 x5_1).f4)))) ?hg ?ho ?hn ?hr ?_;(case ho => rfl);(case hg => rfl);(case hn => rfl);(case hr => first|(go_simp;done)|(go_simp;rfl));intro w46 hw;replace K215:=zVp hw (.cells #[.int .i64 ((rd_T61 l0 x5_1).f0),.int .i64 ((rd_T61 l0 x5_1).f1),.float .f64 ((rd_T61 l0 x5_1).f2),.float .f64 ((rd_T61 l0 x5_1).f3),.int .i64 ((rd_T61 l0 x5_1).f4)] 61 (0,0)) K215;replace HB:=zU hw HB;clear hw;have p216 : 0 ≤ (x5_1 : Int):=zd;have q216 : x5_1 < (l1.length : Int):=zd;obtain ⟨ad216,e216,hx216_0,hx216_1,hx216_2,hx216_3,hx216_4⟩:=at_T61 HR1.out x5_1 p216 q216;cases e216;replace hx216_0:=zh HB hx216_0;replace hx216_1:=zh HB hx216_1;replace hx216_2:=zh HB hx216_2;replace hx216_3:=zh HB hx216_3;replace hx216_4:=zh HB hx216_4;replace p216:=eq_true p216;replace q216:=eq_true q216)|((with_reducible refine gate_dst (N:=7) rfl ?_);refine zb (N:=7) (cs:=#[.int .i64 0,.int .i64 0,.float .f64 0,.float .f64 0,.int .i64 0]) (t:=61) ?_;intro G217 hg w47 hbox hb;have K217:=zA (hbox);have GW217:=zN HB hg;have GE217:=zN HB hg;replace HB:=zS HB hb;have NB215_217:=zL K215 hg;have NB217_215:=zG K215 hg;replace K215:=zB K215 hb;clear hb hbox hg;have:=NB217_215.1;have:=NB215_217.1;obtain ⟨hcz49_0,hcz49_1,hcz49_2,hcz49_3,hcz49_4,hfz49_0,hfz49_1,hfz49_2,hfz49_3,hfz49_4⟩:=zc5 K217)|((with_reducible refine gate_store (t:=61) (p:=7) rfl ?_);refine store_event (t:=61) (p:=7) (v:=?vo_w50) (w1:=(((((w47.setCell ⟨G217,0,none⟩ (.int .i64 ((rd_T61 l1 x5_1).f0))).setCell ⟨G217,1,none⟩ (.int .i64 ((rd_T61 l1 x5_1).f1))).setCell ⟨G217,2,none⟩ (.float .f64 ((rd_T61 l1 x5_1).f2))).setCell ⟨G217,3,none⟩ (.float .f64 ((rd_T61 l1 x5_1).f3))).setCell ⟨G217,4,none⟩ (.int .i64 ((rd_T61 l1 x5_1).f4)))) ?hg ?ho ?hn ?hr ?_;(case ho => rfl);(case hg => rfl);(case hn => rfl);(case hr => first|(go_simp;done)|(go_simp;rfl));intro w50 hw;replace K215:=zV hw K215;replace K217:=zVp hw (.cells #[.int .i64 ((rd_T61 l1 x5_1).f0),.int .i64 ((rd_T61 l1 x5_1).f1),.float .f64 ((rd_T61 l1 x5_1).f2),.float .f64 ((rd_T61 l1 x5_1).f3),.int .i64 ((rd_T61 l1 x5_1).f4)] 61 (0,0)) K217;replace HB:=zU hw HB;clear hw))
         replace K215:=zA (bD K215.1)
         replace K217:=zA (bD K217.1)
         replace HB:=zA (bw1 HB.1)
         refine start_ (n:=37) (S:=fun w' => w'.cell? ⟨G215,0,none⟩ = some (.int .i64 ((rd_T61 l0 x5_1).f0)) ∧ w'.cell? ⟨G215,1,none⟩ = some (.int .i64 ((rd_T61 l0 x5_1).f1)) ∧ w'.cell? ⟨G215,2,none⟩ = some (.float .f64 ((rd_T61 l0 x5_1).f2)) ∧ w'.cell? ⟨G215,3,none⟩ = some (.float .f64 ((rd_T61 l0 x5_1).f3)) ∧ w'.cell? ⟨G215,4,none⟩ = some (.int .i64 ((rd_T61 l0 x5_1).f4)) ∧ w'.cell? ⟨G217,0,none⟩ = some (.int .i64 ((rd_T61 l1 x5_1).f0)) ∧ w'.cell? ⟨G217,1,none⟩ = some (.int .i64 ((rd_T61 l1 x5_1).f1)) ∧ w'.cell? ⟨G217,2,none⟩ = some (.float .f64 ((rd_T61 l1 x5_1).f2)) ∧ w'.cell? ⟨G217,3,none⟩ = some (.float .f64 ((rd_T61 l1 x5_1).f3)) ∧ w'.cell? ⟨G217,4,none⟩ = some (.int .i64 ((rd_T61 l1 x5_1).f4))) (ds:=[]) #[F,F,F,F,F,F,F,F,F,F,F,F,F,F,F,F,F,F,F,F,F,F,F,F,F,F,F,F,F,F,F,F,F,F,F,F,F] (by kernel_rfl) rfl rfl ⟨zk K215 0,zk K215 1,zk K215 2,zk K215 3,zk K215 4,zk K217 0,zk K217 1,zk K217 2,zk K217 3,zk K217 4⟩ (fun hHeld => ?_);refine with_tabW beaconref06_SameNews.tab8 beaconref06_SameNews.bits8 (fun HT_ HW_ => ?_)
         generalize w50.drew = w51 at K215 K217 HB hHeld ⊢
         refine pz 0 27 #[T,F,F,F,F,F,F,F,F,F,F,F,F,F,F,F,F,F,F,F,F,F,F,F,F,F,F,F,F,F,F,F,F,F,F,F,F] HT_.1 ?_
         refine pz 2 29 #[T,F,T,F,F,F,F,F,F,F,F,F,F,F,F,F,F,F,F,F,F,F,F,F,F,F,F,F,F,F,F,F,F,F,F,F,F] HT_.1 ?_
         refine tz 1 28 #[T,T,T,F,F,F,F,F,F,F,F,F,F,F,F,F,F,F,F,F,F,F,F,F,F,F,F,F,F,F,F,F,F,F,F,F,F] HT_.1 HW_.1 hHeld ?_
         refine tz 3 30 #[T,T,T,T,F,F,F,F,F,F,F,F,F,F,F,F,F,F,F,F,F,F,F,F,F,F,F,F,F,F,F,F,F,F,F,F,F] HT_.1 HW_.1 hHeld ?_
         refine pz 4 31 #[T,T,T,T,T,F,F,F,F,F,F,F,F,F,F,F,F,F,F,F,F,F,F,F,F,F,F,F,F,F,F,F,F,F,F,F,F] HT_.1 ?_
         refine pz 5 32 #[T,T,T,T,T,T,F,F,F,F,F,F,F,F,F,F,F,F,F,F,F,F,F,F,F,F,F,F,F,F,F,F,F,F,F,F,F] HT_.1 ?_
         refine pz 6 33 #[T,T,T,T,T,T,T,F,F,F,F,F,F,F,F,F,F,F,F,F,F,F,F,F,F,F,F,F,F,F,F,F,F,F,F,F,F] HT_.1 ?_
         refine pz 8 35 #[T,T,T,T,T,T,T,F,T,F,F,F,F,F,F,F,F,F,F,F,F,F,F,F,F,F,F,F,F,F,F,F,F,F,F,F,F] HT_.1 ?_
         refine tz 7 34 #[T,T,T,T,T,T,T,T,T,F,F,F,F,F,F,F,F,F,F,F,F,F,F,F,F,F,F,F,F,F,F,F,F,F,F,F,F] HT_.1 HW_.1 hHeld ?_
         refine tz 9 36 #[T,T,T,T,T,T,T,T,T,T,F,F,F,F,F,F,F,F,F,F,F,F,F,F,F,F,F,F,F,F,F,F,F,F,F,F,F] HT_.1 HW_.1 hHeld ?_
         refine pz 10 37 #[T,T,T,T,T,T,T,T,T,T,T,F,F,F,F,F,F,F,F,F,F,F,F,F,F,F,F,F,F,F,F,F,F,F,F,F,F] HT_.1 ?_
         refine pz 11 38 #[T,T,T,T,T,T,T,T,T,T,T,T,F,F,F,F,F,F,F,F,F,F,F,F,F,F,F,F,F,F,F,F,F,F,F,F,F] HT_.1 ?_
         refine pz 12 39 #[T,T,T,T,T,T,T,T,T,T,T,T,T,F,F,F,F,F,F,F,F,F,F,F,F,F,F,F,F,F,F,F,F,F,F,F,F] HT_.1 ?_
         refine pu 13 40 #[T,T,T,T,T,T,T,T,T,T,T,T,T,T,F,F,F,F,F,F,F,F,F,F,F,F,F,F,F,F,F,F,F,F,F,F,F] HT_.1 ?_
         refine pu 14 41 #[T,T,T,T,T,T,T,T,T,T,T,T,T,T,T,F,F,F,F,F,F,F,F,F,F,F,F,F,F,F,F,F,F,F,F,F,F] HT_.1 ?_
         refine pu 15 42 #[T,T,T,T,T,T,T,T,T,T,T,T,T,T,T,T,F,F,F,F,F,F,F,F,F,F,F,F,F,F,F,F,F,F,F,F,F] HT_.1 ?_
         refine pu 16 43 #[T,T,T,T,T,T,T,T,T,T,T,T,T,T,T,T,T,F,F,F,F,F,F,F,F,F,F,F,F,F,F,F,F,F,F,F,F] HT_.1 ?_
         refine pu 17 44 #[T,T,T,T,T,T,T,T,T,T,T,T,T,T,T,T,T,T,F,F,F,F,F,F,F,F,F,F,F,F,F,F,F,F,F,F,F] HT_.1 ?_
         refine pz 18 45 #[T,T,T,T,T,T,T,T,T,T,T,T,T,T,T,T,T,T,T,F,F,F,F,F,F,F,F,F,F,F,F,F,F,F,F,F,F] HT_.1 ?_
         refine pz 19 46 #[T,T,T,T,T,T,T,T,T,T,T,T,T,T,T,T,T,T,T,T,F,F,F,F,F,F,F,F,F,F,F,F,F,F,F,F,F] HT_.1 ?_
         refine pu 20 47 #[T,T,T,T,T,T,T,T,T,T,T,T,T,T,T,T,T,T,T,T,T,F,F,F,F,F,F,F,F,F,F,F,F,F,F,F,F] HT_.1 ?_
         refine pu 21 48 #[T,T,T,T,T,T,T,T,T,T,T,T,T,T,T,T,T,T,T,T,T,T,F,F,F,F,F,F,F,F,F,F,F,F,F,F,F] HT_.1 ?_
         refine pu 22 49 #[T,T,T,T,T,T,T,T,T,T,T,T,T,T,T,T,T,T,T,T,T,T,T,F,F,F,F,F,F,F,F,F,F,F,F,F,F] HT_.1 ?_
         refine pu 23 50 #[T,T,T,T,T,T,T,T,T,T,T,T,T,T,T,T,T,T,T,T,T,T,T,T,F,F,F,F,F,F,F,F,F,F,F,F,F] HT_.1 ?_
         refine pu 24 51 #[T,T,T,T,T,T,T,T,T,T,T,T,T,T,T,T,T,T,T,T,T,T,T,T,T,F,F,F,F,F,F,F,F,F,F,F,F] HT_.1 ?_
         refine pu 25 52 #[T,T,T,T,T,T,T,T,T,T,T,T,T,T,T,T,T,T,T,T,T,T,T,T,T,T,F,F,F,F,F,F,F,F,F,F,F] HT_.1 ?_
         refine pu 26 53 #[T,T,T,T,T,T,T,T,T,T,T,T,T,T,T,T,T,T,T,T,T,T,T,T,T,T,T,F,F,F,F,F,F,F,F,F,F] HT_.1 ?_
         refine pz 27 54 #[T,T,T,T,T,T,T,T,T,T,T,T,T,T,T,T,T,T,T,T,T,T,T,T,T,T,T,T,F,F,F,F,F,F,F,F,F] HT_.1 ?_
         refine pz 28 55 #[T,T,T,T,T,T,T,T,T,T,T,T,T,T,T,T,T,T,T,T,T,T,T,T,T,T,T,T,T,F,F,F,F,F,F,F,F] HT_.1 ?_
         refine pu 29 56 #[T,T,T,T,T,T,T,T,T,T,T,T,T,T,T,T,T,T,T,T,T,T,T,T,T,T,T,T,T,T,F,F,F,F,F,F,F] HT_.1 ?_
         refine pu 30 57 #[T,T,T,T,T,T,T,T,T,T,T,T,T,T,T,T,T,T,T,T,T,T,T,T,T,T,T,T,T,T,T,F,F,F,F,F,F] HT_.1 ?_
         refine pu 31 58 #[T,T,T,T,T,T,T,T,T,T,T,T,T,T,T,T,T,T,T,T,T,T,T,T,T,T,T,T,T,T,T,T,F,F,F,F,F] HT_.1 ?_
         refine pu 32 59 #[T,T,T,T,T,T,T,T,T,T,T,T,T,T,T,T,T,T,T,T,T,T,T,T,T,T,T,T,T,T,T,T,T,F,F,F,F] HT_.1 ?_
         refine pu 33 60 #[T,T,T,T,T,T,T,T,T,T,T,T,T,T,T,T,T,T,T,T,T,T,T,T,T,T,T,T,T,T,T,T,T,T,F,F,F] HT_.1 ?_
         refine pu 34 61 #[T,T,T,T,T,T,T,T,T,T,T,T,T,T,T,T,T,T,T,T,T,T,T,T,T,T,T,T,T,T,T,T,T,T,T,F,F] HT_.1 ?_
         refine pu 35 62 #[T,T,T,T,T,T,T,T,T,T,T,T,T,T,T,T,T,T,T,T,T,T,T,T,T,T,T,T,T,T,T,T,T,T,T,T,F] HT_.1 ?_
         refine pz 36 63 #[T,T,T,T,T,T,T,T,T,T,T,T,T,T,T,T,T,T,T,T,T,T,T,T,T,T,T,T,T,T,T,T,T,T,T,T,T] HT_.1 ?_
         refine done_ (done_of HT_.out (by kernel_rfl)) ?_
         try go_wp2
         go_ret
         exact ⟨zE,zH HB⟩
       ·rw [if_neg c7] at H
        have c7b0 : (((rd_T61 l0 x5_1).f0) == ((rd_T61 l1 x5_1).f0)) = false:=beq_eq_false_iff_ne.mpr c7
        have c7b1 : (((rd_T61 l0 x5_1).f0) != ((rd_T61 l1 x5_1).f0)) = true:=bne_iff_ne.mpr c7
        obtain rfl:=Option.some.inj H
        have p214 : 0 ≤ (x5_1 : Int):=zd
        have q214 : x5_1 < (l0.length : Int):=zd
        obtain ⟨ad214,e214,hx214_0,hx214_1,hx214_2,hx214_3,hx214_4⟩:=at_T61 HR0.out x5_1 p214 q214
        cases e214
        replace hx214_0:=zh HB hx214_0
        replace hx214_1:=zh HB hx214_1
        replace hx214_2:=zh HB hx214_2
        replace hx214_3:=zh HB hx214_3
        replace hx214_4:=zh HB hx214_4
        replace p214:=eq_true p214
        replace q214:=eq_true q214
        try go_wp2_with (first|((with_reducible refine gate_dst (N:=6) rfl ?_);refine zb (N:=6) (cs:=#[.int .i64 0,.int .i64 0,.float .f64 0,.float .f64 0,.int .i64 0]) (t:=61) ?_;intro G215 hg w52 hbox hb;have K215:=zA (hbox);have GW215:=zN HB hg;have GE215:=zN HB hg;replace HB:=zS HB hb;clear hb hbox hg;obtain ⟨hcz53_0,hcz53_1,hcz53_2,hcz53_3,hcz53_4,hfz53_0,hfz53_1,hfz53_2,hfz53_3,hfz53_4⟩:=zc5 K215)|((with_reducible refine gate_store (t:=61) (p:=6) rfl ?_);refine store_event (t:=61) (p:=6) (v:=?vo_w54) (w1:=(((((w52.setCell ⟨G215,0,none⟩ (.int .i64 ((rd_T61 l0 x5_1).f0))).setCell ⟨G215,1,none⟩ (.int .i64 ((rd_T61 l0 x5_1).f1))).setCell ⟨G215,2,none⟩ (.float .f64 ((rd_T61 l0 x5_1).f2))).setCell ⟨G215,3,none⟩ (.float .f64 ((rd_T61 l0 x5_1).f3))).setCell ⟨G215,4,none⟩ (.int .i64 ((rd_T61 l0 x5_1).f4)))) ?hg ?ho ?hn ?hr ?_;(case ho => rfl);(case hg => rfl);(case hn => rfl);(case hr => first|(go_simp;done)|(go_simp;rfl));intro w54 hw;replace K215:=zVp hw (.cells #[.int .i64 ((rd_T61 l0 x5_1).f0),.int .i64 ((rd_T61 l0 x5_1).f1),.float .f64 ((rd_T61 l0 x5_1).f2),.float .f64 ((rd_T61 l0 x5_1).f3),.int .i64 ((rd_T61 l0 x5_1).f4)] 61 (0,0)) K215;replace HB:=zU hw HB;clear hw;have p216 : 0 ≤ (x5_1 : Int):=zd;have q216 : x5_1 < (l1.length : Int):=zd;obtain ⟨ad216,e216,hx216_0,hx216_1,hx216_2,hx216_3,hx216_4⟩:=at_T61 HR1.out x5_1 p216 q216;cases e216;replace hx216_0:=zh HB hx216_0;replace hx216_1:=zh HB hx216_1;replace hx216_2:=zh HB hx216_2;replace hx216_3:=zh HB hx216_3;replace hx216_4:=zh HB hx216_4;replace p216:=eq_true p216;replace q216:=eq_true q216)|((with_reducible refine gate_dst (N:=7) rfl ?_);refine zb (N:=7) (cs:=#[.int .i64 0,.int .i64 0,.float .f64 0,.float .f64 0,.int .i64 0]) (t:=61) ?_;intro G217 hg w55 hbox hb;have K217:=zA (hbox);have GW217:=zN HB hg;have GE217:=zN HB hg;replace HB:=zS HB hb;have NB215_217:=zL K215 hg;have NB217_215:=zG K215 hg;replace K215:=zB K215 hb;clear hb hbox hg;have:=NB217_215.1;have:=NB215_217.1;obtain ⟨hcz57_0,hcz57_1,hcz57_2,hcz57_3,hcz57_4,hfz57_0,hfz57_1,hfz57_2,hfz57_3,hfz57_4⟩:=zc5 K217)|((with_reducible refine gate_store (t:=61) (p:=7) rfl ?_);refine store_event (t:=61) (p:=7) (v:=?vo_w58) (w1:=(((((w55.setCell ⟨G217,0,none⟩ (.int .i64 ((rd_T61 l1 x5_1).f0))).setCell ⟨G217,1,none⟩ (.int .i64 ((rd_T61 l1 x5_1).f1))).setCell ⟨G217,2,none⟩ (.float .f64 ((rd_T61 l1 x5_1).f2))).setCell ⟨G217,3,none⟩ (.float .f64 ((rd_T61 l1 x5_1).f3))).setCell ⟨G217,4,none⟩ (.int .i64 ((rd_T61 l1 x5_1).f4)))) ?hg ?ho ?hn ?hr ?_;(case ho => rfl);(case hg => rfl);(case hn => rfl);(case hr => first|(go_simp;done)|(go_simp;rfl));intro w58 hw;replace K215:=zV hw K215;replace K217:=zVp hw (.cells #[.int .i64 ((rd_T61 l1 x5_1).f0),.int .i64 ((rd_T61 l1 x5_1).f1),.float .f64 ((rd_T61 l1 x5_1).f2),.float .f64 ((rd_T61 l1 x5_1).f3),.int .i64 ((rd_T61 l1 x5_1).f4)] 61 (0,0)) K217;replace HB:=zU hw HB;clear hw))
        replace K215:=zA (bD K215.1)
        replace K217:=zA (bD K217.1)
        replace HB:=zA (bw1 HB.1)
        refine start_ (n:=37) (S:=fun w' => w'.cell? ⟨G215,0,none⟩ = some (.int .i64 ((rd_T61 l0 x5_1).f0)) ∧ w'.cell? ⟨G215,1,none⟩ = some (.int .i64 ((rd_T61 l0 x5_1).f1)) ∧ w'.cell? ⟨G215,2,none⟩ = some (.float .f64 ((rd_T61 l0 x5_1).f2)) ∧ w'.cell? ⟨G215,3,none⟩ = some (.float .f64 ((rd_T61 l0 x5_1).f3)) ∧ w'.cell? ⟨G215,4,none⟩ = some (.int .i64 ((rd_T61 l0 x5_1).f4)) ∧ w'.cell? ⟨G217,0,none⟩ = some (.int .i64 ((rd_T61 l1 x5_1).f0)) ∧ w'.cell? ⟨G217,1,none⟩ = some (.int .i64 ((rd_T61 l1 x5_1).f1)) ∧ w'.cell? ⟨G217,2,none⟩ = some (.float .f64 ((rd_T61 l1 x5_1).f2)) ∧ w'.cell? ⟨G217,3,none⟩ = some (.float .f64 ((rd_T61 l1 x5_1).f3)) ∧ w'.cell? ⟨G217,4,none⟩ = some (.int .i64 ((rd_T61 l1 x5_1).f4))) (ds:=[]) #[F,F,F,F,F,F,F,F,F,F,F,F,F,F,F,F,F,F,F,F,F,F,F,F,F,F,F,F,F,F,F,F,F,F,F,F,F] (by kernel_rfl) rfl rfl ⟨zk K215 0,zk K215 1,zk K215 2,zk K215 3,zk K215 4,zk K217 0,zk K217 1,zk K217 2,zk K217 3,zk K217 4⟩ (fun hHeld => ?_);refine with_tabW beaconref06_SameNews.tab8 beaconref06_SameNews.bits8 (fun HT_ HW_ => ?_)
        generalize w58.drew = w59 at K215 K217 HB hHeld ⊢
        refine pz 0 27 #[T,F,F,F,F,F,F,F,F,F,F,F,F,F,F,F,F,F,F,F,F,F,F,F,F,F,F,F,F,F,F,F,F,F,F,F,F] HT_.1 ?_
        refine pz 2 29 #[T,F,T,F,F,F,F,F,F,F,F,F,F,F,F,F,F,F,F,F,F,F,F,F,F,F,F,F,F,F,F,F,F,F,F,F,F] HT_.1 ?_
        refine tz 1 28 #[T,T,T,F,F,F,F,F,F,F,F,F,F,F,F,F,F,F,F,F,F,F,F,F,F,F,F,F,F,F,F,F,F,F,F,F,F] HT_.1 HW_.1 hHeld ?_
        refine tz 3 30 #[T,T,T,T,F,F,F,F,F,F,F,F,F,F,F,F,F,F,F,F,F,F,F,F,F,F,F,F,F,F,F,F,F,F,F,F,F] HT_.1 HW_.1 hHeld ?_
        refine pz 4 31 #[T,T,T,T,T,F,F,F,F,F,F,F,F,F,F,F,F,F,F,F,F,F,F,F,F,F,F,F,F,F,F,F,F,F,F,F,F] HT_.1 ?_
        refine pz 5 32 #[T,T,T,T,T,T,F,F,F,F,F,F,F,F,F,F,F,F,F,F,F,F,F,F,F,F,F,F,F,F,F,F,F,F,F,F,F] HT_.1 ?_
        refine pu 6 33 #[T,T,T,T,T,T,T,F,F,F,F,F,F,F,F,F,F,F,F,F,F,F,F,F,F,F,F,F,F,F,F,F,F,F,F,F,F] HT_.1 ?_
        refine pu 7 34 #[T,T,T,T,T,T,T,T,F,F,F,F,F,F,F,F,F,F,F,F,F,F,F,F,F,F,F,F,F,F,F,F,F,F,F,F,F] HT_.1 ?_
        refine pu 8 35 #[T,T,T,T,T,T,T,T,T,F,F,F,F,F,F,F,F,F,F,F,F,F,F,F,F,F,F,F,F,F,F,F,F,F,F,F,F] HT_.1 ?_
        refine pu 9 36 #[T,T,T,T,T,T,T,T,T,T,F,F,F,F,F,F,F,F,F,F,F,F,F,F,F,F,F,F,F,F,F,F,F,F,F,F,F] HT_.1 ?_
        refine pu 10 37 #[T,T,T,T,T,T,T,T,T,T,T,F,F,F,F,F,F,F,F,F,F,F,F,F,F,F,F,F,F,F,F,F,F,F,F,F,F] HT_.1 ?_
        refine pz 11 38 #[T,T,T,T,T,T,T,T,T,T,T,T,F,F,F,F,F,F,F,F,F,F,F,F,F,F,F,F,F,F,F,F,F,F,F,F,F] HT_.1 ?_
        refine pz 12 39 #[T,T,T,T,T,T,T,T,T,T,T,T,T,F,F,F,F,F,F,F,F,F,F,F,F,F,F,F,F,F,F,F,F,F,F,F,F] HT_.1 ?_
        refine pu 13 40 #[T,T,T,T,T,T,T,T,T,T,T,T,T,T,F,F,F,F,F,F,F,F,F,F,F,F,F,F,F,F,F,F,F,F,F,F,F] HT_.1 ?_
        refine pu 14 41 #[T,T,T,T,T,T,T,T,T,T,T,T,T,T,T,F,F,F,F,F,F,F,F,F,F,F,F,F,F,F,F,F,F,F,F,F,F] HT_.1 ?_
        refine pu 15 42 #[T,T,T,T,T,T,T,T,T,T,T,T,T,T,T,T,F,F,F,F,F,F,F,F,F,F,F,F,F,F,F,F,F,F,F,F,F] HT_.1 ?_
        refine pu 16 43 #[T,T,T,T,T,T,T,T,T,T,T,T,T,T,T,T,T,F,F,F,F,F,F,F,F,F,F,F,F,F,F,F,F,F,F,F,F] HT_.1 ?_
        refine pu 17 44 #[T,T,T,T,T,T,T,T,T,T,T,T,T,T,T,T,T,T,F,F,F,F,F,F,F,F,F,F,F,F,F,F,F,F,F,F,F] HT_.1 ?_
        refine pz 18 45 #[T,T,T,T,T,T,T,T,T,T,T,T,T,T,T,T,T,T,T,F,F,F,F,F,F,F,F,F,F,F,F,F,F,F,F,F,F] HT_.1 ?_
        refine pz 19 46 #[T,T,T,T,T,T,T,T,T,T,T,T,T,T,T,T,T,T,T,T,F,F,F,F,F,F,F,F,F,F,F,F,F,F,F,F,F] HT_.1 ?_
        refine pu 20 47 #[T,T,T,T,T,T,T,T,T,T,T,T,T,T,T,T,T,T,T,T,T,F,F,F,F,F,F,F,F,F,F,F,F,F,F,F,F] HT_.1 ?_
        refine pu 21 48 #[T,T,T,T,T,T,T,T,T,T,T,T,T,T,T,T,T,T,T,T,T,T,F,F,F,F,F,F,F,F,F,F,F,F,F,F,F] HT_.1 ?_
        refine pu 22 49 #[T,T,T,T,T,T,T,T,T,T,T,T,T,T,T,T,T,T,T,T,T,T,T,F,F,F,F,F,F,F,F,F,F,F,F,F,F] HT_.1 ?_
        refine pu 23 50 #[T,T,T,T,T,T,T,T,T,T,T,T,T,T,T,T,T,T,T,T,T,T,T,T,F,F,F,F,F,F,F,F,F,F,F,F,F] HT_.1 ?_
        refine pu 24 51 #[T,T,T,T,T,T,T,T,T,T,T,T,T,T,T,T,T,T,T,T,T,T,T,T,T,F,F,F,F,F,F,F,F,F,F,F,F] HT_.1 ?_
        refine pu 25 52 #[T,T,T,T,T,T,T,T,T,T,T,T,T,T,T,T,T,T,T,T,T,T,T,T,T,T,F,F,F,F,F,F,F,F,F,F,F] HT_.1 ?_
        refine pu 26 53 #[T,T,T,T,T,T,T,T,T,T,T,T,T,T,T,T,T,T,T,T,T,T,T,T,T,T,T,F,F,F,F,F,F,F,F,F,F] HT_.1 ?_
        refine pz 27 54 #[T,T,T,T,T,T,T,T,T,T,T,T,T,T,T,T,T,T,T,T,T,T,T,T,T,T,T,T,F,F,F,F,F,F,F,F,F] HT_.1 ?_
        refine pz 28 55 #[T,T,T,T,T,T,T,T,T,T,T,T,T,T,T,T,T,T,T,T,T,T,T,T,T,T,T,T,T,F,F,F,F,F,F,F,F] HT_.1 ?_
        refine pu 29 56 #[T,T,T,T,T,T,T,T,T,T,T,T,T,T,T,T,T,T,T,T,T,T,T,T,T,T,T,T,T,T,F,F,F,F,F,F,F] HT_.1 ?_
        refine pu 30 57 #[T,T,T,T,T,T,T,T,T,T,T,T,T,T,T,T,T,T,T,T,T,T,T,T,T,T,T,T,T,T,T,F,F,F,F,F,F] HT_.1 ?_
        refine pu 31 58 #[T,T,T,T,T,T,T,T,T,T,T,T,T,T,T,T,T,T,T,T,T,T,T,T,T,T,T,T,T,T,T,T,F,F,F,F,F] HT_.1 ?_
        refine pu 32 59 #[T,T,T,T,T,T,T,T,T,T,T,T,T,T,T,T,T,T,T,T,T,T,T,T,T,T,T,T,T,T,T,T,T,F,F,F,F] HT_.1 ?_
        refine pu 33 60 #[T,T,T,T,T,T,T,T,T,T,T,T,T,T,T,T,T,T,T,T,T,T,T,T,T,T,T,T,T,T,T,T,T,T,F,F,F] HT_.1 ?_
        refine pu 34 61 #[T,T,T,T,T,T,T,T,T,T,T,T,T,T,T,T,T,T,T,T,T,T,T,T,T,T,T,T,T,T,T,T,T,T,T,F,F] HT_.1 ?_
        refine pu 35 62 #[T,T,T,T,T,T,T,T,T,T,T,T,T,T,T,T,T,T,T,T,T,T,T,T,T,T,T,T,T,T,T,T,T,T,T,T,F] HT_.1 ?_
        refine pz 36 63 #[T,T,T,T,T,T,T,T,T,T,T,T,T,T,T,T,T,T,T,T,T,T,T,T,T,T,T,T,T,T,T,T,T,T,T,T,T] HT_.1 ?_
        refine done_ (done_of HT_.out (by kernel_rfl)) ?_
        try go_wp2
        go_ret
        exact ⟨zE,zH HB⟩
      ·rw [if_neg c6] at H
       exact absurd H (by simp)
     ·rw [if_neg c5] at H
      exact absurd H (by simp)
    ·rw [if_neg c4] at H
     have c4b0 : decide (x5_1 < (l0.length : Int)) = false:=decide_eq_false c4
     clear c4
     obtain rfl:=Option.some.inj H
     go_wp2
     go_ret
     exact ⟨zE,zH HB⟩
 ·rw [if_neg c3] at H
  have c3b0 : ((l0.length : Int) == (l1.length : Int)) = false:=beq_eq_false_iff_ne.mpr c3
  have c3b1 : ((l0.length : Int) != (l1.length : Int)) = true:=bne_iff_ne.mpr c3
  have c3b2 : (l0.length == l1.length) = false:=by first|simpa using c3|(simp at c3 ⊢;omega)
  obtain rfl:=Option.some.inj H
  go_enter Try.func17,Try.ntmps17
  go_wp2
  go_ret
  exact ⟨zE,zH HB⟩

end Go.Proofs.Ytpcgjdllgdkobaa.XD
