/- Go functions of this seat as Lean functions, with proofs that the calls come to them. (Written by xprint.py, a program of this session, over the kit's print.) -/
import Derived.Test.YtpcgjdllgdkobaaXAx0
import Derived.Test.YtpcgjdllgdkobaaXAx2
import Derived.Test.YtpcgjdllgdkobaaXAx12
import Derived.Test.YtpcgjdllgdkobaaXAx14
namespace Go.Proofs.Ytpcgjdllgdkobaa.XA
open Go.RowKit Go.Proofs.YtpcgjdllgdkobaaW.PrintWords Go.Proofs.YtpcgjdllgdkobaaW.PrintLast Go.Proofs.YtpcgjdllgdkobaaW.PrintMore
attribute [local go_sem] max2_int min2_int max_two min_two max_three min_three max_four min_four   -- for this text's walks alone
set_option linter.unusedVariables false
set_option linter.unusedSimpArgs false
open List renaming setIfInBounds_toArray → xA, set_cons_zero → xB, set_cons_succ → xC
open Go.Proofs.YtpcgjdllgdkobaaW.PrintWords renaming blk_drewN → bN, blk_drew → bD, blk_alloc → bA, below_set → bS, blk_frozen → bF, blk_cell → bC, cell_far → cF, blk_far → bZ, blk_below → bB, pw_below_drewN → bwN, below_drew1 → bw1, below_alloc → bwA
open Go.Proofs.YtpcgjdllgdkobaaW.PrintZ
open Bool renaming true → T,false → F

/-! ### beaconref14_put: function 46 -/
def beaconref14_put.l0 : Nat → List (S61) → List (S61) → Bool → Int → Int → Int → Nat → Nat → Int → Option ((List (S61)))
 | 0, _, _, _, _, _, _, _, _, _ => none
 | k + 1, x0, x5, x6, x7, x203000, x203001, x203002, x203003, x203004 => if x7 < (x0.length : Int) then (if x6 = true then (if 0 ≤ x7 then (if x5.length < 3518437208883 then (beaconref14_put.l0 k x0 (x5 ++ [(⟨(rd_T61 x0 x7).f0, (rd_T61 x0 x7).f1, (rd_T61 x0 x7).f2, (rd_T61 x0 x7).f3, (rd_T61 x0 x7).f4⟩ : S61)]) x6 (wrap64 (x7 + 1)) x203000 x203001 x203002 x203003 x203004) else (none)) else (none)) else (if 0 ≤ x7 then ((beaconref06_Before.f x203000 x203001 x203002 x203003 x203004 ((rd_T61 x0 x7).f0) ((rd_T61 x0 x7).f1) ((rd_T61 x0 x7).f2) ((rd_T61 x0 x7).f3) ((rd_T61 x0 x7).f4)).bind fun t208 => (if t208 = true then (if x5.length < 3518437208883 then ((some (x5 ++ [(⟨x203000, x203001, x203002, x203003, x203004⟩ : S61)] : List (S61))).bind fun y209 => (if y209.length < 3518437208883 then (beaconref14_put.l0 k x0 (y209 ++ [(⟨(rd_T61 x0 x7).f0, (rd_T61 x0 x7).f1, (rd_T61 x0 x7).f2, (rd_T61 x0 x7).f3, (rd_T61 x0 x7).f4⟩ : S61)]) true (wrap64 (x7 + 1)) x203000 x203001 x203002 x203003 x203004) else (none))) else (none)) else (if x5.length < 3518437208883 then (beaconref14_put.l0 k x0 (x5 ++ [(⟨(rd_T61 x0 x7).f0, (rd_T61 x0 x7).f1, (rd_T61 x0 x7).f2, (rd_T61 x0 x7).f3, (rd_T61 x0 x7).f4⟩ : S61)]) x6 (wrap64 (x7 + 1)) x203000 x203001 x203002 x203003 x203004) else (none)))) else (none))) else (if x6 = true then (some x5) else (if x5.length < 3518437208883 then (some (x5 ++ [(⟨x203000, x203001, x203002, x203003, x203004⟩ : S61)])) else (none)))
def beaconref14_put.f (k : Nat) (l0 : List (S61)) (a1_0 : Int) (a1_1 : Int) (a1_2 : Nat) (a1_3 : Nat) (a1_4 : Int) : Option ((List (S61))) := beaconref14_put.l0 k l0 ([] : List (S61)) false 0 a1_0 a1_1 a1_2 a1_3 a1_4
theorem beaconref14_put.mono_l : ∀ k, (∀ y0 y1 y2 y3 y4 y5 y6 y7 y8, LeO (beaconref14_put.l0 k y0 y1 y2 y3 y4 y5 y6 y7 y8) (beaconref14_put.l0 (k + 1) y0 y1 y2 y3 y4 y5 y6 y7 y8))
 | 0 => fun _ _ _ _ _ _ _ _ _ r h => by simp [beaconref14_put.l0] at h
 | k + 1 => by
  have ih0:=beaconref14_put.mono_l k
  ·intro y0 y1 y2 y3 y4 y5 y6 y7 y8
   unfold beaconref14_put.l0
   repeat' first
   | (with_reducible exact ih0 _ _ _ _ _ _ _ _ _)
   | (with_reducible exact LeO.refl _)
   | (with_reducible exact LeO.none _)
   | (with_reducible refine LeO.ite ?_ ?_)
   | (with_reducible refine LeO.bind ?_ (fun _ => ?_))
   | exact ih0 _ _ _ _ _ _ _ _ _
   | exact LeO.none _
   | refine LeO.ite ?_ ?_
   | refine LeO.bind ?_ (fun _ => ?_)
theorem beaconref14_put.mono : ∀ a0 a1 a2 a3 a4 a5 k, LeO (beaconref14_put.f k a0 a1 a2 a3 a4 a5) (beaconref14_put.f (k + 1) a0 a1 a2 a3 a4 a5) := by
 intro a0 a1 a2 a3 a4 a5 k
 have ih0:=beaconref14_put.mono_l k
 unfold beaconref14_put.f
 repeat' first
   | (with_reducible exact ih0 _ _ _ _ _ _ _ _ _)
   | (with_reducible exact LeO.refl _)
   | (with_reducible exact LeO.none _)
   | (with_reducible refine LeO.ite ?_ ?_)
   | (with_reducible refine LeO.bind ?_ (fun _ => ?_))
   | exact ih0 _ _ _ _ _ _ _ _ _
   | exact LeO.none _
   | refine LeO.ite ?_ ?_
   | refine LeO.bind ?_ (fun _ => ?_)
def beaconref14_put.T6 : Bool × List (List Nat × List Nat) := (true, [([], []), ([0], [0]), ([1], [1]), ([2], [2]), ([2], [2]), ([2], [2]), ([4, 5, 2], [2, 4, 5]), ([6, 2], [2, 6]), ([3, 7, 2, 2], [2, 3, 7]), ([2, 8], [2, 8])])
def beaconref14_put.B6 : List Nat := [0, 1, 3, 7, 7, 7, 55, 119, 255, 511]
theorem beaconref14_put.tab6 : rtab .any (opsOf Try.f46 6) = beaconref14_put.T6 := by kernel_rfl
theorem beaconref14_put.bits6 : waitsOk beaconref14_put.T6.2 beaconref14_put.B6 = true := by kernel_rfl
set_option maxHeartbeats 8000000 in
set_option maxRecDepth 100000 in
theorem beaconref14_put.calls (k : Nat) (A0 : Option Addr) (c0 : Nat) (l0 : List (S61)) (a1_0 : Int) (a1_1 : Int) (a1_2 : Nat) (a1_3 : Nat) (a1_4 : Int) (r : List (S61)) (w : World) (hr0 : Kd.C k61 w A0 l0.length l0) (hc0 : l0.length ≤ c0) (h : beaconref14_put.f k l0 a1_0 a1_1 a1_2 a1_3 a1_4 = some r) :
  Calls Try.prog 46 #[.slice A0 l0.length c0,.agg #[.int .i64 a1_0,.int .i64 a1_1,.float .f64 a1_2,.float .f64 a1_3,.int .i64 a1_4]] w fun e w' => ∃ v0_ : Value,e = .returned (v0_) ∧ Kd.R k61 61 w' w.heap.size (fun _ => True) v0_ r ∧ Below w.heap.size w w':=by
 have hu61:=Try.underlying61;have HR0:=zA hr0;have HC0:=zA hc0;clear hr0 hc0;have HB:=zA (Below.refl w.heap.size w);have H : (beaconref14_put.l0 k l0 ([] : List (S61)) false 0 a1_0 a1_1 a1_2 a1_3 a1_4) = some r:=h;clear h;have H':=zA H;clear H;go_enter Try.func46,Try.ntmps46
 go_wp2_with (first|((with_reducible refine gate_dst (N:=3) rfl ?_);refine zb (N:=3) (cs:=#[.int .i64 a1_0,.int .i64 a1_1,.float .f64 a1_2,.float .f64 a1_3,.int .i64 a1_4]) (t:=61) ?_;intro G202 hg w3 hbox hb;have K202:=zA (hbox);have GW202:=zN HB hg;have GE202:=zN HB hg;replace HB:=zS HB hb;clear hb hbox hg))
 go_loopg [5,6,7] k (fun kq v5 v6 v7 w' => ∃ (x5_1 : List (S61)) (x6_1 : Bool) (x7_1 : Int),v6 = .bool x6_1 ∧ v7 = .int .i64 x7_1 ∧ Aside0 (beaconref14_put.l0 kq l0 x5_1 x6_1 x7_1 a1_0 a1_1 a1_2 a1_3 a1_4 = some r) ∧ Aside0 (kq ≤ k) ∧ Aside0 (Kd.R k61 61 w' w.heap.size (fun k_ => k_ ≠ G202) v5 x5_1) ∧ Aside0 (w'.heap[G202]? = some (.cells #[.int .i64 a1_0,.int .i64 a1_1,.float .f64 a1_2,.float .f64 a1_3,.int .i64 a1_4] 61 (0,0))) ∧ Aside0 (Below w.heap.size w w'))
 case atStart => exact ⟨(([] : List (S61))),(false),(0),ze,ze,H',⟨Nat.le_refl _⟩,⟨by first|exact Kd.R_nil _ _ _ _ _|exact Kd.N_nil _ _ _ _ _|exact Kd.V_nil _ _ _ _ _|exact Kd.Q_nil _ _ _ _ _|exact Kd.S_nil _ _ _ _ _⟩,⟨z1 K202.1⟩,⟨zH HB⟩⟩
 case round =>
  clear H';obtain ⟨x5_1,x6_1,x7_1,rfl,rfl,HA,HK1,HO_5,K202,HB⟩:=hrel;cases gk with
  | zero => exact absurd HA.out (by simp [beaconref14_put.l0])
  | succ k1 =>
   have H:=HA.out;clear HA;simp only [beaconref14_put.l0] at H;by_cases c4 : x7_1 < (l0.length : Int)
   ·rw [if_pos c4] at H;have c4b0 : decide (x7_1 < (l0.length : Int)) = true:=decide_eq_true c4;clear c4;by_cases c5 : x6_1 = true
    ·subst c5;rw [if_pos rfl] at H;by_cases c6 : 0 ≤ x7_1
     ·rw [if_pos c6] at H;have c6b0 : decide (0 ≤ x7_1) = true:=decide_eq_true c6;clear c6;by_cases c7 : x5_1.length < 3518437208883
      ·rw [if_pos c7] at H;have LMc7:=zA c7;clear c7;obtain ⟨y204,hy204⟩ : ∃ y_ : List (S61),y_ = (x5_1 ++ [(⟨(rd_T61 l0 x7_1).f0,(rd_T61 l0 x7_1).f1,(rd_T61 l0 x7_1).f2,(rd_T61 l0 x7_1).f3,(rd_T61 l0 x7_1).f4⟩ : S61)]):=⟨_,rfl⟩;replace H : (beaconref14_put.l0 k1 l0 y204 true (wrap64 (x7_1 + 1)) a1_0 a1_1 a1_2 a1_3 a1_4) = some r:=by first|(rw [hy204];with_reducible exact H)|(have H2_:=(Option.bind_some _ _).symm.trans H;rw [hy204];with_reducible exact H2_)|(have H2_:=(Option.bind_some _ _).symm.trans H;with_reducible exact H2_)|with_reducible exact H|(rw [hy204];exact H)|exact H
       have Ny204:=zA hy204;clear hy204;have H':=zA H;clear H;try go_wp2
       replace HO_5:=zA (Kd.R_drew HO_5.out);replace K202:=zA (bD K202.1);replace HB:=zA (bw1 HB.1);refine start_ (n:=10) (S:=fun w' => True) (ds:=[]) #[F,F,F,F,F,F,F,F,F,F] (by kernel_rfl) rfl rfl trivial (fun hHeld => ?_);refine with_tabW beaconref14_put.tab6 beaconref14_put.bits6 (fun HT_ HW_ => ?_);generalize wr.drew = w8 at HO_5 K202 HB hHeld ⊢;refine pz 0 14 #[T,F,F,F,F,F,F,F,F,F] HT_.1 ?_;refine pz 1 15 #[T,T,F,F,F,F,F,F,F,F] HT_.1 ?_;refine pz 2 16 #[T,T,T,F,F,F,F,F,F,F] HT_.1 ?_;refine pu 3 17 #[T,T,T,T,F,F,F,F,F,F] HT_.1 ?_;refine pu 4 18 #[T,T,T,T,T,F,F,F,F,F] HT_.1 ?_;refine pu 5 19 #[T,T,T,T,T,T,F,F,F,F] HT_.1 ?_;refine pu 6 20 #[T,T,T,T,T,T,T,F,F,F] HT_.1 ?_;refine pu 7 21 #[T,T,T,T,T,T,T,T,F,F] HT_.1 ?_;refine pu 8 22 #[T,T,T,T,T,T,T,T,T,F] HT_.1 ?_;refine pz 9 23 #[T,T,T,T,T,T,T,T,T,T] HT_.1 ?_;refine done_ (done_of HT_.out (by kernel_rfl)) ?_;have p203 : 0 ≤ (x7_1 : Int):=zd;have q203 : x7_1 < (l0.length : Int):=zd;obtain ⟨ad203,e203,hx203_0,hx203_1,hx203_2,hx203_3,hx203_4⟩:=at_T61 HR0.out x7_1 p203 q203;cases e203;replace hx203_0:=zh HB hx203_0;replace hx203_1:=zh HB hx203_1;replace hx203_2:=zh HB hx203_2;replace hx203_3:=zh HB hx203_3;replace hx203_4:=zh HB hx203_4;replace p203:=eq_true p203;replace q203:=eq_true q203;try go_wp2_with (first|((with_reducible refine gate_builtin (b:=.append) (xs:=#[.tmp 28,.tmp 33]) rfl ?_);at_builtin;refine Kd.R_append k61 (w0:=w) w.heap.size rfl (.tmp 28) (.tmp 33) 30 61 (.agg #[(.int .i64 0),(.int .i64 0),(.float .f64 0),(.float .f64 0),(.int .i64 0)]) 40 rfl Try.underlying30 info61 rfl (by decide) (by omega) u5 x5_1 (⟨(rd_T61 l0 x7_1).f0,(rd_T61 l0 x7_1).f1,(rd_T61 l0 x7_1).f2,(rd_T61 l0 x7_1).f3,(rd_T61 l0 x7_1).f4⟩ : S61) [.int .i64 ((rd_T61 l0 x7_1).f0),.int .i64 ((rd_T61 l0 x7_1).f1),.float .f64 ((rd_T61 l0 x7_1).f2),.float .f64 ((rd_T61 l0 x7_1).f3),.int .i64 ((rd_T61 l0 x7_1).f4)] (fun k_ => k_ ≠ G202) (fun _ => False) rfl rfl ?aP (fun _ hk => hk.elim) ?aF ?aO ?aB ?aS ?aL ?_;(case aP => exact k61_mkM _ _ _ (⟨(rd_T61 l0 x7_1).f0,(rd_T61 l0 x7_1).f1,(rd_T61 l0 x7_1).f2,(rd_T61 l0 x7_1).f3,(rd_T61 l0 x7_1).f4⟩ : S61));(case aB => exact (zH HB));(case aF => exact (fun k_ hk => Kd.freshB (g:=G202) (z1 K202.1) k_ hk));(case aO => exact (zR HO_5));(case aS => exact (zW HB));(case aL => have:=LMc7.out;omega);intro v205 w9 ho hb hg hat;rw [← Ny204.out] at ho;replace K202:=zA (blk_grown (g:=G202) (z1 K202.1) hg (Kd.R_away HO_5.out (fun _ hk => hk)));replace HB:=zA (hb);have HO206:=zA (ho);clear HO_5;clear ho hb hg hat))
       go_roundg k1
       case measure => have:=HK1.out;omega
       case rel => exact ⟨(y204),(true),(wrap64 (x7_1 + 1)),ze,ze,H',⟨by have:=HK1.out;omega⟩,⟨zR HO206⟩,⟨z1 K202.1⟩,⟨zH HB⟩⟩
      ·rw [if_neg c7] at H;exact absurd H (by simp)
     ·rw [if_neg c6] at H;exact absurd H (by simp)
    ·replace c5:=Bool.eq_false_iff.mpr c5;subst c5;rw [if_neg (show ¬ (false = true) by decide)] at H;by_cases c10 : 0 ≤ x7_1
     ·rw [if_pos c10] at H;have c10b0 : decide (0 ≤ x7_1) = true:=decide_eq_true c10;clear c10;replace H:=Option.bind_eq_some_iff.mp H;obtain ⟨t208,A110,H⟩:=H;(try dsimp only at H);have A11:=zA A110;clear A110;by_cases c12 : t208 = true
      ·subst c12;rw [if_pos rfl] at H;by_cases c13 : x5_1.length < 3518437208883
       ·rw [if_pos c13] at H;have LMc13:=zA c13;clear c13;obtain ⟨y209,hy209⟩ : ∃ y_ : List (S61),y_ = (x5_1 ++ [(⟨a1_0,a1_1,a1_2,a1_3,a1_4⟩ : S61)]):=⟨_,rfl⟩;replace H : (if y209.length < 3518437208883 then (beaconref14_put.l0 k1 l0 (y209 ++ [(⟨(rd_T61 l0 x7_1).f0,(rd_T61 l0 x7_1).f1,(rd_T61 l0 x7_1).f2,(rd_T61 l0 x7_1).f3,(rd_T61 l0 x7_1).f4⟩ : S61)]) true (wrap64 (x7_1 + 1)) a1_0 a1_1 a1_2 a1_3 a1_4) else (none)) = some r:=by first|(rw [hy209];with_reducible exact H)|(have H2_:=(Option.bind_some _ _).symm.trans H;rw [hy209];with_reducible exact H2_)|(have H2_:=(Option.bind_some _ _).symm.trans H;with_reducible exact H2_)|with_reducible exact H|(rw [hy209];exact H)|exact H
        have Ny209:=zA hy209;clear hy209;by_cases c14 : y209.length < 3518437208883
        ·rw [if_pos c14] at H;have LMc14:=zA c14;clear c14;obtain ⟨y213,hy213⟩ : ∃ y_ : List (S61),y_ = (y209 ++ [(⟨(rd_T61 l0 x7_1).f0,(rd_T61 l0 x7_1).f1,(rd_T61 l0 x7_1).f2,(rd_T61 l0 x7_1).f3,(rd_T61 l0 x7_1).f4⟩ : S61)]):=⟨_,rfl⟩;replace H : (beaconref14_put.l0 k1 l0 y213 true (wrap64 (x7_1 + 1)) a1_0 a1_1 a1_2 a1_3 a1_4) = some r:=by first|(rw [hy213];with_reducible exact H)|(have H2_:=(Option.bind_some _ _).symm.trans H;rw [hy213];with_reducible exact H2_)|(have H2_:=(Option.bind_some _ _).symm.trans H;with_reducible exact H2_)|with_reducible exact H|(rw [hy213];exact H)|exact H
         have Ny213:=zA hy213;clear hy213;have H':=zA H;clear H;try go_wp2
         replace HO_5:=zA (Kd.R_drew HO_5.out);replace K202:=zA (bD K202.1);replace HB:=zA (bw1 HB.1);have p207 : 0 ≤ (x7_1 : Int):=zd;have q207 : x7_1 < (l0.length : Int):=zd;obtain ⟨ad207,e207,hx207_0,hx207_1,hx207_2,hx207_3,hx207_4⟩:=at_T61 HR0.out x7_1 p207 q207;have hw207_4:=hx207_4;have hw207_3:=hx207_3;have hw207_2:=hx207_2;have hw207_1:=hx207_1;have hw207_0:=hx207_0;cases e207;replace hx207_0:=zh HB hx207_0;replace hx207_1:=zh HB hx207_1;replace hx207_2:=zh HB hx207_2;replace hx207_3:=zh HB hx207_3;replace hx207_4:=zh HB hx207_4;replace p207:=eq_true p207;replace q207:=eq_true q207;refine start_ (n:=10) (S:=fun w' => w'.cell? ⟨G202,0,none⟩ = some (.int .i64 a1_0) ∧ w'.cell? ⟨G202,1,none⟩ = some (.int .i64 a1_1) ∧ w'.cell? ⟨G202,2,none⟩ = some (.float .f64 a1_2) ∧ w'.cell? ⟨G202,3,none⟩ = some (.float .f64 a1_3) ∧ w'.cell? ⟨G202,4,none⟩ = some (.int .i64 a1_4) ∧ w'.cell? (ad207.add ((x7_1).toNat * 5)) = some (.int .i64 ((rd_T61 l0 x7_1).f0)) ∧ w'.cell? ⟨(ad207.add ((x7_1).toNat * 5)).block,(ad207.add ((x7_1).toNat * 5)).off + 1,none⟩ = some (.int .i64 ((rd_T61 l0 x7_1).f1)) ∧ w'.cell? ⟨(ad207.add ((x7_1).toNat * 5)).block,(ad207.add ((x7_1).toNat * 5)).off + 2,none⟩ = some (.float .f64 ((rd_T61 l0 x7_1).f2)) ∧ w'.cell? ⟨(ad207.add ((x7_1).toNat * 5)).block,(ad207.add ((x7_1).toNat * 5)).off + 3,none⟩ = some (.float .f64 ((rd_T61 l0 x7_1).f3)) ∧ w'.cell? ⟨(ad207.add ((x7_1).toNat * 5)).block,(ad207.add ((x7_1).toNat * 5)).off + 4,none⟩ = some (.int .i64 ((rd_T61 l0 x7_1).f4))) (ds:=[]) #[F,F,F,F,F,F,F,F,F,F] (by kernel_rfl) rfl rfl ⟨zk K202 0,zk K202 1,zk K202 2,zk K202 3,zk K202 4,(zh HB hw207_0),(zh HB hw207_1),(zh HB hw207_2),(zh HB hw207_3),(zh HB hw207_4)⟩ (fun hHeld => ?_);refine with_tabW beaconref14_put.tab6 beaconref14_put.bits6 (fun HT_ HW_ => ?_);generalize wr.drew = w15 at HO_5 K202 HB hx207_0 hx207_1 hx207_2 hx207_3 hx207_4 hHeld ⊢;refine pz 0 14 #[T,F,F,F,F,F,F,F,F,F] HT_.1 ?_;refine pz 1 15 #[T,T,F,F,F,F,F,F,F,F] HT_.1 ?_;refine pz 2 16 #[T,T,T,F,F,F,F,F,F,F] HT_.1 ?_;refine pz 4 18 #[T,T,T,F,T,F,F,F,F,F] HT_.1 ?_;refine pz 5 19 #[T,T,T,F,T,T,F,F,F,F] HT_.1 ?_;refine pz 6 20 #[T,T,T,F,T,T,T,F,F,F] HT_.1 ?_;refine tz 3 17 #[T,T,T,T,T,T,T,F,F,F] HT_.1 HW_.1 hHeld ?_;refine tz 7 21 #[T,T,T,T,T,T,T,T,F,F] HT_.1 HW_.1 hHeld ?_;refine one_ (i:=8) (N:=some 22) #[T,T,T,T,T,T,T,T,T,F] rfl rfl (one_of HT_.out (by kernel_rfl)) (by decide) (fun K hK => ?_);refine zo_ Try.func50 #[.agg #[.int .i64 a1_0,.int .i64 a1_1,.float .f64 a1_2,.float .f64 a1_3,.int .i64 a1_4],.agg #[.int .i64 ((rd_T61 l0 x7_1).f0),.int .i64 ((rd_T61 l0 x7_1).f1),.float .f64 ((rd_T61 l0 x7_1).f2),.float .f64 ((rd_T61 l0 x7_1).f3),.int .i64 ((rd_T61 l0 x7_1).f4)]] ?_;with_reducible refine (beaconref06_Before.calls a1_0 a1_1 a1_2 a1_3 a1_4 ((rd_T61 l0 x7_1).f0) ((rd_T61 l0 x7_1).f1) ((rd_T61 l0 x7_1).f2) ((rd_T61 l0 x7_1).f3) ((rd_T61 l0 x7_1).f4) true _ A11.out).mono ?_
         rintro e w16 ⟨rfl,hb⟩;refine ⟨_,rfl,?_⟩;replace HO_5:=zRb HO_5 hb;replace K202:=zB K202 hb;replace HB:=zS HB hb;(try clear hb);(try clear hb2);(try clear hk);(try clear hi);refine hK.out _ _ ⟨zk K202 0,zk K202 1,zk K202 2,zk K202 3,zk K202 4,(zh HB hw207_0),(zh HB hw207_1),(zh HB hw207_2),(zh HB hw207_3),(zh HB hw207_4)⟩ (fun hHeld => ?_);clear hK K;refine nz 22 ?_;refine pz 9 23 #[T,T,T,T,T,T,T,T,T,T] HT_.1 ?_;refine done_ (done_of HT_.out (by kernel_rfl)) ?_;obtain ⟨_,_,_,_,_,_,_,_,_,_⟩:=zc5 K202;try go_wp2_with (first|((with_reducible refine gate_builtin (b:=.append) (xs:=#[.tmp 24,.tmp 26]) rfl ?_);at_builtin;refine Kd.R_append k61 (w0:=w) w.heap.size rfl (.tmp 24) (.tmp 26) 30 61 (.agg #[(.int .i64 0),(.int .i64 0),(.float .f64 0),(.float .f64 0),(.int .i64 0)]) 40 rfl Try.underlying30 info61 rfl (by decide) (by omega) u5 x5_1 (⟨a1_0,a1_1,a1_2,a1_3,a1_4⟩ : S61) [.int .i64 a1_0,.int .i64 a1_1,.float .f64 a1_2,.float .f64 a1_3,.int .i64 a1_4] (fun k_ => k_ ≠ G202) (fun _ => False) rfl rfl ?aP (fun _ hk => hk.elim) ?aF ?aO ?aB ?aS ?aL ?_;(case aP => exact k61_mkM _ _ _ (⟨a1_0,a1_1,a1_2,a1_3,a1_4⟩ : S61));(case aB => exact (zH HB));(case aF => exact (fun k_ hk => Kd.freshB (g:=G202) (z1 K202.1) k_ hk));(case aO => exact (zR HO_5));(case aS => exact (zW HB));(case aL => have:=LMc13.out;omega);intro v210 w18 ho hb hg hat;rw [← Ny209.out] at ho;replace K202:=zA (blk_grown (g:=G202) (z1 K202.1) hg (Kd.R_away HO_5.out (fun _ hk => hk)));replace HB:=zA (hb);have HO211:=zA (ho);clear HO_5;clear ho hb hg hat;have p212 : 0 ≤ (x7_1 : Int):=zd;have q212 : x7_1 < (l0.length : Int):=zd;obtain ⟨ad212,e212,hx212_0,hx212_1,hx212_2,hx212_3,hx212_4⟩:=at_T61 HR0.out x7_1 p212 q212;obtain rfl : ad207 = ad212:=(by injection e212);replace hx212_0:=zh HB hx212_0;replace hx212_1:=zh HB hx212_1;replace hx212_2:=zh HB hx212_2;replace hx212_3:=zh HB hx212_3;replace hx212_4:=zh HB hx212_4;replace p212:=eq_true p212;replace q212:=eq_true q212)|((with_reducible refine gate_builtin (b:=.append) (xs:=#[.tmp 28,.tmp 33]) rfl ?_);at_builtin;refine Kd.R_append k61 (w0:=w) w.heap.size rfl (.tmp 28) (.tmp 33) 30 61 (.agg #[(.int .i64 0),(.int .i64 0),(.float .f64 0),(.float .f64 0),(.int .i64 0)]) 40 rfl Try.underlying30 info61 rfl (by decide) (by omega) v210 y209 (⟨(rd_T61 l0 x7_1).f0,(rd_T61 l0 x7_1).f1,(rd_T61 l0 x7_1).f2,(rd_T61 l0 x7_1).f3,(rd_T61 l0 x7_1).f4⟩ : S61) [.int .i64 ((rd_T61 l0 x7_1).f0),.int .i64 ((rd_T61 l0 x7_1).f1),.float .f64 ((rd_T61 l0 x7_1).f2),.float .f64 ((rd_T61 l0 x7_1).f3),.int .i64 ((rd_T61 l0 x7_1).f4)] (fun k_ => k_ ≠ G202) (fun _ => False) rfl rfl ?aP (fun _ hk => hk.elim) ?aF ?aO ?aB ?aS ?aL ?_;(case aP => exact k61_mkM _ _ _ (⟨(rd_T61 l0 x7_1).f0,(rd_T61 l0 x7_1).f1,(rd_T61 l0 x7_1).f2,(rd_T61 l0 x7_1).f3,(rd_T61 l0 x7_1).f4⟩ : S61));(case aB => exact (zH HB));(case aF => exact (fun k_ hk => Kd.freshB (g:=G202) (z1 K202.1) k_ hk));(case aO => exact (zR HO211));(case aS => exact (zW HB));(case aL => have:=LMc14.out;omega);intro v214 w19 ho hb hg hat;rw [← Ny213.out] at ho;replace K202:=zA (blk_grown (g:=G202) (z1 K202.1) hg (Kd.R_away HO211.out (fun _ hk => hk)));replace HB:=zA (hb);have HO215:=zA (ho);clear HO211;clear ho hb hg hat))
         go_roundg k1
         case measure => have:=HK1.out;omega
         case rel => exact ⟨(y213),(true),(wrap64 (x7_1 + 1)),ze,ze,H',⟨by have:=HK1.out;omega⟩,⟨zR HO215⟩,⟨z1 K202.1⟩,⟨zH HB⟩⟩
        ·rw [if_neg c14] at H;exact absurd H (by simp)
       ·rw [if_neg c13] at H;exact absurd H (by simp)
      ·replace c12:=Bool.eq_false_iff.mpr c12;subst c12;rw [if_neg (show ¬ (false = true) by decide)] at H;by_cases c20 : x5_1.length < 3518437208883
       ·rw [if_pos c20] at H;have LMc20:=zA c20;clear c20;obtain ⟨y217,hy217⟩ : ∃ y_ : List (S61),y_ = (x5_1 ++ [(⟨(rd_T61 l0 x7_1).f0,(rd_T61 l0 x7_1).f1,(rd_T61 l0 x7_1).f2,(rd_T61 l0 x7_1).f3,(rd_T61 l0 x7_1).f4⟩ : S61)]):=⟨_,rfl⟩;replace H : (beaconref14_put.l0 k1 l0 y217 false (wrap64 (x7_1 + 1)) a1_0 a1_1 a1_2 a1_3 a1_4) = some r:=by first|(rw [hy217];with_reducible exact H)|(have H2_:=(Option.bind_some _ _).symm.trans H;rw [hy217];with_reducible exact H2_)|(have H2_:=(Option.bind_some _ _).symm.trans H;with_reducible exact H2_)|with_reducible exact H|(rw [hy217];exact H)|exact H
        have Ny217:=zA hy217;clear hy217;have H':=zA H;clear H;try go_wp2
        replace HO_5:=zA (Kd.R_drew HO_5.out);replace K202:=zA (bD K202.1);replace HB:=zA (bw1 HB.1);have p207 : 0 ≤ (x7_1 : Int):=zd;have q207 : x7_1 < (l0.length : Int):=zd;obtain ⟨ad207,e207,hx207_0,hx207_1,hx207_2,hx207_3,hx207_4⟩:=at_T61 HR0.out x7_1 p207 q207;have hw207_4:=hx207_4;have hw207_3:=hx207_3;have hw207_2:=hx207_2;have hw207_1:=hx207_1;have hw207_0:=hx207_0;cases e207;replace hx207_0:=zh HB hx207_0;replace hx207_1:=zh HB hx207_1;replace hx207_2:=zh HB hx207_2;replace hx207_3:=zh HB hx207_3;replace hx207_4:=zh HB hx207_4;replace p207:=eq_true p207;replace q207:=eq_true q207;refine start_ (n:=10) (S:=fun w' => w'.cell? ⟨G202,0,none⟩ = some (.int .i64 a1_0) ∧ w'.cell? ⟨G202,1,none⟩ = some (.int .i64 a1_1) ∧ w'.cell? ⟨G202,2,none⟩ = some (.float .f64 a1_2) ∧ w'.cell? ⟨G202,3,none⟩ = some (.float .f64 a1_3) ∧ w'.cell? ⟨G202,4,none⟩ = some (.int .i64 a1_4) ∧ w'.cell? (ad207.add ((x7_1).toNat * 5)) = some (.int .i64 ((rd_T61 l0 x7_1).f0)) ∧ w'.cell? ⟨(ad207.add ((x7_1).toNat * 5)).block,(ad207.add ((x7_1).toNat * 5)).off + 1,none⟩ = some (.int .i64 ((rd_T61 l0 x7_1).f1)) ∧ w'.cell? ⟨(ad207.add ((x7_1).toNat * 5)).block,(ad207.add ((x7_1).toNat * 5)).off + 2,none⟩ = some (.float .f64 ((rd_T61 l0 x7_1).f2)) ∧ w'.cell? ⟨(ad207.add ((x7_1).toNat * 5)).block,(ad207.add ((x7_1).toNat * 5)).off + 3,none⟩ = some (.float .f64 ((rd_T61 l0 x7_1).f3)) ∧ w'.cell? ⟨(ad207.add ((x7_1).toNat * 5)).block,(ad207.add ((x7_1).toNat * 5)).off + 4,none⟩ = some (.int .i64 ((rd_T61 l0 x7_1).f4))) (ds:=[]) #[F,F,F,F,F,F,F,F,F,F] (by kernel_rfl) rfl rfl ⟨zk K202 0,zk K202 1,zk K202 2,zk K202 3,zk K202 4,(zh HB hw207_0),(zh HB hw207_1),(zh HB hw207_2),(zh HB hw207_3),(zh HB hw207_4)⟩ (fun hHeld => ?_);refine with_tabW beaconref14_put.tab6 beaconref14_put.bits6 (fun HT_ HW_ => ?_);generalize wr.drew = w21 at HO_5 K202 HB hx207_0 hx207_1 hx207_2 hx207_3 hx207_4 hHeld ⊢;refine pz 0 14 #[T,F,F,F,F,F,F,F,F,F] HT_.1 ?_;refine pz 1 15 #[T,T,F,F,F,F,F,F,F,F] HT_.1 ?_;refine pz 2 16 #[T,T,T,F,F,F,F,F,F,F] HT_.1 ?_;refine pz 4 18 #[T,T,T,F,T,F,F,F,F,F] HT_.1 ?_;refine pz 5 19 #[T,T,T,F,T,T,F,F,F,F] HT_.1 ?_;refine pz 6 20 #[T,T,T,F,T,T,T,F,F,F] HT_.1 ?_;refine tz 3 17 #[T,T,T,T,T,T,T,F,F,F] HT_.1 HW_.1 hHeld ?_;refine tz 7 21 #[T,T,T,T,T,T,T,T,F,F] HT_.1 HW_.1 hHeld ?_;refine one_ (i:=8) (N:=some 22) #[T,T,T,T,T,T,T,T,T,F] rfl rfl (one_of HT_.out (by kernel_rfl)) (by decide) (fun K hK => ?_);refine zo_ Try.func50 #[.agg #[.int .i64 a1_0,.int .i64 a1_1,.float .f64 a1_2,.float .f64 a1_3,.int .i64 a1_4],.agg #[.int .i64 ((rd_T61 l0 x7_1).f0),.int .i64 ((rd_T61 l0 x7_1).f1),.float .f64 ((rd_T61 l0 x7_1).f2),.float .f64 ((rd_T61 l0 x7_1).f3),.int .i64 ((rd_T61 l0 x7_1).f4)]] ?_;with_reducible refine (beaconref06_Before.calls a1_0 a1_1 a1_2 a1_3 a1_4 ((rd_T61 l0 x7_1).f0) ((rd_T61 l0 x7_1).f1) ((rd_T61 l0 x7_1).f2) ((rd_T61 l0 x7_1).f3) ((rd_T61 l0 x7_1).f4) false _ A11.out).mono ?_
        rintro e w22 ⟨rfl,hb⟩;refine ⟨_,rfl,?_⟩;replace HO_5:=zRb HO_5 hb;replace K202:=zB K202 hb;replace HB:=zS HB hb;(try clear hb);(try clear hb2);(try clear hk);(try clear hi);refine hK.out _ _ ⟨zk K202 0,zk K202 1,zk K202 2,zk K202 3,zk K202 4,(zh HB hw207_0),(zh HB hw207_1),(zh HB hw207_2),(zh HB hw207_3),(zh HB hw207_4)⟩ (fun hHeld => ?_);clear hK K;refine nz 22 ?_;refine pz 9 23 #[T,T,T,T,T,T,T,T,T,T] HT_.1 ?_;refine done_ (done_of HT_.out (by kernel_rfl)) ?_;have p216 : 0 ≤ (x7_1 : Int):=zd;have q216 : x7_1 < (l0.length : Int):=zd;obtain ⟨ad216,e216,hx216_0,hx216_1,hx216_2,hx216_3,hx216_4⟩:=at_T61 HR0.out x7_1 p216 q216;obtain rfl : ad207 = ad216:=(by injection e216);replace hx216_0:=zh HB hx216_0;replace hx216_1:=zh HB hx216_1;replace hx216_2:=zh HB hx216_2;replace hx216_3:=zh HB hx216_3;replace hx216_4:=zh HB hx216_4;replace p216:=eq_true p216;replace q216:=eq_true q216;try go_wp2_with (first|((with_reducible refine gate_builtin (b:=.append) (xs:=#[.tmp 28,.tmp 33]) rfl ?_);at_builtin;refine Kd.R_append k61 (w0:=w) w.heap.size rfl (.tmp 28) (.tmp 33) 30 61 (.agg #[(.int .i64 0),(.int .i64 0),(.float .f64 0),(.float .f64 0),(.int .i64 0)]) 40 rfl Try.underlying30 info61 rfl (by decide) (by omega) u5 x5_1 (⟨(rd_T61 l0 x7_1).f0,(rd_T61 l0 x7_1).f1,(rd_T61 l0 x7_1).f2,(rd_T61 l0 x7_1).f3,(rd_T61 l0 x7_1).f4⟩ : S61) [.int .i64 ((rd_T61 l0 x7_1).f0),.int .i64 ((rd_T61 l0 x7_1).f1),.float .f64 ((rd_T61 l0 x7_1).f2),.float .f64 ((rd_T61 l0 x7_1).f3),.int .i64 ((rd_T61 l0 x7_1).f4)] (fun k_ => k_ ≠ G202) (fun _ => False) rfl rfl ?aP (fun _ hk => hk.elim) ?aF ?aO ?aB ?aS ?aL ?_;(case aP => exact k61_mkM _ _ _ (⟨(rd_T61 l0 x7_1).f0,(rd_T61 l0 x7_1).f1,(rd_T61 l0 x7_1).f2,(rd_T61 l0 x7_1).f3,(rd_T61 l0 x7_1).f4⟩ : S61));(case aB => exact (zH HB));(case aF => exact (fun k_ hk => Kd.freshB (g:=G202) (z1 K202.1) k_ hk));(case aO => exact (zR HO_5));(case aS => exact (zW HB));(case aL => have:=LMc20.out;omega);intro v218 w23 ho hb hg hat;rw [← Ny217.out] at ho;replace K202:=zA (blk_grown (g:=G202) (z1 K202.1) hg (Kd.R_away HO_5.out (fun _ hk => hk)));replace HB:=zA (hb);have HO219:=zA (ho);clear HO_5;clear ho hb hg hat))
        go_roundg k1
        case measure => have:=HK1.out;omega
        case rel => exact ⟨(y217),(false),(wrap64 (x7_1 + 1)),ze,ze,H',⟨by have:=HK1.out;omega⟩,⟨zR HO219⟩,⟨z1 K202.1⟩,⟨zH HB⟩⟩
       ·rw [if_neg c20] at H;exact absurd H (by simp)
     ·rw [if_neg c10] at H;exact absurd H (by simp)
   ·rw [if_neg c4] at H;have c4b0 : decide (x7_1 < (l0.length : Int)) = false:=decide_eq_false c4;clear c4;by_cases c24 : x6_1 = true
    ·subst c24;rw [if_pos rfl] at H;obtain rfl:=Option.some.inj H;go_wp2
     go_ret
     exact ⟨_,by first|rfl|(simp [errW_none,errW_some] <;> rfl)|(simp [*,errW_none,errW_some] <;> rfl),by (with_reducible repeat (first|apply Kd.R_alloc|apply Kd.R_drewN|apply Kd.R_drew));exact Kd.R_mono HO_5.out (fun _ hk => trivial),zH HB⟩
    ·replace c24:=Bool.eq_false_iff.mpr c24;subst c24;rw [if_neg (show ¬ (false = true) by decide)] at H;by_cases c25 : x5_1.length < 3518437208883
     ·rw [if_pos c25] at H;have LMc25:=zA c25;clear c25;obtain ⟨y220,hy220⟩ : ∃ y_ : List (S61),y_ = (x5_1 ++ [(⟨a1_0,a1_1,a1_2,a1_3,a1_4⟩ : S61)]):=⟨_,rfl⟩;replace H : (some y220) = some r:=by first|(rw [hy220];with_reducible exact H)|(have H2_:=(Option.bind_some _ _).symm.trans H;rw [hy220];with_reducible exact H2_)|(have H2_:=(Option.bind_some _ _).symm.trans H;with_reducible exact H2_)|with_reducible exact H|(rw [hy220];exact H)|exact H
      have Ny220:=zA hy220;clear hy220;obtain rfl:=Option.some.inj H;obtain ⟨_,_,_,_,_,_,_,_,_,_⟩:=zc5 K202;go_wp2_with (first|((with_reducible refine gate_builtin (b:=.append) (xs:=#[.tmp 37,.tmp 39]) rfl ?_);at_builtin;refine Kd.R_append k61 (w0:=w) w.heap.size rfl (.tmp 37) (.tmp 39) 30 61 (.agg #[(.int .i64 0),(.int .i64 0),(.float .f64 0),(.float .f64 0),(.int .i64 0)]) 40 rfl Try.underlying30 info61 rfl (by decide) (by omega) u5 x5_1 (⟨a1_0,a1_1,a1_2,a1_3,a1_4⟩ : S61) [.int .i64 a1_0,.int .i64 a1_1,.float .f64 a1_2,.float .f64 a1_3,.int .i64 a1_4] (fun k_ => k_ ≠ G202) (fun _ => False) rfl rfl ?aP (fun _ hk => hk.elim) ?aF ?aO ?aB ?aS ?aL ?_;(case aP => exact k61_mkM _ _ _ (⟨a1_0,a1_1,a1_2,a1_3,a1_4⟩ : S61));(case aB => exact (zH HB));(case aF => exact (fun k_ hk => Kd.freshB (g:=G202) (z1 K202.1) k_ hk));(case aO => exact (zR HO_5));(case aS => exact (zW HB));(case aL => have:=LMc25.out;omega);intro v221 w27 ho hb hg hat;rw [← Ny220.out] at ho;replace K202:=zA (blk_grown (g:=G202) (z1 K202.1) hg (Kd.R_away HO_5.out (fun _ hk => hk)));replace HB:=zA (hb);have HO222:=zA (ho);clear HO_5;clear ho hb hg hat))
      go_ret
      exact ⟨_,by first|rfl|(simp [errW_none,errW_some] <;> rfl)|(simp [*,errW_none,errW_some] <;> rfl),by (with_reducible repeat (first|apply Kd.R_alloc|apply Kd.R_drewN|apply Kd.R_drew));exact Kd.R_mono HO222.out (fun _ hk => trivial),zH HB⟩
     ·rw [if_neg c25] at H;exact absurd H (by simp)

/-! ### beaconref14_merge: function 36 -/
mutual
def beaconref14_merge.l0 : Nat → List (S61) → List (S61) → List (S61) → Int → Option ((List (S61)))
 | 0, _, _, _, _ => none
 | k + 1, x0, x1, x5, x6 => if x6 < (x0.length : Int) then (if 0 ≤ x6 then ((beaconref14_place.f k x1 ((rd_T61 x0 x6).f0) ((rd_T61 x0 x6).f1) ((rd_T61 x0 x6).f2) ((rd_T61 x0 x6).f3) ((rd_T61 x0 x6).f4)).bind fun t224 => (if t224 < 0 then (if x5.length < 3518437208883 then (beaconref14_merge.l0 k x0 x1 (x5 ++ [(⟨(rd_T61 x0 x6).f0, (rd_T61 x0 x6).f1, (rd_T61 x0 x6).f2, (rd_T61 x0 x6).f3, (rd_T61 x0 x6).f4⟩ : S61)]) (wrap64 (x6 + 1))) else (none)) else (beaconref14_merge.l0 k x0 x1 x5 (wrap64 (x6 + 1))))) else (none)) else (beaconref14_merge.l1 k x1 x5 0)
def beaconref14_merge.l1 : Nat → List (S61) → List (S61) → Int → Option ((List (S61)))
 | 0, _, _, _ => none
 | k + 1, x1, x5, x7 => if x7 < (x1.length : Int) then (if 0 ≤ x7 then ((math_IsInf.f ((rd_T61 x1 x7).f2) 1).bind fun t230 => (if t230 = true then (beaconref14_merge.l1 k x1 x5 (wrap64 (x7 + 1))) else ((beaconref14_put.f k x5 ((rd_T61 x1 x7).f0) ((rd_T61 x1 x7).f1) ((rd_T61 x1 x7).f2) ((rd_T61 x1 x7).f3) ((rd_T61 x1 x7).f4)).bind fun t232 => (beaconref14_merge.l1 k x1 t232 (wrap64 (x7 + 1)))))) else (none)) else (some x5)
end
def beaconref14_merge.f (k : Nat) (l0 : List (S61)) (l1 : List (S61)) : Option ((List (S61))) := beaconref14_merge.l0 k l0 l1 ([] : List (S61)) 0
theorem beaconref14_merge.mono_l : ∀ k, (∀ y0 y1 y2 y3, LeO (beaconref14_merge.l0 k y0 y1 y2 y3) (beaconref14_merge.l0 (k + 1) y0 y1 y2 y3)) ∧ (∀ y0 y1 y2, LeO (beaconref14_merge.l1 k y0 y1 y2) (beaconref14_merge.l1 (k + 1) y0 y1 y2))
 | 0 => ⟨fun _ _ _ _ r h => by simp [beaconref14_merge.l0] at h, fun _ _ _ r h => by simp [beaconref14_merge.l1] at h⟩
 | k + 1 => by
  obtain ⟨ih0,ih1⟩:=beaconref14_merge.mono_l k
  refine ⟨?_,?_⟩
  ·intro y0 y1 y2 y3
   unfold beaconref14_merge.l0
   repeat' first
   | (with_reducible exact ih0 _ _ _ _)
   | (with_reducible exact ih1 _ _ _)
   | (with_reducible exact beaconref14_place.mono _ _ _ _ _ _ _)
   | (with_reducible exact beaconref14_put.mono _ _ _ _ _ _ _)
   | (with_reducible exact LeO.refl _)
   | (with_reducible exact LeO.none _)
   | (with_reducible refine LeO.ite ?_ ?_)
   | (with_reducible refine LeO.bind ?_ (fun _ => ?_))
   | exact ih0 _ _ _ _
   | exact ih1 _ _ _
   | exact beaconref14_place.mono _ _ _ _ _ _ _
   | exact beaconref14_put.mono _ _ _ _ _ _ _
   | exact LeO.none _
   | refine LeO.ite ?_ ?_
   | refine LeO.bind ?_ (fun _ => ?_)
  ·intro y0 y1 y2
   unfold beaconref14_merge.l1
   repeat' first
   | (with_reducible exact ih0 _ _ _ _)
   | (with_reducible exact ih1 _ _ _)
   | (with_reducible exact beaconref14_place.mono _ _ _ _ _ _ _)
   | (with_reducible exact beaconref14_put.mono _ _ _ _ _ _ _)
   | (with_reducible exact LeO.refl _)
   | (with_reducible exact LeO.none _)
   | (with_reducible refine LeO.ite ?_ ?_)
   | (with_reducible refine LeO.bind ?_ (fun _ => ?_))
   | exact ih0 _ _ _ _
   | exact ih1 _ _ _
   | exact beaconref14_place.mono _ _ _ _ _ _ _
   | exact beaconref14_put.mono _ _ _ _ _ _ _
   | exact LeO.none _
   | refine LeO.ite ?_ ?_
   | refine LeO.bind ?_ (fun _ => ?_)
theorem beaconref14_merge.mono : ∀ a0 a1 k, LeO (beaconref14_merge.f k a0 a1) (beaconref14_merge.f (k + 1) a0 a1) := by
 intro a0 a1 k
 obtain ⟨ih0,ih1⟩:=beaconref14_merge.mono_l k
 unfold beaconref14_merge.f
 repeat' first
   | (with_reducible exact ih0 _ _ _ _)
   | (with_reducible exact ih1 _ _ _)
   | (with_reducible exact beaconref14_place.mono _ _ _ _ _ _ _)
   | (with_reducible exact beaconref14_put.mono _ _ _ _ _ _ _)
   | (with_reducible exact LeO.refl _)
   | (with_reducible exact LeO.none _)
   | (with_reducible refine LeO.ite ?_ ?_)
   | (with_reducible refine LeO.bind ?_ (fun _ => ?_))
   | exact ih0 _ _ _ _
   | exact ih1 _ _ _
   | exact beaconref14_place.mono _ _ _ _ _ _ _
   | exact beaconref14_put.mono _ _ _ _ _ _ _
   | exact LeO.none _
   | refine LeO.ite ?_ ?_
   | refine LeO.bind ?_ (fun _ => ?_)
set_option maxHeartbeats 8000000 in
set_option maxRecDepth 100000 in
theorem beaconref14_merge.calls (k : Nat) (A0 : Option Addr) (c0 : Nat) (l0 : List (S61)) (A1 : Option Addr) (c1 : Nat) (l1 : List (S61)) (r : List (S61)) (w : World) (hr0 : Kd.C k61 w A0 l0.length l0) (hc0 : l0.length ≤ c0) (hr1 : Kd.C k61 w A1 l1.length l1) (hc1 : l1.length ≤ c1) (h : beaconref14_merge.f k l0 l1 = some r) :
  Calls Try.prog 36 #[.slice A0 l0.length c0,.slice A1 l1.length c1] w fun e w' => ∃ v0_ : Value,e = .returned (v0_) ∧ Kd.R k61 61 w' w.heap.size (fun _ => True) v0_ r ∧ Below w.heap.size w w':=by
 have hu61:=Try.underlying61;have HR0:=zA hr0;have HC0:=zA hc0;clear hr0 hc0;have HR1:=zA hr1;have HC1:=zA hc1;clear hr1 hc1;have HB:=zA (Below.refl w.heap.size w);have H : (beaconref14_merge.l0 k l0 l1 ([] : List (S61)) 0) = some r:=h;clear h;have H':=zA H;clear H;go_enter Try.func36,Try.ntmps36
 go_wp2
 go_loopg [5,6] k (fun kq v5 v6 w' => ∃ (x5_1 : List (S61)) (x6_1 : Int),v6 = .int .i64 x6_1 ∧ Aside0 (beaconref14_merge.l0 kq l0 l1 x5_1 x6_1 = some r) ∧ Aside0 (kq ≤ k) ∧ Aside0 (Kd.R k61 61 w' w.heap.size (fun _ => True) v5 x5_1) ∧ Aside0 (Below w.heap.size w w'))
 case atStart => exact ⟨(([] : List (S61))),(0),ze,H',⟨Nat.le_refl _⟩,⟨by first|exact Kd.R_nil _ _ _ _ _|exact Kd.N_nil _ _ _ _ _|exact Kd.V_nil _ _ _ _ _|exact Kd.Q_nil _ _ _ _ _|exact Kd.S_nil _ _ _ _ _⟩,⟨zH HB⟩⟩
 case round =>
  clear H';try clear c1
  obtain ⟨x5_1,x6_1,rfl,HA,HK1,HO_5,HB⟩:=hrel;cases gk with
  | zero => exact absurd HA.out (by simp [beaconref14_merge.l0])
  | succ k1 =>
   have H:=HA.out;clear HA;simp only [beaconref14_merge.l0] at H;by_cases c3 : x6_1 < (l0.length : Int)
   ·rw [if_pos c3] at H;have c3b0 : decide (x6_1 < (l0.length : Int)) = true:=decide_eq_true c3;clear c3;by_cases c4 : 0 ≤ x6_1
    ·rw [if_pos c4] at H;have c4b0 : decide (0 ≤ x6_1) = true:=decide_eq_true c4;clear c4;replace H:=Option.bind_eq_some_iff.mp H;obtain ⟨t224,A50,H⟩:=H;(try dsimp only at H);have A5:=zA A50;clear A50;by_cases c6 : t224 < 0
     ·rw [if_pos c6] at H;have c6b0 : decide (t224 < 0) = true:=decide_eq_true c6;clear c6;by_cases c7 : x5_1.length < 3518437208883
      ·rw [if_pos c7] at H;have LMc7:=zA c7;clear c7;obtain ⟨y226,hy226⟩ : ∃ y_ : List (S61),y_ = (x5_1 ++ [(⟨(rd_T61 l0 x6_1).f0,(rd_T61 l0 x6_1).f1,(rd_T61 l0 x6_1).f2,(rd_T61 l0 x6_1).f3,(rd_T61 l0 x6_1).f4⟩ : S61)]):=⟨_,rfl⟩;replace H : (beaconref14_merge.l0 k1 l0 l1 y226 (wrap64 (x6_1 + 1))) = some r:=by first|(rw [hy226];with_reducible exact H)|(have H2_:=(Option.bind_some _ _).symm.trans H;rw [hy226];with_reducible exact H2_)|(have H2_:=(Option.bind_some _ _).symm.trans H;with_reducible exact H2_)|with_reducible exact H|(rw [hy226];exact H)|exact H
       have Ny226:=zA hy226;clear hy226;have H':=zA H;clear H;have p223 : 0 ≤ (x6_1 : Int):=zd;have q223 : x6_1 < (l0.length : Int):=zd;obtain ⟨ad223,e223,hx223_0,hx223_1,hx223_2,hx223_3,hx223_4⟩:=at_T61 HR0.out x6_1 p223 q223;cases e223;replace hx223_0:=zh HB hx223_0;replace hx223_1:=zh HB hx223_1;replace hx223_2:=zh HB hx223_2;replace hx223_3:=zh HB hx223_3;replace hx223_4:=zh HB hx223_4;replace p223:=eq_true p223;replace q223:=eq_true q223;go_wp2_with (first|((with_reducible refine gate_callee (f:=45) rfl ?_);refine zg (some 19) Try.func45 #[.slice A1 l1.length c1,.agg #[.int .i64 ((rd_T61 l0 x6_1).f0),.int .i64 ((rd_T61 l0 x6_1).f1),.float .f64 ((rd_T61 l0 x6_1).f2),.float .f64 ((rd_T61 l0 x6_1).f3),.int .i64 ((rd_T61 l0 x6_1).f4)]] ?_;(with_reducible refine (beaconref14_place.calls k1 _ _ l1 ((rd_T61 l0 x6_1).f0) ((rd_T61 l0 x6_1).f1) ((rd_T61 l0 x6_1).f2) ((rd_T61 l0 x6_1).f3) ((rd_T61 l0 x6_1).f4) t224 _ ?side1 ?side2 A5.out).mono ?_);(case side1 => exact zC (Kd.C_below HR1.out HB.1));(case side2 => exact HC1.out);rintro e w8 ⟨rfl,hb⟩;refine ⟨_,rfl,?_⟩;replace HO_5:=zRb HO_5 hb;replace HB:=zS HB hb;(try clear hb);have p225 : 0 ≤ (x6_1 : Int):=zd;have q225 : x6_1 < (l0.length : Int):=zd;obtain ⟨ad225,e225,hx225_0,hx225_1,hx225_2,hx225_3,hx225_4⟩:=at_T61 HR0.out x6_1 p225 q225;obtain rfl : ad223 = ad225:=(by injection e225);replace hx225_0:=zh HB hx225_0;replace hx225_1:=zh HB hx225_1;replace hx225_2:=zh HB hx225_2;replace hx225_3:=zh HB hx225_3;replace hx225_4:=zh HB hx225_4;replace p225:=eq_true p225;replace q225:=eq_true q225)|((with_reducible refine gate_builtin (b:=.append) (xs:=#[.tmp 21,.tmp 26]) rfl ?_);at_builtin;refine Kd.R_append k61 (w0:=w) w.heap.size rfl (.tmp 21) (.tmp 26) 30 61 (.agg #[(.int .i64 0),(.int .i64 0),(.float .f64 0),(.float .f64 0),(.int .i64 0)]) 40 rfl Try.underlying30 info61 rfl (by decide) (by omega) u5 x5_1 (⟨(rd_T61 l0 x6_1).f0,(rd_T61 l0 x6_1).f1,(rd_T61 l0 x6_1).f2,(rd_T61 l0 x6_1).f3,(rd_T61 l0 x6_1).f4⟩ : S61) [.int .i64 ((rd_T61 l0 x6_1).f0),.int .i64 ((rd_T61 l0 x6_1).f1),.float .f64 ((rd_T61 l0 x6_1).f2),.float .f64 ((rd_T61 l0 x6_1).f3),.int .i64 ((rd_T61 l0 x6_1).f4)] (fun _ => True) (fun _ => False) rfl rfl ?aP (fun _ hk => hk.elim) ?aF ?aO ?aB ?aS ?aL ?_;(case aP => exact k61_mkM _ _ _ (⟨(rd_T61 l0 x6_1).f0,(rd_T61 l0 x6_1).f1,(rd_T61 l0 x6_1).f2,(rd_T61 l0 x6_1).f3,(rd_T61 l0 x6_1).f4⟩ : S61));(case aB => exact (zH HB));(case aF => exact (fun _ _ => trivial));(case aO => exact (zR HO_5));(case aS => exact (zW HB));(case aL => have:=LMc7.out;omega);intro v227 w9 ho hb hg hat;rw [← Ny226.out] at ho;replace HB:=zA (hb);have HO228:=zA (ho);clear HO_5;clear ho hb hg hat))
       go_roundg k1
       case measure => have:=HK1.out;omega
       case rel => exact ⟨(y226),(wrap64 (x6_1 + 1)),ze,H',⟨by have:=HK1.out;omega⟩,⟨zR HO228⟩,⟨zH HB⟩⟩
      ·rw [if_neg c7] at H;exact absurd H (by simp)
     ·rw [if_neg c6] at H;have c6b0 : decide (t224 < 0) = false:=decide_eq_false c6;clear c6;have H':=zA H;clear H;have p223 : 0 ≤ (x6_1 : Int):=zd;have q223 : x6_1 < (l0.length : Int):=zd;obtain ⟨ad223,e223,hx223_0,hx223_1,hx223_2,hx223_3,hx223_4⟩:=at_T61 HR0.out x6_1 p223 q223;cases e223;replace hx223_0:=zh HB hx223_0;replace hx223_1:=zh HB hx223_1;replace hx223_2:=zh HB hx223_2;replace hx223_3:=zh HB hx223_3;replace hx223_4:=zh HB hx223_4;replace p223:=eq_true p223;replace q223:=eq_true q223;go_wp2_with (first|((with_reducible refine gate_callee (f:=45) rfl ?_);refine zg (some 19) Try.func45 #[.slice A1 l1.length c1,.agg #[.int .i64 ((rd_T61 l0 x6_1).f0),.int .i64 ((rd_T61 l0 x6_1).f1),.float .f64 ((rd_T61 l0 x6_1).f2),.float .f64 ((rd_T61 l0 x6_1).f3),.int .i64 ((rd_T61 l0 x6_1).f4)]] ?_;(with_reducible refine (beaconref14_place.calls k1 _ _ l1 ((rd_T61 l0 x6_1).f0) ((rd_T61 l0 x6_1).f1) ((rd_T61 l0 x6_1).f2) ((rd_T61 l0 x6_1).f3) ((rd_T61 l0 x6_1).f4) t224 _ ?side1 ?side2 A5.out).mono ?_);(case side1 => exact zC (Kd.C_below HR1.out HB.1));(case side2 => exact HC1.out);rintro e w10 ⟨rfl,hb⟩;refine ⟨_,rfl,?_⟩;replace HO_5:=zRb HO_5 hb;replace HB:=zS HB hb;(try clear hb)))
      go_roundg k1
      case measure => have:=HK1.out;omega
      case rel => exact ⟨(x5_1),(wrap64 (x6_1 + 1)),ze,H',⟨by have:=HK1.out;omega⟩,⟨zR HO_5⟩,⟨zH HB⟩⟩
    ·rw [if_neg c4] at H;exact absurd H (by simp)
   ·rw [if_neg c3] at H;have c3b0 : decide (x6_1 < (l0.length : Int)) = false:=decide_eq_false c3;clear c3;have H':=zA H;clear H;go_wp2
    go_loopg [5,7] k1 (fun kq v5 v7 w' => ∃ (x5_2 : List (S61)) (x7_2 : Int),v7 = .int .i64 x7_2 ∧ Aside0 (beaconref14_merge.l1 kq l1 x5_2 x7_2 = some r) ∧ Aside0 (kq ≤ k1) ∧ Aside0 (Kd.R k61 61 w' w.heap.size (fun _ => True) v5 x5_2) ∧ Aside0 (Below w.heap.size w w'))
    case atStart => exact ⟨(x5_1),(0),ze,H',⟨Nat.le_refl _⟩,⟨zR HO_5⟩,⟨zH HB⟩⟩
    case round =>
     clear H';try clear c1;try clear c3;try clear c3b0
     obtain ⟨x5_2,x7_2,rfl,HA,HK2,HO_5,HB⟩:=hrel;cases gk with
     | zero => exact absurd HA.out (by simp [beaconref14_merge.l1])
     | succ k2 =>
      have H:=HA.out;clear HA;simp only [beaconref14_merge.l1] at H;by_cases c11 : x7_2 < (l1.length : Int)
      ·rw [if_pos c11] at H;have c11b0 : decide (x7_2 < (l1.length : Int)) = true:=decide_eq_true c11;clear c11;by_cases c12 : 0 ≤ x7_2
       ·rw [if_pos c12] at H;have c12b0 : decide (0 ≤ x7_2) = true:=decide_eq_true c12;clear c12;replace H:=Option.bind_eq_some_iff.mp H;obtain ⟨t230,A130,H⟩:=H;(try dsimp only at H);have A13:=zA A130;clear A130;by_cases c14 : t230 = true
        ·subst c14;rw [if_pos rfl] at H;have H':=zA H;clear H;have p229 : 0 ≤ (x7_2 : Int):=zd;have q229 : x7_2 < (l1.length : Int):=zd;obtain ⟨ad229,e229,hx229_0,hx229_1,hx229_2,hx229_3,hx229_4⟩:=at_T61 HR1.out x7_2 p229 q229;cases e229;replace hx229_0:=zh HB hx229_0;replace hx229_1:=zh HB hx229_1;replace hx229_2:=zh HB hx229_2;replace hx229_3:=zh HB hx229_3;replace hx229_4:=zh HB hx229_4;replace p229:=eq_true p229;replace q229:=eq_true q229;go_wp2_with (first|((with_reducible refine gate_callee (f:=38) rfl ?_);refine zg (some 39) Try.func38 #[.float .f64 ((rd_T61 l1 x7_2).f2),.int .i64 1] ?_;(with_reducible refine (math_IsInf.calls ((rd_T61 l1 x7_2).f2) 1 true _ A13.out).mono ?_);rintro e w' ⟨rfl,⟨nd,rfl⟩⟩;refine ⟨_,rfl,?_⟩))
         go_roundg k2
         case measure => have:=HK1.out;have:=HK2.out;omega
         case rel => exact ⟨(x5_2),(wrap64 (x7_2 + 1)),ze,H',⟨by have:=HK1.out;have:=HK2.out;omega⟩,⟨zR HO_5⟩,⟨zH HB⟩⟩
        ·replace c14:=Bool.eq_false_iff.mpr c14;subst c14;rw [if_neg (show ¬ (false = true) by decide)] at H;replace H:=Option.bind_eq_some_iff.mp H;obtain ⟨t232,A150,H⟩:=H;(try dsimp only at H);have A15:=zA A150;clear A150;have H':=zA H;clear H;have p229 : 0 ≤ (x7_2 : Int):=zd;have q229 : x7_2 < (l1.length : Int):=zd;obtain ⟨ad229,e229,hx229_0,hx229_1,hx229_2,hx229_3,hx229_4⟩:=at_T61 HR1.out x7_2 p229 q229;cases e229;replace hx229_0:=zh HB hx229_0;replace hx229_1:=zh HB hx229_1;replace hx229_2:=zh HB hx229_2;replace hx229_3:=zh HB hx229_3;replace hx229_4:=zh HB hx229_4;replace p229:=eq_true p229;replace q229:=eq_true q229;go_wp2_with (first|((with_reducible refine gate_callee (f:=38) rfl ?_);refine zg (some 39) Try.func38 #[.float .f64 ((rd_T61 l1 x7_2).f2),.int .i64 1] ?_;(with_reducible refine (math_IsInf.calls ((rd_T61 l1 x7_2).f2) 1 false _ A13.out).mono ?_);rintro e w' ⟨rfl,⟨nd,rfl⟩⟩;refine ⟨_,rfl,?_⟩;have p231 : 0 ≤ (x7_2 : Int):=zd;have q231 : x7_2 < (l1.length : Int):=zd;obtain ⟨ad231,e231,hx231_0,hx231_1,hx231_2,hx231_3,hx231_4⟩:=at_T61 HR1.out x7_2 p231 q231;obtain rfl : ad229 = ad231:=(by injection e231);replace hx231_0:=zh HB hx231_0;replace hx231_1:=zh HB hx231_1;replace hx231_2:=zh HB hx231_2;replace hx231_3:=zh HB hx231_3;replace hx231_4:=zh HB hx231_4;replace p231:=eq_true p231;replace q231:=eq_true q231;obtain ⟨Ao16,co16,eo16⟩:=Kd.R_slice HO_5.out;subst eo16)|((with_reducible refine gate_callee (f:=46) rfl ?_);refine zg (some 46) Try.func46 #[.slice Ao16 x5_2.length co16,.agg #[.int .i64 ((rd_T61 l1 x7_2).f0),.int .i64 ((rd_T61 l1 x7_2).f1),.float .f64 ((rd_T61 l1 x7_2).f2),.float .f64 ((rd_T61 l1 x7_2).f3),.int .i64 ((rd_T61 l1 x7_2).f4)]] ?_;(with_reducible refine (beaconref14_put.calls k2 _ _ x5_2 ((rd_T61 l1 x7_2).f0) ((rd_T61 l1 x7_2).f1) ((rd_T61 l1 x7_2).f2) ((rd_T61 l1 x7_2).f3) ((rd_T61 l1 x7_2).f4) t232 _ ?side1 ?side2 A15.out).mono ?_);(case side1 => exact zC ((Kd.R_reads' HO_5.out).2.2));(case side2 => exact (Kd.R_reads' HO_5.out).2.1);rintro e w17 ⟨v233,rfl,ho0,hb⟩;refine ⟨_,rfl,?_⟩;have HO234:=zA (Kd.R_lower (Kd.R_new' ho0 (Kd.R_lt (zR HO_5))) (zW HB));replace HO_5:=zA (Kd.R_elder' (zR HO_5) (Kd.R_base ho0) hb);replace HB:=zS HB hb;(try clear hb);(try clear ho0)))
         go_roundg k2
         case measure => have:=HK1.out;have:=HK2.out;omega
         case rel => exact ⟨(t232),(wrap64 (x7_2 + 1)),ze,H',⟨by have:=HK1.out;have:=HK2.out;omega⟩,⟨by (with_reducible repeat (first|apply Kd.R_alloc|apply Kd.R_drewN|apply Kd.R_drew));exact Kd.R_mono HO234.out (fun _ hk => trivial)⟩,⟨zH HB⟩⟩
       ·rw [if_neg c12] at H;exact absurd H (by simp)
      ·rw [if_neg c11] at H;have c11b0 : decide (x7_2 < (l1.length : Int)) = false:=decide_eq_false c11;clear c11;obtain rfl:=Option.some.inj H;go_wp2
       go_ret
       exact ⟨_,by first|rfl|(simp [errW_none,errW_some] <;> rfl)|(simp [*,errW_none,errW_some] <;> rfl),by (with_reducible repeat (first|apply Kd.R_alloc|apply Kd.R_drewN|apply Kd.R_drew));exact HO_5.out,zH HB⟩

end Go.Proofs.Ytpcgjdllgdkobaa.XA
