/- Go functions of this seat as Lean functions, with proofs that the calls come to them. (Written by xprint.py, a program of this session, over the kit's print.) -/
import Derived.Test.YtgmjlhpigfaicaaXAx0
import Derived.Test.YtgmjlhpigfaicaaXAx3
import Derived.Test.YtgmjlhpigfaicaaXAx4
namespace Go.Proofs.Ytgmjlhpigfaicaa.XA
open Go.RowKit Go.Proofs.YtgmjlhpigfaicaaW.PrintWords Go.Proofs.YtgmjlhpigfaicaaW.PrintLast Go.Proofs.YtgmjlhpigfaicaaW.PrintMore
attribute [local go_sem] max2_int min2_int max_two min_two max_three min_three max_four min_four   -- for this text's walks alone
set_option linter.unusedVariables false
set_option linter.unusedSimpArgs false
open List renaming setIfInBounds_toArray → xA, set_cons_zero → xB, set_cons_succ → xC
open Go.Proofs.YtgmjlhpigfaicaaW.PrintWords renaming blk_drewN → bN, blk_drew → bD, blk_alloc → bA, below_set → bS, blk_frozen → bF, blk_cell → bC, cell_far → cF, blk_far → bZ, blk_below → bB, pw_below_drewN → bwN, below_drew1 → bw1, below_alloc → bwA
open Go.Proofs.YtgmjlhpigfaicaaW.PrintZ
open Bool renaming true → T,false → F

/-! ### table_Keep: function 14 -/
mutual
def table_Keep.j0 : Nat → List (S39) → Int → Bool → List (S39) → Bool → Option ((List (S39)) × Bool × Int)
 | 0, _, _, _, _, _ => none
 | k + 1, x1, x2, x26, x126000, x126001 => if x26 = true then (some (([] : List (S39)), false, 1)) else (table_Keep.l0 k x1 x2 x1 (x1.length : Int) 0 x126000 x126001)
def table_Keep.l0 : Nat → List (S39) → Int → List (S39) → Int → Int → List (S39) → Bool → Option ((List (S39)) × Bool × Int)
 | 0, _, _, _, _, _, _, _ => none
 | k + 1, x1, x2, x29, x30, x31, x126000, x126001 => if x31 < x30 then (if 0 ≤ x31 then (if x31 < (x29.length : Int) then ((table_Keep_1.f k ((rd_T39 x29 x31).f0) ((rd_T39 x29 x31).f1) ((rd_T39 x29 x31).f2) ((rd_T39 x29 x31).f3) ((rd_T39 x29 x31).f4) ((rd_T39 x29 x31).f5) x126000 x126001).bind fun t131 => (if t131 = true then (table_Keep.l0 k x1 (wrap64 (x2 - 1)) x29 x30 (wrap64 (x31 + 1)) x126000 x126001) else (table_Keep.l0 k x1 x2 x29 x30 (wrap64 (x31 + 1)) x126000 x126001))) else (none)) else (none)) else (table_Keep.l1 k x2 x1 (x1.length : Int) 0 x126000 x126001 ([] : List (S39)) x126001)
def table_Keep.l1 : Nat → Int → List (S39) → Int → Int → List (S39) → Bool → List (S39) → Bool → Option ((List (S39)) × Bool × Int)
 | 0, _, _, _, _, _, _, _, _ => none
 | k + 1, x2, x44, x45, x46, x126000, x126001, x133000, x133001 => if x46 < x45 then (if 0 ≤ x46 then (if x46 < (x44.length : Int) then ((table_Keep_1.f k ((rd_T39 x44 x46).f0) ((rd_T39 x44 x46).f1) ((rd_T39 x44 x46).f2) ((rd_T39 x44 x46).f3) ((rd_T39 x44 x46).f4) ((rd_T39 x44 x46).f5) x126000 x126001).bind fun t135 => (if t135 = true then (if x133000.length < 2932031007402 then (table_Keep.l1 k x2 x44 x45 (wrap64 (x46 + 1)) x126000 x126001 (x133000 ++ [(⟨(rd_T39 x44 x46).f0, (rd_T39 x44 x46).f1, (rd_T39 x44 x46).f2, (rd_T39 x44 x46).f3, (rd_T39 x44 x46).f4, (rd_T39 x44 x46).f5⟩ : S39)]) x133001) else (none)) else (if x2 ≤ 0 then (table_Keep.l1 k x2 x44 x45 (wrap64 (x46 + 1)) x126000 x126001 x133000 true) else (if x133000.length < 2932031007402 then (table_Keep.l1 k (wrap64 (x2 - 1)) x44 x45 (wrap64 (x46 + 1)) x126000 x126001 (x133000 ++ [(⟨(rd_T39 x44 x46).f0, (rd_T39 x44 x46).f1, (rd_T39 x44 x46).f2, (rd_T39 x44 x46).f3, (rd_T39 x44 x46).f4, (rd_T39 x44 x46).f5⟩ : S39)]) x133001) else (none))))) else (none)) else (none)) else (some (x133000, x133001, 0))
end
def table_Keep.f (k : Nat) (l0_0 : List (S39)) (a0_1 : Bool) (l1 : List (S39)) (a2 : Int) : Option ((List (S39)) × Bool × Int) := (table_may.f k l0_0).bind fun t127 => (if t127 = true then ((table_may.f k l1).bind fun t128 => (if t128 = true then (table_Keep.j0 k l1 a2 (decide (a2 < 0)) l0_0 a0_1) else (table_Keep.j0 k l1 a2 true l0_0 a0_1))) else (table_Keep.j0 k l1 a2 true l0_0 a0_1))
theorem table_Keep.mono_l : ∀ k, (∀ y0 y1 y2 y3 y4, LeO (table_Keep.j0 k y0 y1 y2 y3 y4) (table_Keep.j0 (k + 1) y0 y1 y2 y3 y4)) ∧ (∀ y0 y1 y2 y3 y4 y5 y6, LeO (table_Keep.l0 k y0 y1 y2 y3 y4 y5 y6) (table_Keep.l0 (k + 1) y0 y1 y2 y3 y4 y5 y6)) ∧ (∀ y0 y1 y2 y3 y4 y5 y6 y7, LeO (table_Keep.l1 k y0 y1 y2 y3 y4 y5 y6 y7) (table_Keep.l1 (k + 1) y0 y1 y2 y3 y4 y5 y6 y7))
 | 0 => ⟨fun _ _ _ _ _ r h => by simp [table_Keep.j0] at h, fun _ _ _ _ _ _ _ r h => by simp [table_Keep.l0] at h, fun _ _ _ _ _ _ _ _ r h => by simp [table_Keep.l1] at h⟩
 | k + 1 => by
  obtain ⟨ih0,ih1,ih2⟩:=table_Keep.mono_l k
  refine ⟨?_,?_,?_⟩
  ·intro y0 y1 y2 y3 y4
   unfold table_Keep.j0
   repeat' first
   | (with_reducible exact ih0 _ _ _ _ _)
   | (with_reducible exact ih1 _ _ _ _ _ _ _)
   | (with_reducible exact ih2 _ _ _ _ _ _ _ _)
   | (with_reducible exact table_Keep_1.mono _ _ _ _ _ _ _ _ _)
   | (with_reducible exact table_may.mono _ _)
   | (with_reducible exact LeO.refl _)
   | (with_reducible exact LeO.none _)
   | (with_reducible refine LeO.ite ?_ ?_)
   | (with_reducible refine LeO.bind ?_ (fun _ => ?_))
   | exact ih0 _ _ _ _ _
   | exact ih1 _ _ _ _ _ _ _
   | exact ih2 _ _ _ _ _ _ _ _
   | exact table_Keep_1.mono _ _ _ _ _ _ _ _ _
   | exact table_may.mono _ _
   | exact LeO.none _
   | refine LeO.ite ?_ ?_
   | refine LeO.bind ?_ (fun _ => ?_)
  ·intro y0 y1 y2 y3 y4 y5 y6
   unfold table_Keep.l0
   repeat' first
   | (with_reducible exact ih0 _ _ _ _ _)
   | (with_reducible exact ih1 _ _ _ _ _ _ _)
   | (with_reducible exact ih2 _ _ _ _ _ _ _ _)
   | (with_reducible exact table_Keep_1.mono _ _ _ _ _ _ _ _ _)
   | (with_reducible exact table_may.mono _ _)
   | (with_reducible exact LeO.refl _)
   | (with_reducible exact LeO.none _)
   | (with_reducible refine LeO.ite ?_ ?_)
   | (with_reducible refine LeO.bind ?_ (fun _ => ?_))
   | exact ih0 _ _ _ _ _
   | exact ih1 _ _ _ _ _ _ _
   | exact ih2 _ _ _ _ _ _ _ _
   | exact table_Keep_1.mono _ _ _ _ _ _ _ _ _
   | exact table_may.mono _ _
   | exact LeO.none _
   | refine LeO.ite ?_ ?_
   | refine LeO.bind ?_ (fun _ => ?_)
  ·intro y0 y1 y2 y3 y4 y5 y6 y7
   unfold table_Keep.l1
   repeat' first
   | (with_reducible exact ih0 _ _ _ _ _)
   | (with_reducible exact ih1 _ _ _ _ _ _ _)
   | (with_reducible exact ih2 _ _ _ _ _ _ _ _)
   | (with_reducible exact table_Keep_1.mono _ _ _ _ _ _ _ _ _)
   | (with_reducible exact table_may.mono _ _)
   | (with_reducible exact LeO.refl _)
   | (with_reducible exact LeO.none _)
   | (with_reducible refine LeO.ite ?_ ?_)
   | (with_reducible refine LeO.bind ?_ (fun _ => ?_))
   | exact ih0 _ _ _ _ _
   | exact ih1 _ _ _ _ _ _ _
   | exact ih2 _ _ _ _ _ _ _ _
   | exact table_Keep_1.mono _ _ _ _ _ _ _ _ _
   | exact table_may.mono _ _
   | exact LeO.none _
   | refine LeO.ite ?_ ?_
   | refine LeO.bind ?_ (fun _ => ?_)
theorem table_Keep.mono : ∀ a0 a1 a2 a3 k, LeO (table_Keep.f k a0 a1 a2 a3) (table_Keep.f (k + 1) a0 a1 a2 a3) := by
 intro a0 a1 a2 a3 k
 obtain ⟨ih0,ih1,ih2⟩:=table_Keep.mono_l k
 unfold table_Keep.f
 repeat' first
   | (with_reducible exact ih0 _ _ _ _ _)
   | (with_reducible exact ih1 _ _ _ _ _ _ _)
   | (with_reducible exact ih2 _ _ _ _ _ _ _ _)
   | (with_reducible exact table_Keep_1.mono _ _ _ _ _ _ _ _ _)
   | (with_reducible exact table_may.mono _ _)
   | (with_reducible exact LeO.refl _)
   | (with_reducible exact LeO.none _)
   | (with_reducible refine LeO.ite ?_ ?_)
   | (with_reducible refine LeO.bind ?_ (fun _ => ?_))
   | exact ih0 _ _ _ _ _
   | exact ih1 _ _ _ _ _ _ _
   | exact ih2 _ _ _ _ _ _ _ _
   | exact table_Keep_1.mono _ _ _ _ _ _ _ _ _
   | exact table_may.mono _ _
   | exact LeO.none _
   | refine LeO.ite ?_ ?_
   | refine LeO.bind ?_ (fun _ => ?_)
set_option maxHeartbeats 8000000 in
set_option maxRecDepth 100000 in
theorem table_Keep.calls (k : Nat) (A0_0 : Option Addr) (c0_0 : Nat) (l0_0 : List (S39)) (a0_1 : Bool) (A1 : Option Addr) (c1 : Nat) (l1 : List (S39)) (a2 : Int) (r1 : List (S39)) (r2 : Bool) (r3 : Int) (w : World) (hr0_0 : Kd.C k39 w A0_0 l0_0.length l0_0) (hc0_0 : l0_0.length ≤ c0_0) (hr1 : Kd.C k39 w A1 l1.length l1) (hc1 : l1.length ≤ c1) (h : table_Keep.f k l0_0 a0_1 l1 a2 = some (r1, r2, r3)) :
  Calls Try.prog 14 #[.agg #[.slice A0_0 l0_0.length c0_0,.bool a0_1],.slice A1 l1.length c1,.int .i64 a2] w fun e w' => ∃ v0_ : Value,e = .returned (.tuple #[.agg #[v0_,.bool r2],.int .i64 r3]) ∧ Kd.R k39 39 w' w.heap.size (fun _ => True) v0_ r1 ∧ Below w.heap.size w w':=by
 have hu24:=Try.underlying24
 have hu39:=Try.underlying39
 have HR0_0:=Aside0.mk hr0_0
 have HC0_0:=Aside0.mk hc0_0
 clear hr0_0 hc0_0
 have HR1:=Aside0.mk hr1
 have HC1:=Aside0.mk hc1
 clear hr1 hc1
 have HB:=Aside0.mk (Below.refl w.heap.size w)
 have H : ((table_may.f k l0_0).bind fun t127 => (if t127 = true then ((table_may.f k l1).bind fun t128 => (if t128 = true then (table_Keep.j0 k l1 a2 (decide (a2 < 0)) l0_0 a0_1) else (table_Keep.j0 k l1 a2 true l0_0 a0_1))) else (table_Keep.j0 k l1 a2 true l0_0 a0_1))) = some (r1,r2,r3):=h
 clear h
 have HC4:=Aside0.mk H
 clear H
 go_enter Try.func14,Try.ntmps14
 go_upto_region 1 with (first|((with_reducible refine gate_dst (N:=3) rfl ?_);refine zb (N:=3) (cs:=#[.slice A0_0 l0_0.length c0_0,.bool a0_1]) (t:=24) ?_;intro G125 hg w5 hbox hb;have K125:=Aside0.mk (hbox);have GW125:=zN HB hg;have GE125:=zN HB hg;replace HB:=zS HB hb;clear hb hbox hg)|((with_reducible refine gate_dst (N:=6) rfl ?_);refine zb (N:=6) (cs:=#[.slice none 0 0,.bool false]) (t:=24) ?_;intro G126 hg w6 hbox hb;have K126:=Aside0.mk (hbox);have GW126:=zN HB hg;have GE126:=zN HB hg;replace HB:=zS HB hb;have NB125_126:=zL K125 hg;have NB126_125:=zG K125 hg;replace K125:=zB K125 hb;clear hb hbox hg))
 (try simp only [Act.put,xA,xB,xC])
 go_cut [26] (fun v26 wc => ∃ (kq : Nat) (x26_3 : Bool),v26 = .bool x26_3 ∧ Aside0 (table_Keep.j0 kq l1 a2 x26_3 l0_0 a0_1 = some (r1,r2,r3)) ∧ Aside0 (kq ≤ k) ∧ Aside0 (wc.heap[G125]? = some (.cells #[(.slice A0_0 l0_0.length c0_0),.bool a0_1] 24 (0,0))) ∧ Aside0 (wc.heap[G126]? = some (.cells #[(.slice none 0 0),.bool false] 24 (0,0))) ∧ Aside0 (Below w.heap.size w wc))
 case first =>
  have H:=HC4.out
  clear HC4
  replace H:=Option.bind_eq_some_iff.mp H
  obtain ⟨t127,A70,H⟩:=H
  replace H : (if t127 = true then ((table_may.f k l1).bind fun t128 => (if t128 = true then (table_Keep.j0 k l1 a2 (decide (a2 < 0)) l0_0 a0_1) else (table_Keep.j0 k l1 a2 true l0_0 a0_1))) else (table_Keep.j0 k l1 a2 true l0_0 a0_1)) = some (r1,r2,r3):=H
  have A7:=Aside0.mk A70
  clear A70
  by_cases c8 : t127 = true
  ·subst c8
   have H1 : ((table_may.f k l1).bind fun t128 => (if t128 = true then (table_Keep.j0 k l1 a2 (decide (a2 < 0)) l0_0 a0_1) else (table_Keep.j0 k l1 a2 true l0_0 a0_1))) = some (r1,r2,r3):=by rw [if_pos rfl] at H;exact H
   clear H
   have H:=H1
   clear H1
   replace H:=Option.bind_eq_some_iff.mp H
   obtain ⟨t128,A90,H⟩:=H
   replace H : (if t128 = true then (table_Keep.j0 k l1 a2 (decide (a2 < 0)) l0_0 a0_1) else (table_Keep.j0 k l1 a2 true l0_0 a0_1)) = some (r1,r2,r3):=H
   have A9:=Aside0.mk A90
   clear A90
   by_cases c10 : t128 = true
   ·subst c10
    have H1 : (table_Keep.j0 k l1 a2 (decide (a2 < 0)) l0_0 a0_1) = some (r1,r2,r3):=by rw [if_pos rfl] at H;exact H
    clear H
    have H:=H1
    clear H1
    have H':=Aside0.mk H
    clear H
    have hnb11:=NB125_126.1
    have hnc11:=NB126_125.1
    have hcz12_0 : w6.cell? ⟨G125,0,none⟩ = some (.slice A0_0 l0_0.length c0_0):=zk K125 0
    have hcz12_1 : w6.cell? ⟨G125,1,none⟩ = some (.bool a0_1):=zk K125 1
    have hfz12_0:=bF K125.1 0
    have hfz12_1:=bF K125.1 1
    go_wp2_with (first|((with_reducible refine gate_callee (f:=45) rfl ?_);refine zg (some 16) Try.func45 #[.slice A0_0 l0_0.length c0_0] ?_;(with_reducible refine (table_may.calls k _ _ l0_0 true _ ?side1 ?side2 A7.out).mono ?_);(case side1 => exact zC (Kd.C_below HR0_0.out HB.1));(case side2 => exact HC0_0.out);rintro e w13 ⟨rfl,hb⟩;refine ⟨_,rfl,?_⟩;replace K125:=zB K125 hb;replace K126:=zB K126 hb;replace HB:=zS HB hb;(try clear hb))|(go_at_call 45;(with_reducible refine (table_may.calls k _ _ l1 true _ ?side1 ?side2 A9.out).mono ?_);(case side1 => exact zC (Kd.C_below HR1.out HB.1));(case side2 => exact HC1.out);rintro e w14 ⟨rfl,hb⟩;replace K125:=zB K125 hb;replace K126:=zB K126 hb;replace HB:=zS HB hb;(try clear hb)))
    go_meet
    case rel => exact ⟨_,(decide (a2 < 0)),ze,H',⟨zo⟩,⟨z1 K125.1⟩,⟨z1 K126.1⟩,⟨zH HB⟩⟩
   ·replace c10:=Bool.eq_false_iff.mpr c10
    subst c10
    have H1 : (table_Keep.j0 k l1 a2 true l0_0 a0_1) = some (r1,r2,r3):=by rw [if_neg (show ¬ (false = true) by decide)] at H;exact H
    clear H
    have H:=H1
    clear H1
    have H':=Aside0.mk H
    clear H
    have hnb15:=NB125_126.1
    have hnc15:=NB126_125.1
    have hcz16_0 : w6.cell? ⟨G125,0,none⟩ = some (.slice A0_0 l0_0.length c0_0):=zk K125 0
    have hcz16_1 : w6.cell? ⟨G125,1,none⟩ = some (.bool a0_1):=zk K125 1
    have hfz16_0:=bF K125.1 0
    have hfz16_1:=bF K125.1 1
    go_wp2_with (first|((with_reducible refine gate_callee (f:=45) rfl ?_);refine zg (some 16) Try.func45 #[.slice A0_0 l0_0.length c0_0] ?_;(with_reducible refine (table_may.calls k _ _ l0_0 true _ ?side1 ?side2 A7.out).mono ?_);(case side1 => exact zC (Kd.C_below HR0_0.out HB.1));(case side2 => exact HC0_0.out);rintro e w17 ⟨rfl,hb⟩;refine ⟨_,rfl,?_⟩;replace K125:=zB K125 hb;replace K126:=zB K126 hb;replace HB:=zS HB hb;(try clear hb))|(go_at_call 45;(with_reducible refine (table_may.calls k _ _ l1 false _ ?side1 ?side2 A9.out).mono ?_);(case side1 => exact zC (Kd.C_below HR1.out HB.1));(case side2 => exact HC1.out);rintro e w18 ⟨rfl,hb⟩;replace K125:=zB K125 hb;replace K126:=zB K126 hb;replace HB:=zS HB hb;(try clear hb)))
    go_meet
    case rel => exact ⟨_,(true),ze,H',⟨zo⟩,⟨z1 K125.1⟩,⟨z1 K126.1⟩,⟨zH HB⟩⟩
  ·replace c8:=Bool.eq_false_iff.mpr c8
   subst c8
   have H1 : (table_Keep.j0 k l1 a2 true l0_0 a0_1) = some (r1,r2,r3):=by rw [if_neg (show ¬ (false = true) by decide)] at H;exact H
   clear H
   have H:=H1
   clear H1
   have H':=Aside0.mk H
   clear H
   have hnb19:=NB125_126.1
   have hnc19:=NB126_125.1
   have hcz20_0 : w6.cell? ⟨G125,0,none⟩ = some (.slice A0_0 l0_0.length c0_0):=zk K125 0
   have hcz20_1 : w6.cell? ⟨G125,1,none⟩ = some (.bool a0_1):=zk K125 1
   have hfz20_0:=bF K125.1 0
   have hfz20_1:=bF K125.1 1
   go_wp2_with (first|((with_reducible refine gate_callee (f:=45) rfl ?_);refine zg (some 16) Try.func45 #[.slice A0_0 l0_0.length c0_0] ?_;(with_reducible refine (table_may.calls k _ _ l0_0 false _ ?side1 ?side2 A7.out).mono ?_);(case side1 => exact zC (Kd.C_below HR0_0.out HB.1));(case side2 => exact HC0_0.out);rintro e w21 ⟨rfl,hb⟩;refine ⟨_,rfl,?_⟩;replace K125:=zB K125 hb;replace K126:=zB K126 hb;replace HB:=zS HB hb;(try clear hb)))
   go_meet
   case rel => exact ⟨_,(true),ze,H',⟨zo⟩,⟨z1 K125.1⟩,⟨z1 K126.1⟩,⟨zH HB⟩⟩
 case rest =>
  clear HC4
  try clear c1;try clear p2;try clear c4;try clear c8;try clear c10;try clear c11;try clear c14;try clear c15;try clear c19;try clear hcz12_0;try clear hcz12_1;try clear hcz16_0;try clear hcz16_1;try clear hcz20_0;try clear hcz20_1;try clear hfz12_0;try clear hfz12_1;try clear hfz16_0;try clear hfz16_1;try clear hfz20_0;try clear hfz20_1
  obtain ⟨kq,x26_3,rfl,HA,HJ3,K125,K126,HB⟩:=hcut
  cases kq with
  | zero => exact absurd HA.out (by simp [table_Keep.j0])
  | succ kj3 =>
   have H:=HA.out
   clear HA
   simp only [table_Keep.j0] at H
   by_cases c22 : x26_3 = true
   ·subst c22
    have H1 : (some (([] : List (S39)),false,1)) = some (r1,r2,r3):=by rw [if_pos rfl] at H;exact H
    clear H
    have H:=H1
    clear H1
    simp only [Option.some.injEq,Prod.mk.injEq] at H
    obtain ⟨rfl,rfl,rfl⟩:=H
    have hnb23:=NB126_125.1
    have hnc23:=NB125_126.1
    have hcz24_0 : wc.cell? ⟨G126,0,none⟩ = some (.slice none 0 0):=zk K126 0
    have hcz24_1 : wc.cell? ⟨G126,1,none⟩ = some (.bool false):=zk K126 1
    have hfz24_0:=bF K126.1 0
    have hfz24_1:=bF K126.1 1
    go_wp2
    refine bodyPost_ret (results_ct rfl _ _ G126 24 #[.slice none 0 0,.bool false] (0,0) _ rfl (zF K126) Try.underlying24 rfl (by kernel_rfl)) rfl ?_
    exact ⟨_,by first|rfl|(simp [errW_none,errW_some] <;> rfl)|(simp [*,errW_none,errW_some] <;> rfl),by first|exact Kd.R_nil _ _ _ _ _|exact Kd.N_nil _ _ _ _ _|exact Kd.V_nil _ _ _ _ _|exact Kd.Q_nil _ _ _ _ _|exact Kd.S_nil _ _ _ _ _,zH HB⟩
   ·replace c22:=Bool.eq_false_iff.mpr c22
    subst c22
    have H1 : (table_Keep.l0 kj3 l1 a2 l1 (l1.length : Int) 0 l0_0 a0_1) = some (r1,r2,r3):=by rw [if_neg (show ¬ (false = true) by decide)] at H;exact H
    clear H
    have H:=H1
    clear H1
    have H':=Aside0.mk H
    clear H
    go_wp2
    go_loopg [2,31] kj3 (fun kq v2 v31 w' => ∃ (x2_2 : Int) (x31_2 : Int),v2 = .int .i64 x2_2 ∧ v31 = .int .i64 x31_2 ∧ Aside0 (table_Keep.l0 kq l1 x2_2 l1 (l1.length : Int) x31_2 l0_0 a0_1 = some (r1,r2,r3)) ∧ Aside0 (kq ≤ kj3) ∧ Aside0 (w'.heap[G125]? = some (.cells #[(.slice A0_0 l0_0.length c0_0),.bool a0_1] 24 (0,0))) ∧ Aside0 (w'.heap[G126]? = some (.cells #[(.slice none 0 0),.bool false] 24 (0,0))) ∧ Aside0 (Below w.heap.size w w'))
    case atStart => exact ⟨(a2),(0),ze,ze,H',⟨Nat.le_refl _⟩,⟨z1 K125.1⟩,⟨z1 K126.1⟩,⟨zH HB⟩⟩
    case round =>
     clear H'
     try clear c1;try clear c2;try clear p2;try clear c4;try clear c8;try clear c10;try clear c11;try clear c14;try clear c15;try clear c19;try clear c22;try clear c23;try clear hcz12_0;try clear hcz12_1;try clear hcz16_0;try clear hcz16_1;try clear hcz20_0;try clear hcz20_1;try clear hcz24_0;try clear hcz24_1;try clear hfz12_0;try clear hfz12_1;try clear hfz16_0;try clear hfz16_1;try clear hfz20_0;try clear hfz20_1;try clear hfz24_0;try clear hfz24_1;try clear p2
     obtain ⟨x2_2,x31_2,rfl,rfl,HA,HK2,K125,K126,HB⟩:=hrel
     cases gk with
     | zero => exact absurd HA.out (by simp [table_Keep.l0])
     | succ k2 =>
      have H:=HA.out
      clear HA
      simp only [table_Keep.l0] at H
      by_cases c25 : x31_2 < (l1.length : Int)
      ·rw [if_pos c25] at H
       have c25b0 : decide (x31_2 < (l1.length : Int)) = true:=decide_eq_true c25
       clear c25
       by_cases c26 : 0 ≤ x31_2
       ·rw [if_pos c26] at H
        have c26b0 : decide (0 ≤ x31_2) = true:=decide_eq_true c26
        clear c26
        by_cases c27 : x31_2 < (l1.length : Int)
        ·rw [if_pos c27] at H
         have c27b0 : decide (x31_2 < (l1.length : Int)) = true:=decide_eq_true c27
         clear c27
         replace H:=Option.bind_eq_some_iff.mp H
         obtain ⟨t131,A280,H⟩:=H
         replace H : (if t131 = true then (table_Keep.l0 k2 l1 (wrap64 (x2_2 - 1)) l1 (l1.length : Int) (wrap64 (x31_2 + 1)) l0_0 a0_1) else (table_Keep.l0 k2 l1 x2_2 l1 (l1.length : Int) (wrap64 (x31_2 + 1)) l0_0 a0_1)) = some (r1,r2,r3):=H
         have A28:=Aside0.mk A280
         clear A280
         by_cases c29 : t131 = true
         ·subst c29
          have H1 : (table_Keep.l0 k2 l1 (wrap64 (x2_2 - 1)) l1 (l1.length : Int) (wrap64 (x31_2 + 1)) l0_0 a0_1) = some (r1,r2,r3):=by rw [if_pos rfl] at H;exact H
          clear H
          have H:=H1
          clear H1
          have H':=Aside0.mk H
          clear H
          have p129 : 0 ≤ (x31_2 : Int):=zd
          have q129 : x31_2 < (l1.length : Int):=zd
          obtain ⟨ad129,e129,hx129_0,hx129_1,hx129_2,hx129_3,hx129_4,hx129_5⟩:=at_T39 HR1.out x31_2 p129 q129
          cases e129
          replace hx129_0:=zh HB hx129_0
          replace hx129_1:=zh HB hx129_1
          replace hx129_2:=zh HB hx129_2
          replace hx129_3:=zh HB hx129_3
          replace hx129_4:=zh HB hx129_4
          replace hx129_5:=zh HB hx129_5
          replace p129:=eq_true p129
          replace q129:=eq_true q129
          go_wp2_with (first|((with_reducible refine gate_dst (N:=10) rfl ?_);refine zb (N:=10) (cs:=#[.int .i64 0,.int .i64 0,.float .f64 0,.int .i64 0,.float .f64 0,.int .i64 0]) (t:=39) ?_;intro G130 hg w30 hbox hb;have K130:=Aside0.mk (hbox);have GW130:=zN HB hg;have GE130:=zN HB hg;replace HB:=zS HB hb;have NB125_130:=zL K125 hg;have NB130_125:=zG K125 hg;replace K125:=zB K125 hb;have NB126_130:=zL K126 hg;have NB130_126:=zG K126 hg;replace K126:=zB K126 hb;clear hb hbox hg;have hnb31:=NB130_125.1;have hnc31:=NB125_130.1;have hnb32:=NB130_126.1;have hnc32:=NB126_130.1;have hcz33_0 : w30.cell? ⟨G130,0,none⟩ = some (.int .i64 0):=zk K130 0;have hcz33_1 : w30.cell? ⟨G130,1,none⟩ = some (.int .i64 0):=zk K130 1;have hcz33_2 : w30.cell? ⟨G130,2,none⟩ = some (.float .f64 0):=zk K130 2;have hcz33_3 : w30.cell? ⟨G130,3,none⟩ = some (.int .i64 0):=zk K130 3;have hcz33_4 : w30.cell? ⟨G130,4,none⟩ = some (.float .f64 0):=zk K130 4;have hcz33_5 : w30.cell? ⟨G130,5,none⟩ = some (.int .i64 0):=zk K130 5;have hfz33_0:=bF K130.1 0;have hfz33_1:=bF K130.1 1;have hfz33_2:=bF K130.1 2;have hfz33_3:=bF K130.1 3;have hfz33_4:=bF K130.1 4;have hfz33_5:=bF K130.1 5)|((with_reducible refine gate_store (t:=39) (p:=10) rfl ?_);refine store_event (t:=39) (p:=10) (v:=?vo_w34) (w1:=((((((w30.setCell ⟨G130,0,none⟩ (.int .i64 ((rd_T39 l1 x31_2).f0))).setCell ⟨G130,1,none⟩ (.int .i64 ((rd_T39 l1 x31_2).f1))).setCell ⟨G130,2,none⟩ (.float .f64 ((rd_T39 l1 x31_2).f2))).setCell ⟨G130,3,none⟩ (.int .i64 ((rd_T39 l1 x31_2).f3))).setCell ⟨G130,4,none⟩ (.float .f64 ((rd_T39 l1 x31_2).f4))).setCell ⟨G130,5,none⟩ (.int .i64 ((rd_T39 l1 x31_2).f5)))) ?hg ?ho ?hn ?hr ?_;(case ho => rfl);(case hg => rfl);(case hn => rfl);(case hr => first|(go_simp;done)|(go_simp;rfl));intro w34 hw;replace K125 : Aside0 (w34.heap[G125]? = some (.cells #[.slice A0_0 l0_0.length c0_0,.bool a0_1] 24 (0,0))):=⟨(by rw [hw];exact (zf K125))⟩;replace K126 : Aside0 (w34.heap[G126]? = some (.cells #[.slice none 0 0,.bool false] 24 (0,0))):=⟨(by rw [hw];exact (zf K126))⟩;replace K130 : Aside0 (w34.heap[G130]? = some (.cells #[.int .i64 ((rd_T39 l1 x31_2).f0),.int .i64 ((rd_T39 l1 x31_2).f1),.float .f64 ((rd_T39 l1 x31_2).f2),.int .i64 ((rd_T39 l1 x31_2).f3),.float .f64 ((rd_T39 l1 x31_2).f4),.int .i64 ((rd_T39 l1 x31_2).f5)] 39 (0,0))):=⟨(by rw [hw];exact (zF K130))⟩;replace HB : Aside0 (Below w.heap.size w w34):=⟨(by rw [hw];exact (zH HB))⟩;clear hw;have hcz35_0 : w34.cell? ⟨G130,0,none⟩ = some (.int .i64 ((rd_T39 l1 x31_2).f0)):=zk K130 0;have hcz35_1 : w34.cell? ⟨G130,1,none⟩ = some (.int .i64 ((rd_T39 l1 x31_2).f1)):=zk K130 1;have hcz35_2 : w34.cell? ⟨G130,2,none⟩ = some (.float .f64 ((rd_T39 l1 x31_2).f2)):=zk K130 2;have hcz35_3 : w34.cell? ⟨G130,3,none⟩ = some (.int .i64 ((rd_T39 l1 x31_2).f3)):=zk K130 3;have hcz35_4 : w34.cell? ⟨G130,4,none⟩ = some (.float .f64 ((rd_T39 l1 x31_2).f4)):=zk K130 4;have hcz35_5 : w34.cell? ⟨G130,5,none⟩ = some (.int .i64 ((rd_T39 l1 x31_2).f5)):=zk K130 5;have hfz35_0:=bF K130.1 0;have hfz35_1:=bF K130.1 1;have hfz35_2:=bF K130.1 2;have hfz35_3:=bF K130.1 3;have hfz35_4:=bF K130.1 4;have hfz35_5:=bF K130.1 5)|((with_reducible refine gate_calleeV (c:=.tmp 35) rfl ?_);refine goesLC_ (caps:=#[.pointer (some ⟨G125,0,none⟩)]) (some 37) rfl rfl Try.func46 (by kernel_rfl) rfl #[.agg #[.int .i64 ((rd_T39 l1 x31_2).f0),.int .i64 ((rd_T39 l1 x31_2).f1),.float .f64 ((rd_T39 l1 x31_2).f2),.int .i64 ((rd_T39 l1 x31_2).f3),.float .f64 ((rd_T39 l1 x31_2).f4),.int .i64 ((rd_T39 l1 x31_2).f5)],.pointer (some ⟨G125,0,none⟩)] rfl (by (try simp only [List.map_toArray,List.map_cons,List.map_nil]);first|done|rfl|(simp only [List.length_drop,List.length_take];rfl)) ?_;(with_reducible refine (table_Keep_1.calls k2 ((rd_T39 l1 x31_2).f0) ((rd_T39 l1 x31_2).f1) ((rd_T39 l1 x31_2).f2) ((rd_T39 l1 x31_2).f3) ((rd_T39 l1 x31_2).f4) ((rd_T39 l1 x31_2).f5) G125 A0_0 c0_0 l0_0 a0_1 true _ ?side1 ?side2 ?side3 A28.out).mono ?_);(case side1 => exact zC (Kd.C_below HR0_0.out HB.1));(case side2 => exact HC0_0.out);(case side3 => (with_reducible repeat first|apply bN|apply bD|apply bA);exact K125.1);rintro e w36 ⟨rfl,hb⟩;refine ⟨_,rfl,?_⟩;replace K125:=zB K125 hb;replace K126:=zB K126 hb;replace K130:=zB K130 hb;replace HB:=zS HB hb;(try clear hb)))
          go_roundg k2
          case measure => have:=HJ3.out;have:=HK2.out;omega
          case rel => exact ⟨(wrap64 (x2_2 - 1)),(wrap64 (x31_2 + 1)),ze,ze,H',⟨by have:=HJ3.out;have:=HK2.out;omega⟩,⟨z1 K125.1⟩,⟨z1 K126.1⟩,⟨zH HB⟩⟩
         ·replace c29:=Bool.eq_false_iff.mpr c29
          subst c29
          have H1 : (table_Keep.l0 k2 l1 x2_2 l1 (l1.length : Int) (wrap64 (x31_2 + 1)) l0_0 a0_1) = some (r1,r2,r3):=by rw [if_neg (show ¬ (false = true) by decide)] at H;exact H
          clear H
          have H:=H1
          clear H1
          have H':=Aside0.mk H
          clear H
          have p129 : 0 ≤ (x31_2 : Int):=zd
          have q129 : x31_2 < (l1.length : Int):=zd
          obtain ⟨ad129,e129,hx129_0,hx129_1,hx129_2,hx129_3,hx129_4,hx129_5⟩:=at_T39 HR1.out x31_2 p129 q129
          cases e129
          replace hx129_0:=zh HB hx129_0
          replace hx129_1:=zh HB hx129_1
          replace hx129_2:=zh HB hx129_2
          replace hx129_3:=zh HB hx129_3
          replace hx129_4:=zh HB hx129_4
          replace hx129_5:=zh HB hx129_5
          replace p129:=eq_true p129
          replace q129:=eq_true q129
          go_wp2_with (first|((with_reducible refine gate_dst (N:=10) rfl ?_);refine zb (N:=10) (cs:=#[.int .i64 0,.int .i64 0,.float .f64 0,.int .i64 0,.float .f64 0,.int .i64 0]) (t:=39) ?_;intro G130 hg w37 hbox hb;have K130:=Aside0.mk (hbox);have GW130:=zN HB hg;have GE130:=zN HB hg;replace HB:=zS HB hb;have NB125_130:=zL K125 hg;have NB130_125:=zG K125 hg;replace K125:=zB K125 hb;have NB126_130:=zL K126 hg;have NB130_126:=zG K126 hg;replace K126:=zB K126 hb;clear hb hbox hg;have hnb38:=NB130_125.1;have hnc38:=NB125_130.1;have hnb39:=NB130_126.1;have hnc39:=NB126_130.1;have hcz40_0 : w37.cell? ⟨G130,0,none⟩ = some (.int .i64 0):=zk K130 0;have hcz40_1 : w37.cell? ⟨G130,1,none⟩ = some (.int .i64 0):=zk K130 1;have hcz40_2 : w37.cell? ⟨G130,2,none⟩ = some (.float .f64 0):=zk K130 2;have hcz40_3 : w37.cell? ⟨G130,3,none⟩ = some (.int .i64 0):=zk K130 3;have hcz40_4 : w37.cell? ⟨G130,4,none⟩ = some (.float .f64 0):=zk K130 4;have hcz40_5 : w37.cell? ⟨G130,5,none⟩ = some (.int .i64 0):=zk K130 5;have hfz40_0:=bF K130.1 0;have hfz40_1:=bF K130.1 1;have hfz40_2:=bF K130.1 2;have hfz40_3:=bF K130.1 3;have hfz40_4:=bF K130.1 4;have hfz40_5:=bF K130.1 5)|((with_reducible refine gate_store (t:=39) (p:=10) rfl ?_);refine store_event (t:=39) (p:=10) (v:=?vo_w41) (w1:=((((((w37.setCell ⟨G130,0,none⟩ (.int .i64 ((rd_T39 l1 x31_2).f0))).setCell ⟨G130,1,none⟩ (.int .i64 ((rd_T39 l1 x31_2).f1))).setCell ⟨G130,2,none⟩ (.float .f64 ((rd_T39 l1 x31_2).f2))).setCell ⟨G130,3,none⟩ (.int .i64 ((rd_T39 l1 x31_2).f3))).setCell ⟨G130,4,none⟩ (.float .f64 ((rd_T39 l1 x31_2).f4))).setCell ⟨G130,5,none⟩ (.int .i64 ((rd_T39 l1 x31_2).f5)))) ?hg ?ho ?hn ?hr ?_;(case ho => rfl);(case hg => rfl);(case hn => rfl);(case hr => first|(go_simp;done)|(go_simp;rfl));intro w41 hw;replace K125 : Aside0 (w41.heap[G125]? = some (.cells #[.slice A0_0 l0_0.length c0_0,.bool a0_1] 24 (0,0))):=⟨(by rw [hw];exact (zf K125))⟩;replace K126 : Aside0 (w41.heap[G126]? = some (.cells #[.slice none 0 0,.bool false] 24 (0,0))):=⟨(by rw [hw];exact (zf K126))⟩;replace K130 : Aside0 (w41.heap[G130]? = some (.cells #[.int .i64 ((rd_T39 l1 x31_2).f0),.int .i64 ((rd_T39 l1 x31_2).f1),.float .f64 ((rd_T39 l1 x31_2).f2),.int .i64 ((rd_T39 l1 x31_2).f3),.float .f64 ((rd_T39 l1 x31_2).f4),.int .i64 ((rd_T39 l1 x31_2).f5)] 39 (0,0))):=⟨(by rw [hw];exact (zF K130))⟩;replace HB : Aside0 (Below w.heap.size w w41):=⟨(by rw [hw];exact (zH HB))⟩;clear hw;have hcz42_0 : w41.cell? ⟨G130,0,none⟩ = some (.int .i64 ((rd_T39 l1 x31_2).f0)):=zk K130 0;have hcz42_1 : w41.cell? ⟨G130,1,none⟩ = some (.int .i64 ((rd_T39 l1 x31_2).f1)):=zk K130 1;have hcz42_2 : w41.cell? ⟨G130,2,none⟩ = some (.float .f64 ((rd_T39 l1 x31_2).f2)):=zk K130 2;have hcz42_3 : w41.cell? ⟨G130,3,none⟩ = some (.int .i64 ((rd_T39 l1 x31_2).f3)):=zk K130 3;have hcz42_4 : w41.cell? ⟨G130,4,none⟩ = some (.float .f64 ((rd_T39 l1 x31_2).f4)):=zk K130 4;have hcz42_5 : w41.cell? ⟨G130,5,none⟩ = some (.int .i64 ((rd_T39 l1 x31_2).f5)):=zk K130 5;have hfz42_0:=bF K130.1 0;have hfz42_1:=bF K130.1 1;have hfz42_2:=bF K130.1 2;have hfz42_3:=bF K130.1 3;have hfz42_4:=bF K130.1 4;have hfz42_5:=bF K130.1 5)|((with_reducible refine gate_calleeV (c:=.tmp 35) rfl ?_);refine goesLC_ (caps:=#[.pointer (some ⟨G125,0,none⟩)]) (some 37) rfl rfl Try.func46 (by kernel_rfl) rfl #[.agg #[.int .i64 ((rd_T39 l1 x31_2).f0),.int .i64 ((rd_T39 l1 x31_2).f1),.float .f64 ((rd_T39 l1 x31_2).f2),.int .i64 ((rd_T39 l1 x31_2).f3),.float .f64 ((rd_T39 l1 x31_2).f4),.int .i64 ((rd_T39 l1 x31_2).f5)],.pointer (some ⟨G125,0,none⟩)] rfl (by (try simp only [List.map_toArray,List.map_cons,List.map_nil]);first|done|rfl|(simp only [List.length_drop,List.length_take];rfl)) ?_;(with_reducible refine (table_Keep_1.calls k2 ((rd_T39 l1 x31_2).f0) ((rd_T39 l1 x31_2).f1) ((rd_T39 l1 x31_2).f2) ((rd_T39 l1 x31_2).f3) ((rd_T39 l1 x31_2).f4) ((rd_T39 l1 x31_2).f5) G125 A0_0 c0_0 l0_0 a0_1 false _ ?side1 ?side2 ?side3 A28.out).mono ?_);(case side1 => exact zC (Kd.C_below HR0_0.out HB.1));(case side2 => exact HC0_0.out);(case side3 => (with_reducible repeat first|apply bN|apply bD|apply bA);exact K125.1);rintro e w43 ⟨rfl,hb⟩;refine ⟨_,rfl,?_⟩;replace K125:=zB K125 hb;replace K126:=zB K126 hb;replace K130:=zB K130 hb;replace HB:=zS HB hb;(try clear hb)))
          go_roundg k2
          case measure => have:=HJ3.out;have:=HK2.out;omega
          case rel => exact ⟨(x2_2),(wrap64 (x31_2 + 1)),ze,ze,H',⟨by have:=HJ3.out;have:=HK2.out;omega⟩,⟨z1 K125.1⟩,⟨z1 K126.1⟩,⟨zH HB⟩⟩
        ·rw [if_neg c27] at H
         exact absurd H (by simp)
       ·rw [if_neg c26] at H
        exact absurd H (by simp)
      ·rw [if_neg c25] at H
       have c25b0 : decide (x31_2 < (l1.length : Int)) = false:=decide_eq_false c25
       clear c25
       have H':=Aside0.mk H
       clear H
       have hnb44:=NB125_126.1
       have hnc44:=NB126_125.1
       have hcz45_0 : wr.cell? ⟨G125,0,none⟩ = some (.slice A0_0 l0_0.length c0_0):=zk K125 0
       have hcz45_1 : wr.cell? ⟨G125,1,none⟩ = some (.bool a0_1):=zk K125 1
       have hfz45_0:=bF K125.1 0
       have hfz45_1:=bF K125.1 1
       go_wp2_with (first|((with_reducible refine gate_dst (N:=11) rfl ?_);refine zb (N:=11) (cs:=#[.slice none 0 0,.bool false]) (t:=24) ?_;intro G132 hg w46 hbox hb;have K132:=Aside0.mk (hbox);have GW132:=zN HB hg;have GE132:=zN HB hg;replace HB:=zS HB hb;have NB125_132:=zL K125 hg;have NB132_125:=zG K125 hg;replace K125:=zB K125 hb;have NB126_132:=zL K126 hg;have NB132_126:=zG K126 hg;replace K126:=zB K126 hb;clear hb hbox hg;have hnb47:=NB132_125.1;have hnc47:=NB125_132.1;have hnb48:=NB132_126.1;have hnc48:=NB126_132.1;have hcz49_0 : w46.cell? ⟨G132,0,none⟩ = some (.slice none 0 0):=zk K132 0;have hcz49_1 : w46.cell? ⟨G132,1,none⟩ = some (.bool false):=zk K132 1;have hfz49_0:=bF K132.1 0;have hfz49_1:=bF K132.1 1))
       go_loopg [2,46] k2 (fun kq v2 v46 w' => ∃ (x2_3 : Int) (x46_3 : Int) (x133000_3 : List (S39)) (x133001_3 : Bool) (u133000 : Value),v2 = .int .i64 x2_3 ∧ v46 = .int .i64 x46_3 ∧ Aside0 (table_Keep.l1 kq x2_3 l1 (l1.length : Int) x46_3 l0_0 a0_1 x133000_3 x133001_3 = some (r1,r2,r3)) ∧ Aside0 (kq ≤ k2) ∧ Aside0 (Kd.R k39 39 w' w.heap.size (fun _ => True) u133000 x133000_3) ∧ Aside0 (w'.heap[G125]? = some (.cells #[(.slice A0_0 l0_0.length c0_0),.bool a0_1] 24 (0,0))) ∧ Aside0 (w'.heap[G126]? = some (.cells #[(.slice none 0 0),.bool false] 24 (0,0))) ∧ Aside0 (w'.heap[G132]? = some (.cells #[u133000,.bool x133001_3] 24 (0,0))) ∧ Aside0 (Below w.heap.size w w'))
       case atStart => exact ⟨(x2_2),(0),(([] : List (S39))),(a0_1),(.slice none 0 0),ze,ze,H',⟨Nat.le_refl _⟩,⟨by first|exact Kd.R_nil _ _ _ _ _|exact Kd.N_nil _ _ _ _ _|exact Kd.V_nil _ _ _ _ _|exact Kd.Q_nil _ _ _ _ _|exact Kd.S_nil _ _ _ _ _⟩,⟨zf K125⟩,⟨zf K126⟩,⟨zF K132⟩,⟨zH HB⟩⟩
       case round =>
        clear H'
        try clear c1;try clear p1;try clear q1;try clear hx1;try clear c2;try clear p2;try clear c3;try clear c4;try clear p6;try clear c8;try clear c10;try clear c11;try clear p12;try clear q12;try clear hx12;try clear c14;try clear c15;try clear c19;try clear c22;try clear c23;try clear c25;try clear c25b0;try clear c26;try clear c26b0;try clear c27;try clear c27b0;try clear c29;try clear c31;try clear c32;try clear c38;try clear c39;try clear c44;try clear c45;try clear c46;try clear c47;try clear c48;try clear hcz12_0;try clear hcz12_1;try clear hcz16_0;try clear hcz16_1;try clear hcz20_0;try clear hcz20_1;try clear hcz24_0;try clear hcz24_1;try clear hcz33_0;try clear hcz33_1;try clear hcz33_2;try clear hcz33_3;try clear hcz33_4;try clear hcz33_5;try clear hcz35_0;try clear hcz35_1;try clear hcz35_2;try clear hcz35_3;try clear hcz35_4;try clear hcz35_5;try clear hcz40_0;try clear hcz40_1;try clear hcz40_2;try clear hcz40_3;try clear hcz40_4;try clear hcz40_5;try clear hcz42_0;try clear hcz42_1;try clear hcz42_2;try clear hcz42_3;try clear hcz42_4;try clear hcz42_5;try clear hcz45_0;try clear hcz45_1;try clear hcz49_0;try clear hcz49_1;try clear hfz12_0;try clear hfz12_1;try clear hfz16_0;try clear hfz16_1;try clear hfz20_0;try clear hfz20_1;try clear hfz24_0;try clear hfz24_1;try clear hfz33_0;try clear hfz33_1;try clear hfz33_2;try clear hfz33_3;try clear hfz33_4;try clear hfz33_5;try clear hfz35_0;try clear hfz35_1;try clear hfz35_2;try clear hfz35_3;try clear hfz35_4;try clear hfz35_5;try clear hfz40_0;try clear hfz40_1;try clear hfz40_2;try clear hfz40_3;try clear hfz40_4;try clear hfz40_5;try clear hfz42_0;try clear hfz42_1;try clear hfz42_2;try clear hfz42_3;try clear hfz42_4;try clear hfz42_5;try clear hfz45_0;try clear hfz45_1;try clear hfz49_0;try clear hfz49_1;try clear hx129_0;try clear hx129_1;try clear hx129_2;try clear hx129_3;try clear hx129_4;try clear hx129_5;try clear p129;try clear p2;try clear q129
        obtain ⟨x2_3,x46_3,x133000_3,x133001_3,u133000,rfl,rfl,HA,HK3,HO_133000,K125,K126,K132,HB⟩:=hrel
        cases gk with
        | zero => exact absurd HA.out (by simp [table_Keep.l1])
        | succ k3 =>
         have H:=HA.out
         clear HA
         simp only [table_Keep.l1] at H
         by_cases c50 : x46_3 < (l1.length : Int)
         ·rw [if_pos c50] at H
          have c50b0 : decide (x46_3 < (l1.length : Int)) = true:=decide_eq_true c50
          clear c50
          by_cases c51 : 0 ≤ x46_3
          ·rw [if_pos c51] at H
           have c51b0 : decide (0 ≤ x46_3) = true:=decide_eq_true c51
           clear c51
           by_cases c52 : x46_3 < (l1.length : Int)
           ·rw [if_pos c52] at H
            have c52b0 : decide (x46_3 < (l1.length : Int)) = true:=decide_eq_true c52
            clear c52
            replace H:=Option.bind_eq_some_iff.mp H
            obtain ⟨t135,A530,H⟩:=H
            replace H : (if t135 = true then (if x133000_3.length < 2932031007402 then (table_Keep.l1 k3 x2_3 l1 (l1.length : Int) (wrap64 (x46_3 + 1)) l0_0 a0_1 (x133000_3 ++ [(⟨(rd_T39 l1 x46_3).f0,(rd_T39 l1 x46_3).f1,(rd_T39 l1 x46_3).f2,(rd_T39 l1 x46_3).f3,(rd_T39 l1 x46_3).f4,(rd_T39 l1 x46_3).f5⟩ : S39)]) x133001_3) else (none)) else (if x2_3 ≤ 0 then (table_Keep.l1 k3 x2_3 l1 (l1.length : Int) (wrap64 (x46_3 + 1)) l0_0 a0_1 x133000_3 true) else (if x133000_3.length < 2932031007402 then (table_Keep.l1 k3 (wrap64 (x2_3 - 1)) l1 (l1.length : Int) (wrap64 (x46_3 + 1)) l0_0 a0_1 (x133000_3 ++ [(⟨(rd_T39 l1 x46_3).f0,(rd_T39 l1 x46_3).f1,(rd_T39 l1 x46_3).f2,(rd_T39 l1 x46_3).f3,(rd_T39 l1 x46_3).f4,(rd_T39 l1 x46_3).f5⟩ : S39)]) x133001_3) else (none)))) = some (r1,r2,r3):=H
            have A53:=Aside0.mk A530
            clear A530
            by_cases c54 : t135 = true
            ·subst c54
             have H1 : (if x133000_3.length < 2932031007402 then (table_Keep.l1 k3 x2_3 l1 (l1.length : Int) (wrap64 (x46_3 + 1)) l0_0 a0_1 (x133000_3 ++ [(⟨(rd_T39 l1 x46_3).f0,(rd_T39 l1 x46_3).f1,(rd_T39 l1 x46_3).f2,(rd_T39 l1 x46_3).f3,(rd_T39 l1 x46_3).f4,(rd_T39 l1 x46_3).f5⟩ : S39)]) x133001_3) else (none)) = some (r1,r2,r3):=by rw [if_pos rfl] at H;exact H
             clear H
             have H:=H1
             clear H1
             by_cases c55 : x133000_3.length < 2932031007402
             ·rw [if_pos c55] at H
              have LMc55:=Aside0.mk c55
              clear c55
              obtain ⟨y136,hy136⟩ : ∃ y_ : List (S39),y_ = (x133000_3 ++ [(⟨(rd_T39 l1 x46_3).f0,(rd_T39 l1 x46_3).f1,(rd_T39 l1 x46_3).f2,(rd_T39 l1 x46_3).f3,(rd_T39 l1 x46_3).f4,(rd_T39 l1 x46_3).f5⟩ : S39)]):=⟨_,rfl⟩
              replace H : (table_Keep.l1 k3 x2_3 l1 (l1.length : Int) (wrap64 (x46_3 + 1)) l0_0 a0_1 y136 x133001_3) = some (r1,r2,r3):=by first|(rw [hy136];with_reducible exact H)|(have H2_:=(Option.bind_some _ _).symm.trans H;rw [hy136];with_reducible exact H2_)|(have H2_:=(Option.bind_some _ _).symm.trans H;with_reducible exact H2_)|with_reducible exact H|(rw [hy136];exact H)|exact H
              have Ny136:=Aside0.mk hy136
              clear hy136
              have H':=Aside0.mk H
              clear H
              have p133 : 0 ≤ (x46_3 : Int):=zd
              have q133 : x46_3 < (l1.length : Int):=zd
              obtain ⟨ad133,e133,hx133_0,hx133_1,hx133_2,hx133_3,hx133_4,hx133_5⟩:=at_T39 HR1.out x46_3 p133 q133
              cases e133
              replace hx133_0:=zh HB hx133_0
              replace hx133_1:=zh HB hx133_1
              replace hx133_2:=zh HB hx133_2
              replace hx133_3:=zh HB hx133_3
              replace hx133_4:=zh HB hx133_4
              replace hx133_5:=zh HB hx133_5
              replace p133:=eq_true p133
              replace q133:=eq_true q133
              go_wp2_with (first|((with_reducible refine gate_dst (N:=13) rfl ?_);refine zb (N:=13) (cs:=#[.int .i64 0,.int .i64 0,.float .f64 0,.int .i64 0,.float .f64 0,.int .i64 0]) (t:=39) ?_;intro G134 hg w56 hbox hb;replace HO_133000:=Aside0.mk (Kd.R_below (Kd.R_elderB (zR HO_133000) G134 (Nat.le_of_eq hg.symm)) hb);have K134:=Aside0.mk (hbox);have GW134:=zN HB hg;have GE134:=zN HB hg;replace HB:=zS HB hb;have NB125_134:=zL K125 hg;have NB134_125:=zG K125 hg;replace K125:=zB K125 hb;have NB126_134:=zL K126 hg;have NB134_126:=zG K126 hg;replace K126:=zB K126 hb;have NB132_134:=zL K132 hg;have NB134_132:=zG K132 hg;replace K132:=zB K132 hb;clear hb hbox hg;have hnb57:=NB134_125.1;have hnc57:=NB125_134.1;have hnb58:=NB134_126.1;have hnc58:=NB126_134.1;have hnb59:=NB134_132.1;have hnc59:=NB132_134.1;have hcz60_0 : w56.cell? ⟨G134,0,none⟩ = some (.int .i64 0):=zk K134 0;have hcz60_1 : w56.cell? ⟨G134,1,none⟩ = some (.int .i64 0):=zk K134 1;have hcz60_2 : w56.cell? ⟨G134,2,none⟩ = some (.float .f64 0):=zk K134 2;have hcz60_3 : w56.cell? ⟨G134,3,none⟩ = some (.int .i64 0):=zk K134 3;have hcz60_4 : w56.cell? ⟨G134,4,none⟩ = some (.float .f64 0):=zk K134 4;have hcz60_5 : w56.cell? ⟨G134,5,none⟩ = some (.int .i64 0):=zk K134 5;have hfz60_0:=bF K134.1 0;have hfz60_1:=bF K134.1 1;have hfz60_2:=bF K134.1 2;have hfz60_3:=bF K134.1 3;have hfz60_4:=bF K134.1 4;have hfz60_5:=bF K134.1 5)|((with_reducible refine gate_store (t:=39) (p:=13) rfl ?_);refine store_event (t:=39) (p:=13) (v:=?vo_w61) (w1:=((((((w56.setCell ⟨G134,0,none⟩ (.int .i64 ((rd_T39 l1 x46_3).f0))).setCell ⟨G134,1,none⟩ (.int .i64 ((rd_T39 l1 x46_3).f1))).setCell ⟨G134,2,none⟩ (.float .f64 ((rd_T39 l1 x46_3).f2))).setCell ⟨G134,3,none⟩ (.int .i64 ((rd_T39 l1 x46_3).f3))).setCell ⟨G134,4,none⟩ (.float .f64 ((rd_T39 l1 x46_3).f4))).setCell ⟨G134,5,none⟩ (.int .i64 ((rd_T39 l1 x46_3).f5)))) ?hg ?ho ?hn ?hr ?_;(case ho => rfl);(case hg => rfl);(case hn => rfl);(case hr => first|(go_simp;done)|(go_simp;rfl));intro w61 hw;replace HO_133000 : Aside0 (Kd.R k39 39 w61 w.heap.size (fun k_ => k_ ≠ G134) u133000 x133000_3):=⟨(by rw [hw];exact (by (with_reducible repeat (first|apply Kd.R_alloc|apply Kd.R_drewN|apply Kd.R_drew));exact Kd.R_mono (Kd.R_far (p:=⟨G134,5,none⟩) (Kd.R_far (p:=⟨G134,4,none⟩) (Kd.R_far (p:=⟨G134,3,none⟩) (Kd.R_far (p:=⟨G134,2,none⟩) (Kd.R_far (p:=⟨G134,1,none⟩) (Kd.R_far (p:=⟨G134,0,none⟩) (Kd.R_mono HO_133000.out (fun k_ hk => (⟨hk,hk.2⟩ : _ ∧ k_ ≠ G134))) (fun _ hk => hk.2) (.int .i64 ((rd_T39 l1 x46_3).f0))) (fun _ hk => hk.2) (.int .i64 ((rd_T39 l1 x46_3).f1))) (fun _ hk => hk.2) (.float .f64 ((rd_T39 l1 x46_3).f2))) (fun _ hk => hk.2) (.int .i64 ((rd_T39 l1 x46_3).f3))) (fun _ hk => hk.2) (.float .f64 ((rd_T39 l1 x46_3).f4))) (fun _ hk => hk.2) (.int .i64 ((rd_T39 l1 x46_3).f5))) (fun _ hk => hk.1.2)))⟩;replace K125 : Aside0 (w61.heap[G125]? = some (.cells #[.slice A0_0 l0_0.length c0_0,.bool a0_1] 24 (0,0))):=⟨(by rw [hw];exact (zf K125))⟩;replace K126 : Aside0 (w61.heap[G126]? = some (.cells #[.slice none 0 0,.bool false] 24 (0,0))):=⟨(by rw [hw];exact (zf K126))⟩;replace K132 : Aside0 (w61.heap[G132]? = some (.cells #[u133000,.bool x133001_3] 24 (0,0))):=⟨(by rw [hw];exact (zf K132))⟩;replace K134 : Aside0 (w61.heap[G134]? = some (.cells #[.int .i64 ((rd_T39 l1 x46_3).f0),.int .i64 ((rd_T39 l1 x46_3).f1),.float .f64 ((rd_T39 l1 x46_3).f2),.int .i64 ((rd_T39 l1 x46_3).f3),.float .f64 ((rd_T39 l1 x46_3).f4),.int .i64 ((rd_T39 l1 x46_3).f5)] 39 (0,0))):=⟨(by rw [hw];exact (zF K134))⟩;replace HB : Aside0 (Below w.heap.size w w61):=⟨(by rw [hw];exact (zH HB))⟩;clear hw;have hcz62_0 : w61.cell? ⟨G134,0,none⟩ = some (.int .i64 ((rd_T39 l1 x46_3).f0)):=zk K134 0;have hcz62_1 : w61.cell? ⟨G134,1,none⟩ = some (.int .i64 ((rd_T39 l1 x46_3).f1)):=zk K134 1;have hcz62_2 : w61.cell? ⟨G134,2,none⟩ = some (.float .f64 ((rd_T39 l1 x46_3).f2)):=zk K134 2;have hcz62_3 : w61.cell? ⟨G134,3,none⟩ = some (.int .i64 ((rd_T39 l1 x46_3).f3)):=zk K134 3;have hcz62_4 : w61.cell? ⟨G134,4,none⟩ = some (.float .f64 ((rd_T39 l1 x46_3).f4)):=zk K134 4;have hcz62_5 : w61.cell? ⟨G134,5,none⟩ = some (.int .i64 ((rd_T39 l1 x46_3).f5)):=zk K134 5;have hfz62_0:=bF K134.1 0;have hfz62_1:=bF K134.1 1;have hfz62_2:=bF K134.1 2;have hfz62_3:=bF K134.1 3;have hfz62_4:=bF K134.1 4;have hfz62_5:=bF K134.1 5)|((with_reducible refine gate_calleeV (c:=.tmp 50) rfl ?_);refine goesLC_ (caps:=#[.pointer (some ⟨G125,0,none⟩)]) (some 52) rfl rfl Try.func46 (by kernel_rfl) rfl #[.agg #[.int .i64 ((rd_T39 l1 x46_3).f0),.int .i64 ((rd_T39 l1 x46_3).f1),.float .f64 ((rd_T39 l1 x46_3).f2),.int .i64 ((rd_T39 l1 x46_3).f3),.float .f64 ((rd_T39 l1 x46_3).f4),.int .i64 ((rd_T39 l1 x46_3).f5)],.pointer (some ⟨G125,0,none⟩)] rfl (by (try simp only [List.map_toArray,List.map_cons,List.map_nil]);first|done|rfl|(simp only [List.length_drop,List.length_take];rfl)) ?_;(with_reducible refine (table_Keep_1.calls k3 ((rd_T39 l1 x46_3).f0) ((rd_T39 l1 x46_3).f1) ((rd_T39 l1 x46_3).f2) ((rd_T39 l1 x46_3).f3) ((rd_T39 l1 x46_3).f4) ((rd_T39 l1 x46_3).f5) G125 A0_0 c0_0 l0_0 a0_1 true _ ?side1 ?side2 ?side3 A53.out).mono ?_);(case side1 => exact zC (Kd.C_below HR0_0.out HB.1));(case side2 => exact HC0_0.out);(case side3 => (with_reducible repeat first|apply bN|apply bD|apply bA);exact K125.1);rintro e w63 ⟨rfl,hb⟩;refine ⟨_,rfl,?_⟩;replace HO_133000:=Aside0.mk (Kd.R_below (zR HO_133000) hb);replace K125:=zB K125 hb;replace K126:=zB K126 hb;replace K132:=zB K132 hb;replace K134:=zB K134 hb;replace HB:=zS HB hb;(try clear hb);have hnb64:=NB132_125.1;have hnc64:=NB125_132.1;have hnb65:=NB132_126.1;have hnc65:=NB126_132.1;have hcz66_0 : w63.cell? ⟨G132,0,none⟩ = some (u133000):=zk K132 0;have hcz66_1 : w63.cell? ⟨G132,1,none⟩ = some (.bool x133001_3):=zk K132 1;have hfz66_0:=bF K132.1 0;have hfz66_1:=bF K132.1 1;have hcz67_0 : w63.cell? ⟨G134,0,none⟩ = some (.int .i64 ((rd_T39 l1 x46_3).f0)):=zk K134 0;have hcz67_1 : w63.cell? ⟨G134,1,none⟩ = some (.int .i64 ((rd_T39 l1 x46_3).f1)):=zk K134 1;have hcz67_2 : w63.cell? ⟨G134,2,none⟩ = some (.float .f64 ((rd_T39 l1 x46_3).f2)):=zk K134 2;have hcz67_3 : w63.cell? ⟨G134,3,none⟩ = some (.int .i64 ((rd_T39 l1 x46_3).f3)):=zk K134 3;have hcz67_4 : w63.cell? ⟨G134,4,none⟩ = some (.float .f64 ((rd_T39 l1 x46_3).f4)):=zk K134 4;have hcz67_5 : w63.cell? ⟨G134,5,none⟩ = some (.int .i64 ((rd_T39 l1 x46_3).f5)):=zk K134 5;have hfz67_0:=bF K134.1 0;have hfz67_1:=bF K134.1 1;have hfz67_2:=bF K134.1 2;have hfz67_3:=bF K134.1 3;have hfz67_4:=bF K134.1 4;have hfz67_5:=bF K134.1 5)|((with_reducible refine gate_builtin (b:=.append) (xs:=#[.tmp 60,.tmp 62]) rfl ?_);at_builtin;refine Kd.R_append k39 (w0:=w) w.heap.size rfl (.tmp 60) (.tmp 62) 22 39 (.agg #[(.int .i64 0),(.int .i64 0),(.float .f64 0),(.int .i64 0),(.float .f64 0),(.int .i64 0)]) 48 rfl Try.underlying22 info39 rfl (by decide) (by omega) u133000 x133000_3 (⟨(rd_T39 l1 x46_3).f0,(rd_T39 l1 x46_3).f1,(rd_T39 l1 x46_3).f2,(rd_T39 l1 x46_3).f3,(rd_T39 l1 x46_3).f4,(rd_T39 l1 x46_3).f5⟩ : S39) [.int .i64 ((rd_T39 l1 x46_3).f0),.int .i64 ((rd_T39 l1 x46_3).f1),.float .f64 ((rd_T39 l1 x46_3).f2),.int .i64 ((rd_T39 l1 x46_3).f3),.float .f64 ((rd_T39 l1 x46_3).f4),.int .i64 ((rd_T39 l1 x46_3).f5)] (fun k_ => k_ ≠ G134) (fun _ => False) rfl rfl ?aP (fun _ hk => hk.elim) ?aF ?aO ?aB ?aS ?aL ?_;(case aP => exact k39_mkM _ _ _ (⟨(rd_T39 l1 x46_3).f0,(rd_T39 l1 x46_3).f1,(rd_T39 l1 x46_3).f2,(rd_T39 l1 x46_3).f3,(rd_T39 l1 x46_3).f4,(rd_T39 l1 x46_3).f5⟩ : S39));(case aB => exact (zH HB));(case aF => exact (fun k_ hk => Kd.freshB (g:=G134) (z1 K134.1) k_ hk));(case aO => exact (zR HO_133000));(case aS => exact (zW HB));(case aL => have:=LMc55.out;omega);intro v137 w68 ho hb hg hat;rw [← Ny136.out] at ho;replace K125:=Aside0.mk (blk_grown (g:=G125) (z1 K125.1) hg (Kd.R_ne HO_133000.out K125.1 (by decide)));replace K126:=Aside0.mk (blk_grown (g:=G126) (z1 K126.1) hg (Kd.R_ne HO_133000.out K126.1 (by decide)));replace K132:=Aside0.mk (blk_grown (g:=G132) (z1 K132.1) hg (Kd.R_ne HO_133000.out K132.1 (by decide)));replace K134:=Aside0.mk (blk_grown (g:=G134) (z1 K134.1) hg (Kd.R_away HO_133000.out (fun _ hk => hk)));replace HB:=Aside0.mk (hb);have HO138:=Aside0.mk (ho);clear HO_133000;clear ho hb hg hat;obtain ⟨Ao69,co69,eo69⟩:=Kd.R_slice HO138.out;subst eo69;have hcz70_0 : w68.cell? ⟨G132,0,none⟩ = some (u133000):=zk K132 0;have hcz70_1 : w68.cell? ⟨G132,1,none⟩ = some (.bool x133001_3):=zk K132 1;have hfz70_0:=bF K132.1 0;have hfz70_1:=bF K132.1 1))
              go_roundg k3
              case measure => have:=HJ3.out;have:=HK2.out;have:=HK3.out;omega
              case rel => exact ⟨(x2_3),(wrap64 (x46_3 + 1)),(y136),(x133001_3),(.slice Ao69 y136.length co69),ze,ze,H',⟨by have:=HJ3.out;have:=HK2.out;have:=HK3.out;omega⟩,⟨by (with_reducible repeat (first|apply Kd.R_alloc|apply Kd.R_drewN|apply Kd.R_drew));exact Kd.R_mono (Kd.R_far (p:=⟨G132,0,none⟩) (Kd.R_types HO138.out K132.1 (by decide)) (fun _ hk => hk.2) (.slice Ao69 y136.length co69)) (fun _ hk => trivial)⟩,⟨zf K125⟩,⟨zf K126⟩,⟨zF K132⟩,⟨zH HB⟩⟩
             ·rw [if_neg c55] at H
              exact absurd H (by simp)
            ·replace c54:=Bool.eq_false_iff.mpr c54
             subst c54
             have H1 : (if x2_3 ≤ 0 then (table_Keep.l1 k3 x2_3 l1 (l1.length : Int) (wrap64 (x46_3 + 1)) l0_0 a0_1 x133000_3 true) else (if x133000_3.length < 2932031007402 then (table_Keep.l1 k3 (wrap64 (x2_3 - 1)) l1 (l1.length : Int) (wrap64 (x46_3 + 1)) l0_0 a0_1 (x133000_3 ++ [(⟨(rd_T39 l1 x46_3).f0,(rd_T39 l1 x46_3).f1,(rd_T39 l1 x46_3).f2,(rd_T39 l1 x46_3).f3,(rd_T39 l1 x46_3).f4,(rd_T39 l1 x46_3).f5⟩ : S39)]) x133001_3) else (none))) = some (r1,r2,r3):=by rw [if_neg (show ¬ (false = true) by decide)] at H;exact H
             clear H
             have H:=H1
             clear H1
             by_cases c71 : x2_3 ≤ 0
             ·rw [if_pos c71] at H
              have c71b0 : decide (x2_3 ≤ 0) = true:=decide_eq_true c71
              clear c71
              have H':=Aside0.mk H
              clear H
              have p133 : 0 ≤ (x46_3 : Int):=zd
              have q133 : x46_3 < (l1.length : Int):=zd
              obtain ⟨ad133,e133,hx133_0,hx133_1,hx133_2,hx133_3,hx133_4,hx133_5⟩:=at_T39 HR1.out x46_3 p133 q133
              cases e133
              replace hx133_0:=zh HB hx133_0
              replace hx133_1:=zh HB hx133_1
              replace hx133_2:=zh HB hx133_2
              replace hx133_3:=zh HB hx133_3
              replace hx133_4:=zh HB hx133_4
              replace hx133_5:=zh HB hx133_5
              replace p133:=eq_true p133
              replace q133:=eq_true q133
              go_wp2_with (first|((with_reducible refine gate_dst (N:=13) rfl ?_);refine zb (N:=13) (cs:=#[.int .i64 0,.int .i64 0,.float .f64 0,.int .i64 0,.float .f64 0,.int .i64 0]) (t:=39) ?_;intro G134 hg w72 hbox hb;replace HO_133000:=Aside0.mk (Kd.R_below (Kd.R_elderB (zR HO_133000) G134 (Nat.le_of_eq hg.symm)) hb);have K134:=Aside0.mk (hbox);have GW134:=zN HB hg;have GE134:=zN HB hg;replace HB:=zS HB hb;have NB125_134:=zL K125 hg;have NB134_125:=zG K125 hg;replace K125:=zB K125 hb;have NB126_134:=zL K126 hg;have NB134_126:=zG K126 hg;replace K126:=zB K126 hb;have NB132_134:=zL K132 hg;have NB134_132:=zG K132 hg;replace K132:=zB K132 hb;clear hb hbox hg;have hnb73:=NB134_125.1;have hnc73:=NB125_134.1;have hnb74:=NB134_126.1;have hnc74:=NB126_134.1;have hnb75:=NB134_132.1;have hnc75:=NB132_134.1;have hcz76_0 : w72.cell? ⟨G134,0,none⟩ = some (.int .i64 0):=zk K134 0;have hcz76_1 : w72.cell? ⟨G134,1,none⟩ = some (.int .i64 0):=zk K134 1;have hcz76_2 : w72.cell? ⟨G134,2,none⟩ = some (.float .f64 0):=zk K134 2;have hcz76_3 : w72.cell? ⟨G134,3,none⟩ = some (.int .i64 0):=zk K134 3;have hcz76_4 : w72.cell? ⟨G134,4,none⟩ = some (.float .f64 0):=zk K134 4;have hcz76_5 : w72.cell? ⟨G134,5,none⟩ = some (.int .i64 0):=zk K134 5;have hfz76_0:=bF K134.1 0;have hfz76_1:=bF K134.1 1;have hfz76_2:=bF K134.1 2;have hfz76_3:=bF K134.1 3;have hfz76_4:=bF K134.1 4;have hfz76_5:=bF K134.1 5)|((with_reducible refine gate_store (t:=39) (p:=13) rfl ?_);refine store_event (t:=39) (p:=13) (v:=?vo_w77) (w1:=((((((w72.setCell ⟨G134,0,none⟩ (.int .i64 ((rd_T39 l1 x46_3).f0))).setCell ⟨G134,1,none⟩ (.int .i64 ((rd_T39 l1 x46_3).f1))).setCell ⟨G134,2,none⟩ (.float .f64 ((rd_T39 l1 x46_3).f2))).setCell ⟨G134,3,none⟩ (.int .i64 ((rd_T39 l1 x46_3).f3))).setCell ⟨G134,4,none⟩ (.float .f64 ((rd_T39 l1 x46_3).f4))).setCell ⟨G134,5,none⟩ (.int .i64 ((rd_T39 l1 x46_3).f5)))) ?hg ?ho ?hn ?hr ?_;(case ho => rfl);(case hg => rfl);(case hn => rfl);(case hr => first|(go_simp;done)|(go_simp;rfl));intro w77 hw;replace HO_133000 : Aside0 (Kd.R k39 39 w77 w.heap.size (fun k_ => k_ ≠ G134) u133000 x133000_3):=⟨(by rw [hw];exact (by (with_reducible repeat (first|apply Kd.R_alloc|apply Kd.R_drewN|apply Kd.R_drew));exact Kd.R_mono (Kd.R_far (p:=⟨G134,5,none⟩) (Kd.R_far (p:=⟨G134,4,none⟩) (Kd.R_far (p:=⟨G134,3,none⟩) (Kd.R_far (p:=⟨G134,2,none⟩) (Kd.R_far (p:=⟨G134,1,none⟩) (Kd.R_far (p:=⟨G134,0,none⟩) (Kd.R_mono HO_133000.out (fun k_ hk => (⟨hk,hk.2⟩ : _ ∧ k_ ≠ G134))) (fun _ hk => hk.2) (.int .i64 ((rd_T39 l1 x46_3).f0))) (fun _ hk => hk.2) (.int .i64 ((rd_T39 l1 x46_3).f1))) (fun _ hk => hk.2) (.float .f64 ((rd_T39 l1 x46_3).f2))) (fun _ hk => hk.2) (.int .i64 ((rd_T39 l1 x46_3).f3))) (fun _ hk => hk.2) (.float .f64 ((rd_T39 l1 x46_3).f4))) (fun _ hk => hk.2) (.int .i64 ((rd_T39 l1 x46_3).f5))) (fun _ hk => hk.1.2)))⟩;replace K125 : Aside0 (w77.heap[G125]? = some (.cells #[.slice A0_0 l0_0.length c0_0,.bool a0_1] 24 (0,0))):=⟨(by rw [hw];exact (zf K125))⟩;replace K126 : Aside0 (w77.heap[G126]? = some (.cells #[.slice none 0 0,.bool false] 24 (0,0))):=⟨(by rw [hw];exact (zf K126))⟩;replace K132 : Aside0 (w77.heap[G132]? = some (.cells #[u133000,.bool x133001_3] 24 (0,0))):=⟨(by rw [hw];exact (zf K132))⟩;replace K134 : Aside0 (w77.heap[G134]? = some (.cells #[.int .i64 ((rd_T39 l1 x46_3).f0),.int .i64 ((rd_T39 l1 x46_3).f1),.float .f64 ((rd_T39 l1 x46_3).f2),.int .i64 ((rd_T39 l1 x46_3).f3),.float .f64 ((rd_T39 l1 x46_3).f4),.int .i64 ((rd_T39 l1 x46_3).f5)] 39 (0,0))):=⟨(by rw [hw];exact (zF K134))⟩;replace HB : Aside0 (Below w.heap.size w w77):=⟨(by rw [hw];exact (zH HB))⟩;clear hw;have hcz78_0 : w77.cell? ⟨G134,0,none⟩ = some (.int .i64 ((rd_T39 l1 x46_3).f0)):=zk K134 0;have hcz78_1 : w77.cell? ⟨G134,1,none⟩ = some (.int .i64 ((rd_T39 l1 x46_3).f1)):=zk K134 1;have hcz78_2 : w77.cell? ⟨G134,2,none⟩ = some (.float .f64 ((rd_T39 l1 x46_3).f2)):=zk K134 2;have hcz78_3 : w77.cell? ⟨G134,3,none⟩ = some (.int .i64 ((rd_T39 l1 x46_3).f3)):=zk K134 3;have hcz78_4 : w77.cell? ⟨G134,4,none⟩ = some (.float .f64 ((rd_T39 l1 x46_3).f4)):=zk K134 4;have hcz78_5 : w77.cell? ⟨G134,5,none⟩ = some (.int .i64 ((rd_T39 l1 x46_3).f5)):=zk K134 5;have hfz78_0:=bF K134.1 0;have hfz78_1:=bF K134.1 1;have hfz78_2:=bF K134.1 2;have hfz78_3:=bF K134.1 3;have hfz78_4:=bF K134.1 4;have hfz78_5:=bF K134.1 5)|((with_reducible refine gate_calleeV (c:=.tmp 50) rfl ?_);refine goesLC_ (caps:=#[.pointer (some ⟨G125,0,none⟩)]) (some 52) rfl rfl Try.func46 (by kernel_rfl) rfl #[.agg #[.int .i64 ((rd_T39 l1 x46_3).f0),.int .i64 ((rd_T39 l1 x46_3).f1),.float .f64 ((rd_T39 l1 x46_3).f2),.int .i64 ((rd_T39 l1 x46_3).f3),.float .f64 ((rd_T39 l1 x46_3).f4),.int .i64 ((rd_T39 l1 x46_3).f5)],.pointer (some ⟨G125,0,none⟩)] rfl (by (try simp only [List.map_toArray,List.map_cons,List.map_nil]);first|done|rfl|(simp only [List.length_drop,List.length_take];rfl)) ?_;(with_reducible refine (table_Keep_1.calls k3 ((rd_T39 l1 x46_3).f0) ((rd_T39 l1 x46_3).f1) ((rd_T39 l1 x46_3).f2) ((rd_T39 l1 x46_3).f3) ((rd_T39 l1 x46_3).f4) ((rd_T39 l1 x46_3).f5) G125 A0_0 c0_0 l0_0 a0_1 false _ ?side1 ?side2 ?side3 A53.out).mono ?_);(case side1 => exact zC (Kd.C_below HR0_0.out HB.1));(case side2 => exact HC0_0.out);(case side3 => (with_reducible repeat first|apply bN|apply bD|apply bA);exact K125.1);rintro e w79 ⟨rfl,hb⟩;refine ⟨_,rfl,?_⟩;replace HO_133000:=Aside0.mk (Kd.R_below (zR HO_133000) hb);replace K125:=zB K125 hb;replace K126:=zB K126 hb;replace K132:=zB K132 hb;replace K134:=zB K134 hb;replace HB:=zS HB hb;(try clear hb);have hnb80:=NB132_125.1;have hnc80:=NB125_132.1;have hnb81:=NB132_126.1;have hnc81:=NB126_132.1;have hcz82_0 : w79.cell? ⟨G132,0,none⟩ = some (u133000):=zk K132 0;have hcz82_1 : w79.cell? ⟨G132,1,none⟩ = some (.bool x133001_3):=zk K132 1;have hfz82_0:=bF K132.1 0;have hfz82_1:=bF K132.1 1))
              go_roundg k3
              case measure => have:=HJ3.out;have:=HK2.out;have:=HK3.out;omega
              case rel => exact ⟨(x2_3),(wrap64 (x46_3 + 1)),(x133000_3),(true),(u133000),ze,ze,H',⟨by have:=HJ3.out;have:=HK2.out;have:=HK3.out;omega⟩,⟨by (with_reducible repeat (first|apply Kd.R_alloc|apply Kd.R_drewN|apply Kd.R_drew));exact Kd.R_mono (Kd.R_far (p:=⟨G132,1,none⟩) (Kd.R_types HO_133000.out K132.1 (by decide)) (fun _ hk => hk.2) (.bool true)) (fun _ hk => trivial)⟩,⟨zf K125⟩,⟨zf K126⟩,⟨zF K132⟩,⟨zH HB⟩⟩
             ·rw [if_neg c71] at H
              have c71b0 : decide (x2_3 ≤ 0) = false:=decide_eq_false c71
              clear c71
              by_cases c83 : x133000_3.length < 2932031007402
              ·rw [if_pos c83] at H
               have LMc83:=Aside0.mk c83
               clear c83
               obtain ⟨y139,hy139⟩ : ∃ y_ : List (S39),y_ = (x133000_3 ++ [(⟨(rd_T39 l1 x46_3).f0,(rd_T39 l1 x46_3).f1,(rd_T39 l1 x46_3).f2,(rd_T39 l1 x46_3).f3,(rd_T39 l1 x46_3).f4,(rd_T39 l1 x46_3).f5⟩ : S39)]):=⟨_,rfl⟩
               replace H : (table_Keep.l1 k3 (wrap64 (x2_3 - 1)) l1 (l1.length : Int) (wrap64 (x46_3 + 1)) l0_0 a0_1 y139 x133001_3) = some (r1,r2,r3):=by first|(rw [hy139];with_reducible exact H)|(have H2_:=(Option.bind_some _ _).symm.trans H;rw [hy139];with_reducible exact H2_)|(have H2_:=(Option.bind_some _ _).symm.trans H;with_reducible exact H2_)|with_reducible exact H|(rw [hy139];exact H)|exact H
               have Ny139:=Aside0.mk hy139
               clear hy139
               have H':=Aside0.mk H
               clear H
               have p133 : 0 ≤ (x46_3 : Int):=zd
               have q133 : x46_3 < (l1.length : Int):=zd
               obtain ⟨ad133,e133,hx133_0,hx133_1,hx133_2,hx133_3,hx133_4,hx133_5⟩:=at_T39 HR1.out x46_3 p133 q133
               cases e133
               replace hx133_0:=zh HB hx133_0
               replace hx133_1:=zh HB hx133_1
               replace hx133_2:=zh HB hx133_2
               replace hx133_3:=zh HB hx133_3
               replace hx133_4:=zh HB hx133_4
               replace hx133_5:=zh HB hx133_5
               replace p133:=eq_true p133
               replace q133:=eq_true q133
               go_wp2_with (first|((with_reducible refine gate_dst (N:=13) rfl ?_);refine zb (N:=13) (cs:=#[.int .i64 0,.int .i64 0,.float .f64 0,.int .i64 0,.float .f64 0,.int .i64 0]) (t:=39) ?_;intro G134 hg w84 hbox hb;replace HO_133000:=Aside0.mk (Kd.R_below (Kd.R_elderB (zR HO_133000) G134 (Nat.le_of_eq hg.symm)) hb);have K134:=Aside0.mk (hbox);have GW134:=zN HB hg;have GE134:=zN HB hg;replace HB:=zS HB hb;have NB125_134:=zL K125 hg;have NB134_125:=zG K125 hg;replace K125:=zB K125 hb;have NB126_134:=zL K126 hg;have NB134_126:=zG K126 hg;replace K126:=zB K126 hb;have NB132_134:=zL K132 hg;have NB134_132:=zG K132 hg;replace K132:=zB K132 hb;clear hb hbox hg;have hnb85:=NB134_125.1;have hnc85:=NB125_134.1;have hnb86:=NB134_126.1;have hnc86:=NB126_134.1;have hnb87:=NB134_132.1;have hnc87:=NB132_134.1;have hcz88_0 : w84.cell? ⟨G134,0,none⟩ = some (.int .i64 0):=zk K134 0;have hcz88_1 : w84.cell? ⟨G134,1,none⟩ = some (.int .i64 0):=zk K134 1;have hcz88_2 : w84.cell? ⟨G134,2,none⟩ = some (.float .f64 0):=zk K134 2;have hcz88_3 : w84.cell? ⟨G134,3,none⟩ = some (.int .i64 0):=zk K134 3;have hcz88_4 : w84.cell? ⟨G134,4,none⟩ = some (.float .f64 0):=zk K134 4;have hcz88_5 : w84.cell? ⟨G134,5,none⟩ = some (.int .i64 0):=zk K134 5;have hfz88_0:=bF K134.1 0;have hfz88_1:=bF K134.1 1;have hfz88_2:=bF K134.1 2;have hfz88_3:=bF K134.1 3;have hfz88_4:=bF K134.1 4;have hfz88_5:=bF K134.1 5)|((with_reducible refine gate_store (t:=39) (p:=13) rfl ?_);refine store_event (t:=39) (p:=13) (v:=?vo_w89) (w1:=((((((w84.setCell ⟨G134,0,none⟩ (.int .i64 ((rd_T39 l1 x46_3).f0))).setCell ⟨G134,1,none⟩ (.int .i64 ((rd_T39 l1 x46_3).f1))).setCell ⟨G134,2,none⟩ (.float .f64 ((rd_T39 l1 x46_3).f2))).setCell ⟨G134,3,none⟩ (.int .i64 ((rd_T39 l1 x46_3).f3))).setCell ⟨G134,4,none⟩ (.float .f64 ((rd_T39 l1 x46_3).f4))).setCell ⟨G134,5,none⟩ (.int .i64 ((rd_T39 l1 x46_3).f5)))) ?hg ?ho ?hn ?hr ?_;(case ho => rfl);(case hg => rfl);(case hn => rfl);(case hr => first|(go_simp;done)|(go_simp;rfl));intro w89 hw;replace HO_133000 : Aside0 (Kd.R k39 39 w89 w.heap.size (fun k_ => k_ ≠ G134) u133000 x133000_3):=⟨(by rw [hw];exact (by (with_reducible repeat (first|apply Kd.R_alloc|apply Kd.R_drewN|apply Kd.R_drew));exact Kd.R_mono (Kd.R_far (p:=⟨G134,5,none⟩) (Kd.R_far (p:=⟨G134,4,none⟩) (Kd.R_far (p:=⟨G134,3,none⟩) (Kd.R_far (p:=⟨G134,2,none⟩) (Kd.R_far (p:=⟨G134,1,none⟩) (Kd.R_far (p:=⟨G134,0,none⟩) (Kd.R_mono HO_133000.out (fun k_ hk => (⟨hk,hk.2⟩ : _ ∧ k_ ≠ G134))) (fun _ hk => hk.2) (.int .i64 ((rd_T39 l1 x46_3).f0))) (fun _ hk => hk.2) (.int .i64 ((rd_T39 l1 x46_3).f1))) (fun _ hk => hk.2) (.float .f64 ((rd_T39 l1 x46_3).f2))) (fun _ hk => hk.2) (.int .i64 ((rd_T39 l1 x46_3).f3))) (fun _ hk => hk.2) (.float .f64 ((rd_T39 l1 x46_3).f4))) (fun _ hk => hk.2) (.int .i64 ((rd_T39 l1 x46_3).f5))) (fun _ hk => hk.1.2)))⟩;replace K125 : Aside0 (w89.heap[G125]? = some (.cells #[.slice A0_0 l0_0.length c0_0,.bool a0_1] 24 (0,0))):=⟨(by rw [hw];exact (zf K125))⟩;replace K126 : Aside0 (w89.heap[G126]? = some (.cells #[.slice none 0 0,.bool false] 24 (0,0))):=⟨(by rw [hw];exact (zf K126))⟩;replace K132 : Aside0 (w89.heap[G132]? = some (.cells #[u133000,.bool x133001_3] 24 (0,0))):=⟨(by rw [hw];exact (zf K132))⟩;replace K134 : Aside0 (w89.heap[G134]? = some (.cells #[.int .i64 ((rd_T39 l1 x46_3).f0),.int .i64 ((rd_T39 l1 x46_3).f1),.float .f64 ((rd_T39 l1 x46_3).f2),.int .i64 ((rd_T39 l1 x46_3).f3),.float .f64 ((rd_T39 l1 x46_3).f4),.int .i64 ((rd_T39 l1 x46_3).f5)] 39 (0,0))):=⟨(by rw [hw];exact (zF K134))⟩;replace HB : Aside0 (Below w.heap.size w w89):=⟨(by rw [hw];exact (zH HB))⟩;clear hw;have hcz90_0 : w89.cell? ⟨G134,0,none⟩ = some (.int .i64 ((rd_T39 l1 x46_3).f0)):=zk K134 0;have hcz90_1 : w89.cell? ⟨G134,1,none⟩ = some (.int .i64 ((rd_T39 l1 x46_3).f1)):=zk K134 1;have hcz90_2 : w89.cell? ⟨G134,2,none⟩ = some (.float .f64 ((rd_T39 l1 x46_3).f2)):=zk K134 2;have hcz90_3 : w89.cell? ⟨G134,3,none⟩ = some (.int .i64 ((rd_T39 l1 x46_3).f3)):=zk K134 3;have hcz90_4 : w89.cell? ⟨G134,4,none⟩ = some (.float .f64 ((rd_T39 l1 x46_3).f4)):=zk K134 4;have hcz90_5 : w89.cell? ⟨G134,5,none⟩ = some (.int .i64 ((rd_T39 l1 x46_3).f5)):=zk K134 5;have hfz90_0:=bF K134.1 0;have hfz90_1:=bF K134.1 1;have hfz90_2:=bF K134.1 2;have hfz90_3:=bF K134.1 3;have hfz90_4:=bF K134.1 4;have hfz90_5:=bF K134.1 5)|((with_reducible refine gate_calleeV (c:=.tmp 50) rfl ?_);refine goesLC_ (caps:=#[.pointer (some ⟨G125,0,none⟩)]) (some 52) rfl rfl Try.func46 (by kernel_rfl) rfl #[.agg #[.int .i64 ((rd_T39 l1 x46_3).f0),.int .i64 ((rd_T39 l1 x46_3).f1),.float .f64 ((rd_T39 l1 x46_3).f2),.int .i64 ((rd_T39 l1 x46_3).f3),.float .f64 ((rd_T39 l1 x46_3).f4),.int .i64 ((rd_T39 l1 x46_3).f5)],.pointer (some ⟨G125,0,none⟩)] rfl (by (try simp only [List.map_toArray,List.map_cons,List.map_nil]);first|done|rfl|(simp only [List.length_drop,List.length_take];rfl)) ?_;(with_reducible refine (table_Keep_1.calls k3 ((rd_T39 l1 x46_3).f0) ((rd_T39 l1 x46_3).f1) ((rd_T39 l1 x46_3).f2) ((rd_T39 l1 x46_3).f3) ((rd_T39 l1 x46_3).f4) ((rd_T39 l1 x46_3).f5) G125 A0_0 c0_0 l0_0 a0_1 false _ ?side1 ?side2 ?side3 A53.out).mono ?_);(case side1 => exact zC (Kd.C_below HR0_0.out HB.1));(case side2 => exact HC0_0.out);(case side3 => (with_reducible repeat first|apply bN|apply bD|apply bA);exact K125.1);rintro e w91 ⟨rfl,hb⟩;refine ⟨_,rfl,?_⟩;replace HO_133000:=Aside0.mk (Kd.R_below (zR HO_133000) hb);replace K125:=zB K125 hb;replace K126:=zB K126 hb;replace K132:=zB K132 hb;replace K134:=zB K134 hb;replace HB:=zS HB hb;(try clear hb);have hnb92:=NB132_125.1;have hnc92:=NB125_132.1;have hnb93:=NB132_126.1;have hnc93:=NB126_132.1;have hcz94_0 : w91.cell? ⟨G132,0,none⟩ = some (u133000):=zk K132 0;have hcz94_1 : w91.cell? ⟨G132,1,none⟩ = some (.bool x133001_3):=zk K132 1;have hfz94_0:=bF K132.1 0;have hfz94_1:=bF K132.1 1;have hcz95_0 : w91.cell? ⟨G134,0,none⟩ = some (.int .i64 ((rd_T39 l1 x46_3).f0)):=zk K134 0;have hcz95_1 : w91.cell? ⟨G134,1,none⟩ = some (.int .i64 ((rd_T39 l1 x46_3).f1)):=zk K134 1;have hcz95_2 : w91.cell? ⟨G134,2,none⟩ = some (.float .f64 ((rd_T39 l1 x46_3).f2)):=zk K134 2;have hcz95_3 : w91.cell? ⟨G134,3,none⟩ = some (.int .i64 ((rd_T39 l1 x46_3).f3)):=zk K134 3;have hcz95_4 : w91.cell? ⟨G134,4,none⟩ = some (.float .f64 ((rd_T39 l1 x46_3).f4)):=zk K134 4;have hcz95_5 : w91.cell? ⟨G134,5,none⟩ = some (.int .i64 ((rd_T39 l1 x46_3).f5)):=zk K134 5;have hfz95_0:=bF K134.1 0;have hfz95_1:=bF K134.1 1;have hfz95_2:=bF K134.1 2;have hfz95_3:=bF K134.1 3;have hfz95_4:=bF K134.1 4;have hfz95_5:=bF K134.1 5)|((with_reducible refine gate_builtin (b:=.append) (xs:=#[.tmp 60,.tmp 62]) rfl ?_);at_builtin;refine Kd.R_append k39 (w0:=w) w.heap.size rfl (.tmp 60) (.tmp 62) 22 39 (.agg #[(.int .i64 0),(.int .i64 0),(.float .f64 0),(.int .i64 0),(.float .f64 0),(.int .i64 0)]) 48 rfl Try.underlying22 info39 rfl (by decide) (by omega) u133000 x133000_3 (⟨(rd_T39 l1 x46_3).f0,(rd_T39 l1 x46_3).f1,(rd_T39 l1 x46_3).f2,(rd_T39 l1 x46_3).f3,(rd_T39 l1 x46_3).f4,(rd_T39 l1 x46_3).f5⟩ : S39) [.int .i64 ((rd_T39 l1 x46_3).f0),.int .i64 ((rd_T39 l1 x46_3).f1),.float .f64 ((rd_T39 l1 x46_3).f2),.int .i64 ((rd_T39 l1 x46_3).f3),.float .f64 ((rd_T39 l1 x46_3).f4),.int .i64 ((rd_T39 l1 x46_3).f5)] (fun k_ => k_ ≠ G134) (fun _ => False) rfl rfl ?aP (fun _ hk => hk.elim) ?aF ?aO ?aB ?aS ?aL ?_;(case aP => exact k39_mkM _ _ _ (⟨(rd_T39 l1 x46_3).f0,(rd_T39 l1 x46_3).f1,(rd_T39 l1 x46_3).f2,(rd_T39 l1 x46_3).f3,(rd_T39 l1 x46_3).f4,(rd_T39 l1 x46_3).f5⟩ : S39));(case aB => exact (zH HB));(case aF => exact (fun k_ hk => Kd.freshB (g:=G134) (z1 K134.1) k_ hk));(case aO => exact (zR HO_133000));(case aS => exact (zW HB));(case aL => have:=LMc83.out;omega);intro v140 w96 ho hb hg hat;rw [← Ny139.out] at ho;replace K125:=Aside0.mk (blk_grown (g:=G125) (z1 K125.1) hg (Kd.R_ne HO_133000.out K125.1 (by decide)));replace K126:=Aside0.mk (blk_grown (g:=G126) (z1 K126.1) hg (Kd.R_ne HO_133000.out K126.1 (by decide)));replace K132:=Aside0.mk (blk_grown (g:=G132) (z1 K132.1) hg (Kd.R_ne HO_133000.out K132.1 (by decide)));replace K134:=Aside0.mk (blk_grown (g:=G134) (z1 K134.1) hg (Kd.R_away HO_133000.out (fun _ hk => hk)));replace HB:=Aside0.mk (hb);have HO141:=Aside0.mk (ho);clear HO_133000;clear ho hb hg hat;obtain ⟨Ao97,co97,eo97⟩:=Kd.R_slice HO141.out;subst eo97;have hcz98_0 : w96.cell? ⟨G132,0,none⟩ = some (u133000):=zk K132 0;have hcz98_1 : w96.cell? ⟨G132,1,none⟩ = some (.bool x133001_3):=zk K132 1;have hfz98_0:=bF K132.1 0;have hfz98_1:=bF K132.1 1))
               go_roundg k3
               case measure => have:=HJ3.out;have:=HK2.out;have:=HK3.out;omega
               case rel => exact ⟨(wrap64 (x2_3 - 1)),(wrap64 (x46_3 + 1)),(y139),(x133001_3),(.slice Ao97 y139.length co97),ze,ze,H',⟨by have:=HJ3.out;have:=HK2.out;have:=HK3.out;omega⟩,⟨by (with_reducible repeat (first|apply Kd.R_alloc|apply Kd.R_drewN|apply Kd.R_drew));exact Kd.R_mono (Kd.R_far (p:=⟨G132,0,none⟩) (Kd.R_types HO141.out K132.1 (by decide)) (fun _ hk => hk.2) (.slice Ao97 y139.length co97)) (fun _ hk => trivial)⟩,⟨zf K125⟩,⟨zf K126⟩,⟨zF K132⟩,⟨zH HB⟩⟩
              ·rw [if_neg c83] at H
               exact absurd H (by simp)
           ·rw [if_neg c52] at H
            exact absurd H (by simp)
          ·rw [if_neg c51] at H
           exact absurd H (by simp)
         ·rw [if_neg c50] at H
          have c50b0 : decide (x46_3 < (l1.length : Int)) = false:=decide_eq_false c50
          clear c50
          simp only [Option.some.injEq,Prod.mk.injEq] at H
          obtain ⟨rfl,rfl,rfl⟩:=H
          have hnb99:=NB132_125.1
          have hnc99:=NB125_132.1
          have hnb100:=NB132_126.1
          have hnc100:=NB126_132.1
          have hcz101_0 : wr.cell? ⟨G132,0,none⟩ = some (u133000):=zk K132 0
          have hcz101_1 : wr.cell? ⟨G132,1,none⟩ = some (.bool x133001_3):=zk K132 1
          have hfz101_0:=bF K132.1 0
          have hfz101_1:=bF K132.1 1
          obtain ⟨Ao102,co102,eo102⟩:=Kd.R_slice HO_133000.out
          subst eo102
          have hnb103:=NB126_125.1
          have hnc103:=NB125_126.1
          have hcz104_0 : wr.cell? ⟨G126,0,none⟩ = some (.slice none 0 0):=zk K126 0
          have hcz104_1 : wr.cell? ⟨G126,1,none⟩ = some (.bool false):=zk K126 1
          have hfz104_0:=bF K126.1 0
          have hfz104_1:=bF K126.1 1
          go_wp2
          refine bodyPost_ret (results_ct rfl _ _ G126 24 #[.slice Ao102 x133000_3.length co102,.bool x133001_3] (0,0) _ rfl (zF K126) Try.underlying24 rfl (by kernel_rfl)) rfl ?_
          exact ⟨_,by first|rfl|(simp [errW_none,errW_some] <;> rfl)|(simp [*,errW_none,errW_some] <;> rfl),by (with_reducible repeat (first|apply Kd.R_alloc|apply Kd.R_drewN|apply Kd.R_drew));exact Kd.R_mono (Kd.R_far (p:=⟨G126,1,none⟩) (Kd.R_far (p:=⟨G126,0,none⟩) (Kd.R_types HO_133000.out K126.1 (by decide)) (fun _ hk => hk.2) (.slice Ao102 x133000_3.length co102)) (fun _ hk => hk.2) (.bool x133001_3)) (fun _ hk => trivial),zH HB⟩

/-! ### beaconlaw17_mark: function 44 -/
def beaconlaw17_mark.f (a0 : Int) : Option (Int × Int × Nat × Int × Nat × Int) := some (a0, 1, 4607182418800017408, a0, 0, 0)
set_option maxHeartbeats 8000000 in
set_option maxRecDepth 100000 in
theorem beaconlaw17_mark.calls (a0 : Int) (r1 : Int) (r2 : Int) (r3 : Nat) (r4 : Int) (r5 : Nat) (r6 : Int) (w : World) (h : beaconlaw17_mark.f a0 = some (r1, r2, r3, r4, r5, r6)) :
  Calls Try.prog 44 #[.int .i64 a0] w fun e w' => e = .returned (.agg #[.int .i64 r1,.int .i64 r2,.float .f64 r3,.int .i64 r4,.float .f64 r5,.int .i64 r6]) ∧ Below w.heap.size w w':=by
 have hu39:=Try.underlying39
 have HB:=Aside0.mk (Below.refl w.heap.size w)
 have H : (some (a0,1,4607182418800017408,a0,0,0)) = some (r1,r2,r3,r4,r5,r6):=h
 clear h
 simp only [Option.some.injEq,Prod.mk.injEq] at H
 obtain ⟨rfl,rfl,rfl,rfl,rfl,rfl⟩:=H
 go_enter Try.func44,Try.ntmps44
 go_wp2_with (first|((with_reducible refine gate_dst (N:=2) rfl ?_);refine zb (N:=2) (cs:=#[.int .i64 0,.int .i64 0,.float .f64 0,.int .i64 0,.float .f64 0,.int .i64 0]) (t:=39) ?_;intro G142 hg w2 hbox hb;have K142:=Aside0.mk (hbox);have GW142:=zN HB hg;have GE142:=zN HB hg;replace HB:=zS HB hb;clear hb hbox hg;have hcz3_0 : w2.cell? ⟨G142,0,none⟩ = some (.int .i64 0):=zk K142 0;have hcz3_1 : w2.cell? ⟨G142,1,none⟩ = some (.int .i64 0):=zk K142 1;have hcz3_2 : w2.cell? ⟨G142,2,none⟩ = some (.float .f64 0):=zk K142 2;have hcz3_3 : w2.cell? ⟨G142,3,none⟩ = some (.int .i64 0):=zk K142 3;have hcz3_4 : w2.cell? ⟨G142,4,none⟩ = some (.float .f64 0):=zk K142 4;have hcz3_5 : w2.cell? ⟨G142,5,none⟩ = some (.int .i64 0):=zk K142 5;have hfz3_0:=bF K142.1 0;have hfz3_1:=bF K142.1 1;have hfz3_2:=bF K142.1 2;have hfz3_3:=bF K142.1 3;have hfz3_4:=bF K142.1 4;have hfz3_5:=bF K142.1 5)|((with_reducible refine gate_store (t:=39) (p:=2) rfl ?_);refine store_event (t:=39) (p:=2) (v:=?vo_w4) (w1:=((((((w2.setCell ⟨G142,0,none⟩ (.int .i64 a0)).setCell ⟨G142,1,none⟩ (.int .i64 1)).setCell ⟨G142,2,none⟩ (.float .f64 4607182418800017408)).setCell ⟨G142,3,none⟩ (.int .i64 a0)).setCell ⟨G142,4,none⟩ (.float .f64 0)).setCell ⟨G142,5,none⟩ (.int .i64 0))) ?hg ?ho ?hn ?hr ?_;(case ho => rfl);(case hg => rfl);(case hn => rfl);(case hr => first|(go_simp;done)|(go_simp;rfl));intro w4 hw;replace K142 : Aside0 (w4.heap[G142]? = some (.cells #[.int .i64 a0,.int .i64 1,.float .f64 4607182418800017408,.int .i64 a0,.float .f64 0,.int .i64 0] 39 (0,0))):=⟨(by rw [hw];exact (zF K142))⟩;replace HB : Aside0 (Below w.heap.size w w4):=⟨(by rw [hw];exact (zH HB))⟩;clear hw))
 refine bodyPost_ret (results_cell_row rfl _ _ G142 39 #[.int .i64 a0,.int .i64 1,.float .f64 4607182418800017408,.int .i64 a0,.float .f64 0,.int .i64 0] (0,0) _ rfl (z1 K142.1) Try.underlying39 rfl (by kernel_rfl)) rfl ?_
 exact ⟨by first|rfl|(simp [errW_none,errW_some] <;> rfl)|(simp [*,errW_none,errW_some] <;> rfl),zH HB⟩

end Go.Proofs.Ytgmjlhpigfaicaa.XA
