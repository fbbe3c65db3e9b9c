/- Go functions of this seat as Lean functions, with proofs that the calls come to them. (Written by xprint.py, a program of this session, over the kit's print.) -/
import Derived.Test.YtgmjlhpigfaicaaXAx0
import Derived.Test.YtgmjlhpigfaicaaXAx2
namespace Go.Proofs.Ytgmjlhpigfaicaa.XA
open Go.RowKit Go.Proofs.YtgmjlhpigfaicaaW.PrintWords Go.Proofs.YtgmjlhpigfaicaaW.PrintLast Go.Proofs.YtgmjlhpigfaicaaW.PrintMore
attribute [local go_sem] max2_int min2_int max_two min_two max_three min_three max_four min_four   -- for this text's walks alone
set_option linter.unusedVariables false
set_option linter.unusedSimpArgs false
open List renaming setIfInBounds_toArray → xA, set_cons_zero → xB, set_cons_succ → xC
open Go.Proofs.YtgmjlhpigfaicaaW.PrintWords renaming blk_drewN → bN, blk_drew → bD, blk_alloc → bA, below_set → bS, blk_frozen → bF, blk_cell → bC, cell_far → cF, blk_far → bZ, blk_below → bB, pw_below_drewN → bwN, below_drew1 → bw1, below_alloc → bwA
open Go.Proofs.YtgmjlhpigfaicaaW.PrintZ
open Bool renaming true → T,false → F

/-! ### api_Entry_47: function 47 -/
def api_Entry_47.l0 : Nat → List (S39) → Int → Int → Int → Int → Int → Nat → Int → Nat → Int → Option (Int × Bool)
 | 0, _, _, _, _, _, _, _, _, _, _ => none
 | k + 1, x0, x8, x9, x10, x118000, x118001, x118002, x118003, x118004, x118005 => if x9 < x10 then (if 0 ≤ (wrap64 ((IntKind.u64.wrap (wrap64 (x9 + x10))) / 2)) then (if (wrap64 ((IntKind.u64.wrap (wrap64 (x9 + x10))) / 2)) < (x0.length : Int) then ((table_order.f k ((rd_T39 x0 (wrap64 ((IntKind.u64.wrap (wrap64 (x9 + x10))) / 2))).f0) ((rd_T39 x0 (wrap64 ((IntKind.u64.wrap (wrap64 (x9 + x10))) / 2))).f1) ((rd_T39 x0 (wrap64 ((IntKind.u64.wrap (wrap64 (x9 + x10))) / 2))).f2) ((rd_T39 x0 (wrap64 ((IntKind.u64.wrap (wrap64 (x9 + x10))) / 2))).f3) ((rd_T39 x0 (wrap64 ((IntKind.u64.wrap (wrap64 (x9 + x10))) / 2))).f4) ((rd_T39 x0 (wrap64 ((IntKind.u64.wrap (wrap64 (x9 + x10))) / 2))).f5) x118000 x118001 x118002 x118003 x118004 x118005).bind fun t119 => (if t119 < 0 then (api_Entry_47.l0 k x0 x8 (wrap64 ((wrap64 ((IntKind.u64.wrap (wrap64 (x9 + x10))) / 2)) + 1)) x10 x118000 x118001 x118002 x118003 x118004 x118005) else (api_Entry_47.l0 k x0 x8 x9 (wrap64 ((IntKind.u64.wrap (wrap64 (x9 + x10))) / 2)) x118000 x118001 x118002 x118003 x118004 x118005))) else (none)) else (none)) else (if x9 < x8 then (if 0 ≤ x9 then (if x9 < (x0.length : Int) then ((table_order.f k ((rd_T39 x0 x9).f0) ((rd_T39 x0 x9).f1) ((rd_T39 x0 x9).f2) ((rd_T39 x0 x9).f3) ((rd_T39 x0 x9).f4) ((rd_T39 x0 x9).f5) x118000 x118001 x118002 x118003 x118004 x118005).bind fun t121 => (some (x9, (t121 == 0)))) else (none)) else (none)) else (some (x9, false)))
def api_Entry_47.f (k : Nat) (l0 : List (S39)) (a1_0 : Int) (a1_1 : Int) (a1_2 : Nat) (a1_3 : Int) (a1_4 : Nat) (a1_5 : Int)  : Option (Int × Bool) := api_Entry_47.l0 k l0 (l0.length : Int) 0 (l0.length : Int) a1_0 a1_1 a1_2 a1_3 a1_4 a1_5
theorem api_Entry_47.mono_l : ∀ k, (∀ y0 y1 y2 y3 y4 y5 y6 y7 y8 y9, LeO (api_Entry_47.l0 k y0 y1 y2 y3 y4 y5 y6 y7 y8 y9) (api_Entry_47.l0 (k + 1) y0 y1 y2 y3 y4 y5 y6 y7 y8 y9))
 | 0 => fun _ _ _ _ _ _ _ _ _ _ r h => by simp [api_Entry_47.l0] at h
 | k + 1 => by
  have ih0:=api_Entry_47.mono_l k
  ·intro y0 y1 y2 y3 y4 y5 y6 y7 y8 y9
   unfold api_Entry_47.l0
   repeat' first
   | (with_reducible exact ih0 _ _ _ _ _ _ _ _ _ _)
   | (with_reducible exact table_order.mono _ _ _ _ _ _ _ _ _ _ _ _ _)
   | (with_reducible exact LeO.refl _)
   | (with_reducible exact LeO.none _)
   | (with_reducible refine LeO.ite ?_ ?_)
   | (with_reducible refine LeO.bind ?_ (fun _ => ?_))
   | exact ih0 _ _ _ _ _ _ _ _ _ _
   | exact table_order.mono _ _ _ _ _ _ _ _ _ _ _ _ _
   | exact LeO.none _
   | refine LeO.ite ?_ ?_
   | refine LeO.bind ?_ (fun _ => ?_)
theorem api_Entry_47.mono : ∀ a0 a1 a2 a3 a4 a5 a6 k, LeO (api_Entry_47.f k a0 a1 a2 a3 a4 a5 a6) (api_Entry_47.f (k + 1) a0 a1 a2 a3 a4 a5 a6) := by
 intro a0 a1 a2 a3 a4 a5 a6 k
 have ih0:=api_Entry_47.mono_l k
 unfold api_Entry_47.f
 repeat' first
   | (with_reducible exact ih0 _ _ _ _ _ _ _ _ _ _)
   | (with_reducible exact table_order.mono _ _ _ _ _ _ _ _ _ _ _ _ _)
   | (with_reducible exact LeO.refl _)
   | (with_reducible exact LeO.none _)
   | (with_reducible refine LeO.ite ?_ ?_)
   | (with_reducible refine LeO.bind ?_ (fun _ => ?_))
   | exact ih0 _ _ _ _ _ _ _ _ _ _
   | exact table_order.mono _ _ _ _ _ _ _ _ _ _ _ _ _
   | exact LeO.none _
   | refine LeO.ite ?_ ?_
   | refine LeO.bind ?_ (fun _ => ?_)
def api_Entry_47.T5 : Bool × List (List Nat × List Nat) := (true, [([], []), ([], []), ([], []), ([1, 2], [1, 2]), ([3], [3]), ([], []), ([0, 4, 5], [0, 4, 5]), ([6], [6])])
def api_Entry_47.B5 : List Nat := [0, 0, 0, 6, 14, 0, 63, 127]
theorem api_Entry_47.tab5 : rtab .any (opsOf Try.f47 5) = api_Entry_47.T5 := by kernel_rfl
theorem api_Entry_47.bits5 : waitsOk api_Entry_47.T5.2 api_Entry_47.B5 = true := by kernel_rfl
def api_Entry_47.T8 : Bool × List (List Nat × List Nat) := (true, [([], []), ([], []), ([], []), ([1, 2], [1, 2]), ([3], [3]), ([4], [4]), ([4], [4]), ([4], [4]), ([6, 7, 4], [4, 6, 7]), ([8, 4], [4, 8]), ([4], [4]), ([5, 9, 10, 4, 4], [4, 5, 9, 10]), ([11, 4], [4, 11]), ([4, 12], [4, 12]), ([0, 11, 0], [0]), ([13, 14, 0, 1, 2, 3, 4, 5, 6, 7, 8, 9, 10, 11, 12, 13, 14], [13])])
def api_Entry_47.B8 : List Nat := [0, 0, 0, 6, 14, 30, 30, 30, 222, 478, 30, 2046, 4094, 8190, 4095, 32767]
theorem api_Entry_47.tab8 : rtab .any (opsOf Try.f47 8) = api_Entry_47.T8 := by kernel_rfl
theorem api_Entry_47.bits8 : waitsOk api_Entry_47.T8.2 api_Entry_47.B8 = true := by kernel_rfl
set_option maxHeartbeats 8000000 in
set_option maxRecDepth 100000 in
theorem api_Entry_47.calls (k : Nat) (A0 : Option Addr) (c0 : Nat) (l0 : List (S39)) (a1_0 : Int) (a1_1 : Int) (a1_2 : Nat) (a1_3 : Int) (a1_4 : Nat) (a1_5 : Int)  (r1 : Int) (r2 : Bool) (w : World) (hr0 : Kd.C k39 w A0 l0.length l0) (hc0 : l0.length ≤ c0) (h : api_Entry_47.f k l0 a1_0 a1_1 a1_2 a1_3 a1_4 a1_5 = some (r1, r2)) :
  Calls Try.prog 47 #[.slice A0 l0.length c0,.agg #[.int .i64 a1_0,.int .i64 a1_1,.float .f64 a1_2,.int .i64 a1_3,.float .f64 a1_4,.int .i64 a1_5],.func (.func 48) #[] #[]] w fun e w' => e = .returned (.tuple #[.int .i64 r1,.bool r2]) ∧ Below w.heap.size w w':=by
 have hu39:=Try.underlying39
 have HR0:=Aside0.mk hr0
 have HC0:=Aside0.mk hc0
 clear hr0 hc0
 have HB:=Aside0.mk (Below.refl w.heap.size w)
 have H : (api_Entry_47.l0 k l0 (l0.length : Int) 0 (l0.length : Int) a1_0 a1_1 a1_2 a1_3 a1_4 a1_5) = some (r1,r2):=h
 clear h
 have H':=Aside0.mk H
 clear H
 go_enter Try.func47,Try.ntmps47
 go_wp2_with (first|((with_reducible refine gate_dst (N:=4) rfl ?_);refine zb (N:=4) (cs:=#[.int .i64 a1_0,.int .i64 a1_1,.float .f64 a1_2,.int .i64 a1_3,.float .f64 a1_4,.int .i64 a1_5]) (t:=39) ?_;intro G117 hg w4 hbox hb;have K117:=Aside0.mk (hbox);have GW117:=zN HB hg;have GE117:=zN HB hg;replace HB:=zS HB hb;clear hb hbox hg))
 go_loopg [9,10] k (fun kq v9 v10 w' => ∃ (x9_1 : Int) (x10_1 : Int),v9 = .int .i64 x9_1 ∧ v10 = .int .i64 x10_1 ∧ Aside0 (api_Entry_47.l0 kq l0 (l0.length : Int) x9_1 x10_1 a1_0 a1_1 a1_2 a1_3 a1_4 a1_5 = some (r1,r2)) ∧ Aside0 (kq ≤ k) ∧ Aside0 (w'.heap[G117]? = some (.cells #[.int .i64 a1_0,.int .i64 a1_1,.float .f64 a1_2,.int .i64 a1_3,.float .f64 a1_4,.int .i64 a1_5] 39 (0,0))) ∧ Aside0 (Below w.heap.size w w'))
 case atStart => exact ⟨(0),((l0.length : Int)),ze,ze,H',⟨Nat.le_refl _⟩,⟨z1 K117.1⟩,⟨zH HB⟩⟩
 case round =>
  clear H'
  try clear p2;try clear c4
  obtain ⟨x9_1,x10_1,rfl,rfl,HA,HK1,K117,HB⟩:=hrel
  cases gk with
  | zero => exact absurd HA.out (by simp [api_Entry_47.l0])
  | succ k1 =>
   have H:=HA.out
   clear HA
   simp only [api_Entry_47.l0] at H
   by_cases c5 : x9_1 < x10_1
   ·rw [if_pos c5] at H
    have c5b0 : decide (x9_1 < x10_1) = true:=decide_eq_true c5
    clear c5
    obtain ⟨ji6,hji6⟩ : ∃ j_ : Int,(wrap64 ((IntKind.u64.wrap (wrap64 (x9_1 + x10_1))) / 2)) = j_:=⟨_,rfl⟩
    replace H : (if 0 ≤ (ji6) then (if (ji6) < (l0.length : Int) then ((table_order.f k1 ((rd_T39 l0 (ji6)).f0) ((rd_T39 l0 (ji6)).f1) ((rd_T39 l0 (ji6)).f2) ((rd_T39 l0 (ji6)).f3) ((rd_T39 l0 (ji6)).f4) ((rd_T39 l0 (ji6)).f5) a1_0 a1_1 a1_2 a1_3 a1_4 a1_5).bind fun t119 => (if t119 < 0 then (api_Entry_47.l0 k1 l0 (l0.length : Int) (wrap64 ((ji6) + 1)) x10_1 a1_0 a1_1 a1_2 a1_3 a1_4 a1_5) else (api_Entry_47.l0 k1 l0 (l0.length : Int) x9_1 ji6 a1_0 a1_1 a1_2 a1_3 a1_4 a1_5))) else (none)) else (none)) = some (r1,r2):=by first|(rw [hji6] at H;exact H)|(simp only [hji6] at H ⊢;exact H)
    have hji6w : (IntKind.i64.wrap ((IntKind.u64.wrap (wrap64 (x9_1 + x10_1))) / 2)) = ji6:=(i64_w _).trans hji6
    by_cases c7 : 0 ≤ (ji6)
    ·rw [if_pos c7] at H
     have c7b0 : decide (0 ≤ (ji6)) = true:=decide_eq_true c7
     clear c7
     by_cases c8 : (ji6) < (l0.length : Int)
     ·rw [if_pos c8] at H
      have c8b0 : decide ((ji6) < (l0.length : Int)) = true:=decide_eq_true c8
      clear c8
      replace H:=Option.bind_eq_some_iff.mp H
      obtain ⟨t119,A90,H⟩:=H
      replace H : (if t119 < 0 then (api_Entry_47.l0 k1 l0 (l0.length : Int) (wrap64 ((ji6) + 1)) x10_1 a1_0 a1_1 a1_2 a1_3 a1_4 a1_5) else (api_Entry_47.l0 k1 l0 (l0.length : Int) x9_1 ji6 a1_0 a1_1 a1_2 a1_3 a1_4 a1_5)) = some (r1,r2):=H
      have A9:=Aside0.mk A90
      clear A90
      by_cases c10 : t119 < 0
      ·rw [if_pos c10] at H
       have c10b0 : decide (t119 < 0) = true:=decide_eq_true c10
       clear c10
       have H':=Aside0.mk H
       clear H
       try go_wp2
       replace K117:=Aside0.mk (bD K117.1)
       replace HB:=Aside0.mk (bw1 HB.1)
       have p118 : 0 ≤ ((ji6) : Int):=zd
       have q118 : (ji6) < (l0.length : Int):=zd
       obtain ⟨ad118,e118,hx118_0,hx118_1,hx118_2,hx118_3,hx118_4,hx118_5⟩:=at_T39 HR0.out (ji6) p118 q118
       have hw118_5:=hx118_5
       have hw118_4:=hx118_4
       have hw118_3:=hx118_3
       have hw118_2:=hx118_2
       have hw118_1:=hx118_1
       have hw118_0:=hx118_0
       cases e118
       replace hx118_0:=zh HB hx118_0
       replace hx118_1:=zh HB hx118_1
       replace hx118_2:=zh HB hx118_2
       replace hx118_3:=zh HB hx118_3
       replace hx118_4:=zh HB hx118_4
       replace hx118_5:=zh HB hx118_5
       replace p118:=eq_true p118
       replace q118:=eq_true q118
       refine start_ (n:=8) (S:=fun w' => w'.cell? ⟨G117,0,none⟩ = some (.int .i64 a1_0) ∧ w'.cell? ⟨G117,1,none⟩ = some (.int .i64 a1_1) ∧ w'.cell? ⟨G117,2,none⟩ = some (.float .f64 a1_2) ∧ w'.cell? ⟨G117,3,none⟩ = some (.int .i64 a1_3) ∧ w'.cell? ⟨G117,4,none⟩ = some (.float .f64 a1_4) ∧ w'.cell? ⟨G117,5,none⟩ = some (.int .i64 a1_5) ∧ w'.cell? (ad118.add (((ji6)).toNat * 6)) = some (.int .i64 ((rd_T39 l0 (ji6)).f0)) ∧ w'.cell? ⟨(ad118.add (((ji6)).toNat * 6)).block,(ad118.add (((ji6)).toNat * 6)).off + 1,none⟩ = some (.int .i64 ((rd_T39 l0 (ji6)).f1)) ∧ w'.cell? ⟨(ad118.add (((ji6)).toNat * 6)).block,(ad118.add (((ji6)).toNat * 6)).off + 2,none⟩ = some (.float .f64 ((rd_T39 l0 (ji6)).f2)) ∧ w'.cell? ⟨(ad118.add (((ji6)).toNat * 6)).block,(ad118.add (((ji6)).toNat * 6)).off + 3,none⟩ = some (.int .i64 ((rd_T39 l0 (ji6)).f3)) ∧ w'.cell? ⟨(ad118.add (((ji6)).toNat * 6)).block,(ad118.add (((ji6)).toNat * 6)).off + 4,none⟩ = some (.float .f64 ((rd_T39 l0 (ji6)).f4)) ∧ w'.cell? ⟨(ad118.add (((ji6)).toNat * 6)).block,(ad118.add (((ji6)).toNat * 6)).off + 5,none⟩ = some (.int .i64 ((rd_T39 l0 (ji6)).f5))) (ds:=[]) #[F,F,F,F,F,F,F,F] (by kernel_rfl) rfl rfl ⟨zk K117 0,zk K117 1,zk K117 2,zk K117 3,zk K117 4,zk K117 5,(zh HB hw118_0),(zh HB hw118_1),(zh HB hw118_2),(zh HB hw118_3),(zh HB hw118_4),(zh HB hw118_5)⟩ (fun hHeld => ?_);refine with_tabW api_Entry_47.tab5 api_Entry_47.bits5 (fun HT_ HW_ => ?_)
       generalize wr.drew = w11 at K117 HB hx118_0 hx118_1 hx118_2 hx118_3 hx118_4 hx118_5 hHeld ⊢
       refine pz 0 24 #[T,F,F,F,F,F,F,F] HT_.1 ?_
       refine pz 1 25 #[T,T,F,F,F,F,F,F] HT_.1 ?_
       refine pz 2 26 #[T,T,T,F,F,F,F,F] HT_.1 ?_
       refine pz 3 27 #[T,T,T,T,F,F,F,F] HT_.1 ?_
       refine tz 4 28 #[T,T,T,T,T,F,F,F] HT_.1 HW_.1 hHeld ?_
       refine tz 5 29 #[T,T,T,T,T,T,F,F] HT_.1 HW_.1 hHeld ?_
       refine one_ (i:=6) (N:=some 30) #[T,T,T,T,T,T,T,F] rfl rfl (one_of HT_.out (by kernel_rfl)) (by decide) (fun K hK => ?_)
       refine goesV_ Try.func48 (by kernel_rfl) rfl #[.agg #[.int .i64 ((rd_T39 l0 (ji6)).f0),.int .i64 ((rd_T39 l0 (ji6)).f1),.float .f64 ((rd_T39 l0 (ji6)).f2),.int .i64 ((rd_T39 l0 (ji6)).f3),.float .f64 ((rd_T39 l0 (ji6)).f4),.int .i64 ((rd_T39 l0 (ji6)).f5)],.agg #[.int .i64 a1_0,.int .i64 a1_1,.float .f64 a1_2,.int .i64 a1_3,.float .f64 a1_4,.int .i64 a1_5]] (by rfl) rfl rfl (by (try simp only [List.map_toArray,List.map_cons,List.map_nil]);first|done|(simp only [hji6];rfl)|rfl|(simp only [List.length_drop,List.length_take];rfl)) ?_
       with_reducible refine (table_order.calls k1 ((rd_T39 l0 (ji6)).f0) ((rd_T39 l0 (ji6)).f1) ((rd_T39 l0 (ji6)).f2) ((rd_T39 l0 (ji6)).f3) ((rd_T39 l0 (ji6)).f4) ((rd_T39 l0 (ji6)).f5) a1_0 a1_1 a1_2 a1_3 a1_4 a1_5 t119 _ A9.out).mono ?_
       rintro e w12 ⟨rfl,hb⟩
       refine ⟨_,rfl,?_⟩
       replace K117:=zB K117 hb
       replace HB:=zS HB hb
       (try clear hb)
       (try clear hb2)
       (try clear hk)
       (try clear hi)
       refine hK.out _ _ ⟨zk K117 0,zk K117 1,zk K117 2,zk K117 3,zk K117 4,zk K117 5,(zh HB hw118_0),(zh HB hw118_1),(zh HB hw118_2),(zh HB hw118_3),(zh HB hw118_4),(zh HB hw118_5)⟩ (fun hHeld => ?_)
       clear hK K
       refine nz 30 ?_
       refine pz 7 31 #[T,T,T,T,T,T,T,T] HT_.1 ?_
       refine done_ (done_of HT_.out (by kernel_rfl)) ?_
       try go_wp2
       go_roundg k1
       case measure => have:=HK1.out;omega
       case rel => exact ⟨(wrap64 ((ji6) + 1)),(x10_1),(by first|rfl|(simp;done)|(simp only [← hji6] <;> (first|rfl|simp))|(simp [*];done)),ze,H',⟨by have:=HK1.out;omega⟩,⟨z1 K117.1⟩,⟨zH HB⟩⟩
      ·rw [if_neg c10] at H
       have c10b0 : decide (t119 < 0) = false:=decide_eq_false c10
       clear c10
       have H':=Aside0.mk H
       clear H
       try go_wp2
       replace K117:=Aside0.mk (bD K117.1)
       replace HB:=Aside0.mk (bw1 HB.1)
       have p118 : 0 ≤ ((ji6) : Int):=zd
       have q118 : (ji6) < (l0.length : Int):=zd
       obtain ⟨ad118,e118,hx118_0,hx118_1,hx118_2,hx118_3,hx118_4,hx118_5⟩:=at_T39 HR0.out (ji6) p118 q118
       have hw118_5:=hx118_5
       have hw118_4:=hx118_4
       have hw118_3:=hx118_3
       have hw118_2:=hx118_2
       have hw118_1:=hx118_1
       have hw118_0:=hx118_0
       cases e118
       replace hx118_0:=zh HB hx118_0
       replace hx118_1:=zh HB hx118_1
       replace hx118_2:=zh HB hx118_2
       replace hx118_3:=zh HB hx118_3
       replace hx118_4:=zh HB hx118_4
       replace hx118_5:=zh HB hx118_5
       replace p118:=eq_true p118
       replace q118:=eq_true q118
       refine start_ (n:=8) (S:=fun w' => w'.cell? ⟨G117,0,none⟩ = some (.int .i64 a1_0) ∧ w'.cell? ⟨G117,1,none⟩ = some (.int .i64 a1_1) ∧ w'.cell? ⟨G117,2,none⟩ = some (.float .f64 a1_2) ∧ w'.cell? ⟨G117,3,none⟩ = some (.int .i64 a1_3) ∧ w'.cell? ⟨G117,4,none⟩ = some (.float .f64 a1_4) ∧ w'.cell? ⟨G117,5,none⟩ = some (.int .i64 a1_5) ∧ w'.cell? (ad118.add (((ji6)).toNat * 6)) = some (.int .i64 ((rd_T39 l0 (ji6)).f0)) ∧ w'.cell? ⟨(ad118.add (((ji6)).toNat * 6)).block,(ad118.add (((ji6)).toNat * 6)).off + 1,none⟩ = some (.int .i64 ((rd_T39 l0 (ji6)).f1)) ∧ w'.cell? ⟨(ad118.add (((ji6)).toNat * 6)).block,(ad118.add (((ji6)).toNat * 6)).off + 2,none⟩ = some (.float .f64 ((rd_T39 l0 (ji6)).f2)) ∧ w'.cell? ⟨(ad118.add (((ji6)).toNat * 6)).block,(ad118.add (((ji6)).toNat * 6)).off + 3,none⟩ = some (.int .i64 ((rd_T39 l0 (ji6)).f3)) ∧ w'.cell? ⟨(ad118.add (((ji6)).toNat * 6)).block,(ad118.add (((ji6)).toNat * 6)).off + 4,none⟩ = some (.float .f64 ((rd_T39 l0 (ji6)).f4)) ∧ w'.cell? ⟨(ad118.add (((ji6)).toNat * 6)).block,(ad118.add (((ji6)).toNat * 6)).off + 5,none⟩ = some (.int .i64 ((rd_T39 l0 (ji6)).f5))) (ds:=[]) #[F,F,F,F,F,F,F,F] (by kernel_rfl) rfl rfl ⟨zk K117 0,zk K117 1,zk K117 2,zk K117 3,zk K117 4,zk K117 5,(zh HB hw118_0),(zh HB hw118_1),(zh HB hw118_2),(zh HB hw118_3),(zh HB hw118_4),(zh HB hw118_5)⟩ (fun hHeld => ?_);refine with_tabW api_Entry_47.tab5 api_Entry_47.bits5 (fun HT_ HW_ => ?_)
       generalize wr.drew = w13 at K117 HB hx118_0 hx118_1 hx118_2 hx118_3 hx118_4 hx118_5 hHeld ⊢
       refine pz 0 24 #[T,F,F,F,F,F,F,F] HT_.1 ?_
       refine pz 1 25 #[T,T,F,F,F,F,F,F] HT_.1 ?_
       refine pz 2 26 #[T,T,T,F,F,F,F,F] HT_.1 ?_
       refine pz 3 27 #[T,T,T,T,F,F,F,F] HT_.1 ?_
       refine tz 4 28 #[T,T,T,T,T,F,F,F] HT_.1 HW_.1 hHeld ?_
       refine tz 5 29 #[T,T,T,T,T,T,F,F] HT_.1 HW_.1 hHeld ?_
       refine one_ (i:=6) (N:=some 30) #[T,T,T,T,T,T,T,F] rfl rfl (one_of HT_.out (by kernel_rfl)) (by decide) (fun K hK => ?_)
       refine goesV_ Try.func48 (by kernel_rfl) rfl #[.agg #[.int .i64 ((rd_T39 l0 (ji6)).f0),.int .i64 ((rd_T39 l0 (ji6)).f1),.float .f64 ((rd_T39 l0 (ji6)).f2),.int .i64 ((rd_T39 l0 (ji6)).f3),.float .f64 ((rd_T39 l0 (ji6)).f4),.int .i64 ((rd_T39 l0 (ji6)).f5)],.agg #[.int .i64 a1_0,.int .i64 a1_1,.float .f64 a1_2,.int .i64 a1_3,.float .f64 a1_4,.int .i64 a1_5]] (by rfl) rfl rfl (by (try simp only [List.map_toArray,List.map_cons,List.map_nil]);first|done|(simp only [hji6];rfl)|rfl|(simp only [List.length_drop,List.length_take];rfl)) ?_
       with_reducible refine (table_order.calls k1 ((rd_T39 l0 (ji6)).f0) ((rd_T39 l0 (ji6)).f1) ((rd_T39 l0 (ji6)).f2) ((rd_T39 l0 (ji6)).f3) ((rd_T39 l0 (ji6)).f4) ((rd_T39 l0 (ji6)).f5) a1_0 a1_1 a1_2 a1_3 a1_4 a1_5 t119 _ A9.out).mono ?_
       rintro e w14 ⟨rfl,hb⟩
       refine ⟨_,rfl,?_⟩
       replace K117:=zB K117 hb
       replace HB:=zS HB hb
       (try clear hb)
       (try clear hb2)
       (try clear hk)
       (try clear hi)
       refine hK.out _ _ ⟨zk K117 0,zk K117 1,zk K117 2,zk K117 3,zk K117 4,zk K117 5,(zh HB hw118_0),(zh HB hw118_1),(zh HB hw118_2),(zh HB hw118_3),(zh HB hw118_4),(zh HB hw118_5)⟩ (fun hHeld => ?_)
       clear hK K
       refine nz 30 ?_
       refine pz 7 31 #[T,T,T,T,T,T,T,T] HT_.1 ?_
       refine done_ (done_of HT_.out (by kernel_rfl)) ?_
       try go_wp2
       go_roundg k1
       case measure => have:=HK1.out;omega
       case rel => exact ⟨(x9_1),(ji6),ze,(by first|rfl|(simp;done)|(simp only [← hji6] <;> (first|rfl|simp))|(simp [*];done)),H',⟨by have:=HK1.out;omega⟩,⟨z1 K117.1⟩,⟨zH HB⟩⟩
     ·rw [if_neg c8] at H
      exact absurd H (by simp)
    ·rw [if_neg c7] at H
     exact absurd H (by simp)
   ·rw [if_neg c5] at H
    have c5b0 : decide (x9_1 < x10_1) = false:=decide_eq_false c5
    clear c5
    by_cases c15 : x9_1 < (l0.length : Int)
    ·rw [if_pos c15] at H
     have c15b0 : decide (x9_1 < (l0.length : Int)) = true:=decide_eq_true c15
     clear c15
     by_cases c16 : 0 ≤ x9_1
     ·rw [if_pos c16] at H
      have c16b0 : decide (0 ≤ x9_1) = true:=decide_eq_true c16
      clear c16
      by_cases c17 : x9_1 < (l0.length : Int)
      ·rw [if_pos c17] at H
       have c17b0 : decide (x9_1 < (l0.length : Int)) = true:=decide_eq_true c17
       clear c17
       replace H:=Option.bind_eq_some_iff.mp H
       obtain ⟨t121,A180,H⟩:=H
       replace H : (some (x9_1,(t121 == 0))) = some (r1,r2):=H
       have A18:=Aside0.mk A180
       clear A180
       simp only [Option.some.injEq,Prod.mk.injEq] at H
       obtain ⟨rfl,rfl⟩:=H
       try go_wp2
       replace K117:=Aside0.mk (bD K117.1)
       replace HB:=Aside0.mk (bw1 HB.1)
       have p120 : 0 ≤ (x9_1 : Int):=zd
       have q120 : x9_1 < (l0.length : Int):=zd
       obtain ⟨ad120,e120,hx120_0,hx120_1,hx120_2,hx120_3,hx120_4,hx120_5⟩:=at_T39 HR0.out x9_1 p120 q120
       have hw120_5:=hx120_5
       have hw120_4:=hx120_4
       have hw120_3:=hx120_3
       have hw120_2:=hx120_2
       have hw120_1:=hx120_1
       have hw120_0:=hx120_0
       cases e120
       replace hx120_0:=zh HB hx120_0
       replace hx120_1:=zh HB hx120_1
       replace hx120_2:=zh HB hx120_2
       replace hx120_3:=zh HB hx120_3
       replace hx120_4:=zh HB hx120_4
       replace hx120_5:=zh HB hx120_5
       replace p120:=eq_true p120
       replace q120:=eq_true q120
       refine start_ (n:=16) (S:=fun w' => w'.cell? ⟨G117,0,none⟩ = some (.int .i64 a1_0) ∧ w'.cell? ⟨G117,1,none⟩ = some (.int .i64 a1_1) ∧ w'.cell? ⟨G117,2,none⟩ = some (.float .f64 a1_2) ∧ w'.cell? ⟨G117,3,none⟩ = some (.int .i64 a1_3) ∧ w'.cell? ⟨G117,4,none⟩ = some (.float .f64 a1_4) ∧ w'.cell? ⟨G117,5,none⟩ = some (.int .i64 a1_5) ∧ w'.cell? (ad120.add ((x9_1).toNat * 6)) = some (.int .i64 ((rd_T39 l0 x9_1).f0)) ∧ w'.cell? ⟨(ad120.add ((x9_1).toNat * 6)).block,(ad120.add ((x9_1).toNat * 6)).off + 1,none⟩ = some (.int .i64 ((rd_T39 l0 x9_1).f1)) ∧ w'.cell? ⟨(ad120.add ((x9_1).toNat * 6)).block,(ad120.add ((x9_1).toNat * 6)).off + 2,none⟩ = some (.float .f64 ((rd_T39 l0 x9_1).f2)) ∧ w'.cell? ⟨(ad120.add ((x9_1).toNat * 6)).block,(ad120.add ((x9_1).toNat * 6)).off + 3,none⟩ = some (.int .i64 ((rd_T39 l0 x9_1).f3)) ∧ w'.cell? ⟨(ad120.add ((x9_1).toNat * 6)).block,(ad120.add ((x9_1).toNat * 6)).off + 4,none⟩ = some (.float .f64 ((rd_T39 l0 x9_1).f4)) ∧ w'.cell? ⟨(ad120.add ((x9_1).toNat * 6)).block,(ad120.add ((x9_1).toNat * 6)).off + 5,none⟩ = some (.int .i64 ((rd_T39 l0 x9_1).f5))) (ds:=[]) #[F,F,F,F,F,F,F,F,F,F,F,F,F,F,F,F] (by kernel_rfl) rfl rfl ⟨zk K117 0,zk K117 1,zk K117 2,zk K117 3,zk K117 4,zk K117 5,(zh HB hw120_0),(zh HB hw120_1),(zh HB hw120_2),(zh HB hw120_3),(zh HB hw120_4),(zh HB hw120_5)⟩ (fun hHeld => ?_);refine with_tabW api_Entry_47.tab8 api_Entry_47.bits8 (fun HT_ HW_ => ?_)
       generalize wr.drew = w19 at K117 HB hx120_0 hx120_1 hx120_2 hx120_3 hx120_4 hx120_5 hHeld ⊢
       refine pz 0 35 #[T,F,F,F,F,F,F,F,F,F,F,F,F,F,F,F] HT_.1 ?_
       refine pz 1 36 #[T,T,F,F,F,F,F,F,F,F,F,F,F,F,F,F] HT_.1 ?_
       refine pz 2 37 #[T,T,T,F,F,F,F,F,F,F,F,F,F,F,F,F] HT_.1 ?_
       refine pz 3 38 #[T,T,T,T,F,F,F,F,F,F,F,F,F,F,F,F] HT_.1 ?_
       refine pz 4 39 #[T,T,T,T,T,F,F,F,F,F,F,F,F,F,F,F] HT_.1 ?_
       refine pz 5 40 #[T,T,T,T,T,T,F,F,F,F,F,F,F,F,F,F] HT_.1 ?_
       refine pz 6 41 #[T,T,T,T,T,T,T,F,F,F,F,F,F,F,F,F] HT_.1 ?_
       refine pz 7 42 #[T,T,T,T,T,T,T,T,F,F,F,F,F,F,F,F] HT_.1 ?_
       refine pz 8 43 #[T,T,T,T,T,T,T,T,T,F,F,F,F,F,F,F] HT_.1 ?_
       refine tz 9 44 #[T,T,T,T,T,T,T,T,T,T,F,F,F,F,F,F] HT_.1 HW_.1 hHeld ?_
       refine tz 10 45 #[T,T,T,T,T,T,T,T,T,T,T,F,F,F,F,F] HT_.1 HW_.1 hHeld ?_
       refine one_ (i:=11) (N:=some 46) #[T,T,T,T,T,T,T,T,T,T,T,T,F,F,F,F] rfl rfl (one_of HT_.out (by kernel_rfl)) (by decide) (fun K hK => ?_)
       refine goesV_ Try.func48 (by kernel_rfl) rfl #[.agg #[.int .i64 ((rd_T39 l0 x9_1).f0),.int .i64 ((rd_T39 l0 x9_1).f1),.float .f64 ((rd_T39 l0 x9_1).f2),.int .i64 ((rd_T39 l0 x9_1).f3),.float .f64 ((rd_T39 l0 x9_1).f4),.int .i64 ((rd_T39 l0 x9_1).f5)],.agg #[.int .i64 a1_0,.int .i64 a1_1,.float .f64 a1_2,.int .i64 a1_3,.float .f64 a1_4,.int .i64 a1_5]] (by rfl) rfl rfl (by (try simp only [List.map_toArray,List.map_cons,List.map_nil]);first|done|rfl|(simp only [List.length_drop,List.length_take];rfl)) ?_
       with_reducible refine (table_order.calls k1 ((rd_T39 l0 x9_1).f0) ((rd_T39 l0 x9_1).f1) ((rd_T39 l0 x9_1).f2) ((rd_T39 l0 x9_1).f3) ((rd_T39 l0 x9_1).f4) ((rd_T39 l0 x9_1).f5) a1_0 a1_1 a1_2 a1_3 a1_4 a1_5 t121 _ A18.out).mono ?_
       rintro e w20 ⟨rfl,hb⟩
       refine ⟨_,rfl,?_⟩
       replace K117:=zB K117 hb
       replace HB:=zS HB hb
       (try clear hb)
       (try clear hb2)
       (try clear hk)
       (try clear hi)
       refine hK.out _ _ ⟨zk K117 0,zk K117 1,zk K117 2,zk K117 3,zk K117 4,zk K117 5,(zh HB hw120_0),(zh HB hw120_1),(zh HB hw120_2),(zh HB hw120_3),(zh HB hw120_4),(zh HB hw120_5)⟩ (fun hHeld => ?_)
       clear hK K
       refine nz 46 ?_
       refine pz 12 47 #[T,T,T,T,T,T,T,T,T,T,T,T,T,F,F,F] HT_.1 ?_
       refine pz 13 48 #[T,T,T,T,T,T,T,T,T,T,T,T,T,T,F,F] HT_.1 ?_
       refine pz 14 6 #[T,T,T,T,T,T,T,T,T,T,T,T,T,T,T,F] HT_.1 ?_
       refine pz 15 7 #[T,T,T,T,T,T,T,T,T,T,T,T,T,T,T,T] HT_.1 ?_
       refine done_ (done_of HT_.out (by kernel_rfl)) ?_
       try go_wp2
       go_ret2
       exact ⟨by first|rfl|(simp [errW_none,errW_some] <;> rfl)|(simp [*,errW_none,errW_some] <;> rfl),zH HB⟩
      ·rw [if_neg c17] at H
       exact absurd H (by simp)
     ·rw [if_neg c16] at H
      exact absurd H (by simp)
    ·rw [if_neg c15] at H
     have c15b0 : decide (x9_1 < (l0.length : Int)) = false:=decide_eq_false c15
     clear c15
     simp only [Option.some.injEq,Prod.mk.injEq] at H
     obtain ⟨rfl,rfl⟩:=H
     try go_wp2
     replace K117:=Aside0.mk (bD K117.1)
     replace HB:=Aside0.mk (bw1 HB.1)
     refine start_ (n:=16) (S:=fun w' => True) (ds:=[]) #[F,F,F,F,F,F,F,F,F,F,F,F,F,F,F,F] (by kernel_rfl) rfl rfl trivial (fun hHeld => ?_);refine with_tabW api_Entry_47.tab8 api_Entry_47.bits8 (fun HT_ HW_ => ?_)
     generalize wr.drew = w21 at K117 HB hHeld ⊢
     refine pz 0 35 #[T,F,F,F,F,F,F,F,F,F,F,F,F,F,F,F] HT_.1 ?_
     refine pz 1 36 #[T,T,F,F,F,F,F,F,F,F,F,F,F,F,F,F] HT_.1 ?_
     refine pz 2 37 #[T,T,T,F,F,F,F,F,F,F,F,F,F,F,F,F] HT_.1 ?_
     refine pz 3 38 #[T,T,T,T,F,F,F,F,F,F,F,F,F,F,F,F] HT_.1 ?_
     refine pz 4 39 #[T,T,T,T,T,F,F,F,F,F,F,F,F,F,F,F] HT_.1 ?_
     refine pu 5 40 #[T,T,T,T,T,T,F,F,F,F,F,F,F,F,F,F] HT_.1 ?_
     refine pu 6 41 #[T,T,T,T,T,T,T,F,F,F,F,F,F,F,F,F] HT_.1 ?_
     refine pu 7 42 #[T,T,T,T,T,T,T,T,F,F,F,F,F,F,F,F] HT_.1 ?_
     refine pu 8 43 #[T,T,T,T,T,T,T,T,T,F,F,F,F,F,F,F] HT_.1 ?_
     refine pu 9 44 #[T,T,T,T,T,T,T,T,T,T,F,F,F,F,F,F] HT_.1 ?_
     refine pu 10 45 #[T,T,T,T,T,T,T,T,T,T,T,F,F,F,F,F] HT_.1 ?_
     refine pu 11 46 #[T,T,T,T,T,T,T,T,T,T,T,T,F,F,F,F] HT_.1 ?_
     refine pu 12 47 #[T,T,T,T,T,T,T,T,T,T,T,T,T,F,F,F] HT_.1 ?_
     refine pz 13 48 #[T,T,T,T,T,T,T,T,T,T,T,T,T,T,F,F] HT_.1 ?_
     refine pz 14 6 #[T,T,T,T,T,T,T,T,T,T,T,T,T,T,T,F] HT_.1 ?_
     refine pz 15 7 #[T,T,T,T,T,T,T,T,T,T,T,T,T,T,T,T] HT_.1 ?_
     refine done_ (done_of HT_.out (by kernel_rfl)) ?_
     try go_wp2
     go_ret2
     exact ⟨by first|rfl|(simp [errW_none,errW_some] <;> rfl)|(simp [*,errW_none,errW_some] <;> rfl),zH HB⟩

/-! ### table_Keep_1: function 46 -/
def table_Keep_1.f (k : Nat) (a0_0 : Int) (a0_1 : Int) (a0_2 : Nat) (a0_3 : Int) (a0_4 : Nat) (a0_5 : Int) (l1_0 : List (S39)) (a1_1 : Bool) : Option (Bool) := (api_Entry_47.f k l1_0 a0_0 a0_1 a0_2 a0_3 a0_4 a0_5).bind fun bt123 => (some bt123.2)
theorem table_Keep_1.mono : ∀ a0 a1 a2 a3 a4 a5 a6 a7 k, LeO (table_Keep_1.f k a0 a1 a2 a3 a4 a5 a6 a7) (table_Keep_1.f (k + 1) a0 a1 a2 a3 a4 a5 a6 a7) := by
 intro a0 a1 a2 a3 a4 a5 a6 a7 k
 unfold table_Keep_1.f
 repeat' first
   | (with_reducible exact api_Entry_47.mono _ _ _ _ _ _ _ _)
   | (with_reducible exact LeO.refl _)
   | (with_reducible exact LeO.none _)
   | (with_reducible refine LeO.ite ?_ ?_)
   | (with_reducible refine LeO.bind ?_ (fun _ => ?_))
   | exact api_Entry_47.mono _ _ _ _ _ _ _ _
   | exact LeO.none _
   | refine LeO.ite ?_ ?_
   | refine LeO.bind ?_ (fun _ => ?_)
set_option maxHeartbeats 8000000 in
set_option maxRecDepth 100000 in
theorem table_Keep_1.calls (k : Nat) (a0_0 : Int) (a0_1 : Int) (a0_2 : Nat) (a0_3 : Int) (a0_4 : Nat) (a0_5 : Int) (G1 : Nat) (A1_0 : Option Addr) (c1_0 : Nat) (l1_0 : List (S39)) (a1_1 : Bool) (r : Bool) (w : World) (hr1_0 : Kd.C k39 w A1_0 l1_0.length l1_0) (hc1_0 : l1_0.length ≤ c1_0) (hb1_ : w.heap[G1]? = some (.cells #[.slice A1_0 l1_0.length c1_0, .bool a1_1] 24 (0, 0))) (h : table_Keep_1.f k a0_0 a0_1 a0_2 a0_3 a0_4 a0_5 l1_0 a1_1 = some r) :
  Calls Try.prog 46 #[.agg #[.int .i64 a0_0,.int .i64 a0_1,.float .f64 a0_2,.int .i64 a0_3,.float .f64 a0_4,.int .i64 a0_5],.pointer (some ⟨G1,0,none⟩)] w fun e w' => e = .returned (.bool r) ∧ Below w.heap.size w w':=by
 have hu39:=Try.underlying39
 have HR1_0:=Aside0.mk hr1_0
 have HC1_0:=Aside0.mk hc1_0
 clear hr1_0 hc1_0
 have K1:=Aside0.mk hb1_
 clear hb1_
 have HB:=Aside0.mk (Below.refl w.heap.size w)
 have H : ((api_Entry_47.f k l1_0 a0_0 a0_1 a0_2 a0_3 a0_4 a0_5).bind fun bt123 => (some bt123.2)) = some r:=h
 clear h
 replace H:=Option.bind_eq_some_iff.mp H
 obtain ⟨⟨t123,t124⟩,A30,H⟩:=H
 replace H : (some t124) = some r:=H
 have A3:=Aside0.mk A30
 clear A30
 obtain rfl:=Option.some.inj H
 go_enter Try.func46,Try.ntmps46
 go_wp2_with (first|((with_reducible refine gate_dst (N:=2) rfl ?_);refine zb (N:=2) (cs:=#[.int .i64 a0_0,.int .i64 a0_1,.float .f64 a0_2,.int .i64 a0_3,.float .f64 a0_4,.int .i64 a0_5]) (t:=39) ?_;intro G122 hg w4 hbox hb;have K122:=Aside0.mk (hbox);have GW122:=zN HB hg;have GE122:=zN HB hg;replace HB:=zS HB hb;have NB1_122:=zL K1 hg;have NB122_1:=zG K1 hg;replace K1:=zB K1 hb;clear hb hbox hg;have hnb5:=NB1_122.1;have hnc5:=NB122_1.1;have hcz6_0 : w4.cell? ⟨G1,0,none⟩ = some (.slice A1_0 l1_0.length c1_0):=zk K1 0;have hcz6_1 : w4.cell? ⟨G1,1,none⟩ = some (.bool a1_1):=zk K1 1;have hfz6_0:=bF K1.1 0;have hfz6_1:=bF K1.1 1;have hcz7_0 : w4.cell? ⟨G122,0,none⟩ = some (.int .i64 a0_0):=zk K122 0;have hcz7_1 : w4.cell? ⟨G122,1,none⟩ = some (.int .i64 a0_1):=zk K122 1;have hcz7_2 : w4.cell? ⟨G122,2,none⟩ = some (.float .f64 a0_2):=zk K122 2;have hcz7_3 : w4.cell? ⟨G122,3,none⟩ = some (.int .i64 a0_3):=zk K122 3;have hcz7_4 : w4.cell? ⟨G122,4,none⟩ = some (.float .f64 a0_4):=zk K122 4;have hcz7_5 : w4.cell? ⟨G122,5,none⟩ = some (.int .i64 a0_5):=zk K122 5;have hfz7_0:=bF K122.1 0;have hfz7_1:=bF K122.1 1;have hfz7_2:=bF K122.1 2;have hfz7_3:=bF K122.1 3;have hfz7_4:=bF K122.1 4;have hfz7_5:=bF K122.1 5)|((with_reducible refine gate_callee (f:=47) rfl ?_);refine zg (some 10) Try.func47 #[.slice A1_0 l1_0.length c1_0,.agg #[.int .i64 a0_0,.int .i64 a0_1,.float .f64 a0_2,.int .i64 a0_3,.float .f64 a0_4,.int .i64 a0_5],.func (.func 48) #[] #[]] ?_;(with_reducible refine (api_Entry_47.calls k _ _ l1_0 a0_0 a0_1 a0_2 a0_3 a0_4 a0_5 t123 t124 _ ?side1 ?side2 A3.out).mono ?_);(case side1 => exact zC (Kd.C_below HR1_0.out HB.1));(case side2 => exact HC1_0.out);rintro e w8 ⟨rfl,hb⟩;refine ⟨_,rfl,?_⟩;replace K1:=zB K1 hb;replace K122:=zB K122 hb;replace HB:=zS HB hb;(try clear hb)))
 go_ret
 exact ⟨by first|rfl|(simp [errW_none,errW_some] <;> rfl)|(simp [*,errW_none,errW_some] <;> rfl),zH HB⟩

end Go.Proofs.Ytgmjlhpigfaicaa.XA
