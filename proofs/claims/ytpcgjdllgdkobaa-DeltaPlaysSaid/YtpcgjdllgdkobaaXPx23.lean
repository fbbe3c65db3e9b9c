/- Go functions of this seat as Lean functions, with proofs that the calls come to them. (Written by xprint.py, a program of this session, over the kit's print.) -/
import Derived.Test.YtpcgjdllgdkobaaXPx0
import Derived.Test.YtpcgjdllgdkobaaRD
import Derived.Test.YtpcgjdllgdkobaaXPx2
import Derived.Test.YtpcgjdllgdkobaaXPx12
import Derived.Test.YtpcgjdllgdkobaaXPx20
import Derived.Test.YtpcgjdllgdkobaaXPx21
import Derived.Test.YtpcgjdllgdkobaaXPx22
namespace Go.Proofs.Ytpcgjdllgdkobaa.XP
open Go.RowKit Go.Proofs.YtpcgjdllgdkobaaW.PrintWords Go.Proofs.YtpcgjdllgdkobaaW.PrintLast Go.Proofs.YtpcgjdllgdkobaaW.PrintMore
attribute [local go_sem] max2_int min2_int max_two min_two max_three min_three max_four min_four   -- for this text's walks alone
set_option linter.unusedVariables false
set_option linter.unusedSimpArgs false
open List renaming setIfInBounds_toArray → xA, set_cons_zero → xB, set_cons_succ → xC
open Go.Proofs.YtpcgjdllgdkobaaW.PrintWords renaming blk_drewN → bN, blk_drew → bD, blk_alloc → bA, below_set → bS, blk_frozen → bF, blk_cell → bC, cell_far → cF, blk_far → bZ, blk_below → bB, pw_below_drewN → bwN, below_drew1 → bw1, below_alloc → bwA
open Go.Proofs.YtpcgjdllgdkobaaW.PrintZ
open Bool renaming true → T,false → F
open Go.Proofs.Ytpcgjdllgdkobaa.RDW (RD RD.drew RD.slice RD.reads RD.of RD.ofC RD.take RD.nil rX rX1 rX2 rX3 rX4 rb cp_bind)

/-! ### fake_cp: an Out as it is -/
def fake_cp.f (a0_0 : Int) (l0_1 : List S61) (l0_2 : List S61) (a0_3 : Bool) (a0_4 : Int) : Option (Int × List S61 × List S61 × Bool × Int) := some (a0_0, l0_1, l0_2, a0_3, a0_4)

/-! ### beaconref14_Offer: function 25 -/
mutual
def beaconref14_Offer.j0 : Nat → List (S61) → Bool → Int → List (S61) → List (S61) → Bool → Int → Option (Int × (List (S61)) × (List (S61)) × Bool × Int × (List (S61)) × Bool × Int)
 | 0, _, _, _, _, _, _, _ => none
 | k + 1, x1, x16, x331000, x331001, x331002, x331003, x331004 => if x16 = true then (some (x331000, x331001, x331002, x331003, x331004, ([] : List (S61)), false, 1)) else (if x331003 = true then (beaconref14_Offer.j1 k x1 true x331000 x331001 x331002 x331003 x331004) else ((beaconref06_SameNews.f k x331001 x1).bind fun t334 => (beaconref14_Offer.j1 k x1 t334 x331000 x331001 x331002 x331003 x331004)))
def beaconref14_Offer.j1 : Nat → List (S61) → Bool → Int → List (S61) → List (S61) → Bool → Int → Option (Int × (List (S61)) × (List (S61)) × Bool × Int × (List (S61)) × Bool × Int)
 | 0, _, _, _, _, _, _, _ => none
 | k + 1, x1, x25, x331000, x331001, x331002, x331003, x331004 => if x25 = true then (some (x331000, x331001, x331002, x331003, x331004, ([] : List (S61)), false, 0)) else (if x331000 = 18446744073709551615 then (some (x331000, x331001, x331002, x331003, x331004, ([] : List (S61)), false, 2)) else ((beaconref14_diff.f k x331001 x1).bind fun t335 => (if (t335.length : Int) > 512 then (if 512 ≤ (t335.length : Int) then ((some (t335.take (512 : Int).toNat : List (S61))).bind fun y338 => (some (IntKind.u64.wrap (x331000 + 1), x331001, y338, true, 0, y338, true, 0))) else (none)) else (some (IntKind.u64.wrap (x331000 + 1), x331001, t335, true, 0, t335, true, 0)))))
end
def beaconref14_Offer.f (k : Nat) (a0_0 : Int) (l0_1 : List (S61)) (l0_2 : List (S61)) (a0_3 : Bool) (a0_4 : Int) (l1 : List (S61)) : Option (Int × (List (S61)) × (List (S61)) × Bool × Int × (List (S61)) × Bool × Int) := (fake_cp.f a0_0 l0_1 l0_2 a0_3 a0_4).bind fun bt321 => ((beaconref14_May.f k bt321.1 bt321.2.1 bt321.2.2.1 bt321.2.2.2.1 bt321.2.2.2.2).bind fun t332 => (if t332 = true then ((beaconref14_List.f k l1).bind fun t333 => (beaconref14_Offer.j0 k l1 (!t333) bt321.1 bt321.2.1 bt321.2.2.1 bt321.2.2.2.1 bt321.2.2.2.2)) else (beaconref14_Offer.j0 k l1 true bt321.1 bt321.2.1 bt321.2.2.1 bt321.2.2.2.1 bt321.2.2.2.2)))
theorem beaconref14_Offer.mono_l : ∀ k, (∀ y0 y1 y2 y3 y4 y5 y6, LeO (beaconref14_Offer.j0 k y0 y1 y2 y3 y4 y5 y6) (beaconref14_Offer.j0 (k + 1) y0 y1 y2 y3 y4 y5 y6)) ∧ (∀ y0 y1 y2 y3 y4 y5 y6, LeO (beaconref14_Offer.j1 k y0 y1 y2 y3 y4 y5 y6) (beaconref14_Offer.j1 (k + 1) y0 y1 y2 y3 y4 y5 y6))
 | 0 => ⟨fun _ _ _ _ _ _ _ r h => by simp [beaconref14_Offer.j0] at h, fun _ _ _ _ _ _ _ r h => by simp [beaconref14_Offer.j1] at h⟩
 | k + 1 => by
  obtain ⟨ih0,ih1⟩:=beaconref14_Offer.mono_l k
  refine ⟨?_,?_⟩
  ·intro y0 y1 y2 y3 y4 y5 y6
   unfold beaconref14_Offer.j0
   repeat' first
   | (with_reducible exact ih0 _ _ _ _ _ _ _)
   | (with_reducible exact ih1 _ _ _ _ _ _ _)
   | (with_reducible exact beaconref06_SameNews.mono _ _ _)
   | (with_reducible exact beaconref14_List.mono _ _)
   | (with_reducible exact beaconref14_May.mono _ _ _ _ _ _)
   | (with_reducible exact beaconref14_diff.mono _ _ _)
   | (with_reducible exact LeO.refl _)
   | (with_reducible exact LeO.none _)
   | (with_reducible refine LeO.ite ?_ ?_)
   | (with_reducible refine LeO.bind ?_ (fun _ => ?_))
   | exact ih0 _ _ _ _ _ _ _
   | exact ih1 _ _ _ _ _ _ _
   | exact beaconref06_SameNews.mono _ _ _
   | exact beaconref14_List.mono _ _
   | exact beaconref14_May.mono _ _ _ _ _ _
   | exact beaconref14_diff.mono _ _ _
   | exact LeO.none _
   | refine LeO.ite ?_ ?_
   | refine LeO.bind ?_ (fun _ => ?_)
  ·intro y0 y1 y2 y3 y4 y5 y6
   unfold beaconref14_Offer.j1
   repeat' first
   | (with_reducible exact ih0 _ _ _ _ _ _ _)
   | (with_reducible exact ih1 _ _ _ _ _ _ _)
   | (with_reducible exact beaconref06_SameNews.mono _ _ _)
   | (with_reducible exact beaconref14_List.mono _ _)
   | (with_reducible exact beaconref14_May.mono _ _ _ _ _ _)
   | (with_reducible exact beaconref14_diff.mono _ _ _)
   | (with_reducible exact LeO.refl _)
   | (with_reducible exact LeO.none _)
   | (with_reducible refine LeO.ite ?_ ?_)
   | (with_reducible refine LeO.bind ?_ (fun _ => ?_))
   | exact ih0 _ _ _ _ _ _ _
   | exact ih1 _ _ _ _ _ _ _
   | exact beaconref06_SameNews.mono _ _ _
   | exact beaconref14_List.mono _ _
   | exact beaconref14_May.mono _ _ _ _ _ _
   | exact beaconref14_diff.mono _ _ _
   | exact LeO.none _
   | refine LeO.ite ?_ ?_
   | refine LeO.bind ?_ (fun _ => ?_)
theorem beaconref14_Offer.mono : ∀ a0 a1 a2 a3 a4 a5 k, LeO (beaconref14_Offer.f k a0 a1 a2 a3 a4 a5) (beaconref14_Offer.f (k + 1) a0 a1 a2 a3 a4 a5) := by
 intro a0 a1 a2 a3 a4 a5 k
 obtain ⟨ih0,ih1⟩:=beaconref14_Offer.mono_l k
 unfold beaconref14_Offer.f
 repeat' first
   | (with_reducible exact ih0 _ _ _ _ _ _ _)
   | (with_reducible exact ih1 _ _ _ _ _ _ _)
   | (with_reducible exact beaconref06_SameNews.mono _ _ _)
   | (with_reducible exact beaconref14_List.mono _ _)
   | (with_reducible exact beaconref14_May.mono _ _ _ _ _ _)
   | (with_reducible exact beaconref14_diff.mono _ _ _)
   | (with_reducible exact LeO.refl _)
   | (with_reducible exact LeO.none _)
   | (with_reducible refine LeO.ite ?_ ?_)
   | (with_reducible refine LeO.bind ?_ (fun _ => ?_))
   | exact ih0 _ _ _ _ _ _ _
   | exact ih1 _ _ _ _ _ _ _
   | exact beaconref06_SameNews.mono _ _ _
   | exact beaconref14_List.mono _ _
   | exact beaconref14_May.mono _ _ _ _ _ _
   | exact beaconref14_diff.mono _ _ _
   | exact LeO.none _
   | refine LeO.ite ?_ ?_
   | refine LeO.bind ?_ (fun _ => ?_)
set_option maxHeartbeats 8000000 in
set_option maxRecDepth 100000 in
theorem beaconref14_Offer.calls (k : Nat) (a0_0 : Int) (A0_1 : Option Addr) (c0_1 : Nat) (l0_1 : List (S61)) (A0_2 : Option Addr) (c0_2 : Nat) (l0_2 : List (S61)) (a0_3 : Bool) (a0_4 : Int) (A1 : Option Addr) (c1 : Nat) (l1 : List (S61)) (r1 : Int) (r2 : List (S61)) (r3 : List (S61)) (r4 : Bool) (r5 : Int) (r6 : List (S61)) (r7 : Bool) (r8 : Int) (w : World) (hr0_1 : Kd.C k61 w A0_1 l0_1.length l0_1) (hc0_1 : l0_1.length ≤ c0_1) (hr0_2 : Kd.C k61 w A0_2 l0_2.length l0_2) (hc0_2 : l0_2.length ≤ c0_2) (hr1 : Kd.C k61 w A1 l1.length l1) (hc1 : l1.length ≤ c1) (h : beaconref14_Offer.f k a0_0 l0_1 l0_2 a0_3 a0_4 l1 = some (r1, r2, r3, r4, r5, r6, r7, r8)) {base : Nat} (hbase : base ≤ w.heap.size) (hd0_1 : RD w base (.slice A0_1 l0_1.length c0_1) l0_1) (hd0_2 : RD w base (.slice A0_2 l0_2.length c0_2) l0_2) :
  Calls Try.prog 25 #[.agg #[.int .u64 a0_0,.slice A0_1 l0_1.length c0_1,.slice A0_2 l0_2.length c0_2,.bool a0_3,.int .i64 a0_4],.slice A1 l1.length c1] w fun e w' => ∃ v1_ v2_ v5_ : Value,e = .returned (.tuple #[.agg #[.int .u64 r1,v1_,v2_,.bool r4,.int .i64 r5],v5_,.bool r7,.int .i64 r8]) ∧ RD w' base v1_ r2 ∧ RD w' base v2_ r3 ∧ RD w' base v5_ r6 ∧ Below w.heap.size w w':=by
 have hu39:=Try.underlying39;have HR0_1:=zA hr0_1;have HC0_1:=zA hc0_1;clear hr0_1 hc0_1;have HR0_2:=zA hr0_2;have HC0_2:=zA hc0_2;clear hr0_2 hc0_2;have HR1:=zA hr1;have HC1:=zA hc1;clear hr1 hc1;have HB:=zA (Below.refl w.heap.size w);have H : ((fake_cp.f a0_0 l0_1 l0_2 a0_3 a0_4).bind fun bt321 => ((beaconref14_May.f k bt321.1 bt321.2.1 bt321.2.2.1 bt321.2.2.2.1 bt321.2.2.2.2).bind fun t332 => (if t332 = true then ((beaconref14_List.f k l1).bind fun t333 => (beaconref14_Offer.j0 k l1 (!t333) bt321.1 bt321.2.1 bt321.2.2.1 bt321.2.2.2.1 bt321.2.2.2.2)) else (beaconref14_Offer.j0 k l1 true bt321.1 bt321.2.1 bt321.2.2.1 bt321.2.2.2.1 bt321.2.2.2.2)))) = some (r1,r2,r3,r4,r5,r6,r7,r8):=h;clear h;replace H:=cp_bind H;(try dsimp only at H);have HC4:=zA H;clear H;go_enter Try.func25,Try.ntmps25
 have HO324:=zA hd0_1;have HO327:=zA hd0_2;go_upto_region 1 with (first|((with_reducible refine gate_dst (N:=2) rfl ?_);refine zb (N:=2) (cs:=#[.int .u64 a0_0,.slice A0_1 l0_1.length c0_1,.slice A0_2 l0_2.length c0_2,.bool a0_3,.int .i64 a0_4]) (t:=39) ?_;intro G330 hg w8 hbox hb;replace HO324:=rb HO324 hb;replace HO327:=rb HO327 hb;have K330:=zA (hbox);have GW330:=zN HB hg;have GE330:=zN HB hg;replace HB:=zS HB hb;clear hb hbox hg)|((with_reducible refine gate_dst (N:=4) rfl ?_);refine zb (N:=4) (cs:=#[.int .u64 0,.slice none 0 0,.slice none 0 0,.bool false,.int .i64 0]) (t:=39) ?_;intro G331 hg w9 hbox hb;replace HO324:=rb HO324 hb;replace HO327:=rb HO327 hb;have K331:=zA (hbox);have GW331:=zN HB hg;have GE331:=zN HB hg;replace HB:=zS HB hb;have NB330_331:=zL K330 hg;have NB331_330:=zG K330 hg;replace K330:=zB K330 hb;clear hb hbox hg))
 (try simp only [Act.put,xA,xB,xC]);go_cut [16] (fun v16 wc => ∃ (kq : Nat) (x16_3 : Bool),v16 = .bool x16_3 ∧ Aside0 (beaconref14_Offer.j0 kq l1 x16_3 a0_0 l0_1 l0_2 a0_3 a0_4 = some (r1,r2,r3,r4,r5,r6,r7,r8)) ∧ Aside0 (kq ≤ k) ∧ Aside0 (RD wc base (.slice A0_1 l0_1.length c0_1) l0_1) ∧ Aside0 (RD wc base (.slice A0_2 l0_2.length c0_2) l0_2) ∧ Aside0 (wc.heap[G330]? = some (.cells #[.int .u64 a0_0,(.slice A0_1 l0_1.length c0_1),(.slice A0_2 l0_2.length c0_2),.bool a0_3,.int .i64 a0_4] 39 (0,0))) ∧ Aside0 (wc.heap[G331]? = some (.cells #[.int .u64 0,(.slice none 0 0),(.slice none 0 0),.bool false,.int .i64 0] 39 (0,0))) ∧ Aside0 (Below w.heap.size w wc))
 case first =>
  have H:=HC4.out;clear HC4;replace H:=Option.bind_eq_some_iff.mp H;obtain ⟨t332,A100,H⟩:=H;(try dsimp only at H);have A10:=zA A100;clear A100;by_cases c11 : t332 = true
  ·subst c11;rw [if_pos rfl] at H;replace H:=Option.bind_eq_some_iff.mp H;obtain ⟨t333,A120,H⟩:=H;(try dsimp only at H);have A12:=zA A120;clear A120;have H':=zA H;clear H;have:=NB330_331.1;have:=NB331_330.1;obtain ⟨_,_,_,_,_,_,_,_,_,_⟩:=zc5 K330;go_wp2_with (first|((with_reducible refine gate_callee (f:=42) rfl ?_);refine zg (some 10) Try.func42 #[.agg #[.int .u64 a0_0,.slice A0_1 l0_1.length c0_1,.slice A0_2 l0_2.length c0_2,.bool a0_3,.int .i64 a0_4]] ?_;(with_reducible refine (beaconref14_May.calls k a0_0 _ _ l0_1 _ _ l0_2 a0_3 a0_4 true _ ?side1 ?side2 ?side3 ?side4 A10.out).mono ?_);(case side1 => exact zC (RD.reads HO324.out).2);(case side2 => exact (RD.reads HO324.out).1);(case side3 => exact zC (RD.reads HO327.out).2);(case side4 => exact (RD.reads HO327.out).1);rintro e w15 ⟨rfl,hb⟩;refine ⟨_,rfl,?_⟩;replace HO324:=rb HO324 hb;replace HO327:=rb HO327 hb;replace K330:=zB K330 hb;replace K331:=zB K331 hb;replace HB:=zS HB hb;(try clear hb))|(go_at_call 18;(with_reducible refine (beaconref14_List.calls k _ _ l1 t333 _ ?side1 ?side2 A12.out).mono ?_);(case side1 => exact zC (Kd.C_below HR1.out HB.1));(case side2 => exact HC1.out);rintro e w16 ⟨rfl,hb⟩;replace HO324:=rb HO324 hb;replace HO327:=rb HO327 hb;replace K330:=zB K330 hb;replace K331:=zB K331 hb;replace HB:=zS HB hb;(try clear hb)))
   go_meet
   case rel => exact ⟨_,(!t333),ze,H',⟨zo⟩,⟨rX HO324⟩,⟨rX HO327⟩,⟨z1 K330.1⟩,⟨z1 K331.1⟩,⟨zH HB⟩⟩
  ·replace c11:=Bool.eq_false_iff.mpr c11;subst c11;rw [if_neg (show ¬ (false = true) by decide)] at H;have H':=zA H;clear H;have:=NB330_331.1;have:=NB331_330.1;obtain ⟨_,_,_,_,_,_,_,_,_,_⟩:=zc5 K330;go_wp2_with (first|((with_reducible refine gate_callee (f:=42) rfl ?_);refine zg (some 10) Try.func42 #[.agg #[.int .u64 a0_0,.slice A0_1 l0_1.length c0_1,.slice A0_2 l0_2.length c0_2,.bool a0_3,.int .i64 a0_4]] ?_;(with_reducible refine (beaconref14_May.calls k a0_0 _ _ l0_1 _ _ l0_2 a0_3 a0_4 false _ ?side1 ?side2 ?side3 ?side4 A10.out).mono ?_);(case side1 => exact zC (RD.reads HO324.out).2);(case side2 => exact (RD.reads HO324.out).1);(case side3 => exact zC (RD.reads HO327.out).2);(case side4 => exact (RD.reads HO327.out).1);rintro e w19 ⟨rfl,hb⟩;refine ⟨_,rfl,?_⟩;replace HO324:=rb HO324 hb;replace HO327:=rb HO327 hb;replace K330:=zB K330 hb;replace K331:=zB K331 hb;replace HB:=zS HB hb;(try clear hb)))
   go_meet
   case rel => exact ⟨_,(true),ze,H',⟨zo⟩,⟨rX HO324⟩,⟨rX HO327⟩,⟨z1 K330.1⟩,⟨z1 K331.1⟩,⟨zH HB⟩⟩
 case rest =>
  clear HC4;try clear c1
  obtain ⟨kq,x16_3,rfl,HA,HJ3,HO_331001,HO_331002,K330,K331,HB⟩:=hcut;cases kq with
  | zero => exact absurd HA.out (by simp [beaconref14_Offer.j0])
  | succ kj3 =>
   have H:=HA.out;clear HA;simp only [beaconref14_Offer.j0] at H;by_cases c20 : x16_3 = true
   ·subst c20;rw [if_pos rfl] at H;simp only [Option.some.injEq,Prod.mk.injEq] at H;obtain ⟨rfl,rfl,rfl,rfl,rfl,rfl,rfl,rfl⟩:=H;have:=NB330_331.1;have:=NB331_330.1;obtain ⟨_,_,_,_,_,_,_,_,_,_⟩:=zc5 K330;obtain ⟨_,_,_,_,_,_,_,_,_,_⟩:=zc5 K331;go_wp2_with (first|((with_reducible refine gate_store (t:=39) (p:=4) rfl ?_);refine store_event (t:=39) (p:=4) (v:=?vo_w24) (w1:=(((((wc.setCell ⟨G331,0,none⟩ (.int .u64 a0_0)).setCell ⟨G331,1,none⟩ (.slice A0_1 l0_1.length c0_1)).setCell ⟨G331,2,none⟩ (.slice A0_2 l0_2.length c0_2)).setCell ⟨G331,3,none⟩ (.bool a0_3)).setCell ⟨G331,4,none⟩ (.int .i64 a0_4))) ?hg ?ho ?hn ?hr ?_;(case ho => rfl);(case hg => rfl);(case hn => rfl);(case hr => first|(go_simp;done)|(go_simp;rfl));intro w24 hw;replace HO_331001 : Aside0 (RD w24 base (.slice A0_1 l0_1.length c0_1) l0_1):=⟨(by rw [hw];exact (rX1 HO_331001 K331 (Nat.le_trans hbase GE331.1)))⟩;replace HO_331002 : Aside0 (RD w24 base (.slice A0_2 l0_2.length c0_2) l0_2):=⟨(by rw [hw];exact (rX1 HO_331002 K331 (Nat.le_trans hbase GE331.1)))⟩;replace K330:=zV hw K330;replace K331:=zVp hw (.cells #[.int .u64 a0_0,.slice A0_1 l0_1.length c0_1,.slice A0_2 l0_2.length c0_2,.bool a0_3,.int .i64 a0_4] 39 (0,0)) K331;replace HB:=zU hw HB;clear hw))
    refine bodyPost_ret (results_list (rs:=[.cell 4 39,.tmp 5,.tmp 6,.tmp 7]) rfl (by simp) (.cell G331 39 #[.int .u64 a0_0,.slice A0_1 l0_1.length c0_1,.slice A0_2 l0_2.length c0_2,.bool a0_3,.int .i64 a0_4] (0,0) _ rfl (zF K331) Try.underlying39 rfl (by kernel_rfl) (.tmp (.tmp (.tmp .nil))))) rfl ?_;exact ⟨_,_,_,by first|rfl|(simp [errW_none,errW_some] <;> rfl)|(simp [*,errW_none,errW_some] <;> rfl),(rX HO_331001),(rX HO_331002),RD.nil _ _,zH HB⟩
   ·replace c20:=Bool.eq_false_iff.mpr c20;subst c20;rw [if_neg (show ¬ (false = true) by decide)] at H;have HC25:=zA H;clear H;go_upto_region 3 with (fail)
    go_cut [25] (fun v25 wc => ∃ (kq : Nat) (x25_24 : Bool),v25 = .bool x25_24 ∧ Aside0 (beaconref14_Offer.j1 kq l1 x25_24 a0_0 l0_1 l0_2 a0_3 a0_4 = some (r1,r2,r3,r4,r5,r6,r7,r8)) ∧ Aside0 (kq ≤ kj3) ∧ Aside0 (RD wc base (.slice A0_1 l0_1.length c0_1) l0_1) ∧ Aside0 (RD wc base (.slice A0_2 l0_2.length c0_2) l0_2) ∧ Aside0 (wc.heap[G330]? = some (.cells #[.int .u64 a0_0,(.slice A0_1 l0_1.length c0_1),(.slice A0_2 l0_2.length c0_2),.bool a0_3,.int .i64 a0_4] 39 (0,0))) ∧ Aside0 (wc.heap[G331]? = some (.cells #[.int .u64 0,(.slice none 0 0),(.slice none 0 0),.bool false,.int .i64 0] 39 (0,0))) ∧ Aside0 (Below w.heap.size w wc))
    case first =>
     have H:=HC25.out;clear HC25;by_cases c26 : a0_3 = true
     ·subst c26;rw [if_pos rfl] at H;have H':=zA H;clear H;have:=NB330_331.1;have:=NB331_330.1;obtain ⟨_,_,_,_,_,_,_,_,_,_⟩:=zc5 K330;go_wp2
      go_meet
      case rel => exact ⟨_,(true),ze,H',⟨by have:=HJ3.out;first|omega|exact Nat.le_refl _⟩,⟨rX HO_331001⟩,⟨rX HO_331002⟩,⟨z1 K330.1⟩,⟨z1 K331.1⟩,⟨zH HB⟩⟩
     ·replace c26:=Bool.eq_false_iff.mpr c26;subst c26;rw [if_neg (show ¬ (false = true) by decide)] at H;replace H:=Option.bind_eq_some_iff.mp H;obtain ⟨t334,A290,H⟩:=H;(try dsimp only at H);have A29:=zA A290;clear A290;have H':=zA H;clear H;have:=NB330_331.1;have:=NB331_330.1;obtain ⟨_,_,_,_,_,_,_,_,_,_⟩:=zc5 K330;go_wp2_with (first|(go_at_call 17;(with_reducible refine (beaconref06_SameNews.calls kj3 _ _ l0_1 _ _ l1 t334 _ ?side1 ?side2 ?side3 ?side4 A29.out).mono ?_);(case side1 => exact zC (RD.reads HO_331001.out).2);(case side2 => exact (RD.reads HO_331001.out).1);(case side3 => exact zC (Kd.C_below HR1.out HB.1));(case side4 => exact HC1.out);rintro e w32 ⟨rfl,hb⟩;replace HO_331001:=rb HO_331001 hb;replace HO_331002:=rb HO_331002 hb;replace K330:=zB K330 hb;replace K331:=zB K331 hb;replace HB:=zS HB hb;(try clear hb)))
      go_meet
      case rel => exact ⟨_,(t334),ze,H',⟨by have:=HJ3.out;first|omega|exact Nat.le_refl _⟩,⟨rX HO_331001⟩,⟨rX HO_331002⟩,⟨z1 K330.1⟩,⟨z1 K331.1⟩,⟨zH HB⟩⟩
    case rest =>
     clear HC25;try clear c1;try clear c20
     obtain ⟨kq,x25_24,rfl,HA,HJ24,HO_331001,HO_331002,K330,K331,HB⟩:=hcut;cases kq with
     | zero => exact absurd HA.out (by simp [beaconref14_Offer.j1])
     | succ kj24 =>
      have H:=HA.out;clear HA;simp only [beaconref14_Offer.j1] at H;by_cases c33 : x25_24 = true
      ·subst c33;rw [if_pos rfl] at H;simp only [Option.some.injEq,Prod.mk.injEq] at H;obtain ⟨rfl,rfl,rfl,rfl,rfl,rfl,rfl,rfl⟩:=H;have:=NB330_331.1;have:=NB331_330.1;obtain ⟨_,_,_,_,_,_,_,_,_,_⟩:=zc5 K330;obtain ⟨_,_,_,_,_,_,_,_,_,_⟩:=zc5 K331;go_wp2_with (first|((with_reducible refine gate_store (t:=39) (p:=4) rfl ?_);refine store_event (t:=39) (p:=4) (v:=?vo_w37) (w1:=(((((wc.setCell ⟨G331,0,none⟩ (.int .u64 a0_0)).setCell ⟨G331,1,none⟩ (.slice A0_1 l0_1.length c0_1)).setCell ⟨G331,2,none⟩ (.slice A0_2 l0_2.length c0_2)).setCell ⟨G331,3,none⟩ (.bool a0_3)).setCell ⟨G331,4,none⟩ (.int .i64 a0_4))) ?hg ?ho ?hn ?hr ?_;(case ho => rfl);(case hg => rfl);(case hn => rfl);(case hr => first|(go_simp;done)|(go_simp;rfl));intro w37 hw;replace HO_331001 : Aside0 (RD w37 base (.slice A0_1 l0_1.length c0_1) l0_1):=⟨(by rw [hw];exact (rX1 HO_331001 K331 (Nat.le_trans hbase GE331.1)))⟩;replace HO_331002 : Aside0 (RD w37 base (.slice A0_2 l0_2.length c0_2) l0_2):=⟨(by rw [hw];exact (rX1 HO_331002 K331 (Nat.le_trans hbase GE331.1)))⟩;replace K330:=zV hw K330;replace K331:=zVp hw (.cells #[.int .u64 a0_0,.slice A0_1 l0_1.length c0_1,.slice A0_2 l0_2.length c0_2,.bool a0_3,.int .i64 a0_4] 39 (0,0)) K331;replace HB:=zU hw HB;clear hw))
       refine bodyPost_ret (results_list (rs:=[.cell 4 39,.tmp 5,.tmp 6,.tmp 7]) rfl (by simp) (.cell G331 39 #[.int .u64 a0_0,.slice A0_1 l0_1.length c0_1,.slice A0_2 l0_2.length c0_2,.bool a0_3,.int .i64 a0_4] (0,0) _ rfl (zF K331) Try.underlying39 rfl (by kernel_rfl) (.tmp (.tmp (.tmp .nil))))) rfl ?_;exact ⟨_,_,_,by first|rfl|(simp [errW_none,errW_some] <;> rfl)|(simp [*,errW_none,errW_some] <;> rfl),(rX HO_331001),(rX HO_331002),RD.nil _ _,zH HB⟩
      ·replace c33:=Bool.eq_false_iff.mpr c33;subst c33;rw [if_neg (show ¬ (false = true) by decide)] at H;by_cases c38 : a0_0 = 18446744073709551615
       ·rw [if_pos c38] at H;have c38b0 : (a0_0 == 18446744073709551615) = true:=beq_iff_eq.mpr c38;have c38b1 : (a0_0 != 18446744073709551615) = false:=bne_eq_false_iff_eq.mpr c38;clear c38;simp only [Option.some.injEq,Prod.mk.injEq] at H;obtain ⟨rfl,rfl,rfl,rfl,rfl,rfl,rfl,rfl⟩:=H;have:=NB330_331.1;have:=NB331_330.1;obtain ⟨_,_,_,_,_,_,_,_,_,_⟩:=zc5 K330;obtain ⟨_,_,_,_,_,_,_,_,_,_⟩:=zc5 K331;go_wp2_with (first|((with_reducible refine gate_store (t:=39) (p:=4) rfl ?_);refine store_event (t:=39) (p:=4) (v:=?vo_w42) (w1:=(((((wc.setCell ⟨G331,0,none⟩ (.int .u64 a0_0)).setCell ⟨G331,1,none⟩ (.slice A0_1 l0_1.length c0_1)).setCell ⟨G331,2,none⟩ (.slice A0_2 l0_2.length c0_2)).setCell ⟨G331,3,none⟩ (.bool a0_3)).setCell ⟨G331,4,none⟩ (.int .i64 a0_4))) ?hg ?ho ?hn ?hr ?_;(case ho => rfl);(case hg => rfl);(case hn => rfl);(case hr => first|(go_simp;done)|(go_simp;rfl));intro w42 hw;replace HO_331001 : Aside0 (RD w42 base (.slice A0_1 l0_1.length c0_1) l0_1):=⟨(by rw [hw];exact (rX1 HO_331001 K331 (Nat.le_trans hbase GE331.1)))⟩;replace HO_331002 : Aside0 (RD w42 base (.slice A0_2 l0_2.length c0_2) l0_2):=⟨(by rw [hw];exact (rX1 HO_331002 K331 (Nat.le_trans hbase GE331.1)))⟩;replace K330:=zV hw K330;replace K331:=zVp hw (.cells #[.int .u64 a0_0,.slice A0_1 l0_1.length c0_1,.slice A0_2 l0_2.length c0_2,.bool a0_3,.int .i64 a0_4] 39 (0,0)) K331;replace HB:=zU hw HB;clear hw))
        refine bodyPost_ret (results_list (rs:=[.cell 4 39,.tmp 5,.tmp 6,.tmp 7]) rfl (by simp) (.cell G331 39 #[.int .u64 a0_0,.slice A0_1 l0_1.length c0_1,.slice A0_2 l0_2.length c0_2,.bool a0_3,.int .i64 a0_4] (0,0) _ rfl (zF K331) Try.underlying39 rfl (by kernel_rfl) (.tmp (.tmp (.tmp .nil))))) rfl ?_;exact ⟨_,_,_,by first|rfl|(simp [errW_none,errW_some] <;> rfl)|(simp [*,errW_none,errW_some] <;> rfl),(rX HO_331001),(rX HO_331002),RD.nil _ _,zH HB⟩
       ·rw [if_neg c38] at H;have c38b0 : (a0_0 == 18446744073709551615) = false:=beq_eq_false_iff_ne.mpr c38;have c38b1 : (a0_0 != 18446744073709551615) = true:=bne_iff_ne.mpr c38;replace H:=Option.bind_eq_some_iff.mp H;obtain ⟨t335,A430,H⟩:=H;(try dsimp only at H);have A43:=zA A430;clear A430;by_cases c44 : (t335.length : Int) > 512
        ·rw [if_pos c44] at H;have c44b0 : decide (512 < (t335.length : Int)) = true:=decide_eq_true c44;have c44b1 : decide (512 < t335.length) = true:=decide_eq_true (by omega);clear c44;by_cases c45 : 512 ≤ (t335.length : Int)
         ·rw [if_pos c45] at H;have c45b0:=eq_true c45;have c45b1 : decide (512 ≤ (t335.length : Int)) = true:=decide_eq_true c45;clear c45;obtain ⟨y338,hy338⟩ : ∃ y_ : List (S61),y_ = (t335.take (512 : Int).toNat):=⟨_,rfl⟩;replace H : (some (IntKind.u64.wrap (a0_0 + 1),l0_1,y338,true,0,y338,true,0)) = some (r1,r2,r3,r4,r5,r6,r7,r8):=by first|(rw [hy338];with_reducible exact H)|(have H2_:=(Option.bind_some _ _).symm.trans H;rw [hy338];with_reducible exact H2_)|(have H2_:=(Option.bind_some _ _).symm.trans H;with_reducible exact H2_)|with_reducible exact H|(rw [hy338];exact H)|exact H
          have Ny338:=zA hy338;clear hy338;simp only [Option.some.injEq,Prod.mk.injEq] at H;obtain ⟨rfl,rfl,rfl,rfl,rfl,rfl,rfl,rfl⟩:=H;have:=NB330_331.1;have:=NB331_330.1;obtain ⟨_,_,_,_,_,_,_,_,_,_⟩:=zc5 K330;go_wp2_with (first|((with_reducible refine gate_callee (f:=32) rfl ?_);refine zg (some 34) Try.func32 #[.slice A0_1 l0_1.length c0_1,.slice A1 l1.length c1] ?_;(with_reducible refine (beaconref14_diff.calls kj24 _ _ l0_1 _ _ l1 t335 _ ?side1 ?side2 ?side3 ?side4 A43.out).mono ?_);(case side1 => exact zC (RD.reads HO_331001.out).2);(case side2 => exact (RD.reads HO_331001.out).1);(case side3 => exact zC (Kd.C_below HR1.out HB.1));(case side4 => exact HC1.out);rintro e w48 ⟨v336,rfl,ho0,hb⟩;refine ⟨_,rfl,?_⟩;have HO337:=zA (RD.of (base:=base) ho0);replace HO_331001:=rb HO_331001 hb;replace HO_331002:=rb HO_331002 hb;replace K330:=zB K330 hb;replace K331:=zB K331 hb;replace HB:=zS HB hb;(try clear hb);(try clear ho0);obtain ⟨Ao49,co49,eo49⟩:=RD.slice HO337.out;subst eo49;have q50 : (512 : Int) ≤ ((t335.length : Int) : Int):=zd;obtain ⟨i050,hi050,_,hsz50,_⟩:=info_parts info61;have hcut50:=cut_to (P:=Try.prog) 30 61 .i64 Try.underlying30 hi050 Ao49 t335.length co49 512 (by omega) q50 (RD.reads HO337.out).1;have hr50:=RD.take (m:=(512 : Int).toNat) HO337.out (by omega);have hy50 : y338.length = (512 : Int).toNat:=(by rw [Ny338.out,List.length_take];omega);rw [← Ny338.out] at hr50;rw [← hy50] at hr50 hcut50;clear hy50 hi050 hsz50 HO337;have HO340:=zA hr50;clear hr50;replace q50:=eq_true q50;obtain ⟨_,_,_,_,_,_,_,_,_,_⟩:=zc5 K330)|((with_reducible refine gate_store (t:=4) (p:=46) rfl ?_);refine store_event (t:=4) (p:=46) (v:=?vo_w52) (w1:=(((w48.setCell ⟨G330,0,none⟩ (.int .u64 (IntKind.u64.wrap (a0_0 + 1)))).setCell ⟨G330,2,none⟩ (.slice Ao49 y338.length co49)).setCell ⟨G330,3,none⟩ (.bool true))) ?hg ?ho ?hn ?hr ?_;(case ho => rfl);(case hg => rfl);(case hn => rfl);(case hr => first|(go_simp;done)|(go_simp;rfl));intro w52 hw;replace HO_331001 : Aside0 (RD w52 base (.slice A0_1 l0_1.length c0_1) l0_1):=⟨(by rw [hw];exact (rX1 HO_331001 K330 (Nat.le_trans hbase GE330.1)))⟩;replace HO_331002 : Aside0 (RD w52 base (.slice A0_2 l0_2.length c0_2) l0_2):=⟨(by rw [hw];exact (rX1 HO_331002 K330 (Nat.le_trans hbase GE330.1)))⟩;replace HO340 : Aside0 (RD w52 base (.slice Ao49 y338.length co49) y338):=⟨(by rw [hw];exact (rX1 HO340 K330 (Nat.le_trans hbase GE330.1)))⟩;replace K330:=zVp hw (.cells #[.int .u64 (IntKind.u64.wrap (a0_0 + 1)),.slice A0_1 l0_1.length c0_1,.slice Ao49 y338.length co49,.bool true,.int .i64 a0_4] 39 (0,0)) K330;replace K331:=zV hw K331;replace HB:=zU hw HB;clear hw;obtain ⟨_,_,_,_,_,_,_,_,_,_⟩:=zc5 K330;obtain ⟨_,_,_,_,_,_,_,_,_,_⟩:=zc5 K331)|((with_reducible refine gate_store (t:=39) (p:=4) rfl ?_);refine store_event (t:=39) (p:=4) (v:=?vo_w55) (w1:=((((((w52.setCell ⟨G330,4,none⟩ (.int .i64 0)).setCell ⟨G331,0,none⟩ (.int .u64 (IntKind.u64.wrap (a0_0 + 1)))).setCell ⟨G331,1,none⟩ (.slice A0_1 l0_1.length c0_1)).setCell ⟨G331,2,none⟩ (.slice Ao49 y338.length co49)).setCell ⟨G331,3,none⟩ (.bool true)).setCell ⟨G331,4,none⟩ (.int .i64 0))) ?hg ?ho ?hn ?hr ?_;(case ho => rfl);(case hg => rfl);(case hn => rfl);(case hr => first|(go_simp;done)|(go_simp;rfl));intro w55 hw;replace HO_331001 : Aside0 (RD w55 base (.slice A0_1 l0_1.length c0_1) l0_1):=⟨(by rw [hw];exact (rX2 HO_331001 K330 (Nat.le_trans hbase GE330.1) K331 (Nat.le_trans hbase GE331.1)))⟩;replace HO_331002 : Aside0 (RD w55 base (.slice A0_2 l0_2.length c0_2) l0_2):=⟨(by rw [hw];exact (rX2 HO_331002 K330 (Nat.le_trans hbase GE330.1) K331 (Nat.le_trans hbase GE331.1)))⟩;replace HO340 : Aside0 (RD w55 base (.slice Ao49 y338.length co49) y338):=⟨(by rw [hw];exact (rX2 HO340 K330 (Nat.le_trans hbase GE330.1) K331 (Nat.le_trans hbase GE331.1)))⟩;replace K330:=zVp hw (.cells #[.int .u64 (IntKind.u64.wrap (a0_0 + 1)),.slice A0_1 l0_1.length c0_1,.slice Ao49 y338.length co49,.bool true,.int .i64 0] 39 (0,0)) K330;replace K331:=zVp hw (.cells #[.int .u64 (IntKind.u64.wrap (a0_0 + 1)),.slice A0_1 l0_1.length c0_1,.slice Ao49 y338.length co49,.bool true,.int .i64 0] 39 (0,0)) K331;replace HB:=zU hw HB;clear hw))
          refine bodyPost_ret (results_list (rs:=[.cell 4 39,.tmp 5,.tmp 6,.tmp 7]) rfl (by simp) (.cell G331 39 #[.int .u64 (IntKind.u64.wrap (a0_0 + 1)),.slice A0_1 l0_1.length c0_1,.slice Ao49 y338.length co49,.bool true,.int .i64 0] (0,0) _ rfl (zF K331) Try.underlying39 rfl (by kernel_rfl) (.tmp (.tmp (.tmp .nil))))) rfl ?_;exact ⟨_,_,_,by first|rfl|(simp [errW_none,errW_some] <;> rfl)|(simp [*,errW_none,errW_some] <;> rfl),(rX HO_331001),(rX HO340),(rX HO340),zH HB⟩
         ·rw [if_neg c45] at H;exact absurd H (by simp)
        ·rw [if_neg c44] at H;have c44b0 : decide (512 < (t335.length : Int)) = false:=decide_eq_false c44;have c44b1 : decide (512 < t335.length) = false:=decide_eq_false (by omega);clear c44;simp only [Option.some.injEq,Prod.mk.injEq] at H;obtain ⟨rfl,rfl,rfl,rfl,rfl,rfl,rfl,rfl⟩:=H;have:=NB330_331.1;have:=NB331_330.1;obtain ⟨_,_,_,_,_,_,_,_,_,_⟩:=zc5 K330;go_wp2_with (first|((with_reducible refine gate_callee (f:=32) rfl ?_);refine zg (some 34) Try.func32 #[.slice A0_1 l0_1.length c0_1,.slice A1 l1.length c1] ?_;(with_reducible refine (beaconref14_diff.calls kj24 _ _ l0_1 _ _ l1 t335 _ ?side1 ?side2 ?side3 ?side4 A43.out).mono ?_);(case side1 => exact zC (RD.reads HO_331001.out).2);(case side2 => exact (RD.reads HO_331001.out).1);(case side3 => exact zC (Kd.C_below HR1.out HB.1));(case side4 => exact HC1.out);rintro e w58 ⟨v336,rfl,ho0,hb⟩;refine ⟨_,rfl,?_⟩;have HO337:=zA (RD.of (base:=base) ho0);replace HO_331001:=rb HO_331001 hb;replace HO_331002:=rb HO_331002 hb;replace K330:=zB K330 hb;replace K331:=zB K331 hb;replace HB:=zS HB hb;(try clear hb);(try clear ho0);obtain ⟨Ao59,co59,eo59⟩:=RD.slice HO337.out;subst eo59;obtain ⟨_,_,_,_,_,_,_,_,_,_⟩:=zc5 K330)|((with_reducible refine gate_store (t:=4) (p:=46) rfl ?_);refine store_event (t:=4) (p:=46) (v:=?vo_w61) (w1:=(((w58.setCell ⟨G330,0,none⟩ (.int .u64 (IntKind.u64.wrap (a0_0 + 1)))).setCell ⟨G330,2,none⟩ (.slice Ao59 t335.length co59)).setCell ⟨G330,3,none⟩ (.bool true))) ?hg ?ho ?hn ?hr ?_;(case ho => rfl);(case hg => rfl);(case hn => rfl);(case hr => first|(go_simp;done)|(go_simp;rfl));intro w61 hw;replace HO_331001 : Aside0 (RD w61 base (.slice A0_1 l0_1.length c0_1) l0_1):=⟨(by rw [hw];exact (rX1 HO_331001 K330 (Nat.le_trans hbase GE330.1)))⟩;replace HO_331002 : Aside0 (RD w61 base (.slice A0_2 l0_2.length c0_2) l0_2):=⟨(by rw [hw];exact (rX1 HO_331002 K330 (Nat.le_trans hbase GE330.1)))⟩;replace HO337 : Aside0 (RD w61 base (.slice Ao59 t335.length co59) t335):=⟨(by rw [hw];exact (rX1 HO337 K330 (Nat.le_trans hbase GE330.1)))⟩;replace K330:=zVp hw (.cells #[.int .u64 (IntKind.u64.wrap (a0_0 + 1)),.slice A0_1 l0_1.length c0_1,.slice Ao59 t335.length co59,.bool true,.int .i64 a0_4] 39 (0,0)) K330;replace K331:=zV hw K331;replace HB:=zU hw HB;clear hw;obtain ⟨_,_,_,_,_,_,_,_,_,_⟩:=zc5 K330;obtain ⟨_,_,_,_,_,_,_,_,_,_⟩:=zc5 K331)|((with_reducible refine gate_store (t:=39) (p:=4) rfl ?_);refine store_event (t:=39) (p:=4) (v:=?vo_w64) (w1:=((((((w61.setCell ⟨G330,4,none⟩ (.int .i64 0)).setCell ⟨G331,0,none⟩ (.int .u64 (IntKind.u64.wrap (a0_0 + 1)))).setCell ⟨G331,1,none⟩ (.slice A0_1 l0_1.length c0_1)).setCell ⟨G331,2,none⟩ (.slice Ao59 t335.length co59)).setCell ⟨G331,3,none⟩ (.bool true)).setCell ⟨G331,4,none⟩ (.int .i64 0))) ?hg ?ho ?hn ?hr ?_;(case ho => rfl);(case hg => rfl);(case hn => rfl);(case hr => first|(go_simp;done)|(go_simp;rfl));intro w64 hw;replace HO_331001 : Aside0 (RD w64 base (.slice A0_1 l0_1.length c0_1) l0_1):=⟨(by rw [hw];exact (rX2 HO_331001 K330 (Nat.le_trans hbase GE330.1) K331 (Nat.le_trans hbase GE331.1)))⟩;replace HO_331002 : Aside0 (RD w64 base (.slice A0_2 l0_2.length c0_2) l0_2):=⟨(by rw [hw];exact (rX2 HO_331002 K330 (Nat.le_trans hbase GE330.1) K331 (Nat.le_trans hbase GE331.1)))⟩;replace HO337 : Aside0 (RD w64 base (.slice Ao59 t335.length co59) t335):=⟨(by rw [hw];exact (rX2 HO337 K330 (Nat.le_trans hbase GE330.1) K331 (Nat.le_trans hbase GE331.1)))⟩;replace K330:=zVp hw (.cells #[.int .u64 (IntKind.u64.wrap (a0_0 + 1)),.slice A0_1 l0_1.length c0_1,.slice Ao59 t335.length co59,.bool true,.int .i64 0] 39 (0,0)) K330;replace K331:=zVp hw (.cells #[.int .u64 (IntKind.u64.wrap (a0_0 + 1)),.slice A0_1 l0_1.length c0_1,.slice Ao59 t335.length co59,.bool true,.int .i64 0] 39 (0,0)) K331;replace HB:=zU hw HB;clear hw))
         refine bodyPost_ret (results_list (rs:=[.cell 4 39,.tmp 5,.tmp 6,.tmp 7]) rfl (by simp) (.cell G331 39 #[.int .u64 (IntKind.u64.wrap (a0_0 + 1)),.slice A0_1 l0_1.length c0_1,.slice Ao59 t335.length co59,.bool true,.int .i64 0] (0,0) _ rfl (zF K331) Try.underlying39 rfl (by kernel_rfl) (.tmp (.tmp (.tmp .nil))))) rfl ?_;exact ⟨_,_,_,by first|rfl|(simp [errW_none,errW_some] <;> rfl)|(simp [*,errW_none,errW_some] <;> rfl),(rX HO_331001),(rX HO337),(rX HO337),zH HB⟩

/-! ### beaconref14_merge: function 36 -/
mutual
def beaconref14_merge.l0 : Nat → List (S61) → List (S61) → List (S61) → Int → Option ((List (S61)))
 | 0, _, _, _, _ => none
 | k + 1, x0, x1, x5, x6 => if x6 < (x0.length : Int) then (if 0 ≤ x6 then ((beaconref14_place.f k x1 ((rd_T61 x0 x6).f0) ((rd_T61 x0 x6).f1) ((rd_T61 x0 x6).f2) ((rd_T61 x0 x6).f3) ((rd_T61 x0 x6).f4)).bind fun t342 => (if t342 < 0 then (if x5.length < 3518437208883 then (beaconref14_merge.l0 k x0 x1 (x5 ++ [(⟨(rd_T61 x0 x6).f0, (rd_T61 x0 x6).f1, (rd_T61 x0 x6).f2, (rd_T61 x0 x6).f3, (rd_T61 x0 x6).f4⟩ : S61)]) (wrap64 (x6 + 1))) else (none)) else (beaconref14_merge.l0 k x0 x1 x5 (wrap64 (x6 + 1))))) else (none)) else (beaconref14_merge.l1 k x1 x5 0)
def beaconref14_merge.l1 : Nat → List (S61) → List (S61) → Int → Option ((List (S61)))
 | 0, _, _, _ => none
 | k + 1, x1, x5, x7 => if x7 < (x1.length : Int) then (if 0 ≤ x7 then ((math_IsInf.f ((rd_T61 x1 x7).f2) 1).bind fun t348 => (if t348 = true then (beaconref14_merge.l1 k x1 x5 (wrap64 (x7 + 1))) else ((beaconref14_put.f k x5 ((rd_T61 x1 x7).f0) ((rd_T61 x1 x7).f1) ((rd_T61 x1 x7).f2) ((rd_T61 x1 x7).f3) ((rd_T61 x1 x7).f4)).bind fun t350 => (beaconref14_merge.l1 k x1 t350 (wrap64 (x7 + 1)))))) else (none)) else (some x5)
end
def beaconref14_merge.f (k : Nat) (l0 : List (S61)) (l1 : List (S61)) : Option ((List (S61))) := beaconref14_merge.l0 k l0 l1 ([] : List (S61)) 0
theorem beaconref14_merge.mono_l : ∀ k, (∀ y0 y1 y2 y3, LeO (beaconref14_merge.l0 k y0 y1 y2 y3) (beaconref14_merge.l0 (k + 1) y0 y1 y2 y3)) ∧ (∀ y0 y1 y2, LeO (beaconref14_merge.l1 k y0 y1 y2) (beaconref14_merge.l1 (k + 1) y0 y1 y2))
 | 0 => ⟨fun _ _ _ _ r h => by simp [beaconref14_merge.l0] at h, fun _ _ _ r h => by simp [beaconref14_merge.l1] at h⟩
 | k + 1 => by
  obtain ⟨ih0,ih1⟩:=beaconref14_merge.mono_l k
  refine ⟨?_,?_⟩
  ·intro y0 y1 y2 y3
   unfold beaconref14_merge.l0
   repeat' first
   | (with_reducible exact ih0 _ _ _ _)
   | (with_reducible exact ih1 _ _ _)
   | (with_reducible exact beaconref14_place.mono _ _ _ _ _ _ _)
   | (with_reducible exact beaconref14_put.mono _ _ _ _ _ _ _)
   | (with_reducible exact LeO.refl _)
   | (with_reducible exact LeO.none _)
   | (with_reducible refine LeO.ite ?_ ?_)
   | (with_reducible refine LeO.bind ?_ (fun _ => ?_))
   | exact ih0 _ _ _ _
   | exact ih1 _ _ _
   | exact beaconref14_place.mono _ _ _ _ _ _ _
   | exact beaconref14_put.mono _ _ _ _ _ _ _
   | exact LeO.none _
   | refine LeO.ite ?_ ?_
   | refine LeO.bind ?_ (fun _ => ?_)
  ·intro y0 y1 y2
   unfold beaconref14_merge.l1
   repeat' first
   | (with_reducible exact ih0 _ _ _ _)
   | (with_reducible exact ih1 _ _ _)
   | (with_reducible exact beaconref14_place.mono _ _ _ _ _ _ _)
   | (with_reducible exact beaconref14_put.mono _ _ _ _ _ _ _)
   | (with_reducible exact LeO.refl _)
   | (with_reducible exact LeO.none _)
   | (with_reducible refine LeO.ite ?_ ?_)
   | (with_reducible refine LeO.bind ?_ (fun _ => ?_))
   | exact ih0 _ _ _ _
   | exact ih1 _ _ _
   | exact beaconref14_place.mono _ _ _ _ _ _ _
   | exact beaconref14_put.mono _ _ _ _ _ _ _
   | exact LeO.none _
   | refine LeO.ite ?_ ?_
   | refine LeO.bind ?_ (fun _ => ?_)
theorem beaconref14_merge.mono : ∀ a0 a1 k, LeO (beaconref14_merge.f k a0 a1) (beaconref14_merge.f (k + 1) a0 a1) := by
 intro a0 a1 k
 obtain ⟨ih0,ih1⟩:=beaconref14_merge.mono_l k
 unfold beaconref14_merge.f
 repeat' first
   | (with_reducible exact ih0 _ _ _ _)
   | (with_reducible exact ih1 _ _ _)
   | (with_reducible exact beaconref14_place.mono _ _ _ _ _ _ _)
   | (with_reducible exact beaconref14_put.mono _ _ _ _ _ _ _)
   | (with_reducible exact LeO.refl _)
   | (with_reducible exact LeO.none _)
   | (with_reducible refine LeO.ite ?_ ?_)
   | (with_reducible refine LeO.bind ?_ (fun _ => ?_))
   | exact ih0 _ _ _ _
   | exact ih1 _ _ _
   | exact beaconref14_place.mono _ _ _ _ _ _ _
   | exact beaconref14_put.mono _ _ _ _ _ _ _
   | exact LeO.none _
   | refine LeO.ite ?_ ?_
   | refine LeO.bind ?_ (fun _ => ?_)
set_option maxHeartbeats 8000000 in
set_option maxRecDepth 100000 in
theorem beaconref14_merge.calls (k : Nat) (A0 : Option Addr) (c0 : Nat) (l0 : List (S61)) (A1 : Option Addr) (c1 : Nat) (l1 : List (S61)) (r : List (S61)) (w : World) (hr0 : Kd.C k61 w A0 l0.length l0) (hc0 : l0.length ≤ c0) (hr1 : Kd.C k61 w A1 l1.length l1) (hc1 : l1.length ≤ c1) (h : beaconref14_merge.f k l0 l1 = some r) :
  Calls Try.prog 36 #[.slice A0 l0.length c0,.slice A1 l1.length c1] w fun e w' => ∃ v0_ : Value,e = .returned (v0_) ∧ Kd.R k61 61 w' w.heap.size (fun _ => True) v0_ r ∧ Below w.heap.size w w':=by
 have hu61:=Try.underlying61;have HR0:=zA hr0;have HC0:=zA hc0;clear hr0 hc0;have HR1:=zA hr1;have HC1:=zA hc1;clear hr1 hc1;have HB:=zA (Below.refl w.heap.size w);have H : (beaconref14_merge.l0 k l0 l1 ([] : List (S61)) 0) = some r:=h;clear h;have H':=zA H;clear H;go_enter Try.func36,Try.ntmps36
 go_wp2
 go_loopg [5,6] k (fun kq v5 v6 w' => ∃ (x5_1 : List (S61)) (x6_1 : Int),v6 = .int .i64 x6_1 ∧ Aside0 (beaconref14_merge.l0 kq l0 l1 x5_1 x6_1 = some r) ∧ Aside0 (kq ≤ k) ∧ Aside0 (Kd.R k61 61 w' w.heap.size (fun _ => True) v5 x5_1) ∧ Aside0 (Below w.heap.size w w'))
 case atStart => exact ⟨(([] : List (S61))),(0),ze,H',⟨Nat.le_refl _⟩,⟨by first|exact Kd.R_nil _ _ _ _ _|exact Kd.N_nil _ _ _ _ _|exact Kd.V_nil _ _ _ _ _|exact Kd.Q_nil _ _ _ _ _|exact Kd.S_nil _ _ _ _ _⟩,⟨zH HB⟩⟩
 case round =>
  clear H';try clear c1
  obtain ⟨x5_1,x6_1,rfl,HA,HK1,HO_5,HB⟩:=hrel;cases gk with
  | zero => exact absurd HA.out (by simp [beaconref14_merge.l0])
  | succ k1 =>
   have H:=HA.out;clear HA;simp only [beaconref14_merge.l0] at H;by_cases c3 : x6_1 < (l0.length : Int)
   ·rw [if_pos c3] at H;have c3b0 : decide (x6_1 < (l0.length : Int)) = true:=decide_eq_true c3;clear c3;by_cases c4 : 0 ≤ x6_1
    ·rw [if_pos c4] at H;have c4b0 : decide (0 ≤ x6_1) = true:=decide_eq_true c4;clear c4;replace H:=Option.bind_eq_some_iff.mp H;obtain ⟨t342,A50,H⟩:=H;(try dsimp only at H);have A5:=zA A50;clear A50;by_cases c6 : t342 < 0
     ·rw [if_pos c6] at H;have c6b0 : decide (t342 < 0) = true:=decide_eq_true c6;clear c6;by_cases c7 : x5_1.length < 3518437208883
      ·rw [if_pos c7] at H;have LMc7:=zA c7;clear c7;obtain ⟨y344,hy344⟩ : ∃ y_ : List (S61),y_ = (x5_1 ++ [(⟨(rd_T61 l0 x6_1).f0,(rd_T61 l0 x6_1).f1,(rd_T61 l0 x6_1).f2,(rd_T61 l0 x6_1).f3,(rd_T61 l0 x6_1).f4⟩ : S61)]):=⟨_,rfl⟩;replace H : (beaconref14_merge.l0 k1 l0 l1 y344 (wrap64 (x6_1 + 1))) = some r:=by first|(rw [hy344];with_reducible exact H)|(have H2_:=(Option.bind_some _ _).symm.trans H;rw [hy344];with_reducible exact H2_)|(have H2_:=(Option.bind_some _ _).symm.trans H;with_reducible exact H2_)|with_reducible exact H|(rw [hy344];exact H)|exact H
       have Ny344:=zA hy344;clear hy344;have H':=zA H;clear H;have p341 : 0 ≤ (x6_1 : Int):=zd;have q341 : x6_1 < (l0.length : Int):=zd;obtain ⟨ad341,e341,hx341_0,hx341_1,hx341_2,hx341_3,hx341_4⟩:=at_T61 HR0.out x6_1 p341 q341;cases e341;replace hx341_0:=zh HB hx341_0;replace hx341_1:=zh HB hx341_1;replace hx341_2:=zh HB hx341_2;replace hx341_3:=zh HB hx341_3;replace hx341_4:=zh HB hx341_4;replace p341:=eq_true p341;replace q341:=eq_true q341;go_wp2_with (first|((with_reducible refine gate_callee (f:=45) rfl ?_);refine zg (some 19) Try.func45 #[.slice A1 l1.length c1,.agg #[.int .i64 ((rd_T61 l0 x6_1).f0),.int .i64 ((rd_T61 l0 x6_1).f1),.float .f64 ((rd_T61 l0 x6_1).f2),.float .f64 ((rd_T61 l0 x6_1).f3),.int .i64 ((rd_T61 l0 x6_1).f4)]] ?_;(with_reducible refine (beaconref14_place.calls k1 _ _ l1 ((rd_T61 l0 x6_1).f0) ((rd_T61 l0 x6_1).f1) ((rd_T61 l0 x6_1).f2) ((rd_T61 l0 x6_1).f3) ((rd_T61 l0 x6_1).f4) t342 _ ?side1 ?side2 A5.out).mono ?_);(case side1 => exact zC (Kd.C_below HR1.out HB.1));(case side2 => exact HC1.out);rintro e w8 ⟨rfl,hb⟩;refine ⟨_,rfl,?_⟩;replace HO_5:=zRb HO_5 hb;replace HB:=zS HB hb;(try clear hb);have p343 : 0 ≤ (x6_1 : Int):=zd;have q343 : x6_1 < (l0.length : Int):=zd;obtain ⟨ad343,e343,hx343_0,hx343_1,hx343_2,hx343_3,hx343_4⟩:=at_T61 HR0.out x6_1 p343 q343;obtain rfl : ad341 = ad343:=(by injection e343);replace hx343_0:=zh HB hx343_0;replace hx343_1:=zh HB hx343_1;replace hx343_2:=zh HB hx343_2;replace hx343_3:=zh HB hx343_3;replace hx343_4:=zh HB hx343_4;replace p343:=eq_true p343;replace q343:=eq_true q343)|((with_reducible refine gate_builtin (b:=.append) (xs:=#[.tmp 21,.tmp 26]) rfl ?_);at_builtin;refine Kd.R_append k61 (w0:=w) w.heap.size rfl (.tmp 21) (.tmp 26) 30 61 (.agg #[(.int .i64 0),(.int .i64 0),(.float .f64 0),(.float .f64 0),(.int .i64 0)]) 40 rfl Try.underlying30 info61 rfl (by decide) (by omega) u5 x5_1 (⟨(rd_T61 l0 x6_1).f0,(rd_T61 l0 x6_1).f1,(rd_T61 l0 x6_1).f2,(rd_T61 l0 x6_1).f3,(rd_T61 l0 x6_1).f4⟩ : S61) [.int .i64 ((rd_T61 l0 x6_1).f0),.int .i64 ((rd_T61 l0 x6_1).f1),.float .f64 ((rd_T61 l0 x6_1).f2),.float .f64 ((rd_T61 l0 x6_1).f3),.int .i64 ((rd_T61 l0 x6_1).f4)] (fun _ => True) (fun _ => False) rfl rfl ?aP (fun _ hk => hk.elim) ?aF ?aO ?aB ?aS ?aL ?_;(case aP => exact k61_mkM _ _ _ (⟨(rd_T61 l0 x6_1).f0,(rd_T61 l0 x6_1).f1,(rd_T61 l0 x6_1).f2,(rd_T61 l0 x6_1).f3,(rd_T61 l0 x6_1).f4⟩ : S61));(case aB => exact (zH HB));(case aF => exact (fun _ _ => trivial));(case aO => exact (zR HO_5));(case aS => exact (zW HB));(case aL => have:=LMc7.out;omega);intro v345 w9 ho hb hg hat;rw [← Ny344.out] at ho;replace HB:=zA (hb);have HO346:=zA (ho);clear HO_5;clear ho hb hg hat))
       go_roundg k1
       case measure => have:=HK1.out;omega
       case rel => exact ⟨(y344),(wrap64 (x6_1 + 1)),ze,H',⟨by have:=HK1.out;omega⟩,⟨zR HO346⟩,⟨zH HB⟩⟩
      ·rw [if_neg c7] at H;exact absurd H (by simp)
     ·rw [if_neg c6] at H;have c6b0 : decide (t342 < 0) = false:=decide_eq_false c6;clear c6;have H':=zA H;clear H;have p341 : 0 ≤ (x6_1 : Int):=zd;have q341 : x6_1 < (l0.length : Int):=zd;obtain ⟨ad341,e341,hx341_0,hx341_1,hx341_2,hx341_3,hx341_4⟩:=at_T61 HR0.out x6_1 p341 q341;cases e341;replace hx341_0:=zh HB hx341_0;replace hx341_1:=zh HB hx341_1;replace hx341_2:=zh HB hx341_2;replace hx341_3:=zh HB hx341_3;replace hx341_4:=zh HB hx341_4;replace p341:=eq_true p341;replace q341:=eq_true q341;go_wp2_with (first|((with_reducible refine gate_callee (f:=45) rfl ?_);refine zg (some 19) Try.func45 #[.slice A1 l1.length c1,.agg #[.int .i64 ((rd_T61 l0 x6_1).f0),.int .i64 ((rd_T61 l0 x6_1).f1),.float .f64 ((rd_T61 l0 x6_1).f2),.float .f64 ((rd_T61 l0 x6_1).f3),.int .i64 ((rd_T61 l0 x6_1).f4)]] ?_;(with_reducible refine (beaconref14_place.calls k1 _ _ l1 ((rd_T61 l0 x6_1).f0) ((rd_T61 l0 x6_1).f1) ((rd_T61 l0 x6_1).f2) ((rd_T61 l0 x6_1).f3) ((rd_T61 l0 x6_1).f4) t342 _ ?side1 ?side2 A5.out).mono ?_);(case side1 => exact zC (Kd.C_below HR1.out HB.1));(case side2 => exact HC1.out);rintro e w10 ⟨rfl,hb⟩;refine ⟨_,rfl,?_⟩;replace HO_5:=zRb HO_5 hb;replace HB:=zS HB hb;(try clear hb)))
      go_roundg k1
      case measure => have:=HK1.out;omega
      case rel => exact ⟨(x5_1),(wrap64 (x6_1 + 1)),ze,H',⟨by have:=HK1.out;omega⟩,⟨zR HO_5⟩,⟨zH HB⟩⟩
    ·rw [if_neg c4] at H;exact absurd H (by simp)
   ·rw [if_neg c3] at H;have c3b0 : decide (x6_1 < (l0.length : Int)) = false:=decide_eq_false c3;clear c3;have H':=zA H;clear H;go_wp2
    go_loopg [5,7] k1 (fun kq v5 v7 w' => ∃ (x5_2 : List (S61)) (x7_2 : Int),v7 = .int .i64 x7_2 ∧ Aside0 (beaconref14_merge.l1 kq l1 x5_2 x7_2 = some r) ∧ Aside0 (kq ≤ k1) ∧ Aside0 (Kd.R k61 61 w' w.heap.size (fun _ => True) v5 x5_2) ∧ Aside0 (Below w.heap.size w w'))
    case atStart => exact ⟨(x5_1),(0),ze,H',⟨Nat.le_refl _⟩,⟨zR HO_5⟩,⟨zH HB⟩⟩
    case round =>
     clear H';try clear c1;try clear c3;try clear c3b0
     obtain ⟨x5_2,x7_2,rfl,HA,HK2,HO_5,HB⟩:=hrel;cases gk with
     | zero => exact absurd HA.out (by simp [beaconref14_merge.l1])
     | succ k2 =>
      have H:=HA.out;clear HA;simp only [beaconref14_merge.l1] at H;by_cases c11 : x7_2 < (l1.length : Int)
      ·rw [if_pos c11] at H;have c11b0 : decide (x7_2 < (l1.length : Int)) = true:=decide_eq_true c11;clear c11;by_cases c12 : 0 ≤ x7_2
       ·rw [if_pos c12] at H;have c12b0 : decide (0 ≤ x7_2) = true:=decide_eq_true c12;clear c12;replace H:=Option.bind_eq_some_iff.mp H;obtain ⟨t348,A130,H⟩:=H;(try dsimp only at H);have A13:=zA A130;clear A130;by_cases c14 : t348 = true
        ·subst c14;rw [if_pos rfl] at H;have H':=zA H;clear H;have p347 : 0 ≤ (x7_2 : Int):=zd;have q347 : x7_2 < (l1.length : Int):=zd;obtain ⟨ad347,e347,hx347_0,hx347_1,hx347_2,hx347_3,hx347_4⟩:=at_T61 HR1.out x7_2 p347 q347;cases e347;replace hx347_0:=zh HB hx347_0;replace hx347_1:=zh HB hx347_1;replace hx347_2:=zh HB hx347_2;replace hx347_3:=zh HB hx347_3;replace hx347_4:=zh HB hx347_4;replace p347:=eq_true p347;replace q347:=eq_true q347;go_wp2_with (first|((with_reducible refine gate_callee (f:=38) rfl ?_);refine zg (some 39) Try.func38 #[.float .f64 ((rd_T61 l1 x7_2).f2),.int .i64 1] ?_;(with_reducible refine (math_IsInf.calls ((rd_T61 l1 x7_2).f2) 1 true _ A13.out).mono ?_);rintro e w' ⟨rfl,⟨nd,rfl⟩⟩;refine ⟨_,rfl,?_⟩))
         go_roundg k2
         case measure => have:=HK1.out;have:=HK2.out;omega
         case rel => exact ⟨(x5_2),(wrap64 (x7_2 + 1)),ze,H',⟨by have:=HK1.out;have:=HK2.out;omega⟩,⟨zR HO_5⟩,⟨zH HB⟩⟩
        ·replace c14:=Bool.eq_false_iff.mpr c14;subst c14;rw [if_neg (show ¬ (false = true) by decide)] at H;replace H:=Option.bind_eq_some_iff.mp H;obtain ⟨t350,A150,H⟩:=H;(try dsimp only at H);have A15:=zA A150;clear A150;have H':=zA H;clear H;have p347 : 0 ≤ (x7_2 : Int):=zd;have q347 : x7_2 < (l1.length : Int):=zd;obtain ⟨ad347,e347,hx347_0,hx347_1,hx347_2,hx347_3,hx347_4⟩:=at_T61 HR1.out x7_2 p347 q347;cases e347;replace hx347_0:=zh HB hx347_0;replace hx347_1:=zh HB hx347_1;replace hx347_2:=zh HB hx347_2;replace hx347_3:=zh HB hx347_3;replace hx347_4:=zh HB hx347_4;replace p347:=eq_true p347;replace q347:=eq_true q347;go_wp2_with (first|((with_reducible refine gate_callee (f:=38) rfl ?_);refine zg (some 39) Try.func38 #[.float .f64 ((rd_T61 l1 x7_2).f2),.int .i64 1] ?_;(with_reducible refine (math_IsInf.calls ((rd_T61 l1 x7_2).f2) 1 false _ A13.out).mono ?_);rintro e w' ⟨rfl,⟨nd,rfl⟩⟩;refine ⟨_,rfl,?_⟩;have p349 : 0 ≤ (x7_2 : Int):=zd;have q349 : x7_2 < (l1.length : Int):=zd;obtain ⟨ad349,e349,hx349_0,hx349_1,hx349_2,hx349_3,hx349_4⟩:=at_T61 HR1.out x7_2 p349 q349;obtain rfl : ad347 = ad349:=(by injection e349);replace hx349_0:=zh HB hx349_0;replace hx349_1:=zh HB hx349_1;replace hx349_2:=zh HB hx349_2;replace hx349_3:=zh HB hx349_3;replace hx349_4:=zh HB hx349_4;replace p349:=eq_true p349;replace q349:=eq_true q349;obtain ⟨Ao16,co16,eo16⟩:=Kd.R_slice HO_5.out;subst eo16)|((with_reducible refine gate_callee (f:=46) rfl ?_);refine zg (some 46) Try.func46 #[.slice Ao16 x5_2.length co16,.agg #[.int .i64 ((rd_T61 l1 x7_2).f0),.int .i64 ((rd_T61 l1 x7_2).f1),.float .f64 ((rd_T61 l1 x7_2).f2),.float .f64 ((rd_T61 l1 x7_2).f3),.int .i64 ((rd_T61 l1 x7_2).f4)]] ?_;(with_reducible refine (beaconref14_put.calls k2 _ _ x5_2 ((rd_T61 l1 x7_2).f0) ((rd_T61 l1 x7_2).f1) ((rd_T61 l1 x7_2).f2) ((rd_T61 l1 x7_2).f3) ((rd_T61 l1 x7_2).f4) t350 _ ?side1 ?side2 A15.out).mono ?_);(case side1 => exact zC ((Kd.R_reads' HO_5.out).2.2));(case side2 => exact (Kd.R_reads' HO_5.out).2.1);rintro e w17 ⟨v351,rfl,ho0,hb⟩;refine ⟨_,rfl,?_⟩;have HO352:=zA (Kd.R_lower (Kd.R_new' ho0 (Kd.R_lt (zR HO_5))) (zW HB));replace HO_5:=zA (Kd.R_elder' (zR HO_5) (Kd.R_base ho0) hb);replace HB:=zS HB hb;(try clear hb);(try clear ho0)))
         go_roundg k2
         case measure => have:=HK1.out;have:=HK2.out;omega
         case rel => exact ⟨(t350),(wrap64 (x7_2 + 1)),ze,H',⟨by have:=HK1.out;have:=HK2.out;omega⟩,⟨by (with_reducible repeat (first|apply Kd.R_alloc|apply Kd.R_drewN|apply Kd.R_drew));exact Kd.R_mono HO352.out (fun _ hk => trivial)⟩,⟨zH HB⟩⟩
       ·rw [if_neg c12] at H;exact absurd H (by simp)
      ·rw [if_neg c11] at H;have c11b0 : decide (x7_2 < (l1.length : Int)) = false:=decide_eq_false c11;clear c11;obtain rfl:=Option.some.inj H;go_wp2
       go_ret
       exact ⟨_,by first|rfl|(simp [errW_none,errW_some] <;> rfl)|(simp [*,errW_none,errW_some] <;> rfl),by (with_reducible repeat (first|apply Kd.R_alloc|apply Kd.R_drewN|apply Kd.R_drew));exact HO_5.out,zH HB⟩

/-! ### beaconref14_Acked: function 26 -/
def beaconref14_Acked.f (k : Nat) (a0_0 : Int) (l0_1 : List (S61)) (l0_2 : List (S61)) (a0_3 : Bool) (a0_4 : Int) (a1 : Int) : Option (Int × (List (S61)) × (List (S61)) × Bool × Int × Bool) := (fake_cp.f a0_0 l0_1 l0_2 a0_3 a0_4).bind fun bt353 => (if bt353.2.2.2.1 = true then (if a1 = bt353.1 then ((beaconref14_merge.f k bt353.2.1 bt353.2.2.1).bind fun t364 => (some (bt353.1, t364, ([] : List (S61)), false, 0, true))) else (some (bt353.1, bt353.2.1, bt353.2.2.1, bt353.2.2.2.1, bt353.2.2.2.2, false))) else (some (bt353.1, bt353.2.1, bt353.2.2.1, bt353.2.2.2.1, bt353.2.2.2.2, false)))
theorem beaconref14_Acked.mono : ∀ a0 a1 a2 a3 a4 a5 k, LeO (beaconref14_Acked.f k a0 a1 a2 a3 a4 a5) (beaconref14_Acked.f (k + 1) a0 a1 a2 a3 a4 a5) := by
 intro a0 a1 a2 a3 a4 a5 k
 unfold beaconref14_Acked.f
 repeat' first
   | (with_reducible exact beaconref14_merge.mono _ _ _)
   | (with_reducible exact LeO.refl _)
   | (with_reducible exact LeO.none _)
   | (with_reducible refine LeO.ite ?_ ?_)
   | (with_reducible refine LeO.bind ?_ (fun _ => ?_))
   | exact beaconref14_merge.mono _ _ _
   | exact LeO.none _
   | refine LeO.ite ?_ ?_
   | refine LeO.bind ?_ (fun _ => ?_)
set_option maxHeartbeats 8000000 in
set_option maxRecDepth 100000 in
theorem beaconref14_Acked.calls (k : Nat) (a0_0 : Int) (A0_1 : Option Addr) (c0_1 : Nat) (l0_1 : List (S61)) (A0_2 : Option Addr) (c0_2 : Nat) (l0_2 : List (S61)) (a0_3 : Bool) (a0_4 : Int) (a1 : Int) (r1 : Int) (r2 : List (S61)) (r3 : List (S61)) (r4 : Bool) (r5 : Int) (r6 : Bool) (w : World) (hr0_1 : Kd.C k61 w A0_1 l0_1.length l0_1) (hc0_1 : l0_1.length ≤ c0_1) (hr0_2 : Kd.C k61 w A0_2 l0_2.length l0_2) (hc0_2 : l0_2.length ≤ c0_2) (h : beaconref14_Acked.f k a0_0 l0_1 l0_2 a0_3 a0_4 a1 = some (r1, r2, r3, r4, r5, r6)) {base : Nat} (hbase : base ≤ w.heap.size) (hd0_1 : RD w base (.slice A0_1 l0_1.length c0_1) l0_1) (hd0_2 : RD w base (.slice A0_2 l0_2.length c0_2) l0_2) :
  Calls Try.prog 26 #[.agg #[.int .u64 a0_0,.slice A0_1 l0_1.length c0_1,.slice A0_2 l0_2.length c0_2,.bool a0_3,.int .i64 a0_4],.int .u64 a1] w fun e w' => ∃ v1_ v2_ : Value,e = .returned (.tuple #[.agg #[.int .u64 r1,v1_,v2_,.bool r4,.int .i64 r5],.bool r6]) ∧ RD w' base v1_ r2 ∧ RD w' base v2_ r3 ∧ Below w.heap.size w w':=by
 have hu39:=Try.underlying39;have HR0_1:=zA hr0_1;have HC0_1:=zA hc0_1;clear hr0_1 hc0_1;have HR0_2:=zA hr0_2;have HC0_2:=zA hc0_2;clear hr0_2 hc0_2;have HB:=zA (Below.refl w.heap.size w);have H : ((fake_cp.f a0_0 l0_1 l0_2 a0_3 a0_4).bind fun bt353 => (if bt353.2.2.2.1 = true then (if a1 = bt353.1 then ((beaconref14_merge.f k bt353.2.1 bt353.2.2.1).bind fun t364 => (some (bt353.1,t364,([] : List (S61)),false,0,true))) else (some (bt353.1,bt353.2.1,bt353.2.2.1,bt353.2.2.2.1,bt353.2.2.2.2,false))) else (some (bt353.1,bt353.2.1,bt353.2.2.1,bt353.2.2.2.1,bt353.2.2.2.2,false)))) = some (r1,r2,r3,r4,r5,r6):=h;clear h;replace H:=cp_bind H;(try dsimp only at H);by_cases c4 : a0_3 = true
 ·subst c4;rw [if_pos rfl] at H;by_cases c5 : a1 = a0_0
  ·rw [if_pos c5] at H;have c5b0 : (a1 == a0_0) = true:=beq_iff_eq.mpr c5;have c5b1 : (a1 != a0_0) = false:=bne_eq_false_iff_eq.mpr c5;clear c5;replace H:=Option.bind_eq_some_iff.mp H;obtain ⟨t364,A60,H⟩:=H;(try dsimp only at H);have A6:=zA A60;clear A60;simp only [Option.some.injEq,Prod.mk.injEq] at H;obtain ⟨rfl,rfl,rfl,rfl,rfl,rfl⟩:=H;go_enter Try.func26,Try.ntmps26
   have HO356:=zA hd0_1;have HO359:=zA hd0_2;go_wp2_with (first|((with_reducible refine gate_dst (N:=2) rfl ?_);refine zb (N:=2) (cs:=#[.int .u64 a0_0,.slice A0_1 l0_1.length c0_1,.slice A0_2 l0_2.length c0_2,.bool true,.int .i64 a0_4]) (t:=39) ?_;intro G362 hg w10 hbox hb;replace HO356:=rb HO356 hb;replace HO359:=rb HO359 hb;have K362:=zA (hbox);have GW362:=zN HB hg;have GE362:=zN HB hg;replace HB:=zS HB hb;clear hb hbox hg)|((with_reducible refine gate_dst (N:=4) rfl ?_);refine zb (N:=4) (cs:=#[.int .u64 0,.slice none 0 0,.slice none 0 0,.bool false,.int .i64 0]) (t:=39) ?_;intro G363 hg w11 hbox hb;replace HO356:=rb HO356 hb;replace HO359:=rb HO359 hb;have K363:=zA (hbox);have GW363:=zN HB hg;have GE363:=zN HB hg;replace HB:=zS HB hb;have NB362_363:=zL K362 hg;have NB363_362:=zG K362 hg;replace K362:=zB K362 hb;clear hb hbox hg;have:=NB362_363.1;have:=NB363_362.1;obtain ⟨_,_,_,_,_,_,_,_,_,_⟩:=zc5 K362)|((with_reducible refine gate_callee (f:=36) rfl ?_);refine zg (some 20) Try.func36 #[.slice A0_1 l0_1.length c0_1,.slice A0_2 l0_2.length c0_2] ?_;(with_reducible refine (beaconref14_merge.calls k _ _ l0_1 _ _ l0_2 t364 _ ?side1 ?side2 ?side3 ?side4 A6.out).mono ?_);(case side1 => exact zC (RD.reads HO356.out).2);(case side2 => exact (RD.reads HO356.out).1);(case side3 => exact zC (RD.reads HO359.out).2);(case side4 => exact (RD.reads HO359.out).1);rintro e w14 ⟨v365,rfl,ho0,hb⟩;refine ⟨_,rfl,?_⟩;have HO366:=zA (RD.of (base:=base) ho0);replace HO356:=rb HO356 hb;replace HO359:=rb HO359 hb;replace K362:=zB K362 hb;replace K363:=zB K363 hb;replace HB:=zS HB hb;(try clear hb);(try clear ho0);obtain ⟨Ao15,co15,eo15⟩:=RD.slice HO366.out;subst eo15;obtain ⟨_,_,_,_,_,_,_,_,_,_⟩:=zc5 K362)|((with_reducible refine gate_store (t:=4) (p:=23) rfl ?_);refine store_event (t:=4) (p:=23) (v:=?vo_w17) (w1:=(((w14.setCell ⟨G362,1,none⟩ (.slice Ao15 t364.length co15)).setCell ⟨G362,2,none⟩ (.slice none 0 0)).setCell ⟨G362,3,none⟩ (.bool false))) ?hg ?ho ?hn ?hr ?_;(case ho => rfl);(case hg => rfl);(case hn => rfl);(case hr => first|(go_simp;done)|(go_simp;rfl));intro w17 hw;replace HO356 : Aside0 (RD w17 base (.slice A0_1 l0_1.length c0_1) l0_1):=⟨(by rw [hw];exact (rX1 HO356 K362 (Nat.le_trans hbase GE362.1)))⟩;replace HO359 : Aside0 (RD w17 base (.slice A0_2 l0_2.length c0_2) l0_2):=⟨(by rw [hw];exact (rX1 HO359 K362 (Nat.le_trans hbase GE362.1)))⟩;replace HO366 : Aside0 (RD w17 base (.slice Ao15 t364.length co15) t364):=⟨(by rw [hw];exact (rX1 HO366 K362 (Nat.le_trans hbase GE362.1)))⟩;replace K362:=zVp hw (.cells #[.int .u64 a0_0,.slice Ao15 t364.length co15,.slice none 0 0,.bool false,.int .i64 a0_4] 39 (0,0)) K362;replace K363:=zV hw K363;replace HB:=zU hw HB;clear hw;obtain ⟨_,_,_,_,_,_,_,_,_,_⟩:=zc5 K362;obtain ⟨_,_,_,_,_,_,_,_,_,_⟩:=zc5 K363)|((with_reducible refine gate_store (t:=39) (p:=4) rfl ?_);refine store_event (t:=39) (p:=4) (v:=?vo_w20) (w1:=((((((w17.setCell ⟨G362,4,none⟩ (.int .i64 0)).setCell ⟨G363,0,none⟩ (.int .u64 a0_0)).setCell ⟨G363,1,none⟩ (.slice Ao15 t364.length co15)).setCell ⟨G363,2,none⟩ (.slice none 0 0)).setCell ⟨G363,3,none⟩ (.bool false)).setCell ⟨G363,4,none⟩ (.int .i64 0))) ?hg ?ho ?hn ?hr ?_;(case ho => rfl);(case hg => rfl);(case hn => rfl);(case hr => first|(go_simp;done)|(go_simp;rfl));intro w20 hw;replace HO356 : Aside0 (RD w20 base (.slice A0_1 l0_1.length c0_1) l0_1):=⟨(by rw [hw];exact (rX2 HO356 K362 (Nat.le_trans hbase GE362.1) K363 (Nat.le_trans hbase GE363.1)))⟩;replace HO359 : Aside0 (RD w20 base (.slice A0_2 l0_2.length c0_2) l0_2):=⟨(by rw [hw];exact (rX2 HO359 K362 (Nat.le_trans hbase GE362.1) K363 (Nat.le_trans hbase GE363.1)))⟩;replace HO366 : Aside0 (RD w20 base (.slice Ao15 t364.length co15) t364):=⟨(by rw [hw];exact (rX2 HO366 K362 (Nat.le_trans hbase GE362.1) K363 (Nat.le_trans hbase GE363.1)))⟩;replace K362:=zVp hw (.cells #[.int .u64 a0_0,.slice Ao15 t364.length co15,.slice none 0 0,.bool false,.int .i64 0] 39 (0,0)) K362;replace K363:=zVp hw (.cells #[.int .u64 a0_0,.slice Ao15 t364.length co15,.slice none 0 0,.bool false,.int .i64 0] 39 (0,0)) K363;replace HB:=zU hw HB;clear hw))
   refine bodyPost_ret (results_ct rfl _ _ G363 39 #[.int .u64 a0_0,.slice Ao15 t364.length co15,.slice none 0 0,.bool false,.int .i64 0] (0,0) _ rfl (zF K363) Try.underlying39 rfl (by kernel_rfl)) rfl ?_;exact ⟨_,_,by first|rfl|(simp [errW_none,errW_some] <;> rfl)|(simp [*,errW_none,errW_some] <;> rfl),(rX HO366),RD.nil _ _,zH HB⟩
  ·rw [if_neg c5] at H;have c5b0 : (a1 == a0_0) = false:=beq_eq_false_iff_ne.mpr c5;have c5b1 : (a1 != a0_0) = true:=bne_iff_ne.mpr c5;simp only [Option.some.injEq,Prod.mk.injEq] at H;obtain ⟨rfl,rfl,rfl,rfl,rfl,rfl⟩:=H;go_enter Try.func26,Try.ntmps26
   have HO356:=zA hd0_1;have HO359:=zA hd0_2;go_wp2_with (first|((with_reducible refine gate_dst (N:=2) rfl ?_);refine zb (N:=2) (cs:=#[.int .u64 a0_0,.slice A0_1 l0_1.length c0_1,.slice A0_2 l0_2.length c0_2,.bool true,.int .i64 a0_4]) (t:=39) ?_;intro G362 hg w24 hbox hb;replace HO356:=rb HO356 hb;replace HO359:=rb HO359 hb;have K362:=zA (hbox);have GW362:=zN HB hg;have GE362:=zN HB hg;replace HB:=zS HB hb;clear hb hbox hg)|((with_reducible refine gate_dst (N:=4) rfl ?_);refine zb (N:=4) (cs:=#[.int .u64 0,.slice none 0 0,.slice none 0 0,.bool false,.int .i64 0]) (t:=39) ?_;intro G363 hg w25 hbox hb;replace HO356:=rb HO356 hb;replace HO359:=rb HO359 hb;have K363:=zA (hbox);have GW363:=zN HB hg;have GE363:=zN HB hg;replace HB:=zS HB hb;have NB362_363:=zL K362 hg;have NB363_362:=zG K362 hg;replace K362:=zB K362 hb;clear hb hbox hg;have:=NB362_363.1;have:=NB363_362.1;obtain ⟨_,_,_,_,_,_,_,_,_,_⟩:=zc5 K362;obtain ⟨_,_,_,_,_,_,_,_,_,_⟩:=zc5 K363)|((with_reducible refine gate_store (t:=39) (p:=4) rfl ?_);refine store_event (t:=39) (p:=4) (v:=?vo_w29) (w1:=(((((w25.setCell ⟨G363,0,none⟩ (.int .u64 a0_0)).setCell ⟨G363,1,none⟩ (.slice A0_1 l0_1.length c0_1)).setCell ⟨G363,2,none⟩ (.slice A0_2 l0_2.length c0_2)).setCell ⟨G363,3,none⟩ (.bool true)).setCell ⟨G363,4,none⟩ (.int .i64 a0_4))) ?hg ?ho ?hn ?hr ?_;(case ho => rfl);(case hg => rfl);(case hn => rfl);(case hr => first|(go_simp;done)|(go_simp;rfl));intro w29 hw;replace HO356 : Aside0 (RD w29 base (.slice A0_1 l0_1.length c0_1) l0_1):=⟨(by rw [hw];exact (rX1 HO356 K363 (Nat.le_trans hbase GE363.1)))⟩;replace HO359 : Aside0 (RD w29 base (.slice A0_2 l0_2.length c0_2) l0_2):=⟨(by rw [hw];exact (rX1 HO359 K363 (Nat.le_trans hbase GE363.1)))⟩;replace K362:=zV hw K362;replace K363:=zVp hw (.cells #[.int .u64 a0_0,.slice A0_1 l0_1.length c0_1,.slice A0_2 l0_2.length c0_2,.bool true,.int .i64 a0_4] 39 (0,0)) K363;replace HB:=zU hw HB;clear hw))
   refine bodyPost_ret (results_ct rfl _ _ G363 39 #[.int .u64 a0_0,.slice A0_1 l0_1.length c0_1,.slice A0_2 l0_2.length c0_2,.bool true,.int .i64 a0_4] (0,0) _ rfl (zF K363) Try.underlying39 rfl (by kernel_rfl)) rfl ?_;exact ⟨_,_,by first|rfl|(simp [errW_none,errW_some] <;> rfl)|(simp [*,errW_none,errW_some] <;> rfl),(rX HO356),(rX HO359),zH HB⟩
 ·replace c4:=Bool.eq_false_iff.mpr c4;subst c4;rw [if_neg (show ¬ (false = true) by decide)] at H;simp only [Option.some.injEq,Prod.mk.injEq] at H;obtain ⟨rfl,rfl,rfl,rfl,rfl,rfl⟩:=H;go_enter Try.func26,Try.ntmps26
  have HO356:=zA hd0_1;have HO359:=zA hd0_2;go_wp2_with (first|((with_reducible refine gate_dst (N:=2) rfl ?_);refine zb (N:=2) (cs:=#[.int .u64 a0_0,.slice A0_1 l0_1.length c0_1,.slice A0_2 l0_2.length c0_2,.bool false,.int .i64 a0_4]) (t:=39) ?_;intro G362 hg w33 hbox hb;replace HO356:=rb HO356 hb;replace HO359:=rb HO359 hb;have K362:=zA (hbox);have GW362:=zN HB hg;have GE362:=zN HB hg;replace HB:=zS HB hb;clear hb hbox hg)|((with_reducible refine gate_dst (N:=4) rfl ?_);refine zb (N:=4) (cs:=#[.int .u64 0,.slice none 0 0,.slice none 0 0,.bool false,.int .i64 0]) (t:=39) ?_;intro G363 hg w34 hbox hb;replace HO356:=rb HO356 hb;replace HO359:=rb HO359 hb;have K363:=zA (hbox);have GW363:=zN HB hg;have GE363:=zN HB hg;replace HB:=zS HB hb;have NB362_363:=zL K362 hg;have NB363_362:=zG K362 hg;replace K362:=zB K362 hb;clear hb hbox hg;have:=NB362_363.1;have:=NB363_362.1;obtain ⟨_,_,_,_,_,_,_,_,_,_⟩:=zc5 K362;obtain ⟨_,_,_,_,_,_,_,_,_,_⟩:=zc5 K363)|((with_reducible refine gate_store (t:=39) (p:=4) rfl ?_);refine store_event (t:=39) (p:=4) (v:=?vo_w38) (w1:=(((((w34.setCell ⟨G363,0,none⟩ (.int .u64 a0_0)).setCell ⟨G363,1,none⟩ (.slice A0_1 l0_1.length c0_1)).setCell ⟨G363,2,none⟩ (.slice A0_2 l0_2.length c0_2)).setCell ⟨G363,3,none⟩ (.bool false)).setCell ⟨G363,4,none⟩ (.int .i64 a0_4))) ?hg ?ho ?hn ?hr ?_;(case ho => rfl);(case hg => rfl);(case hn => rfl);(case hr => first|(go_simp;done)|(go_simp;rfl));intro w38 hw;replace HO356 : Aside0 (RD w38 base (.slice A0_1 l0_1.length c0_1) l0_1):=⟨(by rw [hw];exact (rX1 HO356 K363 (Nat.le_trans hbase GE363.1)))⟩;replace HO359 : Aside0 (RD w38 base (.slice A0_2 l0_2.length c0_2) l0_2):=⟨(by rw [hw];exact (rX1 HO359 K363 (Nat.le_trans hbase GE363.1)))⟩;replace K362:=zV hw K362;replace K363:=zVp hw (.cells #[.int .u64 a0_0,.slice A0_1 l0_1.length c0_1,.slice A0_2 l0_2.length c0_2,.bool false,.int .i64 a0_4] 39 (0,0)) K363;replace HB:=zU hw HB;clear hw))
  refine bodyPost_ret (results_ct rfl _ _ G363 39 #[.int .u64 a0_0,.slice A0_1 l0_1.length c0_1,.slice A0_2 l0_2.length c0_2,.bool false,.int .i64 a0_4] (0,0) _ rfl (zF K363) Try.underlying39 rfl (by kernel_rfl)) rfl ?_;exact ⟨_,_,by first|rfl|(simp [errW_none,errW_some] <;> rfl)|(simp [*,errW_none,errW_some] <;> rfl),(rX HO356),(rX HO359),zH HB⟩

end Go.Proofs.Ytpcgjdllgdkobaa.XP
