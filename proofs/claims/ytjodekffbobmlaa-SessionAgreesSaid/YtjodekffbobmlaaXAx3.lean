/- Go functions of this seat as Lean functions, with proofs that the calls come to them. (Written by xprint.py, a program of this session, over the kit's print.) -/
import Derived.Test.YtjodekffbobmlaaXAx0
import Derived.Test.YtjodekffbobmlaaXAx1
import Derived.Test.YtjodekffbobmlaaXAx2
import Derived.Test.YtjodekffbobmlaaXAx3d
import Derived.Test.YtjodekffbobmlaaXAx3h0
import Derived.Test.YtjodekffbobmlaaXAx3h1
namespace Go.Proofs.Ytjodekffbobmlaa.XA
open Go.RowKit Go.Proofs.YtjodekffbobmlaaW.PrintWords Go.Proofs.YtjodekffbobmlaaW.PrintLast Go.Proofs.YtjodekffbobmlaaW.PrintMore
attribute [local go_sem] max2_int min2_int max_two min_two max_three min_three max_four min_four   -- for this text's walks alone
set_option linter.unusedVariables false
set_option linter.unusedSimpArgs false
open List renaming setIfInBounds_toArray → xA, set_cons_zero → xB, set_cons_succ → xC
open Go.Proofs.YtjodekffbobmlaaW.PrintWords renaming blk_drewN → bN, blk_drew → bD, blk_alloc → bA, below_set → bS, blk_frozen → bF, blk_cell → bC, cell_far → cF, blk_far → bZ, blk_below → bB, pw_below_drewN → bwN, below_drew1 → bw1, below_alloc → bwA
open Go.Proofs.YtjodekffbobmlaaW.PrintZ
open Bool renaming true → T,false → F

set_option maxHeartbeats 8000000 in
set_option maxRecDepth 100000 in
theorem beaconlaw12_SessionAgrees.calls (k : Nat) (a0_0 : Int) (a0_1 : Int) (A1 : Option Addr) (c1 : Nat) (l1 : List (S33)) (r : Bool) (w : World) (hr1 : Kd.C k33 w A1 l1.length l1) (hc1 : l1.length ≤ c1) (h : beaconlaw12_SessionAgrees.f k a0_0 a0_1 l1 = some r) (hr_ : r = true) :
  Calls Try.prog 5 #[.agg #[.int .u64 a0_0,.int .u64 a0_1],.slice A1 l1.length c1] w fun e w' => e = .returned (.bool r) ∧ Below w.heap.size w w':=by
 have hu23:=Try.underlying23
 have hu27:=Try.underlying27
 have hu26:=Try.underlying26
 have hu33:=Try.underlying33
 have hu50:=Try.underlying50
 have HR1:=zA hr1
 have HC1:=zA hc1
 clear hr1 hc1
 have HB:=zA (Below.refl w.heap.size w)
 have HR_:=zA hr_
 clear hr_
 have H : (beaconlaw12_SessionAgrees.l0 k l1 0 a0_0 a0_1 0 0 false 0 0 0 false 0) = some r:=h
 clear h
 have H':=zA H
 clear H
 go_enter Try.func5,Try.ntmps5
 go_wp2_with (first|((with_reducible refine gate_dst (N:=2) rfl ?_);(try (refine gate_guard (by rfl) ?_;dsimp only));refine zb (N:=2) (cs:=#[.int .u64 a0_0,.int .u64 a0_1]) (t:=23) ?_;intro G149 hg w3 hbox hb;have K149:=zA (hbox);have GW149:=zN HB hg;have GE149:=zN HB hg;replace HB:=zS HB hb;clear hb hbox hg)|((with_reducible refine gate_dst (N:=5) rfl ?_);(try (refine gate_guard (by rfl) ?_;dsimp only));refine zb (N:=5) (cs:=#[.int .u64 0,.int .u64 0,.bool false,.int .i64 0,.int .u64 0,.int .u64 0,.bool false,.int .i64 0]) (t:=27) ?_;intro G150 hg w4 hbox hb;have K150:=zA (hbox);have GW150:=zN HB hg;have GE150:=zN HB hg;replace HB:=zS HB hb;have NB149_150:=zL K149 hg;have NB150_149:=zG K149 hg;replace K149:=zB K149 hb;clear hb hbox hg))
 go_loopg [6] k (fun kq v6 w' => ∃ (x6_1 : Int) (x151000_1 : Int) (x151001_1 : Int) (x151002_1 : Bool) (x151003_1 : Int) (x151004_1 : Int) (x151005_1 : Int) (x151006_1 : Bool) (x151007_1 : Int),v6 = .int .i64 x6_1 ∧ Aside0 (beaconlaw12_SessionAgrees.l0 kq l1 x6_1 a0_0 a0_1 x151000_1 x151001_1 x151002_1 x151003_1 x151004_1 x151005_1 x151006_1 x151007_1 = some r) ∧ Aside0 (kq ≤ k) ∧ Aside0 (w'.heap[G149]? = some (.cells #[.int .u64 a0_0,.int .u64 a0_1] 23 (0,0))) ∧ Aside0 (w'.heap[G150]? = some (.cells #[.int .u64 x151000_1,.int .u64 x151001_1,.bool x151002_1,.int .i64 x151003_1,.int .u64 x151004_1,.int .u64 x151005_1,.bool x151006_1,.int .i64 x151007_1] 27 (0,0))) ∧ Aside0 (Below w.heap.size w w'))
 case atStart => exact ⟨(0),(0),(0),(false),(0),(0),(0),(false),(0),ze,H',⟨Nat.le_refl _⟩,⟨z1 K149.1⟩,⟨z1 K150.1⟩,⟨zH HB⟩⟩
 clear H'
 try clear c1
 obtain ⟨x6_1,x151000_1,x151001_1,x151002_1,x151003_1,x151004_1,x151005_1,x151006_1,x151007_1,rfl,HA,HK1,K149,K150,HB⟩:=hrel
 cases gk with
 | zero => exact absurd HA.out (by simp [beaconlaw12_SessionAgrees.l0])
 | succ k1 => ?_
 have H:=HA.out
 clear HA
 simp only [beaconlaw12_SessionAgrees.l0] at H
 by_cases c5 : x6_1 < 2
 ·rw [if_pos c5] at H
  have c5b0 : decide (x6_1 < 2) = true:=decide_eq_true c5
  clear c5
  by_cases c6 : x6_1 = 0
  ·rw [if_pos c6] at H
   have c6b0 : (x6_1 == 0) = true:=beq_iff_eq.mpr c6
   have c6b1 : (x6_1 != 0) = false:=bne_eq_false_iff_eq.mpr c6
   replace H:=Option.bind_eq_some_iff.mp H
   obtain ⟨⟨t151,t152,t153,t154,t155⟩,A70,H⟩:=H
   (try dsimp only at H)
   have A7:=zA A70
   clear A70
   by_cases c8 : t155 = 0
   ·rw [if_pos c8] at H
    have c8b0 : (t155 == 0) = true:=beq_iff_eq.mpr c8
    have c8b1 : (t155 != 0) = false:=bne_eq_false_iff_eq.mpr c8
    clear c8
    have H':=zA H
    clear H
    have:=NB149_150.1
    have:=NB150_149.1
    obtain ⟨hcz10_0,hcz10_1,hfz10_0,hfz10_1⟩:=zc2 K149
    as_aux_lemma =>
     go_wp2_with (first|((with_reducible refine gate_callee (f:=7) rfl ?_);refine zg (some 29) Try.func7 #[.int .u64 a0_0] ?_;(with_reducible refine (session_New.calls a0_0 t151 t152 t153 t154 t155 _ A7.out).mono ?_);rintro e w11 ⟨rfl,hb⟩;refine ⟨_,rfl,?_⟩;replace K149:=zB K149 hb;replace K150:=zB K150 hb;replace HB:=zS HB hb;(try clear hb))|((with_reducible refine gate_dst (N:=7) rfl ?_);(try (refine gate_guard (by rfl) ?_;dsimp only));refine zb (N:=7) (cs:=#[.int .u64 0,.int .u64 0,.bool false,.int .i64 0]) (t:=26) ?_;intro G156 hg w12 hbox hb;have K156:=zA (hbox);have GW156:=zN HB hg;have GE156:=zN HB hg;replace HB:=zS HB hb;have NB149_156:=zL K149 hg;have NB156_149:=zG K149 hg;replace K149:=zB K149 hb;have NB150_156:=zL K150 hg;have NB156_150:=zG K150 hg;replace K150:=zB K150 hb;clear hb hbox hg;have:=NB156_149.1;have:=NB149_156.1;have:=NB156_150.1;have:=NB150_156.1;obtain ⟨hcz15_0,hcz15_1,hcz15_2,hcz15_3,hfz15_0,hfz15_1,hfz15_2,hfz15_3⟩:=zc4 K156)|((with_reducible refine gate_store (t:=26) (p:=7) rfl ?_);refine store_event (t:=26) (p:=7) (v:=?vo_w16) (w1:=((((w12.setCell ⟨G156,0,none⟩ (.int .u64 t151)).setCell ⟨G156,1,none⟩ (.int .u64 t152)).setCell ⟨G156,2,none⟩ (.bool t153)).setCell ⟨G156,3,none⟩ (.int .i64 t154))) ?hg ?ho ?hn ?hr ?_;(case ho => rfl);(case hg => rfl);(case hn => rfl);(case hr => first|(go_simp;done)|(go_simp;rfl));intro w16 hw;replace K149:=zV hw K149;replace K150:=zV hw K150;replace K156:=zVp hw (.cells #[.int .u64 t151,.int .u64 t152,.bool t153,.int .i64 t154] 26 (0,0)) K156;replace HB:=zU hw HB;clear hw;obtain ⟨hcz17_0,hcz17_1,hcz17_2,hcz17_3,hfz17_0,hfz17_1,hfz17_2,hfz17_3⟩:=zc4 K156;obtain ⟨hcz18_0,hcz18_1,hcz18_2,hcz18_3,hcz18_4,hcz18_5,hcz18_6,hcz18_7,hfz18_0,hfz18_1,hfz18_2,hfz18_3,hfz18_4,hfz18_5,hfz18_6,hfz18_7⟩:=zc8 K150)|((with_reducible refine gate_store (t:=26) (p:=43) rfl ?_);refine store_event (t:=26) (p:=43) (v:=?vo_w19) (w1:=((((w16.setCell ⟨G150,0,none⟩ (.int .u64 t151)).setCell ⟨G150,1,none⟩ (.int .u64 t152)).setCell ⟨G150,2,none⟩ (.bool t153)).setCell ⟨G150,3,none⟩ (.int .i64 t154))) ?hg ?ho ?hn ?hr ?_;(case ho => rfl);(case hg => rfl);(case hn => rfl);(case hr => first|(go_simp;done)|(go_simp;rfl));intro w19 hw;replace K149:=zV hw K149;replace K150:=zVp hw (.cells #[.int .u64 t151,.int .u64 t152,.bool t153,.int .i64 t154,.int .u64 x151004_1,.int .u64 x151005_1,.bool x151006_1,.int .i64 x151007_1] 27 (0,0)) K150;replace K156:=zV hw K156;replace HB:=zU hw HB;clear hw))
     go_roundg k1
     case measure => have:=HK1.out;omega
     case rel => exact ⟨(1),(t151),(t152),(t153),(t154),(x151004_1),(x151005_1),(x151006_1),(x151007_1),ze,H',⟨by have:=HK1.out;omega⟩,⟨z1 K149.1⟩,⟨z1 K150.1⟩,⟨zH HB⟩⟩
   rw [if_neg c8] at H
   have c8b0 : (t155 == 0) = false:=beq_eq_false_iff_ne.mpr c8
   have c8b1 : (t155 != 0) = true:=bne_iff_ne.mpr c8
   by_cases c20 : a0_0 = 0
   ·rw [if_pos c20] at H
    have c20b0 : (a0_0 == 0) = true:=beq_iff_eq.mpr c20
    have c20b1 : (a0_0 != 0) = false:=bne_eq_false_iff_eq.mpr c20
    clear c20
    replace H:=Option.bind_eq_some_iff.mp H
    obtain ⟨t157,A210,H⟩:=H
    (try dsimp only at H)
    have A21:=zA A210
    clear A210
    obtain rfl:=Option.some.inj H
    have:=NB149_150.1
    have:=NB150_149.1
    obtain ⟨hcz23_0,hcz23_1,hfz23_0,hfz23_1⟩:=zc2 K149
    as_aux_lemma =>
     go_wp2_with (first|((with_reducible refine gate_callee (f:=7) rfl ?_);refine zg (some 29) Try.func7 #[.int .u64 a0_0] ?_;(with_reducible refine (session_New.calls a0_0 t151 t152 t153 t154 t155 _ A7.out).mono ?_);rintro e w24 ⟨rfl,hb⟩;refine ⟨_,rfl,?_⟩;replace K149:=zB K149 hb;replace K150:=zB K150 hb;replace HB:=zS HB hb;(try clear hb))|((with_reducible refine gate_dst (N:=7) rfl ?_);(try (refine gate_guard (by rfl) ?_;dsimp only));refine zb (N:=7) (cs:=#[.int .u64 0,.int .u64 0,.bool false,.int .i64 0]) (t:=26) ?_;intro G156 hg w25 hbox hb;have K156:=zA (hbox);have GW156:=zN HB hg;have GE156:=zN HB hg;replace HB:=zS HB hb;have NB149_156:=zL K149 hg;have NB156_149:=zG K149 hg;replace K149:=zB K149 hb;have NB150_156:=zL K150 hg;have NB156_150:=zG K150 hg;replace K150:=zB K150 hb;clear hb hbox hg;have:=NB156_149.1;have:=NB149_156.1;have:=NB156_150.1;have:=NB150_156.1;obtain ⟨hcz28_0,hcz28_1,hcz28_2,hcz28_3,hfz28_0,hfz28_1,hfz28_2,hfz28_3⟩:=zc4 K156)|((with_reducible refine gate_store (t:=26) (p:=7) rfl ?_);refine store_event (t:=26) (p:=7) (v:=?vo_w29) (w1:=((((w25.setCell ⟨G156,0,none⟩ (.int .u64 t151)).setCell ⟨G156,1,none⟩ (.int .u64 t152)).setCell ⟨G156,2,none⟩ (.bool t153)).setCell ⟨G156,3,none⟩ (.int .i64 t154))) ?hg ?ho ?hn ?hr ?_;(case ho => rfl);(case hg => rfl);(case hn => rfl);(case hr => first|(go_simp;done)|(go_simp;rfl));intro w29 hw;replace K149:=zV hw K149;replace K150:=zV hw K150;replace K156:=zVp hw (.cells #[.int .u64 t151,.int .u64 t152,.bool t153,.int .i64 t154] 26 (0,0)) K156;replace HB:=zU hw HB;clear hw;obtain ⟨hcz30_0,hcz30_1,hfz30_0,hfz30_1⟩:=zc2 K149)|(go_at_call 8;(with_reducible refine (beaconlaw12_awake.calls k1  t157 _ A21.out).mono ?_);rintro e w31 ⟨rfl,hb⟩;replace K149:=zB K149 hb;replace K150:=zB K150 hb;replace K156:=zB K156 hb;replace HB:=zS HB hb;(try clear hb)))
     go_ret
     exact ⟨zE,zH HB⟩
   rw [if_neg c20] at H
   have c20b0 : (a0_0 == 0) = false:=beq_eq_false_iff_ne.mpr c20
   have c20b1 : (a0_0 != 0) = true:=bne_iff_ne.mpr c20
   exact absurd ((Option.some.inj H).trans HR_.out) (by decide)
  rw [if_neg c6] at H
  have c6b0 : (x6_1 == 0) = false:=beq_eq_false_iff_ne.mpr c6
  have c6b1 : (x6_1 != 0) = true:=bne_iff_ne.mpr c6
  by_cases c32 : x6_1 = 1
  ·rw [if_pos c32] at H
   have c32b0 : (x6_1 == 1) = true:=beq_iff_eq.mpr c32
   have c32b1 : (x6_1 != 1) = false:=bne_eq_false_iff_eq.mpr c32
   replace H:=Option.bind_eq_some_iff.mp H
   obtain ⟨⟨t158,t159,t160,t161,t162⟩,A330,H⟩:=H
   (try dsimp only at H)
   have A33:=zA A330
   clear A330
   by_cases c34 : t162 = 0
   ·rw [if_pos c34] at H
    have c34b0 : (t162 == 0) = true:=beq_iff_eq.mpr c34
    have c34b1 : (t162 != 0) = false:=bne_eq_false_iff_eq.mpr c34
    clear c34
    have H':=zA H
    clear H
    have:=NB149_150.1
    have:=NB150_149.1
    obtain ⟨hcz36_0,hcz36_1,hfz36_0,hfz36_1⟩:=zc2 K149
    as_aux_lemma =>
     go_wp2_with (first|((with_reducible refine gate_callee (f:=7) rfl ?_);refine zg (some 29) Try.func7 #[.int .u64 a0_1] ?_;(with_reducible refine (session_New.calls a0_1 t158 t159 t160 t161 t162 _ A33.out).mono ?_);rintro e w37 ⟨rfl,hb⟩;refine ⟨_,rfl,?_⟩;replace K149:=zB K149 hb;replace K150:=zB K150 hb;replace HB:=zS HB hb;(try clear hb))|((with_reducible refine gate_dst (N:=7) rfl ?_);(try (refine gate_guard (by rfl) ?_;dsimp only));refine zb (N:=7) (cs:=#[.int .u64 0,.int .u64 0,.bool false,.int .i64 0]) (t:=26) ?_;intro G163 hg w38 hbox hb;have K163:=zA (hbox);have GW163:=zN HB hg;have GE163:=zN HB hg;replace HB:=zS HB hb;have NB149_163:=zL K149 hg;have NB163_149:=zG K149 hg;replace K149:=zB K149 hb;have NB150_163:=zL K150 hg;have NB163_150:=zG K150 hg;replace K150:=zB K150 hb;clear hb hbox hg;have:=NB163_149.1;have:=NB149_163.1;have:=NB163_150.1;have:=NB150_163.1;obtain ⟨hcz41_0,hcz41_1,hcz41_2,hcz41_3,hfz41_0,hfz41_1,hfz41_2,hfz41_3⟩:=zc4 K163)|((with_reducible refine gate_store (t:=26) (p:=7) rfl ?_);refine store_event (t:=26) (p:=7) (v:=?vo_w42) (w1:=((((w38.setCell ⟨G163,0,none⟩ (.int .u64 t158)).setCell ⟨G163,1,none⟩ (.int .u64 t159)).setCell ⟨G163,2,none⟩ (.bool t160)).setCell ⟨G163,3,none⟩ (.int .i64 t161))) ?hg ?ho ?hn ?hr ?_;(case ho => rfl);(case hg => rfl);(case hn => rfl);(case hr => first|(go_simp;done)|(go_simp;rfl));intro w42 hw;replace K149:=zV hw K149;replace K150:=zV hw K150;replace K163:=zVp hw (.cells #[.int .u64 t158,.int .u64 t159,.bool t160,.int .i64 t161] 26 (0,0)) K163;replace HB:=zU hw HB;clear hw;obtain ⟨hcz43_0,hcz43_1,hcz43_2,hcz43_3,hfz43_0,hfz43_1,hfz43_2,hfz43_3⟩:=zc4 K163;obtain ⟨hcz44_0,hcz44_1,hcz44_2,hcz44_3,hcz44_4,hcz44_5,hcz44_6,hcz44_7,hfz44_0,hfz44_1,hfz44_2,hfz44_3,hfz44_4,hfz44_5,hfz44_6,hfz44_7⟩:=zc8 K150)|((with_reducible refine gate_store (t:=26) (p:=43) rfl ?_);refine store_event (t:=26) (p:=43) (v:=?vo_w45) (w1:=((((w42.setCell ⟨G150,4,none⟩ (.int .u64 t158)).setCell ⟨G150,5,none⟩ (.int .u64 t159)).setCell ⟨G150,6,none⟩ (.bool t160)).setCell ⟨G150,7,none⟩ (.int .i64 t161))) ?hg ?ho ?hn ?hr ?_;(case ho => rfl);(case hg => rfl);(case hn => rfl);(case hr => first|(go_simp;done)|(go_simp;rfl));intro w45 hw;replace K149:=zV hw K149;replace K150:=zVp hw (.cells #[.int .u64 x151000_1,.int .u64 x151001_1,.bool x151002_1,.int .i64 x151003_1,.int .u64 t158,.int .u64 t159,.bool t160,.int .i64 t161] 27 (0,0)) K150;replace K163:=zV hw K163;replace HB:=zU hw HB;clear hw))
     go_roundg k1
     case measure => have:=HK1.out;omega
     case rel => exact ⟨(2),(x151000_1),(x151001_1),(x151002_1),(x151003_1),(t158),(t159),(t160),(t161),ze,H',⟨by have:=HK1.out;omega⟩,⟨z1 K149.1⟩,⟨z1 K150.1⟩,⟨zH HB⟩⟩
   rw [if_neg c34] at H
   have c34b0 : (t162 == 0) = false:=beq_eq_false_iff_ne.mpr c34
   have c34b1 : (t162 != 0) = true:=bne_iff_ne.mpr c34
   by_cases c46 : a0_1 = 0
   ·rw [if_pos c46] at H
    have c46b0 : (a0_1 == 0) = true:=beq_iff_eq.mpr c46
    have c46b1 : (a0_1 != 0) = false:=bne_eq_false_iff_eq.mpr c46
    clear c46
    replace H:=Option.bind_eq_some_iff.mp H
    obtain ⟨t164,A470,H⟩:=H
    (try dsimp only at H)
    have A47:=zA A470
    clear A470
    obtain rfl:=Option.some.inj H
    have:=NB149_150.1
    have:=NB150_149.1
    obtain ⟨hcz49_0,hcz49_1,hfz49_0,hfz49_1⟩:=zc2 K149
    as_aux_lemma =>
     go_wp2_with (first|((with_reducible refine gate_callee (f:=7) rfl ?_);refine zg (some 29) Try.func7 #[.int .u64 a0_1] ?_;(with_reducible refine (session_New.calls a0_1 t158 t159 t160 t161 t162 _ A33.out).mono ?_);rintro e w50 ⟨rfl,hb⟩;refine ⟨_,rfl,?_⟩;replace K149:=zB K149 hb;replace K150:=zB K150 hb;replace HB:=zS HB hb;(try clear hb))|((with_reducible refine gate_dst (N:=7) rfl ?_);(try (refine gate_guard (by rfl) ?_;dsimp only));refine zb (N:=7) (cs:=#[.int .u64 0,.int .u64 0,.bool false,.int .i64 0]) (t:=26) ?_;intro G163 hg w51 hbox hb;have K163:=zA (hbox);have GW163:=zN HB hg;have GE163:=zN HB hg;replace HB:=zS HB hb;have NB149_163:=zL K149 hg;have NB163_149:=zG K149 hg;replace K149:=zB K149 hb;have NB150_163:=zL K150 hg;have NB163_150:=zG K150 hg;replace K150:=zB K150 hb;clear hb hbox hg;have:=NB163_149.1;have:=NB149_163.1;have:=NB163_150.1;have:=NB150_163.1;obtain ⟨hcz54_0,hcz54_1,hcz54_2,hcz54_3,hfz54_0,hfz54_1,hfz54_2,hfz54_3⟩:=zc4 K163)|((with_reducible refine gate_store (t:=26) (p:=7) rfl ?_);refine store_event (t:=26) (p:=7) (v:=?vo_w55) (w1:=((((w51.setCell ⟨G163,0,none⟩ (.int .u64 t158)).setCell ⟨G163,1,none⟩ (.int .u64 t159)).setCell ⟨G163,2,none⟩ (.bool t160)).setCell ⟨G163,3,none⟩ (.int .i64 t161))) ?hg ?ho ?hn ?hr ?_;(case ho => rfl);(case hg => rfl);(case hn => rfl);(case hr => first|(go_simp;done)|(go_simp;rfl));intro w55 hw;replace K149:=zV hw K149;replace K150:=zV hw K150;replace K163:=zVp hw (.cells #[.int .u64 t158,.int .u64 t159,.bool t160,.int .i64 t161] 26 (0,0)) K163;replace HB:=zU hw HB;clear hw;obtain ⟨hcz56_0,hcz56_1,hfz56_0,hfz56_1⟩:=zc2 K149)|(go_at_call 8;(with_reducible refine (beaconlaw12_awake.calls k1  t164 _ A47.out).mono ?_);rintro e w57 ⟨rfl,hb⟩;replace K149:=zB K149 hb;replace K150:=zB K150 hb;replace K163:=zB K163 hb;replace HB:=zS HB hb;(try clear hb)))
     go_ret
     exact ⟨zE,zH HB⟩
   rw [if_neg c46] at H
   have c46b0 : (a0_1 == 0) = false:=beq_eq_false_iff_ne.mpr c46
   have c46b1 : (a0_1 != 0) = true:=bne_iff_ne.mpr c46
   exact absurd ((Option.some.inj H).trans HR_.out) (by decide)
  rw [if_neg c32] at H
  exact absurd H (by simp)
 rw [if_neg c5] at H
 have c5b0 : decide (x6_1 < 2) = false:=decide_eq_false c5
 clear c5
 have H':=zA H
 clear H
 go_wp2
 go_loopg [9,10] k1 (fun kq v9 v10 w' => ∃ (x9_2 : List (S50)) (x10_2 : Int) (x151000_2 : Int) (x151001_2 : Int) (x151002_2 : Bool) (x151003_2 : Int) (x151004_2 : Int) (x151005_2 : Int) (x151006_2 : Bool) (x151007_2 : Int),v10 = .int .i64 x10_2 ∧ Aside0 (beaconlaw12_SessionAgrees.l1 kq l1 x9_2 x10_2 x151000_2 x151001_2 x151002_2 x151003_2 x151004_2 x151005_2 x151006_2 x151007_2 = some r) ∧ Aside0 (kq ≤ k1) ∧ Aside0 (Kd.R k50 50 w' w.heap.size (fun _ => True) v9 x9_2) ∧ Aside0 (w'.heap[G149]? = some (.cells #[.int .u64 a0_0,.int .u64 a0_1] 23 (0,0))) ∧ Aside0 (w'.heap[G150]? = some (.cells #[.int .u64 x151000_2,.int .u64 x151001_2,.bool x151002_2,.int .i64 x151003_2,.int .u64 x151004_2,.int .u64 x151005_2,.bool x151006_2,.int .i64 x151007_2] 27 (0,0))) ∧ Aside0 (Below w.heap.size w w'))
 case atStart => exact ⟨(([] : List (S50))),(0),(x151000_1),(x151001_1),(x151002_1),(x151003_1),(x151004_1),(x151005_1),(x151006_1),(x151007_1),ze,H',⟨Nat.le_refl _⟩,⟨by first|exact Kd.R_nil _ _ _ _ _|exact Kd.N_nil _ _ _ _ _|exact Kd.V_nil _ _ _ _ _|exact Kd.Q_nil _ _ _ _ _|exact Kd.S_nil _ _ _ _ _⟩,⟨z1 K149.1⟩,⟨z1 K150.1⟩,⟨zH HB⟩⟩
 clear H'
 try clear c1;try clear c5;try clear c5b0
 obtain ⟨x9_2,x10_2,x151000_2,x151001_2,x151002_2,x151003_2,x151004_2,x151005_2,x151006_2,x151007_2,rfl,HA,HK2,HO_9,K149,K150,HB⟩:=hrel
 cases gk with
 | zero => exact absurd HA.out (by simp [beaconlaw12_SessionAgrees.l1])
 | succ k2 => ?_
 have H:=HA.out
 clear HA
 simp only [beaconlaw12_SessionAgrees.l1] at H
 by_cases c58 : x10_2 < (l1.length : Int)
 ·rw [if_pos c58] at H
  have c58b0 : decide (x10_2 < (l1.length : Int)) = true:=decide_eq_true c58
  clear c58
  by_cases c59 : 0 ≤ x10_2
  ·rw [if_pos c59] at H
   have c59b0 : decide (0 ≤ x10_2) = true:=decide_eq_true c59
   clear c59
   by_cases c60 : (Go.bits .and .i64 ((rd_T33 l1 x10_2).f0) 1) = 0
   ·rw [if_pos c60] at H
    rename_i xx1 xx2 xx3 xx4 xx5 xx6 xx7 xx8 xx9 xx10 xx11 xx12 xx13 xx14 xx15 xx16 xx17 xx18 xx19 xx20 xx21 xx22
    exact half0 k a0_0 a0_1 A1 c1 l1 r w hu23 hu27 hu26 hu33 hu50 HR1 HC1 HR_ G149 w3 GW149 GE149 G150 w4 xx2 GW150 GE150 xx3 NB149_150 NB150_149 xx4 xx5 xx6 xx7 u7 u8 u21 u22 u23 u24 u25 u26 u27 u28 u29 u30 u31 u32 u33 u34 u35 u36 u37 u38 u39 u40 u41 u42 u43 xx8 xx9 xx10 x6_1 x151000_1 x151001_1 x151002_1 x151003_1 x151004_1 x151005_1 x151006_1 x151007_1 xx11 xx12 xx13 k1 xx14 HK1 c5b0 xx15 xx16 xx17 xx18 wr u4 u9 u11 u12 u13 u14 u15 u16 u17 u18 u19 u20 u44 u45 u46 u47 u48 u49 u50 u51 u52 u53 u54 u55 u56 u57 u58 u59 u60 u61 u62 u63 u64 u65 u66 u67 u68 u69 u70 u71 u72 u73 u74 u75 u76 u77 u78 u79 u80 u81 u82 u83 u84 u85 u86 u87 u88 u89 u90 u91 u92 u93 u94 u95 u96 u97 u98 u99 u100 u101 u102 u103 u104 u105 u106 u107 u108 u109 u110 u111 u112 u113 u114 u115 u116 u117 u118 u119 u120 u121 u122 u123 u124 u125 u126 u127 u128 u129 u130 u131 u132 u133 u134 u135 u136 u137 u138 u139 u140 u141 u142 u143 u144 u145 u146 u147 u148 u149 u150 u151 u152 u153 u154 u155 u156 u157 u158 u159 u160 u161 u162 u163 u164 u165 u166 u167 u168 u169 u170 u171 u172 u173 u174 u175 u176 u177 u178 u179 u180 u181 u182 u183 u184 u185 u186 u187 u188 u189 u190 u191 u192 u193 u194 u195 u196 u197 u198 u199 u200 u201 u202 u203 u204 xx19 xx20 xx21 x9_2 x10_2 x151000_2 x151001_2 x151002_2 x151003_2 x151004_2 x151005_2 x151006_2 x151007_2 HO_9 K149 K150 HB k2 xx22 HK2 H c58b0 c59b0 c60
   rw [if_neg c60] at H
   have c60b0 : ((Go.bits .and .i64 ((rd_T33 l1 x10_2).f0) 1) == 0) = false:=beq_eq_false_iff_ne.mpr c60
   have c60b1 : ((Go.bits .and .i64 ((rd_T33 l1 x10_2).f0) 1) != 0) = true:=bne_iff_ne.mpr c60
   by_cases c466 : (Go.bits .and .i64 ((rd_T33 l1 x10_2).f0) 1) = 1
   ·rw [if_pos c466] at H
    rename_i xx1 xx2 xx3 xx4 xx5 xx6 xx7 xx8 xx9 xx10 xx11 xx12 xx13 xx14 xx15 xx16 xx17 xx18 xx19 xx20 xx21 xx22
    exact half1 k a0_0 a0_1 A1 c1 l1 r w hu23 hu27 hu26 hu33 hu50 HR1 HC1 HR_ G149 w3 GW149 GE149 G150 w4 xx2 GW150 GE150 xx3 NB149_150 NB150_149 xx4 xx5 xx6 xx7 u7 u8 u21 u22 u23 u24 u25 u26 u27 u28 u29 u30 u31 u32 u33 u34 u35 u36 u37 u38 u39 u40 u41 u42 u43 xx8 xx9 xx10 x6_1 x151000_1 x151001_1 x151002_1 x151003_1 x151004_1 x151005_1 x151006_1 x151007_1 xx11 xx12 xx13 k1 xx14 HK1 c5b0 xx15 xx16 xx17 xx18 wr u4 u9 u11 u12 u13 u14 u15 u16 u17 u18 u19 u20 u44 u45 u46 u47 u48 u49 u50 u51 u52 u53 u54 u55 u56 u57 u58 u59 u60 u61 u62 u63 u64 u65 u66 u67 u68 u69 u70 u71 u72 u73 u74 u75 u76 u77 u78 u79 u80 u81 u82 u83 u84 u85 u86 u87 u88 u89 u90 u91 u92 u93 u94 u95 u96 u97 u98 u99 u100 u101 u102 u103 u104 u105 u106 u107 u108 u109 u110 u111 u112 u113 u114 u115 u116 u117 u118 u119 u120 u121 u122 u123 u124 u125 u126 u127 u128 u129 u130 u131 u132 u133 u134 u135 u136 u137 u138 u139 u140 u141 u142 u143 u144 u145 u146 u147 u148 u149 u150 u151 u152 u153 u154 u155 u156 u157 u158 u159 u160 u161 u162 u163 u164 u165 u166 u167 u168 u169 u170 u171 u172 u173 u174 u175 u176 u177 u178 u179 u180 u181 u182 u183 u184 u185 u186 u187 u188 u189 u190 u191 u192 u193 u194 u195 u196 u197 u198 u199 u200 u201 u202 u203 u204 xx19 xx20 xx21 x9_2 x10_2 x151000_2 x151001_2 x151002_2 x151003_2 x151004_2 x151005_2 x151006_2 x151007_2 HO_9 K149 K150 HB k2 xx22 HK2 H c58b0 c59b0 c60 c60b0 c60b1 c466
   rw [if_neg c466] at H
   exact absurd H (by simp)
  rw [if_neg c59] at H
  exact absurd H (by simp)
 rw [if_neg c58] at H
 have c58b0 : decide (x10_2 < (l1.length : Int)) = false:=decide_eq_false c58
 clear c58
 replace H:=Option.bind_eq_some_iff.mp H
 obtain ⟨t285,A8720,H⟩:=H
 (try dsimp only at H)
 have A872:=zA A8720
 clear A8720
 obtain rfl:=Option.some.inj H
 as_aux_lemma =>
  go_wp2_with (first|((with_reducible refine gate_callee (f:=8) rfl ?_);refine zg (some 205) Try.func8 #[] ?_;(with_reducible refine (beaconlaw12_awake.calls k2  t285 _ A872.out).mono ?_);rintro e w873 ⟨rfl,hb⟩;refine ⟨_,rfl,?_⟩;replace HO_9:=zRb HO_9 hb;replace K149:=zB K149 hb;replace K150:=zB K150 hb;replace HB:=zS HB hb;(try clear hb)))
  go_ret
  exact ⟨zE,zH HB⟩

end Go.Proofs.Ytjodekffbobmlaa.XA
