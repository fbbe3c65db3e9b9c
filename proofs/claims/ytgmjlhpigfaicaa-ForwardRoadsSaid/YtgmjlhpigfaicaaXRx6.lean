/- Go functions of this seat as Lean functions, with proofs that the calls come to them. (Written by xprint.py, a program of this session, over the kit's print.) -/
import Derived.Test.YtgmjlhpigfaicaaXRx0
import Derived.Test.YtgmjlhpigfaicaaXRx3
import Derived.Test.YtgmjlhpigfaicaaXRx5
namespace Go.Proofs.Ytgmjlhpigfaicaa.XR
open Go.RowKit Go.Proofs.YtgmjlhpigfaicaaW.PrintWords Go.Proofs.YtgmjlhpigfaicaaW.PrintLast Go.Proofs.YtgmjlhpigfaicaaW.PrintMore
attribute [local go_sem] max2_int min2_int max_two min_two max_three min_three max_four min_four   -- for this text's walks alone
set_option linter.unusedVariables false
set_option linter.unusedSimpArgs false
open List renaming setIfInBounds_toArray → xA, set_cons_zero → xB, set_cons_succ → xC
open Go.Proofs.YtgmjlhpigfaicaaW.PrintWords renaming blk_drewN → bN, blk_drew → bD, blk_alloc → bA, below_set → bS, blk_frozen → bF, blk_cell → bC, cell_far → cF, blk_far → bZ, blk_below → bB, pw_below_drewN → bwN, below_drew1 → bw1, below_alloc → bwA
open Go.Proofs.YtgmjlhpigfaicaaW.PrintZ
open Bool renaming true → T,false → F

/-! ### message_packet: function 99 -/
mutual
def message_packet.j0 : Nat → Bool → Int → Int → Int → Int → Int → Int → Int → Int → ByteArray → Int → Int → ByteArray → Option (Bool)
 | 0, _, _, _, _, _, _, _, _, _, _, _, _, _ => none
 | k + 1, x47, Ac, Ag, Ah, Ai, Aj, Ak, Al, Ad, Aa, Ab, Ae, Af => if x47 = true then (none) else (if Ab = 0 then (message_packet.j1 k Ac Ag Ah Ai Aj Ak Al Ad Aa Ab Ae Af) else (none))
def message_packet.j1 : Nat → Int → Int → Int → Int → Int → Int → Int → Int → ByteArray → Int → Int → ByteArray → Option (Bool)
 | 0, _, _, _, _, _, _, _, _, _, _, _, _ => none
 | k + 1, Ac, Ag, Ah, Ai, Aj, Ak, Al, Ad, Aa, Ab, Ae, Af => if Ab = 0 then (message_packet.j2 k (Ae == 0) Ac Ag Ah Ai Aj Ak Al Ad Aa Ab Ae Af) else (none)
def message_packet.j2 : Nat → Bool → Int → Int → Int → Int → Int → Int → Int → Int → ByteArray → Int → Int → ByteArray → Option (Bool)
 | 0, _, _, _, _, _, _, _, _, _, _, _, _, _ => none
 | k + 1, x4, Ac, Ag, Ah, Ai, Aj, Ak, Al, Ad, Aa, Ab, Ae, Af => (ident_CheckName.f k Aa).bind fun Ao => (if Ao = 0 then (none) else (message_packet.j3 k x4 Ac Ag Ah Ai Aj Ak Al Ad Aa Ab Ae Af))
def message_packet.j3 : Nat → Bool → Int → Int → Int → Int → Int → Int → Int → Int → ByteArray → Int → Int → ByteArray → Option (Bool)
 | 0, _, _, _, _, _, _, _, _, _, _, _, _, _ => none
 | k + 1, x4, Ac, Ag, Ah, Ai, Aj, Ak, Al, Ad, Aa, Ab, Ae, Af => if Ac = 1 then (if Ad = 0 then (if Aa.toList = ([] : List UInt8) then (if x4 = true then (some (decide ((Af.size : Int) ≤ 1024))) else (none)) else (none)) else (none)) else (none)
end
def message_packet.f (k : Nat) (a0_0 : Int) (a0_1 : Int) (a0_2 : Int) (a0_3 : Int) (a0_4 : Int) (a0_5 : Int) (a0_6 : Int) (a0_7 : Int) (a0_8 : ByteArray) (a0_9 : Int) (a0_10 : Int) (a0_11 : ByteArray) : Option (Bool) := (message_number.f a0_1).bind fun Ap => (if Ap = true then ((message_number.f a0_3).bind fun Aq => (if Aq = true then (if a0_2 = 0 then (if a0_4 = 0 then (if a0_5 < 0 then (none) else (message_packet.j0 k (decide (a0_5 > 65536)) a0_0 a0_1 a0_2 a0_3 a0_4 a0_5 a0_6 a0_7 a0_8 a0_9 a0_10 a0_11)) else ((message_number.f a0_4).bind fun Ar => (if Ar = true then (if a0_5 < 0 then (none) else (message_packet.j0 k (decide (a0_5 > 65536)) a0_0 a0_1 a0_2 a0_3 a0_4 a0_5 a0_6 a0_7 a0_8 a0_9 a0_10 a0_11)) else (none)))) else (none)) else (none))) else (none))
set_option maxHeartbeats 8000000 in
set_option maxRecDepth 100000 in
theorem message_packet.calls (k : Nat) (a0_0 : Int) (a0_1 : Int) (a0_2 : Int) (a0_3 : Int) (a0_4 : Int) (a0_5 : Int) (a0_6 : Int) (a0_7 : Int) (a0_8 : ByteArray) (a0_9 : Int) (a0_10 : Int) (a0_11 : ByteArray) (r : Bool) (w : World) (h : message_packet.f k a0_0 a0_1 a0_2 a0_3 a0_4 a0_5 a0_6 a0_7 a0_8 a0_9 a0_10 a0_11 = some r) :
  Calls Try.prog 99 #[.agg #[.int .i64 a0_0,.int .i64 a0_1,.int .i64 a0_2,.int .i64 a0_3,.int .i64 a0_4,.int .i64 a0_5,.int .u64 a0_6,.int .i64 a0_7,.string a0_8,.int .i64 a0_9,.int .i64 a0_10,.string a0_11]] w fun e w' => e = .returned (.bool r) ∧ Below w.heap.size w w':=by
 have hu48:=Try.underlying48;have HB:=zA (Below.refl w.heap.size w);have H : ((message_number.f a0_1).bind fun Ap => (if Ap = true then ((message_number.f a0_3).bind fun Aq => (if Aq = true then (if a0_2 = 0 then (if a0_4 = 0 then (if a0_5 < 0 then (none) else (message_packet.j0 k (decide (a0_5 > 65536)) a0_0 a0_1 a0_2 a0_3 a0_4 a0_5 a0_6 a0_7 a0_8 a0_9 a0_10 a0_11)) else ((message_number.f a0_4).bind fun Ar => (if Ar = true then (if a0_5 < 0 then (none) else (message_packet.j0 k (decide (a0_5 > 65536)) a0_0 a0_1 a0_2 a0_3 a0_4 a0_5 a0_6 a0_7 a0_8 a0_9 a0_10 a0_11)) else (none)))) else (none)) else (none))) else (none))) = some r:=h;clear h;have HC2:=zA H;clear H;go_enter Try.func99,Try.ntmps99
 go_upto_region 1 with (first|((with_reducible refine gate_dst (N:=1) rfl ?_);(try (refine gate_guard (by rfl) ?_;dsimp only));refine zb (N:=1) (cs:=#[.int .i64 a0_0,.int .i64 a0_1,.int .i64 a0_2,.int .i64 a0_3,.int .i64 a0_4,.int .i64 a0_5,.int .u64 a0_6,.int .i64 a0_7,.string a0_8,.int .i64 a0_9,.int .i64 a0_10,.string a0_11]) (t:=48) ?_;intro G139 hg w3 hbox hb;have K139:=zA (hbox);have Ay:=zN HB hg;have Az:=zN HB hg;replace HB:=zS HB hb;clear hb hbox hg))
 (try simp only [Act.put,xA,xB,xC]);go_cut [47] (fun v47 wc => ∃ (kq : Nat) (An : Bool),v47 = .bool An ∧ Aside0 (message_packet.j0 kq An a0_0 a0_1 a0_2 a0_3 a0_4 a0_5 a0_6 a0_7 a0_8 a0_9 a0_10 a0_11 = some r) ∧ Aside0 (kq ≤ k) ∧ Aside0 (wc.heap[G139]? = some (.cells #[.int .i64 a0_0,.int .i64 a0_1,.int .i64 a0_2,.int .i64 a0_3,.int .i64 a0_4,.int .i64 a0_5,.int .u64 a0_6,.int .i64 a0_7,.string a0_8,.int .i64 a0_9,.int .i64 a0_10,.string a0_11] 48 (0,0))) ∧ Aside0 (Below w.heap.size w wc))
 case first =>
  have H:=HC2.out;clear HC2;replace H:=Option.bind_eq_some_iff.mp H;obtain ⟨Ap,A40,H⟩:=H;(try dsimp only at H);have A4:=zA A40;clear A40;by_cases c5 : Ap = true
  ·subst c5;rw [if_pos rfl] at H;replace H:=Option.bind_eq_some_iff.mp H;obtain ⟨Aq,A60,H⟩:=H;(try dsimp only at H);have A6:=zA A60;clear A60;by_cases c7 : Aq = true
   ·subst c7;rw [if_pos rfl] at H;by_cases c8 : a0_2 = 0
    ·rw [if_pos c8] at H;have Av : (a0_2 == 0) = true:=beq_iff_eq.mpr c8;have AL : (a0_2 != 0) = false:=bne_eq_false_iff_eq.mpr c8;clear c8;(first|rw [Av]|(simp only [i64_w,i32_w];rw [Av])|skip)
     by_cases c9 : a0_4 = 0
     ·rw [if_pos c9] at H;have Aw : (a0_4 == 0) = true:=beq_iff_eq.mpr c9;have Ax : (a0_4 != 0) = false:=bne_eq_false_iff_eq.mpr c9;clear c9;by_cases c10 : a0_5 < 0
      ·rw [if_pos c10] at H;exact absurd H (by simp)
      ·rw [if_neg c10] at H;have AA : decide (a0_5 < 0) = false:=decide_eq_false c10;clear c10;have H':=zA H;clear H;obtain ⟨_,_,_,_,_,_,_,_,_,_,_,_,_,_,_,_,_,_,_,_,_,_,_,_⟩:=zc12 K139;go_wp2_with (first|((with_reducible refine gate_callee (f:=112) rfl ?_);refine zg (some 8) Try.func112 #[.int .i64 a0_1] ?_;(with_reducible refine (message_number.calls a0_1 true _ A4.out).mono ?_);rintro e w' ⟨rfl,⟨nd,rfl⟩⟩;refine ⟨_,rfl,?_⟩)|(go_at_call 112;(with_reducible refine (message_number.calls a0_3 true _ A6.out).mono ?_);rintro e w' ⟨rfl,⟨nd,rfl⟩⟩))
       go_meet
       case rel => exact ⟨_,(decide (a0_5 > 65536)),ze,H',⟨zo⟩,⟨z1 K139.1⟩,⟨zH HB⟩⟩
     ·rw [if_neg c9] at H;have Aw : (a0_4 == 0) = false:=beq_eq_false_iff_ne.mpr c9;have Ax : (a0_4 != 0) = true:=bne_iff_ne.mpr c9;replace H:=Option.bind_eq_some_iff.mp H;obtain ⟨Ar,A120,H⟩:=H;(try dsimp only at H);have A12:=zA A120;clear A120;by_cases c13 : Ar = true
      ·subst c13;rw [if_pos rfl] at H;by_cases c14 : a0_5 < 0
       ·rw [if_pos c14] at H;exact absurd H (by simp)
       ·rw [if_neg c14] at H;have AB : decide (a0_5 < 0) = false:=decide_eq_false c14;clear c14;have H':=zA H;clear H;obtain ⟨_,_,_,_,_,_,_,_,_,_,_,_,_,_,_,_,_,_,_,_,_,_,_,_⟩:=zc12 K139;go_wp2_with (first|((with_reducible refine gate_callee (f:=112) rfl ?_);refine zg (some 8) Try.func112 #[.int .i64 a0_1] ?_;(with_reducible refine (message_number.calls a0_1 true _ A4.out).mono ?_);rintro e w' ⟨rfl,⟨nd,rfl⟩⟩;refine ⟨_,rfl,?_⟩)|(go_at_call 112;(with_reducible refine (message_number.calls a0_3 true _ A6.out).mono ?_);rintro e w' ⟨rfl,⟨nd,rfl⟩⟩)|(go_at_call 112;(with_reducible refine (message_number.calls a0_4 true _ A12.out).mono ?_);rintro e w' ⟨rfl,⟨nd,rfl⟩⟩))
        go_meet
        case rel => exact ⟨_,(decide (a0_5 > 65536)),ze,H',⟨zo⟩,⟨z1 K139.1⟩,⟨zH HB⟩⟩
      ·replace c13:=Bool.eq_false_iff.mpr c13;subst c13;rw [if_neg (show ¬ (false = true) by decide)] at H;exact absurd H (by simp)
    ·rw [if_neg c8] at H;exact absurd H (by simp)
   ·replace c7:=Bool.eq_false_iff.mpr c7;subst c7;rw [if_neg (show ¬ (false = true) by decide)] at H;exact absurd H (by simp)
  ·replace c5:=Bool.eq_false_iff.mpr c5;subst c5;rw [if_neg (show ¬ (false = true) by decide)] at H;exact absurd H (by simp)
 case rest =>
  clear HC2;obtain ⟨kq,An,rfl,HA,HJ1,K139,HB⟩:=hcut;cases kq with
  | zero => exact absurd HA.out (by simp [message_packet.j0])
  | succ kj1 =>
   have H:=HA.out;clear HA;simp only [message_packet.j0] at H;by_cases c16 : An = true
   ·subst c16;rw [if_pos rfl] at H;exact absurd H (by simp)
   ·replace c16:=Bool.eq_false_iff.mpr c16;subst c16;rw [if_neg (show ¬ (false = true) by decide)] at H;have HC17:=zA H;clear H;go_upto_region 3 with (fail)
    go_cut [] (fun wc => ∃ (kq : Nat),Aside0 (message_packet.j1 kq a0_0 a0_1 a0_2 a0_3 a0_4 a0_5 a0_6 a0_7 a0_8 a0_9 a0_10 a0_11 = some r) ∧ Aside0 (kq ≤ kj1) ∧ Aside0 (wc.heap[G139]? = some (.cells #[.int .i64 a0_0,.int .i64 a0_1,.int .i64 a0_2,.int .i64 a0_3,.int .i64 a0_4,.int .i64 a0_5,.int .u64 a0_6,.int .i64 a0_7,.string a0_8,.int .i64 a0_9,.int .i64 a0_10,.string a0_11] 48 (0,0))) ∧ Aside0 (Below w.heap.size w wc))
    case first =>
     have H:=HC17.out;clear HC17;by_cases c18 : a0_9 = 0
     ·rw [if_pos c18] at H;have As : (a0_9 == 0) = true:=beq_iff_eq.mpr c18;have AC : (a0_9 != 0) = false:=bne_eq_false_iff_eq.mpr c18;clear c18;(first|rw [As]|(simp only [i64_w,i32_w];rw [As])|skip)
      have H':=zA H;clear H;obtain ⟨_,_,_,_,_,_,_,_,_,_,_,_,_,_,_,_,_,_,_,_,_,_,_,_⟩:=zc12 K139;go_wp2
      go_meet
      case rel => exact ⟨_,H',⟨by have:=HJ1.out;first|omega|exact Nat.le_refl _⟩,⟨z1 K139.1⟩,⟨zH HB⟩⟩
     ·rw [if_neg c18] at H;exact absurd H (by simp)
    case rest =>
     clear HC17;try clear c16
     obtain ⟨kq,HA,HJ16,K139,HB⟩:=hcut;cases kq with
     | zero => exact absurd HA.out (by simp [message_packet.j1])
     | succ kj16 =>
      have H:=HA.out;clear HA;simp only [message_packet.j1] at H;have HC20:=zA H;clear H;go_upto_region 4 with (fail)
      go_cut [4] (fun v4 wc => ∃ (kq : Nat) (Am : Bool),v4 = .bool Am ∧ Aside0 (message_packet.j2 kq Am a0_0 a0_1 a0_2 a0_3 a0_4 a0_5 a0_6 a0_7 a0_8 a0_9 a0_10 a0_11 = some r) ∧ Aside0 (kq ≤ kj16) ∧ Aside0 (wc.heap[G139]? = some (.cells #[.int .i64 a0_0,.int .i64 a0_1,.int .i64 a0_2,.int .i64 a0_3,.int .i64 a0_4,.int .i64 a0_5,.int .u64 a0_6,.int .i64 a0_7,.string a0_8,.int .i64 a0_9,.int .i64 a0_10,.string a0_11] 48 (0,0))) ∧ Aside0 (Below w.heap.size w wc))
      case first =>
       have H:=HC20.out;clear HC20;by_cases c21 : a0_9 = 0
       ·rw [if_pos c21] at H;have At : (a0_9 == 0) = true:=beq_iff_eq.mpr c21;have AD : (a0_9 != 0) = false:=bne_eq_false_iff_eq.mpr c21;clear c21;(first|rw [At]|(simp only [i64_w,i32_w];rw [At])|skip)
        have H':=zA H;clear H;obtain ⟨_,_,_,_,_,_,_,_,_,_,_,_,_,_,_,_,_,_,_,_,_,_,_,_⟩:=zc12 K139;go_wp2
        go_meet
        case rel => exact ⟨_,((a0_10 == 0)),ze,H',⟨by have:=HJ1.out;have:=HJ16.out;first|omega|exact Nat.le_refl _⟩,⟨z1 K139.1⟩,⟨zH HB⟩⟩
       ·rw [if_neg c21] at H;exact absurd H (by simp)
      case rest =>
       clear HC20;try clear c16
       obtain ⟨kq,Am,rfl,HA,HJ19,K139,HB⟩:=hcut;cases kq with
       | zero => exact absurd HA.out (by simp [message_packet.j2])
       | succ kj19 =>
        have H:=HA.out;clear HA;simp only [message_packet.j2] at H;have HC23:=zA H;clear H;go_upto_region 5 with (fail)
        go_cut [] (fun wc => ∃ (kq : Nat),Aside0 (message_packet.j3 kq Am a0_0 a0_1 a0_2 a0_3 a0_4 a0_5 a0_6 a0_7 a0_8 a0_9 a0_10 a0_11 = some r) ∧ Aside0 (kq ≤ kj19) ∧ Aside0 (wc.heap[G139]? = some (.cells #[.int .i64 a0_0,.int .i64 a0_1,.int .i64 a0_2,.int .i64 a0_3,.int .i64 a0_4,.int .i64 a0_5,.int .u64 a0_6,.int .i64 a0_7,.string a0_8,.int .i64 a0_9,.int .i64 a0_10,.string a0_11] 48 (0,0))) ∧ Aside0 (Below w.heap.size w wc))
        case first =>
         have H:=HC23.out;clear HC23;replace H:=Option.bind_eq_some_iff.mp H;obtain ⟨Ao,A240,H⟩:=H;(try dsimp only at H);have A24:=zA A240;clear A240;by_cases c25 : Ao = 0
         ·rw [if_pos c25] at H;exact absurd H (by simp)
         ·rw [if_neg c25] at H;have Au : (Ao == 0) = false:=beq_eq_false_iff_ne.mpr c25;have AE : (Ao != 0) = true:=bne_iff_ne.mpr c25;(first|rw [Au]|(simp only [i64_w,i32_w];rw [Au])|skip)
          have H':=zA H;clear H;obtain ⟨_,_,_,_,_,_,_,_,_,_,_,_,_,_,_,_,_,_,_,_,_,_,_,_⟩:=zc12 K139;go_wp2_with (first|((with_reducible refine gate_callee (f:=114) rfl ?_);refine zg (some 76) Try.func114 #[.string a0_8] ?_;(with_reducible refine (ident_CheckName.calls kj19 a0_8 Ao _ A24.out).mono ?_);rintro e w' ⟨rfl,⟨nd,rfl⟩⟩;refine ⟨_,rfl,?_⟩))
          go_meet
          case rel => exact ⟨_,H',⟨by have:=HJ1.out;have:=HJ16.out;have:=HJ19.out;first|omega|exact Nat.le_refl _⟩,⟨z1 K139.1⟩,⟨zH HB⟩⟩
        case rest =>
         clear HC23;try clear c16
         obtain ⟨kq,HA,HJ22,K139,HB⟩:=hcut;cases kq with
         | zero => exact absurd HA.out (by simp [message_packet.j3])
         | succ kj22 =>
          have H:=HA.out;clear HA;simp only [message_packet.j3] at H;by_cases c27 : a0_0 = 1
          ·rw [if_pos c27] at H;have AF : (a0_0 == 1) = true:=beq_iff_eq.mpr c27;have AG : (a0_0 != 1) = false:=bne_eq_false_iff_eq.mpr c27;clear c27;by_cases c28 : a0_7 = 0
           ·rw [if_pos c28] at H;have AH : (a0_7 == 0) = true:=beq_iff_eq.mpr c28;have AI : (a0_7 != 0) = false:=bne_eq_false_iff_eq.mpr c28;clear c28;by_cases c29 : a0_8.toList = ([] : List UInt8)
            ·rw [if_pos c29] at H;have AJ : (a0_8.toList == ([] : List UInt8)) = true:=beq_iff_eq.mpr c29;have AK : (a0_8.toList != ([] : List UInt8)) = false:=bne_eq_false_iff_eq.mpr c29;clear c29;by_cases c30 : Am = true
             ·subst c30;rw [if_pos rfl] at H;obtain rfl:=Option.some.inj H;obtain ⟨_,_,_,_,_,_,_,_,_,_,_,_,_,_,_,_,_,_,_,_,_,_,_,_⟩:=zc12 K139;go_wp2
              go_ret
              exact ⟨zE,zH HB⟩
             ·replace c30:=Bool.eq_false_iff.mpr c30;subst c30;rw [if_neg (show ¬ (false = true) by decide)] at H;exact absurd H (by simp)
            ·rw [if_neg c29] at H;exact absurd H (by simp)
           ·rw [if_neg c28] at H;exact absurd H (by simp)
          ·rw [if_neg c27] at H;exact absurd H (by simp)

end Go.Proofs.Ytgmjlhpigfaicaa.XR
