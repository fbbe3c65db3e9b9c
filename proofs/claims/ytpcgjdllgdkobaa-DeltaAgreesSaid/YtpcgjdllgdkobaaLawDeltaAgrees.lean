import Derived.Test.YtpcgjdllgdkobaaXAx23
import Derived.Test.YtpcgjdllgdkobaaWRows
import Derived.Test.YtpcgjdllgdkobaaXAx11
import Derived.Test.YtpcgjdllgdkobaaWFl
import Derived.Test.YtpcgjdllgdkobaaXAx3
import Derived.Test.YtpcgjdllgdkobaaXAx7
import Derived.Test.YtpcgjdllgdkobaaXAx13
import Derived.Test.YtpcgjdllgdkobaaXAx14
import Derived.Test.YtpcgjdllgdkobaaXAx15
import Derived.Test.YtpcgjdllgdkobaaXAx16
import Derived.Test.YtpcgjdllgdkobaaXAx17
import Derived.Test.YtpcgjdllgdkobaaXAx18
import Derived.Test.YtpcgjdllgdkobaaXAx2
import Derived.Test.YtpcgjdllgdkobaaXAx20
import Derived.Test.YtpcgjdllgdkobaaXAx22
import Derived.Test.YtpcgjdllgdkobaaRows
import Derived.WalkKit
import Derived.ProofKit
import Derived.OpenShut
import Derived.ShutString
import Derived.ChangeOld
import Derived.Below
import Derived.SizedLaws
/- The law DeltaAgrees as a statement over numbers and lists, and how its arguments are opened. (Written by xprint.py, a program of this session.) -/
namespace Go.Proofs.Ytpcgjdllgdkobaa.XA.DeltaAgrees
open Go.RowKit Go.Proofs.YtpcgjdllgdkobaaW.PrintWords
set_option linter.unusedVariables false
def G61 (x : S61) : Prop := ((-9223372036854775808) ≤ x.f0 ∧ x.f0 ≤ 9223372036854775807) ∧ ((-9223372036854775808) ≤ x.f1 ∧ x.f1 ≤ 9223372036854775807) ∧ (x.f2 < 18446744073709551616) ∧ (x.f3 < 18446744073709551616) ∧ ((-9223372036854775808) ≤ x.f4 ∧ x.f4 ≤ 9223372036854775807)
def G55 (x : S55) : Prop := ((-9223372036854775808) ≤ x.f0 ∧ x.f0 ≤ 9223372036854775807) ∧ (x.f1.length * 40 ≤ 140737488351232 ∧ ∀ y ∈ x.f1, G61 y) ∧ ((-9223372036854775808) ≤ x.f2 ∧ x.f2 ≤ 9223372036854775807) ∧ ((-9223372036854775808) ≤ x.f3 ∧ x.f3 ≤ 9223372036854775807)
/-- The statement over numbers and lists. -/
def Pure : Prop := ∀ (a0 : List (S55)), (a0.length * 48 ≤ 140737488351232 ∧ ∀ x ∈ a0, G55 x) → ∃ k, beaconlaw14_DeltaAgrees.f k a0 = some true
theorem opens61 : Opens Try.prog 61 k61 G61 := (Opens.struct (fun a => ⟨a.1, a.2.1, a.2.2.1, a.2.2.2.1, a.2.2.2.2⟩) (fun _ => rfl) Try.underlying61 (by kernel_rfl) (OpensF.cons rfl (Opens.int Try.underlying3 (by kernel_rfl) (lo := -9223372036854775808) (hi := 9223372036854775807) (by decide) (by decide)) (OpensF.cons rfl (Opens.int Try.underlying3 (by kernel_rfl) (lo := -9223372036854775808) (hi := 9223372036854775807) (by decide) (by decide)) (OpensF.cons rfl (Opens.float Try.underlying59 (by kernel_rfl)) (OpensF.cons rfl (Opens.float Try.underlying59 (by kernel_rfl)) (OpensF.one rfl (Opens.int Try.underlying3 (by kernel_rfl) (lo := -9223372036854775808) (hi := 9223372036854775807) (by decide) (by decide)))))))).mono (fun _ h => h)
theorem opens55 : Opens Try.prog 55 k55 G55 := (Opens.struct (fun a => ⟨a.1, a.2.1, a.2.2.1, a.2.2.2⟩) (fun _ => rfl) Try.underlying55 (by kernel_rfl) (OpensF.cons rfl (Opens.int Try.underlying3 (by kernel_rfl) (lo := -9223372036854775808) (hi := 9223372036854775807) (by decide) (by decide)) (OpensF.cons rfl (Opens.slice (B := 40) Try.underlying30 (by kernel_rfl) (by kernel_rfl) opens61) (OpensF.cons rfl (Opens.int Try.underlying3 (by kernel_rfl) (lo := -9223372036854775808) (hi := 9223372036854775807) (by decide) (by decide)) (OpensF.one rfl (Opens.int Try.underlying3 (by kernel_rfl) (lo := -9223372036854775808) (hi := 9223372036854775807) (by decide) (by decide))))))).mono (fun _ h => h)
end Go.Proofs.Ytpcgjdllgdkobaa.XA.DeltaAgrees
namespace Go.Proofs.Ytpcgjdllgdkobaa.Pure
open Go.RowKit Go.Proofs.YtpcgjdllgdkobaaW.PrintWords Go.Proofs.Ytpcgjdllgdkobaa.XA Go.Proofs.Ytpcgjdllgdkobaa.ZD
theorem list1:delta_list.f 19 [(⟨1,1,4611686018427387904,0,0⟩:S61)] = some true:=by decide +kernel
theorem list2:delta_list.f 19 [(⟨1,1,4613937818241073152,0,0⟩:S61)] = some true:=by decide +kernel
theorem diff1:delta_diff.f [(⟨1,1,4611686018427387904,0,0⟩:S61)] [(⟨1,1,4613937818241073152,0,0⟩:S61)] = some [(⟨1,1,4613937818241073152,0,0⟩:S61)]:=by
 have hf:¬ (fbits 4611686018427387904 = fbits 4613937818241073152):=by unfold fbits;decide
 simp [delta_diff.f,diffL,ahB,sameB,hf]
theorem awake19:beaconlaw14_awake.f 19 = some true:=by
 unfold beaconlaw14_awake.f delta_Diff.f
 rw [list1,list2]
 simp only [Option.bind_some,if_true]
 rw [diff1]
 decide +kernel
theorem awake_small:beaconlaw14_awake.f 20 = some true:=beaconlaw14_awake.mono _ _ awake19
end Go.Proofs.Ytpcgjdllgdkobaa.Pure
namespace Go.Proofs.Ytpcgjdllgdkobaa.Pure
open Go.RowKit Go.Proofs.YtpcgjdllgdkobaaW.PrintWords Go.Proofs.Ytpcgjdllgdkobaa.XA Go.Proofs.Ytpcgjdllgdkobaa.ZD
theorem inf_f (a:Nat):math_IsInf.f a 1 = some (flt 9218868437227405311 a):=by
 unfold math_IsInf.f
 rw [if_neg (by decide),if_neg (by decide)]
def num (x:Int):Bool:=decide (1≤x) && decide (x≤2147483647)
theorem id_f (x:Int):ident_CheckId.f x = some (if num x = true then 0 else 20):=by
 unfold ident_CheckId.f num
 by_cases h1:x < 1
 ·rw [if_pos h1,if_neg (by simp;omega)]
 ·rw [if_neg h1]
  by_cases h2:x > 2147483647
  ·rw [if_pos h2,if_neg (by simp;omega)]
  ·rw [if_neg h2,if_pos (by simp;omega)]
theorem num_f (x:Int):message_number.f x = some (num x):=by
 unfold message_number.f
 rw [id_f]
 cases num x <;> rfl
theorem num_r (x:Int):beaconref06_number.f x = some (num x):=num_f x
def dist (a:Nat):Bool:=flt 9218868437227405311 a || (fbits a == 0) || (flt 0 a && (flt a 4742290407621132288 && feq (fmul a 4616189618054758400) (fround .zero (fmul a 4616189618054758400))))
theorem four_fin:(4616189618054758400:Nat) < 9218868437227405312:=by decide
theorem round_ok {a:Nat} (h:a < 9218868437227405312):froundOk (fmul a 4616189618054758400) = true:=by
 have h1:=(fmul_fin h four_fin).2
 rcases Nat.lt_or_eq_of_le h1 with h2 | h2
 ·have hd:FloatKind.f64.decode (fmul a 4616189618054758400) = .number false (mg (fmul a 4616189618054758400)) (-1074 + (pl (fmul a 4616189618054758400):Nat)):=read_pos h2
  unfold froundOk;rw [hd]
 ·rw [h2];decide +kernel
theorem fin_of {a:Nat} (ha:a < 18446744073709551616) (h0:a < 9223372036854775808) (h:flt a 4742290407621132288 = true):a < 9218868437227405312:=by
 rcases Nat.lt_or_ge a 9218868437227405312 with h1 | h1
 ·exact h1
 ·exfalso
  by_cases hn:isN a
  ·rw [flt_nan (.inl hn)] at h;cases h
  ·have h2:a = 9218868437227405312:=by unfold isN at hn;omega
   subst h2
   rw [flt_pos (by omega) (by omega)] at h
   revert h;decide
theorem neg_flt {a:Nat} (ha:a < 18446744073709551616) (h0:¬ a < 9223372036854775808) (b:Nat) (hb:b≤9218868437227405312):flt b a = false:=by
 by_cases hn:isN a
 ·exact flt_nan (.inr hn)
 ·obtain ⟨h1,h2,h3⟩:=pos_ok hb
  rw [flt_key h1 ha h2 hn,h3]
  have:key a≤0:=by unfold key;rw [if_neg h0];omega
  simp;omega
theorem trunc_f {a:Nat} (h:a < 9218868437227405312):math_Trunc.f (fmul a 4616189618054758400) = some (fround .zero (fmul a 4616189618054758400)):=by
 unfold math_Trunc.f
 rw [if_pos (round_ok h)]
theorem far_f {a:Nat} (ha:a < 18446744073709551616):beaconref06_Far.f a = some (dist a):=by
 unfold beaconref06_Far.f dist
 rw [inf_f]
 simp only [Option.bind_some]
 by_cases h1:flt 9218868437227405311 a = true
 ·rw [if_pos h1,h1];rfl
 ·rw [if_neg h1,Bool.eq_false_iff.mpr h1]
  by_cases h2:fbits a = 0
  ·rw [if_pos h2,h2];rfl
  ·rw [if_neg h2,beq_eq_false_iff_ne.mpr h2]
   by_cases h3:flt 0 a = true
   ·rw [if_pos h3,h3]
    by_cases h4:flt a 4742290407621132288 = true
    ·rw [if_pos h4,h4]
     have h5:a < 9223372036854775808:=by
      rcases Nat.lt_or_ge a 9223372036854775808 with h | h
      ·exact h
      ·rw [neg_flt ha (by omega) 0 (by omega)] at h3;cases h3
     have h6:=fin_of ha h5 h4
     rw [if_pos (fmul_fin h6 four_fin).1,trunc_f h6]
     simp
    ·rw [if_neg h4,Bool.eq_false_iff.mpr h4];rfl
   ·rw [if_neg h3,Bool.eq_false_iff.mpr h3];rfl
theorem sign_f {a:Nat} (ha:a < 18446744073709551616):math_Signbit.f a = some (decide (9223372036854775808≤a)):=by
 unfold math_Signbit.f
 congr 1
 unfold fbits wrap64
 by_cases h:9223372036854775808≤a <;> simp [h] <;> omega
theorem dist_neg {a:Nat} (ha:a < 18446744073709551616) (h:9223372036854775808≤a):dist a = false:=by
 unfold dist
 rw [neg_flt ha (by omega) _ (by omega),neg_flt ha (by omega) 0 (by omega)]
 have:¬ (fbits a = 0):=by unfold fbits;omega
 simp [this]
theorem distance_f {a:Nat} (ha:a < 18446744073709551616) (k:Nat):message_distance.f (k + 1) a = some (dist a):=by
 unfold message_distance.f
 rw [sign_f ha]
 simp only [Option.bind_some]
 by_cases h:9223372036854775808≤a
 ·rw [if_pos (decide_eq_true h),dist_neg ha h]
  simp only [message_distance.j0,if_true]
 ·rw [if_neg (by simp;omega)]
  unfold math_IsNaN.f
  simp only [Option.bind_some,message_distance.j0]
  by_cases hn:isN a
  ·rw [feq_nan (.inl hn)]
   simp only [Bool.not_false,if_true]
   unfold dist
   rw [flt_nan (.inr hn),flt_nan (.inr hn)]
   have:¬ (fbits a = 0):=by unfold fbits;unfold isN at hn;omega
   simp [this]
  ·rw [feq_key ha ha hn hn]
   simp only [decide_true,Bool.not_true,Bool.false_eq_true,if_false]
   rw [inf_f]
   simp only [Option.bind_some]
   unfold dist
   by_cases h1:flt 9218868437227405311 a = true
   ·rw [if_pos h1,h1];rfl
   ·rw [if_neg h1,Bool.eq_false_iff.mpr h1]
    have hle:a≤9218868437227405312:=by unfold isN at hn;omega
    by_cases h0:a = 0
    ·subst h0
     have e1:flt 0 4742290407621132288 = true:=by decide +kernel
     have e2:fmulOk 0 4616189618054758400 = true:=by decide +kernel
     have e3:math_Trunc.f (fmul 0 4616189618054758400) = some (fmul 0 4616189618054758400):=by decide +kernel
     have e4:feq (fmul 0 4616189618054758400) (fmul 0 4616189618054758400) = true:=by decide +kernel
     have e5:fbits 0 = 0:=by unfold fbits;rfl
     rw [if_pos e1,if_pos e2,e3,e5]
     simp only [Option.bind_some]
     rw [e4]
     rfl
    ·have h2:¬ (fbits a = 0):=by unfold fbits;omega
     have h3:flt 0 a = true:=by rw [flt_pos (by omega) hle];simp;omega
     rw [beq_eq_false_iff_ne.mpr h2,h3]
     by_cases h4:flt a 4742290407621132288 = true
     ·rw [if_pos h4,h4]
      have h6:=fin_of ha (by omega) h4
      rw [if_pos (fmul_fin h6 four_fin).1,trunc_f h6]
      simp
     ·rw [if_neg h4,Bool.eq_false_iff.mpr h4];rfl
def newsB (x:S61):Bool:=num x.f0 && (decide (x.f1 = 1) || decide (x.f1 = 2)) && dist x.f2 && (if decide (x.f1 = 1) || flt 9218868437227405311 x.f2 then (fbits x.f3 == 0) && (x.f4 == 0) else if flt 9218868437227405311 x.f3 then x.f4 == 0 else dist x.f3 && num x.f4)
def G (x:S61):Prop:=x.f2 < 18446744073709551616∧x.f3 < 18446744073709551616
theorem news_f {x:S61} (hx:G x) (k:Nat):message_news.f (k + 3) x.f0 x.f1 x.f2 x.f3 x.f4 = some (newsB x):=by
 unfold message_news.f newsB
 rw [num_f,distance_f hx.1]
 simp only [Option.bind_some,message_news.j0,message_news.j1]
 rw [inf_f,inf_f,distance_f hx.2,num_f]
 simp only [Option.bind_some]
 cases num x.f0 <;> by_cases h1:x.f1 = 1 <;> by_cases h2:x.f1 = 2 <;> cases dist x.f2 <;> cases flt 9218868437227405311 x.f2 <;> by_cases h3:fbits x.f3 = 0 <;> cases flt 9218868437227405311 x.f3 <;> cases dist x.f3 <;> simp [h1,h2,h3] <;> first | rfl | omega
theorem news_r {x:S61} (hx:G x) (k:Nat):beaconref06_May.f (k + 3) x.f0 x.f1 x.f2 x.f3 x.f4 = some (newsB x):=by
 unfold beaconref06_May.f newsB
 rw [num_r,far_f hx.1]
 simp only [Option.bind_some,beaconref06_May.j0,beaconref06_May.j1,beaconref06_zero.f]
 rw [inf_f,inf_f,far_f hx.2,num_r]
 simp only [Option.bind_some]
 cases num x.f0 <;> by_cases h1:x.f1 = 1 <;> by_cases h2:x.f1 = 2 <;> cases dist x.f2 <;> cases flt 9218868437227405311 x.f2 <;> by_cases h3:fbits x.f3 = 0 <;> cases flt 9218868437227405311 x.f3 <;> cases dist x.f3 <;> simp [h1,h2,h3] <;> first | rfl | omega
end Go.Proofs.Ytpcgjdllgdkobaa.Pure
namespace Go.Proofs.Ytpcgjdllgdkobaa.Pure
open Go.RowKit Go.Proofs.YtpcgjdllgdkobaaW.PrintWords Go.Proofs.Ytpcgjdllgdkobaa.XA Go.Proofs.Ytpcgjdllgdkobaa.ZD
set_option linter.unusedSimpArgs false
theorem at_drop {l:List S61} {n:Nat} {x:S61} {xs:List S61} (h:l.drop n = x :: xs):(n:Int) < l.length∧l.drop (n + 1) = xs∧rd_T61 l (n:Int) = x∧l[n]? = some x:=by
 have h1:n < l.length:=by
  rcases Nat.lt_or_ge n l.length with h1 | h1
  ·exact h1
  ·rw [List.drop_eq_nil_of_le h1] at h
   cases h
 rw [List.drop_eq_getElem_cons h1] at h
 injection h with h2 h3
 refine ⟨by omega,h3,?_,by rw [List.getElem?_eq_getElem h1,h2]⟩
 unfold rd_T61
 rw [Int.toNat_natCast,List.getD_eq_getElem?_getD,List.getElem?_eq_getElem h1,Option.getD_some,h2]
theorem drop_nil {l:List S61} {n:Nat} (h:l.drop n = []):l.length≤n:=by
 rcases Nat.lt_or_ge n l.length with h1 | h1
 ·rw [List.drop_eq_getElem_cons h1] at h;cases h
 ·exact h1
theorem wrap_up (n:Nat) (h:n≤4611686018427387904):wrap64 ((n:Int) + 1) = ((n + 1:Nat):Int):=by unfold wrap64;omega
theorem wrap_dn (n:Nat) (h:n≤4611686018427387904):wrap64 (((n + 1:Nat):Int) - 1) = (n:Int):=by unfold wrap64;omega
def risB:Option S61→List S61→Bool
 | _,[]=>true
 | p,x :: xs=>newsB x && (match p with | none=>true | some y=>ahB y x) && risB (some x) xs
def prev (l:List S61):Nat→Option S61
 | 0=>none
 | n + 1=>l[n]?
theorem prev_some {l:List S61} {n:Nat} (h:n < l.length):prev l (n + 1) = some (rd_T61 l (n:Int)):=by
 show l[n]? = _
 unfold rd_T61
 rw [Int.toNat_natCast,List.getD_eq_getElem?_getD,List.getElem?_eq_getElem h,Option.getD_some]
theorem ahead_m (x y:S61):message_ahead.f x.f0 x.f1 x.f2 x.f3 x.f4 y.f0 y.f1 y.f2 y.f3 y.f4 = some (ahB x y):=ahead_f x y
theorem before_r (x y:S61):beaconref06_Before.f x.f0 x.f1 x.f2 x.f3 x.f4 y.f0 y.f1 y.f2 y.f3 y.f4 = some (ahB x y):=ahead_f x y
abbrev E0:ByteArray:=⟨#[]⟩
theorem chk_l (l:List S61) (hl:l.length≤3518437208882) (hG:∀ x∈l,G x):∀ (rest:List S61) (n k:Nat) (ok:Bool),l.drop n = rest→rest.length + 6≤k→
  message_Check.l0 k ok l (l.length:Int) (n:Int) 2 1 1 1 l 0 0 0 0 0 0 0 0 E0 0 0 E0 = some (if (ok && risB (prev l n) rest) = true then 0 else 60):=by
 intro rest
 induction rest with
 | nil=>
  intro n k ok hn hk
  obtain ⟨k,rfl⟩:∃ m,k = m + 1:=⟨k - 1,by omega⟩
  have h:=drop_nil hn
  simp only [message_Check.l0]
  rw [if_neg (by omega)]
  cases ok <;> rfl
 | cons x xs ih=>
  intro n k ok hn hk
  simp only [List.length_cons] at hk
  obtain ⟨k,rfl⟩:∃ m,k = m + 1:=⟨k - 1,by omega⟩
  obtain ⟨h1,h2,h3,h4⟩:=at_drop hn
  have hx:G x:=hG x (List.mem_of_getElem? h4)
  have hw:=wrap_up n (by omega)
  simp only [message_Check.l0]
  rw [if_pos h1,if_pos (by omega),if_pos h1,h3,hw]
  have hnews:message_news.f k x.f0 x.f1 x.f2 x.f3 x.f4 = some (newsB x):=by
   obtain ⟨j,rfl⟩:∃ j,k = j + 3:=⟨k - 3,by omega⟩
   exact news_f hx j
  have ih':=fun ok=>ih (n + 1) k ok h2 (by omega)
  rw [hnews]
  simp only [Option.bind_some]
  rw [ih' false]
  have hp:prev l (n + 1) = some x:=h4
  rw [hp] at ih' ⊢
  cases ok with
  | false=>rw [if_neg (by decide)];simp [risB]
  | true=>
   rw [if_pos rfl]
   by_cases hb:newsB x = true
   ·rw [if_pos hb]
    cases n with
    | zero=>
     rw [if_pos (by simp),ih' true]
     simp [risB,prev,hb]
    | succ m=>
     rw [if_neg (by omega),wrap_dn m (by omega),if_pos (by omega),if_pos (by omega)]
     have hm:m < l.length:=by omega
     rw [ahead_m,prev_some hm]
     simp only [Option.bind_some]
     rw [ih']
     simp [risB,hb]
   ·rw [if_neg hb]
    simp [risB,hb]
theorem check_f (l:List S61) (hl:l.length≤3518437208882) (hG:∀ x∈l,G x) (k:Nat) (hk:l.length + 8≤k) :
  message_Check.f k 2 1 1 1 l 0 0 0 0 0 0 0 0 E0 0 0 E0 = some (if (decide (l.length≤512) && risB none l) = true then 0 else 60):=by
 obtain ⟨k,rfl⟩:∃ m,k = m + 2:=⟨k - 2,by omega⟩
 have hl0:=fun ok=>chk_l l hl hG l 0 k ok rfl (by omega)
 have hnone:message_none.f 0 0 0 0 0 0 0 0 E0 0 0 E0 = some true:=by decide +kernel
 unfold message_Check.f
 simp only [message_Check.j0,message_Check.j1]
 rw [hnone]
 simp only [Option.bind_some]
 by_cases h5:l.length≤512
 ·have h6:(l.length:Int)≤512:=by omega
  simp [h5,h6]
  have:=hl0 true
  simpa [prev] using this
 ·have h6:¬ (l.length:Int)≤512:=by omega
  simp [h5,h6]
  have:=hl0 false
  simpa [prev] using this
theorem risB_append:∀ (a:List S61) (p:Option S61) (b:List S61),risB p (a ++ b) = (risB p a && risB (match a.getLast? with | none=>p | some y=>some y) b)
 | [],p,b=>by simp [risB]
 | x :: xs,p,b=>by
  simp only [List.cons_append,risB]
  rw [risB_append xs (some x) b]
  cases xs with
  | nil=>simp [Bool.and_assoc]
  | cons y ys=>
   rw [List.getLast?_cons_cons]
   cases h:(y :: ys).getLast? with
   | none=>exact absurd (List.getLast?_eq_none_iff.1 h) (by simp)
   | some z=>simp [Bool.and_assoc]
theorem risB_none (p:Option S61):∀ (a:List S61),a≠[]→risB p a = (risB none a && (match p,a.head? with | some y,some x=>ahB y x | _,_=>true))
 | [],h=>absurd rfl h
 | x :: xs,_=>by
  cases p with
  | none=>simp
  | some y=>simp only [risB,List.head?_cons];cases newsB x <;> cases ahB y x <;> simp
theorem told_l (l:List S61) (hl:l.length≤3518437208882) (hG:∀ x∈l,G x):∀ (d n k:Nat),l.length - n≤d→n≤l.length + 512→l.length + d + 10≤k→
  delta_told.l0 k l (n:Int) = some (risB (prev l n) (l.drop n)):=by
 intro d
 induction d using Nat.strongRecOn with
 | _ d ih=>
 intro n k hd hn hk
 obtain ⟨k,rfl⟩:∃ m,k = m + 1:=⟨k - 1,by omega⟩
 simp only [delta_told.l0]
 by_cases h1:n < l.length
 ·have e512:wrap64 ((n:Int) + 512) = ((n + 512:Nat):Int):=by unfold wrap64;omega
  have emn:mn (wrap64 ((n:Int) + 512)) (l.length:Int) = ((min (n + 512) l.length:Nat):Int):=by
   rw [e512];unfold mn;omega
  rw [if_pos (by omega),if_pos (by omega),emn,if_pos (by omega),if_pos (by omega),e512]
  obtain ⟨c,hc⟩:∃ c,(l.take (min (n + 512) l.length)).drop n = c:=⟨_,rfl⟩
  have hct:(List.drop ((n:Int)).toNat (List.take (((min (n + 512) l.length:Nat):Int)).toNat l)) = c:=by simpa using hc
  rw [hct]
  have hclen:c.length = min (n + 512) l.length - n:=by rw [← hc];simp
  have hcs:c ++ l.drop (min (n + 512) l.length) = l.drop n:=by
   rw [← hc]
   have:=List.take_append_drop (min (n + 512) l.length) l
   conv=>rhs;rw [← this]
   rw [List.drop_append_of_le_length (by simp;omega)]
  have hcG:∀ x∈c,G x:=fun x hx=>hG x (by rw [← hc] at hx;exact List.mem_of_mem_take (List.mem_of_mem_drop hx))
  rw [check_f c (by omega) hcG k (by omega)]
  simp only [Option.bind_some]
  have h512:decide (c.length≤512) = true:=decide_eq_true (by omega)
  rw [h512,Bool.true_and]
  have hne:c≠[]:=by intro e;rw [e] at hclen;simp at hclen;omega
  have hlast:c.getLast? = prev l (min (n + 512) l.length):=by
   obtain ⟨m,hm⟩:∃ m,min (n + 512) l.length = m + 1:=⟨min (n + 512) l.length - 1,by omega⟩
   rw [hm]
   show c.getLast? = l[m]?
   rw [List.getLast?_eq_getElem?,hclen,← hc,List.getElem?_drop,List.getElem?_take_of_lt (by omega)]
   congr 1
   omega
  have hhead:c.head? = some (rd_T61 l (n:Int)):=by
   rw [← hc,List.head?_drop,List.getElem?_take_of_lt (by omega),List.getElem?_eq_getElem h1]
   unfold rd_T61
   rw [Int.toNat_natCast,List.getD_eq_getElem?_getD,List.getElem?_eq_getElem h1,Option.getD_some]
  have hnext:delta_told.l0 k l ((n + 512:Nat):Int) = some (risB (prev l (min (n + 512) l.length)) (l.drop (min (n + 512) l.length))):=by
   by_cases h2:n + 512≤l.length
   ·rw [Nat.min_eq_left h2]
    exact ih (d - 512) (by omega) (n + 512) k (by omega) (by omega) (by omega)
   ·obtain ⟨k,rfl⟩:∃ m,k = m + 1:=⟨k - 1,by omega⟩
    simp only [delta_told.l0]
    rw [if_neg (by omega),Nat.min_eq_right (by omega),List.drop_eq_nil_of_le (Nat.le_refl _)]
    simp [risB]
  have hall:risB (prev l n) (l.drop n) = ((risB none c && (match prev l n,some (rd_T61 l (n:Int)) with | some y,some x=>ahB y x | _,_=>true)) && risB (prev l (min (n + 512) l.length)) (l.drop (min (n + 512) l.length))):=by
   rw [← hcs,risB_append,risB_none _ c hne,hhead]
   congr 2
   cases hg:c.getLast? with
   | none=>exact absurd (List.getLast?_eq_none_iff.1 hg) hne
   | some y=>rw [← hlast,hg]
  rw [hall]
  by_cases hr:risB none c = true
  ·rw [hr]
   simp only [if_true]
   cases n with
   | zero=>
    rw [if_neg (by simp),hnext]
    simp [prev]
   | succ m=>
    rw [if_pos (by omega),wrap_dn m (by omega),if_pos (by omega),if_pos (by omega),ahead_f,prev_some (by omega)]
    simp only [Option.bind_some]
    by_cases ha:ahB (rd_T61 l (m:Int)) (rd_T61 l ((m + 1:Nat):Int)) = true
    ·rw [if_pos ha,hnext,ha];simp
    ·rw [if_neg ha,Bool.eq_false_iff.mpr ha];simp
  ·rw [Bool.eq_false_iff.mpr hr];simp
 ·rw [if_neg (by omega),List.drop_eq_nil_of_le (by omega)]
  simp [risB]
theorem told_f (l:List S61) (hl:l.length≤3518437208882) (hG:∀ x∈l,G x) (k:Nat) (hk:2 * l.length + 10≤k):delta_told.f k l = some (risB none l):=
 told_l l hl hG l.length 0 k (by omega) (by omega) (by omega)
def infsB (l:List S61):Bool:=l.any infB
theorem list_l (l:List S61) (hl:l.length≤3518437208882) (hG:∀ x∈l,G x):∀ (rest:List S61) (n k:Nat),l.drop n = rest→rest.length + 2 * l.length + 11≤k→
  delta_list.l0 k l l (l.length:Int) (n:Int) = some (!infsB rest && risB none l):=by
 intro rest
 induction rest with
 | nil=>
  intro n k hn hk
  obtain ⟨k,rfl⟩:∃ m,k = m + 1:=⟨k - 1,by omega⟩
  have h:=drop_nil hn
  simp only [delta_list.l0]
  rw [if_neg (by omega),told_f l hl hG k (by simp at hk;omega)]
  simp [infsB]
 | cons x xs ih=>
  intro n k hn hk
  simp only [List.length_cons] at hk
  obtain ⟨k,rfl⟩:∃ m,k = m + 1:=⟨k - 1,by omega⟩
  obtain ⟨h1,h2,h3,h4⟩:=at_drop hn
  simp only [delta_list.l0]
  rw [if_pos h1,if_pos (by omega),if_pos h1,h3,inf_f,wrap_up n (by omega),ih (n + 1) k h2 (by omega)]
  simp only [Option.bind_some,infsB,List.any_cons,infB]
  by_cases hi:flt 9218868437227405311 x.f2 = true
  ·rw [if_pos hi,hi];simp
  ·rw [if_neg hi,Bool.eq_false_iff.mpr hi];simp
def listB (l:List S61):Bool:=!infsB l && risB none l
theorem list_f (l:List S61) (hl:l.length≤3518437208882) (hG:∀ x∈l,G x) (k:Nat) (hk:3 * l.length + 11≤k):delta_list.f k l = some (listB l):=
 list_l l hl hG l 0 k rfl (by omega)
theorem ris_l (l:List S61) (hl:l.length≤3518437208882) (hG:∀ x∈l,G x):∀ (rest:List S61) (n k:Nat),l.drop n = rest→rest.length + 6≤k→
  beaconref14_rising.l0 k l (n:Int) = some (risB (prev l n) rest):=by
 intro rest
 induction rest with
 | nil=>
  intro n k hn hk
  obtain ⟨k,rfl⟩:∃ m,k = m + 1:=⟨k - 1,by omega⟩
  have h:=drop_nil hn
  simp only [beaconref14_rising.l0]
  rw [if_neg (by omega)]
  rfl
 | cons x xs ih=>
  intro n k hn hk
  simp only [List.length_cons] at hk
  obtain ⟨k,rfl⟩:∃ m,k = m + 1:=⟨k - 1,by omega⟩
  obtain ⟨h1,h2,h3,h4⟩:=at_drop hn
  have hx:G x:=hG x (List.mem_of_getElem? h4)
  have hmay:beaconref06_May.f k x.f0 x.f1 x.f2 x.f3 x.f4 = some (newsB x):=by
   obtain ⟨j,rfl⟩:∃ j,k = j + 3:=⟨k - 3,by omega⟩
   exact news_r hx j
  have ih':=ih (n + 1) k h2 (by omega)
  have hp:prev l (n + 1) = some x:=h4
  rw [hp] at ih'
  simp only [beaconref14_rising.l0]
  rw [if_pos h1,if_pos (by omega),h3,hmay,wrap_up n (by omega),ih']
  simp only [Option.bind_some]
  by_cases hb:newsB x = true
  ·rw [if_pos hb]
   cases n with
   | zero=>rw [if_neg (by simp)];simp [risB,prev,hb]
   | succ m=>
    rw [if_pos (by omega),wrap_dn m (by omega),if_pos (by omega),if_pos (by omega),before_r,prev_some (by omega)]
    simp only [Option.bind_some]
    by_cases ha:ahB (rd_T61 l (m:Int)) x = true
    ·rw [if_pos ha];simp [risB,hb,ha]
    ·rw [if_neg ha];simp [risB,hb,ha]
  ·rw [if_neg hb];simp [risB,hb]
theorem ris_f (l:List S61) (hl:l.length≤3518437208882) (hG:∀ x∈l,G x) (k:Nat) (hk:l.length + 6≤k):beaconref14_rising.f k l = some (risB none l):=
 ris_l l hl hG l 0 k rfl hk
theorem rlist_l (l:List S61) (hl:l.length≤3518437208882) (hG:∀ x∈l,G x):∀ (rest:List S61) (n k:Nat),l.drop n = rest→rest.length + l.length + 7≤k→
  beaconref14_List.l0 k l (n:Int) = some (!infsB rest && risB none l):=by
 intro rest
 induction rest with
 | nil=>
  intro n k hn hk
  obtain ⟨k,rfl⟩:∃ m,k = m + 1:=⟨k - 1,by omega⟩
  have h:=drop_nil hn
  simp only [beaconref14_List.l0]
  rw [if_neg (by omega),ris_f l hl hG k (by simp at hk;omega)]
  simp [infsB]
 | cons x xs ih=>
  intro n k hn hk
  simp only [List.length_cons] at hk
  obtain ⟨k,rfl⟩:∃ m,k = m + 1:=⟨k - 1,by omega⟩
  obtain ⟨h1,h2,h3,h4⟩:=at_drop hn
  simp only [beaconref14_List.l0]
  rw [if_pos h1,if_pos (by omega),h3,inf_f,wrap_up n (by omega),ih (n + 1) k h2 (by omega)]
  simp only [Option.bind_some,infsB,List.any_cons,infB]
  by_cases hi:flt 9218868437227405311 x.f2 = true
  ·rw [if_pos hi,hi];simp
  ·rw [if_neg hi,Bool.eq_false_iff.mpr hi];simp
theorem rlist_f (l:List S61) (hl:l.length≤3518437208882) (hG:∀ x∈l,G x) (k:Nat) (hk:2 * l.length + 7≤k):beaconref14_List.f k l = some (listB l):=
 rlist_l l hl hG l 0 k rfl (by omega)
end Go.Proofs.Ytpcgjdllgdkobaa.Pure
namespace Go.Proofs.Ytpcgjdllgdkobaa.Pure
open Go.RowKit Go.Proofs.YtpcgjdllgdkobaaW.PrintWords Go.Proofs.Ytpcgjdllgdkobaa.XA Go.Proofs.Ytpcgjdllgdkobaa.ZD
set_option linter.unusedSimpArgs false
set_option linter.unusedVariables false
theorem ah_iff (x y:S61):ahB x y = true↔x.f1 < y.f1∨(x.f1 = y.f1∧x.f0 < y.f0):=by simp [ahB]
theorem ah_trans {x y z:S61} (h:ahB x y = true) (k:ahB y z = true):ahB x z = true:=by rw [ah_iff] at *;omega
theorem ah_irr (x:S61):¬ ahB x x = true:=by rw [ah_iff];omega
theorem ah_not {x y:S61} (h:ahB x y = true):¬ ahB y x = true:=by rw [ah_iff] at *;omega
def sk (x y:S61):Prop:=x.f1 = y.f1∧x.f0 = y.f0
theorem sk_or (x y:S61):ahB x y = true∨sk x y∨ahB y x = true:=by rw [ah_iff,ah_iff];unfold sk;omega
theorem sk_ah {x y z:S61} (h:sk x y):(ahB x z = true↔ahB y z = true)∧(ahB z x = true↔ahB z y = true):=by simp only [ah_iff];unfold sk at h;omega
theorem ah_nosk {x y:S61} (h:ahB x y = true):¬ sk x y∧¬ sk y x:=by rw [ah_iff] at h;unfold sk;omega
theorem sk_refl (x:S61):sk x x:=⟨rfl,rfl⟩
theorem sk_symm {x y:S61} (h:sk x y):sk y x:=⟨h.1.symm,h.2.symm⟩
theorem sk_gone (x:S61):sk (gone x) x:=⟨rfl,rfl⟩
abbrev Srt (l:List S61):Prop:=l.Pairwise (fun x y=>ahB x y = true)
theorem srt_of_ris:∀ (l:List S61) (p:Option S61),risB p l = true→Srt l∧∀ y,p = some y→∀ x∈l,ahB y x = true
 | [],_,_=>⟨.nil,by simp⟩
 | x :: xs,p,h=>by
  simp only [risB,Bool.and_eq_true] at h
  obtain ⟨⟨_,hp⟩,hr⟩:=h
  obtain ⟨h1,h2⟩:=srt_of_ris xs (some x) hr
  refine ⟨List.pairwise_cons.2 ⟨fun y hy=>h2 x rfl y hy,h1⟩,?_⟩
  rintro y rfl z hz
  simp only at hp
  rcases List.mem_cons.1 hz with rfl | hz
  ·exact hp
  ·exact ah_trans hp (h2 x rfl z hz)
theorem srt_ext:∀ (a b:List S61),Srt a→Srt b→(∀ z,z∈a↔z∈b)→a = b
 | [],[],_,_,_=>rfl
 | [],y :: ys,_,_,h=>absurd ((h y).2 List.mem_cons_self) (by simp)
 | x :: xs,[],_,_,h=>absurd ((h x).1 List.mem_cons_self) (by simp)
 | x :: xs,y :: ys,ha,hb,h=>by
  rw [Srt,List.pairwise_cons] at ha hb
  have e:x = y:=by
   rcases List.mem_cons.1 ((h x).1 List.mem_cons_self) with h1 | h1
   ·exact h1
   ·rcases List.mem_cons.1 ((h y).2 List.mem_cons_self) with h2 | h2
    ·exact h2.symm
    ·exact absurd (ha.1 y h2) (ah_not (hb.1 x h1))
  subst e
  congr 1
  refine srt_ext xs ys ha.2 hb.2 fun z=>?_
  have hz:=h z
  simp only [List.mem_cons] at hz
  constructor
  ·intro h1
   rcases hz.1 (.inr h1) with rfl | h2
   ·exact absurd (ha.1 _ h1) (ah_irr _)
   ·exact h2
  ·intro h1
   rcases hz.2 (.inr h1) with rfl | h2
   ·exact absurd (hb.1 _ h1) (ah_irr _)
   ·exact h2
def putL:List S61→S61→List S61
 | [],n=>[n]
 | x :: xs,n=>if ahB n x then n :: x :: xs else x :: putL xs n
theorem mem_put (n z:S61):∀ l,z∈putL l n↔z = n∨z∈l
 | []=>by simp [putL]
 | x :: xs=>by
  unfold putL
  split
  ·simp
  ·simp [mem_put n z xs];constructor <;> (intro h;rcases h with h | h | h <;> simp [h])
theorem srt_put (n:S61):∀ l,Srt l→(∀ x∈l,¬ sk x n)→Srt (putL l n)
 | [],_,_=>by simp [putL,Srt]
 | x :: xs,h,hk=>by
  rw [Srt,List.pairwise_cons] at h
  unfold putL
  split
  ·rename_i hn
   refine List.pairwise_cons.2 ⟨fun z hz=>?_,List.pairwise_cons.2 h⟩
   rcases List.mem_cons.1 hz with rfl | hz
   ·exact hn
   ·exact ah_trans hn (h.1 z hz)
  ·rename_i hn
   refine List.pairwise_cons.2 ⟨fun z hz=>?_,srt_put n xs h.2 fun y hy=>hk y (List.mem_cons_of_mem _ hy)⟩
   rcases (mem_put n z xs).1 hz with rfl | hz
   ·rcases sk_or x z with h1 | h1 | h1
    ·exact h1
    ·exact absurd h1 (hk x List.mem_cons_self)
    ·exact absurd h1 hn
   ·exact h.1 z hz
theorem put_len (n:S61):∀ l,(putL l n).length = l.length + 1
 | []=>rfl
 | x :: xs=>by unfold putL;split <;> simp [put_len n xs]
def hasB (l:List S61) (y:S61):Bool:=l.any fun x=>decide (x.f1 = y.f1) && decide (x.f0 = y.f0)
theorem has_iff (l:List S61) (y:S61):hasB l y = true↔∃ x∈l,sk x y:=by simp [hasB,sk]
def puts (w:S61→Bool) (g:S61→S61) (o:List S61):List S61→List S61
 | []=>o
 | x :: xs=>puts w g (if w x then putL o (g x) else o) xs
theorem puts_spec (w:S61→Bool) (g:S61→S61) (hg:∀ x,sk (g x) x):∀ (l o:List S61),Srt o→Srt l→(∀ x∈l,w x = true→∀ z∈o,¬ sk z x)→
  Srt (puts w g o l)∧∀ z,z∈puts w g o l↔z∈o∨∃ x∈l,w x = true∧z = g x
 | [],o,ho,_,_=>by simpa [puts] using ho
 | x :: xs,o,ho,hl,hk=>by
  rw [Srt,List.pairwise_cons] at hl
  unfold puts
  by_cases hw:w x = true
  ·rw [if_pos hw]
   have h1:Srt (putL o (g x)):=srt_put _ o ho fun z hz hs=>hk x List.mem_cons_self hw z hz ⟨hs.1.trans (hg x).1,hs.2.trans (hg x).2⟩
   obtain ⟨h2,h3⟩:=puts_spec w g hg xs (putL o (g x)) h1 hl.2 (fun y hy hwy z hz hs=>by
    rcases (mem_put _ z o).1 hz with rfl | hz
    ·have:=hl.1 y hy
     exact (ah_nosk this).1 ⟨(hg x).1.symm.trans hs.1,(hg x).2.symm.trans hs.2⟩
    ·exact hk y (List.mem_cons_of_mem _ hy) hwy z hz hs)
   refine ⟨h2,fun z=>?_⟩
   rw [h3 z,mem_put]
   constructor
   ·rintro ((rfl | h) | ⟨y,hy,hwy,rfl⟩)
    ·exact .inr ⟨x,List.mem_cons_self,hw,rfl⟩
    ·exact .inl h
    ·exact .inr ⟨y,List.mem_cons_of_mem _ hy,hwy,rfl⟩
   ·rintro (h | ⟨y,hy,hwy,rfl⟩)
    ·exact .inl (.inr h)
    ·rcases List.mem_cons.1 hy with rfl | hy
     ·exact .inl (.inl rfl)
     ·exact .inr ⟨y,hy,hwy,rfl⟩
  ·rw [if_neg hw]
   obtain ⟨h2,h3⟩:=puts_spec w g hg xs o ho hl.2 (fun y hy=>hk y (List.mem_cons_of_mem _ hy))
   refine ⟨h2,fun z=>?_⟩
   rw [h3 z]
   constructor
   ·rintro (h | ⟨y,hy,hwy,rfl⟩)
    ·exact .inl h
    ·exact .inr ⟨y,List.mem_cons_of_mem _ hy,hwy,rfl⟩
   ·rintro (h | ⟨y,hy,hwy,rfl⟩)
    ·exact .inl h
    ·rcases List.mem_cons.1 hy with rfl | hy
     ·exact absurd hwy hw
     ·exact .inr ⟨y,hy,hwy,rfl⟩
def inDiff (xs ys:List S61) (z:S61):Prop:=(z∈ys∧∀ x∈xs,sk x z→sameB x z = false)∨(∃ x∈xs,(∀ y∈ys,¬ sk x y)∧z = gone x)
def inMerge (xs ys:List S61) (z:S61):Prop:=(z∈xs∧∀ y∈ys,¬ sk z y)∨(z∈ys∧infB z = false)
theorem below_diff (a:S61) (xs ys:List S61):(∀ x∈xs,ahB a x = true)→(∀ y∈ys,ahB a y = true)→∀ z∈diffL xs ys,ahB a z = true:=by
 fun_induction diffL xs ys with
 | case1=>intro _ _ z hz;simp at hz
 | case2 x xs ih=>
  intro hx hy z hz
  rcases List.mem_cons.1 hz with rfl | hz
  ·exact ((sk_ah (sk_gone x)).2).2 (hx x List.mem_cons_self)
  ·exact ih (fun y h=>hx y (List.mem_cons_of_mem _ h)) hy z hz
 | case3 y ys ih=>
  intro hx hy z hz
  rcases List.mem_cons.1 hz with rfl | hz
  ·exact hy _ List.mem_cons_self
  ·exact ih hx (fun y h=>hy y (List.mem_cons_of_mem _ h)) z hz
 | case4 x xs y ys h ih=>
  intro hx hy z hz
  rcases List.mem_cons.1 hz with rfl | hz
  ·exact hy _ List.mem_cons_self
  ·exact ih hx (fun y h=>hy y (List.mem_cons_of_mem _ h)) z hz
 | case5 x xs y ys h h' ih=>
  intro hx hy z hz
  rcases List.mem_cons.1 hz with rfl | hz
  ·exact ((sk_ah (sk_gone x)).2).2 (hx x List.mem_cons_self)
  ·exact ih (fun y h=>hx y (List.mem_cons_of_mem _ h)) hy z hz
 | case6 x xs y ys h h' h'' ih=>
  intro hx hy z hz
  exact ih (fun y h=>hx y (List.mem_cons_of_mem _ h)) (fun y h=>hy y (List.mem_cons_of_mem _ h)) z hz
 | case7 x xs y ys h h' h'' ih=>
  intro hx hy z hz
  rcases List.mem_cons.1 hz with rfl | hz
  ·exact hy _ List.mem_cons_self
  ·exact ih (fun y h=>hx y (List.mem_cons_of_mem _ h)) (fun y h=>hy y (List.mem_cons_of_mem _ h)) z hz
end Go.Proofs.Ytpcgjdllgdkobaa.Pure
namespace Go.Proofs.Ytpcgjdllgdkobaa.Pure
open Go.RowKit Go.Proofs.YtpcgjdllgdkobaaW.PrintWords Go.Proofs.Ytpcgjdllgdkobaa.XA Go.Proofs.Ytpcgjdllgdkobaa.ZD
set_option linter.unusedSimpArgs false
set_option linter.unusedVariables false
theorem same_sk {x y:S61} (h:sameB x y = true):sk x y:=by
 simp only [sameB,Bool.and_eq_true,decide_eq_true_eq] at h
 exact ⟨h.1.1.1.2,h.1.1.1.1⟩
theorem same_refl (x:S61):sameB x x = true:=by simp [sameB]
theorem inDiff_y {xs ys:List S61} {y:S61} (h:∀ x∈xs,¬ sk x y) (z:S61):inDiff xs (y :: ys) z↔z = y∨inDiff xs ys z:=by
 unfold inDiff
 constructor
 ·rintro (⟨h1,h2⟩ | ⟨x,h1,h2,h3⟩)
  ·rcases List.mem_cons.1 h1 with h1 | h1
   ·exact .inl h1
   ·exact .inr (.inl ⟨h1,h2⟩)
  ·exact .inr (.inr ⟨x,h1,fun y' hy'=>h2 y' (List.mem_cons_of_mem _ hy'),h3⟩)
 ·rintro (rfl | ⟨h1,h2⟩ | ⟨x,h1,h2,h3⟩)
  ·exact .inl ⟨List.mem_cons_self,fun x hx hs=>absurd hs (h x hx)⟩
  ·exact .inl ⟨List.mem_cons_of_mem _ h1,h2⟩
  ·exact .inr ⟨x,h1,fun y' hy'=>by rcases List.mem_cons.1 hy' with rfl | hy';exact h x h1;exact h2 y' hy',h3⟩
theorem inDiff_x {xs ys:List S61} {x:S61} (h:∀ y∈ys,¬ sk x y) (z:S61):inDiff (x :: xs) ys z↔z = gone x∨inDiff xs ys z:=by
 unfold inDiff
 constructor
 ·rintro (⟨h1,h2⟩ | ⟨x',h1,h2,h3⟩)
  ·exact .inr (.inl ⟨h1,fun x' hx'=>h2 x' (List.mem_cons_of_mem _ hx')⟩)
  ·rcases List.mem_cons.1 h1 with rfl | h1
   ·exact .inl h3
   ·exact .inr (.inr ⟨x',h1,h2,h3⟩)
 ·rintro (rfl | ⟨h1,h2⟩ | ⟨x',h1,h2,h3⟩)
  ·exact .inr ⟨x,List.mem_cons_self,h,rfl⟩
  ·exact .inl ⟨h1,fun x' hx'=>by rcases List.mem_cons.1 hx' with rfl | hx';exact fun hs=>absurd hs (h z h1);exact h2 x' hx'⟩
  ·exact .inr ⟨x',List.mem_cons_of_mem _ h1,h2,h3⟩
theorem inDiff_xy {xs ys:List S61} {x y:S61} (hs:sk x y) (h:∀ x'∈xs,¬ sk x' y) (h':∀ y'∈ys,¬ sk x y') (z:S61):inDiff (x :: xs) (y :: ys) z↔(sameB x y = false∧z = y)∨inDiff xs ys z:=by
 unfold inDiff
 constructor
 ·rintro (⟨h1,h2⟩ | ⟨x',h1,h2,h3⟩)
  ·rcases List.mem_cons.1 h1 with rfl | h1
   ·exact .inl ⟨h2 x List.mem_cons_self hs,rfl⟩
   ·exact .inr (.inl ⟨h1,fun x' hx'=>h2 x' (List.mem_cons_of_mem _ hx')⟩)
  ·rcases List.mem_cons.1 h1 with rfl | h1
   ·exact absurd hs (h2 y List.mem_cons_self)
   ·exact .inr (.inr ⟨x',h1,fun y' hy'=>h2 y' (List.mem_cons_of_mem _ hy'),h3⟩)
 ·rintro (⟨h0,rfl⟩ | ⟨h1,h2⟩ | ⟨x',h1,h2,h3⟩)
  ·refine .inl ⟨List.mem_cons_self,fun x' hx' hs'=>?_⟩
   rcases List.mem_cons.1 hx' with rfl | hx'
   ·exact h0
   ·exact absurd hs' (h x' hx')
  ·refine .inl ⟨List.mem_cons_of_mem _ h1,fun x' hx' hs'=>?_⟩
   rcases List.mem_cons.1 hx' with rfl | hx'
   ·exact absurd hs' (h' z h1)
   ·exact h2 x' hx' hs'
  ·refine .inr ⟨x',List.mem_cons_of_mem _ h1,fun y' hy'=>?_,h3⟩
   rcases List.mem_cons.1 hy' with rfl | hy'
   ·exact h x' h1
   ·exact h2 y' hy'
theorem inMerge_y {xs ys:List S61} {y:S61} (h:∀ x∈xs,¬ sk x y) (z:S61):inMerge xs (y :: ys) z↔(infB y = false∧z = y)∨inMerge xs ys z:=by
 unfold inMerge
 constructor
 ·rintro (⟨h1,h2⟩ | ⟨h1,h2⟩)
  ·exact .inr (.inl ⟨h1,fun y' hy'=>h2 y' (List.mem_cons_of_mem _ hy')⟩)
  ·rcases List.mem_cons.1 h1 with rfl | h1
   ·exact .inl ⟨h2,rfl⟩
   ·exact .inr (.inr ⟨h1,h2⟩)
 ·rintro (⟨h0,rfl⟩ | ⟨h1,h2⟩ | ⟨h1,h2⟩)
  ·exact .inr ⟨List.mem_cons_self,h0⟩
  ·exact .inl ⟨h1,fun y' hy'=>by rcases List.mem_cons.1 hy' with rfl | hy';exact h z h1;exact h2 y' hy'⟩
  ·exact .inr ⟨List.mem_cons_of_mem _ h1,h2⟩
theorem inMerge_x {xs ys:List S61} {x:S61} (h:∀ y∈ys,¬ sk x y) (z:S61):inMerge (x :: xs) ys z↔z = x∨inMerge xs ys z:=by
 unfold inMerge
 constructor
 ·rintro (⟨h1,h2⟩ | h1)
  ·rcases List.mem_cons.1 h1 with rfl | h1
   ·exact .inl rfl
   ·exact .inr (.inl ⟨h1,h2⟩)
  ·exact .inr (.inr h1)
 ·rintro (rfl | ⟨h1,h2⟩ | h1)
  ·exact .inl ⟨List.mem_cons_self,h⟩
  ·exact .inl ⟨List.mem_cons_of_mem _ h1,h2⟩
  ·exact .inr h1
theorem inMerge_xy {xs ys:List S61} {x y:S61} (hs:sk x y) (h:∀ x'∈xs,¬ sk x' y) (z:S61):inMerge (x :: xs) (y :: ys) z↔(infB y = false∧z = y)∨inMerge xs ys z:=by
 rw [inMerge]
 constructor
 ·rintro (⟨h1,h2⟩ | ⟨h1,h2⟩)
  ·rcases List.mem_cons.1 h1 with rfl | h1
   ·exact absurd hs (h2 y List.mem_cons_self)
   ·exact .inr (.inl ⟨h1,fun y' hy'=>h2 y' (List.mem_cons_of_mem _ hy')⟩)
  ·rcases List.mem_cons.1 h1 with rfl | h1
   ·exact .inl ⟨h2,rfl⟩
   ·exact .inr (.inr ⟨h1,h2⟩)
 ·rintro (⟨h0,rfl⟩ | ⟨h1,h2⟩ | ⟨h1,h2⟩)
  ·exact .inr ⟨List.mem_cons_self,h0⟩
  ·exact .inl ⟨List.mem_cons_of_mem _ h1,fun y' hy'=>by rcases List.mem_cons.1 hy' with rfl | hy';exact h z h1;exact h2 y' hy'⟩
  ·exact .inr ⟨List.mem_cons_of_mem _ h1,h2⟩
theorem far_y {x y:S61} {xs:List S61} (hx:Srt (x :: xs)) (h:ahB y x = true):∀ x'∈x :: xs,ahB y x' = true:=by
 intro x' hx'
 rcases List.mem_cons.1 hx' with rfl | hx'
 ·exact h
 ·exact ah_trans h ((List.pairwise_cons.1 hx).1 x' hx')
theorem sk_far {x y:S61} {xs:List S61} (hx:Srt (x :: xs)) (h:sk x y):∀ x'∈xs,ahB y x' = true:=fun x' hx'=>(sk_ah h).1.1 ((List.pairwise_cons.1 hx).1 x' hx')
theorem srt_cons {a:S61} {l:List S61} (h:∀ z∈l,ahB a z = true) (hl:Srt l):Srt (a :: l):=List.pairwise_cons.2 ⟨h,hl⟩
theorem gone_far {x:S61} {l:List S61} (h:∀ z∈l,ahB x z = true):∀ z∈l,ahB (gone x) z = true:=fun z hz=>(sk_ah (sk_gone x)).1.2 (h z hz)
theorem diff_spec (xs ys:List S61):Srt xs→Srt ys→Srt (diffL xs ys)∧∀ z,z∈diffL xs ys↔inDiff xs ys z:=by
 fun_induction diffL xs ys with
 | case1=>intro _ _;exact ⟨.nil,fun z=>by simp [inDiff]⟩
 | case2 x xs ih=>
  intro hx hy
  obtain ⟨h1,h2⟩:=ih (List.pairwise_cons.1 hx).2 hy
  refine ⟨srt_cons (below_diff _ _ _ (gone_far (List.pairwise_cons.1 hx).1) (by simp)) h1,fun z=>?_⟩
  rw [inDiff_x (by simp),List.mem_cons,h2]
 | case3 y ys ih=>
  intro hx hy
  obtain ⟨h1,h2⟩:=ih hx (List.pairwise_cons.1 hy).2
  refine ⟨srt_cons (below_diff _ _ _ (by simp) (List.pairwise_cons.1 hy).1) h1,fun z=>?_⟩
  rw [inDiff_y (by simp),List.mem_cons,h2]
 | case4 x xs y ys h ih=>
  intro hx hy
  obtain ⟨h1,h2⟩:=ih hx (List.pairwise_cons.1 hy).2
  refine ⟨srt_cons (below_diff _ _ _ (far_y hx h) (List.pairwise_cons.1 hy).1) h1,fun z=>?_⟩
  rw [inDiff_y (fun x' hx'=>(ah_nosk (far_y hx h x' hx')).2),List.mem_cons,h2]
 | case5 x xs y ys h h' ih=>
  intro hx hy
  obtain ⟨h1,h2⟩:=ih (List.pairwise_cons.1 hx).2 hy
  refine ⟨srt_cons (below_diff _ _ _ (gone_far (List.pairwise_cons.1 hx).1) (gone_far (far_y hy h'))) h1,fun z=>?_⟩
  rw [inDiff_x (fun y' hy'=>(ah_nosk (far_y hy h' y' hy')).1),List.mem_cons,h2]
 | case6 x xs y ys h h' h'' ih=>
  intro hx hy
  obtain ⟨h1,h2⟩:=ih (List.pairwise_cons.1 hx).2 (List.pairwise_cons.1 hy).2
  have hs:=same_sk h''
  refine ⟨h1,fun z=>?_⟩
  rw [inDiff_xy hs (fun x' hx'=>(ah_nosk (sk_far hx hs x' hx')).2) (fun y' hy'=>(ah_nosk (sk_far hy (sk_symm hs) y' hy')).1),h2,h'']
  simp
 | case7 x xs y ys h h' h'' ih=>
  intro hx hy
  obtain ⟨h1,h2⟩:=ih (List.pairwise_cons.1 hx).2 (List.pairwise_cons.1 hy).2
  have hs:sk x y:=by
   rcases sk_or x y with h0 | h0 | h0
   ·exact absurd h0 h'
   ·exact h0
   ·exact absurd h0 h
  refine ⟨srt_cons (below_diff _ _ _ (sk_far hx hs) (List.pairwise_cons.1 hy).1) h1,fun z=>?_⟩
  rw [inDiff_xy hs (fun x' hx'=>(ah_nosk (sk_far hx hs x' hx')).2) (fun y' hy'=>(ah_nosk (sk_far hy (sk_symm hs) y' hy')).1),List.mem_cons,h2]
  simp [h'']
theorem below_merge (a:S61) (xs ys:List S61) (hx:∀ x∈xs,ahB a x = true) (hy:∀ y∈ys,ahB a y = true):∀ z,inMerge xs ys z→ahB a z = true:=by
 rintro z (h | h)
 ·exact hx z h.1
 ·exact hy z h.1
theorem merge_spec (xs ys:List S61):Srt xs→Srt ys→Srt (mergeL xs ys)∧∀ z,z∈mergeL xs ys↔inMerge xs ys z:=by
 fun_induction mergeL xs ys with
 | case1=>intro _ _;exact ⟨.nil,fun z=>by simp [inMerge]⟩
 | case2 x xs ih=>
  intro hx hy
  obtain ⟨h1,h2⟩:=ih (List.pairwise_cons.1 hx).2 hy
  refine ⟨srt_cons (fun z hz=>below_merge _ _ _ (List.pairwise_cons.1 hx).1 (by simp) z ((h2 z).1 hz)) h1,fun z=>?_⟩
  rw [inMerge_x (by simp),List.mem_cons,h2]
 | case3 y ys hi ih=>
  intro hx hy
  obtain ⟨h1,h2⟩:=ih hx (List.pairwise_cons.1 hy).2
  refine ⟨h1,fun z=>?_⟩
  rw [inMerge_y (by simp),h2,hi]
  simp
 | case4 y ys hi ih=>
  intro hx hy
  obtain ⟨h1,h2⟩:=ih hx (List.pairwise_cons.1 hy).2
  refine ⟨srt_cons (fun z hz=>below_merge _ _ _ (by simp) (List.pairwise_cons.1 hy).1 z ((h2 z).1 hz)) h1,fun z=>?_⟩
  rw [inMerge_y (by simp),List.mem_cons,h2]
  simp [hi]
 | case5 x xs y ys h hi ih=>
  intro hx hy
  obtain ⟨h1,h2⟩:=ih hx (List.pairwise_cons.1 hy).2
  refine ⟨h1,fun z=>?_⟩
  rw [inMerge_y (fun x' hx'=>(ah_nosk (far_y hx h x' hx')).2),h2,hi]
  simp
 | case6 x xs y ys h hi ih=>
  intro hx hy
  obtain ⟨h1,h2⟩:=ih hx (List.pairwise_cons.1 hy).2
  refine ⟨srt_cons (fun z hz=>below_merge _ _ _ (far_y hx h) (List.pairwise_cons.1 hy).1 z ((h2 z).1 hz)) h1,fun z=>?_⟩
  rw [inMerge_y (fun x' hx'=>(ah_nosk (far_y hx h x' hx')).2),List.mem_cons,h2]
  simp [hi]
 | case7 x xs y ys h h' ih=>
  intro hx hy
  obtain ⟨h1,h2⟩:=ih (List.pairwise_cons.1 hx).2 hy
  refine ⟨srt_cons (fun z hz=>below_merge _ _ _ (List.pairwise_cons.1 hx).1 (far_y hy h') z ((h2 z).1 hz)) h1,fun z=>?_⟩
  rw [inMerge_x (fun y' hy'=>(ah_nosk (far_y hy h' y' hy')).1),List.mem_cons,h2]
 | case8 x xs y ys h h' hi ih=>
  intro hx hy
  obtain ⟨h1,h2⟩:=ih (List.pairwise_cons.1 hx).2 (List.pairwise_cons.1 hy).2
  have hs:sk x y:=by
   rcases sk_or x y with h0 | h0 | h0
   ·exact absurd h0 h'
   ·exact h0
   ·exact absurd h0 h
  refine ⟨h1,fun z=>?_⟩
  rw [inMerge_xy hs (fun x' hx'=>(ah_nosk (sk_far hx hs x' hx')).2),h2,hi]
  simp
 | case9 x xs y ys h h' hi ih=>
  intro hx hy
  obtain ⟨h1,h2⟩:=ih (List.pairwise_cons.1 hx).2 (List.pairwise_cons.1 hy).2
  have hs:sk x y:=by
   rcases sk_or x y with h0 | h0 | h0
   ·exact absurd h0 h'
   ·exact h0
   ·exact absurd h0 h
  refine ⟨srt_cons (fun z hz=>below_merge _ _ _ (sk_far hx hs) (List.pairwise_cons.1 hy).1 z ((h2 z).1 hz)) h1,fun z=>?_⟩
  rw [inMerge_xy hs (fun x' hx'=>(ah_nosk (sk_far hx hs x' hx')).2),List.mem_cons,h2]
  simp [hi]
theorem diff_len (xs ys:List S61):(diffL xs ys).length≤xs.length + ys.length:=by
 fun_induction diffL xs ys <;> simp only [List.length_cons,List.length_nil] at * <;> omega
end Go.Proofs.Ytpcgjdllgdkobaa.Pure
namespace Go.Proofs.Ytpcgjdllgdkobaa.Pure
open Go.RowKit Go.Proofs.YtpcgjdllgdkobaaW.PrintWords Go.Proofs.Ytpcgjdllgdkobaa.XA Go.Proofs.Ytpcgjdllgdkobaa.ZD
set_option linter.unusedSimpArgs false
set_option linter.unusedVariables false
def placeI:List S61→Nat→S61→Int
 | [],_,_=>-1
 | x :: xs,n,y=>if x.f1 = y.f1 then (if x.f0 = y.f0 then (n:Int) else placeI xs (n + 1) y) else placeI xs (n + 1) y
theorem place_l (l:List S61) (y:S61) (hl:l.length≤3518437208882):∀ (rest:List S61) (n k:Nat),l.drop n = rest→rest.length + 1≤k→
  beaconref14_place.l0 k l (n:Int) y.f0 y.f1 y.f2 y.f3 y.f4 = some (placeI rest n y):=by
 intro rest
 induction rest with
 | nil=>
  intro n k hn hk
  obtain ⟨k,rfl⟩:∃ m,k = m + 1:=⟨k - 1,by omega⟩
  have h:=drop_nil hn
  simp only [beaconref14_place.l0]
  rw [if_neg (by omega)]
  rfl
 | cons x xs ih=>
  intro n k hn hk
  simp only [List.length_cons] at hk
  obtain ⟨k,rfl⟩:∃ m,k = m + 1:=⟨k - 1,by omega⟩
  obtain ⟨h1,h2,h3,h4⟩:=at_drop hn
  simp only [beaconref14_place.l0]
  rw [if_pos h1,if_pos (by omega),h3,wrap_up n (by omega),ih (n + 1) k h2 (by omega)]
  simp only [placeI]
  split
  ·split <;> rfl
  ·rfl
theorem place_f (l:List S61) (y:S61) (hl:l.length≤3518437208882) (k:Nat) (hk:l.length + 1≤k) :
  beaconref14_place.f k l y.f0 y.f1 y.f2 y.f3 y.f4 = some (placeI l 0 y):=place_l l y hl l 0 k rfl hk
theorem place_no (y:S61):∀ (l:List S61) (n:Nat),hasB l y = false→placeI l n y = -1
 | [],_,_=>rfl
 | x :: xs,n,h=>by
  simp only [hasB,List.any_cons,Bool.or_eq_false_iff] at h
  have h0:=place_no y xs (n + 1) h.2
  have h1:=h.1
  simp only [placeI]
  by_cases e1:x.f1 = y.f1
  ·by_cases e0:x.f0 = y.f0
   ·simp [e1,e0] at h1
   ·rw [if_pos e1,if_neg e0,h0]
  ·rw [if_neg e1,h0]
theorem place_at (y:S61):∀ (l:List S61) (n:Nat),hasB l y = true→∃ i x,placeI l n y = ((n + i:Nat):Int)∧l[i]? = some x∧sk x y
 | [],_,h=>by simp [hasB] at h
 | x :: xs,n,h=>by
  simp only [hasB,List.any_cons,Bool.or_eq_true] at h
  simp only [placeI]
  by_cases e1:x.f1 = y.f1
  ·by_cases e0:x.f0 = y.f0
   ·rw [if_pos e1,if_pos e0]
    exact ⟨0,x,rfl,rfl,e1,e0⟩
   ·rw [if_pos e1,if_neg e0]
    obtain ⟨i,x',h1,h2,h3⟩:=place_at y xs (n + 1) (by rcases h with h | h;simp [e0] at h;exact h)
    exact ⟨i + 1,x',by rw [h1];congr 1;omega,h2,h3⟩
  ·rw [if_neg e1]
   obtain ⟨i,x',h1,h2,h3⟩:=place_at y xs (n + 1) (by rcases h with h | h;simp [e1] at h;exact h)
   exact ⟨i + 1,x',by rw [h1];congr 1;omega,h2,h3⟩
theorem put_l (l:List S61) (y:S61) (hl:l.length≤3518437208000):∀ (rest:List S61) (n k:Nat) (acc:List S61) (b:Bool),l.drop n = rest→rest.length + 1≤k→acc.length + 2 * rest.length + 4≤3518437208882→
  beaconref14_put.l0 k l acc b (n:Int) y.f0 y.f1 y.f2 y.f3 y.f4 = some (acc ++ if b = true then rest else putL rest y):=by
 intro rest
 induction rest with
 | nil=>
  intro n k acc b hn hk hb
  obtain ⟨k,rfl⟩:∃ m,k = m + 1:=⟨k - 1,by omega⟩
  have h:=drop_nil hn
  simp only [List.length_nil] at hb
  simp only [beaconref14_put.l0]
  rw [if_neg (by omega),if_pos (show acc.length < 3518437208883 by omega)]
  cases b <;> simp [putL]
 | cons x xs ih=>
  intro n k acc b hn hk hb
  simp only [List.length_cons] at hk hb
  obtain ⟨k,rfl⟩:∃ m,k = m + 1:=⟨k - 1,by omega⟩
  obtain ⟨h1,h2,h3,h4⟩:=at_drop hn
  have hb1:acc.length < 3518437208883:=by omega
  have hb2:∀ z,(acc ++ [z]).length < 3518437208883:=fun z=>by simp only [List.length_append,List.length_cons,List.length_nil];omega
  simp only [beaconref14_put.l0]
  have h0:(0:Int)≤(n:Int):=by omega
  rw [h3,wrap_up n (by omega),before_r]
  simp only [Option.bind_some,if_pos h1,if_pos h0,if_pos hb1,if_pos (hb2 _)]
  have i1:=fun b=>ih (n + 1) k (acc ++ [x]) b h2 (by omega) (by simp only [List.length_append,List.length_cons,List.length_nil];omega)
  cases b with
  | true=>
   rw [if_pos rfl]
   refine (i1 true).trans ?_
   simp
  | false=>
   rw [if_neg (by decide)]
   have hy:ahB ⟨y.f0,y.f1,y.f2,y.f3,y.f4⟩ x = ahB y x:=rfl
   by_cases ha:ahB y x = true
   ·rw [if_pos ha]
    refine (ih (n + 1) k (acc ++ [y] ++ [x]) true h2 (by omega) (by simp only [List.length_append,List.length_cons,List.length_nil];omega)).trans ?_
    simp [putL,ha]
   ·rw [if_neg ha]
    refine (i1 false).trans ?_
    simp [putL,ha]
theorem put_f (l:List S61) (y:S61) (k:Nat) (hk:l.length + 1≤k) (hb:2 * l.length + 4≤3518437208000) :
  beaconref14_put.f k l y.f0 y.f1 y.f2 y.f3 y.f4 = some (putL l y):=(put_l l y (by omega) l 0 k [] false rfl hk (by simp;omega)).trans (by simp)
theorem samenews_l (a b:List S61) (ha:a.length≤3518437208882) (hab:a.length = b.length):∀ (ra rb:List S61) (n k:Nat),a.drop n = ra→b.drop n = rb→ra.length + 1≤k→
  beaconref06_SameNews.l0 k a b (n:Int) = some ((ra.zip rb).all fun p=>sameB p.1 p.2):=by
 intro ra
 induction ra with
 | nil=>
  intro rb n k hn hm hk
  obtain ⟨k,rfl⟩:∃ m,k = m + 1:=⟨k - 1,by omega⟩
  have h:=drop_nil hn
  simp only [beaconref06_SameNews.l0]
  rw [if_neg (by omega)]
  rfl
 | cons x xs ih=>
  intro rb n k hn hm hk
  simp only [List.length_cons] at hk
  obtain ⟨k,rfl⟩:∃ m,k = m + 1:=⟨k - 1,by omega⟩
  obtain ⟨h1,h2,h3,h4⟩:=at_drop hn
  cases rb with
  | nil=>have:=drop_nil hm;omega
  | cons y ys=>
   obtain ⟨g1,g2,g3,g4⟩:=at_drop hm
   simp only [beaconref06_SameNews.l0]
   rw [if_pos h1,if_pos (by omega),if_pos g1,h3,g3,wrap_up n (by omega),ih ys (n + 1) k h2 g2 (by omega)]
   simp only [List.zip_cons_cons,List.all_cons,sameB]
   by_cases c0:x.f0 = y.f0
   ·by_cases c1:x.f1 = y.f1
    ·by_cases c4:x.f4 = y.f4
     ·by_cases c2:fbits x.f2 = fbits y.f2
      ·by_cases c3:fbits x.f3 = fbits y.f3
       ·simp [c0,c1,c4,c2,c3,sameB]
       ·simp [c0,c1,c4,c2,c3]
      ·simp [c0,c1,c4,c2]
     ·simp [c0,c1,c4]
    ·simp [c0,c1]
   ·simp [c0]
theorem hasB_iff (l:List S61) (y:S61):hasB l y = false↔∀ x∈l,¬ sk x y:=by
 rw [← Bool.not_eq_true,has_iff]
 constructor
 ·intro h x hx hs;exact h ⟨x,hx,hs⟩
 ·rintro h ⟨x,hx,hs⟩;exact h x hx hs
theorem fot (b:Bool):b = false∨b = true:=by cases b <;> simp
theorem merge_l1 (xs ys:List S61) (hx:xs.length≤17179869184) (hy:ys.length≤17179869184):∀ (rest:List S61) (n k:Nat) (acc:List S61),ys.drop n = rest→3 * 17179869184 + rest.length + 5≤k→acc.length + rest.length≤2 * 17179869184→
  beaconref14_merge.l1 k ys acc (n:Int) = some (puts (fun y=>!infB y) id acc rest):=by
 intro rest
 induction rest with
 | nil=>
  intro n k acc hn hk hb
  obtain ⟨k,rfl⟩:∃ m,k = m + 1:=⟨k - 1,by omega⟩
  have h:=drop_nil hn
  simp only [beaconref14_merge.l1]
  rw [if_neg (by omega)]
  rfl
 | cons y zs ih=>
  intro n k acc hn hk hb
  simp only [List.length_cons] at hk hb
  obtain ⟨k,rfl⟩:∃ m,k = m + 1:=⟨k - 1,by omega⟩
  obtain ⟨h1,h2,h3,h4⟩:=at_drop hn
  simp only [beaconref14_merge.l1]
  rw [if_pos h1,if_pos (show (0:Int)≤(n:Int) by omega),h3,wrap_up n (by omega),inf_f,put_f acc y k (by omega) (by omega)]
  simp only [Option.bind_some,puts]
  have e:flt 9218868437227405311 y.f2 = infB y:=rfl
  rw [e]
  rcases fot (infB y) with hw | hw
  ·rw [if_neg (by rw [hw];decide),ih (n + 1) k _ h2 (by omega) (by rw [put_len];omega)]
   simp [hw]
  ·rw [if_pos hw,ih (n + 1) k _ h2 (by omega) (by omega)]
   simp [hw]
theorem merge_l0 (xs ys:List S61) (hx:xs.length≤17179869184) (hy:ys.length≤17179869184):∀ (rest:List S61) (n k:Nat) (acc:List S61),xs.drop n = rest→5 * 17179869184 + rest.length + 5≤k→acc.length + rest.length≤17179869184→
  beaconref14_merge.l0 k xs ys acc (n:Int) = some (puts (fun y=>!infB y) id (acc ++ rest.filter fun x=>!hasB ys x) ys):=by
 intro rest
 induction rest with
 | nil=>
  intro n k acc hn hk hb
  obtain ⟨k,rfl⟩:∃ m,k = m + 1:=⟨k - 1,by omega⟩
  have h:=drop_nil hn
  simp only [List.length_nil] at hb hk
  simp only [beaconref14_merge.l0]
  rw [if_neg (by omega),show ((0:Int)) = ((0:Nat):Int) from rfl,merge_l1 xs ys hx hy ys 0 k acc rfl (by omega) (by omega)]
  simp
 | cons y zs ih=>
  intro n k acc hn hk hb
  simp only [List.length_cons] at hk hb
  obtain ⟨k,rfl⟩:∃ m,k = m + 1:=⟨k - 1,by omega⟩
  obtain ⟨h1,h2,h3,h4⟩:=at_drop hn
  have hb1:acc.length < 3518437208883:=by omega
  simp only [beaconref14_merge.l0]
  rw [if_pos h1,if_pos (show (0:Int)≤(n:Int) by omega),h3,wrap_up n (by omega),place_f ys y (by omega) k (by omega),if_pos hb1]
  simp only [Option.bind_some]
  have i1:=ih (n + 1) k (acc ++ [y]) h2 (by omega) (by simp only [List.length_append,List.length_cons,List.length_nil];omega)
  have i2:=ih (n + 1) k acc h2 (by omega) (by omega)
  have ey:(⟨y.f0,y.f1,y.f2,y.f3,y.f4⟩:S61) = y:=rfl
  rw [ey,i1,i2]
  cases hw:hasB ys y with
  | false=>
   rw [place_no y ys 0 hw,if_pos (by decide)]
   simp [hw]
  | true=>
   obtain ⟨i,x,e,hi,hxy⟩:=place_at y ys 0 hw
   rw [e,if_neg (by omega)]
   simp [hw]
theorem refmerge_f (xs ys:List S61) (hs:Srt xs) (ht:Srt ys) (hx:xs.length≤17179869184) (hy:ys.length≤17179869184) (k:Nat) (hk:6 * 17179869184 + 5≤k):beaconref14_merge.f k xs ys = some (mergeL xs ys):=by
 refine (merge_l0 xs ys hx hy xs 0 k [] rfl (by omega) (by simpa using hx)).trans ?_
 rw [List.nil_append]
 congr 1
 obtain ⟨h1,h2⟩:=puts_spec (fun y=>!infB y) id sk_refl ys (xs.filter fun x=>!hasB ys x) (hs.sublist List.filter_sublist) ht (fun y hy _ z hz hsz=>by
  have hw':hasB ys z = false:=by simpa using (List.mem_filter.1 hz).2
  exact (hasB_iff ys z).1 hw' y hy (sk_symm hsz))
 obtain ⟨g1,g2⟩:=merge_spec xs ys hs ht
 refine srt_ext _ _ h1 g1 fun z=>?_
 rw [h2,g2,inMerge]
 apply or_congr
 ·rw [List.mem_filter]
  apply and_congr_right
  intro hz
  rw [Bool.not_eq_true',hasB_iff]
  exact ⟨fun h y hy hs=>h y hy (sk_symm hs),fun h y hy hs=>h y hy (sk_symm hs)⟩
 ·simp only [Bool.not_eq_true',id]
  constructor
  ·rintro ⟨x,hx,hw,rfl⟩;exact ⟨hx,hw⟩
  ·rintro ⟨h1,h2⟩;exact ⟨z,h1,h2,rfl⟩
end Go.Proofs.Ytpcgjdllgdkobaa.Pure
namespace Go.Proofs.Ytpcgjdllgdkobaa.Pure
open Go.RowKit Go.Proofs.YtpcgjdllgdkobaaW.PrintWords Go.Proofs.Ytpcgjdllgdkobaa.XA Go.Proofs.Ytpcgjdllgdkobaa.ZD
set_option linter.unusedSimpArgs false
set_option linter.unusedVariables false
def kyI (x:S61):Int:=x.f1 * 2147483648 + x.f0
theorem news_ky {x:S61} (h:newsB x = true):2147483648 < kyI x∧kyI x < 6442450944∧1≤x.f0∧x.f0≤2147483647:=by
 simp only [newsB,Bool.and_eq_true,Bool.or_eq_true,decide_eq_true_eq,num] at h
 unfold kyI
 omega
theorem ky_lt {x y:S61} (hx:newsB x = true) (hy:newsB y = true) (h:ahB x y = true):kyI x < kyI y:=by
 have h1:=news_ky hx
 have h2:=news_ky hy
 rw [ah_iff] at h
 unfold kyI
 omega
theorem len_from:∀ (l:List S61),(∀ x∈l,newsB x = true)→Srt l→∀ B:Int,(∀ x∈l,B < kyI x)→B≤6442450944→(l.length:Int)≤6442450944 - B
 | [],_,_,B,_,hb=>by simp;omega
 | x :: xs,hn,hs,B,h,hb=>by
  have h0:=List.pairwise_cons.1 hs
  have hx:=hn x List.mem_cons_self
  have h1:=news_ky hx
  have h2:=h x List.mem_cons_self
  have:=len_from xs (fun y hy=>hn y (List.mem_cons_of_mem _ hy)) h0.2 (kyI x) (fun y hy=>ky_lt hx (hn y (List.mem_cons_of_mem _ hy)) (h0.1 y hy)) (by omega)
  simp only [List.length_cons]
  omega
theorem ris_news:∀ (l:List S61) (p:Option S61),risB p l = true→∀ x∈l,newsB x = true
 | [],_,_,x,hx=>by simp at hx
 | x :: xs,p,h,y,hy=>by
  simp only [risB,Bool.and_eq_true] at h
  rcases List.mem_cons.1 hy with rfl | hy
  ·exact h.1.1
  ·exact ris_news xs _ h.2 y hy
theorem ris_of:∀ (l:List S61) (p:Option S61),Srt l→(∀ x∈l,newsB x = true)→(∀ y,p = some y→∀ x∈l,ahB y x = true)→risB p l = true
 | [],_,_,_,_=>rfl
 | x :: xs,p,hs,hn,hp=>by
  have h0:=List.pairwise_cons.1 hs
  simp only [risB,Bool.and_eq_true]
  refine ⟨⟨hn x List.mem_cons_self,?_⟩,ris_of xs _ h0.2 (fun y hy=>hn y (List.mem_cons_of_mem _ hy)) ?_⟩
  ·cases p with
   | none=>rfl
   | some y=>exact hp y rfl x List.mem_cons_self
  ·rintro y h z hz
   injection h with h;subst h;exact h0.1 z hz
theorem ris_iff (l:List S61):risB none l = true↔Srt l∧∀ x∈l,newsB x = true:=
 ⟨fun h=>⟨(srt_of_ris l none h).1,ris_news l none h⟩,fun h=>ris_of l none h.1 h.2 (by simp)⟩
theorem ris_len {l:List S61} (h:risB none l = true):l.length≤6442450944:=by
 obtain ⟨h1,h2⟩:=(ris_iff l).1 h
 have:=len_from l h2 h1 0 (fun x hx=>by have:=news_ky (h2 x hx);omega) (by decide)
 omega
theorem list_iff (l:List S61):listB l = true↔(∀ x∈l,infB x = false)∧risB none l = true:=by
 simp [listB,infsB]
theorem same_eq {x y:S61} (h:sameB x y = true):x = y:=by
 simp only [sameB,Bool.and_eq_true,decide_eq_true_eq,fbits] at h
 obtain ⟨⟨⟨⟨h0,h1⟩,h4⟩,h2⟩,h3⟩:=h
 cases x;cases y
 simp only at *
 subst h0 h1 h4
 rw [Int.ofNat_inj.1 h2,Int.ofNat_inj.1 h3]
theorem inf_true:flt 9218868437227405311 (ffrom 9218868437227405312) = true:=by decide +kernel
theorem gone_news {x:S61} (h:newsB x = true):newsB (gone x) = true:=by
 simp only [newsB,Bool.and_eq_true,Bool.or_eq_true,decide_eq_true_eq] at h
 simp only [newsB,gone,dist,inf_true,fbits,Bool.and_eq_true,Bool.or_eq_true,decide_eq_true_eq,Bool.true_or,Bool.or_true,if_true]
 refine ⟨⟨⟨h.1.1.1,by rcases h.1.1.2 with e | e;exact .inl (decide_eq_true e);exact .inr (decide_eq_true e)⟩,trivial⟩,?_⟩
 decide
theorem diff_news {xs ys:List S61} (hs:Srt xs) (ht:Srt ys) (hx:∀ x∈xs,newsB x = true) (hy:∀ y∈ys,newsB y = true):∀ z∈diffL xs ys,newsB z = true:=by
 intro z hz
 rcases ((diff_spec xs ys hs ht).2 z).1 hz with h | ⟨x,h,_,rfl⟩
 ·exact hy z h.1
 ·exact gone_news (hx x h)
theorem merge_news {xs ys:List S61} (hs:Srt xs) (ht:Srt ys) (hx:∀ x∈xs,newsB x = true) (hy:∀ y∈ys,newsB y = true):∀ z∈mergeL xs ys,newsB z = true:=by
 intro z hz
 rcases ((merge_spec xs ys hs ht).2 z).1 hz with h | h
 ·exact hx z h.1
 ·exact hy z h.1
theorem diff_ris {xs ys:List S61} (hx:risB none xs = true) (hy:risB none ys = true):risB none (diffL xs ys) = true:=by
 obtain ⟨h1,h2⟩:=(ris_iff xs).1 hx
 obtain ⟨g1,g2⟩:=(ris_iff ys).1 hy
 exact (ris_iff _).2 ⟨(diff_spec xs ys h1 g1).1,diff_news h1 g1 h2 g2⟩
theorem merge_list {xs ys:List S61} (hx:listB xs = true) (hy:risB none ys = true):listB (mergeL xs ys) = true:=by
 obtain ⟨h0,h⟩:=(list_iff xs).1 hx
 obtain ⟨h1,h2⟩:=(ris_iff xs).1 h
 obtain ⟨g1,g2⟩:=(ris_iff ys).1 hy
 refine (list_iff _).2 ⟨fun z hz=>?_,(ris_iff _).2 ⟨(merge_spec xs ys h1 g1).1,merge_news h1 g1 h2 g2⟩⟩
 rcases ((merge_spec xs ys h1 g1).2 z).1 hz with h | h
 ·exact h0 z h.1
 ·exact h.2
theorem G_diff {xs ys:List S61} (hx:risB none xs = true) (hy:risB none ys = true) (gx:∀ x∈xs,G x) (gy:∀ x∈ys,G x):∀ z∈diffL xs ys,G z:=by
 intro z hz
 rcases ((diff_spec xs ys ((ris_iff xs).1 hx).1 ((ris_iff ys).1 hy).1).2 z).1 hz with h | ⟨x,h,_,rfl⟩
 ·exact gy z h.1
 ·exact ⟨by show ffrom 9218868437227405312 < _;unfold ffrom;decide,by show (0:Nat) < _;decide⟩
theorem G_merge {xs ys:List S61} (hx:risB none xs = true) (hy:risB none ys = true) (gx:∀ x∈xs,G x) (gy:∀ x∈ys,G x):∀ z∈mergeL xs ys,G z:=by
 intro z hz
 rcases ((merge_spec xs ys ((ris_iff xs).1 hx).1 ((ris_iff ys).1 hy).1).2 z).1 hz with h | h
 ·exact gx z h.1
 ·exact gy z h.1
abbrev Big (k:Nat):Prop:=100000000000000≤k
def mL (xs ys:List S61):List S61×Int:=if (listB xs && risB none ys) = true then (mergeL xs ys,0) else ([],1)
theorem ris_of_list {l:List S61} (h:listB l = true):risB none l = true:=((list_iff l).1 h).2
theorem srt_ris {l:List S61} (h:risB none l = true):Srt l:=((ris_iff l).1 h).1
theorem rMerge_f (xs ys:List S61) (hx:xs.length≤3518437208882) (hy:ys.length≤3518437208882) (gx:∀ x∈xs,G x) (gy:∀ x∈ys,G x) (k:Nat) (hk:Big k):beaconref14_Merge.f k xs ys = some (mL xs ys):=by
 unfold beaconref14_Merge.f mL
 rw [rlist_f xs hx gx k (by unfold Big at hk;omega),ris_f ys hy gy k (by unfold Big at hk;omega)]
 simp only [Option.bind_some]
 cases h1:listB xs with
 | false=>rfl
 | true=>
  cases h2:risB none ys with
  | false=>rfl
  | true=>
   have e1:=ris_len (ris_of_list h1)
   have e2:=ris_len h2
   rw [refmerge_f xs ys (srt_ris (ris_of_list h1)) (srt_ris h2) (by omega) (by omega) k (by unfold Big at hk;omega)]
   rfl
theorem awake_k:∀ d:Nat,beaconlaw14_awake.f (20 + d) = some true
 | 0=>awake_small
 | d + 1=>beaconlaw14_awake.mono _ _ (awake_k d)
theorem awake_b (k:Nat) (hk:Big k):beaconlaw14_awake.f k = some true:=by
 obtain ⟨d,rfl⟩:∃ d,k = 20 + d:=⟨k - 20,by unfold Big at hk;omega⟩
 exact awake_k d
theorem own_f (l:List S61) (h:l.length≤3518437208882):beaconlaw14_own.f l = some l:=by
 unfold beaconlaw14_own.f
 rw [if_pos (by simp only [List.length_nil];omega),List.nil_append]
end Go.Proofs.Ytpcgjdllgdkobaa.Pure
namespace Go.Proofs.Ytpcgjdllgdkobaa.Pure
open Go.RowKit Go.Proofs.YtpcgjdllgdkobaaW.PrintWords Go.Proofs.Ytpcgjdllgdkobaa.XA Go.Proofs.Ytpcgjdllgdkobaa.ZD
set_option linter.unusedSimpArgs false
set_option linter.unusedVariables false
theorem downed' (l:List S61) (h:l.length≤3518437208882):delta_own.f l = some l:=by unfold delta_own.f;rw [if_pos (by omega)]
theorem copied_f' (s:Int) (a b:List S61) (f:Bool) (g:Int) (ha:a.length≤3518437208882) (hb:b.length≤3518437208882):delta_copied.f s a b f g = some (s,a,b,f,g):=by
 unfold delta_copied.f
 rw [downed' a ha,downed' b hb]
 rfl
theorem wrap_s' {s:Int} (h0:0≤s) (h1:s < 18446744073709551615):IntKind.u64.wrap (s + 1) = s + 1:=by
 have h5:∀ n:Int,IntKind.u64.wrap n = n % 18446744073709551616:=fun n=>by simp [IntKind.wrap,IntKind.bits,IntKind.signed]
 rw [h5];omega
def eqL:List S61→List S61→Bool
 | [],[]=>true
 | x :: xs,y :: ys=>sameB x y && eqL xs ys
 | _,_=>false
theorem eqL_self:∀ a:List S61,eqL a a = true
 | []=>rfl
 | x :: xs=>by unfold eqL;rw [same_refl,eqL_self xs];rfl
theorem eqL_eq:∀ {a b:List S61},eqL a b = true→a = b
 | [],[],_=>rfl
 | [],_ :: _,h=>by cases h
 | _ :: _,[],h=>by cases h
 | x :: xs,y :: ys,h=>by
  unfold eqL at h
  rw [Bool.and_eq_true] at h
  rw [same_eq h.1,eqL_eq h.2]
theorem eqL_ne {a b:List S61} (h:a≠b):eqL a b = false:=by
 cases e:eqL a b with
 | false=>rfl
 | true=>exact absurd (eqL_eq e) h
theorem zip_same:∀ (a b:List S61),a.length = b.length→((a.zip b).all fun p=>sameB p.1 p.2) = eqL a b
 | [],[],_=>rfl
 | [],_ :: _,h=>by simp at h
 | _ :: _,[],h=>by simp at h
 | x :: xs,y :: ys,h=>by
  have ih:=zip_same xs ys (by simpa using h)
  simp only [List.zip_cons_cons,List.all_cons,ih,eqL]
theorem samenews_f (a b:List S61) (ha:a.length≤3518437208882) (k:Nat) (hk:a.length + 1≤k):beaconref06_SameNews.f k a b = some (eqL a b):=by
 unfold beaconref06_SameNews.f
 by_cases h:(a.length:Int) = (b.length:Int)
 ·rw [if_pos h]
  refine (samenews_l a b ha (by omega) a b 0 k rfl rfl hk).trans ?_
  rw [zip_same a b (by omega)]
 ·rw [if_neg h,eqL_ne (by rintro rfl;exact h rfl)]
def vB (s:Int) (x u:List S61) (f:Bool) (g:Int):Bool:=
 listB x && (if f = true then (decide (s > 0) && decide (0 < u.length) && decide (u.length≤512) && risB none u && decide (g ≥ 0)) else (decide (u.length = 0) && decide (g = 0)))
theorem ocheck_f (s:Int) (x u:List S61) (f:Bool) (g:Int) (hx:x.length≤3518437208882) (hu:u.length≤3518437208882) (gx:∀ z∈x,G z) (gu:∀ z∈u,G z) (k:Nat) (hk:Big k) :
  delta_Check.f k s x u f g = some (if vB s x u f g = true then 0 else 1):=by
 unfold delta_Check.f vB
 rw [list_f x hx gx k (by unfold Big at hk;omega),told_f u hu gu k (by unfold Big at hk;omega)]
 simp only [Option.bind_some]
 cases f with
 | false=>
  cases listB x with
  | false=>simp
  | true=>
   by_cases h1:u.length = 0
   ·by_cases h2:g = 0
    ·simp [h1,h2]
    ·simp [h1,h2]
   ·have h1':¬ ((u.length:Int) = 0):=by omega
    simp only [if_neg (show ¬ (false = true) by decide),if_pos trivial,if_neg h1',decide_eq_false h1]
    simp
 | true=>
  cases listB x with
  | false=>simp
  | true=>
   by_cases h1:s > 0
   ·by_cases h2:0 < u.length
    ·by_cases h3:u.length≤512
     ·have h2':(u.length:Int) > 0:=by omega
      have h3':(u.length:Int)≤512:=by omega
      simp only [if_pos h1,if_pos h2',if_pos h3',if_true,decide_eq_true h1,decide_eq_true h2,decide_eq_true h3]
      cases risB none u with
      | false=>simp
      | true=>
       by_cases h4:g ≥ 0
       ·simp [h4]
       ·simp [h4]
     ·have h2':(u.length:Int) > 0:=by omega
      have h3':¬ ((u.length:Int)≤512):=by omega
      simp only [if_pos h1,if_pos h2',if_neg h3',if_true,decide_eq_false h3]
      simp
    ·have h2':¬ ((u.length:Int) > 0):=by omega
     simp only [if_pos h1,if_neg h2',if_true,decide_eq_false h2]
     simp
   ·simp [h1]
structure Inv (s:Int) (x u:List S61) (f:Bool) (g:Int):Prop where
 v:vB s x u f g = true
 gx:∀ z∈x,G z
 gu:∀ z∈u,G z
 s0:0≤s
 s1:s≤18446744073709551615
 g1:g≤9223372036854775807
theorem Inv.list {s:Int} {x u:List S61} {f:Bool} {g:Int} (h:Inv s x u f g):listB x = true:=by
 have:=h.v;unfold vB at this;rw [Bool.and_eq_true] at this;exact this.1
theorem Inv.lx {s:Int} {x u:List S61} {f:Bool} {g:Int} (h:Inv s x u f g):x.length≤6442450944:=ris_len (ris_of_list h.list)
theorem Inv.lu {s:Int} {x u:List S61} {f:Bool} {g:Int} (h:Inv s x u f g):u.length≤512:=by
 have:=h.v;unfold vB at this
 cases f <;> simp at this
 ·simp [this.2.1]
 ·exact this.2.1.1.2
theorem Inv.fly {s:Int} {x u:List S61} {g:Int} (h:Inv s x u true g):s > 0∧0 < u.length∧u.length≤512∧risB none u = true∧g ≥ 0:=by
 have:=h.v;unfold vB at this
 simp at this
 exact ⟨this.2.1.1.1.1,this.2.1.1.1.2,this.2.1.1.2,this.2.1.2,this.2.2⟩
theorem Inv.rest {s:Int} {x u:List S61} {g:Int} (h:Inv s x u false g):u = []∧g = 0:=by
 have:=h.v;unfold vB at this
 simp at this
 exact this.2
theorem Inv.mkRest {s:Int} {x:List S61} (hx:listB x = true) (gx:∀ z∈x,G z) (s0:0≤s) (s1:s≤18446744073709551615):Inv s x [] false 0:=
 ⟨by unfold vB;simp [hx],gx,by simp,s0,s1,by decide⟩
theorem Inv.mkFly {s:Int} {x u:List S61} {g:Int} (hx:listB x = true) (gx:∀ z∈x,G z) (gu:∀ z∈u,G z) (s0:0 < s) (s1:s≤18446744073709551615) (u0:0 < u.length) (u1:u.length≤512) (hu:risB none u = true) (g0:g ≥ 0) (g1:g≤9223372036854775807):Inv s x u true g:=
 ⟨by unfold vB;simp [hx,hu,g0,u1];exact ⟨s0,u0⟩,gx,gu,by omega,s1,g1⟩
theorem take_ris {l:List S61} (h:risB none l = true) (n:Nat):risB none (l.take n) = true:=by
 obtain ⟨r1,r2⟩:=(ris_iff _).1 h
 exact (ris_iff _).2 ⟨r1.sublist (List.take_sublist _ _),fun z hz=>r2 z (List.mem_of_mem_take hz)⟩
theorem offer_f' {s:Int} {x u:List S61} {f:Bool} {g:Int} (h:Inv s x u f g) (y:List S61) (hy:listB y = true) (gy:∀ z∈y,G z) (hs1:s < 18446744073709551615) (k:Nat) (hk:Big k) :
  delta_Offer.f (k + 2) s x u f g y = some (s,x,u,f,g,[],false,0)∨(f = false∧∃ t,delta_Offer.f (k + 2) s x u f g y = some (s + 1,x,t,true,0,t,true,0)∧Inv (s + 1) x t true 0):=by
 have lx:=h.lx;have lu:=h.lu
 have hk2:Big (k + 2):=by unfold Big at hk ⊢;omega
 have ly:=ris_len (ris_of_list hy)
 unfold delta_Offer.f
 rw [copied_f' s x u f g (by omega) (by omega)]
 simp only [Option.bind_some]
 rw [ocheck_f s x u f g (by omega) (by omega) h.gx h.gu (k + 2) hk2,h.v,list_f y (by omega) gy (k + 2) (by unfold Big at hk;omega),hy]
 simp only [Option.bind_some,if_true,delta_Offer.j0]
 simp only [Bool.not_true,Bool.false_eq_true,if_false]
 cases f with
 | true=>exact .inl rfl
 | false=>
  simp only [Bool.false_eq_true,if_false]
  have hd:delta_diff.f x y = some (diffL x y):=by have:=diff_len x y;unfold delta_diff.f;rw [if_pos (by omega)]
  rw [hd]
  simp only [Option.bind_some]
  by_cases he:diffL x y = []
  ·rw [he]
   exact .inl rfl
  ·have hp:0 < (diffL x y).length:=List.length_pos_iff.2 he
   rw [if_neg (show ¬ (((diffL x y).length:Int) = 0) by omega)]
   rw [if_neg (show ¬ (s = 18446744073709551615) by omega)]
   have ld:=diff_len x y
   have hm:mn ((diffL x y).length:Int) 512 = ((min (diffL x y).length 512:Nat):Int):=by unfold mn;omega
   have ht:(diffL x y).take (min (diffL x y).length 512) = (diffL x y).take 512:=by
    rcases Nat.le_total (diffL x y).length 512 with h | h
    ·rw [Nat.min_eq_left h,List.take_of_length_le (Nat.le_refl _),List.take_of_length_le h]
    ·rw [Nat.min_eq_right h]
   have lt:((diffL x y).take 512).length≤512:=by simp only [List.length_take];omega
   have lp:0 < ((diffL x y).take 512).length:=by simp only [List.length_take];omega
   have s0:=h.s0;have s1:=h.s1
   rw [hm,if_pos (by omega),if_pos (by omega),Int.toNat_natCast,ht,wrap_s' h.s0 (by omega)]
   (try simp only [Option.bind_some])
   rw [copied_f' _ x _ true 0 (by omega) (by omega),downed' _ (by omega)]
   (try simp only [Option.bind_some])
   exact .inr ⟨trivial,(diffL x y).take 512,rfl,Inv.mkFly h.list h.gx (fun z hz=>G_diff (ris_of_list h.list) (ris_of_list hy) h.gx gy z (List.mem_of_mem_take hz)) (by omega) (by omega) lp lt (take_ris (diff_ris (ris_of_list h.list) (ris_of_list hy)) 512) (by decide) (by decide)⟩
theorem acked_f' {s:Int} {x u:List S61} {f:Bool} {g:Int} (h:Inv s x u f g) (q:Int) :
  delta_Acked.f s x u f g q = some (s,x,u,f,g,false)∨(f = true∧q = s∧delta_Acked.f s x u f g q = some (s,mergeL x u,[],false,0,true)∧Inv s (mergeL x u) [] false 0):=by
 have lx:=h.lx;have lu:=h.lu
 unfold delta_Acked.f
 rw [copied_f' s x u f g (by omega) (by omega)]
 simp only [Option.bind_some]
 cases f with
 | false=>exact .inl rfl
 | true=>
  simp only [if_true]
  by_cases e:q = s
  ·rw [if_pos e]
   obtain ⟨h1,h2,h3,h4,h5⟩:=h.fly
   have hm:delta_merge.f x u = some (mergeL x u):=by unfold delta_merge.f;rw [if_pos (by omega)]
   rw [hm]
   exact .inr ⟨trivial,e,rfl,Inv.mkRest (merge_list h.list h4) (G_merge (ris_of_list h.list) h4 h.gx h.gu) h.s0 h.s1⟩
  ·rw [if_neg e]
   exact .inl rfl
theorem tick_f' {s:Int} {x u:List S61} {f:Bool} {g:Int} (h:Inv s x u f g) (q:Int) :
  ∃ g' ok,delta_Tick.f s x u f g q = some (s,x,u,f,g',ok)∧Inv s x u f g'∧(ok = true→f = true):=by
 have lx:=h.lx;have lu:=h.lu
 unfold delta_Tick.f
 rw [copied_f' s x u f g (by omega) (by omega)]
 simp only [Option.bind_some]
 cases f with
 | false=>exact ⟨g,false,rfl,h,by simp⟩
 | true=>
  obtain ⟨h1,h2,h3,h4,h5⟩:=h.fly
  have g1:=h.g1
  have mk:∀ a:Int,a ≥ 0→a≤9223372036854775807→Inv s x u true a:=fun a a0 a1=>Inv.mkFly h.list h.gx h.gu h1 h.s1 h2 h3 h4 a0 a1
  simp only [if_true]
  by_cases e:g < 9223372036854775807
  ·have hw:wrap64 (g + 1) = g + 1:=by unfold wrap64;omega
   rw [if_pos e,hw]
   by_cases e2:g + 1 ≥ q
   ·rw [if_pos e2]
    exact ⟨_,_,rfl,mk 0 (by decide) (by decide),by simp⟩
   ·rw [if_neg e2]
    exact ⟨_,_,rfl,mk (g + 1) (by omega) (by omega),by simp⟩
  ·rw [if_neg e]
   by_cases e2:g ≥ q
   ·rw [if_pos e2]
    exact ⟨_,_,rfl,mk 0 (by decide) (by decide),by simp⟩
   ·rw [if_neg e2]
    exact ⟨_,_,rfl,mk g h5 g1,by simp⟩
theorem settled_l (x y:List S61) (hx:x.length≤3518437208882) (hxy:x.length = y.length) (s:Int) (u:List S61) (f:Bool) (g:Int):∀ (rx ry:List S61) (n k:Nat),x.drop n = rx→y.drop n = ry→rx.length + 1≤k→
  delta_Settled.l0 k y (y.length:Int) (n:Int) s x u f g = some ((rx.zip ry).all fun p=>sameB p.1 p.2):=by
 intro rx
 induction rx with
 | nil=>
  intro ry n k hn hm hk
  obtain ⟨k,rfl⟩:∃ m,k = m + 1:=⟨k - 1,by omega⟩
  have h:=drop_nil hn
  simp only [delta_Settled.l0]
  rw [if_neg (by omega)]
  rfl
 | cons z zs ih=>
  intro ry n k hn hm hk
  simp only [List.length_cons] at hk
  obtain ⟨k,rfl⟩:∃ m,k = m + 1:=⟨k - 1,by omega⟩
  obtain ⟨h1,h2,h3,h4⟩:=at_drop hn
  cases ry with
  | nil=>have:=drop_nil hm;omega
  | cons t ts=>
   obtain ⟨g1,g2,g3,g4⟩:=at_drop hm
   simp only [delta_Settled.l0]
   rw [if_pos g1,if_pos (by omega),if_pos h1,if_pos g1,h3,g3,same_f,wrap_up n (by omega),ih ts (n + 1) k h2 g2 (by omega)]
   simp only [Option.bind_some,List.zip_cons_cons,List.all_cons]
   cases sameB z t with
   | false=>rfl
   | true=>rfl
theorem settled_f' {s:Int} {x u:List S61} {f:Bool} {g:Int} (hx:x.length≤3518437208882) (y:List S61) (k:Nat) (hk:Big k) :
  delta_Settled.f (k + 1) s x u f g y = some (!f && eqL x y):=by
 unfold delta_Settled.f
 cases f with
 | true=>rfl
 | false=>
  rw [if_neg (by decide)]
  simp only [delta_Settled.j0]
  by_cases h:x.length = y.length
  ·rw [show ((x.length:Int) != (y.length:Int)) = false by simp [h],if_neg (by decide)]
   refine (settled_l x y hx h s u false g x y 0 k rfl rfl (by unfold Big at hk;omega)).trans ?_
   rw [zip_same x y h]
   rfl
  ·have h':¬ ((x.length:Int) = (y.length:Int)):=by omega
   rw [show ((x.length:Int) != (y.length:Int)) = true by simp [h'],if_pos rfl,eqL_ne (by rintro rfl;exact h rfl)]
   rfl
theorem take_f' {p q:Int} (h0:0≤p) (h1:p < 18446744073709551615) :
  delta_Take.f p q = some (if q = p + 1 then (q,true,true) else (p,false,decide (1≤q∧q≤p))):=by
 unfold delta_Take.f
 rw [if_pos h1,wrap_s' h0 h1]
 by_cases e:q = p + 1
 ·rw [if_pos e,if_pos e]
 ·rw [if_neg e,if_neg e]
  by_cases e1:q ≥ 1
  ·rw [if_pos e1]
   by_cases e2:q≤p
   ·simp [e1,e2]
   ·simp [e2]
  ·rw [if_neg e1]
   have:¬ (1≤q):=e1
   simp [this]
end Go.Proofs.Ytpcgjdllgdkobaa.Pure
namespace Go.Proofs.Ytpcgjdllgdkobaa.Pure
open Go.RowKit Go.Proofs.YtpcgjdllgdkobaaW.PrintWords Go.Proofs.Ytpcgjdllgdkobaa.XA Go.Proofs.Ytpcgjdllgdkobaa.ZD
set_option linter.unusedSimpArgs false
set_option linter.unusedVariables false
theorem at55 {l:List S55} {n:Nat} {x:S55} {xs:List S55} (h:l.drop n = x :: xs):(n:Int) < l.length∧l.drop (n + 1) = xs∧rd_T55 l (n:Int) = x∧x∈l:=by
 have h1:n < l.length:=by
  rcases Nat.lt_or_ge n l.length with h1 | h1
  ·exact h1
  ·rw [List.drop_eq_nil_of_le h1] at h
   cases h
 have hm:x∈l:=List.mem_of_mem_drop (by rw [h];simp)
 rw [List.drop_eq_getElem_cons h1] at h
 injection h with h2 h3
 exact ⟨by omega,h3,by unfold rd_T55;rw [Int.toNat_natCast,List.getD_eq_getElem?_getD,List.getElem?_eq_getElem h1,Option.getD_some,h2],hm⟩
theorem drop_nil55 {l:List S55} {n:Nat} (h:l.drop n = []):l.length≤n:=by
 rcases Nat.lt_or_ge n l.length with h1 | h1
 ·rw [List.drop_eq_getElem_cons h1] at h
  cases h
 ·exact h1
theorem at57 {l:List S57} {i:Int} (h0:0≤i) (h1:i < l.length):rd_T57 l i∈l:=by
 have h:i.toNat < l.length:=by omega
 unfold rd_T57
 rw [List.getD_eq_getElem?_getD,List.getElem?_eq_getElem h,Option.getD_some]
 exact List.getElem_mem h
theorem at_i {l:List Int} {i:Int} (h0:0≤i) (h1:i < l.length):rd l i∈l:=by
 have h:i.toNat < l.length:=by omega
 unfold rd
 rw [List.getD_eq_getElem?_getD,List.getElem?_eq_getElem h,Option.getD_some]
 exact List.getElem_mem h
structure St (n:Nat) (h y:List S61) (o:List S57) (b:List Int) (s:Int) (x u:List S61) (f:Bool) (g p:Int):Prop where
 v:Inv s x u f g
 ly:listB y = true
 sn:s≤n
 lo:o.length≤n
 lb:b.length≤n
 hp:(p = s∧f = false∧h = x)∨(f = true∧((p = s - 1∧h = x)∨(p = s∧h = mergeL x u)))
 ho:∀ q∈o,q.f0≤s∧(f = true→q.f0 = s→q.f1 = u)
 hb:∀ q∈b,q≤p
section
variable {n:Nat} {h y:List S61} {o:List S57} {b:List Int} {s:Int} {x u:List S61} {f:Bool} {g p:Int}
theorem St.up (H:St n h y o b s x u f g p):St (n + 1) h y o b s x u f g p:=
 ⟨H.v,H.ly,by have:=H.sn;omega,by have:=H.lo;omega,by have:=H.lb;omega,H.hp,H.ho,H.hb⟩
theorem St.ps (H:St n h y o b s x u f g p):0≤p∧p≤s:=by
 have h0:=H.v.s0
 rcases H.hp with ⟨h1,_,_⟩ | ⟨h1,⟨h2,_⟩ | ⟨h2,_⟩⟩
 ·omega
 ·have hv:=H.v
  subst h1
  have:=hv.fly.1
  omega
 ·omega
theorem St.risu (H:St n h y o b s x u f g p):risB none u = true:=by
 have hv:=H.v
 cases f with
 | true=>exact hv.fly.2.2.2.1
 | false=>rw [hv.rest.1];rfl
theorem St.lh (H:St n h y o b s x u f g p):listB h = true∧∀ z∈h,G z:=by
 have h0:=H.v.list
 have h1:=H.risu
 have h2:listB (mergeL x u) = true∧∀ z∈mergeL x u,G z:=⟨merge_list h0 h1,G_merge (ris_of_list h0) h1 H.v.gx H.v.gu⟩
 rcases H.hp with ⟨_,_,rfl⟩ | ⟨_,⟨_,rfl⟩ | ⟨_,rfl⟩⟩
 ·exact ⟨h0,H.v.gx⟩
 ·exact ⟨h0,H.v.gx⟩
 ·exact h2
theorem j3_f (H:St n h y o b s x u f g p) (l:List S55) (m:Nat) (hm:m≤4611686018427387904) (k:Nat) (hk:Big k) :
  beaconlaw14_DeltaAgrees.j3 (k + 2) l h y o b (m:Int) false s x u f g p = beaconlaw14_DeltaAgrees.l0 (k + 1) l h y o b ((m + 1:Nat):Int) s x u f g p:=by
 have lx:=H.v.lx
 have ll:=ris_len (ris_of_list H.lh.1)
 simp only [beaconlaw14_DeltaAgrees.j3]
 rw [wrap_up m hm,settled_f' (by omega) y k hk]
 generalize beaconlaw14_DeltaAgrees.l0 (k + 1) l h y o b ((m + 1:Nat):Int) s x u f g p = L
 rw [if_neg (by decide)]
 simp only [Option.bind_some]
 cases f with
 | true=>rfl
 | false=>
  cases he:eqL x y with
  | false=>rfl
  | true=>
   have e:=eqL_eq he
   have hx:h = x:=by
    rcases H.hp with ⟨_,_,e⟩ | ⟨e,_⟩
    ·exact e
    ·cases e
   subst hx
   subst e
   rw [samenews_f h h (by omega) (k + 1) (by unfold Big at hk;omega),eqL_self]
   rfl
theorem mL_one {x u:List S61} (h1:listB x = true) (h2:risB none u = true):(mL x u).1 = mergeL x u:=by
 unfold mL
 rw [if_pos (by rw [h1,h2];rfl)]
theorem St.same (H:St n h y o b s x u f g p):eqL h x = true∨(eqL h x = false∧f = true∧eqL h (mL x u).1 = true):=by
 cases he:eqL h x with
 | true=>exact .inl rfl
 | false=>
  refine .inr ⟨rfl,?_⟩
  rcases H.hp with ⟨_,_,e⟩ | ⟨e,⟨_,e2⟩ | ⟨_,e2⟩⟩
  ·rw [e,eqL_self] at he;cases he
  ·rw [e2,eqL_self] at he;cases he
  ·rw [mL_one H.v.list H.risu,← e2,eqL_self]
   exact ⟨e,rfl⟩
theorem bind_true {α β:Type} {a:Option α} {x:α} {f:α→Option β} {r:Option β} (h:a = some x) (e:f x = r):a.bind f = r:=by rw [h];exact e
theorem j2_f (H:St n h y o b s x u f g p) (l:List S55) (m:Nat) (hm:m≤4611686018427387904) (k:Nat) (hk:Big k) :
  beaconlaw14_DeltaAgrees.j2 (k + 3) l h y o b (m:Int) s x u f g p = beaconlaw14_DeltaAgrees.l0 (k + 1) l h y o b ((m + 1:Nat):Int) s x u f g p:=by
 have lx:=H.v.lx
 have lu:=H.v.lu
 have ll:=ris_len (ris_of_list H.lh.1)
 have hk2:Big (k + 2):=by unfold Big at hk ⊢;omega
 have hkl:h.length + 1≤k + 2:=by unfold Big at hk;omega
 have e1:=rMerge_f x u (by omega) (by omega) H.v.gx H.v.gu (k + 2) hk2
 have e2:=samenews_f h x (by omega) (k + 2) hkl
 have e3:=samenews_f h (mL x u).1 (by omega) (k + 2) hkl
 rw [← j3_f H l m hm k hk]
 simp only [beaconlaw14_DeltaAgrees.j2]
 generalize beaconlaw14_DeltaAgrees.j3 (k + 2) l h y o b (m:Int) = L
 refine bind_true e1 (bind_true e2 ?_)
 rcases H.same with h1 | ⟨h1,h2,h3⟩
 ·rw [if_pos h1]
 ·rw [h1,if_neg (by decide),if_pos h2]
  refine bind_true e3 ?_
  rw [h3]
  rfl
end
theorem agrees_l (l:List S55) (hl:l.length≤2932031007403) (hy:∀ c∈l,c.f1.length≤3518437208882∧∀ z∈c.f1,G z):∀ (rest:List S55) (n k:Nat) (h y:List S61) (o:List S57) (b:List Int) (s:Int) (x u:List S61) (f:Bool) (g p:Int),
  l.drop n = rest→St n h y o b s x u f g p→200000000000000 + 5 * rest.length≤k→beaconlaw14_DeltaAgrees.l0 k l h y o b (n:Int) s x u f g p = some true
 | [],n,k,h,y,o,b,s,x,u,f,g,p,hd,H,hk=>by
  have:=drop_nil55 hd
  obtain ⟨k,rfl⟩:∃ q,k = q + 1:=⟨k - 1,by omega⟩
  simp only [beaconlaw14_DeltaAgrees.l0]
  rw [if_neg (by omega),awake_b k (by unfold Big;omega)]
  rfl
 | c :: cs,n,k,h,y,o,b,s,x,u,f,g,p,hd,H,hk=>by
  obtain ⟨h1,h2,h3,h4⟩:=at55 hd
  obtain ⟨y1,y2⟩:=hy c h4
  simp only [List.length_cons] at hk
  obtain ⟨k,rfl⟩:∃ q,k = q + 5:=⟨k - 5,by omega⟩
  have hB:Big k:=by unfold Big;omega
  have hn:n≤4611686018427387904:=by omega
  have rec_:∀ {q:Nat},k≤q→∀ {h' y' o' b' s' x' u' f' g' p'},St (n + 1) h' y' o' b' s' x' u' f' g' p'→beaconlaw14_DeltaAgrees.l0 q l h' y' o' b' ((n + 1:Nat):Int) s' x' u' f' g' p' = some true:=by
   intro q hq h' y' o' b' s' x' u' f' g' p' H'
   exact agrees_l l hl hy cs (n + 1) q h' y' o' b' s' x' u' f' g' p' h2 H' (by omega)
  have step:∀ {h' y' o' b' s' x' u' f' g' p'},St (n + 1) h' y' o' b' s' x' u' f' g' p'→beaconlaw14_DeltaAgrees.j2 (k + 4) l h' y' o' b' (n:Int) s' x' u' f' g' p' = some true:=by
   intro h' y' o' b' s' x' u' f' g' p' H'
   rw [j2_f H' l n hn (k + 1) (by unfold Big at hB ⊢;omega)]
   exact rec_ (by omega) H'
  have step':∀ {h' y' o' b' s' x' u' f' g' p'},St (n + 1) h' y' o' b' s' x' u' f' g' p'→beaconlaw14_DeltaAgrees.j2 (k + 3) l h' y' o' b' (n:Int) s' x' u' f' g' p' = some true:=by
   intro h' y' o' b' s' x' u' f' g' p' H'
   rw [j2_f H' l n hn k hB]
   exact rec_ (by omega) H'
  have hv:=H.v
  have hs:=H.sn
  have hlo:=H.lo
  have hlb:=H.lb
  have hps:=H.ps
  have lu:=hv.lu
  simp only [beaconlaw14_DeltaAgrees.l0]
  rw [if_pos h1,if_pos (by omega),h3]
  by_cases c0:c.f0 = 0
  ·rw [if_pos c0,rlist_f c.f1 y1 y2 (k + 4) (by omega)]
   simp only [Option.bind_some]
   cases hc:listB c.f1 with
   | false=>
    rw [if_neg (by decide),wrap_up n hn]
    exact rec_ (q:=k + 4) (by omega) H.up
   | true=>
    rw [if_pos rfl,own_f c.f1 y1]
    simp only [Option.bind_some]
    rcases offer_f' hv c.f1 hc y2 (by omega) (k + 2) (by unfold Big at hB ⊢;omega) with e | ⟨hf,t,e,hi⟩
    ·rw [e]
     simp only [Option.bind_some]
     rw [if_pos trivial,if_neg (by decide)]
     exact step ⟨hv,hc,by omega,by omega,by omega,H.hp,H.ho,H.hb⟩
    ·rw [e]
     simp only [Option.bind_some]
     have lt:=hi.lu
     rw [if_pos trivial,if_pos trivial,own_f t (by omega)]
     simp only [Option.bind_some]
     rw [if_pos (by omega)]
     refine step ⟨hi,hc,by omega,by simp;omega,by omega,?_,?_,H.hb⟩
     ·rcases H.hp with ⟨h1,_,h2⟩ | ⟨h1,_⟩
      ·exact .inr ⟨rfl,.inl ⟨by omega,h2⟩⟩
      ·rw [hf] at h1;cases h1
     ·intro q hq
      rcases List.mem_append.1 hq with hq | hq
      ·have:=(H.ho q hq).1
       exact ⟨by omega,fun _ h=>by omega⟩
      ·rw [List.mem_singleton.1 hq]
       exact ⟨Int.le_refl _,fun _ _=>rfl⟩
  ·rw [if_neg c0]
   by_cases c1:c.f0 = 1
   ·rw [if_pos c1]
    by_cases i0:c.f2 < 0
    ·rw [if_pos i0]
     simp only [beaconlaw14_DeltaAgrees.j1]
     rw [if_pos trivial,wrap_up n hn]
     exact rec_ (q:=k + 3) (by omega) H.up
    ·rw [if_neg i0]
     simp only [beaconlaw14_DeltaAgrees.j1]
     by_cases i1:c.f2 ≥ (o.length:Int)
     ·rw [if_pos (by simpa using i1),wrap_up n hn]
      exact rec_ (q:=k + 3) (by omega) H.up
     ·rw [if_neg (by simpa using i1),if_pos (by omega),if_pos (by omega),take_f' hps.1 (by omega)]
      have hm:=at57 (l:=o) (i:=c.f2) (by omega) (by omega)
      obtain ⟨q1,q2⟩:=H.ho _ hm
      generalize rd_T57 o c.f2 = a at *
      by_cases e:a.f0 = p + 1
      ·obtain ⟨hf,hp2,hx⟩:f = true∧p = s - 1∧h = x:=by
        rcases H.hp with ⟨h1,_,h2⟩ | ⟨h1,⟨h2,h3⟩ | ⟨h2,h3⟩⟩
        ·omega
        ·exact ⟨h1,h2,h3⟩
        ·omega
       have hu:=q2 hf (by omega)
       have hr:=H.risu
       rw [if_pos e,hu]
       simp only [Option.bind_some]
       rw [if_pos trivial,rMerge_f h u (by have:=ris_len (ris_of_list H.lh.1);omega) (by omega) H.lh.2 hv.gu (k + 3) (by unfold Big at hB ⊢;omega)]
       simp only [Option.bind_some]
       rw [if_pos trivial,if_pos (by omega)]
       have hm2:(mL h u).1 = mergeL x u:=by unfold mL;rw [H.lh.1,hr,hx];rfl
       rw [hm2]
       refine step' ⟨hv,H.ly,by omega,by omega,by simp;omega,.inr ⟨hf,.inr ⟨by omega,rfl⟩⟩,H.ho,?_⟩
       intro q hq
       rcases List.mem_append.1 hq with hq | hq
       ·have:=H.hb q hq
        omega
       ·rw [List.mem_singleton.1 hq]
        exact Int.le_refl _
      ·rw [if_neg e]
       simp only [Option.bind_some]
       rw [if_neg (by decide)]
       by_cases e2:1≤a.f0∧a.f0≤p
       ·rw [decide_eq_true e2,if_pos rfl,if_pos (by omega)]
        refine step' ⟨hv,H.ly,by omega,by omega,by simp;omega,H.hp,H.ho,?_⟩
        intro q hq
        rcases List.mem_append.1 hq with hq | hq
        ·exact H.hb q hq
        ·rw [List.mem_singleton.1 hq]
         exact e2.2
       ·rw [decide_eq_false e2,if_neg (by decide)]
        exact step' H.up
   ·rw [if_neg c1]
    by_cases c2:c.f0 = 2
    ·rw [if_pos c2]
     by_cases i0:c.f2 ≥ 0
     ·rw [if_pos i0]
      by_cases i1:c.f2 < (b.length:Int)
      ·rw [if_pos i1,if_pos (by omega)]
       have hm:=at_i (l:=b) (i:=c.f2) (by omega) i1
       have hq:=H.hb _ hm
       generalize rd b c.f2 = q at *
       rcases acked_f' hv q with e | ⟨hf,hq2,e,hi⟩
       ·rw [e]
        exact step H.up
       ·rw [e]
        refine step ⟨hi,H.ly,by omega,by omega,by omega,?_,fun a ha=>⟨(H.ho a ha).1,fun h=>by cases h⟩,H.hb⟩
        rcases H.hp with ⟨_,h1,_⟩ | ⟨_,⟨h1,_⟩ | ⟨h1,h2⟩⟩
        ·rw [hf] at h1;cases h1
        ·omega
        ·exact .inl ⟨h1,rfl,h2⟩
      ·rw [if_neg i1]
       exact step H.up
     ·rw [if_neg i0]
      exact step H.up
    ·rw [if_neg c2]
     by_cases c3:c.f0 = 3
     ·rw [if_pos c3]
      obtain ⟨g',ok,e,hi,hf⟩:=tick_f' hv c.f3
      rw [e]
      simp only [Option.bind_some]
      cases ok with
      | true=>
       rw [if_pos rfl,own_f u (by omega)]
       simp only [Option.bind_some]
       rw [if_pos (by omega)]
       refine step ⟨hi,H.ly,by omega,by simp;omega,by omega,H.hp,?_,H.hb⟩
       intro q hq
       rcases List.mem_append.1 hq with hq | hq
       ·exact H.ho q hq
       ·rw [List.mem_singleton.1 hq]
        exact ⟨Int.le_refl _,fun _ _=>rfl⟩
      | false=>
       rw [if_neg (by decide)]
       exact step ⟨hi,H.ly,by omega,by omega,by omega,H.hp,H.ho,H.hb⟩
     ·rw [if_neg c3]
      exact step H.up
theorem agrees_k (l:List S55) (hl:l.length≤2932031007403) (hy:∀ c∈l,c.f1.length≤3518437208882∧∀ z∈c.f1,G z) (k:Nat) (hk:200000000000000 + 5 * l.length≤k):beaconlaw14_DeltaAgrees.f k l = some true:=by
 unfold beaconlaw14_DeltaAgrees.f
 exact agrees_l l hl hy l 0 k [] [] [] [] 0 [] [] false 0 0 rfl ⟨Inv.mkRest (by decide) (by simp) (by decide) (by decide),by decide,by decide,by simp,by simp,.inl ⟨rfl,rfl,rfl⟩,by simp,by simp⟩ hk
theorem DeltaAgrees:Go.Proofs.Ytpcgjdllgdkobaa.XA.DeltaAgrees.Pure:=by
 intro l hl
 have gg:∀ {a:List S61},(∀ z∈a,Go.Proofs.Ytpcgjdllgdkobaa.XA.DeltaAgrees.G61 z)→∀ z∈a,G z:=fun h z hz=>⟨(h z hz).2.2.1,(h z hz).2.2.2.1⟩
 refine ⟨200000000000000 + 5 * l.length,?_⟩
 have h1:=hl.1
 generalize hK:200000000000000 + 5 * l.length = k
 exact agrees_k l (by omega) (fun c hc=>⟨by have:=(hl.2 c hc).2.1.1;omega,gg (hl.2 c hc).2.1.2⟩) k (by omega)
end Go.Proofs.Ytpcgjdllgdkobaa.Pure
/- The law DeltaAgrees answers true at every input that its row speaks of, and leaves its arguments as they were. No further condition. (Written by xprint.py, a program of this session.) -/
namespace Go.Proofs.Ytpcgjdllgdkobaa.deltaAgrees
open Go.ChangeShapes Go.WideShapes Go.ChangeAt Go.RowKit Go.Proofs.YtpcgjdllgdkobaaW.PrintWords Go.Proofs.Ytpcgjdllgdkobaa.XA Go.Proofs.Ytpcgjdllgdkobaa.XA.DeltaAgrees
open Go.ChangeMaps (open_string shut_string)
set_option linter.unusedVariables false
theorem own : ownKnob Try.prog.godebug = none := by kernel_rfl
theorem laidOut : laidOutB Try.prog = true := by kernel_rfl
set_option maxRecDepth 100000 in
theorem lifted (os : Os) (started : os.Started) (H : Type) (enc : TypeId × Value → H) :
    ReturnsInHanded {} Try.checked os 8 .any (Rows.deltaAgreesSpec.pre6 enc Try.prog Try.f8 Rows.deltaAgreesRow.domain false) (Rows.deltaAgreesSpec.post enc Try.prog Try.f8 false true false false) := by
  refine returnsInHanded_of_change_sized (C := Try.checked) own started (by kernel_rfl) Try.func8
    (ChangeSpec.witness6 (enc := enc) (C := Try.checked) false ⟨#[], #[.slice none 0 0], []⟩ 8 (by kernel_rfl) (by kernel_rfl) (by kernel_rfl) (by kernel_rfl)) ?_
  intro W base args ds gs before hval0 hW hcnd hsz0 _
  have hsz : (DataW.weightsEach Try.prog (Try.f8.params.toList ++ Rows.deltaAgreesSpec.plain.varTypes Try.prog) (ds ++ gs)).all (· ≤ reachBytes) = true := hsz0
  have hval : ∀ (j : Nat) t v, Try.f8.params[j]? = some t → args[j]? = some v → Value.okWide Try.prog W .any base t v := hval0
  have hW' := hW
  obtain ⟨p, q, hA0, hV, rfl, hfz, hnd⟩ := hW
  have hA : DataW.TrodAll enc Try.prog W 0 (fun _ => true) true Try.f8.params.toList args.toList ds p := hA0
  rw [Try.params8] at hA hval hsz
  obtain ⟨v0, vs0, d0, ds0, p0, q0, hargs, rfl, rfl, h0, r0⟩ := trodAll_cons hA
  obtain ⟨rfl, rfl, rfl⟩ := trodAll_nil r0
  obtain rfl : args = #[v0] := by cases args; simp_all
  obtain ⟨rfl, rfl⟩ := trodVars_none hV
  have kk0 := h0
  have lt0 : ∀ x ∈ p0, x.block < W.heap.size := by obtain ⟨m, hm⟩ := kk0; exact DataW.trod_lt m _ _ _ hm
  obtain ⟨a0, hK0, hG0⟩ : ∃ a, ((Kd.slice 55 k55)).K W a v0.cells.toList ∧ (a.length * 48 ≤ 140737488351232 ∧ ∀ x ∈ a, G55 x) := by
    obtain ⟨m, hm⟩ := kk0
    exact ((Opens.slice (B := 48) Try.underlying52 (by kernel_rfl) (by kernel_rfl) opens55)).opn enc W 0 true m _ _ hm (fun n hn => by have := List.all_eq_true.1 hsz _ (DataW.weights_mem_each (j := 0) (t := 52) rfl rfl n hn); exact (of_decide_eq_true this : n ≤ reachBytes))
  obtain ⟨A0, len0, cap0, rfl⟩ := okWide_slice Try.underlying52 (hval 0 52 v0 rfl rfl)
  obtain ⟨A0_0, c0_0, he0, l0_0, g0_0⟩ := hK0
  obtain ⟨rfl, rfl, rfl⟩ : A0 = A0_0 ∧ len0 = a0.length ∧ cap0 = c0_0 := by simpa [Value.cells] using he0
  clear hA0 hval0 hsz0 hsz
  obtain ⟨k, hP⟩ := Pure.DeltaAgrees a0 hG0
  refine (Go.Proofs.Ytpcgjdllgdkobaa.XA.beaconlaw14_DeltaAgrees.calls k _ _ a0 true W g0_0 l0_0 hP rfl).mono fun e W' hE => ?_
  obtain ⟨he, hd⟩ := hE
  have bel : Below W.heap.size W W' := hd
  subst he
  exact ⟨_, rfl, _, _, _, [], _, [], hW', trodAll_mk1 (shut_bool Try.underlying4 _), (trodAll_cons_mk (Below.trod laidOut (by kernel_rfl) (of_decide_eq_true (by kernel_rfl)) kk0 bel lt0) trodAll_mk0), rfl, bel.frame _, fun h => by cases h⟩
theorem over : Rows.deltaAgreesRow.holds Try.pinned (OpenSpec.ofChange Rows.deltaAgreesSpec) :=
  OpenClaim.holds_of_wide 8 Try.f8 rfl rfl rfl rfl rfl rfl rfl ⟨rfl, rfl, rfl, rfl, rfl⟩ rfl rfl rfl rfl rfl (by kernel_rfl) Try.func8 (by kernel_rfl)
    (of_decide_eq_true (by kernel_rfl)) (by unfold Func.isWrapper; first | (rw [if_pos (by decide +kernel)]; kernel_rfl) | (rw [if_neg (by decide +kernel)]; exact ⟨rfl, rfl⟩))
    (fun os started H enc _ => lifted os started H enc)
theorem proved : Rows.DeltaAgreesSaid := over
end Go.Proofs.Ytpcgjdllgdkobaa.deltaAgrees
namespace Go.Proofs.Ytpcgjdllgdkobaa
/-- The row, under a short name, for the claim. -/
theorem deltaAgrees_holds : Rows.DeltaAgreesSaid := deltaAgrees.proved
end Go.Proofs.Ytpcgjdllgdkobaa
