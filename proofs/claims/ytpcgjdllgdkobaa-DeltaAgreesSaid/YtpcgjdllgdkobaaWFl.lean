import Derived.Test.YtpcgjdllgdkobaaWFloat
namespace Go.Proofs.YtpcgjdllgdkobaaW.PrintWords
def va (r:Nat):Nat:=if r < 4503599627370496 then r else (4503599627370496 + r % 4503599627370496) * 2 ^ (r / 4503599627370496 - 1)
theorem va_small {r:Nat} (h:r≤9007199254740992):va r = r:=by
 unfold va
 split
 ·rfl
 ·by_cases h2:r = 9007199254740992
  ·subst h2;rfl
  ·have h3:r / 4503599627370496 = 1:=by omega
   have h4:4503599627370496 + r % 4503599627370496 = r:=by omega
   rw [h3,h4];simp
theorem va_big {q m:Nat} (hm:m < 4503599627370496):va ((q + 1) * 4503599627370496 + m) = (4503599627370496 + m) * 2 ^ q:=by
 unfold va
 have h1:¬ ((q + 1) * 4503599627370496 + m < 4503599627370496):=by omega
 have h2:((q + 1) * 4503599627370496 + m) % 4503599627370496 = m:=by omega
 have h3:((q + 1) * 4503599627370496 + m) / 4503599627370496 = q + 1:=by omega
 rw [if_neg h1,h2,h3];rfl
theorem va_split (r:Nat) (h:4503599627370496≤r):∃ q m,m < 4503599627370496∧r = (q + 1) * 4503599627370496 + m∧va r = (4503599627370496 + m) * 2 ^ q:=by
 refine ⟨r / 4503599627370496 - 1,r % 4503599627370496,by omega,by omega,?_⟩
 have:=va_big (q:=r / 4503599627370496 - 1) (m:=r % 4503599627370496) (by omega)
 rw [← this]
 congr 1
 omega
theorem va_lt {r s:Nat} (h:r < s):va r < va s:=by
 by_cases hs:s≤9007199254740992
 ·rw [va_small hs,va_small (by omega)];exact h
 ·obtain ⟨q,m,hm,hs1,hs2⟩:=va_split s (by omega)
  by_cases hr:r < 4503599627370496
  ·rw [va_small (by omega),hs2]
   have:1≤2 ^ q:=Nat.one_le_two_pow
   calc r < 4503599627370496 * 1:=by omega
    _≤(4503599627370496 + m) * 2 ^ q:=Nat.mul_le_mul (by omega) this
  ·obtain ⟨p,n,hn,hr1,hr2⟩:=va_split r (by omega)
   rw [hr2,hs2]
   have hpq:p≤q:=by omega
   rcases Nat.lt_or_eq_of_le hpq with hlt | heq
   ·obtain ⟨d,rfl⟩:∃ d,q = p + 1 + d:=⟨q - p - 1,by omega⟩
    calc (4503599627370496 + n) * 2 ^ p < 9007199254740992 * 2 ^ p:=Nat.mul_lt_mul_of_pos_right (by omega) (Nat.two_pow_pos p)
     _ = 4503599627370496 * 2 ^ (p + 1):=by rw [Nat.pow_succ];omega
     _≤4503599627370496 * 2 ^ (p + 1 + d):=Nat.mul_le_mul_left _ (Nat.pow_le_pow_right (by decide) (by omega))
     _≤(4503599627370496 + m) * 2 ^ (p + 1 + d):=Nat.mul_le_mul_right _ (by omega)
   ·subst heq
    exact Nat.mul_lt_mul_of_pos_right (by omega) (Nat.two_pow_pos p)
theorem va_le {r s:Nat} (h:r≤s):va r≤va s:=by
 rcases Nat.lt_or_eq_of_le h with h | h
 ·exact Nat.le_of_lt (va_lt h)
 ·subst h;exact Nat.le_refl _
theorem lt_of_va {r s:Nat} (h:va r < va s):r < s:=by
 rcases Nat.lt_or_ge r s with h1 | h1
 ·exact h1
 ·have:=va_le h1;omega
def mg (r:Nat):Nat:=if r < 4503599627370496 then r else 4503599627370496 + r % 4503599627370496
def pl (r:Nat):Nat:=if r < 4503599627370496 then 0 else r / 4503599627370496 - 1
theorem va_eq (r:Nat):va r = mg r * 2 ^ pl r:=by
 unfold va mg pl
 split <;> simp
theorem fmt:FloatKind.f64.format = Ieee.double:=rfl
theorem sw:Ieee.double.signWeight = 9223372036854775808:=by decide
theorem bn:Ieee.double.binade = 4503599627370496:=by decide
theorem ir:Ieee.double.infRung = 9218868437227405312:=by decide
theorem lp:Ieee.double.leastPlace = -1074:=by decide
theorem read_fin {b:Nat} (s:Bool) (hs:(b / 9223372036854775808 % 2 == 1) = s) (h:b % 9223372036854775808 < 9218868437227405312) :
  Ieee.double.read b = .number s (mg (b % 9223372036854775808)) (-1074 + (pl (b % 9223372036854775808):Nat)):=by
 unfold Ieee.Format.read
 simp only [sw,bn,ir,lp,hs]
 unfold mg pl
 split
 ·rename_i h1
  simp
 ·simp
theorem read_inf {b:Nat} (s:Bool) (hs:(b / 9223372036854775808 % 2 == 1) = s) (h:b % 9223372036854775808 = 9218868437227405312):Ieee.double.read b = .infinity s:=by
 unfold Ieee.Format.read
 simp only [sw,bn,ir,lp,hs,h]
 rfl
theorem read_nan {b:Nat} (s:Bool) (hs:(b / 9223372036854775808 % 2 == 1) = s) (h:9218868437227405312 < b % 9223372036854775808):Ieee.double.read b = .nan s (b % 9223372036854775808 - 9218868437227405312):=by
 unfold Ieee.Format.read
 simp only [sw,bn,ir,lp,hs]
 rw [if_neg (by omega),if_neg (by omega),if_neg (by omega)]
theorem read_pos {b:Nat} (h:b < 9218868437227405312):Ieee.double.read b = .number false (mg b) (-1074 + (pl b:Nat)):=by
 have h2:b % 9223372036854775808 = b:=by omega
 have h1:(b / 9223372036854775808 % 2 == 1) = false:=by
  have:b / 9223372036854775808 = 0:=by omega
  rw [this];rfl
 have:=read_fin (b:=b) false h1 (by omega)
 rw [h2] at this
 exact this
def rn (mag:Nat) (place:Int):Nat:=if mag = 0 then 0 else
 min ((max (place + mag.log2 - 52) (-1074) + 1074).toNat * 4503599627370496 + Ieee.Toward.even.cut false (mag <<< (place - max (place + mag.log2 - 52) (-1074)).toNat) (max (place + mag.log2 - 52) (-1074) - place).toNat) 9218868437227405312
theorem nearest_rn (neg:Bool) (mag:Nat) (place:Int):Ieee.double.nearest neg mag place = Ieee.double.word neg (rn mag place):=by
 unfold Ieee.Format.nearest rn
 have hf:Ieee.double.fractionBits = 52:=rfl
 simp only [hf,lp,bn,ir]
 split
 ·rfl
 ·congr 1
theorem rn_inf (mag:Nat) (place:Int):rn mag place≤9218868437227405312:=by
 unfold rn
 split
 ·omega
 ·exact Nat.min_le_right _ _
def key (a:Nat):Int:=if a < 9223372036854775808 then (a:Int) else -((a - 9223372036854775808:Nat):Int)
def isN (a:Nat):Prop:=9218868437227405312 < a % 9223372036854775808
theorem cmp_congr {a b c d:Int} (h1:a < b↔c < d) (h2:a = b↔c = d):compare a b = compare c d:=by
 show compareOfLessAndEq a b = compareOfLessAndEq c d
 unfold compareOfLessAndEq
 simp [h1,h2]
theorem cmp_of_lt {a b:Int} (h:a < b):compare a b = .lt:=by
 show compareOfLessAndEq a b = _
 unfold compareOfLessAndEq
 simp [h]
theorem cmp_of_gt {a b:Int} (h:b < a):compare a b = .gt:=by
 show compareOfLessAndEq a b = _
 unfold compareOfLessAndEq
 have h1:¬ a < b:=by omega
 have h2:¬ a = b:=by omega
 simp [h1,h2]
theorem cmp_of_eq {a b:Int} (h:a = b):compare a b = .eq:=by
 show compareOfLessAndEq a b = _
 unfold compareOfLessAndEq
 simp [h]
theorem signed_val (s:Bool) (r:Nat) (c:Nat) (hc:c≤pl r):Ieee.signed s (mg r) ((-1074 + (pl r:Nat):Int) - (-1074 + (c:Nat):Int)).toNat * ((2 ^ c:Nat):Int) = if s then -((va r:Nat):Int) else ((va r:Nat):Int):=by
 have h1:((-1074 + (pl r:Nat):Int) - (-1074 + (c:Nat):Int)).toNat = pl r - c:=by omega
 have h2:(mg r <<< (pl r - c)) * 2 ^ c = va r:=by
  rw [va_eq,Nat.shiftLeft_eq,Nat.mul_assoc,← Nat.pow_add,Nat.sub_add_cancel hc]
 rw [h1]
 unfold Ieee.signed
 cases s
 ·simp only [Bool.false_eq_true,if_false]
  rw [← h2];simp
 ·simp only [if_true]
  rw [← h2,Int.neg_mul];simp
theorem sgn_lt {s t:Bool} {r q:Nat}:(if s then -((va r:Nat):Int) else ((va r:Nat):Int)) < (if t then -((va q:Nat):Int) else ((va q:Nat):Int))↔(if s then -((r:Nat):Int) else ((r:Nat):Int)) < (if t then -((q:Nat):Int) else ((q:Nat):Int)):=by
 have h0:va 0 = 0:=va_small (by omega)
 have h1:va r < va q↔r < q:=⟨lt_of_va,va_lt⟩
 have h2:va q < va r↔q < r:=⟨lt_of_va,va_lt⟩
 have h3:0 < va r↔0 < r:=by rw [← h0];exact ⟨lt_of_va,va_lt⟩
 have h4:0 < va q↔0 < q:=by rw [← h0];exact ⟨lt_of_va,va_lt⟩
 cases s <;> cases t <;> simp only [Bool.false_eq_true,if_false,if_true] <;> omega
theorem sgn_eq {s t:Bool} {r q:Nat}:(if s then -((va r:Nat):Int) else ((va r:Nat):Int)) = (if t then -((va q:Nat):Int) else ((va q:Nat):Int))↔(if s then -((r:Nat):Int) else ((r:Nat):Int)) = (if t then -((q:Nat):Int) else ((q:Nat):Int)):=by
 have h0:va 0 = 0:=va_small (by omega)
 have h1:va r < va q↔r < q:=⟨lt_of_va,va_lt⟩
 have h2:va q < va r↔q < r:=⟨lt_of_va,va_lt⟩
 have h3:0 < va r↔0 < r:=by rw [← h0];exact ⟨lt_of_va,va_lt⟩
 have h4:0 < va q↔0 < q:=by rw [← h0];exact ⟨lt_of_va,va_lt⟩
 cases s <;> cases t <;> simp only [Bool.false_eq_true,if_false,if_true] <;> omega
theorem order_num (s t:Bool) (r q:Nat):Ieee.Datum.order (.number s (mg r) (-1074 + (pl r:Nat))) (.number t (mg q) (-1074 + (pl q:Nat))) = some (compare (if s then -((r:Nat):Int) else ((r:Nat):Int)) (if t then -((q:Nat):Int) else ((q:Nat):Int))):=by
 unfold Ieee.Datum.order
 simp only
 have hb:min (-1074 + (pl r:Nat):Int) (-1074 + (pl q:Nat):Int) = -1074 + ((min (pl r) (pl q):Nat):Int):=by omega
 rw [hb]
 have h1:=signed_val s r (min (pl r) (pl q)) (Nat.min_le_left _ _)
 have h2:=signed_val t q (min (pl r) (pl q)) (Nat.min_le_right _ _)
 have hp:(0:Int) < ((2 ^ min (pl r) (pl q):Nat):Int):=by have:=Nat.two_pow_pos (min (pl r) (pl q));omega
 generalize ((2 ^ min (pl r) (pl q):Nat):Int) = c at *
 congr 1
 refine cmp_congr ?_ ?_
 ·rw [← sgn_lt,← h1,← h2]
  exact ⟨fun h=>Int.mul_lt_mul_of_pos_right h hp,fun h=>Int.lt_of_mul_lt_mul_right h (Int.le_of_lt hp)⟩
 ·rw [← sgn_eq,← h1,← h2]
  exact ⟨fun h=>by rw [h],fun h=>Int.eq_of_mul_eq_mul_right (by omega) h⟩
theorem word_cases {a:Nat} (ha:a < 18446744073709551616) (hn:¬ isN a):∃ (s:Bool) (r:Nat),a = (if s then 9223372036854775808 + r else r)∧r≤9218868437227405312∧key a = (if s then -((r:Nat):Int) else ((r:Nat):Int))∧
  ((r < 9218868437227405312∧Ieee.double.read a = .number s (mg r) (-1074 + (pl r:Nat)))∨(r = 9218868437227405312∧Ieee.double.read a = .infinity s)):=by
 unfold isN at hn
 by_cases h:a < 9223372036854775808
 ·have h2:a % 9223372036854775808 = a:=by omega
  have h1:(a / 9223372036854775808 % 2 == 1) = false:=by
   have:a / 9223372036854775808 = 0:=by omega
   rw [this];rfl
  refine ⟨false,a,by simp,by omega,by unfold key;simp [h],?_⟩
  by_cases h3:a < 9218868437227405312
  ·have:=read_fin (b:=a) false h1 (by omega)
   rw [h2] at this
   exact .inl ⟨h3,this⟩
  ·exact .inr ⟨by omega,read_inf false h1 (by omega)⟩
 ·have h2:a % 9223372036854775808 = a - 9223372036854775808:=by omega
  have h1:(a / 9223372036854775808 % 2 == 1) = true:=by
   have:a / 9223372036854775808 = 1:=by omega
   rw [this];rfl
  refine ⟨true,a - 9223372036854775808,by simp;omega,by omega,by unfold key;simp [h],?_⟩
  by_cases h3:a - 9223372036854775808 < 9218868437227405312
  ·have:=read_fin (b:=a) true h1 (by omega)
   rw [h2] at this
   exact .inl ⟨h3,this⟩
  ·exact .inr ⟨by omega,read_inf true h1 (by omega)⟩
theorem order_key {a b:Nat} (ha:a < 18446744073709551616) (hb:b < 18446744073709551616) (na:¬ isN a) (nb:¬ isN b):FloatKind.f64.format.order a b = some (compare (key a) (key b)):=by
 obtain ⟨s,r,_,hr,hka,h1⟩:=word_cases ha na
 obtain ⟨t,q,_,hq,hkb,h2⟩:=word_cases hb nb
 rw [fmt,hka,hkb]
 unfold Ieee.Format.order
 rcases h1 with ⟨h1,e1⟩ | ⟨h1,e1⟩ <;> rcases h2 with ⟨h2,e2⟩ | ⟨h2,e2⟩ <;> rw [e1,e2]
 ·exact order_num s t r q
 ·cases t
  ·simp only [Ieee.Datum.order,Bool.false_eq_true,if_false]
   rw [cmp_of_lt];cases s <;> simp <;> omega
  ·simp only [Ieee.Datum.order,if_true]
   rw [cmp_of_gt];cases s <;> simp <;> omega
 ·cases s
  ·simp only [Ieee.Datum.order,Bool.false_eq_true,if_false]
   rw [cmp_of_gt];cases t <;> simp <;> omega
  ·simp only [Ieee.Datum.order,if_true]
   rw [cmp_of_lt];cases t <;> simp <;> omega
 ·simp only [Ieee.Datum.order]
  subst h1;subst h2
  cases s <;> cases t <;> rfl
theorem order_nan {a b:Nat} (h:isN a∨isN b):FloatKind.f64.format.order a b = none:=by
 rw [fmt]
 unfold Ieee.Format.order
 have rd:∀ x,isN x→∃ s t,Ieee.double.read x = .nan s t:=fun x hx=>⟨_,_,read_nan _ rfl hx⟩
 rcases h with h | h
 ·obtain ⟨s,t,e⟩:=rd a h
  rw [e];rfl
 ·obtain ⟨s,t,e⟩:=rd b h
  rw [e]
  cases Ieee.double.read a <;> rfl
theorem flt_key {a b:Nat} (ha:a < 18446744073709551616) (hb:b < 18446744073709551616) (na:¬ isN a) (nb:¬ isN b):flt a b = decide (key a < key b):=by
 unfold flt
 rw [order_key ha hb na nb]
 rcases Int.lt_trichotomy (key a) (key b) with h | h | h
 ·rw [cmp_of_lt h];simp [h]
 ·rw [cmp_of_eq h];simp [h]
 ·rw [cmp_of_gt h]
  have:¬ key a < key b:=by omega
  simp [this]
theorem feq_key {a b:Nat} (ha:a < 18446744073709551616) (hb:b < 18446744073709551616) (na:¬ isN a) (nb:¬ isN b):feq a b = decide (key a = key b):=by
 unfold feq Op.floatEq
 rw [order_key ha hb na nb]
 rcases Int.lt_trichotomy (key a) (key b) with h | h | h
 ·rw [cmp_of_lt h]
  have:¬ key a = key b:=by omega
  simp [this]
 ·rw [cmp_of_eq h];simp [h]
 ·rw [cmp_of_gt h]
  have:¬ key a = key b:=by omega
  simp [this]
theorem flt_nan {a b:Nat} (h:isN a∨isN b):flt a b = false:=by unfold flt;rw [order_nan h];rfl
theorem feq_nan {a b:Nat} (h:isN a∨isN b):feq a b = false:=by unfold feq Op.floatEq;rw [order_nan h];rfl
theorem pos_ok {a:Nat} (h:a≤9218868437227405312):a < 18446744073709551616∧¬ isN a∧key a = (a:Int):=by
 refine ⟨by omega,by unfold isN;omega,by unfold key;rw [if_pos (by omega)]⟩
theorem flt_pos {a b:Nat} (ha:a≤9218868437227405312) (hb:b≤9218868437227405312):flt a b = decide (a < b):=by
 obtain ⟨h1,h2,h3⟩:=pos_ok ha
 obtain ⟨h4,h5,h6⟩:=pos_ok hb
 rw [flt_key h1 h4 h2 h5,h3,h6]
 congr 1
 exact propext (by omega)
theorem word_pos (r:Nat):Ieee.double.word false r = r:=rfl
theorem fin_mul {a b:Nat} (ha:a < 9218868437227405312) (hb:b < 9218868437227405312):FloatKind.f64.format.mul a b = some (rn (mg a * mg b) (-1074 + (pl a:Nat) + (-1074 + (pl b:Nat)))):=by
 rw [fmt]
 unfold Ieee.Format.mul
 rw [read_pos ha,read_pos hb]
 simp only [Ieee.Datum.product,Option.map_some,Ieee.Format.write]
 rw [nearest_rn,Bool.xor_false,word_pos]
theorem fmul_fin {a b:Nat} (ha:a < 9218868437227405312) (hb:b < 9218868437227405312):fmulOk a b = true∧fmul a b≤9218868437227405312:=by
 unfold fmulOk fmul
 rw [fin_mul ha hb,Option.isSome_some,Option.getD_some]
 exact ⟨rfl,rn_inf _ _⟩
attribute [irreducible] va
end Go.Proofs.YtpcgjdllgdkobaaW.PrintWords
