import Derived.Test.YtpcipmhblknokaaCZ
import Derived.MapKept
import Derived.ChangeMaps4
import Derived.WideKeyEntry
import Derived.Test.YtpcipmhblknokaaXCx0
/- A map of the law's own whose keys are datagrams and whose values are numbers: its laws. -/
namespace Go.Proofs.Ytpcipmhblknokaa.Ch
open Go.RowKit Go.Proofs.Ytpcipmhblknokaa.XC Go.Proofs.YtpcipmhblknokaaW.PrintWords Go.Proofs.YtpcipmhblknokaaW.PrintLast Go.Proofs.YtpcipmhblknokaaW.PrintMore
set_option linter.unusedVariables false
set_option linter.unusedSimpArgs false
set_option maxRecDepth 100000
set_option maxHeartbeats 4000000
attribute [local go_sem high] eqA27
abbrev ME := List (S27 × Int)
def eqS (x y : S27) : Bool := x.f0 == y.f0 && (x.f1 == y.f1 && (x.f2.toList == y.f2.toList && (x.f3 == y.f3)))
theorem baL (b : ByteArray) : b.toList = b.data.toList := by
  have loop : ∀ (d i : Nat) (r : List UInt8), d = b.size - i → ByteArray.toList.loop b i r = r.reverse ++ b.data.toList.drop i := by
    intro d
    induction d with
    | zero =>
      intro i r hd
      unfold ByteArray.toList.loop
      rw [if_neg (by omega), List.drop_of_length_le (by rw [Array.length_toList]; show b.size ≤ i; omega), List.append_nil]
    | succ d ih =>
      intro i r hd
      unfold ByteArray.toList.loop
      rw [if_pos (by omega), ih (i + 1) _ (by omega), List.reverse_cons, List.append_assoc]
      have hi : i < b.data.toList.length := by rw [Array.length_toList]; show i < b.size; omega
      rw [List.drop_eq_getElem_cons hi]
      congr 1
      simp only [List.singleton_append, Array.getElem_toList]
      congr 1
      simp [ByteArray.get!, getElem!_pos b.data i (by simpa using hi)]
  have := loop _ 0 [] rfl
  simpa [ByteArray.toList] using this
theorem eqS_iff (x y : S27) : eqS x y = true ↔ x = y := by
  unfold eqS
  simp only [Bool.and_eq_true, beq_iff_eq, baL]
  constructor
  · rintro ⟨h0, h1, h2, h3⟩
    obtain ⟨a, b, ⟨c⟩, d⟩ := x
    obtain ⟨a', b', ⟨c'⟩, d'⟩ := y
    simp only at h0 h1 h2 h3
    have := Array.toList_inj.1 h2
    subst h0; subst h1; subst h3; subst this
    rfl
  · rintro rfl
    exact ⟨rfl, rfl, rfl, rfl⟩
def entAt (i : Nat) (p : S27 × Int) : MapEntry := ⟨gV p.1, .int .i64 p.2, i⟩
def ents : Nat → ME → List MapEntry
  | _, [] => []
  | i, p :: E => entAt i p :: ents (i + 1) E
theorem ents_len : ∀ (E : ME) (i : Nat), (ents i E).length = E.length
  | [], _ => rfl
  | _ :: E, i => congrArg (· + 1) (ents_len E (i + 1))
theorem ents_get : ∀ (E : ME) (i j : Nat), (ents i E)[j]? = (E[j]?).map (entAt (i + j))
  | [], i, j => by simp [ents]
  | p :: E, i, 0 => rfl
  | p :: E, i, j + 1 => by
    show (ents (i + 1) E)[j]? = _
    rw [ents_get E (i + 1) j, List.getElem?_cons_succ, show i + 1 + j = i + (j + 1) by omega]
theorem ents_app : ∀ (E : ME) (i : Nat) (p : S27 × Int), ents i (E ++ [p]) = ents i E ++ [entAt (i + E.length) p]
  | [], i, p => rfl
  | q :: E, i, p => by
    show entAt i q :: ents (i + 1) (E ++ [p]) = entAt i q :: (ents (i + 1) E ++ _)
    rw [ents_app E (i + 1) p, show i + 1 + E.length = i + (q :: E).length by simp; omega]
def fnd : ME → S27 → Nat → Option (Nat × Int)
  | [], _, _ => none
  | p :: E, k, i => if eqS k p.1 = true then some (i, p.2) else fnd E k (i + 1)
theorem ask_run (w : World) (k : S27) : ∀ (E : ME) (j i : Nat), (Instr.findAsking 27 (gV k) (ents j E) i).run Try.prog w = .ok ((fnd E k i).map (fun p => (p.1, .int .i64 p.2))) w
  | [], _, _ => rfl
  | p :: E, j, i => by
    show (Instr.findAsking 27 (gV k) (entAt j p :: ents (j + 1) E) i).run Try.prog w = _
    unfold Instr.findAsking
    have he : (Op.equal 27 (gV k) (entAt j p).key).run Try.prog w = .ok (eqS k p.1) w := eqA27 (Op.maxDepth - 2) w _ _ _ _ _ _ _ _
    rw [Sem.run_bind, he, Result.andThen_ok]
    unfold fnd
    cases h : eqS k p.1 with
    | true => rfl
    | false =>
      rw [if_neg (by simp), if_neg (by simp)]
      exact ask_run w k E (j + 1) (i + 1)
theorem find_run (w : World) (k : S27) (E : ME) : (Instr.findKey 27 (gV k) (ents 0 E)).run Try.prog w = .ok ((fnd E k 0).map (fun p => (p.1, .int .i64 p.2))) w := by
  unfold Instr.findKey
  rw [Sem.run_bind, run_underlying Try.underlying27, Result.andThen_ok]
  cases E with
  | nil => rfl
  | cons p E => exact ask_run w k (p :: E) 0 0
theorem check_run (w : World) (em : Bool) (k : S27) : (Instr.checkKey em 10000 27 (gV k)).run Try.prog w = .ok () w := by
  cases em <;> kernel_rfl
theorem stays_run (w : World) (k : S27) : (Instr.keyThatStays (gV k) (gV k)).run Try.prog w = .ok (gV k) w := by
  unfold Instr.keyThatStays
  have h : Instr.sameBits 10000 (gV k) (gV k) = true := by
    show Instr.sameBits (9999 + 1) _ _ = true
    have hb : (k.f2 == k.f2) = true := by
      obtain ⟨_, _, ⟨d⟩, _⟩ := k
      exact beq_self_eq_true d
    simp [Instr.sameBits, hb]
  rw [if_pos h]
  rfl
/-- The number that stands at a key; 0 where none does. -/
def valM (E : ME) (k : S27) : Int := match fnd E k 0 with | some p => p.2 | none => 0
/-- The entry of a key, made if there is none. -/
def touchM (E : ME) (k : S27) : ME := match fnd E k 0 with | some _ => E | none => E ++ [(k, 0)]
def idxM (E : ME) (k : S27) : Nat := match fnd E k 0 with | some p => p.1 | none => E.length
def storeM (E : ME) (k : S27) (v : Int) : ME := match fnd E k 0 with | some p => E.set p.1 (k, v) | none => E ++ [(k, v)]
def MapM (w : World) (b : Nat) (E : ME) : Prop := w.heap[b]? = some (.map (ents 0 E).toArray E.length)
theorem fnd_some : ∀ {E : ME} {k : S27} {i : Nat} {p : Nat × Int}, fnd E k i = some p → ∃ j, p.1 = i + j ∧ E[j]? = some (k, p.2)
  | [], _, _, _, h => by cases h
  | q :: E, k, i, p, h => by
    unfold fnd at h
    by_cases hq : eqS k q.1 = true
    · rw [if_pos hq] at h
      cases h
      obtain rfl := (eqS_iff _ _).1 hq
      exact ⟨0, rfl, rfl⟩
    · rw [if_neg hq] at h
      obtain ⟨j, h1, h2⟩ := fnd_some h
      exact ⟨j + 1, by omega, h2⟩
theorem fnd_app : ∀ (E : ME) (k k' : S27) (v : Int) (i : Nat), fnd (E ++ [(k, v)]) k' i = match fnd E k' i with | some p => some p | none => if eqS k' k = true then some (i + E.length, v) else none
  | [], k, k', v, i => rfl
  | q :: E, k, k', v, i => by
    show (if eqS k' q.1 = true then some (i, q.2) else fnd (E ++ [(k, v)]) k' (i + 1)) = _
    by_cases hq : eqS k' q.1 = true
    · rw [if_pos hq, fnd, if_pos hq]
    · rw [if_neg hq, fnd_app E k k' v (i + 1), fnd, if_neg hq, show i + 1 + E.length = i + (q :: E).length by simp; omega]
theorem fnd_set : ∀ {E : ME} {k : S27} {i j : Nat} {v0 : Int} (v : Int) (k' : S27), fnd E k i = some (i + j, v0) → fnd (E.set j (k, v)) k' i = if eqS k' k = true then some (i + j, v) else fnd E k' i
  | [], _, _, _, _, _, _, h => by cases h
  | q :: E, k, i, j, v0, v, k', h => by
    unfold fnd at h
    by_cases hq : eqS k q.1 = true
    · rw [if_pos hq] at h
      injection h with h
      injection h with h1 h2
      obtain rfl : j = 0 := by omega
      obtain rfl := (eqS_iff _ _).1 hq
      show (if eqS k' q.1 = true then some (i, v) else fnd E k' (i + 1)) = _
      by_cases h' : eqS k' q.1 = true
      · rw [if_pos h', if_pos h']; rfl
      · rw [if_neg h', if_neg h', fnd, if_neg h']
    · rw [if_neg hq] at h
      obtain ⟨j', h1, _⟩ := fnd_some h
      obtain ⟨j2, rfl⟩ : ∃ j2, j = j2 + 1 := ⟨j - 1, by simp only at h1; omega⟩
      rw [show i + (j2 + 1) = i + 1 + j2 by omega] at h
      show (if eqS k' q.1 = true then some (i, q.2) else fnd (E.set j2 (k, v)) k' (i + 1)) = _
      rw [fnd_set v k' h]
      by_cases h' : eqS k' q.1 = true
      · rw [if_pos h', fnd, if_pos h']
        by_cases h2 : eqS k' k = true
        · have e1 := (eqS_iff _ _).1 h2
          subst e1
          exact absurd h' hq
        · rw [if_neg h2]
      · rw [if_neg h']
        by_cases h2 : eqS k' k = true
        · rw [if_pos h2, if_pos h2, show i + 1 + j2 = i + (j2 + 1) by omega]
        · rw [if_neg h2, if_neg h2, fnd, if_neg h']
theorem val_store (E : ME) (k : S27) (v : Int) (k' : S27) : valM (storeM E k v) k' = if eqS k' k = true then v else valM E k' := by
  unfold storeM valM
  cases h : fnd E k 0 with
  | none =>
    simp only
    rw [fnd_app]
    by_cases hk : eqS k' k = true
    · have e := (eqS_iff _ _).1 hk
      subst e
      rw [h, if_pos hk]
      simp only [if_pos hk]
    · rw [if_neg hk]
      cases fnd E k' 0 with
      | none => simp only; rw [if_neg hk]
      | some p => simp only; rw [if_neg hk]
  | some p =>
    obtain ⟨j, h1, h2⟩ := fnd_some h
    obtain ⟨p1, p2⟩ := p
    simp only at h1 h2 ⊢
    subst h1
    have hs := fnd_set v k' h
    rw [show 0 + j = j by omega, hs]
    by_cases hk : eqS k' k = true
    · rw [if_pos hk, if_pos hk]
    · rw [if_neg hk, if_neg hk]
section
variable {w : World} {b : Nat} {E : ME}
theorem MapM.arr (i : Nat) : ((ents 0 E).toArray)[i]? = (E[i]?).map (entAt i) := by
  rw [List.getElem?_toArray, ents_get, Nat.zero_add]
theorem zero3 (w : World) : (zeroValue 3).run Try.prog w = .ok (.int .i64 0) w := by kernel_rfl
theorem look_run (h : MapM w b E) (k : S27) : (Instr.lookup 25 (.map (some b)) (gV k) false).run Try.prog w = .ok (.int .i64 (valM E k)) w := by
  unfold Instr.lookup valM
  simp only [Sem.run_bind, run_underlying Try.underlying25, Result.andThen_ok, MapKept.run_getObj_map h, Sem.run_pure, check_run, find_run]
  cases fnd E k 0 with
  | none => simp [zero3, Result.andThen]
  | some p => simp [Result.andThen]
/-- A world whose block was overwritten. -/
def setB (w : World) (b : Nat) (o : Obj) : World := { w with heap := w.heap.setIfInBounds b o }
theorem set_grown (w : World) (b : Nat) (o : Obj) : w.grownBy (setB w b o) (some b) :=
  ⟨rfl, rfl, rfl, by simp [setB], fun k _ hk => by
    show (w.heap.setIfInBounds b o)[k]? = w.heap[k]?
    rw [Array.getElem?_setIfInBounds_ne (fun e => hk (by rw [e]))]⟩
theorem set_at {w : World} {b : Nat} {o0 o : Obj} (h : w.heap[b]? = some o0) : (setB w b o).heap[b]? = some o := by
  show (w.heap.setIfInBounds b o)[b]? = some o
  rw [Array.getElem?_setIfInBounds_self_of_lt (blk_lt h)]
theorem make_map (h : MapM w b E) (k : S27) : ∃ w', (Instr.mapEntry 25 (.map (some b)) (gV k)).run Try.prog w = .ok (.tuple #[.int .i64 (valM E k), .int .i64 (idxM E k)]) w' ∧ MapM w' b (touchM E k) ∧ w.grownBy w' (some b) := by
  unfold valM idxM touchM
  cases hf : fnd E k 0 with
  | none =>
    refine ⟨setB w b (.map ((ents 0 E).toArray.push ⟨gV k, .int .i64 0, E.length⟩) (E.length + 1)), ?_, ?_, set_grown _ _ _⟩
    · simp only [Instr.mapEntry, Sem.run_bind, run_underlying Try.underlying25, Result.andThen_ok, MapKept.run_getObj_map h, check_run, find_run, hf, Option.map_none, zero3, MapKept.run_setObj_map _ h, Sem.run_pure]
      rfl
    · refine (set_at h).trans ?_
      rw [ents_app, Nat.zero_add, List.length_append, List.length_singleton]
      congr 2
      apply Array.ext'
      rw [Array.toList_push]
      rfl
  | some p =>
    obtain ⟨j, h1, h2⟩ := fnd_some hf
    obtain ⟨p1, p2⟩ := p
    simp only at h1 h2 ⊢
    obtain rfl : p1 = j := by omega
    have hg : ((ents 0 E).toArray)[p1]? = some (entAt p1 (k, p2)) := by rw [MapM.arr, h2]; rfl
    have hm : ((ents 0 E).toArray).modify p1 (fun e => { e with key := gV k }) = (ents 0 E).toArray := by
      apply Array.ext'
      rw [Array.toList_modify]
      apply List.ext_getElem?
      intro i
      rw [List.getElem?_modify]
      by_cases hi : p1 = i
      · subst hi
        rw [← Array.getElem?_toList] at hg
        rw [hg]
        simp [entAt]
      · simp [hi]
    refine ⟨setB w b (.map (ents 0 E).toArray E.length), ?_, set_at h, set_grown _ _ _⟩
    simp only [Instr.mapEntry, Sem.run_bind, run_underlying Try.underlying25, Result.andThen_ok, MapKept.run_getObj_map h, check_run, find_run, hf, Option.map_some, hg, Option.getD_some, entAt, stays_run, hm, MapKept.run_setObj_map _ h, Sem.run_pure]
    rfl
theorem touch_idx (E : ME) (k : S27) : (touchM E k)[idxM E k]? = some (k, valM E k) := by
  unfold touchM idxM valM
  cases hf : fnd E k 0 with
  | none => simp
  | some p =>
    obtain ⟨j, h1, h2⟩ := fnd_some hf
    obtain ⟨p1, p2⟩ := p
    simp only at h1 h2 ⊢
    obtain rfl : p1 = j := by omega
    exact h2
theorem touch_set (E : ME) (k : S27) (v : Int) : (touchM E k).set (idxM E k) (k, v) = storeM E k v := by
  unfold touchM idxM storeM
  cases hf : fnd E k 0 with
  | none => simp
  | some p => rfl
theorem val_touch (E : ME) (k k' : S27) : valM (touchM E k) k' = valM E k' := by
  unfold touchM
  cases h : fnd E k 0 with
  | none =>
    have := val_store E k 0 k'
    unfold storeM at this
    rw [h] at this
    rw [this]
    by_cases hk : eqS k' k = true
    · rw [if_pos hk]
      have e := (eqS_iff _ _).1 hk
      subst e
      unfold valM
      rw [h]
    · rw [if_neg hk]
  | some p => rfl
theorem put_map (k : S27) (h : MapM w b (touchM E k)) (v : Int) : ∃ w', (Instr.entryStore 25 (.map (some b)) (.int .i64 (idxM E k)) (.int .i64 v)).run Try.prog w = .ok () w' ∧ MapM w' b (storeM E k v) ∧ w.grownBy w' (some b) := by
  have hi := touch_idx E k
  rw [← touch_set E k v]
  generalize touchM E k = F at h hi ⊢
  generalize idxM E k = i at hi ⊢
  have hg : (ents 0 F)[i]? = some (entAt i (k, valM E k)) := by rw [ents_get, hi]; simp
  have hx : ((ents 0 F).toArray).findIdx? (fun e => ((e.born : Nat) : Int) == (i : Int)) = some i := by
    rw [Go.WideElems.findIdx_arr]
    show (ents 0 F).findIdx? _ = _
    have hl : i < (ents 0 F).length := (List.getElem?_eq_some_iff.1 hg).1
    rw [List.findIdx?_eq_some_iff_getElem]
    refine ⟨hl, ?_, fun j hj => ?_⟩
    · have := (List.getElem?_eq_some_iff.1 hg).2
      rw [this]
      simp [entAt]
    · have h1 : (ents 0 F)[j]? = (F[j]?).map (entAt (0 + j)) := ents_get F 0 j
      rw [List.getElem?_eq_getElem (by omega)] at h1
      have hFl : j < F.length := by rw [ents_len] at hl; omega
      rw [List.getElem?_eq_getElem hFl] at h1
      simp only [Option.map_some, Option.some.injEq] at h1
      rw [h1]
      simp [entAt]
      omega
  refine ⟨setB w b (.map (((ents 0 F).toArray).modify i (fun e => { e with val := .int .i64 v })) F.length), ?_, ?_, set_grown _ _ _⟩
  · simp only [Instr.entryStore, Sem.run_bind, Result.andThen_ok, MapKept.run_getObj_map h, asInt, asIntOf, Sem.run_pure, hx, MapKept.run_setObj_map _ h]
    rfl
  · refine (set_at h).trans ?_
    rw [List.length_set]
    congr 2
    apply Array.ext'
    rw [Array.toList_modify]
    apply List.ext_getElem?
    intro j
    rw [List.getElem?_modify]
    show (fun a => if i = j then { a with val := .int .i64 v } else a) <$> (ents 0 F)[j]? = (ents 0 (F.set i (k, v)))[j]?
    rw [ents_get, ents_get, List.getElem?_set]
    by_cases hj : i = j
    · subst hj
      rw [hi, if_pos rfl, if_pos (by have := (List.getElem?_eq_some_iff.1 hi).1; exact this)]
      simp [entAt]
    · simp [hj]
end
end Go.Proofs.Ytpcipmhblknokaa.Ch
/- The walk of ChannelNothing, by hand. -/
namespace Go.Proofs.Ytpcipmhblknokaa.Ch
open Go.RowKit Go.Proofs.Ytpcipmhblknokaa.XC Go.Proofs.YtpcipmhblknokaaW.PrintWords Go.Proofs.YtpcipmhblknokaaW.PrintLast Go.Proofs.YtpcipmhblknokaaW.PrintMore
attribute [local go_sem] max2_int min2_int max_two min_two max_three min_three max_four min_four   -- for this text's walks alone
set_option linter.unusedVariables false
set_option linter.unusedSimpArgs false
open List renaming setIfInBounds_toArray → xA, set_cons_zero → xB, set_cons_succ → xC
open Go.Proofs.YtpcipmhblknokaaW.PrintWords renaming blk_drewN → bN, blk_drew → bD, blk_alloc → bA, below_set → bS, blk_frozen → bF, blk_cell → bC, cell_far → cF, blk_far → bZ, blk_below → bB, pw_below_drewN → bwN, below_drew1 → bw1, below_alloc → bwA
open Go.Proofs.YtpcipmhblknokaaW.PrintZ
open Bool renaming true → T,false → F


set_option maxRecDepth 100000
set_option maxHeartbeats 8000000
theorem good_nil : Good [] := ⟨fun x hx => (by cases hx), by decide⟩
/-- A datagram that waits no more. -/
abbrev z0 (x : S27) : S27 := waitS x 0
def cp (m : List S27) (k : S27) : Nat := m.countP (fun x => eqS (z0 x) k)
structure Cnt (m : List S27) (E : ME) (n : Nat) : Prop where
  le : ∀ k, (cp m k : Int) ≤ valM E k
  hi : ∀ k, valM E k ≤ n
theorem eqS_comm (x y : S27) : eqS x y = eqS y x := by
  cases h : eqS x y with
  | true =>
    have e := (eqS_iff _ _).1 h
    subst e
    exact h.symm
  | false =>
    cases h2 : eqS y x with
    | false => rfl
    | true =>
      have e := (eqS_iff _ _).1 h2
      subst e
      rw [h2] at h
      cases h
theorem cp_app (m : List S27) (x k : S27) : cp (m ++ [x]) k = cp m k + if eqS (z0 x) k = true then 1 else 0 := by
  unfold cp
  rw [List.countP_append, List.countP_singleton]
theorem cp_erase {m : List S27} {t : Nat} {z : S27} (h : m[t]? = some z) (k : S27) : cp m k = cp (m.eraseIdx t) k + if eqS (z0 z) k = true then 1 else 0 := by
  obtain ⟨hl, hz⟩ := List.getElem?_eq_some_iff.1 h
  unfold cp
  rw [List.eraseIdx_eq_take_drop_succ, List.countP_append]
  conv => lhs; rw [← List.take_append_drop t m, List.countP_append, List.drop_eq_getElem_cons hl, List.countP_cons, hz]
  omega
theorem cp_set {m : List S27} {t : Nat} {z : S27} (h : m[t]? = some z) (v : Int) (k : S27) : cp (m.set t (waitS z v)) k = cp m k := by
  have h1 := cp_erase h k
  have hl := lt_y h
  have h2 : (m.set t (waitS z v))[t]? = some (waitS z v) := by rw [List.getElem?_set, if_pos rfl, if_pos hl]
  have h3 := cp_erase h2 k
  rw [List.eraseIdx_set_eq] at h3
  exact h3.trans h1.symm
theorem cp_swap {m : List S27} {a b : Nat} {y z : S27} (ha : m[a]? = some y) (hb : m[b]? = some z) (k : S27) : cp ((m.set a z).set b y) k = cp m k := by
  have la := lt_y ha
  have lb := lt_y hb
  by_cases hab : a = b
  · subst hab
    rw [ha] at hb
    cases hb
    rw [List.set_set]
    have e : m.set a y = m := by
      apply List.ext_getElem?
      intro j
      rw [List.getElem?_set]
      by_cases hj : a = j
      · subst hj; rw [if_pos rfl, if_pos la, ha]
      · rw [if_neg hj]
    rw [e]
  · have h1 := cp_erase ha k
    have h2 : (m.set a z)[a]? = some z := by rw [List.getElem?_set, if_pos rfl, if_pos la]
    have h3 := cp_erase h2 k
    rw [List.eraseIdx_set_eq] at h3
    have h4 : (m.set a z)[b]? = some z := by rw [List.getElem?_set, if_neg hab, hb]
    have h5 := cp_erase h4 k
    have h6 : ((m.set a z).set b y)[b]? = some y := by rw [List.getElem?_set, if_pos rfl, if_pos (by simpa using lb)]
    have h7 := cp_erase h6 k
    rw [List.eraseIdx_set_eq] at h7
    omega
theorem cp_sub {m m' : List S27} (h : m'.Sublist m) (k : S27) : cp m' k ≤ cp m k := h.countP_le
theorem cp_tick (m : List S27) (k : S27) : cp (m.map tk) k = cp m k := by
  unfold cp
  rw [List.countP_map]
  rfl
theorem cp_take_le (m : List S27) (i : Int) (k : S27) : cp (takeR m i).1 k ≤ cp m k := by
  unfold takeR
  cases atI m i with
  | none => exact Nat.le_refl _
  | some y =>
    simp only
    by_cases h : 0 < y.f3
    · rw [if_pos h]; exact Nat.le_refl _
    · rw [if_neg h]; exact cp_sub (List.eraseIdx_sublist _ _) k
theorem cp_turn_le (m : List S27) (q i j : Int) (k : S27) (h3 : q ≠ 3) : cp (turnR m q i j).1 k ≤ cp m k := by
  unfold turnR
  by_cases h6 : q = 6
  · rw [if_pos h6]
    exact Nat.le_of_eq (cp_tick m k)
  rw [if_neg h6]
  by_cases h7 : q = 7
  · rw [if_pos h7]
    split
    · split
      · split
        · exact Nat.le_refl _
        · exact cp_sub List.filter_sublist k
      · exact Nat.le_refl _
    · exact Nat.le_refl _
  rw [if_neg h7]
  by_cases h2 : q = 2
  · rw [if_pos h2]
    cases atI m i with
    | none => exact Nat.le_refl _
    | some y => exact cp_sub (List.eraseIdx_sublist _ _) k
  rw [if_neg h2, if_neg h3]
  by_cases h4 : q = 4
  · rw [if_pos h4]
    cases ha : atI m i with
    | none => exact Nat.le_refl _
    | some y =>
      simp only
      by_cases hk : j < 0
      · rw [if_pos hk]
        exact Nat.le_refl _
      · rw [if_neg hk]
        by_cases hk2 : 65536 - y.f3 < j
        · rw [if_pos hk2]
          exact Nat.le_refl _
        · rw [if_neg hk2]
          exact Nat.le_of_eq (cp_set (at_some ha).2.2.2 _ k)
  rw [if_neg h4]
  by_cases h5 : q = 5
  · rw [if_pos h5]
    cases ha : atI m i with
    | none => exact Nat.le_refl _
    | some y =>
      simp only
      cases hc : atI m j with
      | none => exact Nat.le_refl _
      | some z => exact Nat.le_of_eq (cp_swap (at_some ha).2.2.2 (at_some hc).2.2.2 k)
  rw [if_neg h5]
  exact Nat.le_refl _
theorem do_le {m m' : List S27} {q i j x : Int} {z : S27} (hr : doR m q i j = (m', z, x)) (h3 : q ≠ 3) (k : S27) : cp m' k ≤ cp m k := by
  unfold doR at hr
  by_cases h : q = 1
  · rw [if_pos h] at hr
    have := cp_take_le m i k
    rw [hr] at this
    exact this
  · rw [if_neg h] at hr
    have := cp_turn_le m q i j k h3
    cases hr
    exact this
theorem do_double {m m' : List S27} {i j x : Int} {z : S27} (hG : Good m) (hr : doR m 3 i j = (m', z, x)) : (x ≠ 0 ∧ m' = m) ∨ (x = 0 ∧ ∃ y, m[i.toNat]? = some y ∧ i = ((i.toNat : Nat) : Int) ∧ m' = m ++ [y]) := by
  have h : turnR m 3 i j = (match atI m i with | none => (m, 4) | some y => (putM m y, putE m y)) := by
    unfold turnR
    rw [if_neg (by decide), if_neg (by decide), if_neg (by decide), if_pos rfl]
    cases atI m i <;> rfl
  unfold doR at hr
  rw [if_neg (by decide), h] at hr
  cases ha : atI m i with
  | none =>
    rw [ha] at hr
    cases hr
    exact .inl ⟨(by show (4 : Int) ≠ 0; decide), rfl⟩
  | some y =>
    rw [ha] at hr
    obtain ⟨_, hi, hn, hy⟩ := at_some ha
    have hm := hG.all y (List.mem_of_getElem? hy)
    simp only [putM, putE, if_pos hm] at hr
    by_cases hf : 65536 ≤ m.length
    · rw [if_pos hf, if_pos hf] at hr
      cases hr
      exact .inl ⟨by decide, rfl⟩
    · rw [if_neg hf, if_neg hf] at hr
      cases hr
      exact .inr ⟨rfl, y, hy, hi, rfl⟩
theorem do_take0 {m m' : List S27} {i j x : Int} {z : S27} (hG : Good m) (hr : doR m 1 i j = (m', z, x)) : x ≠ 0 ∨ (x = 0 ∧ ∃ t : Nat, m[t]? = some z ∧ m' = m.eraseIdx t ∧ z0 z = z) := by
  unfold doR at hr
  rw [if_pos rfl] at hr
  unfold takeR at hr
  cases ha : atI m i with
  | none =>
    rw [ha] at hr
    cases hr
    exact .inl (by decide)
  | some y =>
    rw [ha] at hr
    obtain ⟨_, hi, hn, hy⟩ := at_some ha
    obtain ⟨w0, w1⟩ := may_wait (hG.all y (List.mem_of_getElem? hy))
    simp only at hr
    by_cases hf : 0 < y.f3
    · rw [if_pos hf] at hr
      cases hr
      exact .inl (by decide)
    · rw [if_neg hf] at hr
      cases hr
      have h0 : z.f3 = 0 := by omega
      refine .inr ⟨rfl, _, hy, rfl, ?_⟩
      show (⟨z.f0, z.f1, z.f2, 0⟩ : S27) = z
      rw [← h0]
theorem put_no_m {m : List S27} {x : S27} (h : putE m x ≠ 0) : putM m x = m := by
  unfold putE at h
  unfold putM
  by_cases h1 : mayB x = true
  · rw [if_pos h1] at h ⊢
    by_cases h2 : 65536 ≤ m.length
    · rw [if_pos h2]
    · rw [if_neg h2] at h
      exact absurd rfl h
  · rw [if_neg h1]
theorem put_yes_m {m : List S27} {x : S27} (h : putE m x = 0) : putM m x = m ++ [x] := by
  unfold putE at h
  unfold putM
  by_cases h1 : mayB x = true
  · rw [if_pos h1] at h ⊢
    by_cases h2 : 65536 ≤ m.length
    · rw [if_pos h2] at h
      cases h
    · rw [if_neg h2]
  · rw [if_neg h1] at h
    cases h
theorem Cnt.le_ {m m' : List S27} {E : ME} {n : Nat} (h : Cnt m E n) (hm : ∀ k, cp m' k ≤ cp m k) : Cnt m' E (n + 1) :=
  ⟨fun k => Int.le_trans (Int.ofNat_le.2 (hm k)) (h.le k), fun k => by have := h.hi k; omega⟩
theorem Cnt.put {m : List S27} {E : ME} {n : Nat} (h : Cnt m E n) (hn : n < 4611686018427387904) (x : S27) : Cnt (m ++ [x]) (storeM E (z0 x) (wrap64 (valM E (z0 x) + 1))) (n + 1) := by
  have h1 := h.le (z0 x)
  have h2 := h.hi (z0 x)
  rw [show wrap64 (valM E (z0 x) + 1) = valM E (z0 x) + 1 by unfold wrap64; omega]
  refine ⟨fun k => ?_, fun k => ?_⟩
  · rw [cp_app, val_store, eqS_comm k]
    have := h.le k
    by_cases hk : eqS (z0 x) k = true
    · have e := (eqS_iff _ _).1 hk
      rw [if_pos hk, if_pos hk, e]
      omega
    · rw [if_neg hk, if_neg hk]
      omega
  · rw [val_store]
    have := h.hi k
    by_cases hk : eqS k (z0 x) = true
    · rw [if_pos hk]; omega
    · rw [if_neg hk]; omega
theorem Cnt.take {m : List S27} {E : ME} {n t : Nat} {z : S27} (h : Cnt m E n) (hn : n < 4611686018427387904) (hz : m[t]? = some z) (h0 : z0 z = z) : 1 ≤ valM E z ∧ Cnt (m.eraseIdx t) (storeM E z (wrap64 (valM E z - 1))) (n + 1) := by
  have h1 := h.le z
  have h2 := h.hi z
  have h3 := cp_erase hz z
  rw [h0, if_pos ((eqS_iff _ _).2 rfl)] at h3
  refine ⟨by omega, ?_⟩
  rw [show wrap64 (valM E z - 1) = valM E z - 1 by unfold wrap64; omega]
  refine ⟨fun k => ?_, fun k => ?_⟩
  · have h4 := cp_erase hz k
    rw [h0] at h4
    rw [val_store, eqS_comm k]
    have := h.le k
    by_cases hk : eqS z k = true
    · rw [if_pos hk] at h4 ⊢
      have e := (eqS_iff _ _).1 hk
      subst e
      omega
    · rw [if_neg hk] at h4 ⊢
      omega
  · rw [val_store]
    have := h.hi k
    by_cases hk : eqS k z = true
    · rw [if_pos hk]; omega
    · rw [if_neg hk]; omega
theorem cnt_nil : Cnt [] [] 0 := ⟨fun k => Int.le_refl _, fun k => Int.le_refl _⟩
section
variable {w : World} {A1 : Option Addr} {c1 : Nat} {l1 : List S31}
theorem Side.one {w w4 : World} {g : Nat} (hg : w.heap.size ≤ g) (hk : FB w4 g true none 0 0) (hB : Below w.heap.size w w4) : Side w w4 g (.slice none 0 0) (.slice none 0 0) [] [] :=
  ⟨⟨hk, Kd.R_nil _ _ _ _ _⟩, Kd.R_nil _ _ _ _ _, hg, fun e => (by cases e), fun k hk hk2 => (by cases hk2), hB⟩
theorem Side.map {w0 w w' : World} {g b : Nat} {u v : Value} {mf mr : List S27} (S : Side w0 w g u v mf mr) (hg : w.grownBy w' (some b)) (hb : ¬ inS g u v b) (hl : w0.heap.size ≤ b) : Side w0 w' g u v mf mr :=
  S.kept (X := fun k => k = b) ⟨hg.size, fun i hi hn => hg.block i hi (fun e => hn (Option.some.inj e))⟩ (fun k hk e => hb (e ▸ hk)) (S.below.grown hg S.below.size (fun k e => by injection e with e; omega))
theorem MapM.bel {w w' : World} {b : Nat} {E : ME} (h : MapM w b E) (hb : Below w.heap.size w w') : MapM w' b E := (hb.block b (blk_lt h)).trans h
theorem mMake {w : World} {ops : Array Oper} {rest : List Oper} {o : Oper} {a : Act} {Q : Exit → Act → World → Prop} (hK : ∀ b w', b = w.heap.size → MapM w' b [] → Below w.heap.size w w' → wpList Try.prog ops Q rest (a.put o.dst (.map (some b))) w')
    (hg : o.guard = none := by exact rfl) (hop : o.op = Op.makeMap 25 none := by exact rfl) : wpList Try.prog ops Q (o :: rest) a w := by
  refine wpList_plain hg fun K' hK' => ?_
  unfold Oper.wp
  simp only [execOp, hop]
  simp [run_makeMap, Result.andThen]
  exact hK' _ _ (hK _ _ rfl (blk_new w _) ((Below.refl _ _).alloc (Nat.le_refl _) _))
theorem side_put0 {w0 w : World} {g : Nat} {u v : Value} {mf mr : List S27} {y : S27} (S : Side w0 w g u v mf mr) : Calls Try.prog 9 #[.pointer (some ⟨g, 0, none⟩), .agg #[.int .i64 y.f0, .int .i64 y.f1, .string y.f2, .int .i64 0]] w fun e w' => ∃ u', e = .returned (.int .i64 (putE mf (z0 y))) ∧ Side w0 w' g u' v (putM mf (z0 y)) mr ∧ Stp w w' g u v u' v := side_put (x := z0 y) S
theorem Stp.row {w w' : World} {g base : Nat} {u v u' v' vr : Value} {P : Nat → Prop} {m : List S27} (h : Stp w w' g u v u' v') (hR : Kd.R k27 27 w base P vr m) (hn : ∀ k, vr.ownBlock = some k → ¬ inS g u v k) : Kd.R k27 27 w' base P vr m :=
  R_stepO hR fun k ho hlt => h.kept.2 k hlt (hn k ho)
def nth.T12 : Bool × List (List Nat × List Nat) := (true, [([], []), ([], []), ([1], [1]), ([0, 2], [0, 2]), ([3], [3]), ([0, 2, 0, 1, 2], [0, 2]), ([5], [5]), ([0, 6, 4, 5, 0, 1, 2, 3, 4, 5, 6], [0, 4, 6])])
def nth.B12 : List Nat := [0, 0, 2, 7, 15, 7, 39, 127]
theorem nth.tab12 : rtab .any (opsOf Try.f3 12) = nth.T12 := by kernel_rfl
theorem nth.bits12 : waitsOk nth.T12.2 nth.B12 = true := by kernel_rfl
def nth.T20 : Bool × List (List Nat × List Nat) := (true, [([], []), ([], []), ([0, 1], [0, 1]), ([2], [2]), ([0, 1, 0, 1], [0, 1]), ([4], [4]), ([0, 5, 3, 4, 0, 1, 2, 3, 4, 5], [0, 3, 5])])
def nth.B20 : List Nat := [0, 0, 3, 7, 3, 19, 63]
theorem nth.tab20 : rtab .any (opsOf Try.f3 20) = nth.T20 := by kernel_rfl
theorem nth.bits20 : waitsOk nth.T20.2 nth.B20 = true := by kernel_rfl
def nth.T24 : Bool × List (List Nat × List Nat) := (true, [([], []), ([], []), ([0, 1], [0, 1]), ([2], [2]), ([0, 1, 0, 1], [0, 1]), ([4], [4]), ([0, 5, 3, 4, 0, 1, 2, 3, 4, 5], [0, 3, 5])])
def nth.B24 : List Nat := [0, 0, 3, 7, 3, 19, 63]
theorem nth.tab24 : rtab .any (opsOf Try.f3 24) = nth.T24 := by kernel_rfl
theorem nth.bits24 : waitsOk nth.T24.2 nth.B24 = true := by kernel_rfl
theorem nothing_calls (hl : l1.length < 4611686018427387904) (hC1 : Kd.C k31 w A1 l1.length l1) (hc1 : l1.length ≤ c1) : Calls Try.prog 3 #[.slice A1 l1.length c1] w fun e w' => e = .returned (.bool true) ∧ Below w.heap.size w w' := by
  have hl63 := hC1.2.1
  go_enter Try.func3, Try.ntmps3
  go_wp2_with (first | ((with_reducible refine gate_callee (f := 8) rfl ?_); refine zg (some 11) Try.func8 #[] ?_; (with_reducible refine (new_calls).mono ?_); rintro e w4 ⟨g, rfl, hg, hk, hb⟩; refine ⟨_, rfl, ?_⟩; have SD := zA (Side.one hg hk hb); clear hg hk hb) | ((with_reducible refine gate_dst (N := 14) rfl ?_); refine mMake ?_; intro bm w5 hbm hM hb; have NI := zA (SD.out.new (Nat.le_of_eq hbm.symm)); have LM := zA (show w.heap.size ≤ bm from hbm ▸ SD.out.below.size); replace SD := zA (SD.out.bel hb); have HM := zA hM; clear hbm hM hb))
  go_loopg [5] (l1.length + 1) (fun kq v5 w' => ∃ (n : Nat) (m : List S27) (u : Value) (E : ME), v5 = .int .i64 n ∧ Aside0 (n ≤ l1.length) ∧ Aside0 (kq + n = l1.length + 1) ∧ Aside0 (Good m ∧ Cnt m E n) ∧ Aside0 (Side w w' g u (.slice none 0 0) m []) ∧ Aside0 (¬ inS g u (.slice none 0 0) bm) ∧ Aside0 (MapM w' bm E))
  case atStart => exact ⟨0, [], _, [], rfl, ⟨Nat.zero_le _⟩, ⟨by omega⟩, ⟨good_nil, cnt_nil⟩, SD, NI, HM⟩
  case round =>
    clear SD NI HM
    obtain ⟨n, m, u, E, rfl, HN, HQ, HGC, SD, NI, HM⟩ := hrel
    have HG := zA HGC.out.1
    have HC := zA HGC.out.2
    clear HGC
    cases gk with
    | zero => exact absurd HQ.out (by have := HN.out; omega)
    | succ k1 =>
      by_cases c6 : n < l1.length
      · have t1 : decide ((n : Int) < (l1.length : Int)) = true := decide_eq_true (by omega)
        have q0 : (0 ≤ (n : Int)) = True := eq_true (by omega)
        have q1 : ((n : Int) < (l1.length : Int)) = True := eq_true (by omega)
        have hn62 : n < 4611686018427387904 := by omega
        obtain ⟨y, hy⟩ : ∃ y, y = rd_T31 l1 (n : Int) := ⟨_, rfl⟩
        obtain ⟨ad, rfl, x0, x1, x2, x3, x4, x5, x6, x7⟩ := at_T31 (Kd.C_below hC1 SD.out.below) n (by omega) (by omega)
        simp only [Int.toNat_natCast] at x0 x1 x2 x3 x4 x5 x6 x7
        rw [← hy] at x0 x1 x2 x3 x4 x5 x6 x7
        clear hy
        cases hb : y.f0 with
        | true =>
          rw [hb] at x0
          go_upto_region 11 with fail
          clear x0 x1 x2 x3 x4 x5 x6 x7
          have K6 := zA (blk_new wr (.cells #[.bool true, .int .i64 y.f1.f0, .int .i64 y.f1.f1, .string y.f1.f2, .int .i64 0, .int .i64 y.f2.f0, .int .i64 y.f2.f1, .int .i64 y.f2.f2] 31))
          have N6 := zA (SD.out.new (Nat.le_refl _))
          have B6 := zA (show bm ≠ wr.heap.size from Nat.ne_of_lt (blk_lt HM.out))
          replace SD := zA (SD.out.bel (below_alloc (Below.refl _ _) (.cells #[.bool true, .int .i64 y.f1.f0, .int .i64 y.f1.f1, .string y.f1.f2, .int .i64 0, .int .i64 y.f2.f0, .int .i64 y.f2.f1, .int .i64 y.f2.f2] 31)))
          replace HM := zA (HM.out.bel (below_alloc (Below.refl _ _) (.cells #[.bool true, .int .i64 y.f1.f0, .int .i64 y.f1.f1, .string y.f1.f2, .int .i64 0, .int .i64 y.f2.f0, .int .i64 y.f2.f1, .int .i64 y.f2.f2] 31)))
          generalize wr.alloc (.cells #[.bool true, .int .i64 y.f1.f0, .int .i64 y.f1.f1, .string y.f1.f2, .int .i64 0, .int .i64 y.f2.f0, .int .i64 y.f2.f1, .int .i64 y.f2.f2] 31) = w6 at SD HM K6 ⊢
          generalize wr.heap.size = G6 at K6 N6 B6 ⊢
          have c6_1 := (bC K6.out 1).trans rfl
          have c6_2 := (bC K6.out 2).trans rfl
          have c6_3 := (bC K6.out 3).trans rfl
          have c6_4 := (bC K6.out 4).trans rfl
          by_cases hp : putE m (z0 y.f1) = 0
          · have HP := zA hp
            have HG2 := zA (HG.out.put (z0 y.f1))
            have HC2 := zA (HC.out.put hn62 (z0 y.f1))
            rw [put_yes_m hp] at HG2
            clear hp
            go_wp2_with (first | ((with_reducible refine gate_callee (f := 9) rfl ?_); refine zg (some 32) Try.func9 #[.pointer (some ⟨g, 0, none⟩), .agg #[.int .i64 y.f1.f0, .int .i64 y.f1.f1, .string y.f1.f2, .int .i64 0]] ?_; (with_reducible refine (side_put0 SD.out).mono ?_); rintro e w7 ⟨u2, rfl, hS, hT⟩; refine ⟨_, rfl, ?_⟩; rw [HP.out]; rw [put_yes_m HP.out] at hS; have h6 := hT.blk K6.out N6.out; have hm := hT.blk HM.out NI.out; replace K6 := zA h6.1; replace NI := zA hm.2; replace HM := zA (show MapM _ bm E from hm.1); replace SD := zA hS; clear hS hT h6 hm) | fail)
            have d0 := (bC K6.out 1).trans rfl
            have d1 := (bC K6.out 2).trans rfl
            have d2 := (bC K6.out 3).trans rfl
            have d3 := (bC K6.out 4).trans rfl
            refine start_ (n := 8) (S := fun w' => w'.cell? ⟨G6, 1, none⟩ = some (.int .i64 y.f1.f0) ∧ w'.cell? ⟨G6, 2, none⟩ = some (.int .i64 y.f1.f1) ∧ w'.cell? ⟨G6, 3, none⟩ = some (.string y.f1.f2) ∧ w'.cell? ⟨G6, 4, none⟩ = some (.int .i64 0)) (ds := [5, 7]) #[F,F,F,F,F,F,F,F] (by kernel_rfl) rfl rfl ⟨d0, d1, d2, d3⟩ (fun hHeld => ?_)
            refine with_tabW nth.tab12 nth.bits12 (fun HT_ HW_ => ?_)
            clear d0 d1 d2 d3
            replace SD := zA SD.out.drew
            replace HM := zA (show MapM w7.drew bm E from HM.out)
            generalize w7.drew = wd at SD HM hHeld ⊢
            refine pz 0 34 #[T,F,F,F,F,F,F,F] HT_.1 ?_
            refine pz 1 35 #[T,T,F,F,F,F,F,F] HT_.1 ?_
            refine tz 2 36 #[T,T,T,F,F,F,F,F] HT_.1 HW_.1 hHeld ?_
            refine two_last (i := 3) (j := 5) (Ni := some 37) (Nj := some 39) #[T,T,T,T,F,F,F,F] #[T,T,T,F,F,T,F,F] rfl rfl rfl rfl (by rw [ready_eq, HT_.out]; kernel_rfl) (by decide) (by decide) (fun K hK => ?_) (fun K hK => ?_)
            · skip
              have hl : (Instr.lookup 25 (.map (some bm)) (.agg #[.int .i64 y.f1.f0, .int .i64 y.f1.f1, .string y.f1.f2, .int .i64 0]) false).run Try.prog wd = .ok (.int .i64 (valM E (z0 y.f1))) wd := look_run HM.out (z0 y.f1)
              refine event_step (v := .int .i64 (valM E (z0 y.f1))) (w1 := wd) rfl (by first | (go_simp; done) | (go_simp; with_reducible rfl)) ?_
              refine hK.out _ _ hHeld (fun hHeld => ?_)
              clear hK K hl
              refine nz 37 ?_
              refine pz 4 38 #[T,T,T,T,T,F,F,F] HT_.1 ?_
              obtain ⟨we, hrun, hM2, hgr⟩ : ∃ w', (Instr.mapEntry 25 (.map (some bm)) (.agg #[.int .i64 y.f1.f0, .int .i64 y.f1.f1, .string y.f1.f2, .int .i64 0])).run Try.prog wd = .ok (.tuple #[.int .i64 (valM E (z0 y.f1)), .int .i64 (idxM E (z0 y.f1))]) w' ∧ MapM w' bm (touchM E (z0 y.f1)) ∧ wd.grownBy w' (some bm) := make_map HM.out (z0 y.f1)
              refine last_ (i := 5) (N := some 39) #[T,T,T,T,T,T,F,F] rfl rfl (one_of HT_.out (by kernel_rfl)) (by decide) (fun K hK => ?_)
              refine event_step (v := .tuple #[.int .i64 (valM E (z0 y.f1)), .int .i64 (idxM E (z0 y.f1))]) (w1 := we) rfl (by first | (go_simp; done) | (go_simp; with_reducible rfl)) ?_
              refine hK.out _ _ ?_
              clear hK K hrun
              refine nz 39 ?_
              refine pz 6 40 #[T,T,T,T,T,T,T,F] HT_.1 ?_
              obtain ⟨wf, hst, hM3, hgr2⟩ := put_map (z0 y.f1) hM2 (wrap64 (valM E (z0 y.f1) + 1))
              refine last_ (i := 7) (N := none) #[T,T,T,T,T,T,T,T] rfl rfl (one_of HT_.out (by kernel_rfl)) (by decide) (fun K hK => ?_)
              refine sz (w1 := wf) ?_ rfl rfl (by first | (go_simp; done) | (go_simp; rfl))
              refine hK.out _ _ ?_
              clear hK K hst
              replace SD := zA ((SD.out.map hgr NI.out LM.out).map hgr2 NI.out LM.out)
              replace HM := zA hM3
              clear hM2 hM3 hgr hgr2
              refine done_ (done_of HT_.out (by kernel_rfl)) ?_
              go_wp2
              go_roundg k1
              case measure => omega
              case rel => exact ⟨n + 1, _, _, _, by rw [Int.natCast_add]; rfl, ⟨c6⟩, ⟨by have := HQ.out; omega⟩, ⟨HG2.out, HC2.out⟩, SD, NI, HM⟩
            · skip
              obtain ⟨we, hrun, hM2, hgr⟩ : ∃ w', (Instr.mapEntry 25 (.map (some bm)) (.agg #[.int .i64 y.f1.f0, .int .i64 y.f1.f1, .string y.f1.f2, .int .i64 0])).run Try.prog wd = .ok (.tuple #[.int .i64 (valM E (z0 y.f1)), .int .i64 (idxM E (z0 y.f1))]) w' ∧ MapM w' bm (touchM E (z0 y.f1)) ∧ wd.grownBy w' (some bm) := make_map HM.out (z0 y.f1)
              refine event_step (v := .tuple #[.int .i64 (valM E (z0 y.f1)), .int .i64 (idxM E (z0 y.f1))]) (w1 := we) rfl (by first | (go_simp; done) | (go_simp; with_reducible rfl)) ?_
              refine hK.out _ _ ?_
              clear hK K hrun
              refine nz 39 ?_
              refine pz 6 40 #[T,T,T,F,F,T,T,F] HT_.1 ?_
              have hl : (Instr.lookup 25 (.map (some bm)) (.agg #[.int .i64 y.f1.f0, .int .i64 y.f1.f1, .string y.f1.f2, .int .i64 0]) false).run Try.prog we = .ok (.int .i64 (valM E (z0 y.f1))) we := by rw [← val_touch E (z0 y.f1) (z0 y.f1)]; exact look_run hM2 (z0 y.f1)
              refine one_keep (i := 3) (N := some 37) #[T,T,T,T,F,T,T,F] rfl rfl (one_of HT_.out (by kernel_rfl)) (fun K hK => ?_)
              refine event_step (v := .int .i64 (valM E (z0 y.f1))) (w1 := we) rfl (by first | (go_simp; done) | (go_simp; with_reducible rfl)) ?_
              refine hK.out _ _ id ?_
              clear hK K hl
              refine nz 37 ?_
              refine pz 4 38 #[T,T,T,T,T,T,T,F] HT_.1 ?_
              obtain ⟨wf, hst, hM3, hgr2⟩ := put_map (z0 y.f1) hM2 (wrap64 (valM E (z0 y.f1) + 1))
              refine last_ (i := 7) (N := none) #[T,T,T,T,T,T,T,T] rfl rfl (one_of HT_.out (by kernel_rfl)) (by decide) (fun K hK => ?_)
              refine sz (w1 := wf) ?_ rfl rfl (by first | (go_simp; done) | (go_simp; rfl))
              refine hK.out _ _ ?_
              clear hK K hst
              replace SD := zA ((SD.out.map hgr NI.out LM.out).map hgr2 NI.out LM.out)
              replace HM := zA hM3
              clear hM2 hM3 hgr hgr2
              refine done_ (done_of HT_.out (by kernel_rfl)) ?_
              go_wp2
              go_roundg k1
              case measure => omega
              case rel => exact ⟨n + 1, _, _, _, by rw [Int.natCast_add]; rfl, ⟨c6⟩, ⟨by have := HQ.out; omega⟩, ⟨HG2.out, HC2.out⟩, SD, NI, HM⟩
          · have HP := zA hp
            have tp : (putE m (z0 y.f1) == 0) = false := beq_eq_false_iff_ne.mpr hp
            have HC2 := zA (HC.out.le_ (m' := m) (fun _ => Nat.le_refl _))
            clear hp
            go_wp2_with (first | ((with_reducible refine gate_callee (f := 9) rfl ?_); refine zg (some 32) Try.func9 #[.pointer (some ⟨g, 0, none⟩), .agg #[.int .i64 y.f1.f0, .int .i64 y.f1.f1, .string y.f1.f2, .int .i64 0]] ?_; (with_reducible refine (side_put0 SD.out).mono ?_); rintro e w7 ⟨u2, rfl, hS, hT⟩; refine ⟨_, rfl, ?_⟩; rw [put_no_m HP.out] at hS; have h6 := hT.blk K6.out N6.out; have hm := hT.blk HM.out NI.out; replace K6 := zA h6.1; replace NI := zA hm.2; replace HM := zA (show MapM _ bm E from hm.1); replace SD := zA hS; clear hS hT h6 hm) | fail)
            go_roundg k1
            case measure => omega
            case rel => exact ⟨n + 1, _, _, _, by rw [Int.natCast_add]; rfl, ⟨c6⟩, ⟨by have := HQ.out; omega⟩, ⟨HG.out, HC2.out⟩, SD, NI, HM⟩
        | false =>
          rw [hb] at x0
          go_upto_region 13 with fail
          clear x0 x1 x2 x3 x4 x5 x6 x7
          have K6 := zA (blk_new wr (.cells #[.bool false, .int .i64 y.f1.f0, .int .i64 y.f1.f1, .string y.f1.f2, .int .i64 y.f1.f3, .int .i64 y.f2.f0, .int .i64 y.f2.f1, .int .i64 y.f2.f2] 31))
          have N6 := zA (SD.out.new (Nat.le_refl _))
          have B6 := zA (show bm ≠ wr.heap.size from Nat.ne_of_lt (blk_lt HM.out))
          replace SD := zA (SD.out.bel (below_alloc (Below.refl _ _) (.cells #[.bool false, .int .i64 y.f1.f0, .int .i64 y.f1.f1, .string y.f1.f2, .int .i64 y.f1.f3, .int .i64 y.f2.f0, .int .i64 y.f2.f1, .int .i64 y.f2.f2] 31)))
          replace HM := zA (HM.out.bel (below_alloc (Below.refl _ _) (.cells #[.bool false, .int .i64 y.f1.f0, .int .i64 y.f1.f1, .string y.f1.f2, .int .i64 y.f1.f3, .int .i64 y.f2.f0, .int .i64 y.f2.f1, .int .i64 y.f2.f2] 31)))
          generalize wr.alloc (.cells #[.bool false, .int .i64 y.f1.f0, .int .i64 y.f1.f1, .string y.f1.f2, .int .i64 y.f1.f3, .int .i64 y.f2.f0, .int .i64 y.f2.f1, .int .i64 y.f2.f2] 31) = w6 at SD HM K6 ⊢
          generalize wr.heap.size = G6 at K6 N6 B6 ⊢
          have c6_5 := (bC K6.out 5).trans rfl
          have c6_6 := (bC K6.out 6).trans rfl
          have c6_7 := (bC K6.out 7).trans rfl
          obtain ⟨⟨m', z, x⟩, hr⟩ : ∃ r, doR m y.f2.f0 y.f2.f1 y.f2.f2 = r := ⟨_, rfl⟩
          have hg' := HG.out.doR y.f2.f0 y.f2.f1 y.f2.f2
          rw [hr] at hg'
          have HG2 := zA hg'
          have HRR := zA hr
          clear hr hg'
          go_upto_region 15 with (first | ((with_reducible refine gate_callee (f := 10) rfl ?_); refine zg (some 42) Try.func10 #[.pointer (some ⟨g, 0, none⟩)] ?_; (with_reducible refine (all_fl SD.out.fl HG.out.len).mono ?_); rintro e w7 ⟨v, rfl, ho, hb⟩; refine ⟨_, rfl, ?_⟩; have NR := zA (fun k hk => SD.out.new (own_base (R27.1 ho).2 k hk)); have RA := zA (Kd.R_lower ho SD.out.below.size); replace SD := zA (SD.out.bel hb); replace HM := zA (HM.out.bel hb); replace K6 := zA (blk_below K6.out hb); clear ho hb; obtain ⟨A9, c9, rfl⟩ := Kd.R_slice RA.out; have c6_5 := (bC K6.out 5).trans rfl; have c6_6 := (bC K6.out 6).trans rfl; have c6_7 := (bC K6.out 7).trans rfl) | ((with_reducible refine gate_callee (f := 11) rfl ?_); refine zg (some 47) Try.func11 #[.pointer (some ⟨g, 0, none⟩), .agg #[.int .i64 y.f2.f0, .int .i64 y.f2.f1, .int .i64 y.f2.f2]] ?_; (with_reducible refine (side_do HRR.out HG.out SD.out).mono ?_); rintro e w8 ⟨u3, rfl, hS, hT⟩; refine ⟨_, rfl, ?_⟩; replace RA := zA (hT.row RA.out NR.out); have h6 := hT.blk K6.out N6.out; have hm := hT.blk HM.out NI.out; replace K6 := zA h6.1; replace NI := zA hm.2; replace HM := zA (show MapM _ bm E from hm.1); replace SD := zA hS; clear hS hT h6 hm))
          have K8 := zA (blk_new w8 (.cells #[.int .i64 z.f0, .int .i64 z.f1, .string z.f2, .int .i64 z.f3] 27))
          have N8 := zA (SD.out.new (Nat.le_refl _))
          have B8 := zA (show bm ≠ w8.heap.size from Nat.ne_of_lt (blk_lt HM.out))
          have NE6_8 := zA (show G6 ≠ w8.heap.size from Nat.ne_of_lt (blk_lt K6.out))
          replace K6 := zA (blk_below K6.out (below_alloc (Below.refl _ _) (.cells #[.int .i64 z.f0, .int .i64 z.f1, .string z.f2, .int .i64 z.f3] 27)))
          replace RA := zA (Kd.R_below RA.out (below_alloc (Below.refl _ _) (.cells #[.int .i64 z.f0, .int .i64 z.f1, .string z.f2, .int .i64 z.f3] 27)))
          replace SD := zA (SD.out.bel (below_alloc (Below.refl _ _) (.cells #[.int .i64 z.f0, .int .i64 z.f1, .string z.f2, .int .i64 z.f3] 27)))
          replace HM := zA (HM.out.bel (below_alloc (Below.refl _ _) (.cells #[.int .i64 z.f0, .int .i64 z.f1, .string z.f2, .int .i64 z.f3] 27)))
          generalize w8.alloc (.cells #[.int .i64 z.f0, .int .i64 z.f1, .string z.f2, .int .i64 z.f3] 27) = wa at SD HM K8 K6 RA ⊢
          generalize w8.heap.size = G8 at K8 N8 B8 NE6_8 ⊢
          have n68 := NE6_8.out
          have c6_5 := (bC K6.out 5).trans rfl
          have c6_6 := (bC K6.out 6).trans rfl
          have c6_7 := (bC K6.out 7).trans rfl
          have c8_0 := (bC K8.out 0).trans rfl
          have c8_1 := (bC K8.out 1).trans rfl
          have c8_2 := (bC K8.out 2).trans rfl
          have c8_3 := (bC K8.out 3).trans rfl
          by_cases hx : x = 0
          · subst hx
            by_cases h3 : y.f2.f0 = 3
            · have e3 : (y.f2.f0 == 3) = true := beq_iff_eq.mpr h3
              have hr3 := HRR.out
              rw [h3] at hr3
              obtain ⟨s, hs, hi, rfl⟩ : ∃ s, m[y.f2.f1.toNat]? = some s ∧ y.f2.f1 = ((y.f2.f1.toNat : Nat) : Int) ∧ m' = m ++ [s] := (do_double HG.out hr3).elim (fun h => absurd rfl h.1) (fun h => h.2)
              obtain ⟨i, hii⟩ : ∃ i, i = y.f2.f1.toNat := ⟨_, rfl⟩
              rw [← hii] at hs hi
              have hil := lt_y hs
              rw [hi] at c6_6
              have p0 : (0 ≤ (i : Int)) = True := eq_true (by omega)
              have p1 : ((i : Int) < (m.length : Int)) = True := eq_true (by omega)
              obtain ⟨br, cr, hvr, ⟨r0, r1, r2, r3⟩, _⟩ := row_y RA.out hs
              cases hvr
              have HC2 := zA (HC.out.put hn62 s)
              clear hr3 hs hi hii hil h3
              go_upto_region 20 with fail
              clear r0 r1 r2 r3
              have K10 := zA (blk_new wa (.cells #[.int .i64 s.f0, .int .i64 s.f1, .string s.f2, .int .i64 0] 27))
              have N10 := zA (SD.out.new (Nat.le_refl _))
              have B10 := zA (show bm ≠ wa.heap.size from Nat.ne_of_lt (blk_lt HM.out))
              replace SD := zA (SD.out.bel (below_alloc (Below.refl _ _) (.cells #[.int .i64 s.f0, .int .i64 s.f1, .string s.f2, .int .i64 0] 27)))
              replace HM := zA (HM.out.bel (below_alloc (Below.refl _ _) (.cells #[.int .i64 s.f0, .int .i64 s.f1, .string s.f2, .int .i64 0] 27)))
              generalize wa.alloc (.cells #[.int .i64 s.f0, .int .i64 s.f1, .string s.f2, .int .i64 0] 27) = wb at SD HM K10 ⊢
              generalize wa.heap.size = G10 at K10 N10 B10 ⊢
              have d0 := (bC K10.out 0).trans rfl
              have d1 := (bC K10.out 1).trans rfl
              have d2 := (bC K10.out 2).trans rfl
              have d3 := (bC K10.out 3).trans rfl
              refine start_ (n := 7) (S := fun w' => w'.cell? ⟨G10, 0, none⟩ = some (.int .i64 s.f0) ∧ w'.cell? ⟨G10, 1, none⟩ = some (.int .i64 s.f1) ∧ w'.cell? ⟨G10, 2, none⟩ = some (.string s.f2) ∧ w'.cell? ⟨G10, 3, none⟩ = some (.int .i64 0)) (ds := [4, 6]) #[F,F,F,F,F,F,F] (by kernel_rfl) rfl rfl ⟨d0, d1, d2, d3⟩ (fun hHeld => ?_)
              refine with_tabW nth.tab20 nth.bits20 (fun HT_ HW_ => ?_)
              clear d0 d1 d2 d3
              replace SD := zA SD.out.drew
              replace HM := zA (show MapM wb.drew bm E from HM.out)
              generalize wb.drew = wd at SD HM hHeld ⊢
              refine pz 0 64 #[T,F,F,F,F,F,F] HT_.1 ?_
              refine tz 1 65 #[T,T,F,F,F,F,F] HT_.1 HW_.1 hHeld ?_
              refine two_last (i := 2) (j := 4) (Ni := some 66) (Nj := some 68) #[T,T,T,F,F,F,F] #[T,T,F,F,T,F,F] rfl rfl rfl rfl (by rw [ready_eq, HT_.out]; kernel_rfl) (by decide) (by decide) (fun K hK => ?_) (fun K hK => ?_)
              · skip
                have hl : (Instr.lookup 25 (.map (some bm)) (.agg #[.int .i64 s.f0, .int .i64 s.f1, .string s.f2, .int .i64 0]) false).run Try.prog wd = .ok (.int .i64 (valM E (z0 s))) wd := look_run HM.out (z0 s)
                refine event_step (v := .int .i64 (valM E (z0 s))) (w1 := wd) rfl (by first | (go_simp; done) | (go_simp; with_reducible rfl)) ?_
                refine hK.out _ _ hHeld (fun hHeld => ?_)
                clear hK K hl
                refine nz 66 ?_
                refine pz 3 67 #[T,T,T,T,F,F,F] HT_.1 ?_
                obtain ⟨we, hrun, hM2, hgr⟩ : ∃ w', (Instr.mapEntry 25 (.map (some bm)) (.agg #[.int .i64 s.f0, .int .i64 s.f1, .string s.f2, .int .i64 0])).run Try.prog wd = .ok (.tuple #[.int .i64 (valM E (z0 s)), .int .i64 (idxM E (z0 s))]) w' ∧ MapM w' bm (touchM E (z0 s)) ∧ wd.grownBy w' (some bm) := make_map HM.out (z0 s)
                refine last_ (i := 4) (N := some 68) #[T,T,T,T,T,F,F] rfl rfl (one_of HT_.out (by kernel_rfl)) (by decide) (fun K hK => ?_)
                refine event_step (v := .tuple #[.int .i64 (valM E (z0 s)), .int .i64 (idxM E (z0 s))]) (w1 := we) rfl (by first | (go_simp; done) | (go_simp; with_reducible rfl)) ?_
                refine hK.out _ _ ?_
                clear hK K hrun
                refine nz 68 ?_
                refine pz 5 69 #[T,T,T,T,T,T,F] HT_.1 ?_
                obtain ⟨wf, hst, hM3, hgr2⟩ := put_map (z0 s) hM2 (wrap64 (valM E (z0 s) + 1))
                refine last_ (i := 6) (N := none) #[T,T,T,T,T,T,T] rfl rfl (one_of HT_.out (by kernel_rfl)) (by decide) (fun K hK => ?_)
                refine sz (w1 := wf) ?_ rfl rfl (by first | (go_simp; done) | (go_simp; rfl))
                refine hK.out _ _ ?_
                clear hK K hst
                replace SD := zA ((SD.out.map hgr NI.out LM.out).map hgr2 NI.out LM.out)
                replace HM := zA hM3
                clear hM2 hM3 hgr hgr2
                refine done_ (done_of HT_.out (by kernel_rfl)) ?_
                go_wp2
                go_roundg k1
                case measure => omega
                case rel => exact ⟨n + 1, _, _, _, by rw [Int.natCast_add]; rfl, ⟨c6⟩, ⟨by have := HQ.out; omega⟩, ⟨HG2.out, HC2.out⟩, SD, NI, HM⟩
              · skip
                obtain ⟨we, hrun, hM2, hgr⟩ : ∃ w', (Instr.mapEntry 25 (.map (some bm)) (.agg #[.int .i64 s.f0, .int .i64 s.f1, .string s.f2, .int .i64 0])).run Try.prog wd = .ok (.tuple #[.int .i64 (valM E (z0 s)), .int .i64 (idxM E (z0 s))]) w' ∧ MapM w' bm (touchM E (z0 s)) ∧ wd.grownBy w' (some bm) := make_map HM.out (z0 s)
                refine event_step (v := .tuple #[.int .i64 (valM E (z0 s)), .int .i64 (idxM E (z0 s))]) (w1 := we) rfl (by first | (go_simp; done) | (go_simp; with_reducible rfl)) ?_
                refine hK.out _ _ ?_
                clear hK K hrun
                refine nz 68 ?_
                refine pz 5 69 #[T,T,F,F,T,T,F] HT_.1 ?_
                have hl : (Instr.lookup 25 (.map (some bm)) (.agg #[.int .i64 s.f0, .int .i64 s.f1, .string s.f2, .int .i64 0]) false).run Try.prog we = .ok (.int .i64 (valM E (z0 s))) we := by rw [← val_touch E (z0 s) (z0 s)]; exact look_run hM2 (z0 s)
                refine one_keep (i := 2) (N := some 66) #[T,T,T,F,T,T,F] rfl rfl (one_of HT_.out (by kernel_rfl)) (fun K hK => ?_)
                refine event_step (v := .int .i64 (valM E (z0 s))) (w1 := we) rfl (by first | (go_simp; done) | (go_simp; with_reducible rfl)) ?_
                refine hK.out _ _ id ?_
                clear hK K hl
                refine nz 66 ?_
                refine pz 3 67 #[T,T,T,T,T,T,F] HT_.1 ?_
                obtain ⟨wf, hst, hM3, hgr2⟩ := put_map (z0 s) hM2 (wrap64 (valM E (z0 s) + 1))
                refine last_ (i := 6) (N := none) #[T,T,T,T,T,T,T] rfl rfl (one_of HT_.out (by kernel_rfl)) (by decide) (fun K hK => ?_)
                refine sz (w1 := wf) ?_ rfl rfl (by first | (go_simp; done) | (go_simp; rfl))
                refine hK.out _ _ ?_
                clear hK K hst
                replace SD := zA ((SD.out.map hgr NI.out LM.out).map hgr2 NI.out LM.out)
                replace HM := zA hM3
                clear hM2 hM3 hgr hgr2
                refine done_ (done_of HT_.out (by kernel_rfl)) ?_
                go_wp2
                go_roundg k1
                case measure => omega
                case rel => exact ⟨n + 1, _, _, _, by rw [Int.natCast_add]; rfl, ⟨c6⟩, ⟨by have := HQ.out; omega⟩, ⟨HG2.out, HC2.out⟩, SD, NI, HM⟩
            · have e3 : (y.f2.f0 == 3) = false := beq_eq_false_iff_ne.mpr h3
              by_cases h1 : y.f2.f0 = 1
              · have e1 : (y.f2.f0 == 1) = true := beq_iff_eq.mpr h1
                have hr1 := HRR.out
                rw [h1] at hr1
                obtain ⟨s, hs, hm', hz0⟩ : ∃ s : Nat, m[s]? = some z ∧ m' = m.eraseIdx s ∧ z0 z = z := (do_take0 HG.out hr1).elim (fun h => absurd rfl h) (fun h => h.2)
                have hcc := HC.out.take hn62 hs hz0
                rw [← hm'] at hcc
                have HC2 := zA hcc.2
                have v1 : (valM E z == 0) = false := beq_eq_false_iff_ne.mpr (by have := hcc.1; omega)
                have hl : (Instr.lookup 25 (.map (some bm)) (.agg #[.int .i64 z.f0, .int .i64 z.f1, .string z.f2, .int .i64 z.f3]) false).run Try.prog wa = .ok (.int .i64 (valM E z)) wa := look_run HM.out z
                clear hr1 hs hm' hz0 hcc h1 h3
                go_upto_region 24 with fail
                clear hl v1
                have d0 := (bC K8.out 0).trans rfl
                have d1 := (bC K8.out 1).trans rfl
                have d2 := (bC K8.out 2).trans rfl
                have d3 := (bC K8.out 3).trans rfl
                refine start_ (n := 7) (S := fun w' => w'.cell? ⟨G8, 0, none⟩ = some (.int .i64 z.f0) ∧ w'.cell? ⟨G8, 1, none⟩ = some (.int .i64 z.f1) ∧ w'.cell? ⟨G8, 2, none⟩ = some (.string z.f2) ∧ w'.cell? ⟨G8, 3, none⟩ = some (.int .i64 z.f3)) (ds := [4, 6]) #[F,F,F,F,F,F,F] (by kernel_rfl) rfl rfl ⟨d0, d1, d2, d3⟩ (fun hHeld => ?_)
                refine with_tabW nth.tab24 nth.bits24 (fun HT_ HW_ => ?_)
                clear d0 d1 d2 d3
                replace SD := zA SD.out.drew
                replace HM := zA (show MapM wa.drew bm E from HM.out)
                generalize wa.drew = wd at SD HM hHeld ⊢
                refine pz 0 76 #[T,F,F,F,F,F,F] HT_.1 ?_
                refine tz 1 77 #[T,T,F,F,F,F,F] HT_.1 HW_.1 hHeld ?_
                refine two_last (i := 2) (j := 4) (Ni := some 78) (Nj := some 80) #[T,T,T,F,F,F,F] #[T,T,F,F,T,F,F] rfl rfl rfl rfl (by rw [ready_eq, HT_.out]; kernel_rfl) (by decide) (by decide) (fun K hK => ?_) (fun K hK => ?_)
                · skip
                  have hl : (Instr.lookup 25 (.map (some bm)) (.agg #[.int .i64 z.f0, .int .i64 z.f1, .string z.f2, .int .i64 z.f3]) false).run Try.prog wd = .ok (.int .i64 (valM E (z))) wd := look_run HM.out (z)
                  refine event_step (v := .int .i64 (valM E (z))) (w1 := wd) rfl (by first | (go_simp; done) | (go_simp; with_reducible rfl)) ?_
                  refine hK.out _ _ hHeld (fun hHeld => ?_)
                  clear hK K hl
                  refine nz 78 ?_
                  refine pz 3 79 #[T,T,T,T,F,F,F] HT_.1 ?_
                  obtain ⟨we, hrun, hM2, hgr⟩ : ∃ w', (Instr.mapEntry 25 (.map (some bm)) (.agg #[.int .i64 z.f0, .int .i64 z.f1, .string z.f2, .int .i64 z.f3])).run Try.prog wd = .ok (.tuple #[.int .i64 (valM E (z)), .int .i64 (idxM E (z))]) w' ∧ MapM w' bm (touchM E (z)) ∧ wd.grownBy w' (some bm) := make_map HM.out (z)
                  refine last_ (i := 4) (N := some 80) #[T,T,T,T,T,F,F] rfl rfl (one_of HT_.out (by kernel_rfl)) (by decide) (fun K hK => ?_)
                  refine event_step (v := .tuple #[.int .i64 (valM E (z)), .int .i64 (idxM E (z))]) (w1 := we) rfl (by first | (go_simp; done) | (go_simp; with_reducible rfl)) ?_
                  refine hK.out _ _ ?_
                  clear hK K hrun
                  refine nz 80 ?_
                  refine pz 5 81 #[T,T,T,T,T,T,F] HT_.1 ?_
                  obtain ⟨wf, hst, hM3, hgr2⟩ := put_map (z) hM2 (wrap64 (valM E (z) - 1))
                  refine last_ (i := 6) (N := none) #[T,T,T,T,T,T,T] rfl rfl (one_of HT_.out (by kernel_rfl)) (by decide) (fun K hK => ?_)
                  refine sz (w1 := wf) ?_ rfl rfl (by first | (go_simp; done) | (go_simp; rfl))
                  refine hK.out _ _ ?_
                  clear hK K hst
                  replace SD := zA ((SD.out.map hgr NI.out LM.out).map hgr2 NI.out LM.out)
                  replace HM := zA hM3
                  clear hM2 hM3 hgr hgr2
                  refine done_ (done_of HT_.out (by kernel_rfl)) ?_
                  go_wp2
                  go_roundg k1
                  case measure => omega
                  case rel => exact ⟨n + 1, _, _, _, by rw [Int.natCast_add]; rfl, ⟨c6⟩, ⟨by have := HQ.out; omega⟩, ⟨HG2.out, HC2.out⟩, SD, NI, HM⟩
                · skip
                  obtain ⟨we, hrun, hM2, hgr⟩ : ∃ w', (Instr.mapEntry 25 (.map (some bm)) (.agg #[.int .i64 z.f0, .int .i64 z.f1, .string z.f2, .int .i64 z.f3])).run Try.prog wd = .ok (.tuple #[.int .i64 (valM E (z)), .int .i64 (idxM E (z))]) w' ∧ MapM w' bm (touchM E (z)) ∧ wd.grownBy w' (some bm) := make_map HM.out (z)
                  refine event_step (v := .tuple #[.int .i64 (valM E (z)), .int .i64 (idxM E (z))]) (w1 := we) rfl (by first | (go_simp; done) | (go_simp; with_reducible rfl)) ?_
                  refine hK.out _ _ ?_
                  clear hK K hrun
                  refine nz 80 ?_
                  refine pz 5 81 #[T,T,F,F,T,T,F] HT_.1 ?_
                  have hl : (Instr.lookup 25 (.map (some bm)) (.agg #[.int .i64 z.f0, .int .i64 z.f1, .string z.f2, .int .i64 z.f3]) false).run Try.prog we = .ok (.int .i64 (valM E (z))) we := by rw [← val_touch E (z) (z)]; exact look_run hM2 (z)
                  refine one_keep (i := 2) (N := some 78) #[T,T,T,F,T,T,F] rfl rfl (one_of HT_.out (by kernel_rfl)) (fun K hK => ?_)
                  refine event_step (v := .int .i64 (valM E (z))) (w1 := we) rfl (by first | (go_simp; done) | (go_simp; with_reducible rfl)) ?_
                  refine hK.out _ _ id ?_
                  clear hK K hl
                  refine nz 78 ?_
                  refine pz 3 79 #[T,T,T,T,T,T,F] HT_.1 ?_
                  obtain ⟨wf, hst, hM3, hgr2⟩ := put_map (z) hM2 (wrap64 (valM E (z) - 1))
                  refine last_ (i := 6) (N := none) #[T,T,T,T,T,T,T] rfl rfl (one_of HT_.out (by kernel_rfl)) (by decide) (fun K hK => ?_)
                  refine sz (w1 := wf) ?_ rfl rfl (by first | (go_simp; done) | (go_simp; rfl))
                  refine hK.out _ _ ?_
                  clear hK K hst
                  replace SD := zA ((SD.out.map hgr NI.out LM.out).map hgr2 NI.out LM.out)
                  replace HM := zA hM3
                  clear hM2 hM3 hgr hgr2
                  refine done_ (done_of HT_.out (by kernel_rfl)) ?_
                  go_wp2
                  go_roundg k1
                  case measure => omega
                  case rel => exact ⟨n + 1, _, _, _, by rw [Int.natCast_add]; rfl, ⟨c6⟩, ⟨by have := HQ.out; omega⟩, ⟨HG2.out, HC2.out⟩, SD, NI, HM⟩
              · have e1 : (y.f2.f0 == 1) = false := beq_eq_false_iff_ne.mpr h1
                have HC2 := zA (HC.out.le_ (do_le HRR.out h3))
                clear h1 h3
                go_wp2
                go_roundg k1
                case measure => omega
                case rel => exact ⟨n + 1, _, _, _, by rw [Int.natCast_add]; rfl, ⟨c6⟩, ⟨by have := HQ.out; omega⟩, ⟨HG2.out, HC2.out⟩, SD, NI, HM⟩
          · have ex : (x != 0) = true := by simpa using hx
            have HC2 := zA (show Cnt m' E (n + 1) from HC.out.le_ (fun k => by
              by_cases h3 : y.f2.f0 = 3
              · have hr3 := HRR.out
                rw [h3] at hr3
                rcases do_double HG.out hr3 with ⟨_, e⟩ | ⟨e, _⟩
                · rw [e]; exact Nat.le_refl _
                · exact absurd e hx
              · exact do_le HRR.out h3 k))
            clear hx
            go_wp2
            go_roundg k1
            case measure => omega
            case rel => exact ⟨n + 1, _, _, _, by rw [Int.natCast_add]; rfl, ⟨c6⟩, ⟨by have := HQ.out; omega⟩, ⟨HG2.out, HC2.out⟩, SD, NI, HM⟩
      · have t1 : decide ((n : Int) < (l1.length : Int)) = false := decide_eq_false (by omega)
        have t2 : decide (n < l1.length) = false := decide_eq_false c6
        have HB := zA SD.out.below
        clear c6
        go_wp2_with (first | ((with_reducible refine gate_callee (f := 12) rfl ?_); refine zg (some 82) Try.func12 #[] ?_; (with_reducible refine (awake_calls).mono ?_); rintro e w4 ⟨rfl, hb⟩; refine ⟨_, rfl, ?_⟩; replace HB := zS HB hb; clear hb) | fail)
        go_ret
        exact ⟨rfl, HB.out⟩
def lawNothing (l1 : List S31) : Option Bool := if l1.length < 4611686018427387904 then some true else none
theorem lawNothing_calls (hC1 : Kd.C k31 w A1 l1.length l1) (hc1 : l1.length ≤ c1) (h : lawNothing l1 = some true) : Calls Try.prog 3 #[.slice A1 l1.length c1] w fun e w' => e = .returned (.bool true) ∧ Below w.heap.size w w' := by
  unfold lawNothing at h
  split at h
  · rename_i hl
    exact nothing_calls hl hC1 hc1
  · cases h
end
end Go.Proofs.Ytpcipmhblknokaa.Ch
/- Go functions of this seat as Lean functions, with proofs that the calls come to them. (Written by xprint.py, a program of this session, over the kit's print.) -/
namespace Go.Proofs.Ytpcipmhblknokaa.XC
open Go.RowKit Go.Proofs.YtpcipmhblknokaaW.PrintWords Go.Proofs.YtpcipmhblknokaaW.PrintLast Go.Proofs.YtpcipmhblknokaaW.PrintMore
attribute [local go_sem] max2_int min2_int max_two min_two max_three min_three max_four min_four   -- for this text's walks alone
set_option linter.unusedVariables false
set_option linter.unusedSimpArgs false
open List renaming setIfInBounds_toArray → xA, set_cons_zero → xB, set_cons_succ → xC
open Go.Proofs.YtpcipmhblknokaaW.PrintWords renaming blk_drewN → bN, blk_drew → bD, blk_alloc → bA, below_set → bS, blk_frozen → bF, blk_cell → bC, cell_far → cF, blk_far → bZ, blk_below → bB, pw_below_drewN → bwN, below_drew1 → bw1, below_alloc → bwA
open Go.Proofs.YtpcipmhblknokaaW.PrintZ
open Bool renaming true → T,false → F

/-! ### beaconlaw11_ChannelNothing: function 3 -/
def beaconlaw11_ChannelNothing.f (l0 : List S31) : Option Bool := Go.Proofs.Ytpcipmhblknokaa.Ch.lawNothing l0
theorem beaconlaw11_ChannelNothing.calls (A0 : Option Addr) (c0 : Nat) (l0 : List S31) (r : Bool) (w : World) (hr0 : Kd.C k31 w A0 l0.length l0) (hc0 : l0.length ≤ c0) (h : beaconlaw11_ChannelNothing.f l0 = some r) (hr_ : r = true) :
  Calls Try.prog 3 #[.slice A0 l0.length c0] w fun e w' => e = .returned (.bool r) ∧ Below w.heap.size w w':=by
 subst hr_;exact Go.Proofs.Ytpcipmhblknokaa.Ch.lawNothing_calls hr0 hc0 h

end Go.Proofs.Ytpcipmhblknokaa.XC
