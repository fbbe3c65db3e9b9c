/- TableRoom: the flag comes only where what is kept fills the room, and is never taken back; what is kept is kept again. -/
import Derived.Test.YtgmjlhpigfaicaaSTableRoom
import Derived.Test.YtgmjlhpigfaicaaTA
namespace Go.Proofs.Ytgmjlhpigfaicaa.Pure
open Go.RowKit Go.Proofs.YtgmjlhpigfaicaaW.PrintWords Go.Proofs.Ytgmjlhpigfaicaa.XA

theorem kp_sub (l : List S39) : ∀ (xs : List S39) (r : Int) (ov : Bool), ((kp l xs r ov).1).Sublist xs
  | [], _, _ => List.Sublist.slnil
  | x :: xs, r, ov => by
    unfold kp
    by_cases c : hb l x.f0 x.f1 = true
    · rw [if_pos c]; exact List.Sublist.cons_cons x (kp_sub l xs r ov)
    · rw [if_neg c]
      by_cases c2 : r ≤ 0
      · rw [if_pos c2]; exact List.Sublist.cons x (kp_sub l xs r true)
      · rw [if_neg c2]; exact List.Sublist.cons_cons x (kp_sub l xs (r - 1) ov)
theorem kp_true (l : List S39) : ∀ (xs : List S39) (r : Int), (kp l xs r true).2 = true
  | [], _ => rfl
  | x :: xs, r => by
    unfold kp
    by_cases c : hb l x.f0 x.f1 = true
    · rw [if_pos c]; exact kp_true l xs r
    · rw [if_neg c]
      by_cases c2 : r ≤ 0
      · rw [if_pos c2]; exact kp_true l xs r
      · rw [if_neg c2]; exact kp_true l xs (r - 1)
theorem kp_drop (l : List S39) : ∀ (xs : List S39) (r : Int) (ov : Bool), (kp l xs r ov).1.length < xs.length → (kp l xs r ov).2 = true
  | [], _, _, h => absurd h (Nat.lt_irrefl _)
  | x :: xs, r, ov, h => by
    unfold kp at h ⊢
    by_cases c : hb l x.f0 x.f1 = true
    · rw [if_pos c] at h ⊢
      exact kp_drop l xs r ov (by simp only [List.length_cons] at h; omega)
    · rw [if_neg c] at h ⊢
      by_cases c2 : r ≤ 0
      · rw [if_pos c2] at h ⊢; exact kp_true l xs r
      · rw [if_neg c2] at h ⊢
        exact kp_drop l xs (r - 1) ov (by simp only [List.length_cons] at h; omega)
theorem kp_whole (l : List S39) : ∀ (xs : List S39) (r : Int) (ov : Bool), ¬ (kp l xs r ov).1.length < xs.length → (kp l xs r ov).2 = ov
  | [], _, _, _ => rfl
  | x :: xs, r, ov, h => by
    have h1 := kp_len l xs r true
    unfold kp at h ⊢
    by_cases c : hb l x.f0 x.f1 = true
    · rw [if_pos c] at h ⊢
      exact kp_whole l xs r ov (by simp only [List.length_cons] at h; omega)
    · rw [if_neg c] at h ⊢
      by_cases c2 : r ≤ 0
      · rw [if_pos c2] at h
        simp only [List.length_cons] at h
        omega
      · rw [if_neg c2] at h ⊢
        exact kp_whole l xs (r - 1) ov (by simp only [List.length_cons] at h; omega)
theorem kp_cnt (l : List S39) : ∀ (xs : List S39) (r : Int) (ov : Bool), cnt l xs ≤ (kp l xs r ov).1.length
  | [], _, _ => Nat.le_refl _
  | x :: xs, r, ov => by
    have h1 := kp_cnt l xs r ov
    have h2 := kp_cnt l xs r true
    have h3 := kp_cnt l xs (r - 1) ov
    unfold kp cnt
    by_cases c : hb l x.f0 x.f1 = true
    · rw [if_pos c, if_pos c]; simp only [List.length_cons]; omega
    · rw [if_neg c, if_neg c]
      by_cases c2 : r ≤ 0
      · rw [if_pos c2]; omega
      · rw [if_neg c2]; simp only [List.length_cons]; omega
theorem kp_fill (l : List S39) : ∀ (xs : List S39) (r : Int) (ov : Bool), (kp l xs r ov).1.length < xs.length → (cnt l xs : Int) + r ≤ (kp l xs r ov).1.length
  | [], _, _, h => absurd h (Nat.lt_irrefl _)
  | x :: xs, r, ov, h => by
    unfold kp at h ⊢
    unfold cnt
    by_cases c : hb l x.f0 x.f1 = true
    · rw [if_pos c] at h ⊢
      rw [if_pos c]
      have := kp_fill l xs r ov (by simp only [List.length_cons] at h; omega)
      simp only [List.length_cons]
      omega
    · rw [if_neg c] at h ⊢
      rw [if_neg c]
      by_cases c2 : r ≤ 0
      · rw [if_pos c2]
        have := kp_cnt l xs r true
        omega
      · rw [if_neg c2] at h ⊢
        have := kp_fill l xs (r - 1) ov (by simp only [List.length_cons] at h; omega)
        simp only [List.length_cons]
        omega
theorem kp_all (m : List S39) : ∀ (xs : List S39) (r : Int) (ov : Bool), (∀ x ∈ xs, hb m x.f0 x.f1 = true) → kp m xs r ov = (xs, ov)
  | [], _, _, _ => rfl
  | x :: xs, r, ov, h => by
    unfold kp
    rw [if_pos (h x (List.mem_cons_self ..)), kp_all m xs r ov (fun y hy => h y (List.mem_cons_of_mem _ hy))]
theorem kp_neg (m : List S39) : ∀ (xs : List S39) (r : Int), r ≤ 0 → (kp m xs r true).1 = xs.filter (fun x => hb m x.f0 x.f1)
  | [], _, _ => rfl
  | x :: xs, r, hr => by
    unfold kp
    rw [List.filter_cons]
    by_cases c : hb m x.f0 x.f1 = true
    · rw [if_pos c, if_pos c, kp_neg m xs r hr]
    · rw [if_neg c, if_neg c, if_pos hr, kp_neg m xs r hr]
theorem cnt_filter (m : List S39) : ∀ xs : List S39, cnt m xs = (xs.filter (fun x => hb m x.f0 x.f1)).length
  | [] => rfl
  | x :: xs => by
    unfold cnt
    rw [List.filter_cons, cnt_filter m xs]
    by_cases c : hb m x.f0 x.f1 = true
    · rw [if_pos c, if_pos c, List.length_cons]; omega
    · rw [if_neg c, if_neg c]; omega
theorem hb_cons (x : S39) (m : List S39) (d k : Int) : hb (x :: m) d k = (decide (x.f1 = k ∧ x.f0 = d) || hb m d k) := rfl
theorem hb_not {m : List S39} {x : S39} (h : ∀ y ∈ m, ltE x y = true) : hb m x.f0 x.f1 = false := by
  rw [Bool.eq_false_iff]
  intro hh
  obtain ⟨j, y, hj, e1, e0⟩ := (hb_iff _ _ _).mp hh
  have := h y (List.mem_iff_getElem?.mpr ⟨j, hj⟩)
  unfold ltE at this
  rw [decide_eq_true_eq] at this
  omega
theorem filter_sub : ∀ (now n : List S39), n.Sublist now → now.Pairwise (fun x y => ltE x y = true) → now.filter (fun x => hb n x.f0 x.f1) = n
  | [], n, h, _ => by
    rw [List.sublist_nil.mp h]
    rfl
  | x :: xs, n, h, hp => by
    obtain ⟨hp1, hp2⟩ := List.pairwise_cons.mp hp
    rw [List.filter_cons]
    cases h with
    | cons _ h =>
      rw [hb_not (fun y hy => hp1 y (h.subset hy)), if_neg (by decide)]
      exact filter_sub xs n h hp2
    | cons_cons _ h =>
      rename_i n'
      rw [hb_cons, decide_eq_true ⟨rfl, rfl⟩, Bool.true_or, if_pos rfl]
      congr 1
      rw [← filter_sub xs n' h hp2]
      rw [filter_sub xs n' h hp2]
      refine Eq.trans (List.filter_congr ?_) (filter_sub xs n' h hp2)
      intro y hy
      have := hp1 y hy
      unfold ltE at this
      rw [decide_eq_true_eq] at this
      rw [hb_cons, decide_eq_false (by omega), Bool.false_or]
theorem mayb_sub {now n : List S39} (h : n.Sublist now) (hm : mayb now = true) : mayb n = true := by
  obtain ⟨_, h1, h2⟩ := may_pair now none hm
  exact pair_may n none (fun y hy => by cases hy) (h1.sublist h) (fun x hx => h2 x (h.subset hx))
/-- What is kept is kept again. -/
theorem again (l : List S39) (b : Bool) (now : List S39) (room : Int) (hl : mayb l = true) (hn : mayb now = true) (hr : 0 ≤ room) :
    keepS (keepS l b now room).1 (keepS l b now room).2.1 now room = ((keepS l b now room).1, (keepS l b now room).2.1, 0) := by
  have e : keepS l b now room = ((kp l now (room - cnt l now) b).1, (kp l now (room - cnt l now) b).2, 0) := by
    unfold keepS
    rw [hl, hn, decide_eq_true hr, if_pos (by decide)]
  rw [e]
  show keepS (kp l now (room - cnt l now) b).1 (kp l now (room - cnt l now) b).2 now room = _
  have hsub := kp_sub l now (room - cnt l now) b
  have hm := mayb_sub hsub hn
  have hpw := (may_pair now none hn).2.1
  have hf := filter_sub now _ hsub hpw
  have hc := cnt_filter (kp l now (room - cnt l now) b).1 now
  rw [hf] at hc
  unfold keepS
  rw [hm, hn, decide_eq_true hr, if_pos (by decide), hc]
  by_cases c : (kp l now (room - cnt l now) b).1.length < now.length
  · have h1 := kp_drop l now (room - cnt l now) b c
    have h2 := kp_fill l now (room - cnt l now) b c
    rw [h1, kp_true, kp_neg _ _ _ (by omega), hf]
  · have h1 := kp_whole l now (room - cnt l now) b c
    have hlen := kp_len l now (room - cnt l now) b
    have heq : (kp l now (room - cnt l now) b).1 = now := hsub.eq_of_length (by omega)
    rw [heq, kp_all now now _ _ (fun x hx => by
      unfold hb
      rw [List.any_eq_true]
      exact ⟨x, hx, decide_eq_true ⟨rfl, rfl⟩⟩)]
theorem room_l (many : List (List S39)) (room : Int) (h0 : 0 ≤ room) (hr : room ≤ 9223372036854775807) (hlen : many.length ≤ 5864062014805) (hm : ∀ x ∈ many, x.length ≤ 2932031007401) :
    ∀ (rest : List (List S39)) (n k : Nat) (l : List S39) (b : Bool), many.drop n = rest → 2 * rest.length + 11728124029700 ≤ k → l.length ≤ 2932031007401 → mayb l = true →
    beaconlaw17_TableRoom.l0 k many room n l b = some true
  | [], n, k, l, b, h, hk, hl, hml => by
    obtain ⟨k, rfl⟩ : ∃ q, k = 30 + q + 1 := ⟨k - 31, by omega⟩
    have := drop_nil h
    rw [beaconlaw17_TableRoom.l0, if_neg (by omega), awake_f]
    rfl
  | now :: xs, n, k, l, b, h, hk, hl, hml => by
    obtain ⟨k, rfl⟩ : ∃ q, k = q + 2 := ⟨k - 2, by omega⟩
    obtain ⟨h1, h2, h3⟩ := drop_cons h
    simp only [List.length_cons] at hk
    have hrd : rd_L3 many (n : Int) = now := by unfold rd_L3; rw [Int.toNat_natCast]; exact h3 _
    have hnow : now.length ≤ 2932031007401 := hm now (List.mem_of_mem_drop (i := n) (by rw [h]; exact List.mem_cons_self ..))
    have ih := fun l' b' hl' hml' => room_l many room h0 hr hlen hm xs (n + 1) k l' b' h2 (by omega) hl' hml'
    have ih1 := fun l' b' hl' hml' => room_l many room h0 hr hlen hm xs (n + 1) (k + 1) l' b' h2 (by omega) hl' hml'
    rw [beaconlaw17_TableRoom.l0, if_pos (by omega), if_pos (by omega), hrd, wrap_up n (by omega), keepT l b now room hl hnow hr (k + 1) (by omega), Option.bind_some]
    cases hmn : mayb now with
    | false =>
      have e : keepS l b now room = ([], false, 1) := by
        unfold keepS
        rw [hml, hmn]
        rfl
      rw [e]
      rw [if_neg (by decide)]
      exact ih1 l b hl hml
    | true =>
      have e : keepS l b now room = ((kp l now (room - cnt l now) b).1, (kp l now (room - cnt l now) b).2, 0) := by
        unfold keepS
        rw [hml, hmn, decide_eq_true h0, if_pos (by decide)]
      have hag := again l b now room hml hmn h0
      have hkl := kp_len l now (room - cnt l now) b
      have hsub := kp_sub l now (room - cnt l now) b
      have hm2 := mayb_sub hsub hmn
      rw [e] at hag ⊢
      have e9 := keepT (kp l now (room - cnt l now) b).1 (kp l now (room - cnt l now) b).2 now room (by omega) hnow hr (k + 1) (by omega)
      have hag : keepS (kp l now (room - cnt l now) b).1 (kp l now (room - cnt l now) b).2 now room = ((kp l now (room - cnt l now) b).1, (kp l now (room - cnt l now) b).2, 0) := hag
      rw [hag] at e9
      have hsame := same_t (kp l now (room - cnt l now) b).1 (kp l now (room - cnt l now) b).2 (by omega) (k + 1) (by omega)
      have hT : b = true → (kp l now (room - cnt l now) b).2 = true := fun hb => by rw [hb]; exact kp_true l now _
      have hW := kp_whole l now (room - cnt l now) b
      have hD := kp_drop l now (room - cnt l now) b
      have hF := kp_fill l now (room - cnt l now) b
      have hl2 : (kp l now (room - cnt l now) b).1.length ≤ 2932031007401 := by omega
      simp only [if_true]
      generalize (kp l now (room - cnt l now) b).1 = q at *
      generalize (kp l now (room - cnt l now) b).2 = o at *
      simp only [e9, hsame, Option.bind_some, if_true]
      cases b with
      | true =>
        rw [hT rfl]
        rw [if_pos rfl, beaconlaw17_TableRoom.j2, if_neg (by decide), if_pos rfl, if_pos rfl, wrap_up n (by omega)]
        exact ih q true hl2 hm2
      | false =>
        rw [if_neg (by decide), beaconlaw17_TableRoom.j2, if_neg (by decide), if_neg (by decide), if_pos (by omega), if_pos (by omega), hrd, wrap_up n (by omega)]
        by_cases c : q.length < now.length
        · rw [hD c, decide_eq_true (by omega), if_neg (by decide), if_pos rfl, if_neg (by have := hF c; omega)]
          exact ih q true hl2 hm2
        · rw [hW c, decide_eq_false (by omega), if_neg (by decide), if_neg (by decide)]
          exact ih q false hl2 hm2
theorem TableRoom : Go.Proofs.Ytgmjlhpigfaicaa.XA.TableRoom.Pure := by
  rintro ⟨l, b⟩ many room ⟨⟨hl0, _⟩, _⟩ ⟨hm0, hm1⟩ ⟨_, hr⟩
  have hl : l.length ≤ 2932031007401 := by
    have h : l.length * 48 ≤ 140737488351232 := hl0
    omega
  refine ⟨2 * many.length + 11728124029800, ?_⟩
  show beaconlaw17_TableRoom.f (2 * many.length + 11728124029800) l b many room = some true
  generalize hK : 2 * many.length + 11728124029800 = K
  have e := mayR l (by omega) K (by omega)
  have aw : ∀ j, 40 ≤ j → beaconlaw17_awake.f j = some true := fun j hj => by
    obtain ⟨i, rfl⟩ : ∃ i, j = 30 + i := ⟨j - 30, by omega⟩
    exact awake_f i
  obtain ⟨k, rfl⟩ : ∃ q, K = q + 1 := ⟨K - 1, by omega⟩
  unfold beaconlaw17_TableRoom.f beaconref17_Check.f
  rw [e, Option.bind_some]
  cases hml : mayb l with
  | false =>
    rw [if_neg (by decide), Option.bind_some, if_neg (by decide), beaconlaw17_TableRoom.j0, if_pos rfl, aw k (by omega)]
    rfl
  | true =>
    rw [if_pos rfl, Option.bind_some, if_pos rfl, beaconlaw17_TableRoom.j0]
    by_cases c : room < 0
    · rw [decide_eq_true c, if_pos rfl, aw k (by omega)]
      rfl
    · rw [decide_eq_false c, if_neg (by decide)]
      have h9 := room_l many room (by omega) hr (by omega) (fun x hx => by have := (hm1 x hx).1; omega) many 0 k l b rfl (by omega) hl hml
      exact h9
end Go.Proofs.Ytgmjlhpigfaicaa.Pure
