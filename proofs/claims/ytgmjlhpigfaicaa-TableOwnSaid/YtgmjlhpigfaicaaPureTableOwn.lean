/- TableOwn: what is handed in to Keep and Marks stays, and what they tell is memory of its own: spoiling it changes no later answer. -/
import Derived.Test.YtgmjlhpigfaicaaSTableOwn
import Derived.Test.YtgmjlhpigfaicaaTM
namespace Go.Proofs.Ytgmjlhpigfaicaa.Pure
open Go.RowKit Go.Proofs.YtgmjlhpigfaicaaW.PrintWords Go.Proofs.Ytgmjlhpigfaicaa.XA

theorem own_l2 (C : Nat) (now : List S39) (room : Int) (y : List S39) (i : Int) (l : List S39) (b : Bool) (l' : List S39) (b' : Bool)
    (H : ∀ k, C ≤ k → beaconlaw17_TableOwn.l0 k now room y (wrap64 (i + 1)) l b l' b' = some true) : ∀ (d : Nat) (m : List Int) (n k : Nat), m.length = n + d → m.length ≤ 2932031007402 → C + d + 1 ≤ k →
    beaconlaw17_TableOwn.l2 k now room y i m n l b l' b' = some true := by
  intro d
  induction d with
  | zero =>
    intro m n k hm hb hk
    obtain ⟨k, rfl⟩ : ∃ q, k = q + 1 := ⟨k - 1, by omega⟩
    rw [beaconlaw17_TableOwn.l2, if_neg (by omega)]
    exact H k (by omega)
  | succ d ih =>
    intro m n k hm hb hk
    obtain ⟨k, rfl⟩ : ∃ q, k = q + 1 := ⟨k - 1, by omega⟩
    rw [beaconlaw17_TableOwn.l2, if_pos (by omega), if_pos (by omega), wrap_up n (by omega)]
    exact ih _ (n + 1) k (by rw [List.length_set]; omega) (by rw [List.length_set]; omega) (by omega)
theorem own_l1 (C : Nat) (now : List S39) (room : Int) (y : List S39) (i : Int) (l : List S39) (b : Bool) (l' : List S39) (b' bx : Bool) (hl' : l'.length ≤ 2932031007402)
    (H : ∀ k, C ≤ k → beaconlaw17_TableOwn.l0 k now room y (wrap64 (i + 1)) l b l' b' = some true) : ∀ (d : Nat) (m : List S39) (n k : Nat), m.length = n + d → m.length ≤ 2932031007402 → C + l'.length + d + 2 ≤ k →
    beaconlaw17_TableOwn.l1 k now room y i n l b l' b' m bx = some true := by
  intro d
  induction d with
  | zero =>
    intro m n k hm hb hk
    obtain ⟨k, rfl⟩ : ∃ q, k = q + 1 := ⟨k - 1, by omega⟩
    have hml := marks_len l'
    rw [beaconlaw17_TableOwn.l1, if_neg (by omega), marksT l' b' hl' k (by omega), Option.bind_some]
    have h9 := own_l2 C now room y i l b l' b' H (marksS l').length (marksS l') 0 k (by omega) (by omega) (by omega)
    rw [show ((0 : Nat) : Int) = 0 from rfl] at h9
    exact h9
  | succ d ih =>
    intro m n k hm hb hk
    obtain ⟨k, rfl⟩ : ∃ q, k = q + 1 := ⟨k - 1, by omega⟩
    rw [beaconlaw17_TableOwn.l1, if_pos (by omega), if_pos (by omega), wrap_up n (by omega)]
    exact ih _ (n + 1) k (by rw [List.length_set]; omega) (by rw [List.length_set]; omega) (by omega)
theorem TableOwn : Go.Proofs.Ytgmjlhpigfaicaa.XA.TableOwn.Pure := by
  rintro ⟨l, b⟩ now room ⟨⟨hl0, _⟩, _⟩ ⟨hn0, _⟩ ⟨_, hr⟩
  have hl : l.length ≤ 2932031007401 := by
    have h : l.length * 48 ≤ 140737488351232 := hl0
    omega
  have hn : now.length ≤ 2932031007401 := by omega
  have hlen := keep_len l b now room
  have base : ∀ k, 30 + (2 * now.length + l.length + 10) ≤ k → beaconlaw17_TableOwn.l0 k now room now 2 l b l b = some true := by
    intro k hk
    obtain ⟨k, rfl⟩ : ∃ q, k = q + 1 := ⟨k - 1, by omega⟩
    rw [beaconlaw17_TableOwn.l0, if_neg (by decide), same_t l b (by omega) k (by omega), Option.bind_some, if_pos rfl, sameR now (by omega) k (by omega), Option.bind_some, if_pos rfl]
    obtain ⟨j, rfl⟩ : ∃ j, k = 30 + j := ⟨k - 30, by omega⟩
    rw [awake_f j]
    rfl
  have step : ∀ (C : Nat) (i : Int), i < 2 → 30 + (2 * now.length + l.length + 10) ≤ C → (∀ k, C ≤ k → beaconlaw17_TableOwn.l0 k now room now (wrap64 (i + 1)) l b l b = some true) →
      ∀ k, C + now.length + l.length + 6 ≤ k → beaconlaw17_TableOwn.l0 k now room now i l b l b = some true := by
    intro C i hi hC H k hk
    obtain ⟨k, rfl⟩ : ∃ q, k = q + 2 := ⟨k - 2, by omega⟩
    have e3 := keepT l b now room hl hn hr (k + 1) (by omega)
    have e4 := keepR l b now room hl hn (k + 1) (by omega)
    have e5 := same_t (keepS l b now room).1 (keepS l b now room).2.1 (by omega) (k + 1) (by omega)
    rw [beaconlaw17_TableOwn.l0, if_pos hi]
    simp only [e3, e4, e5, Option.bind_some, if_true, Bool.not_true]
    rw [beaconlaw17_TableOwn.j1, if_neg (by decide)]
    have h9 := own_l1 C now room now i l b l b (keepS l b now room).2.1 (by omega) H (keepS l b now room).1.length (keepS l b now room).1 0 k (by omega) (by omega) (by omega)
    rw [show ((0 : Nat) : Int) = 0 from rfl] at h9
    exact h9
  have w1 : wrap64 (0 + 1) = 1 := by unfold wrap64; omega
  have w2 : wrap64 (1 + 1) = 2 := by unfold wrap64; omega
  have s1 := step _ 1 (by decide) (Nat.le_refl _) (by rw [w2]; exact base)
  have s0 := step (30 + (2 * now.length + l.length + 10) + now.length + l.length + 6) 0 (by decide) (by omega) (by rw [w1]; exact s1)
  refine ⟨30 + (2 * now.length + l.length + 10) + now.length + l.length + 6 + now.length + l.length + 6, ?_⟩
  show beaconlaw17_TableOwn.f _ l b now room = some true
  unfold beaconlaw17_TableOwn.f
  rw [ownR l b (by omega) _ (by omega), Option.bind_some, copyR now (by omega) _ (by omega), Option.bind_some]
  exact s0 _ (Nat.le_refl _)
end Go.Proofs.Ytgmjlhpigfaicaa.Pure
