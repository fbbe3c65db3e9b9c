/- SessionPlays: any calls of a session that may be, one behind the other, answer as the reference's; for every session and every list of calls. -/
import Derived.Test.YtjodekffbobmlaaSSessionPlays
namespace Go.Proofs.Ytjodekffbobmlaa.Pure
open Go.RowKit Go.Proofs.YtjodekffbobmlaaW.PrintWords Go.Proofs.Ytjodekffbobmlaa.XS

theorem hear_same (k : Nat) (m p : Int) (u : Bool) (s n e : Int) : session_Hear.f (k + 1) m p u s n e = beaconref12_Hear.f (k + 1) m p u s n e ∧ ∃ r, beaconref12_Hear.f (k + 1) m p u s n e = some r := by
  unfold session_Hear.f beaconref12_Hear.f
  simp only [session_Hear.j0, beaconref12_Hear.j0, session_heard.f, Option.bind_some]
  by_cases h1 : n = 0
  · simp [h1]
  · by_cases h2 : n < p
    · simp [h1, h2]
    · by_cases h3 : n > p
      · by_cases h4 : e = m <;> simp [h1, h2, h3, h4]
      · by_cases h4 : e = m <;> cases u <;> simp [h1, h2, h3, h4]
theorem accept_same (m p : Int) (u : Bool) (s n e : Int) : session_Accept.f m p u s n e = beaconref12_Accept.f m p u s n e ∧ ∃ r, beaconref12_Accept.f m p u s n e = some r := by
  have e : session_Accept.f m p u s n e = beaconref12_Accept.f m p u s n e := by
    unfold session_Accept.f beaconref12_Accept.f session_heard.f
    simp only [Option.bind_some]
  refine ⟨e, ?_⟩
  clear e
  unfold beaconref12_Accept.f
  repeat' split
  all_goals exact ⟨_, rfl⟩
theorem down_same (m p : Int) (u : Bool) (s : Int) : session_Down.f m p u s = beaconref12_Down.f m p u s ∧ ∃ r, beaconref12_Down.f m p u s = some r := by
  unfold session_Down.f beaconref12_Down.f
  refine ⟨rfl, ?_⟩
  split <;> exact ⟨_, rfl⟩
theorem tick_same (m p : Int) (u : Bool) (s t : Int) : session_Tick.f m p u s t = beaconref12_Tick.f m p u s t ∧ ∃ r, beaconref12_Tick.f m p u s t = some r := by
  unfold session_Tick.f beaconref12_Tick.f
  rw [(down_same m p u (wrap64 (s + 1))).1, (down_same m p u s).1]
  refine ⟨rfl, ?_⟩
  obtain ⟨r1, h1⟩ := (down_same m p u (wrap64 (s + 1))).2
  obtain ⟨r2, h2⟩ := (down_same m p u s).2
  rw [h1, h2]
  simp only [Option.bind_some]
  repeat' split
  all_goals exact ⟨_, rfl⟩
theorem same_self (m p : Int) (u : Bool) (s : Int) : beaconref12_Same.f m p u s m p u s = some true := by
  unfold beaconref12_Same.f
  simp
theorem awake_f (k : Nat) : beaconlaw12_awake.f (k + 1) = some true := by
  unfold beaconlaw12_awake.f session_New.f session_Hear.f session_Hear.j0 session_heard.f
  simp
/-- Two sessions that are the same go on to be so. -/
theorem join_f (k : Nat) (l : List S45) (i m p : Int) (u : Bool) (s : Int) : beaconlaw12_SessionPlays.j1 (k + 1) l i true m p u s m p u s = beaconlaw12_SessionPlays.l0 k l (wrap64 (i + 1)) m p u s m p u s := by
  simp only [beaconlaw12_SessionPlays.j1, session_Hello.f, beaconref12_Hello.f, Option.bind_some, same_self, if_true]
theorem plays (l : List S45) (hl : l.length * 32 ≤ 140737488351232) (d : Nat) : ∀ (k : Nat) (i m p : Int) (u : Bool) (s : Int), 0 ≤ i → i + d = l.length → 2 * d + 3 ≤ k → beaconlaw12_SessionPlays.l0 k l i m p u s m p u s = some true := by
  induction d with
  | zero =>
    intro k i m p u s h0 hd hk
    obtain ⟨k, rfl⟩ : ∃ q, k = q + 1 + 1 := ⟨k - 2, by omega⟩
    simp only [beaconlaw12_SessionPlays.l0]
    rw [if_neg (by omega), awake_f]
    rfl
  | succ d ih =>
    intro k i m p u s h0 hd hk
    obtain ⟨k, rfl⟩ : ∃ q, k = q + 1 + 1 := ⟨k - 2, by omega⟩
    have hw : wrap64 (i + 1) = i + 1 := by unfold wrap64; omega
    have next : ∀ m p u s, beaconlaw12_SessionPlays.j1 (k + 1) l i true m p u s m p u s = some true := fun m p u s => by
      rw [join_f, hw]
      exact ih k (i + 1) m p u s (by omega) (by omega) (by omega)
    simp only [beaconlaw12_SessionPlays.l0]
    rw [if_pos (by omega), if_pos h0]
    by_cases h1 : (rd_T45 l i).f0 = 0
    · obtain ⟨e, r, hr⟩ := hear_same k m p u s (rd_T45 l i).f1 (rd_T45 l i).f2
      rw [if_pos h1, e, hr]
      simp only [Option.bind_some, beq_self_eq_true, if_true]
      exact next _ _ _ _
    · rw [if_neg h1]
      by_cases h2 : (rd_T45 l i).f0 = 1
      · obtain ⟨e, r, hr⟩ := accept_same m p u s (rd_T45 l i).f1 (rd_T45 l i).f2
        rw [if_pos h2, e, hr]
        simp only [Option.bind_some, beq_self_eq_true, if_true]
        exact next _ _ _ _
      · rw [if_neg h2]
        by_cases h3 : (rd_T45 l i).f0 = 2
        · obtain ⟨e, r, hr⟩ := tick_same m p u s (rd_T45 l i).f3
          rw [if_pos h3, e, hr]
          simp only [Option.bind_some, beq_self_eq_true]
          exact next _ _ _ _
        · rw [if_neg h3]
          by_cases h4 : (rd_T45 l i).f0 = 3
          · obtain ⟨e, r, hr⟩ := down_same m p u s
            rw [if_pos h4, e, hr]
            simp only [Option.bind_some]
            exact next _ _ _ _
          · rw [if_neg h4]
            exact next _ _ _ _
theorem SessionPlays : Go.Proofs.Ytjodekffbobmlaa.XS.SessionPlays.Pure := by
  rintro ⟨m, p, u, s⟩ l _ ⟨hl, _⟩
  refine ⟨2 * l.length + 3, ?_⟩
  unfold beaconlaw12_SessionPlays.f
  have hm : ∃ b, beaconref12_May.f m p u s = some b := by
    unfold beaconref12_May.f
    repeat' split
    all_goals exact ⟨_, rfl⟩
  obtain ⟨b, hb⟩ := hm
  rw [hb, Option.bind_some]
  cases b
  · rw [if_neg (by decide), awake_f (2 * l.length + 2)]
    rfl
  · rw [if_pos rfl]
    exact plays l hl l.length _ 0 m p u s (by omega) (by omega) (by omega)
end Go.Proofs.Ytjodekffbobmlaa.Pure
