import Derived.Test.YtpcipmhblknokaaCJ
import Derived.Test.YtpcipmhblknokaaCK
namespace Go.Proofs.Ytpcipmhblknokaa.Ch
open Go.RowKit Go.Proofs.Ytpcipmhblknokaa.XC Go.Proofs.YtpcipmhblknokaaW.PrintWords Go.Proofs.YtpcipmhblknokaaW.PrintLast Go.Proofs.YtpcipmhblknokaaW.PrintMore
attribute [local go_sem] max2_int min2_int max_two min_two max_three min_three max_four min_four   -- for this text's walks alone
set_option linter.unusedVariables false
set_option linter.unusedSimpArgs false
open List renaming setIfInBounds_toArray → xA, set_cons_zero → xB, set_cons_succ → xC
open Go.Proofs.YtpcipmhblknokaaW.PrintWords renaming blk_drewN → bN, blk_drew → bD, blk_alloc → bA, below_set → bS, blk_frozen → bF, blk_cell → bC, cell_far → cF, blk_far → bZ, blk_below → bB, pw_below_drewN → bwN, below_drew1 → bw1, below_alloc → bwA
open Go.Proofs.YtpcipmhblknokaaW.PrintZ
open Bool renaming true → T,false → F

theorem copy_l0 (m : List S27) (hl : m.length < 3518437208883) : ∀ (d k n : Nat), n + d = m.length → d < k → beaconref11_Copy.l0 k m (m.take n) n = some m
  | d, 0, _, _, hk => absurd hk (by omega)
  | 0, k + 1, n, hd, _ => by
    obtain rfl : n = m.length := by omega
    rw [beaconref11_Copy.l0, if_neg (by omega), List.take_length]
  | d + 1, k + 1, n, hd, hk => by
    rw [beaconref11_Copy.l0, if_pos (by omega), if_pos (by omega), if_pos (by rw [List.length_take]; omega), show wrap64 ((n : Int) + 1) = ((n + 1 : Nat) : Int) by unfold wrap64; omega]
    have hi := copy_l0 m hl d k (n + 1) (by omega) (by omega)
    rw [show m.take (n + 1) = m.take n ++ [m[n]] by rw [List.take_add_one, List.getElem?_eq_getElem (by omega)]; rfl, ← rd27 (by omega)] at hi
    exact hi
theorem copy_f {m : List S27} (hl : m.length < 3518437208883) : beaconref11_Copy.f (m.length + 1) m = some m := copy_l0 m hl m.length _ 0 (by omega) (by omega)
theorem copy_calls {w : World} {A : Option Addr} {c : Nat} {m : List S27} (hC : Kd.C k27 w A m.length m) (hc : m.length ≤ c) (hl : m.length < 3518437208883) : Calls Try.prog 16 #[.slice A m.length c] w fun e w' => ∃ v, e = .returned v ∧ Kd.R k27 27 w' w.heap.size (fun _ => True) v m ∧ Below w.heap.size w w' :=
  beaconref11_Copy.calls _ A c m m w hC hc (copy_f hl)
/-- What Load tells of any list. -/
def loadE (m : List S27) : Int := if 0 ≤ idxB m then 1 else if 65536 < m.length then 2 else 0
theorem load_calls {w : World} {A : Option Addr} {c : Nat} {m : List S27} (hC : Kd.C k27 w A m.length m) (hc : m.length ≤ c) : Calls Try.prog 15 #[.slice A m.length c] w fun e w' => ∃ p, e = .returned (.tuple #[.pointer p, .int .i64 (loadE m)]) ∧ Below w.heap.size w w' ∧ ((loadE m ≠ 0 ∧ p = none) ∨ (loadE m = 0 ∧ m.length ≤ 65536 ∧ ∃ g, p = some ⟨g, 0, none⟩ ∧ w.heap.size ≤ g ∧ ∃ u, Fl w' w.heap.size (fun _ => True) g u m)) := by
  unfold loadE
  by_cases h : 0 ≤ idxB m
  · rw [if_pos h]
    exact (load_bad hC h).mono fun e w' ⟨he, hb⟩ => ⟨_, he, hb, .inl ⟨by decide, rfl⟩⟩
  · rw [if_neg h]
    by_cases hl : 65536 < m.length
    · rw [if_pos hl]
      exact (load_full hC h hl).mono fun e w' ⟨he, hb⟩ => ⟨_, he, hb, .inl ⟨by decide, rfl⟩⟩
    · rw [if_neg hl]
      exact (load_yes hC hc h hl).mono fun e w' ⟨g, he, hg, hu, hb⟩ => ⟨_, he, hb, .inr ⟨rfl, by omega, g, rfl, hg, hu⟩⟩
/-- A row that may be written: its block lies between lo and hi. -/
def Room (W : World) (lo hi : Nat) (t : TypeId) (s : Nat) (A : Option Addr) (n : Nat) : Prop := 0 < n → ∃ b cur, A = some ⟨b, 0, none⟩ ∧ lo ≤ b ∧ b < hi ∧ W.heap[b]? = some (.cells cur t (0, 0)) ∧ n * s ≤ cur.size
theorem Room.below {W W' : World} {lo hi s n : Nat} {t : TypeId} {A : Option Addr} (h : Room W lo hi t s A n) (hb : Below W.heap.size W W') : Room W' lo hi t s A n := fun h0 => by
  obtain ⟨b, cur, h1, h2, h3, h4, h5⟩ := h h0
  exact ⟨b, cur, h1, h2, h3, blk_below h4 hb, h5⟩
theorem Room.set {W : World} {lo hi s n : Nat} {t : TypeId} {A : Option Addr} (h : Room W lo hi t s A n) (g i : Nat) (v : Value) : Room (W.setCell ⟨g, i, none⟩ v) lo hi t s A n := fun h0 => by
  obtain ⟨b, cur, h1, h2, h3, h4, h5⟩ := h h0
  by_cases hb : b = g
  · subst hb
    exact ⟨b, _, h1, h2, h3, blk_set h4 i v, by rw [Array.size_setIfInBounds]; exact h5⟩
  · exact ⟨b, cur, h1, h2, h3, blk_far h4 hb v, h5⟩
theorem Room.of_R {α : Type} {d : Kd α} {e : TypeId} {W : World} {base : Nat} {ok : Nat → Prop} {A : Option Addr} {c : Nat} {xs : List α} (h : d.R e W base ok (.slice A xs.length c) xs) : Room W base W.heap.size e d.sz A xs.length := fun h0 => by
  obtain ⟨inner, _, ho⟩ := Kd.R_own h
  rcases ho with ⟨_, h⟩ | ⟨g, cap, cur, h1, hg, hh, hn, hm, hs, ht⟩
  · omega
  · cases h1
    exact ⟨g, cur, rfl, hg, blk_lt hh, hh, by rw [hs]; exact Nat.mul_le_mul_right _ hn⟩
theorem Room.wide {W : World} {lo hi lo' hi' s n : Nat} {t : TypeId} {A : Option Addr} (h : Room W lo hi t s A n) (h1 : lo' ≤ lo) (h2 : hi ≤ hi') : Room W lo' hi' t s A n := fun h0 => by
  obtain ⟨b, cur, a1, a2, a3, a4, a5⟩ := h h0
  exact ⟨b, cur, a1, by omega, by omega, a4, a5⟩
theorem Room.get {W : World} {lo hi s n : Nat} {t : TypeId} {A : Option Addr} (h : Room W lo hi t s A n) {i : Nat} (hin : i < n) : ∃ b, A = some ⟨b, 0, none⟩ ∧ lo ≤ b ∧ b < hi ∧ ∀ j, j < s → (∃ v, W.cell? ⟨b, i * s + j, none⟩ = some v) ∧ W.frozen? ⟨b, i * s + j, none⟩ = false := by
  obtain ⟨b, cur, h1, h2, h3, h4, h5⟩ := h (by omega)
  refine ⟨b, h1, h2, h3, fun j hj => ⟨?_, bF h4 _⟩⟩
  have hk : i * s + j < cur.size := by
    have : (i + 1) * s ≤ n * s := Nat.mul_le_mul_right _ hin
    rw [Nat.add_mul] at this
    omega
  rw [bC h4, Array.getElem?_eq_getElem hk]
  exact ⟨_, rfl⟩
theorem Fl.set {W : World} {base g : Nat} {P : Nat → Prop} {u : Value} {m : List S27} (h : Fl W base P g u m) {b : Nat} (hg : g ≠ b) (hu : some b ≠ u.ownBlock) (i : Nat) (a : Value) : Fl (W.setCell ⟨b, i, none⟩ a) base P g u m :=
  ⟨blk_far h.blk hg a, R27.2 ⟨(R27.1 h.row).1, ownsRow_setCell_other (R27.1 h.row).2 (fun e => hu e.symm) a⟩⟩
theorem Room.set4 {W : World} {lo hi s n : Nat} {t : TypeId} {A : Option Addr} (h : Room W lo hi t s A n) (g i j k o : Nat) (a b c d : Value) : Room ((((W.setCell ⟨g, i, none⟩ a).setCell ⟨g, j, none⟩ b).setCell ⟨g, k, none⟩ c).setCell ⟨g, o, none⟩ d) lo hi t s A n := (((h.set g i a).set g j b).set g k c).set g o d
theorem Fl.set4 {W : World} {base g : Nat} {P : Nat → Prop} {u : Value} {m : List S27} (h : Fl W base P g u m) {G : Nat} (hg : g ≠ G) (hu : some G ≠ u.ownBlock) (i j k o : Nat) (a b c d : Value) : Fl ((((W.setCell ⟨G, i, none⟩ a).setCell ⟨G, j, none⟩ b).setCell ⟨G, k, none⟩ c).setCell ⟨G, o, none⟩ d) base P g u m := (((h.set hg hu i a).set hg hu j b).set hg hu k c).set hg hu o d
theorem below4 {w W : World} {g : Nat} (h : Below w.heap.size w W) (hg : w.heap.size ≤ g) (i j k o : Nat) (a b c d : Value) : Below w.heap.size w ((((W.setCell ⟨g, i, none⟩ a).setCell ⟨g, j, none⟩ b).setCell ⟨g, k, none⟩ c).setCell ⟨g, o, none⟩ d) := bS (bS (bS (bS h hg) hg) hg) hg
theorem Fl.lts {w : World} {base g : Nat} {P : Nat → Prop} {u : Value} {m : List S27} (h : Fl w base P g u m) : g < w.heap.size ∧ ∀ k, u.ownBlock = some k → k < w.heap.size := ⟨blk_lt h.blk, own_lt (R27.1 h.row).2⟩
theorem Fl.bases {w : World} {base g : Nat} {P : Nat → Prop} {u : Value} {m : List S27} (h : Fl w base P g u m) : ∀ k, u.ownBlock = some k → base ≤ k := own_base (R27.1 h.row).2
theorem all_fl {w : World} {base g : Nat} {P : Nat → Prop} {u : Value} {m : List S27} (h : Fl w base P g u m) (hl : m.length ≤ 65536) : Calls Try.prog 10 #[.pointer (some ⟨g, 0, none⟩)] w fun e w' => ∃ v, e = .returned v ∧ Kd.R k27 27 w' w.heap.size (fun _ => True) v m ∧ Below w.heap.size w w' := by
  obtain ⟨A, c, rfl, hc, hC⟩ := Kd.R_reads h.row
  exact all_calls h.blk hC hc (by omega)
theorem load_x {w : World} {A : Option Addr} {c : Nat} {m : List S27} {x : Int} (hx : x = loadE m) (hC : Kd.C k27 w A m.length m) (hc : m.length ≤ c) : Calls Try.prog 15 #[.slice A m.length c] w fun e w' => ∃ p, e = .returned (.tuple #[.pointer p, .int .i64 x]) ∧ Below w.heap.size w w' ∧ ((x ≠ 0 ∧ p = none) ∨ (x = 0 ∧ m.length ≤ 65536 ∧ ∃ g, p = some ⟨g, 0, none⟩ ∧ w.heap.size ≤ g ∧ ∃ u, Fl w' w.heap.size (fun _ => True) g u m)) := by
  subst hx
  exact load_calls hC hc
set_option maxHeartbeats 4000000 in
set_option maxRecDepth 100000 in
theorem own_calls {w : World} {A : Option Addr} {c : Nat} {l : List S27} (hC : Kd.C k27 w A l.length l) (hc : l.length ≤ c) (hl : l.length < 3518437208883) : Calls Try.prog 7 #[.slice A l.length c] w fun e w' => e = .returned (.bool true) ∧ Below w.heap.size w w' := by
  have HB := zA (Below.refl w.heap.size w)
  have hu27 := Try.underlying27
  obtain ⟨x, hx⟩ : ∃ x, x = loadE l := ⟨_, rfl⟩
  have HXE := zA hx
  clear hx
  go_enter Try.func7, Try.ntmps7
  go_upto_if 26 with (first | ((with_reducible refine gate_callee (f := 16) rfl ?_); refine zg (some 19) Try.func16 #[.slice A l.length c] ?_; (with_reducible refine (copy_calls hC hc hl).mono ?_); rintro e w4 ⟨v, rfl, ho, hb⟩; refine ⟨_, rfl, ?_⟩; have HO := zA ho; replace HB := zS HB hb; clear hb ho; obtain ⟨A2, c2, rfl, hc2, hC2⟩ := Kd.R_reads HO.out) | ((with_reducible refine gate_callee (f := 15) rfl ?_); refine zg (some 22) Try.func15 #[.slice A2 l.length c2] ?_; (with_reducible refine (load_x HXE.out hC2 hc2).mono ?_); rintro e w5 ⟨p, rfl, hb, hcase⟩; refine ⟨_, rfl, ?_⟩; have HS := zA HB.out.size; have HR := zA ((Room.of_R HO.out).below hb); have HL := zA hcase; clear HXE; replace HB := zS HB hb; clear hb hcase HO hC2))
  go_cut [] (fun wc => Aside0 (Below w.heap.size w wc))
  case first =>
    rcases HL.out with ⟨h1, rfl⟩ | ⟨rfl, h2, g, rfl, hg, u, hF⟩
    · have t1 : (x == 0) = false := beq_eq_false_iff_ne.mpr h1
      go_wp2
      go_meet
      case rel => exact ⟨zH HB⟩
    · go_wp2
      have HR1 := zA (show Room w5 w.heap.size w4.heap.size 27 4 A2 l.length from HR.out)
      have HF := zA hF
      have HG := zA hg
      have HL2 := zA h2
      have hrl : (rdy l l.length).length ≤ 65536 := Nat.le_trans (rdy_len l l.length) h2
      clear hF hg HR HL h2
      go_loopg [6] (l.length + 1) (fun kq v6 w' => ∃ n : Nat, v6 = .int .i64 n ∧ Aside0 (n ≤ l.length) ∧ Aside0 (kq + n = l.length + 1) ∧ Aside0 (Room w' w.heap.size w4.heap.size 27 4 A2 l.length) ∧ Aside0 (Fl w' w4.heap.size (fun _ => True) g u l) ∧ Aside0 (Below w.heap.size w w'))
      case atStart => exact ⟨0, rfl, ⟨Nat.zero_le _⟩, ⟨by omega⟩, HR1, HF, ⟨zH HB⟩⟩
      case round =>
        clear HB HF HR1
        obtain ⟨n, rfl, HN, HQ, HR, HF, HB⟩ := hrel
        cases gk with
        | zero => exact absurd HQ.out (by have := HN.out; omega)
        | succ k1 =>
          by_cases c6 : n < l.length
          · have t1 : decide ((n : Int) < (l.length : Int)) = true := decide_eq_true (by omega)
            have q0 : (0 ≤ (n : Int)) = True := eq_true (by omega)
            have q1 : ((n : Int) < (l.length : Int)) = True := eq_true (by omega)
            obtain ⟨b, rfl, hb1, hb2, hx⟩ := HR.out.get c6
            clear hx
            go_wp2_with (first | ((with_reducible refine gate_callee (f := 18) rfl ?_); refine zg (some 35) Try.func18 #[.string ⟨#[115, 112, 111, 105, 108, 116]⟩] ?_; (with_reducible refine (gram_calls _).mono ?_); rintro e w7 ⟨rfl, hb⟩; refine ⟨_, rfl, ?_⟩; replace HR := zA (HR.out.below hb); replace HF := zA (HF.out.below hb); replace HB := zS HB hb; clear hb; obtain ⟨b2, hb2, hlo, hhi, hx⟩ := HR.out.get c6; cases hb2; obtain ⟨⟨y0, x0⟩, f0⟩ := hx 0 (by decide); obtain ⟨⟨y1, x1⟩, f1⟩ := hx 1 (by decide); obtain ⟨⟨y2, x2⟩, f2⟩ := hx 2 (by decide); obtain ⟨⟨y3, x3⟩, f3⟩ := hx 3 (by decide); clear hx; simp only [Nat.add_zero] at x0 f0) | fail)
            go_roundg k1
            case measure => omega
            case rel => exact ⟨n + 1, by rw [Int.natCast_add]; rfl, ⟨c6⟩, ⟨by have := HQ.out; omega⟩, ⟨HR.out.set4 _ _ _ _ _ _ _ _ _⟩, ⟨HF.out.set4 (by have := HG.out; omega) (fun e => by have := HF.out.bases _ e.symm; omega) _ _ _ _ _ _ _ _⟩, ⟨below4 HB.out (hb1) _ _ _ _ _ _ _ _⟩⟩
          · have t1 : decide ((n : Int) < (l.length : Int)) = false := decide_eq_false (by omega)
            have t2 : decide (n < l.length) = false := decide_eq_false c6
            clear c6
            go_wp2
            go_loopg [7] 3 (fun kq v7 w' => ∃ n : Nat, v7 = .int .i64 n ∧ Aside0 (n ≤ 2) ∧ Aside0 (kq + n = 3) ∧ Aside0 (Fl w' w4.heap.size (fun _ => True) g u l) ∧ Aside0 (Below w.heap.size w w'))
            case atStart => exact ⟨0, rfl, ⟨by decide⟩, ⟨by omega⟩, HF, ⟨zH HB⟩⟩
            case round =>
              clear HR HF HB HN HQ
              obtain ⟨n2, rfl, HN, HQ, HF, HB⟩ := hrel
              cases gk with
              | zero => exact absurd HQ.out (by have := HN.out; omega)
              | succ k1 =>
                by_cases c7 : n2 < 2
                · have t7 : decide ((n2 : Int) < 2) = true := decide_eq_true (by omega)
                  have HQ2 := HQ
                  clear HQ HN
                  go_wp2_with (first | ((with_reducible refine gate_callee (f := 14) rfl ?_); refine zg (some 43) Try.func14 #[.pointer (some ⟨g, 0, none⟩), .slice A l.length c] ?_; (with_reducible refine (is_true HF.out HL2.out (Kd.C_below hC HB.out) hc).mono ?_); rintro e wI ⟨rfl, hb⟩; refine ⟨_, rfl, ?_⟩; replace HF := zA (HF.out.below hb); replace HB := zS HB hb; clear hb) | ((with_reducible refine gate_callee (f := 10) rfl ?_); refine zg (some 46) Try.func10 #[.pointer (some ⟨g, 0, none⟩)] ?_; (with_reducible refine (all_fl HF.out HL2.out).mono ?_); rintro e wA ⟨v, rfl, ho, hb⟩; refine ⟨_, rfl, ?_⟩; obtain ⟨A3, c3, rfl⟩ := Kd.R_slice ho; have HR := zA (show Room wA wI.heap.size wA.heap.size 27 4 A3 l.length from Room.of_R ho); have HX := zA HF.out.lts; have HW := zA HB.out.size; replace HF := zA (HF.out.below hb); replace HB := zS HB hb; clear hb ho))
                  go_loopg [9] (l.length + 1) (fun kq v9 w' => ∃ n : Nat, v9 = .int .i64 n ∧ Aside0 (n ≤ l.length) ∧ Aside0 (kq + n = l.length + 1) ∧ Aside0 (Room w' wI.heap.size wA.heap.size 27 4 A3 l.length) ∧ Aside0 (Fl w' w4.heap.size (fun _ => True) g u l) ∧ Aside0 (Below w.heap.size w w'))
                  case atStart => exact ⟨0, rfl, ⟨Nat.zero_le _⟩, ⟨by omega⟩, HR, HF, ⟨zH HB⟩⟩
                  case round =>
                    clear HR HF HB
                    obtain ⟨n, rfl, HN, HQ, HR, HF, HB⟩ := hrel
                    cases gk with
                    | zero => exact absurd HQ.out (by have := HN.out; omega)
                    | succ k2 =>
                      by_cases c6 : n < l.length
                      · have t1 : decide ((n : Int) < (l.length : Int)) = true := decide_eq_true (by omega)
                        have q0 : (0 ≤ (n : Int)) = True := eq_true (by omega)
                        have q1 : ((n : Int) < (l.length : Int)) = True := eq_true (by omega)
                        obtain ⟨b, rfl, hb1, hb2, hx⟩ := HR.out.get c6
                        clear hx
                        go_wp2_with (first | ((with_reducible refine gate_callee (f := 18) rfl ?_); refine zg (some 55) Try.func18 #[.string ⟨#[115, 112, 111, 105, 108, 116]⟩] ?_; (with_reducible refine (gram_calls _).mono ?_); rintro e w7 ⟨rfl, hb⟩; refine ⟨_, rfl, ?_⟩; replace HR := zA (HR.out.below hb); replace HF := zA (HF.out.below hb); replace HB := zS HB hb; clear hb; obtain ⟨b2, hb2, hlo, hhi, hx⟩ := HR.out.get c6; cases hb2; obtain ⟨⟨y0, x0⟩, f0⟩ := hx 0 (by decide); obtain ⟨⟨y1, x1⟩, f1⟩ := hx 1 (by decide); obtain ⟨⟨y2, x2⟩, f2⟩ := hx 2 (by decide); obtain ⟨⟨y3, x3⟩, f3⟩ := hx 3 (by decide); clear hx; simp only [Nat.add_zero] at x0 f0) | fail)
                        go_roundg k2
                        case measure => omega
                        case rel => exact ⟨n + 1, by rw [Int.natCast_add]; rfl, ⟨c6⟩, ⟨by have := HQ.out; omega⟩, ⟨HR.out.set4 _ _ _ _ _ _ _ _ _⟩, ⟨HF.out.set4 (by have := HX.out.1; omega) (fun e => by have := HX.out.2 _ e.symm; omega) _ _ _ _ _ _ _ _⟩, ⟨below4 HB.out (by have := HW.out; omega) _ _ _ _ _ _ _ _⟩⟩
                      · have t1 : decide ((n : Int) < (l.length : Int)) = false := decide_eq_false (by omega)
                        have t2 : decide (n < l.length) = false := decide_eq_false c6
                        clear c6 HR HN HQ
                        go_wp2_with (first | ((with_reducible refine gate_callee (f := 19) rfl ?_); refine zg (some 58) Try.func19 #[.pointer (some ⟨g, 0, none⟩)] ?_; (with_reducible refine (ready_calls HF.out HL2.out).mono ?_); rintro e wR ⟨v, rfl, ho, hb⟩; refine ⟨_, rfl, ?_⟩; obtain ⟨A4, c4, rfl⟩ := Kd.R_slice ho; have HR := zA (Room.of_R ho); have HX := zA HF.out.lts; have HW := zA HB.out.size; replace HF := zA (HF.out.below hb); replace HB := zS HB hb; clear hb ho) | fail)
                        go_loopg [11] ((rdy l l.length).length + 1) (fun kq v11 w' => ∃ n : Nat, v11 = .int .i64 n ∧ Aside0 (n ≤ (rdy l l.length).length) ∧ Aside0 (kq + n = (rdy l l.length).length + 1) ∧ Aside0 (Room w' wr.heap.size wR.heap.size 3 1 A4 (rdy l l.length).length) ∧ Aside0 (Fl w' w4.heap.size (fun _ => True) g u l) ∧ Aside0 (Below w.heap.size w w'))
                        case atStart => exact ⟨0, rfl, ⟨Nat.zero_le _⟩, ⟨by omega⟩, HR, HF, ⟨zH HB⟩⟩
                        case round =>
                          clear HR HF HB
                          obtain ⟨n, rfl, HN, HQ, HR, HF, HB⟩ := hrel
                          cases gk with
                          | zero => exact absurd HQ.out (by have := HN.out; omega)
                          | succ k2 =>
                            by_cases c6 : n < (rdy l l.length).length
                            · have t1 : decide ((n : Int) < ((rdy l l.length).length : Int)) = true := decide_eq_true (by omega)
                              have q0 : (0 ≤ (n : Int)) = True := eq_true (by omega)
                              have q1 : ((n : Int) < ((rdy l l.length).length : Int)) = True := eq_true (by omega)
                              obtain ⟨b, rfl, hb1, hb2, hx⟩ := HR.out.get c6
                              obtain ⟨⟨y0, x0⟩, f0⟩ := hx 0 (by decide)
                              clear hx
                              simp only [Nat.mul_one, Nat.add_zero] at x0 f0
                              go_wp2
                              go_roundg k2
                              case measure => omega
                              case rel => exact ⟨n + 1, by rw [Int.natCast_add]; rfl, ⟨c6⟩, ⟨by have := HQ.out; omega⟩, ⟨HR.out.set _ _ _⟩, ⟨HF.out.set (by have := HX.out.1; omega) (fun e => by have := HX.out.2 _ e.symm; omega) _ _⟩, ⟨bS HB.out (by have := HW.out; omega)⟩⟩
                            · have t1 : decide ((n : Int) < ((rdy l l.length).length : Int)) = false := decide_eq_false (by omega)
                              have t2 : decide (n < (rdy l l.length).length) = false := decide_eq_false c6
                              clear c6 HR HN HQ
                              go_wp2
                              go_roundg k1
                              case measure => omega
                              case rel => exact ⟨n2 + 1, by rw [Int.natCast_add]; rfl, ⟨c7⟩, ⟨by have := HQ2.out; omega⟩, ⟨HF.out⟩, ⟨HB.out⟩⟩
                · have t7 : decide ((n2 : Int) < 2) = false := decide_eq_false (by omega)
                  go_wp2
                  go_meet
                  case rel => exact ⟨HB.out⟩
  case rest =>
    have HB := hcut
    clear hcut HL
    go_wp2
    go_loopg [12] 3 (fun kq v12 w' => ∃ n : Nat, v12 = .int .i64 n ∧ Aside0 (n ≤ 2) ∧ Aside0 (kq + n = 3) ∧ Aside0 (Below w.heap.size w w'))
    case atStart => exact ⟨0, rfl, ⟨by decide⟩, ⟨by omega⟩, ⟨zH HB⟩⟩
    case round =>
      clear HB
      obtain ⟨n, rfl, HN, HQ, HB⟩ := hrel
      cases gk with
      | zero => exact absurd HQ.out (by have := HN.out; omega)
      | succ k1 =>
        by_cases c0 : n = 0
        · subst c0
          go_wp2_with (first | ((with_reducible refine gate_callee (f := 20) rfl ?_); refine zg (some 78) Try.func20 #[.pointer none, .int .i64 0] ?_; (with_reducible refine (take_nil 0).mono ?_); rintro e w4 ⟨rfl, hb⟩; refine ⟨_, rfl, ?_⟩; replace HB := zS HB hb; clear hb) | ((with_reducible refine gate_dst (N := 14) rfl ?_); refine zb (N := 14) (cs := #[.int .i64 0, .int .i64 0, .string ⟨#[]⟩, .int .i64 0]) (t := 27) ?_; intro G14 hg w5 hbox hb; have K14 := zA hbox; have GW14 := zN HB hg; replace HB := zS HB hb; clear hb hbox hg; obtain ⟨_, _, _, _, _, _, _, _⟩ := zc4 K14; clear K14) | ((with_reducible refine gate_dst (N := 16) rfl ?_); refine zb (N := 16) (cs := #[.int .i64 0, .int .i64 0, .string ⟨#[]⟩, .int .i64 0]) (t := 27) ?_; intro G16 hg w7 hbox hb; have K16 := zA hbox; have GW16 := zN HB hg; replace HB := zS HB hb; clear hb hbox hg; obtain ⟨_, _, _, _, _, _, _, _⟩ := zc4 K16; clear K16) | ((with_reducible refine gate_callee (f := 11) rfl ?_); refine zg (some 84) Try.func11 #[.pointer none, .agg #[.int .i64 6, .int .i64 0, .int .i64 0]] ?_; (with_reducible refine (do_nil 6 0 0).mono ?_); rintro e w6 ⟨rfl, hb⟩; refine ⟨_, rfl, ?_⟩; replace HB := zS HB hb; clear hb) | ((with_reducible refine gate_callee (f := 18) rfl ?_); refine zg (some 88) Try.func18 #[.string ⟨#[97]⟩] ?_; (with_reducible refine (gram_calls _).mono ?_); rintro e w8 ⟨rfl, hb⟩; refine ⟨_, rfl, ?_⟩; replace HB := zS HB hb; clear hb) | ((with_reducible refine gate_callee (f := 9) rfl ?_); refine zg (some 89) Try.func9 #[.pointer none, .agg #[.int .i64 1, .int .i64 2, .string ⟨#[97]⟩, .int .i64 0]] ?_; (with_reducible refine (put_nil ⟨1, 2, ⟨#[97]⟩, 0⟩).mono ?_); rintro e w9 ⟨rfl, hb⟩; refine ⟨_, rfl, ?_⟩; replace HB := zS HB hb; clear hb) | (go_at_call 21; (with_reducible refine (len_nil).mono ?_); rintro e w10 ⟨rfl, hww⟩; replace hww := hww.symm; subst hww) | (go_at_call 10; (with_reducible refine (all_nil).mono ?_); rintro e w10 ⟨rfl, hww⟩; replace hww := hww.symm; subst hww) | (go_at_call 19; (with_reducible refine (ready_nil).mono ?_); rintro e w10 ⟨rfl, hww⟩; replace hww := hww.symm; subst hww))
          go_roundg k1
          case measure => omega
          case rel => exact ⟨1, rfl, ⟨by decide⟩, ⟨by have := HQ.out; omega⟩, ⟨zH HB⟩⟩
        · by_cases c1 : n = 1
          · subst c1
            clear c0
            go_wp2_with (first | ((with_reducible refine gate_dst (N := 75) rfl ?_); refine zb (N := 75) (cs := #[.bool false, .slice none 0 0]) (t := 55) ?_; intro G75 hg w3 hbox hb; have KF := zA hbox; have GW75 := zN HB hg; replace HB := zS HB hb; clear hb hbox hg) | ((with_reducible refine gate_callee (f := 20) rfl ?_); refine zg (some 78) Try.func20 #[.pointer (some ⟨G75, 0, none⟩), .int .i64 0] ?_; (with_reducible refine (take_not KF.out 0).mono ?_); rintro e w4 ⟨rfl, hb⟩; refine ⟨_, rfl, ?_⟩; replace KF := zBf KF hb; replace HB := zS HB hb; clear hb) | ((with_reducible refine gate_dst (N := 14) rfl ?_); refine zb (N := 14) (cs := #[.int .i64 0, .int .i64 0, .string ⟨#[]⟩, .int .i64 0]) (t := 27) ?_; intro G14 hg w5 hbox hb; have K14 := zA hbox; have GW14 := zN HB hg; have NBF_14 := zL KF hg; have NB14_F := zG KF hg; replace KF := zBf KF hb; replace HB := zS HB hb; clear hb hbox hg; obtain ⟨_, _, _, _, _, _, _, _⟩ := zc4 K14; clear K14) | ((with_reducible refine gate_dst (N := 16) rfl ?_); refine zb (N := 16) (cs := #[.int .i64 0, .int .i64 0, .string ⟨#[]⟩, .int .i64 0]) (t := 27) ?_; intro G16 hg w7 hbox hb; have K16 := zA hbox; have GW16 := zN HB hg; have NBF_16 := zL KF hg; have NB16_F := zG KF hg; replace KF := zBf KF hb; replace HB := zS HB hb; clear hb hbox hg; obtain ⟨_, _, _, _, _, _, _, _⟩ := zc4 K16; clear K16) | ((with_reducible refine gate_callee (f := 11) rfl ?_); refine zg (some 84) Try.func11 #[.pointer (some ⟨G75, 0, none⟩), .agg #[.int .i64 6, .int .i64 0, .int .i64 0]] ?_; (with_reducible refine (do_not (zF KF) 6 0 0).mono ?_); rintro e w6 ⟨rfl, hb⟩; refine ⟨_, rfl, ?_⟩; replace KF := zBf KF hb; replace HB := zS HB hb; clear hb) | ((with_reducible refine gate_callee (f := 18) rfl ?_); refine zg (some 88) Try.func18 #[.string ⟨#[97]⟩] ?_; (with_reducible refine (gram_calls _).mono ?_); rintro e w8 ⟨rfl, hb⟩; refine ⟨_, rfl, ?_⟩; replace KF := zBf KF hb; replace HB := zS HB hb; clear hb) | ((with_reducible refine gate_callee (f := 9) rfl ?_); refine zg (some 89) Try.func9 #[.pointer (some ⟨G75, 0, none⟩), .agg #[.int .i64 1, .int .i64 2, .string ⟨#[97]⟩, .int .i64 0]] ?_; (with_reducible refine (put_not KF.out ⟨1, 2, ⟨#[97]⟩, 0⟩).mono ?_); rintro e w9 ⟨rfl, hb⟩; refine ⟨_, rfl, ?_⟩; replace KF := zBf KF hb; replace HB := zS HB hb; clear hb) | (go_at_call 21; (with_reducible refine (len_not KF.out).mono ?_); rintro e w10 ⟨rfl, hww⟩; replace hww := hww.symm; subst hww) | (go_at_call 10; (with_reducible refine (all_not (xs := []) KF.out).mono ?_); rintro e w10 ⟨rfl, hww⟩; replace hww := hww.symm; subst hww) | (go_at_call 19; (with_reducible refine (ready_not KF.out).mono ?_); rintro e w10 ⟨rfl, hww⟩; replace hww := hww.symm; subst hww))
            go_roundg k1
            case measure => omega
            case rel => exact ⟨2, rfl, ⟨by decide⟩, ⟨by have := HQ.out; omega⟩, ⟨zH HB⟩⟩
          · obtain rfl : n = 2 := by have := HN.out; omega
            clear c0 c1
            go_wp2_with (first | ((with_reducible refine gate_callee (f := 12) rfl ?_); refine zg (some 116) Try.func12 #[] ?_; (with_reducible refine awake_calls.mono ?_); rintro e w4 ⟨rfl, hb⟩; refine ⟨_, rfl, ?_⟩; replace HB := zS HB hb; clear hb) | fail)
            go_ret
            exact ⟨rfl, HB.out⟩
end Go.Proofs.Ytpcipmhblknokaa.Ch
