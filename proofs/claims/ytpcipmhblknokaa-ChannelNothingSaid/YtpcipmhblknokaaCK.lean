import Derived.Test.YtpcipmhblknokaaCI
import Derived.Test.YtpcipmhblknokaaXCx1
import Derived.Test.YtpcipmhblknokaaCB
namespace Go.Proofs.Ytpcipmhblknokaa.Ch
open Go.RowKit Go.Proofs.Ytpcipmhblknokaa.XC Go.Proofs.YtpcipmhblknokaaW.PrintWords Go.Proofs.YtpcipmhblknokaaW.PrintLast Go.Proofs.YtpcipmhblknokaaW.PrintMore
attribute [local go_sem] max2_int min2_int max_two min_two max_three min_three max_four min_four   -- for this text's walks alone
set_option linter.unusedVariables false
set_option linter.unusedSimpArgs false
open List renaming setIfInBounds_toArray → xA, set_cons_zero → xB, set_cons_succ → xC
open Go.Proofs.YtpcipmhblknokaaW.PrintWords renaming blk_drewN → bN, blk_drew → bD, blk_alloc → bA, below_set → bS, blk_frozen → bF, blk_cell → bC, cell_far → cF, blk_far → bZ, blk_below → bB, pw_below_drewN → bwN, below_drew1 → bw1, below_alloc → bwA
open Go.Proofs.YtpcipmhblknokaaW.PrintZ
open Bool renaming true → T,false → F

attribute [local go_sem high] eqA27
theorem gram_calls {w : World} (s : ByteArray) : Calls Try.prog 18 #[.string s] w fun e w' => e = .returned (.agg #[.int .i64 1, .int .i64 2, .string s, .int .i64 0]) ∧ Below w.heap.size w w' := beaconlaw11_gram.calls s 1 2 s 0 w rfl
theorem Fr.up {w0 w w' : World} {N base g : Nat} {P : Nat → Prop} {u : Value} {m : List S27} (h : Fr w w' g u.ownBlock) (FL : Fl w base P g u m) (hb : Below N w0 w) (hg : N ≤ g) (hN : N ≤ base) : Below N w0 w' := by
  have hs := hb.size
  have hl := own_base (R27.1 FL.row).2
  exact ⟨h.os.trans hb.os, h.tape.trans hb.tape, h.output.trans hb.output, Nat.le_trans hb.size h.size, fun k hk => (h.block k (by have := blk_lt FL.blk; omega) (by omega) (fun e => by have := hl k e.symm; omega)).trans (hb.block k hk)⟩
theorem Fl.fresh {w : World} {base g G : Nat} {P : Nat → Prop} {u : Value} {m : List S27} (h : Fl w base P g u m) (hG : G = w.heap.size) : g ≠ G ∧ some G ≠ u.ownBlock := by
  have h1 := blk_lt h.blk
  have h2 := own_lt (R27.1 h.row).2
  exact ⟨by omega, fun e => by have := h2 _ e.symm; omega⟩
theorem Fl.st4 {W : World} {base g G : Nat} {P : Nat → Prop} {u : Value} {m : List S27} (h : Fl W base P g u m) (hg : g ≠ G ∧ some G ≠ u.ownBlock) (a b c d : Value) : Fl ((((W.setCell ⟨G, 0, none⟩ a).setCell ⟨G, 1, none⟩ b).setCell ⟨G, 2, none⟩ c).setCell ⟨G, 3, none⟩ d) base P g u m :=
  ⟨blk_far (blk_far (blk_far (blk_far h.blk hg.1 a) hg.1 b) hg.1 c) hg.1 d, R_st4 h.row hg.2 a b c d⟩
theorem Fl.drew {W : World} {base g : Nat} {P : Nat → Prop} {u : Value} {m : List S27} (h : Fl W base P g u m) : Fl W.drew base P g u m := ⟨bD h.blk, Kd.R_drew h.row⟩
def awake.T5 : Bool × List (List Nat × List Nat) := (true, [([], []), ([0], [0]), ([1], [1]), ([2], [2]), ([2, 2], [2]), ([3, 4, 2], [2, 3, 4]), ([2, 5], [2, 5]), ([6, 4], [6]), ([7], [7]), ([8, 7, 7], [7, 8]), ([9, 7], [7, 9]), ([7, 10], [7, 10]), ([11, 9, 0, 1, 2, 3, 4, 5, 6, 7, 8, 9, 10, 11], [11])])
def awake.B5 : List Nat := [0, 1, 3, 7, 7, 31, 63, 127, 255, 511, 1023, 2047, 4095]
theorem awake.tab5 : rtab .any (opsOf Try.f12 5) = awake.T5 := by kernel_rfl
theorem awake.bits5 : waitsOk awake.T5.2 awake.B5 = true := by kernel_rfl
theorem take_awake {w : World} {base g : Nat} {P : Nat → Prop} {u : Value} (FL : Fl w base P g u ([] ++ [⟨1, 2, ⟨#[97]⟩, 0⟩] ++ [⟨1, 2, ⟨#[98]⟩, 0⟩])) : Calls Try.prog 20 #[.pointer (some ⟨g, 0, none⟩), .int .i64 1] w fun e w' => ∃ u', e = .returned (.tuple #[.agg #[.int .i64 1, .int .i64 2, .string ⟨#[98]⟩, .int .i64 0], .int .i64 0]) ∧ Fl w' base P g u' [⟨1, 2, ⟨#[97]⟩, 0⟩] ∧ Fr w w' g u.ownBlock :=
  (take_yes (n := 1) (by decide) (by decide) FL).mono fun e w' ⟨u', he, h1, h2, _⟩ => ⟨u', he, h1, h2⟩
set_option maxHeartbeats 4000000 in
set_option maxRecDepth 100000 in
theorem awake_calls {w : World} : Calls Try.prog 12 #[] w fun e w' => e = .returned (.bool true) ∧ Below w.heap.size w w' := by
  have HB := zA (Below.refl w.heap.size w)
  have hu27 := Try.underlying27
  have m1 : mayB ⟨1, 2, ⟨#[97]⟩, 0⟩ = true := by kernel_rfl
  have m2 : mayB ⟨1, 2, ⟨#[98]⟩, 0⟩ = true := by kernel_rfl
  go_enter Try.func12, Try.ntmps12
  go_wp2_with (first | ((with_reducible refine gate_callee (f := 8) rfl ?_); refine zg (some 4) Try.func8 #[] ?_; (with_reducible refine new_calls.mono ?_); rintro e w4 ⟨g, rfl, hg, hk, hb⟩; refine ⟨_, rfl, ?_⟩; have FL := zA (show Fl w4 w.heap.size (fun _ => True) g (.slice none 0 0) [] from ⟨hk, Kd.R_nil _ _ _ _ _⟩); have GW := zA hg; replace HB := zS HB hb; clear hb hk hg) | (go_at_call 18; (with_reducible refine (gram_calls _).mono ?_); rintro e w5 ⟨rfl, hb⟩; replace FL := zA (FL.out.below hb); replace HB := zS HB hb; clear hb) | (go_at_call 9; (with_reducible refine (put_yes ⟨1, 2, ⟨#[97]⟩, 0⟩ m1 (by decide) FL.out (zW HB) (fun _ _ => trivial)).mono ?_); rintro e w6 ⟨u1, rfl, hF, hr, hv⟩; replace HB := zA (Fr.up hr FL.out HB.out GW.out (Nat.le_refl _)); replace FL := zA hF; clear hF hr hv) | (go_at_call 9; (with_reducible refine (put_yes ⟨1, 2, ⟨#[98]⟩, 0⟩ m2 (by decide) FL.out (zW HB) (fun _ _ => trivial)).mono ?_); rintro e w7 ⟨u2, rfl, hF, hr, hv⟩; replace HB := zA (Fr.up hr FL.out HB.out GW.out (Nat.le_refl _)); replace FL := zA hF; clear hF hr hv) | ((with_reducible refine gate_callee (f := 20) rfl ?_); refine zg (some 21) Try.func20 #[.pointer (some ⟨g, 0, none⟩), .int .i64 1] ?_; (with_reducible refine (take_awake FL.out).mono ?_); rintro e w8 ⟨u3, rfl, hF, hr⟩; refine ⟨_, rfl, ?_⟩; replace HB := zA (Fr.up hr FL.out HB.out GW.out (Nat.le_refl _)); replace FL := zA hF; clear hF hr) | ((with_reducible refine gate_dst (N := 2) rfl ?_); refine zb (N := 2) (cs := #[.int .i64 0, .int .i64 0, .string ⟨#[]⟩, .int .i64 0]) (t := 27) ?_; intro G2 hg w9 hbox hb; have K2 := zA hbox; have GW2 := zN HB hg; have NF := zA (Fl.fresh FL.out hg); replace FL := zA (FL.out.below hb); replace HB := zS HB hb; clear hb hbox hg; obtain ⟨_, _, _, _, _, _, _, _⟩ := zc4 K2) | ((with_reducible refine gate_store (t := 27) (p := 2) rfl ?_); refine store_event (t := 27) (p := 2) (v := ?vo) (w1 := ((((w9.setCell ⟨G2, 0, none⟩ (.int .i64 1)).setCell ⟨G2, 1, none⟩ (.int .i64 2)).setCell ⟨G2, 2, none⟩ (.string ⟨#[98]⟩)).setCell ⟨G2, 3, none⟩ (.int .i64 0))) ?hg ?ho ?hn ?hr ?_; (case ho => rfl); (case hg => rfl); (case hn => rfl); (case hr => first|(go_simp;done)|(go_simp;rfl)); intro w10 hw; replace FL : Aside0 (Fl w10 w.heap.size (fun _ => True) g u3 [⟨1, 2, ⟨#[97]⟩, 0⟩]) := ⟨by rw [hw]; exact Fl.st4 FL.out NF.out _ _ _ _⟩; replace K2 := zVp hw (.cells #[.int .i64 1, .int .i64 2, .string ⟨#[98]⟩, .int .i64 0] 27 (0, 0)) K2; replace HB := zU hw HB; clear hw; obtain ⟨x0, x1, x2, x3, _, _, _, _⟩ := zc4 K2))
  refine start_ (n := 13) (S := fun w' => w'.cell? ⟨G2, 0, none⟩ = some (.int .i64 1) ∧ w'.cell? ⟨G2, 1, none⟩ = some (.int .i64 2) ∧ w'.cell? ⟨G2, 2, none⟩ = some (.string ⟨#[98]⟩) ∧ w'.cell? ⟨G2, 3, none⟩ = some (.int .i64 0)) (ds := []) #[F,F,F,F,F,F,F,F,F,F,F,F,F] (by kernel_rfl) rfl rfl ⟨x0, x1, x2, x3⟩ (fun hHeld => ?_)
  refine with_tabW awake.tab5 awake.bits5 (fun HT_ HW_ => ?_)
  replace FL := zA (Fl.drew FL.out)
  replace HB := zA (bw1 HB.1)
  clear x0 x1 x2 x3 K2
  generalize w10.drew = w11 at FL HB hHeld ⊢
  refine pz 0 24 #[T,F,F,F,F,F,F,F,F,F,F,F,F] HT_.1 ?_
  refine pz 1 25 #[T,T,F,F,F,F,F,F,F,F,F,F,F] HT_.1 ?_
  refine pz 2 26 #[T,T,T,F,F,F,F,F,F,F,F,F,F] HT_.1 ?_
  refine tz 3 27 #[T,T,T,T,F,F,F,F,F,F,F,F,F] HT_.1 HW_.1 hHeld ?_
  refine one_ (i := 4) (N := some 28) #[T,T,T,T,T,F,F,F,F,F,F,F,F] rfl rfl (one_of HT_.out (by kernel_rfl)) (by decide) (fun K hK => ?_)
  refine zo_ Try.func18 #[.string ⟨#[98]⟩] ?_
  refine (gram_calls _).mono ?_
  rintro e w12 ⟨rfl, hb⟩
  have c := fun {a : Addr} {v : Value} (h : w11.cell? a = some v) => (hb.cell (World.block_lt_of_cell? _ _ h)).trans h
  replace FL := zA (FL.out.below hb)
  replace HB := zS HB hb
  refine ⟨_, rfl, ?_⟩
  refine hK.out _ _ ⟨c hHeld.1, c hHeld.2.1, c hHeld.2.2.1, c hHeld.2.2.2⟩ (fun hHeld => ?_)
  clear hK K c hb
  refine nz 28 ?_
  refine pz 5 29 #[T,T,T,T,T,T,F,F,F,F,F,F,F] HT_.1 ?_
  refine pz 6 30 #[T,T,T,T,T,T,T,F,F,F,F,F,F] HT_.1 ?_
  refine pz 7 31 #[T,T,T,T,T,T,T,T,F,F,F,F,F] HT_.1 ?_
  refine pz 8 32 #[T,T,T,T,T,T,T,T,T,F,F,F,F] HT_.1 ?_
  refine one_ (i := 9) (N := some 33) #[T,T,T,T,T,T,T,T,T,T,F,F,F] rfl rfl (one_of HT_.out (by kernel_rfl)) (by decide) (fun K hK => ?_)
  refine zo_ Try.func21 #[.pointer (some ⟨g, 0, none⟩)] ?_
  obtain ⟨A, c, rfl, _, _⟩ := Kd.R_reads FL.out.row
  refine (len_calls FL.out.blk).mono ?_
  rintro e w13 ⟨rfl, hww⟩
  replace hww := hww.symm
  subst hww
  refine ⟨_, rfl, ?_⟩
  refine hK.out _ _ hHeld (fun hHeld => ?_)
  clear hK K
  refine nz 33 ?_
  refine pz 10 34 #[T,T,T,T,T,T,T,T,T,T,T,F,F] HT_.1 ?_
  refine pz 11 35 #[T,T,T,T,T,T,T,T,T,T,T,T,F] HT_.1 ?_
  refine pz 12 0 #[T,T,T,T,T,T,T,T,T,T,T,T,T] HT_.1 ?_
  refine done_ (done_of HT_.out (by kernel_rfl)) ?_
  go_wp2
  go_ret
  exact ⟨rfl, HB.out⟩
end Go.Proofs.Ytpcipmhblknokaa.Ch
