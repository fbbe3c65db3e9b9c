/- What the methods tell of a flight that nobody made, by hand. -/
import Derived.Test.YtpcipmhblknokaaCG
import Derived.Test.YtpcipmhblknokaaCH
namespace Go.Proofs.Ytpcipmhblknokaa.Ch
open Go.RowKit Go.Proofs.Ytpcipmhblknokaa.XC Go.Proofs.YtpcipmhblknokaaW.PrintWords Go.Proofs.YtpcipmhblknokaaW.PrintLast Go.Proofs.YtpcipmhblknokaaW.PrintMore
attribute [local go_sem] max2_int min2_int max_two min_two max_three min_three max_four min_four   -- for this text's walks alone
set_option linter.unusedVariables false
set_option linter.unusedSimpArgs false
open List renaming setIfInBounds_toArray → xA, set_cons_zero → xB, set_cons_succ → xC
open Go.Proofs.YtpcipmhblknokaaW.PrintWords renaming blk_drewN → bN, blk_drew → bD, blk_alloc → bA, below_set → bS, blk_frozen → bF, blk_cell → bC, cell_far → cF, blk_far → bZ, blk_below → bB, pw_below_drewN → bwN, below_drew1 → bw1, below_alloc → bwA
open Go.Proofs.YtpcipmhblknokaaW.PrintZ
open Bool renaming true → T,false → F

section
variable {w : World} {g n c : Nat} {A : Option Addr}
theorem take_not (hK : FB w g false A n c) (i : Int) : Calls Try.prog 20 #[.pointer (some ⟨g, 0, none⟩), .int .i64 i] w fun e w' => e = .returned (.tuple #[.agg #[.int .i64 0, .int .i64 0, .string ⟨#[]⟩, .int .i64 0], .int .i64 1]) ∧ Below w.heap.size w w' := by
  have HB := zA (Below.refl w.heap.size w)
  have hu27 := Try.underlying27
  have K1 := zA hK
  go_enter Try.func20, Try.ntmps20
  go_wp2_with (first | ((with_reducible refine gate_dst (N := 4) rfl ?_); refine zb (N := 4) (cs := #[.int .i64 0, .int .i64 0, .string ⟨#[]⟩, .int .i64 0]) (t := 27) ?_; intro G4 hg w1 hbox hb; have K4 := zA hbox; have GW4 := zN HB hg; replace K1 := zB K1 hb; replace HB := zS HB hb; clear hb hbox hg; obtain ⟨_, _, _, _, _, _, _, _⟩ := zc4 K4) | ((with_reducible refine gate_callee (f := 22) rfl ?_); refine zg (some 9) Try.func22 #[.pointer (some ⟨g, 0, none⟩)] ?_; (with_reducible refine (is_calls K1.out).mono ?_); rintro e w4 ⟨rfl, hww⟩; replace hww := hww.symm; subst hww; refine ⟨_, rfl, ?_⟩))
  refine bodyPost_ret (results_list (rs := [.cell 4 27, .tmp 5]) rfl (by simp) (.cell G4 27 #[.int .i64 0, .int .i64 0, .string ⟨#[]⟩, .int .i64 0] (0, 0) _ rfl (zF K4) Try.underlying27 rfl (by kernel_rfl) (.tmp .nil))) rfl ?_
  exact ⟨rfl, zH HB⟩
theorem do_not (hK : FB w g false A n c) (a b k : Int) : Calls Try.prog 11 #[.pointer (some ⟨g, 0, none⟩), .agg #[.int .i64 a, .int .i64 b, .int .i64 k]] w fun e w' => e = .returned (.tuple #[.agg #[.int .i64 0, .int .i64 0, .string ⟨#[]⟩, .int .i64 0], .int .i64 1]) ∧ Below w.heap.size w w' := by
  have HB := zA (Below.refl w.heap.size w)
  have hu27 := Try.underlying27
  have K1 := zA hK
  go_enter Try.func11, Try.ntmps11
  go_wp2_with (first | ((with_reducible refine gate_dst (N := 3) rfl ?_); refine zb (N := 3) (cs := #[.int .i64 a, .int .i64 b, .int .i64 k]) (t := 29) ?_; intro G3 hg w0 hbox hb; replace K1 := zB K1 hb; replace HB := zS HB hb; clear hb hbox hg) | ((with_reducible refine gate_dst (N := 4) rfl ?_); refine zb (N := 4) (cs := #[.int .i64 0, .int .i64 0, .string ⟨#[]⟩, .int .i64 0]) (t := 27) ?_; intro G4 hg w1 hbox hb; have K4 := zA hbox; have GW4 := zN HB hg; replace K1 := zB K1 hb; replace HB := zS HB hb; clear hb hbox hg; obtain ⟨_, _, _, _, _, _, _, _⟩ := zc4 K4) | ((with_reducible refine gate_callee (f := 22) rfl ?_); refine zg (some 8) Try.func22 #[.pointer (some ⟨g, 0, none⟩)] ?_; (with_reducible refine (is_calls K1.out).mono ?_); rintro e w4 ⟨rfl, hww⟩; replace hww := hww.symm; subst hww; refine ⟨_, rfl, ?_⟩))
  refine bodyPost_ret (results_list (rs := [.cell 4 27, .tmp 5]) rfl (by simp) (.cell G4 27 #[.int .i64 0, .int .i64 0, .string ⟨#[]⟩, .int .i64 0] (0, 0) _ rfl (zF K4) Try.underlying27 rfl (by kernel_rfl) (.tmp .nil))) rfl ?_
  exact ⟨rfl, zH HB⟩
theorem put_not (hK : FB w g false A n c) (x : S27) : Calls Try.prog 9 #[.pointer (some ⟨g, 0, none⟩), .agg #[.int .i64 x.f0, .int .i64 x.f1, .string x.f2, .int .i64 x.f3]] w fun e w' => e = .returned (.int .i64 1) ∧ Below w.heap.size w w' := by
  have HB := zA (Below.refl w.heap.size w)
  have K1 := zA hK
  go_enter Try.func9, Try.ntmps9
  go_wp2_with (first | ((with_reducible refine gate_dst (N := 3) rfl ?_); refine zb (N := 3) (cs := #[.int .i64 x.f0, .int .i64 x.f1, .string x.f2, .int .i64 x.f3]) (t := 27) ?_; intro G2 hg w1 hbox hb; replace K1 := zB K1 hb; replace HB := zS HB hb; clear hb hbox hg) | ((with_reducible refine gate_callee (f := 22) rfl ?_); refine zg (some 7) Try.func22 #[.pointer (some ⟨g, 0, none⟩)] ?_; (with_reducible refine (is_calls K1.out).mono ?_); rintro e w4 ⟨rfl, hww⟩; replace hww := hww.symm; subst hww; refine ⟨_, rfl, ?_⟩))
  go_ret
  exact ⟨rfl, HB.out⟩
theorem ready_not (hK : FB w g false A n c) : Calls Try.prog 19 #[.pointer (some ⟨g, 0, none⟩)] w fun e w' => e = .returned (.slice none 0 0) ∧ w' = w := by
  have K1 := zA hK
  go_enter Try.func19, Try.ntmps19
  go_wp2_with (first | ((with_reducible refine gate_callee (f := 22) rfl ?_); refine zg (some 7) Try.func22 #[.pointer (some ⟨g, 0, none⟩)] ?_; (with_reducible refine (is_calls K1.out).mono ?_); rintro e w4 ⟨rfl, hww⟩; replace hww := hww.symm; subst hww; refine ⟨_, rfl, ?_⟩) | fail)
  go_ret
  exact ⟨rfl, rfl⟩
theorem take_nil (i : Int) : Calls Try.prog 20 #[.pointer none, .int .i64 i] w fun e w' => e = .returned (.tuple #[.agg #[.int .i64 0, .int .i64 0, .string ⟨#[]⟩, .int .i64 0], .int .i64 1]) ∧ Below w.heap.size w w' := by
  have HB := zA (Below.refl w.heap.size w)
  have hu27 := Try.underlying27
  go_enter Try.func20, Try.ntmps20
  go_wp2_with (first | ((with_reducible refine gate_dst (N := 4) rfl ?_); refine zb (N := 4) (cs := #[.int .i64 0, .int .i64 0, .string ⟨#[]⟩, .int .i64 0]) (t := 27) ?_; intro G4 hg w1 hbox hb; have K4 := zA hbox; have GW4 := zN HB hg; replace HB := zS HB hb; clear hb hbox hg; obtain ⟨_, _, _, _, _, _, _, _⟩ := zc4 K4) | ((with_reducible refine gate_callee (f := 22) rfl ?_); refine zg (some 9) Try.func22 #[.pointer none] ?_; (with_reducible refine (is_nil).mono ?_); rintro e w4 ⟨rfl, hww⟩; replace hww := hww.symm; subst hww; refine ⟨_, rfl, ?_⟩))
  refine bodyPost_ret (results_list (rs := [.cell 4 27, .tmp 5]) rfl (by simp) (.cell G4 27 #[.int .i64 0, .int .i64 0, .string ⟨#[]⟩, .int .i64 0] (0, 0) _ rfl (zF K4) Try.underlying27 rfl (by kernel_rfl) (.tmp .nil))) rfl ?_
  exact ⟨rfl, zH HB⟩
theorem do_nil (a b k : Int) : Calls Try.prog 11 #[.pointer none, .agg #[.int .i64 a, .int .i64 b, .int .i64 k]] w fun e w' => e = .returned (.tuple #[.agg #[.int .i64 0, .int .i64 0, .string ⟨#[]⟩, .int .i64 0], .int .i64 1]) ∧ Below w.heap.size w w' := by
  have HB := zA (Below.refl w.heap.size w)
  have hu27 := Try.underlying27
  go_enter Try.func11, Try.ntmps11
  go_wp2_with (first | ((with_reducible refine gate_dst (N := 3) rfl ?_); refine zb (N := 3) (cs := #[.int .i64 a, .int .i64 b, .int .i64 k]) (t := 29) ?_; intro G3 hg w0 hbox hb; replace HB := zS HB hb; clear hb hbox hg) | ((with_reducible refine gate_dst (N := 4) rfl ?_); refine zb (N := 4) (cs := #[.int .i64 0, .int .i64 0, .string ⟨#[]⟩, .int .i64 0]) (t := 27) ?_; intro G4 hg w1 hbox hb; have K4 := zA hbox; have GW4 := zN HB hg; replace HB := zS HB hb; clear hb hbox hg; obtain ⟨_, _, _, _, _, _, _, _⟩ := zc4 K4) | ((with_reducible refine gate_callee (f := 22) rfl ?_); refine zg (some 8) Try.func22 #[.pointer none] ?_; (with_reducible refine (is_nil).mono ?_); rintro e w4 ⟨rfl, hww⟩; replace hww := hww.symm; subst hww; refine ⟨_, rfl, ?_⟩))
  refine bodyPost_ret (results_list (rs := [.cell 4 27, .tmp 5]) rfl (by simp) (.cell G4 27 #[.int .i64 0, .int .i64 0, .string ⟨#[]⟩, .int .i64 0] (0, 0) _ rfl (zF K4) Try.underlying27 rfl (by kernel_rfl) (.tmp .nil))) rfl ?_
  exact ⟨rfl, zH HB⟩
theorem put_nil (x : S27) : Calls Try.prog 9 #[.pointer none, .agg #[.int .i64 x.f0, .int .i64 x.f1, .string x.f2, .int .i64 x.f3]] w fun e w' => e = .returned (.int .i64 1) ∧ Below w.heap.size w w' := by
  have HB := zA (Below.refl w.heap.size w)
  go_enter Try.func9, Try.ntmps9
  go_wp2_with (first | ((with_reducible refine gate_dst (N := 3) rfl ?_); refine zb (N := 3) (cs := #[.int .i64 x.f0, .int .i64 x.f1, .string x.f2, .int .i64 x.f3]) (t := 27) ?_; intro G2 hg w1 hbox hb; replace HB := zS HB hb; clear hb hbox hg) | ((with_reducible refine gate_callee (f := 22) rfl ?_); refine zg (some 7) Try.func22 #[.pointer none] ?_; (with_reducible refine (is_nil).mono ?_); rintro e w4 ⟨rfl, hww⟩; replace hww := hww.symm; subst hww; refine ⟨_, rfl, ?_⟩))
  go_ret
  exact ⟨rfl, HB.out⟩
theorem ready_nil : Calls Try.prog 19 #[.pointer none] w fun e w' => e = .returned (.slice none 0 0) ∧ w' = w := by
  go_enter Try.func19, Try.ntmps19
  go_wp2_with (first | ((with_reducible refine gate_callee (f := 22) rfl ?_); refine zg (some 7) Try.func22 #[.pointer none] ?_; (with_reducible refine (is_nil).mono ?_); rintro e w4 ⟨rfl, hww⟩; replace hww := hww.symm; subst hww; refine ⟨_, rfl, ?_⟩) | fail)
  go_ret
  exact ⟨rfl, rfl⟩
end
end Go.Proofs.Ytpcipmhblknokaa.Ch
