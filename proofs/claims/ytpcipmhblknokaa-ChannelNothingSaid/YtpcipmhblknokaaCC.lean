/- slices.Delete of one element, by hand. -/
import Derived.Test.YtpcipmhblknokaaCB
import Derived.Shelf.RegionOpenPlain
import Derived.Deep.RegionLaw
import Derived.Laws.IdiomCopy
import Derived.Lib.SliceRun
namespace Go.Proofs.Ytpcipmhblknokaa.Ch
open Go.RowKit Go.Proofs.Ytpcipmhblknokaa.XC Go.Proofs.YtpcipmhblknokaaW.PrintWords Go.Proofs.YtpcipmhblknokaaW.PrintLast Go.Proofs.YtpcipmhblknokaaW.PrintMore
attribute [local go_sem] max2_int min2_int max_two min_two max_three min_three max_four min_four   -- for this text's walks alone
set_option linter.unusedVariables false
set_option linter.unusedSimpArgs false
open List renaming setIfInBounds_toArray → xA, set_cons_zero → xB, set_cons_succ → xC
open Go.Proofs.YtpcipmhblknokaaW.PrintWords renaming blk_drewN → bN, blk_drew → bD, blk_alloc → bA, below_set → bS, blk_frozen → bF, blk_cell → bC, cell_far → cF, blk_far → bZ, blk_below → bB, pw_below_drewN → bwN, below_drew1 → bw1, below_alloc → bwA
open Go.Proofs.YtpcipmhblknokaaW.PrintZ
open Bool renaming true → T,false → F

def z27c : List Value := [.int .i64 0, .int .i64 0, .string ⟨#[]⟩, .int .i64 0]
/-- clear of one element. -/
theorem run_clear27 (w : World) (ty : TypeId) (b o c : Nat) (hc : ∀ j, j < 4 → (w.cell? ⟨b, o + j, none⟩).isSome = true) (hf : ∀ j, j < 4 → w.frozen? ⟨b, o + j, none⟩ = false) :
    (Builtin.clear_ #[34] ty #[.slice (some ⟨b, o, none⟩) 1 c]).run Try.prog w = .ok (.tuple #[]) (w.setCells b o z27c) := by
  have hst := run_storeCells_cells (P := Try.prog) b o z27c 0 w (by simpa [z27c] using hc) (by simpa [z27c] using hf) (by decide)
  simp only [Nat.add_zero] at hst
  have hz : ∀ w, (zeroValue 27).run Try.prog w = .ok (.agg #[.int .i64 0, .int .i64 0, .string ⟨#[]⟩, .int .i64 0]) w := fun w => by kernel_rfl
  have hzc : (Builtin.zeroCells (Value.agg #[.int .i64 0, .int .i64 0, .string ⟨#[]⟩, .int .i64 0]).cells 1).toList = z27c := by kernel_rfl
  simp [Builtin.clear_, run_underlying Try.underlying34, hz, hzc, hst]
section
variable {w : World} {g n cap i : Nat} {cur : Array Value}
theorem del_cells (hcur : w.heap[g]? = some (.cells cur 27 (0, 0))) (hs : cur.size = cap * 4) (hn : n ≤ cap) (hm : cap ≤ maxLen) (h1 : ∀ u ∈ cur.toList.take (n * 4), u.oneCell' = true) (hi : i < n) {j : Nat} (hj : j = i + 1) :
    Calls Try.prog 35 #[.slice (some ⟨g, 0, none⟩) n cap, .int .i64 i, .int .i64 j] w fun e w' => e = .returned (.slice (some ⟨g, 0, none⟩) (n - 1) cap) ∧
      w' = ((w.drew).setCells g (i * 4) ((cur.toList.take (n * 4)).drop (j * 4))).setCells g ((n - 1) * 4) z27c := by
  obtain ⟨news, hnews⟩ : ∃ news, news = (cur.toList.take (n * 4)).drop (j * 4) := ⟨_, rfl⟩
  have hlen : news.length = (n - j) * 4 := by rw [hnews]; simp; omega
  have hcs : cur.size = cur.toList.length := by simp
  have hget : ∀ t u, news[t]? = some u → cur[j * 4 + t]? = some u := by
    intro t u hu
    have ht := (List.getElem?_eq_some_iff.1 hu).1
    rw [hnews, List.getElem?_drop, List.getElem?_take_of_lt (by omega), Array.getElem?_toList] at hu
    exact hu
  have hcell : ∀ k u, cur[k]? = some u → w.cell? ⟨g, k, none⟩ = some u := by
    intro k u hu
    rw [bC hcur k]
    exact hu
  obtain ⟨A, hA, hsrc⟩ : ∃ A : Addr, (if cap = j then some (⟨g, 0, none⟩ : Addr) else some ⟨g, j * 4, none⟩) = some A ∧ Hid (∀ t u, news[t]? = some u → w.drew.cell? (A.add t) = some u) := by
    by_cases h : cap = j
    · refine ⟨⟨g, 0, none⟩, by simp [h], fun t u hu => ?_⟩
      have := (List.getElem?_eq_some_iff.1 hu).1
      omega
    · refine ⟨⟨g, j * 4, none⟩, by simp [h], fun t u hu => ?_⟩
      rw [Addr.add_lit]
      exact hcell _ u (hget t u hu)
  have s1 : Hid (news.length = (n - j) * 4) := hlen
  have s2 : Hid (∀ u ∈ news, u.oneCell' = true) := fun u hu => h1 u (List.mem_of_mem_drop (by rw [← hnews]; exact hu))
  have s3 : Hid (∀ t, t < news.length → (w.drew.cell? ⟨g, 0 + i * 4 + t, none⟩).isSome = true ∧ w.drew.frozen? ⟨g, 0 + i * 4 + t, none⟩ = false) := by
    intro t ht
    have hk : i * 4 + t < cur.size := by omega
    rw [Nat.zero_add]
    refine ⟨?_, bF hcur _⟩
    show (w.cell? _).isSome = true
    rw [hcell _ _ (Array.getElem?_eq_getElem hk)]
    rfl
  obtain ⟨W1, hW1⟩ : ∃ W1, W1 = w.drew.setCells g (0 + i * 4) news := ⟨_, rfl⟩
  have hW0 : W1 = (w.drew.setCells g (i * 4) news) := by rw [hW1, Nat.zero_add]
  have hcl : ∀ ty, (Builtin.clear_ #[34] ty #[.slice (some ⟨g, (i + (n - j)) * 4, none⟩) (n - (i + (n - j))) (cap - (i + (n - j)))]).run Try.prog W1 = .ok (.tuple #[]) (W1.setCells g ((n - 1) * 4) z27c) := by
    intro ty
    obtain ⟨cur', h2, h3, _⟩ := setCells_row news (i * 4) w.drew cur hcur (by omega)
    rw [← hW0] at h2
    rw [show i + (n - j) = n - 1 by omega, show n - (n - 1) = 1 by omega]
    refine run_clear27 W1 ty g ((n - 1) * 4) _ (fun t ht => ?_) (fun t ht => bF h2 _)
    have hk : (n - 1) * 4 + t < cur'.size := by omega
    rw [bC h2, Array.getElem?_eq_getElem hk]
    rfl
  obtain ⟨i0, hi0, hz1⟩ : ∃ i0, Try.prog.info? 27 = some i0 ∧ i0.size = 4 := by
    obtain ⟨i0, h, h2⟩ := Option.map_eq_some_iff.1 info27
    injection h2 with _ h2
    injection h2 with h2 _
    exact ⟨i0, h, h2⟩
  have hW : Hid (W1 = w.drew.setCells g (0 + i * 4) news) := hW1
  have hic : i ≤ cap := by omega
  have hjc : j ≤ cap := by omega
  have hjn : j ≤ n := by omega
  have hij : i ≤ j := by omega
  have hlt : i < j := by omega
  have mixed : Try.prog.follows Departure.mixedOrders = true := by kernel_rfl
  have hu34 := Try.underlying34
  have hjE : Hid (j = i + 1) := hj
  have hN : Hid (news = (cur.toList.take (n * 4)).drop (j * 4)) := hnews
  have hW0' : Hid (W1 = w.drew.setCells g (i * 4) news) := hW0
  clear hW1 hget hcell hlen hcs h1 hcur hj hnews hW0
  go_enter Try.func35, Try.ntmps35
  go_wp2_with fail
  go_region_law_o (refine step_append_room rfl (.tmp 22) (.tmp 25) 34 rfl 27 i0 4 hu34 hi0 hz1 g 0 i cap (by simp [Act.eval, Act.put]) A (n - j) (cap - j) news (by simp [Act.eval, Act.put]) s1.out hsrc.out s2.out (by omega) s3.out ?_; rw [← hW.out])
  go_wp2
  go_ret
  have hj := hjE.out
  rw [← hN.out, ← hW0'.out, ← show i + (n - j) = n - 1 by omega]
  exact ⟨rfl, rfl⟩
end
end Go.Proofs.Ytpcipmhblknokaa.Ch
