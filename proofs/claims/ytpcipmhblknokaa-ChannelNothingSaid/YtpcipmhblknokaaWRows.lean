-- (what is not named in this seat's texts is left out)
import Derived.Test.YtpcipmhblknokaaWFloat
import Derived.SizedLaws
import Derived.Deep.Slices
import Derived.ChangeArms
import Derived.OpenShut
import Derived.WideShapes
import Derived.Laws.Cover2
namespace Go.Proofs.YtpcipmhblknokaaW.PrintWords
open Go.ChangeShapes Go.WideShapes Go.Deep
structure Opens (P : Program) (t : TypeId) {α : Type} (d : Kd α) (G : α → Prop) : Prop where
  size : P.cellsOf t = d.sz
  opn : ∀ {H : Type} (enc : TypeId × Value → H) (w : World) (base : Nat) (held : Bool) (fuel : Nat) (cs : List Value) (x : DataW H × List MemPlace),
    DataW.trod enc P w base (fun _ => true) held fuel t cs = some x → (∀ n ∈ x.1.weights P t, n ≤ 140737488351232) → ∃ a, d.K w a cs ∧ G a
theorem Opens.mono {P : Program} {t : TypeId} {α : Type} {d : Kd α} {G G' : α → Prop} (h : Opens P t d G) (hg : ∀ a, G a → G' a) : Opens P t d G' :=
  ⟨h.size, fun enc w base held fuel cs x hx hw => by
    obtain ⟨a, h1, h2⟩ := h.opn enc w base held fuel cs x hx hw
    exact ⟨a, h1, hg a h2⟩⟩
theorem Opens.int {P : Program} {t : TypeId} {k : IntKind} (ht : P.underlying t = some (.int k)) (hc : P.cellsOf t = 1) {lo hi : Int} (hlo : k.min = lo) (hhi : k.max = hi) : Opens P t (Kd.int k) (fun a => lo ≤ a ∧ a ≤ hi) :=
  ⟨hc, fun enc w base held fuel cs x hx _ => by
    obtain ⟨n, h1, _, h3⟩ := DataW.trod_int ht hx
    subst hlo; subst hhi
    refine ⟨n, h1, ?_⟩
    simpa [Lit.wf] using h3⟩
theorem Opens.bool {P : Program} {t : TypeId} (ht : P.underlying t = some .bool) (hc : P.cellsOf t = 1) : Opens P t Kd.bool (fun _ => True) :=
  ⟨hc, fun enc w base held fuel cs x hx _ => by
    obtain ⟨n, h1, _⟩ := DataW.trod_bool ht hx
    exact ⟨n, h1, trivial⟩⟩
theorem Opens.string {P : Program} {t : TypeId} (ht : P.underlying t = some .string) (hc : P.cellsOf t = 1) : Opens P t Kd.string (fun s => s.size ≤ 140737488351232) :=
  ⟨hc, fun enc w base held fuel cs x hx hw => by
    obtain ⟨s, h1, h2, _⟩ := DataW.trod_string ht hx
    subst h2
    refine ⟨s, h1, ?_⟩
    have := hw s.data.toList.length (by simp [DataW.weights])
    simpa using this⟩
theorem Opens.float {P : Program} {t : TypeId} (ht : P.underlying t = some (.float .f64)) (hc : P.cellsOf t = 1) : Opens P t Kd.float64 (fun a => a < 18446744073709551616) :=
  ⟨hc, fun enc w base held fuel cs x hx _ => by
    cases fuel with
    | zero => simp [DataW.trod] at hx
    | succ n =>
      unfold DataW.trod at hx
      rw [ht] at hx
      split at hx <;> simp_all
      rename_i hq
      subst hq
      exact ⟨_, rfl, by simpa [Lit.wf] using hx.1.2⟩⟩
structure OpensF (P : Program) (fs : List Field) (off : Nat) {α : Type} (d : Kd α) (G : α → Prop) : Prop where
  opn : ∀ {H : Type} (enc : TypeId × Value → H) (w : World) (base : Nat) (held : Bool) (n : Nat) (cs : List Value) (xs : List (DataW H × List MemPlace)),
    cs.length = off + d.sz → xs.length = fs.length → (∀ (i : Nat) (f : Field), fs[i]? = some f → DataW.trod enc P w base (fun _ => true) held n f.type ((cs.drop f.offset).take (P.cellsOf f.type)) = xs[i]?) →
    (∀ m ∈ DataW.weightsEach P (fs.map (·.type)) (xs.map (·.1)), m ≤ 140737488351232) → ∃ a, d.K w a (cs.drop off) ∧ G a
theorem OpensF.one {P : Program} {f : Field} {off : Nat} {α : Type} {d : Kd α} {G : α → Prop} (ho : f.offset = off) (h : Opens P f.type d G) : OpensF P [f] off d G :=
  ⟨fun enc w base held n cs xs hl hx hf hw => by
    match xs, hx with
    | [x], _ =>
      have h0 := hf 0 f rfl
      rw [ho, h.size, List.take_of_length_le (by rw [List.length_drop]; omega)] at h0
      exact h.opn enc w base held n _ x h0 (fun m hm => hw m (by simpa [DataW.weightsEach] using hm))⟩
theorem OpensF.cons {P : Program} {f : Field} {fs : List Field} {off : Nat} {α β : Type} {d : Kd α} {e : Kd β} {G : α → Prop} {G' : β → Prop} (ho : f.offset = off) (h : Opens P f.type d G) (hr : OpensF P fs (off + d.sz) e G') : OpensF P (f :: fs) off (Kd.pair d e) (fun x => G x.1 ∧ G' x.2) :=
  ⟨fun enc w base held n cs xs hl hx hf hw => by
    match xs, hx with
    | x :: xs, hx =>
      have h0 := hf 0 f rfl
      rw [ho, h.size] at h0
      obtain ⟨a, h1, h2⟩ := h.opn enc w base held n _ x h0 (fun m hm => hw m (by simp only [List.map_cons, DataW.weightsEach, List.mem_append]; exact .inl hm))
      obtain ⟨b, h3, h4⟩ := hr.opn enc w base held n cs xs (by rw [hl]; simp only [Kd.pair]; omega) (by simpa using hx) (fun i g hg => by simpa using hf (i + 1) g (by simpa using hg)) (fun m hm => hw m (by simp only [List.map_cons, DataW.weightsEach, List.mem_append]; exact .inr hm))
      exact ⟨(a, b), ⟨_, _, by rw [← List.drop_drop]; exact (List.take_append_drop _ _).symm, h1, h3⟩, h2, h4⟩⟩
theorem Opens.struct {P : Program} {t : TypeId} {fs : Array Field} {α β : Type} {d : Kd α} {G : α → Prop} {proj : β → α} (inv : α → β) (hi : ∀ a, proj (inv a) = a) (ht : P.underlying t = some (.struct fs)) (hc : P.cellsOf t = d.sz) (h : OpensF P fs.toList 0 d G) : Opens P t (Kd.iso d proj) (fun x => G (proj x)) :=
  ⟨hc, fun enc w base held fuel cs x hx hw => by
    obtain ⟨xs, n, _, rfl, hl, hn, hf⟩ := DataW.trod_struct ht hx
    obtain ⟨a, h1, h2⟩ := h.opn enc w base held n cs xs (by rw [hl, hc]; omega) (by simpa using hn) (fun i f hi => hf i f (by simpa using hi)) (fun m hm => hw m (by simpa [DataW.weights, ht] using hm))
    refine ⟨inv a, ?_, ?_⟩
    · show d.K w (proj (inv a)) cs
      rw [hi]; simpa using h1
    · show G (proj (inv a))
      rw [hi]; exact h2⟩
theorem list_of {α : Type} {p : Nat → α → Prop} : ∀ n, (∀ i, i < n → ∃ a, p i a) → ∃ xs : List α, xs.length = n ∧ ∀ i a, xs[i]? = some a → p i a
  | 0, _ => ⟨[], rfl, fun i a h => by simp at h⟩
  | n + 1, h => by
    obtain ⟨xs, hl, hp⟩ := list_of n (fun i hi => h i (by omega))
    obtain ⟨a, ha⟩ := h n (by omega)
    refine ⟨xs ++ [a], by simp [hl], fun i b hb => ?_⟩
    by_cases hi : i < n
    · rw [List.getElem?_append_left (by omega)] at hb
      exact hp i b hb
    · by_cases he : i = n
      · subst he
        rw [List.getElem?_append_right (by omega), hl, Nat.sub_self] at hb
        have : a = b := by simpa using hb
        subst this
        exact ha
      · rw [List.getElem?_eq_none (by simp; omega)] at hb
        simp at hb
theorem weights_all {H : Type} {P : Program} {e : TypeId} : ∀ (ds : List (DataW H)) (d : DataW H), d ∈ ds → ∀ m ∈ d.weights P e, m ∈ DataW.weightsAll P e ds
  | x :: r, d, hd, m, hm => by
    simp only [DataW.weightsAll, List.mem_append]
    rcases List.mem_cons.1 hd with rfl | hd
    · exact .inl hm
    · exact .inr (weights_all r d hd m hm)
theorem cells_get {w : World} {base : Nat} {a : Addr} {n : Nat} {cs : List Value} (h : w.cells? base a n = some cs) : cs.length = n ∧ ∀ i u, cs[i]? = some u → w.cell? (a.add i) = some u := by
  unfold World.cells? at h
  split at h
  · have hl : cs.length = n := by simpa using mapM_some_length h
    refine ⟨hl, fun i u hu => ?_⟩
    have hi : i < n := by
      rw [← hl]
      exact (List.getElem?_eq_some_iff.1 hu).1
    have := mapM_some_get h i i (by simp [hi])
    rw [this]; exact hu
  · cases h
theorem Opens.slice {P : Program} {t e : TypeId} {α : Type} {d : Kd α} {G : α → Prop} {B : Nat} (ht : P.underlying t = some (.slice e)) (hc : P.cellsOf t = 1) (hb : P.bytesOf e = B) (h : Opens P e d G) : Opens P t (Kd.slice e d) (fun xs => xs.length * B ≤ 140737488351232 ∧ ∀ x ∈ xs, G x) :=
  ⟨hc, fun enc w base held fuel cs x hx hw => by
    rcases open_slice ht hx with ⟨rfl, rfl⟩ | ⟨a, len, cap, m, n, D, Pl, rfl, _, hl, hm, hmm, rfl, hel⟩
    · exact ⟨[], ⟨none, 0, rfl, Nat.le_refl _, rfl, by simp, fun hn => absurd hn (by simp)⟩, by simp, by simp⟩
    · simp only [if_true] at hmm
      subst hmm
      have hw' : ∀ i, i < len → ∀ q ∈ (D i).weights P e, q ≤ 140737488351232 := fun i hi q hq => hw q (by
        simp only [DataW.weights, ht, List.mem_cons, List.mem_append]
        exact .inr (.inl (weights_all _ (D i) (List.mem_map.2 ⟨i, List.mem_range.2 hi, rfl⟩) q hq)))
      obtain ⟨xs, hxl, hxp⟩ := list_of (p := fun i a' => G a' ∧ ∃ c, c.length = d.sz ∧ d.K w a' c ∧ ∀ j u, c[j]? = some u → w.cell? (a.add (i * d.sz + j)) = some u) len (fun i hi => by
        obtain ⟨c, h1, h2⟩ := hel i (by omega)
        obtain ⟨a', h3, h4⟩ := h.opn enc w base held n c _ h2 (hw' i hi)
        obtain ⟨h5, h6⟩ := cells_get h1
        refine ⟨a', h4, c, by rw [h5, h.size], h3, fun j u hu => ?_⟩
        have := h6 j u hu
        rw [add_add, h.size] at this
        exact this)
      have hlen : (len + (m - len)) * P.bytesOf e ≤ 140737488351232 := hw _ (by simp [DataW.weights, ht])
      refine ⟨xs, ⟨some a, m, by rw [hxl], by omega, rfl, ?_, fun _ => ⟨a, rfl, fun j p hj => ?_⟩⟩, ?_, ?_⟩
      · rw [hxl]; unfold maxLen at hm; omega
      · exact (hxp j p hj).2
      · rw [hxl, ← hb]
        exact Nat.le_trans (Nat.mul_le_mul_right _ (by omega)) hlen
      · intro y hy
        obtain ⟨i, hi⟩ := List.mem_iff_getElem?.1 hy
        exact (hxp i y hi).1⟩
def elems (e c : Nat) : Nat → Nat → List Field
  | 0, _ => []
  | n + 1, i => { name := "", type := e, offset := i * c, embedded := false, tag := "", pkgPath := "", byteOffset := 0 } :: elems e c n (i + 1)
theorem elems_len (e c : Nat) : ∀ n i, (elems e c n i).length = n
  | 0, _ => rfl
  | n + 1, i => by simp [elems, elems_len e c n (i + 1)]
theorem elems_get (e c : Nat) : ∀ n i j f, (elems e c n i)[j]? = some f → j < n ∧ f.type = e ∧ f.offset = (i + j) * c
  | 0, _, j, f, h => by simp [elems] at h
  | n + 1, i, 0, f, h => by
    simp only [elems, List.getElem?_cons_zero, Option.some.injEq] at h
    subst h
    exact ⟨by omega, rfl, rfl⟩
  | n + 1, i, j + 1, f, h => by
    simp only [elems, List.getElem?_cons_succ] at h
    obtain ⟨h1, h2, h3⟩ := elems_get e c n (i + 1) j f h
    exact ⟨by omega, h2, by rw [h3]; congr 1; omega⟩
theorem elems_weights {H : Type} {P : Program} (e c : Nat) : ∀ n i (ds : List (DataW H)), ds.length = n → DataW.weightsEach P ((elems e c n i).map (·.type)) ds = DataW.weightsAll P e ds
  | 0, i, ds, h => by
    obtain rfl := List.length_eq_zero_iff.1 h
    simp [elems, DataW.weightsEach, DataW.weightsAll]
  | n + 1, i, [], h => by simp at h
  | n + 1, i, d :: r, h => by
    have := elems_weights (H := H) (P := P) e c n (i + 1) r (by simpa using h)
    simp only [elems, List.map_cons, DataW.weightsEach, DataW.weightsAll, this]
theorem Opens.array {P : Program} {t e : TypeId} {n c : Nat} {α β : Type} {d : Kd α} {G : α → Prop} {proj : β → α} (inv : α → β) (hi : ∀ a, proj (inv a) = a) (ht : P.underlying t = some (.array n e)) (hc : P.cellsOf t = d.sz) (he : P.cellsOf e = c) (h : OpensF P (elems e c n 0) 0 d G) : Opens P t (Kd.iso d proj) (fun x => G (proj x)) :=
  ⟨hc, fun enc w base held fuel cs x hx hw => by
    obtain ⟨xs, m, _, rfl, hl, hn, hf⟩ := DataW.trod_array ht hx
    obtain ⟨a, h1, h2⟩ := h.opn enc w base held m cs xs (by rw [hl, hc]; omega) (by rw [hn, elems_len]) (fun i f hi => by
      obtain ⟨h3, h4, h5⟩ := elems_get e c n 0 i f hi
      rw [h4, h5, Nat.zero_add, ← he]
      exact hf i h3) (fun m hm => hw m (by rw [elems_weights e c n 0 _ (by simpa using hn)] at hm; simpa [DataW.weights, ht] using hm))
    refine ⟨inv a, ?_, ?_⟩
    · show d.K w (proj (inv a)) cs
      rw [hi]; simpa using h1
    · show G (proj (inv a))
      rw [hi]; exact h2⟩
end Go.Proofs.YtpcipmhblknokaaW.PrintWords
