/- TableKeeps: what Keep keeps of any table and any list, with any room, is what the reference keeps; Check answers alike. -/
import Derived.Test.YtgmjlhpigfaicaaSTableKeeps
import Derived.Test.YtgmjlhpigfaicaaTA
namespace Go.Proofs.Ytgmjlhpigfaicaa.Pure
open Go.RowKit Go.Proofs.YtgmjlhpigfaicaaW.PrintWords Go.Proofs.Ytgmjlhpigfaicaa.XA

theorem TableKeeps : Go.Proofs.Ytgmjlhpigfaicaa.XA.TableKeeps.Pure := by
  rintro ⟨l, b⟩ now room ⟨⟨hl0, _⟩, _⟩ ⟨hn0, _⟩ ⟨_, hr⟩
  have hl : l.length ≤ 2932031007401 := by
    have h : l.length * 48 ≤ 140737488351232 := hl0
    omega
  have hn : now.length ≤ 2932031007401 := by omega
  refine ⟨30 + (2 * now.length + l.length + 10), ?_⟩
  show beaconlaw17_TableKeeps.f (30 + (2 * now.length + l.length + 10)) l b now room = some true
  have aw := awake_f (2 * now.length + l.length + 10)
  generalize hK : 30 + (2 * now.length + l.length + 10) = K at aw ⊢
  have hlen := keep_len l b now room
  have e1 := ownR l b (by omega) K (by omega)
  have e2 := copyR now (by omega) K (by omega)
  have e3 := keepT l b now room hl hn hr K (by omega)
  have e4 := keepR l b now room hl hn K (by omega)
  have e5 := same_t (keepS l b now room).1 (keepS l b now room).2.1 (by omega) K (by omega)
  have e6 := mayT l (by omega) K (by omega)
  have e7 := mayR l (by omega) K (by omega)
  unfold beaconlaw17_TableKeeps.f
  simp only [e1, e2, e3, e4, e5, e6, e7, aw, Option.bind_some, if_true, table_Check.f, beaconref17_Check.f]
  cases mayb l <;> simp
end Go.Proofs.Ytgmjlhpigfaicaa.Pure
