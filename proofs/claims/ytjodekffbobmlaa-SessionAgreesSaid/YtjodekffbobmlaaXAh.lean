/- A piece of a function's code by its place: so that a part of a walk may be a lemma of its own. -/
import Derived.Test.YtjodekffbobmlaaProg
namespace Go.Proofs.Ytjodekffbobmlaa.XA
/-- One step into a code's parts. -/
def stp : Nat → Code → Code
  | 0, .seq a _ => a
  | _, .seq _ b => b
  | 0, .cond _ a _ => a
  | _, .cond _ _ b => b
  | _, .loop c => c
  | _, .block _ c => c
  | _, c => c
/-- The piece of a function's body at a place. -/
def CODEAT (f : Func) (p : List Nat) : Code := p.foldl (fun c n => stp n c) (f.body.getD .skip)
end Go.Proofs.Ytjodekffbobmlaa.XA
