/-
  Scopes.
-/
import Derived.Test.YtfdlafjifjndeaaK12
import Derived.Scope
namespace Go.K
open Go Go.RowKit
variable {P : Program} {B : Nat} {w0 : Base} {N : Nat} {D : List Deferred} {env : Env} {H : Hp} {Q : Exit → Act → World → Prop}
theorem S_scope {c : Code} (h : Sx P B w0 N D c env H (Exit.noGoto Q)) : Sx P B w0 N D (.scope c) env H Q := fun a w hf hm => wp_scope_straight (h a w hf hm)
theorem E_noGoto_normal (h : Ex B w0 N D env H (Q .normal)) : Ex B w0 N D env H (Exit.noGoto Q .normal) := h
theorem E_noGoto_ret (h : Ex B w0 N D env H (Q .ret)) : Ex B w0 N D env H (Exit.noGoto Q .ret) := h
theorem E_noGoto_exit {id : Nat} (h : Ex B w0 N D env H (Q (.exit id))) : Ex B w0 N D env H (Exit.noGoto Q (.exit id)) := h
theorem calm_noGoto {u : Option Tmp} (h : Calm Q u) : Calm (Exit.noGoto Q) u := h
end Go.K
