/- The engine, part 0: what is known of package variables while a call runs. -/
import Derived.Test.YtcgdlhkiecommaaGreatDoorGlobs
set_option linter.unusedVariables false
namespace Go.Proofs.YtcgdlhkiecommaaGreatDoor
open Go
def GlobOK (ok : Nat → Prop) (w : World) : Prop := ∀ g ∈ globs, ok g.1 ∧ ∃ o, w.heap[g.1]? = some o ∧ g.2 o
theorem GlobOK.mono {ok ok' : Nat → Prop} {w w' : World} (h : GlobOK ok w) (hok : ∀ b, ok b → ok' b) (hw : ∀ b, ok b → w'.heap[b]? = w.heap[b]?) : GlobOK ok' w' := fun g hg => by
  obtain ⟨h1, o, h2, h3⟩ := h g hg
  exact ⟨hok _ h1, o, by rw [hw _ h1]; exact h2, h3⟩
end Go.Proofs.YtcgdlhkiecommaaGreatDoor
