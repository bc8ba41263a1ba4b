/- Where tokens stand. -/
import Derived.Test.YtcgdlhkiecommaaGreatDoorLLaw
set_option linter.all false
namespace Go.Proofs.YtcgdlhkiecommaaGreatDoor
open Go
theorem val_as {P : Program} {o : Oper} {E : Operand → Option AVal} {σ σ' : Store} {a : AVal} (b : AVal) (h : OpTo P o E σ a σ') (e : a = b) : OpTo P o E σ b σ' := e ▸ h
end Go.Proofs.YtcgdlhkiecommaaGreatDoor
