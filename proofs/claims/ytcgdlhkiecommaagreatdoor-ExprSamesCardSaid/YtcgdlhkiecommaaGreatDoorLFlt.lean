/- Faults that are the same, or are not. -/
import Derived.Test.YtcgdlhkiecommaaGreatDoorLRun
import Derived.Laws.StructEq
set_option linter.all false
namespace Go.Proofs.YtcgdlhkiecommaaGreatDoor
open Go
theorem flt_run (f g : Flt) (w : World) : (Op.equal 40 (.agg #[.int .i64 f.code, .string (str f.name), .int .i64 f.line, .int .i64 f.col]) (.agg #[.int .i64 g.code, .string (str g.name), .int .i64 g.line, .int .i64 g.col])).run Tryz.prog w = .ok (decide (f = g)) w := by
  have hS : Tryz.prog.underlying 40 = some (.struct (Tryz.prog.fieldsOf 40)) := by kernel_rfl
  have hp : Tryz.prog.stoodInHeld 40 = false := by kernel_rfl
  have p : ∀ (e : TypeId) (xs : Array Value) (i : Nat) (v : Value) (w : World), Tryz.prog.plainKey e = true → xs[i]? = some v → (part e xs i).run Tryz.prog w = .ok v w := fun e xs i v w he hx => run_part_plain w he hx
  have k1 : Tryz.prog.plainKey 38 = true := by kernel_rfl
  have k2 : Tryz.prog.plainKey 9 = true := by kernel_rfl
  have k3 : Tryz.prog.plainKey 3 = true := by kernel_rfl
  have q1 : ∀ (a b : Int) (w : World), (Op.equalIn 9999 38 (.int .i64 a) (.int .i64 b)).run Tryz.prog w = .ok (a == b) w := fun a b w => run_equalIn_int w 9998 _ _ _ a b Tryz.underlying38
  have q3 : ∀ (a b : Int) (w : World), (Op.equalIn 9999 3 (.int .i64 a) (.int .i64 b)).run Tryz.prog w = .ok (a == b) w := fun a b w => run_equalIn_int w 9998 _ _ _ a b Tryz.underlying3
  have q2 : ∀ (a b : Bs) (w : World), (Op.equalIn 9999 9 (.string (str a)) (.string (str b))).run Tryz.prog w = .ok (a == b) w := fun a b w => by
    rw [run_equalIn_string w 9998 _ _ _ Tryz.underlying9, str_toList, str_toList]
  have r0 : ∀ (a : Int) (b : Bs) (c d : Int) (w : World), (part 38 #[.int .i64 a, .string (str b), .int .i64 c, .int .i64 d] 0).run Tryz.prog w = .ok (.int .i64 a) w := fun a b c d w => p _ _ 0 _ w k1 rfl
  have r1 : ∀ (a : Int) (b : Bs) (c d : Int) (w : World), (part 9 #[.int .i64 a, .string (str b), .int .i64 c, .int .i64 d] 1).run Tryz.prog w = .ok (.string (str b)) w := fun a b c d w => p _ _ 1 _ w k2 rfl
  have r2 : ∀ (a : Int) (b : Bs) (c d : Int) (w : World), (part 3 #[.int .i64 a, .string (str b), .int .i64 c, .int .i64 d] 2).run Tryz.prog w = .ok (.int .i64 c) w := fun a b c d w => p _ _ 2 _ w k3 rfl
  have r3 : ∀ (a : Int) (b : Bs) (c d : Int) (w : World), (part 3 #[.int .i64 a, .string (str b), .int .i64 c, .int .i64 d] 3).run Tryz.prog w = .ok (.int .i64 d) w := fun a b c d w => p _ _ 3 _ w k3 rfl
  show (Op.equalIn (9999 + 1) 40 _ _).run Tryz.prog w = _
  rw [run_equalIn_struct w 9999 _ _ _ hS hp]
  simp only [Program.fieldsOf, Tryz.underlying40]
  obtain ⟨a, b, c, d⟩ := f
  obtain ⟨a', b', c', d'⟩ := g
  simp only [Op.eqFields, Sem.run_bind, Sem.run_ite, r0, r1, r2, r3, Result.andThen_ok, q1, q2, q3, Sem.run_pure, Flt.mk.injEq]
  by_cases h1 : a = a' <;> by_cases h2 : b = b' <;> by_cases h3 : c = c' <;> by_cases h4 : d = d' <;> simp [h1, h2, h3, h4]
end Go.Proofs.YtcgdlhkiecommaaGreatDoor
