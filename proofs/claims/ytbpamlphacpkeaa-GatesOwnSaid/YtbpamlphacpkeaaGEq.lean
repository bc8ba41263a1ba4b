/- Equal gates, registers and outputs (the numbers of types are this seat's). -/
import Derived.Test.YtbpamlphacpkeaaFacts
import Derived.Test.YtbpamlphacpkeaaEngS
import Derived.Test.YtbpamlphacpkeaaGMaker
set_option linter.unusedVariables false
set_option linter.unusedSimpArgs false
namespace Go.Proofs.Ytbpamlphacpkeaa
open Go

section
variable {P : Program}
theorem items_step {d : Nat} {e : TypeId} {c : Nat} {xs ys : Array Value} {i : Nat} {is : List Nat} {a b : Value} {r s : Bool} {w : World} (ha : (part e xs (i * c)).run P w = .ok a w) (hb : (part e ys (i * c)).run P w = .ok b w) (he : (Op.equalIn d e a b).run P w = .ok r w) (k : (Op.eqItems d e c xs ys is).run P w = .ok s w) : (Op.eqItems d e c xs ys (i :: is)).run P w = .ok (r && s) w := by
  simp only [Op.eqItems, Sem.run_bind, ha, hb, he, Result.andThen_ok]
  cases r
  · simp
  · simpa using k
theorem fields_step {d : Nat} {xs ys : Array Value} {f : Field} {fs : List Field} {a b : Value} {r s : Bool} {w : World} (hn : f.name ≠ "_") (ha : (part f.type xs f.offset).run P w = .ok a w) (hb : (part f.type ys f.offset).run P w = .ok b w) (he : (Op.equalIn d f.type a b).run P w = .ok r w) (k : (Op.eqFields d xs ys fs).run P w = .ok s w) : (Op.eqFields d xs ys (f :: fs)).run P w = .ok (r && s) w := by
  simp only [Op.eqFields, if_pos hn, Sem.run_bind, ha, hb, he, Result.andThen_ok]
  cases r
  · simp
  · simpa using k
end
theorem ecells3 : Try.prog.cellsOf 3 = 1 := by kernel_rfl
theorem plain3 : Try.prog.plainKey 3 = true := by simp [Program.plainKey, Try.underlying3]
theorem plain9 : Try.prog.plainKey 9 = true := by simp [Program.plainKey, Try.underlying9]
theorem plain65 : Try.prog.plainKey 65 = true := by simp [Program.plainKey, Try.underlying65]
def gateB (a b : Int × Int) : Bool := a.1 == b.1 && (a.2 == b.2 && true)
def regB (a b : ByteArray × Int × Int) : Bool := a.1.toList == b.1.toList && (a.2.1 == b.2.1 && (a.2.2 == b.2.2 && true))
def pinB (a b : ByteArray × Int) : Bool := a.1.toList == b.1.toList && (a.2 == b.2 && true)
theorem eq_pair (a b : Int × Int) : ∀ w, (Op.equal 86 (.agg #[.int .i64 a.1, .int .i64 a.2]) (.agg #[.int .i64 b.1, .int .i64 b.2])).run Try.prog w = .ok (gateB a b) w := by
  intro w
  show (Op.equalIn (9999 + 1) 86 _ _).run Try.prog w = _
  rw [run_equalIn_array w 9999 _ _ Try.underlying86 info3, ecells3]
  exact items_step (run_part_plain w plain3 rfl) (run_part_plain w plain3 rfl) (run_equalIn_int w _ _ _ _ _ _ Try.underlying3) (items_step (run_part_plain w plain3 rfl) (run_part_plain w plain3 rfl) (run_equalIn_int w _ _ _ _ _ _ Try.underlying3) rfl)
theorem eq_reg (a b : ByteArray × Int × Int) : ∀ w, (Op.equal 93 (.agg #[.string a.1, .int .u8 a.2.1, .int .i64 a.2.2]) (.agg #[.string b.1, .int .u8 b.2.1, .int .i64 b.2.2])).run Try.prog w = .ok (regB a b) w := by
  intro w
  show (Op.equalIn (9999 + 1) 93 _ _).run Try.prog w = _
  have hf : Try.prog.fieldsOf 93 = #[⟨"Name", 9, 0, false, "", "", 0⟩, ⟨"Init", 65, 1, false, "", "", 16⟩, ⟨"Next", 3, 2, false, "", "", 24⟩] := by kernel_rfl
  rw [run_equalIn_struct w 9999 93 _ _ (by kernel_rfl) (by kernel_rfl), hf]
  exact fields_step (by decide) (run_part_plain w plain9 rfl) (run_part_plain w plain9 rfl) (run_equalIn_string w _ _ _ _ Try.underlying9) (fields_step (by decide) (run_part_plain w plain65 rfl) (run_part_plain w plain65 rfl) (run_equalIn_int w _ _ _ _ _ _ Try.underlying65) (fields_step (by decide) (run_part_plain w plain3 rfl) (run_part_plain w plain3 rfl) (run_equalIn_int w _ _ _ _ _ _ Try.underlying3) rfl))
theorem eq_pin (a b : ByteArray × Int) : ∀ w, (Op.equal 69 (.agg #[.string a.1, .int .i64 a.2]) (.agg #[.string b.1, .int .i64 b.2])).run Try.prog w = .ok (pinB a b) w := by
  intro w
  show (Op.equalIn (9999 + 1) 69 _ _).run Try.prog w = _
  have hf : Try.prog.fieldsOf 69 = #[⟨"Name", 9, 0, false, "", "", 0⟩, ⟨"Lit", 3, 1, false, "", "", 16⟩] := by kernel_rfl
  rw [run_equalIn_struct w 9999 69 _ _ (by kernel_rfl) (by kernel_rfl), hf]
  exact fields_step (by decide) (run_part_plain w plain9 rfl) (run_part_plain w plain9 rfl) (run_equalIn_string w _ _ _ _ Try.underlying9) (fields_step (by decide) (run_part_plain w plain3 rfl) (run_part_plain w plain3 rfl) (run_equalIn_int w _ _ _ _ _ _ Try.underlying3) rfl)
theorem guard86 : Try.prog.eqGuardType Try.prog.depth 86 = false := by kernel_rfl
theorem guard93 : Try.prog.eqGuardType Try.prog.depth 93 = false := by kernel_rfl
theorem guard69 : Try.prog.eqGuardType Try.prog.depth 69 = false := by kernel_rfl
end Go.Proofs.Ytbpamlphacpkeaa
