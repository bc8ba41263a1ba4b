/- The library's sort of ints, at this program: the kit's contract, laid by the kit's tool in plain words. -/
import Derived.Test.YtnnklpmgncbgnaaGreatFacts
import Derived.Test.YtnnklpmgncbgnaaGreatEngX
import Derived.Shelf.Sort.Plain
set_option linter.unusedVariables false
namespace Go.Proofs.YtnnklpmgncbgnaaGreat
open Go Go.Shelf

def lays189_ren : Go.Shelf.Ren := ⟨fun | 189 => 23 | 125 => 49 | 257 => 48 | 128 => 81 | 129 => 82 | 294 => 72 | 295 => 73 | 296 => 74 | 297 => 75 | 298 => 76 | 299 => 77 | 216 => 78 | 300 => 79 | 301 => 80 | 328 => 91 | 329 => 92 | 330 => 93 | 331 => 94 | 332 => 95 | 215 => 96 | 343 => 101 | n => n, fun | 28 => 31 | 3 => 3 | 46 => 92 | 0 => 0 | 51 => 121 | 53 => 50 | 4 => 4 | 183 => 115 | 182 => 114 | 131 => 72 | 5 => 5 | 9 => 9 | 218 => 130 | 222 => 134 | 228 => 141 | 229 => 142 | n => n, fun | n => n⟩
theorem lays189 : Go.Proofs.Lays.n189 Tryz.prog lays189_ren := {
  mixed := by kernel_rfl
  f125 := Tryz.func49.trans (congrArg some (by kernel_rfl))
  f128 := Tryz.func81.trans (congrArg some (by kernel_rfl))
  f129 := Tryz.func82.trans (congrArg some (by kernel_rfl))
  f189 := Tryz.func23.trans (congrArg some (by kernel_rfl))
  f215 := Tryz.func96.trans (congrArg some (by kernel_rfl))
  f216 := Tryz.func78.trans (congrArg some (by kernel_rfl))
  f257 := Tryz.func48.trans (congrArg some (by kernel_rfl))
  f294 := Tryz.func72.trans (congrArg some (by kernel_rfl))
  f295 := Tryz.func73.trans (congrArg some (by kernel_rfl))
  f296 := Tryz.func74.trans (congrArg some (by kernel_rfl))
  f297 := Tryz.func75.trans (congrArg some (by kernel_rfl))
  f298 := Tryz.func76.trans (congrArg some (by kernel_rfl))
  f299 := Tryz.func77.trans (congrArg some (by kernel_rfl))
  f300 := Tryz.func79.trans (congrArg some (by kernel_rfl))
  f301 := Tryz.func80.trans (congrArg some (by kernel_rfl))
  f328 := Tryz.func91.trans (congrArg some (by kernel_rfl))
  f329 := Tryz.func92.trans (congrArg some (by kernel_rfl))
  f330 := Tryz.func93.trans (congrArg some (by kernel_rfl))
  f331 := Tryz.func94.trans (congrArg some (by kernel_rfl))
  f332 := Tryz.func95.trans (congrArg some (by kernel_rfl))
  f343 := Tryz.func101.trans (congrArg some (by kernel_rfl))
  t0 := Tryz.underlying0
  a0 := Tryz.isAgg0
  z0 := Tryz.sizeOf0
  v0 := Tryz.zeroValue0
  t3 := Tryz.underlying3
  a3 := Tryz.isAgg3
  z3 := Tryz.sizeOf3
  v3 := Tryz.zeroValue3
  t4 := Tryz.underlying4
  a4 := Tryz.isAgg4
  z4 := Tryz.sizeOf4
  v4 := Tryz.zeroValue4
  t5 := Tryz.underlying5
  a5 := Tryz.isAgg5
  z5 := Tryz.sizeOf5
  v5 := Tryz.zeroValue5
  t9 := Tryz.underlying9
  a9 := Tryz.isAgg9
  z9 := Tryz.sizeOf9
  v9 := Tryz.zeroValue9
  t28 := Tryz.underlying31
  a28 := Tryz.isAgg31
  z28 := Tryz.sizeOf31
  v28 := Tryz.zeroValue31
  t46 := Tryz.underlying92
  a46 := Tryz.isAgg92
  z46 := Tryz.sizeOf92
  v46 := Tryz.zeroValue92
  t51 := Tryz.underlying121
  a51 := Tryz.isAgg121
  z51 := Tryz.sizeOf121
  v51 := Tryz.zeroValue121
  t53 := Tryz.underlying50
  a53 := Tryz.isAgg50
  z53 := Tryz.sizeOf50
  v53 := Tryz.zeroValue50
  t131 := Tryz.underlying72
  a131 := Tryz.isAgg72
  z131 := Tryz.sizeOf72
  v131 := Tryz.zeroValue72
  t182 := Tryz.underlying114
  a182 := Tryz.isAgg114
  z182 := Tryz.sizeOf114
  v182 := Tryz.zeroValue114
  t183 := Tryz.underlying115
  a183 := Tryz.isAgg115
  z183 := Tryz.sizeOf115
  v183 := Tryz.zeroValue115
  t218 := Tryz.underlying130
  a218 := Tryz.isAgg130
  z218 := Tryz.sizeOf130
  v218 := Tryz.zeroValue130
  t222 := Tryz.underlying134
  a222 := Tryz.isAgg134
  z222 := Tryz.sizeOf134
  v222 := Tryz.zeroValue134
  t228 := Tryz.underlying141
  a228 := Tryz.isAgg141
  z228 := Tryz.sizeOf141
  v228 := Tryz.zeroValue141
  t229 := Tryz.underlying142
  a229 := Tryz.isAgg142
  z229 := Tryz.sizeOf142
  v229 := Tryz.zeroValue142 }

theorem q_sort (v0 : Nat) (l : List Int) (hpos : 0 < l.length) (hl : l.length < 4611686018427387904) :
    AC Tryz.prog 23 [.slice 0 v0 0 l.length] [(0, v0, .row 1 (l.map encI))] (fun r σ' => r = .ret (.tuple []) ∧ σ' = [(0, v0, .row 1 ((sortI l).map encI))]) :=
  ac_sort v0 l hpos (fun blk off cap zs w hH hb hz => Any.slices_Sort_int lays189 blk off cap zs w hH hb hz) hl
theorem sort_at {σ : Store} (i v0 : Nat) (l : List Int) (hpos : 0 < l.length) (hl : l.length < 4611686018427387904) (ht : tabOK [i] = true) (hb : σ.below 1000 = true) (h1 : σ.get i = some (v0, .row 1 (l.map encI))) :
    AC Tryz.prog 23 [.slice i v0 0 l.length] σ (fun r σ' => r = .ret (.tuple []) ∧ σ' = σ.put i v0 (.row 1 ((sortI l).map encI))) := by
  have e1 : ∀ l : List Int, (AObj.row 1 (l.map encI)).rn (tab [i]) = .row 1 (l.map encI) := fun l => by show AObj.row 1 _ = _; rw [rn_rows (fun _ => rfl)]
  have hm : Store.match (tab [i]) σ [(0, v0, .row 1 (l.map encI))] := ⟨by rw [e1]; exact h1, trivial⟩
  have hf : Store.free [i] [(0, v0, .row 1 (l.map encI))] σ = true := by simp [Store.free, Store.get, List.range_succ]
  have := ac_at [i] ht (q_sort v0 l hpos hl) hm hf hb (by
    rintro x σ' ⟨rfl, rfl⟩ j h
    simp only [Store.get] at h ⊢
    revert h
    cases Nat.beq 0 j <;> simp)
  refine ac_mono this ?_
  rintro x σ' ⟨_, _, ⟨rfl, rfl⟩, rfl, rfl⟩
  refine ⟨rfl, ?_⟩
  simp only [Store.putAll, e1]
  rfl
end Go.Proofs.YtnnklpmgncbgnaaGreat
