/- The library's sort of ints, at this program: the kit's contract, laid by the kit's tool in plain words. -/
import Derived.Test.YtnnklpmgncbgnaaFacts
import Derived.Test.YtnnklpmgncbgnaaEngX
import Derived.Shelf.Sort.Plain
set_option linter.unusedVariables false
namespace Go.Proofs.Ytnnklpmgncbgnaa
open Go Go.Shelf

def lays189_ren : Go.Shelf.Ren := ⟨fun | 189 => 56 | 125 => 82 | 257 => 81 | 128 => 101 | 129 => 102 | 294 => 92 | 295 => 93 | 296 => 94 | 297 => 95 | 298 => 96 | 299 => 97 | 216 => 98 | 300 => 99 | 301 => 100 | 328 => 109 | 329 => 110 | 330 => 111 | 331 => 112 | 332 => 113 | 215 => 114 | 343 => 116 | n => n, fun | 28 => 45 | 3 => 3 | 46 => 120 | 0 => 0 | 51 => 138 | 53 => 35 | 4 => 4 | 183 => 132 | 182 => 131 | 131 => 105 | 5 => 5 | 9 => 9 | 218 => 146 | 222 => 150 | 228 => 153 | 229 => 154 | n => n, fun | n => n⟩
theorem lays189 : Go.Proofs.Lays.n189 Try.prog lays189_ren := {
  mixed := by kernel_rfl
  f125 := Try.func82.trans (congrArg some (by kernel_rfl))
  f128 := Try.func101.trans (congrArg some (by kernel_rfl))
  f129 := Try.func102.trans (congrArg some (by kernel_rfl))
  f189 := Try.func56.trans (congrArg some (by kernel_rfl))
  f215 := Try.func114.trans (congrArg some (by kernel_rfl))
  f216 := Try.func98.trans (congrArg some (by kernel_rfl))
  f257 := Try.func81.trans (congrArg some (by kernel_rfl))
  f294 := Try.func92.trans (congrArg some (by kernel_rfl))
  f295 := Try.func93.trans (congrArg some (by kernel_rfl))
  f296 := Try.func94.trans (congrArg some (by kernel_rfl))
  f297 := Try.func95.trans (congrArg some (by kernel_rfl))
  f298 := Try.func96.trans (congrArg some (by kernel_rfl))
  f299 := Try.func97.trans (congrArg some (by kernel_rfl))
  f300 := Try.func99.trans (congrArg some (by kernel_rfl))
  f301 := Try.func100.trans (congrArg some (by kernel_rfl))
  f328 := Try.func109.trans (congrArg some (by kernel_rfl))
  f329 := Try.func110.trans (congrArg some (by kernel_rfl))
  f330 := Try.func111.trans (congrArg some (by kernel_rfl))
  f331 := Try.func112.trans (congrArg some (by kernel_rfl))
  f332 := Try.func113.trans (congrArg some (by kernel_rfl))
  f343 := Try.func116.trans (congrArg some (by kernel_rfl))
  t0 := Try.underlying0
  a0 := Try.isAgg0
  z0 := Try.sizeOf0
  v0 := Try.zeroValue0
  t3 := Try.underlying3
  a3 := Try.isAgg3
  z3 := Try.sizeOf3
  v3 := Try.zeroValue3
  t4 := Try.underlying4
  a4 := Try.isAgg4
  z4 := Try.sizeOf4
  v4 := Try.zeroValue4
  t5 := Try.underlying5
  a5 := Try.isAgg5
  z5 := Try.sizeOf5
  v5 := Try.zeroValue5
  t9 := Try.underlying9
  a9 := Try.isAgg9
  z9 := Try.sizeOf9
  v9 := Try.zeroValue9
  t28 := Try.underlying45
  a28 := Try.isAgg45
  z28 := Try.sizeOf45
  v28 := Try.zeroValue45
  t46 := Try.underlying120
  a46 := Try.isAgg120
  z46 := Try.sizeOf120
  v46 := Try.zeroValue120
  t51 := Try.underlying138
  a51 := Try.isAgg138
  z51 := Try.sizeOf138
  v51 := Try.zeroValue138
  t53 := Try.underlying35
  a53 := Try.isAgg35
  z53 := Try.sizeOf35
  v53 := Try.zeroValue35
  t131 := Try.underlying105
  a131 := Try.isAgg105
  z131 := Try.sizeOf105
  v131 := Try.zeroValue105
  t182 := Try.underlying131
  a182 := Try.isAgg131
  z182 := Try.sizeOf131
  v182 := Try.zeroValue131
  t183 := Try.underlying132
  a183 := Try.isAgg132
  z183 := Try.sizeOf132
  v183 := Try.zeroValue132
  t218 := Try.underlying146
  a218 := Try.isAgg146
  z218 := Try.sizeOf146
  v218 := Try.zeroValue146
  t222 := Try.underlying150
  a222 := Try.isAgg150
  z222 := Try.sizeOf150
  v222 := Try.zeroValue150
  t228 := Try.underlying153
  a228 := Try.isAgg153
  z228 := Try.sizeOf153
  v228 := Try.zeroValue153
  t229 := Try.underlying154
  a229 := Try.isAgg154
  z229 := Try.sizeOf154
  v229 := Try.zeroValue154 }

theorem q_sort (v0 : Nat) (l : List Int) (hpos : 0 < l.length) (hl : l.length < 4611686018427387904) :
    AC Try.prog 56 [.slice 0 v0 0 l.length] [(0, v0, .row 1 (l.map encI))] (fun r σ' => r = .ret (.tuple []) ∧ σ' = [(0, v0, .row 1 ((sortI l).map encI))]) :=
  ac_sort v0 l hpos (fun blk off cap zs w hH hb hz => Any.slices_Sort_int lays189 blk off cap zs w hH hb hz) hl
theorem sort_at {σ : Store} (i v0 : Nat) (l : List Int) (hpos : 0 < l.length) (hl : l.length < 4611686018427387904) (ht : tabOK [i] = true) (hb : σ.below 1000 = true) (h1 : σ.get i = some (v0, .row 1 (l.map encI))) :
    AC Try.prog 56 [.slice i v0 0 l.length] σ (fun r σ' => r = .ret (.tuple []) ∧ σ' = σ.put i v0 (.row 1 ((sortI l).map encI))) := by
  have e1 : ∀ l : List Int, (AObj.row 1 (l.map encI)).rn (tab [i]) = .row 1 (l.map encI) := fun l => by show AObj.row 1 _ = _; rw [rn_rows (fun _ => rfl)]
  have hm : Store.match (tab [i]) σ [(0, v0, .row 1 (l.map encI))] := ⟨by rw [e1]; exact h1, trivial⟩
  have hf : Store.free [i] [(0, v0, .row 1 (l.map encI))] σ = true := by simp [Store.free, Store.get, List.range_succ]
  have := ac_at [i] ht (q_sort v0 l hpos hl) hm hf hb (by
    rintro x σ' ⟨rfl, rfl⟩ j h
    simp only [Store.get] at h ⊢
    revert h
    cases Nat.beq 0 j <;> simp)
  refine ac_mono this ?_
  rintro x σ' ⟨_, _, ⟨rfl, rfl⟩, rfl, rfl⟩
  refine ⟨rfl, ?_⟩
  simp only [Store.putAll, e1]
  rfl
end Go.Proofs.Ytnnklpmgncbgnaa
