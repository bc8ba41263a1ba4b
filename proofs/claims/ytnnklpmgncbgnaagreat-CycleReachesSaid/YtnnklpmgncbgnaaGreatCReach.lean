/- What is reached, in plain Lean. -/
import Derived.Test.YtnnklpmgncbgnaaGreatCSearch
import Derived.Test.YtnnklpmgncbgnaaGreatEngX
set_option linter.unusedVariables false
set_option linter.unusedSimpArgs false
namespace Go.Proofs.YtnnklpmgncbgnaaGreat
open Go

def Net.fitE (n : Net) : Int := if n.valid then (if n.small then 0 else 5) else 2
def Net.keysI (n : Net) : List Int := n.bfs.map fun e => (e.1 : Int)
def Net.reach (n : Net) : List Int × Int := if n.fitE = 0 then (sortI n.keysI, 0) else ([], n.fitE)
theorem Net.fit_ready {n : Net} (hn : n.Small) (h : n.fitE = 0) : n.Ready := by
  unfold Net.fitE at h
  split at h
  · rename_i hv
    split at h
    · rename_i hs
      rw [Net.small, Bool.and_eq_true, Bool.and_eq_true, decide_eq_true_eq, decide_eq_true_eq] at hs
      exact ⟨hn, hv, hs.1.1, by omega, by omega⟩
    · cases h
  · cases h
def keysV (n : Net) : List Value := (kEnts stG n.bfs).map (·.1)
theorem keysV_length (n : Net) : (keysV n).length = n.bfs.length := by simp [keysV, kEnts]
theorem keysI_length (n : Net) : n.keysI.length = n.bfs.length := by simp [Net.keysI]
theorem keysV_get {n : Net} {i : Nat} {k : Value} (h : (keysV n)[i]? = some k) : i < n.bfs.length ∧ k = .int .i64 (n.keysI.getD i default) := by
  have hi : i < n.bfs.length := by
    have := (List.getElem?_eq_some_iff.1 h).1
    rwa [keysV_length] at this
  refine ⟨hi, ?_⟩
  rw [keysV, kEnts, List.map_map, List.getElem?_map, List.getElem?_eq_getElem hi] at h
  simp only [Option.map_some, Option.some.injEq] at h
  rw [Net.keysI, List.getD_eq_getElem?_getD, List.getElem?_map, List.getElem?_eq_getElem hi]
  exact h.symm
def keyAt (n : Net) (i : Nat) : Int := n.keysI.getD i default
theorem nodup_perm {n : Nat} {seen : List Nat} (hn : seen.Nodup) (hl : ∀ i ∈ seen, i < n) (ha : ∀ i, i < n → i ∈ seen) : seen.Perm (List.range n) := by
  rw [List.perm_ext_iff_of_nodup hn List.nodup_range]
  intro a
  rw [List.mem_range]
  exact ⟨hl a, ha a⟩
theorem map_range_getD (l : List Int) : (List.range l.length).map (fun i => l.getD i default) = l := by
  apply List.ext_getElem (by simp)
  intro i h1 h2
  simp [List.getD_eq_getElem?_getD, List.getElem?_eq_getElem h2]
theorem sortI_perm {l m : List Int} (h : l.Perm m) : sortI l = sortI m := by
  have tr : ∀ a b c : Int, decide (a ≤ b) = true → decide (b ≤ c) = true → decide (a ≤ c) = true := by
    intro a b c h1 h2; simp at *; omega
  have to : ∀ a b : Int, (decide (a ≤ b) || decide (b ≤ a)) = true := by intro a b; simp; omega
  have p1 : (sortI l).Perm (sortI m) := (List.mergeSort_perm l _).trans (h.trans (List.mergeSort_perm m _).symm)
  exact List.Perm.eq_of_pairwise (le := fun x y : Int => decide (x ≤ y) = true) (fun a b _ _ h1 h2 => by simp at h1 h2; omega) (List.pairwise_mergeSort tr to l) (List.pairwise_mergeSort tr to m) p1
theorem reach_keys {n : Net} {seen : List Nat} (hn : seen.Nodup) (hl : ∀ i ∈ seen, i < n.bfs.length) (ha : ∀ i, i < (keysV n).length → i ∈ seen) : sortI (seen.map (keyAt n)) = sortI n.keysI := by
  refine sortI_perm ?_
  have h1 := nodup_perm hn hl (fun i hi => ha i (by rw [keysV_length]; exact hi))
  have h2 := h1.map (keyAt n)
  have e : (List.range n.bfs.length).map (keyAt n) = n.keysI := by
    have := map_range_getD n.keysI
    rw [keysI_length] at this
    exact this
  rw [e] at h2
  exact h2
theorem Net.bfs_pos {n : Net} (h : n.Ready) : 0 < n.bfs.length ∧ n.bfs.length ≤ n.states := by
  have := Net.bfs_inv h.begin.2 (2 * n.states)
  exact ⟨this.one, this.len⟩
end Go.Proofs.YtnnklpmgncbgnaaGreat
