/- Trees of a size that memory holds; closures that look at one cell. -/
import Derived.Test.YtcgdlhkiecommaaGreatDoorXShape
set_option linter.all false
namespace Go.Proofs.YtcgdlhkiecommaaGreatDoor
open Go
mutual
def szE : Ex → Bool
  | .mk o s n b v k t l c => ((decide (s.length ≤ 1000000000) && decide (b.length ≤ 1000000000)) && (decide (k.length ≤ 1000000000) && b.all fun x => decide (0 ≤ x))) && szEs k
def szEs : List Ex → Bool
  | [] => true
  | e :: r => szE e && szEs r
end
theorem szE_facts {e : Ex} (h : szE e = true) : e.name.length ≤ 1000000000 ∧ e.bits.length ≤ 1000000000 ∧ e.kids.length ≤ 1000000000 ∧ (∀ x ∈ e.bits, 0 ≤ x) ∧ ∀ k ∈ e.kids, szE k = true := by
  have hl : ∀ l : List Ex, szEs l = true → ∀ k ∈ l, szE k = true := by
    intro l
    induction l with
    | nil => intro _ k hk; cases hk
    | cons a l ih =>
      intro h k hk
      rw [szEs, Bool.and_eq_true] at h
      cases hk with
      | head => exact h.1
      | tail _ hk => exact ih h.2 k hk
  cases e with
  | mk o s n b v k t l c =>
    rw [szE] at h
    simp only [Bool.and_eq_true, decide_eq_true_eq, List.all_eq_true] at h
    exact ⟨h.1.1.1, h.1.1.2, h.1.2.1, h.1.2.2, hl k h.2⟩
theorem one_look {P : Program} {n : FuncId} {bvs : List AVal} {v0 : Nat} {o : AObj} {b : AVal} (c : Nat) (hc : c < 1000) (ho : o.rn (tab [c]) = o) (hb2 : b.rn (tab [c]) = b)
    (h : AC P n bvs [(0, v0, o)] (fun r σ' => r = .ret b ∧ σ'.keep k0 = [(0, v0, o)])) {σ : Store} (h1 : σ.get c = some (v0, o)) (hb : σ.below 1000 = true) : AC P n (bvs.map (AVal.rn (tab [c]))) σ (fun r σ' => r = .ret b ∧ σ' = σ) := by
  have hk : AC P n bvs [(0, v0, o)] (fun r σ' => r = .ret b ∧ σ' = [(0, v0, o)]) := ac_mono (ac_keep k0 h) (by
    rintro r σ' ⟨σ1, ⟨h2, h3⟩, rfl⟩
    exact ⟨h2, h3⟩)
  have ht : tabOK [c] = true := by simp [tabOK, hc]
  have := ac_ro [c] ht hk (⟨by rw [show tab [c] 0 = c from rfl, ho]; exact h1, trivial⟩ : Store.match (tab [c]) σ [(0, v0, o)]) (by simp [Store.free, Store.get, List.range_succ]) hb
  rw [hb2] at this
  exact this
end Go.Proofs.YtcgdlhkiecommaaGreatDoor
