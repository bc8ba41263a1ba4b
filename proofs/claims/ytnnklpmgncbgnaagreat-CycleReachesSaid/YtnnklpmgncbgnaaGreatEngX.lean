/- The engine, part 24: an object written over by the library's sort. -/
import Derived.Test.YtnnklpmgncbgnaaGreatEngW
import Derived.Sort.OwnSortedInts
set_option linter.unusedVariables false
set_option linter.unusedSimpArgs false
namespace Go.Proofs.YtnnklpmgncbgnaaGreat
open Go

section
variable {ok : Nat → Prop} {L : Loc} {σ : Store} {w w' : World}
theorem sim_grow (hs : Sim ok L σ w) (id ver : Nat) (o0 obj : AObj) (hid : σ.get id = some (ver, o0)) (hcap : L.cap id ≠ 0) (hos : w'.os = w.os) (htape : w'.tape = w.tape) (hout : w'.output = w.output) (hsize : w.heap.size ≤ w'.heap.size)
    (hsame : ∀ k, k < w.heap.size → k ≠ L.blk id → w'.heap[k]? = w.heap[k]?)
    (hobj : Evo ok L σ w ok L (σ.put id ver obj) w' → ObjRep ok L w' id ver obj) :
    Evo ok L σ w ok L (σ.put id ver obj) w' ∧ Sim ok L (σ.put id ver obj) w' := by
  have hfoot : ∀ k, Foot L (σ.put id ver obj) k → Foot L σ k := by
    rintro k ⟨i, v, o, h1, h2, h3⟩
    rw [Store.get_put] at h1
    by_cases e : id = i
    · subst e; exact ⟨id, ver, o0, hid, h2, h3⟩
    · rw [if_neg e] at h1; exact ⟨i, v, o, h1, h2, h3⟩
  have he : Evo ok L σ w ok L (σ.put id ver obj) w' := by
    refine ⟨hos, htape, hout, by omega, fun k hk hf => hsame k hk ?_, fun k _ hf => hfoot k hf, fun _ h => h, fun k h _ => .inl h, fun i => Nat.le_refl _, fun i _ => ⟨rfl, rfl, rfl⟩⟩
    rintro rfl
    exact hf ⟨id, ver, o0, hid, hcap, rfl⟩
  refine ⟨he, ?_⟩
  constructor
  · intro i v o h
    rw [Store.get_put] at h
    by_cases e : id = i
    · subst e
      rw [if_pos rfl] at h
      simp only [Option.some.injEq, Prod.mk.injEq] at h
      obtain ⟨rfl, rfl⟩ := h
      exact hobj he
    · rw [if_neg e] at h
      exact (hs.objs i v o h).evo hs he rfl (fun hc => hsame _ (hs.lt _ ⟨i, v, o, h, hc, rfl⟩) (fun hbl => e (hs.inj id i ver v o0 o hid h hcap hc hbl.symm)))
  · intro k hf
    exact Nat.lt_of_lt_of_le (hs.lt k (hfoot k hf)) hsize
  · intro i j vi vj oi oj hi hj ci cj hbl
    rw [Store.get_put] at hi hj
    have gi : ∃ v o, σ.get i = some (v, o) := by
      by_cases e : id = i
      · subst e; exact ⟨_, _, hid⟩
      · rw [if_neg e] at hi; exact ⟨_, _, hi⟩
    have gj : ∃ v o, σ.get j = some (v, o) := by
      by_cases e : id = j
      · subst e; exact ⟨_, _, hid⟩
      · rw [if_neg e] at hj; exact ⟨_, _, hj⟩
    obtain ⟨v1, o1, g1⟩ := gi
    obtain ⟨v2, o2, g2⟩ := gj
    exact hs.inj i j v1 v2 o1 o2 g1 g2 ci cj hbl
  · intro k hk
    obtain ⟨h1, h2⟩ := hs.okd k hk
    exact ⟨Nat.lt_of_lt_of_le h1 hsize, fun hf => h2 (hfoot k hf)⟩
  · exact hs.globEvo he

end
def sortI (l : List Int) : List Int := l.mergeSort fun x y => decide (x ≤ y)
theorem sortI_length (l : List Int) : (sortI l).length = l.length := List.length_mergeSort l
/-- The sort of a list that is held, out of the library's contract. -/
theorem ac_sort {P : Program} {f : FuncId} (v0 : Nat) (l : List Int) (hpos : 0 < l.length)
    (h : ∀ (blk off cap : Nat) (zs : List Int) (w : World), Go.Sort.Holds (Value.int .i64) w blk off zs.toArray → blk < w.heap.size → zs.length < 4611686018427387904 → Calls P f #[.slice (some ⟨blk, off, none⟩) zs.length cap] w fun e w' =>
      e = .returned (.tuple #[]) ∧ ∃ n os, w' = Go.Sort.grow (Go.Sort.putRow (Value.int .i64) (Go.Sort.ahead w n) blk off (zs.mergeSort fun x y => decide (x ≤ y)).toArray) os)
    (hl : l.length < 4611686018427387904) :
    AC P f [.slice 0 v0 0 l.length] [(0, v0, .row 1 (l.map encI))] (fun r σ' => r = .ret (.tuple []) ∧ σ' = [(0, v0, .row 1 ((sortI l).map encI))]) := by
  intro ok L w vs hs hv
  match vs, hv with
  | [v], ⟨hv, _⟩ =>
    have hid : Store.get [(0, v0, AObj.row 1 (l.map encI))] 0 = some (v0, .row 1 (l.map encI)) := rfl
    have hv : RepL ok L w (.slice 0 v0 0 l.length) v := hv
    obtain ⟨a, c, rfl, h2, h3, h4⟩ := hv.2 (hs.ver hid)
    have ha := h4 (.inl hpos)
    rw [Nat.zero_mul] at ha
    subst ha
    obtain ⟨o1, o2, o3, o4, o5⟩ := hs.objs 0 v0 _ hid
    have hcap : L.cap 0 ≠ 0 := by omega
    obtain ⟨conc, et, g1, g2, g3⟩ := o5 hcap
    have hlen : (l.map encI).length = l.length := by simp
    rw [hlen] at o4
    have hcell : ∀ j, j < l.length → conc[j]? = some (.int .i64 (l.getD j default)) := by
      intro j hj
      obtain ⟨u, u1, u2, _⟩ := g3 j (encI (l[j])) 0 (.v (.int .i64 l[j])) (by rw [List.getElem?_map, List.getElem?_eq_getElem hj]; rfl) rfl
      have u2 : RepC ok w (.v (.int .i64 l[j])) u := u2
      cases u2
      rw [Nat.mul_one, Nat.add_zero] at u1
      rw [u1, List.getD_eq_getElem?_getD, List.getElem?_eq_getElem hj]; rfl
    have htake : conc.toList.take l.length = l.map (Value.int .i64) := by
      apply List.ext_getElem?
      intro j
      by_cases hj : j < l.length
      · rw [List.getElem?_take_of_lt hj, Array.getElem?_toList, hcell j hj, List.getElem?_map, List.getElem?_eq_getElem hj, List.getD_eq_getElem?_getD, List.getElem?_eq_getElem hj]; rfl
      · rw [List.getElem?_take_eq_none (by omega), List.getElem?_eq_none (by simp; omega)]
    have hlt : L.blk 0 < w.heap.size := (Array.getElem?_eq_some_iff.1 g1).1
    refine (h (L.blk 0) 0 c l w (holds_of_blockI g1 htake) hlt hl).mono ?_
    rintro e w' ⟨rfl, n, os, rfl⟩
    have hgb := grownBy_sortedI (w := w) (g := L.blk 0) (n := n) (os := os) (sortI l).toArray
    have hheap := heap_sortedI (n := n) (os := os) (sortI l).toArray g1
    have hsl := sortI_length l
    have hput := take_putCellsI conc (sortI l) (by rw [hsl, g2]; omega)
    obtain ⟨he, hs'⟩ := sim_grow (w' := Go.Sort.grow (Go.Sort.putRow (Value.int .i64) (Go.Sort.ahead w n) (L.blk 0) 0 (sortI l).toArray) os) hs 0 v0 _ (.row 1 ((sortI l).map encI)) hid hcap hgb.os hgb.tape hgb.output hgb.size (fun k hk hne => hgb.block k hk (by simpa using hne)) (fun he => by
      refine ⟨o1, o2, ?_, by simpa [hsl] using o4, fun _ => ⟨_, et, hheap, ?_, fun i el j av hi hj => ?_⟩⟩
      · intro el hel
        obtain ⟨x, _, rfl⟩ := List.mem_map.1 hel
        rfl
      · simpa [Go.Sort.putCells] using g2
      · rw [List.getElem?_map] at hi
        have hil : i < (sortI l).length := by
          rcases Nat.lt_or_ge i (sortI l).length with h | h
          · exact h
          · rw [List.getElem?_eq_none h] at hi; cases hi
        rw [List.getElem?_eq_getElem hil] at hi
        cases hi
        cases j with
        | succ j => simp [encI] at hj
        | zero =>
          cases hj
          refine ⟨.int .i64 (sortI l)[i], ?_, RepC.v _, rfl⟩
          have h5 : ((Go.Sort.putCells (Value.int .i64) 0 (sortI l).toArray conc).toList.take (sortI l).length)[i]? = some (.int .i64 (sortI l)[i]) := by
            rw [hput, List.getElem?_map, List.getElem?_eq_getElem hil]; rfl
          rw [List.getElem?_take_of_lt hil, Array.getElem?_toList] at h5
          rw [Nat.mul_one, Nat.add_zero]
          exact h5)
    exact ⟨.ret (.tuple []), _, ok, L, ⟨rfl, rfl⟩, he, hs', [], rfl, trivial⟩

section
variable {P : Program} {σ σ' : Store}
variable {E : Operand → Option AVal} {d : Option Tmp} {ty : TypeId} {pos : String} {after : Array Edge} {guard : Option (Nat × Bool)}
theorem put_same {id ver : Nat} {o : AObj} (h : σ.get id = some (ver, o)) (k : Nat) : σ.get k = (σ.put id ver o).get k := by
  rw [Store.get_put]
  by_cases e : id = k
  · subst e; rw [if_pos rfl, h]
  · rw [if_neg e]
/-- 'next', told by whether there was one. -/
theorem op_next2 {x : Operand} {id ver : Nat} {keys : List Value} {seen : List Nat} (hx : E x = some (.ptr id ver 0 0)) (hid : σ.get id = some (ver, .iter keys seen)) :
    OpR P ⟨d, .next x false, ty, pos, after, guard⟩ E σ (fun a σ' => ∃ (b : Bool) (rest : List AVal) (more : List Nat), a = .tuple (.v (.bool b) :: rest) ∧ σ' = σ.put id ver (.iter keys (seen ++ more)) ∧
      (b = false → more = [] ∧ ∀ i, i < keys.length → i ∈ seen) ∧ (b = true → ∃ i k, more = [i] ∧ i ∉ seen ∧ keys[i]? = some k)) := by
  intro ok L w ρ hs hr
  obtain ⟨a, σ1, v, w', ok', L', hR, hrun, he, hs', hv⟩ := op_next (P := P) (E := E) (d := d) (ty := ty) (pos := pos) (after := after) (guard := guard) hx hid ok L w ρ hs hr
  rcases hR with ⟨rfl, rfl, hall⟩ | ⟨i, k, y, h1, h2, rfl, rfl⟩
  · have hg : ∀ k, σ1.get k = (σ1.put id ver (.iter keys (seen ++ []))).get k := by rw [List.append_nil]; exact put_same hid
    exact ⟨_, _, v, w', ok', L', ⟨false, [], [], rfl, rfl, fun _ => ⟨rfl, hall⟩, fun h => absurd h (by decide)⟩, hrun, he.congr hg, hs'.congr hg, hv⟩
  · exact ⟨_, _, v, w', ok', L', ⟨true, [.v k, .v y], [i], rfl, rfl, fun h => absurd h (by decide), fun _ => ⟨i, k, rfl, h1, h2⟩⟩, hrun, he, hs', hv⟩
end
end Go.Proofs.YtnnklpmgncbgnaaGreat
