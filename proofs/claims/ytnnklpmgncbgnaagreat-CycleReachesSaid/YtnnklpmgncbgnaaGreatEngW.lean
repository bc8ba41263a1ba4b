/- The engine, part 23: maps that are ranged over; map literals. -/
import Derived.Test.YtnnklpmgncbgnaaGreatEngV
import Derived.Laws.IdiomRangeMap
set_option linter.unusedVariables false
set_option linter.unusedSimpArgs false
namespace Go.Proofs.YtnnklpmgncbgnaaGreat
open Go

section
variable {P : Program} {n : Nat} {Q : APost} {env : Env} {σ σ' : Store}
variable {E : Operand → Option AVal} {d : Option Tmp} {ty : TypeId} {pos : String} {after : Array Edge} {guard : Option (Nat × Bool)}
theorem op_insert {x y u : Operand} {t kt et : TypeId} {K : Value → Prop} {id ver : Nat} {ents : List (Value × AVal)} {ka a : AVal} {k : Value} (ht : P.underlying t = some (.map kt et)) (law : KeyLaw P kt K)
    (hx : E x = some (.map id ver)) (hid : σ.get id = some (ver, .map ents)) (hy : E y = some ka) (hk : concOf ka = some k) (hK : K k) (hKs : ∀ e ∈ ents, K e.1) (hu : E u = some a) (hfl : a.flat = true) :
    OpTo P ⟨d, .insert t x y u, ty, pos, after, guard⟩ E σ (.v undef) (σ.put id ver (.map (mapPut k a ents))) :=
  fun ok L w ρ hs hr => op_mapUpdate (P := P) (d := d) (ty := ty) (pos := pos) (after := after) (guard := guard) ht law hx hid hy hk hK hKs hu hfl ok L w ρ hs hr

theorem keys_of {R : AVal → Value → Prop} : ∀ (ents : List (Value × AVal)) (es : List MapEntry), All2 (fun (a : Value × AVal) (m : MapEntry) => m.key = a.1 ∧ R a.2 m.val) ents es → es.map (·.key) = ents.map (·.1)
  | [], [], _ => rfl
  | _ :: ents, _ :: es, ⟨⟨h, _⟩, hs⟩ => by simp only [List.map_cons, h, keys_of ents es hs]
  | [], _ :: _, h => h.elim
  | _ :: _, [], h => h.elim

/-- A range begins: the map is written no more. -/
theorem op_range {x : Operand} {t kt et : TypeId} {id ver : Nat} {ents : List (Value × AVal)} (nid : Nat) (ht : P.underlying t = some (.map kt et)) (hx : E x = some (.map id ver)) (hid : σ.get id = some (ver, .map ents)) :
    OpR P ⟨d, .range t x, ty, pos, after, guard⟩ E σ (fun a σ' => ∃ ver', a = .ptr nid ver' 0 0 ∧ σ' = (σ.keep fun i => !(Nat.beq i id)).put nid ver' (.iter (ents.map (·.1)) [])) := by
  intro ok L w ρ hs hr
  have h1 := (hr x (by simp [Op.operands]) _ hx).2 (hs.ver hid)
  obtain ⟨o1, o2, es, clock, o3, o4, o5⟩ := hs.objs id ver _ hid
  obtain ⟨ok1, L1, he1, hs1, _, hdead⟩ := freeze_core hs (fun i => !(Nat.beq i id))
  have hmb : ok1 (L.blk id) := by
    refine hdead _ ⟨id, ver, .map ents, ?_, o2, rfl⟩
    rw [Store.get_keep, if_pos (by simp)]; exact hid
  obtain ⟨he, hs'⟩ := sim_upd (w' := w.alloc (.mapIter (some (L.blk id)) clock #[] clock)) hs1 nid w.heap.size 1 1 (L1.ver nid + 1) (.iter (ents.map (·.1)) []) (by omega) rfl rfl rfl (by simp) (fun k hk _ => Go.RowKit.Below.heap_alloc w _ k hk) (.inl (Nat.le_refl _)) (fun _ => by simp)
    (fun he => ⟨by simp [Loc.upd], by simp [Loc.upd], L.blk id, es, clock, #[], hmb, (Go.RowKit.Below.heap_alloc w _ _ (hs1.okd _ hmb).1).trans o3, by simpa [Loc.upd] using heap_alloc_new w _, keys_of ents es.toList o4, o5, rfl, by simp⟩)
  refine ⟨_, _, .pointer (some ⟨w.heap.size, 0, none⟩), _, _, _, ⟨_, rfl, rfl⟩, .inl ?_, he1.trans he, hs', by simp [Loc.upd], fun _ => by simp [Loc.upd]⟩
  simp [execOp, h1, run_range_map w t kt et (L.blk id) es clock ht o3]

theorem stamp_at {es : Array MapEntry} {i : Nat} (hi : i < es.toList.length) : stampOf es i = (es.toList[i]).born := by
  rw [stampOf, List.getElem?_eq_getElem hi]; rfl
theorem stamp_inj {es : Array MapEntry} {clock i j : Nat} (h : Stamped es clock) (hi : i < es.toList.length) (hj : j < es.toList.length) (e : stampOf es i = stampOf es j) : i = j := by
  rw [stamp_at hi, stamp_at hj] at e
  have hn := h.2
  have h1 : i < (es.toList.map (·.born)).length := by simpa using hi
  have h2 : j < (es.toList.map (·.born)).length := by simpa using hj
  exact (List.getElem_inj (h₀ := h1) (h₁ := h2) hn).1 (by simpa using e)
/-- What 'next' does to an iterator of a map that is as it was. -/
theorem run_next_at (w : World) (ty : TypeId) (r mb : Nat) (es : Array MapEntry) (clock : Nat) (stamps : Array Nat) (hr : w.heap[r]? = some (.mapIter (some mb) clock stamps clock)) (hb : w.heap[mb]? = some (.map es clock)) (hst : Stamped es clock) :
    ((∀ m ∈ es.toList, m.born ∈ stamps) ∧ (Instr.next (.pointer (some ⟨r, 0, none⟩)) false ty).run P w = .ok (.tuple #[.bool false]) w) ∨
    ∃ m ∈ es.toList, m.born ∉ stamps ∧ ∃ w1 : World, (w1 = w ∨ w1 = w.drew) ∧ (Instr.next (.pointer (some ⟨r, 0, none⟩)) false ty).run P w = .ok (.tuple #[.bool true, m.key, m.val]) { w1 with heap := w1.heap.setIfInBounds r (.mapIter (some mb) clock (stamps.push m.born) clock) } := by
  have htest := next_test_false stamps es clock clock (fun x hx => hst.1 x hx) (Nat.le_refl _)
  simp only [Instr.next, getObj, Sem.run_bind, Sem.run, hr, hb, Result.andThen, htest, Bool.false_eq_true, if_false]
  have hL : ∀ x, x ∈ (Array.filter (fun e => !stamps.contains e.born) es).toList ↔ x ∈ es.toList ∧ x.born ∉ stamps := fun x => by simp
  have hmem : ∀ x ∈ (Array.filter (fun e => !stamps.contains e.born) es).toList, x.born < clock := fun x hx => hst.1 x ((hL x).1 hx).1
  generalize Array.filter (fun e => !stamps.contains e.born) es = F at hL hmem ⊢
  have e1 : F.filter (fun x => decide (x.born < clock)) = F := Array.filter_eq_self.2 (fun x hx => by simpa using hmem x (by simpa using hx))
  have e2 : F.filter (fun x => decide (x.born ≥ clock)) = #[] := by
    rw [Array.filter_eq_empty_iff]
    intro x hx
    have := hmem x (by simpa using hx)
    simp
    omega
  simp only [e1, e2, Array.append_empty]
  by_cases h0 : F.size = 0
  · left
    have : F = #[] := Array.eq_empty_of_size_eq_zero h0
    subst this
    refine ⟨fun m hm => ?_, ?_⟩
    · by_cases h : m.born ∈ stamps
      · exact h
      · have := (hL m).2 ⟨hm, h⟩; simp at this
    · simp [choose, Sem.run, Question.forced]
  · right
    have hne : F.isEmpty = false := by simp [Array.isEmpty, h0]
    simp only [hne, Bool.false_eq_true, if_false, Array.empty_append, Array.size_map]
    have hch : ∃ (j : Nat) (w1 : World), j < F.size ∧ (w1 = w ∨ w1 = w.drew) ∧ (choose (Question.mapNext F.size)).run P w = .ok j w1 := by
      by_cases hf : F.size ≤ 1
      · exact ⟨0, w, by omega, .inl rfl, by simp [choose, Sem.run, Question.forced, hf]⟩
      · exact ⟨_, w.drew, Nat.mod_lt _ (by omega), .inr rfl, by
          simp only [choose, Sem.run, Question.forced, decide_eq_true_eq, hf, if_false, Question.cut]
          rfl⟩
    obtain ⟨j, w1, hj, hal, hrun⟩ := hch
    have hin := (hL F[j]).1 (by simp)
    refine ⟨F[j], hin.1, hin.2, w1, hal, ?_⟩
    have hr1 : w1.heap[r]? = some (.mapIter (some mb) clock stamps clock) := by rcases hal with rfl | rfl <;> exact hr
    have hset : ∀ o' : Obj, (setObj r o').run P w1 = .ok () { w1 with heap := w1.heap.setIfInBounds r o' } := fun o' => by
      simp only [setObj, Sem.run, hr1]
    simp only [hrun, Array.getElem?_map, Array.getElem?_eq_getElem hj, Option.map_some, Sem.run_bind, hset, Result.andThen]
    rfl

theorem op_next {x : Operand} {id ver : Nat} {keys : List Value} {seen : List Nat} (hx : E x = some (.ptr id ver 0 0)) (hid : σ.get id = some (ver, .iter keys seen)) :
    OpR P ⟨d, .next x false, ty, pos, after, guard⟩ E σ (fun a σ' => (a = .tuple [.v (.bool false)] ∧ σ' = σ ∧ ∀ i, i < keys.length → i ∈ seen) ∨
      ∃ i k y, i ∉ seen ∧ keys[i]? = some k ∧ a = .tuple [.v (.bool true), .v k, .v y] ∧ σ' = σ.put id ver (.iter keys (seen ++ [i]))) := by
  intro ok L w ρ hs hr
  have h1 := (hr x (by simp [Op.operands]) _ hx).2 (hs.ver hid)
  obtain ⟨o1, o2, mb, es, clock, stamps, o3, o4, o5, k1, k2, k3, k4⟩ := hs.objs id ver _ hid
  have hv : ρ x = .pointer (some ⟨L.blk id, 0, none⟩) := by simpa using h1
  have hlen : keys.length = es.toList.length := by rw [← k1, List.length_map]
  rcases run_next_at (P := P) w ty (L.blk id) mb es clock stamps o5 o4 k2 with ⟨h2, h3⟩ | ⟨m, h2, h3, w1, hal, h4⟩
  · refine ⟨_, σ, .tuple #[.bool false], w, ok, L, .inl ⟨rfl, rfl, fun i hi => ?_⟩, .inl ?_, .refl _ _ _ _, hs, [.bool false], rfl, RepC.v _, trivial⟩
    · have hi' : i < es.toList.length := by omega
      have h5 := h2 _ (List.getElem_mem hi')
      rw [← Array.mem_toList_iff, k3] at h5
      obtain ⟨j, hj, e⟩ := List.mem_map.1 h5
      have := stamp_inj k2 (by have := k4 j hj; omega) hi' (e.trans (stamp_at hi').symm)
      subst this
      exact hj
    · simp only [execOp, hv]
      simp [h3]
  · obtain ⟨i, hi, rfl⟩ := List.getElem_of_mem h2
    have hnot : i ∉ seen := fun hm => h3 (by rw [← Array.mem_toList_iff, k3]; exact List.mem_map.2 ⟨i, hm, stamp_at hi⟩)
    have hw1 : w1.heap = w.heap ∧ w1.os = w.os ∧ w1.tape = w.tape ∧ w1.output = w.output := by rcases hal with rfl | rfl <;> exact ⟨rfl, rfl, rfl, rfl⟩
    have hlt : L.blk id < w.heap.size := (Array.getElem?_eq_some_iff.1 o5).1
    obtain ⟨hmb, hmf⟩ := hs.okd mb o3
    have hne : mb ≠ L.blk id := fun e => hmf ⟨id, ver, _, hid, o2, e.symm⟩
    obtain ⟨he, hs'⟩ := sim_set (w' := { w1 with heap := w1.heap.setIfInBounds (L.blk id) (.mapIter (some mb) clock (stamps.push es.toList[i].born) clock) }) hs id ver _ (.iter keys (seen ++ [i])) hid o2 hw1.2.1 hw1.2.2.1 hw1.2.2.2 (by simp [hw1.1]) (fun j hj => by simp [hw1.1, Array.getElem?_setIfInBounds_ne (Ne.symm hj)]) (fun he => by
      refine ⟨o1, o2, mb, es, clock, stamps.push es.toList[i].born, o3, ?_, by simp [hw1.1, hlt], k1, k2, ?_, ?_⟩
      · simp only [hw1.1]; rw [Array.getElem?_setIfInBounds_ne (Ne.symm hne)]; exact o4
      · rw [Array.toList_push, k3, List.map_append, List.map_singleton, stamp_at hi]
      · intro j hj
        rcases List.mem_append.1 hj with hj | hj
        · exact k4 j hj
        · rw [List.mem_singleton] at hj; omega)
    refine ⟨_, _, .tuple #[.bool true, es.toList[i].key, es.toList[i].val], _, ok, L, .inr ⟨i, es.toList[i].key, es.toList[i].val, hnot, ?_, rfl, rfl⟩, .inl ?_, he, hs', [.bool true, es.toList[i].key, es.toList[i].val], rfl, RepC.v _, RepC.v _, RepC.v _, trivial⟩
    · rw [← k1, List.getElem?_map, List.getElem?_eq_getElem hi]; rfl
    · simp only [execOp, hv]
      simp only [Sem.run_bind, h4, Result.andThen]
      rfl
theorem op_entry {x : Operand} {id ver i : Nat} {keys : List Value} {seen : List Nat} {k : Value} (hx : E x = some (.ptr id ver 0 0)) (hid : σ.get id = some (ver, .iter keys (seen ++ [i]))) (hk : keys[i]? = some k) :
    OpR P ⟨d, .entry x, ty, pos, after, guard⟩ E σ (fun a σ' => ∃ y, a = .tuple [.v k, .v y] ∧ σ' = σ) := by
  intro ok L w ρ hs hr
  have h1 := (hr x (by simp [Op.operands]) _ hx).2 (hs.ver hid)
  obtain ⟨o1, o2, mb, es, clock, stamps, o3, o4, o5, k1, k2, k3, k4⟩ := hs.objs id ver _ hid
  have hv : ρ x = .pointer (some ⟨L.blk id, 0, none⟩) := by simpa using h1
  have hi : i < es.toList.length := by
    have := k4 i (by simp)
    rw [← k1, List.length_map] at this
    exact this
  have hback : stamps.back? = some es.toList[i].born := by
    rw [← Array.getLast?_toList, k3, List.map_append, List.map_singleton, List.getLast?_append]
    simp [stamp_at hi]
  have hfind : es.find? (fun m => m.born == es.toList[i].born) = some es.toList[i] := by
    rw [← Array.find?_toList]; exact find_born _ _ k2.2 (List.getElem_mem hi)
  have hkey : es.toList[i].key = k := by
    rw [← k1, List.getElem?_map, List.getElem?_eq_getElem hi] at hk
    simpa using hk
  refine ⟨.tuple [.v k, .v es.toList[i].val], σ, .tuple #[es.toList[i].key, es.toList[i].val], w, ok, L, ⟨es.toList[i].val, rfl, rfl⟩, .inl ?_, .refl _ _ _ _, hs, [es.toList[i].key, es.toList[i].val], rfl, ?_, RepC.v _, trivial⟩
  · simp only [execOp, hv, Instr.entry, getObj, Sem.run_bind, Sem.run, o5, o4, Result.andThen, hback, hfind]
    simp
  · rw [hkey]; exact RepC.v _
end
end Go.Proofs.YtnnklpmgncbgnaaGreat
