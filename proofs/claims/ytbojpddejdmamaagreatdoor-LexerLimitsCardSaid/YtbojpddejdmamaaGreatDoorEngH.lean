/- The engine, part 8: values built; calls; what is lent to a call, what is handed over. -/
import Derived.Test.YtbojpddejdmamaaGreatDoorEngG
set_option linter.unusedVariables false
set_option linter.unusedSimpArgs false
namespace Go.Proofs.YtbojpddejdmamaaGreatDoor
open Go

section
variable {P : Program} {n : Nat} {Q : APost} {env : Env} {σ σ' : Store} {ops : Array Oper} {rest : List Oper}
variable {E : Operand → Option AVal} {d : Option Tmp} {ty : TypeId} {pos : String} {after : Array Edge} {guard : Option (Nat × Bool)}

/-! ### Values built -/
def fillA (place : Nat → Option (Nat × Nat)) (cells : List AVal) : List (Nat × AVal) → Option (List AVal)
  | [] => some cells
  | (i, a) :: rest =>
    match place i with
    | none => none
    | some (off, size) => if a.cells.length = size ∧ off + size ≤ cells.length then fillA place (splice cells off a.cells) rest else none

theorem foldl_set (vs : List Value) (off k : Nat) (cells : Array Value) (h : off + k + vs.length ≤ cells.size) :
    ((vs.zipIdx k).foldl (fun cs (c : Value × Nat) => cs.setIfInBounds (off + c.2) c.1) cells).toList = cells.toList.take (off + k) ++ vs ++ cells.toList.drop (off + k + vs.length) := by
  induction vs generalizing k cells with
  | nil => simp
  | cons v vs ih =>
    simp only [List.zipIdx_cons, List.foldl_cons, List.length_cons] at h ⊢
    rw [ih (k + 1) _ (by simp; omega)]
    have hlt : off + k < cells.toList.length := by simp; omega
    simp only [Array.toList_setIfInBounds]
    rw [List.set_eq_take_append_cons_drop, if_pos hlt]
    have hl : (cells.toList.take (off + k)).length = off + k := by simp; omega
    rw [show off + (k + 1) = (off + k) + 1 from by omega]
    rw [List.take_append, List.drop_append, hl]
    simp only [Nat.add_sub_cancel_left]
    rw [show off + k + 1 + vs.length - (off + k) = vs.length + 1 from by omega]
    rw [List.drop_eq_nil_of_le (as := cells.toList.take (off + k)) (by rw [hl]; omega)]
    rw [List.take_of_length_le (l := cells.toList.take (off + k)) (by rw [hl]; omega)]
    simp [List.drop_drop]
    congr 1
    omega

theorem All2.append {α β : Type} {R : α → β → Prop} : ∀ {as : List α} {bs : List β} {as' : List α} {bs' : List β}, All2 R as bs → All2 R as' bs' → All2 R (as ++ as') (bs ++ bs')
  | [], [], _, _, _, h => h
  | _ :: _, _ :: _, _, _, ⟨h1, h2⟩, h => ⟨h1, All2.append h2 h⟩
  | [], _ :: _, _, _, h, _ => h.elim
  | _ :: _, [], _, _, h, _ => h.elim
theorem All2.take {α β : Type} {R : α → β → Prop} : ∀ {as : List α} {bs : List β} (k : Nat), All2 R as bs → All2 R (as.take k) (bs.take k)
  | [], [], k, _ => by simp [All2]
  | _ :: _, _ :: _, 0, _ => by simp [All2]
  | _ :: _, _ :: _, k + 1, ⟨h1, h2⟩ => ⟨h1, All2.take k h2⟩
  | [], _ :: _, _, h => h.elim
  | _ :: _, [], _, h => h.elim
theorem All2.drop {α β : Type} {R : α → β → Prop} : ∀ {as : List α} {bs : List β} (k : Nat), All2 R as bs → All2 R (as.drop k) (bs.drop k)
  | [], [], k, _ => by simp [All2]
  | _ :: _, _ :: _, 0, h => h
  | _ :: _, _ :: _, k + 1, ⟨h1, h2⟩ => All2.drop k h2
  | [], _ :: _, _, h => h.elim
  | _ :: _, [], _, h => h.elim

/-- The machine's cells of a value told by cells. -/
theorem Rep.cells2 {ok : Nat → Prop} {L : Loc} {w : World} {a : AVal} {v : Value} (h : Rep ok L w a v) (h1 : a.cells.all AVal.oneB = true) (hl : ∀ b ∈ a.cells, ∀ id ver, (∃ off m, b = .slice id ver off m) ∨ (∃ i j, b = .ptr id ver i j) ∨ b = .map id ver → L.ver id = ver) :
    All2 (RepL ok L w) a.cells v.cells.toList := by
  cases a with
  | agg cs =>
    obtain ⟨vs, rfl, h3⟩ := h
    simp only [AVal.cells]
    simpa only [Value.cells, List.toList_toArray] using h3
  | tuple cs => simp [AVal.cells, AVal.oneB] at h1
  | fn f cs => simp [AVal.cells, AVal.oneB] at h1
  | _ =>
    have hr := Rep.toL h rfl
    simp only [AVal.cells, List.all_cons, List.all_nil, Bool.and_true] at h1
    have ho := hr.oneCell h1 (hl _ (by simp [AVal.cells]))
    have hc : v.cells = #[v] := by cases v <;> first | rfl | simp [Value.oneCell'] at ho
    rw [hc]
    exact ⟨hr, trivial⟩

theorem fill_rep {ok : Nat → Prop} {L : Loc} {w : World} {ρ : Operand → Value} (hs : Sim ok L σ w) (place : Nat → Option (Nat × Nat)) : ∀ (parts : List (Nat × Operand)) (pa : List (Nat × AVal)) (cells : List AVal) (vs : Array Value) (res : List AVal), All2 (RepL ok L w) cells vs.toList →
    All2 (fun (p : Nat × AVal) (q : Nat × Operand) => p.1 = q.1 ∧ Rep ok L w p.2 (ρ q.2) ∧ p.2.cells.all AVal.oneB = true ∧ p.2.cells.all (AVal.live σ) = true) pa parts → fillA place cells pa = some res →
    ∃ out : Array Value, Instr.fill place vs (parts.map fun q => (q.1, ρ q.2)) = some out ∧ All2 (RepL ok L w) res out.toList := by
  intro parts
  induction parts with
  | nil =>
    intro pa cells vs res hc hp hf
    cases pa with
    | nil => simp only [fillA, Option.some.injEq] at hf; subst hf; exact ⟨vs, by simp [Instr.fill], hc⟩
    | cons _ _ => exact hp.elim
  | cons q parts ih =>
    intro pa cells vs res hc hp hf
    cases pa with
    | nil => exact hp.elim
    | cons p pa =>
      obtain ⟨⟨e, hr, h1, hl⟩, hp⟩ := hp
      obtain ⟨i, a⟩ := p
      obtain ⟨i', x⟩ := q
      simp only at e hr h1 hl
      subst e
      simp only [fillA] at hf
      cases hpl : place i with
      | none => rw [hpl] at hf; cases hf
      | some os =>
        obtain ⟨off, size⟩ := os
        rw [hpl] at hf
        simp only at hf
        split at hf
        · rename_i hcond
          obtain ⟨c1, c2⟩ := hcond
          obtain ⟨k1, _⟩ := hr.cells hs h1 hl
          have kl := All2.length _ _ k1
          have hcl := All2.length _ _ hc
          have hsz : (ρ x).cells.size = size := by rw [← c1, kl]; simp
          have hfit : off + size ≤ vs.size := by rw [show vs.size = cells.length from by rw [hcl]; simp]; exact c2
          have hfold := foldl_set (ρ x).cells.toList off 0 vs (by simp; omega)
          obtain ⟨out, o1, o2⟩ := ih pa (splice cells off a.cells) ((ρ x).cells.zipIdx.foldl (fun cs (c : Value × Nat) => cs.setIfInBounds (off + c.2) c.1) vs) res (by
            rw [← Array.foldl_toList, Array.toList_zipIdx, hfold]
            simp only [Nat.add_zero]
            refine All2.append (All2.append (All2.take off hc) k1) ?_
            rw [← kl]
            exact All2.drop _ hc) hp hf
          refine ⟨out, ?_, o2⟩
          simp only [List.map_cons, Instr.fill, hpl]
          rw [if_neg (by simp [hsz]; omega)]
          exact o1
        · cases hf

/-- the parts of a build, told -/
def partsA (E : Operand → Option AVal) : List (Nat × Operand) → Option (List (Nat × AVal))
  | [] => some []
  | (i, x) :: r => match E x, partsA E r with
    | some a, some as => some ((i, a) :: as)
    | _, _ => none
def okPart (σ : Store) (a : AVal) : Bool := a.cells.all AVal.oneB && a.cells.all (AVal.live σ)
theorem partsA_rep {ok : Nat → Prop} {L : Loc} {w : World} {ρ : Operand → Value} : ∀ (ps : List (Nat × Operand)) (as : List (Nat × AVal)), (∀ p ∈ ps, ∀ b, E p.2 = some b → Rep ok L w b (ρ p.2)) → partsA E ps = some as → as.all (fun p => okPart σ p.2) = true →
    All2 (fun (p : Nat × AVal) (q : Nat × Operand) => p.1 = q.1 ∧ Rep ok L w p.2 (ρ q.2) ∧ p.2.cells.all AVal.oneB = true ∧ p.2.cells.all (AVal.live σ) = true) as ps
  | [], as, _, h, _ => by simp [partsA] at h; subst h; trivial
  | (i, x) :: ps, as, hr, h, ho => by
    simp only [partsA] at h
    split at h
    · rename_i a as' h1 h2
      cases h
      simp only [List.all_cons, Bool.and_eq_true, okPart] at ho
      exact ⟨⟨rfl, hr (i, x) (by simp) a h1, ho.1.1, ho.1.2⟩, partsA_rep ps as' (fun p hp => hr p (by simp [hp])) h2 (by simpa [okPart] using ho.2)⟩
    · cases h

theorem op_build_struct {t : TypeId} {parts : Array (Nat × Operand)} {fs : Array Field} {inf : TypeInfo} {z : Value} {places : Array (Nat × Nat)} {pa : List (Nat × AVal)} {res : List AVal} (ht : P.underlying t = some (.struct fs)) (hi : P.info? t = some inf) (hz : inf.zero = some z)
    (hpl : ∀ w, ((fs.mapM fun f => do pure (f.offset, ← sizeOf f.type) : Sem (Array (Nat × Nat)))).run P w = .ok places w)
    (hp : partsA E parts.toList = some pa) (ho : pa.all (fun p => okPart σ p.2) = true) (hf : fillA (places[·]?) (z.cells.toList.map .v) pa = some res) :
    OpTo P ⟨d, .build t parts, ty, pos, after, guard⟩ E σ (.agg res) σ :=
  op_value fun ok L w ρ hs hr => by
    have h1 := partsA_rep (σ := σ) (ρ := ρ) (ok := ok) (L := L) (w := w) parts.toList pa (fun p hp b hb => hr p.2 (by simp [Op.operands]; exact ⟨p.1, by simpa using hp⟩) b hb) hp ho
    obtain ⟨out, o1, o2⟩ := fill_rep hs (places[·]?) parts.toList pa _ z.cells res (All2.map_v ok L w _) h1 hf
    refine ⟨.agg out, ?_, out.toList, by simp, o2⟩
    have e : (parts.map fun (p : Nat × Operand) => (p.1, ρ p.2)).toList = parts.toList.map fun q => (q.1, ρ q.2) := by simp
    simp only [execOp, Instr.build, zeroValue, typeInfo, Sem.run_bind, run_program, hi, hz, run_underlying ht, Result.andThen_ok, Sem.run_pure, hpl, e, o1]
theorem op_build_array {t e m : Nat} {parts : Array (Nat × Operand)} {inf einf : TypeInfo} {z : Value} {pa : List (Nat × AVal)} {res : List AVal} (ht : P.underlying t = some (.array m e)) (hi : P.info? t = some inf) (hz : inf.zero = some z) (he : P.info? e = some einf)
    (hp : partsA E parts.toList = some pa) (ho : pa.all (fun p => okPart σ p.2) = true) (hf : fillA (fun i => some (i * einf.size, einf.size)) (z.cells.toList.map .v) pa = some res) :
    OpTo P ⟨d, .build t parts, ty, pos, after, guard⟩ E σ (.agg res) σ :=
  op_value fun ok L w ρ hs hr => by
    have h1 := partsA_rep (σ := σ) (ρ := ρ) (ok := ok) (L := L) (w := w) parts.toList pa (fun p hp b hb => hr p.2 (by simp [Op.operands]; exact ⟨p.1, by simpa using hp⟩) b hb) hp ho
    obtain ⟨out, o1, o2⟩ := fill_rep hs (fun i => some (i * einf.size, einf.size)) parts.toList pa _ z.cells res (All2.map_v ok L w _) h1 hf
    refine ⟨.agg out, ?_, out.toList, by simp, o2⟩
    have e : (parts.map fun (p : Nat × Operand) => (p.1, ρ p.2)).toList = parts.toList.map fun q => (q.1, ρ q.2) := by simp
    simp only [execOp, Instr.build, zeroValue, typeInfo, Sem.run_bind, run_program, hi, hz, run_underlying ht, sizeOf, he, Result.andThen_ok, Sem.run_pure, e, o1]

/-! '[]T{..}' -/
theorem map_range_fill {z : Array Value} {sz m : Nat} (hz : z.size = sz) (h0 : 0 < sz) : ((Array.range (m * sz)).map (z[· % z.size]!)).toList = (List.replicate m z.toList).flatten := by
  subst hz
  induction m with
  | zero => simp
  | succ m ih =>
    apply List.ext_getElem?
    intro i
    rw [List.replicate_succ', List.flatten_append, ← ih]
    simp only [Array.toList_map, Array.toList_range, List.getElem?_map, List.flatten_singleton]
    rw [List.getElem?_append]
    simp only [List.length_map, List.length_range]
    by_cases h : i < m * z.size
    · rw [if_pos h, List.getElem?_map, List.getElem?_range (by rw [Nat.add_mul]; omega), List.getElem?_range h]
    · rw [if_neg h]
      by_cases h2 : i < (m + 1) * z.size
      · rw [List.getElem?_range h2]
        have e : i % z.size = i - m * z.size := by
          rw [Nat.add_mul] at h2
          have : i = z.size * m + (i - m * z.size) := by rw [Nat.mul_comm]; omega
          rw [this, Nat.mul_add_mod, Nat.mod_eq_of_lt (by omega)]
          rw [Nat.mul_comm]; omega
        have hlt : i - m * z.size < z.size := by rw [Nat.add_mul] at h2; omega
        simp [e, hlt]
      · rw [List.getElem?_eq_none (by simpa using h2), List.getElem?_eq_none (by rw [Nat.add_mul] at h2; simp; omega)]
        rfl

/-- cut into pieces of sz -/
def chunk (sz : Nat) : Nat → List AVal → List (List AVal)
  | 0, _ => []
  | m + 1, l => l.take sz :: chunk sz m (l.drop sz)
theorem chunk_get (sz : Nat) : ∀ (m : Nat) (l : List AVal) (i : Nat), i < m → (chunk sz m l)[i]? = some ((l.drop (i * sz)).take sz)
  | m + 1, l, 0, _ => by simp [chunk]
  | m + 1, l, i + 1, h => by
    simp only [chunk, List.getElem?_cons_succ]
    rw [chunk_get sz m _ i (by omega), List.drop_drop]
    congr 3
    rw [Nat.add_mul]; omega
theorem chunk_length (sz : Nat) : ∀ (m : Nat) (l : List AVal), (chunk sz m l).length = m
  | 0, _ => rfl
  | m + 1, l => by simp [chunk, chunk_length sz m]

theorem chunk_at {sz m : Nat} {l : List AVal} {i j : Nat} {el : List AVal} {av : AVal} (h1 : (chunk sz m l)[i]? = some el) (h2 : el[j]? = some av) : i < m ∧ j < sz ∧ l[i * sz + j]? = some av := by
  have hi : i < m := by
    rcases Nat.lt_or_ge i m with h | h
    · exact h
    · rw [List.getElem?_eq_none (by rw [chunk_length]; exact h)] at h1; cases h1
  rw [chunk_get sz m l i hi] at h1
  cases h1
  rw [List.getElem?_take] at h2
  split at h2
  · rename_i hj
    rw [List.getElem?_drop] at h2
    exact ⟨hi, hj, h2⟩
  · cases h2

theorem buildSlice_core {ok : Nat → Prop} {L : Loc} {w : World} {ρ : Operand → Value} {t e m sz : Nat} {parts : Array (Nat × Operand)} {inf : TypeInfo} {z : Value} {pa : List (Nat × AVal)} {res : List AVal} (hs : Sim ok L σ w) (hr : ∀ p ∈ parts.toList, ∀ b, E p.2 = some b → Rep ok L w b (ρ p.2)) (ht : P.underlying t = some (.slice e)) (hi : P.info? e = some inf) (hz : inf.zero = some z) (hsz : inf.size = sz) (h0 : 0 < sz) (hzs : z.cells.toList.length = sz) (hm : m * sz ≤ 16777216)
    (hp : partsA E parts.toList = some pa) (ho : pa.all (fun p => okPart σ p.2) = true) (hf : fillA (fun i => some (i * sz, sz)) ((List.replicate m (z.cells.toList.map .v)).flatten) pa = some res) :
    ∃ out : Array Value, (Instr.buildSlice t m (parts.map fun (p : Nat × Operand) => (p.1, ρ p.2))).run P w = .ok (.slice (some ⟨w.heap.size, 0, none⟩) m m) (w.alloc (.cells out e)) ∧ All2 (RepL ok L w) res out.toList ∧ out.size = m * sz := by
  have h1 := partsA_rep (σ := σ) (ρ := ρ) (ok := ok) (L := L) (w := w) parts.toList pa hr hp ho
  have hzz : z.cells.size = sz := by simpa using hzs
  have hstart : All2 (RepL ok L w) ((List.replicate m (z.cells.toList.map .v)).flatten) ((Array.range (m * sz)).map (z.cells[· % z.cells.size]!)).toList := by
    rw [map_range_fill hzz h0]
    have : (List.replicate m (z.cells.toList.map AVal.v)).flatten = ((List.replicate m z.cells.toList).flatten).map AVal.v := by
      rw [List.map_flatten]; simp
    rw [this]
    exact All2.map_v ok L w _
  obtain ⟨out, o1, o2⟩ := fill_rep hs (fun i => some (i * sz, sz)) parts.toList pa _ _ res hstart h1 hf
  have hlen : ∀ (place : Nat → Option (Nat × Nat)) (pa : List (Nat × AVal)) (cells res : List AVal), fillA place cells pa = some res → res.length = cells.length := by
    intro place pa
    induction pa with
    | nil => intro cells res h; simp only [fillA, Option.some.injEq] at h; rw [h]
    | cons p pa ih =>
      intro cells res h
      obtain ⟨i, a⟩ := p
      simp only [fillA] at h
      split at h
      · cases h
      · split at h
        · rename_i hc
          rw [ih _ _ h]
          simp only [splice, List.length_append, List.length_take, List.length_drop]
          omega
        · cases h
  refine ⟨out, ?_, o2, ?_⟩
  · have e : (parts.map fun (p : Nat × Operand) => (p.1, ρ p.2)).toList = parts.toList.map fun q => (q.1, ρ q.2) := by simp
    have hb : ¬ (m * sz > 2 ^ 24) := by omega
    simp only [Instr.buildSlice, Sem.run_bind, run_underlying ht, Result.andThen_ok, sizeOf, typeInfo, run_program, hi, Sem.run_pure, hsz]
    by_cases hmz : m * sz = 0
    · rw [if_neg hb, if_pos hmz]
      have e2 : ∀ f : Nat → Value, (Array.range (m * sz)).map f = #[] := by intro f; rw [hmz]; simp
      rw [e2] at o1
      simp only [Sem.run_pure, Result.andThen_ok, e2, e, o1]
      simp [newRow]
    · rw [if_neg hb, if_neg hmz]
      simp only [zeroValue, typeInfo, Sem.run_bind, run_program, hi, hz, Result.andThen_ok, Sem.run_pure, e, o1]
      simp [newRow]
  · have h2 := All2.length _ _ o2
    have h3 := hlen _ _ _ _ hf
    rw [h3] at h2
    simp at h2
    rw [← h2]
    have : z.cells.size = sz := hzz
    simp [this]

theorem op_buildSlice_own {t e m sz : Nat} {parts : Array (Nat × Operand)} {inf : TypeInfo} {z : Value} {pa : List (Nat × AVal)} {res : List AVal} (id : Nat) (ht : P.underlying t = some (.slice e)) (hi : P.info? e = some inf) (hz : inf.zero = some z) (hsz : inf.size = sz) (h0 : 0 < sz) (hzs : z.cells.toList.length = sz) (hm : m * sz ≤ 16777216)
    (hp : partsA E parts.toList = some pa) (ho : pa.all (fun p => okPart σ p.2) = true) (hf : fillA (fun i => some (i * sz, sz)) ((List.replicate m (z.cells.toList.map .v)).flatten) pa = some res) (h1 : res.all AVal.oneB = true) (hl : res.all (AVal.live σ) = true) :
    OpR P ⟨d, .buildSlice t m parts, ty, pos, after, guard⟩ E σ (fun r σ' => ∃ ver, r = .slice id ver 0 m ∧ σ' = σ.put id ver (.row sz (chunk sz m res))) := by
  intro ok L w ρ hs hr
  obtain ⟨out, o1, o2, o3⟩ := buildSlice_core (E := E) hs (fun p hp b hb => hr p.2 (by simp [Op.operands]; exact ⟨p.1, by simpa using hp⟩) b hb) ht hi hz hsz h0 hzs hm hp ho hf
  have hrl : res.length = m * sz := by rw [All2.length _ _ o2]; simpa using o3
  obtain ⟨he, hs'⟩ := sim_upd (w' := w.alloc (.cells out e)) hs id w.heap.size m sz (L.ver id + 1) (.row sz (chunk sz m res)) (by omega) rfl rfl rfl (by simp) (fun k hk _ => Go.RowKit.Below.heap_alloc w _ k hk) (.inl (Nat.le_refl _)) (fun _ => by simp)
    (fun he => objrep_new hs he (heap_alloc_new w _) (fun el hel => by
        obtain ⟨i, hi'⟩ := List.getElem?_of_mem hel
        have hlt : i < m := by
          rcases Nat.lt_or_ge i m with h | h
          · exact h
          · rw [List.getElem?_eq_none (by rw [chunk_length]; exact h)] at hi'; cases hi'
        rw [chunk_get sz m res i hlt] at hi'
        cases hi'
        have : (i + 1) * sz ≤ m * sz := Nat.mul_le_mul_right _ hlt
        rw [Nat.add_mul] at this
        simp; omega) (by rw [chunk_length]; exact Nat.le_refl _) o3 (fun i el j av h1' h2' => by
      obtain ⟨_, _, h3⟩ := chunk_at h1' h2'
      obtain ⟨v, h4, h5⟩ := All2.get _ _ o2 _ _ h3
      have hm := List.mem_of_getElem? h3
      exact ⟨v, by simpa using h4, h5, h5.oneCell (List.all_eq_true.1 h1 av hm) (AVal.live_ver hs (List.all_eq_true.1 hl av hm))⟩))
  refine ⟨_, _, .slice (some ⟨w.heap.size, 0, none⟩) m m, _, ok, _, ⟨_, rfl, rfl⟩, .inl ?_, he, hs', by simp [Loc.upd], fun _ => ⟨_, _, rfl, Nat.le_refl _, by simp [Loc.upd], fun _ => by simp [Loc.upd]⟩⟩
  simp [execOp, o1]

/-- The same, told as what may only be read from now on. -/
theorem op_buildSlice {t e m sz : Nat} {parts : Array (Nat × Operand)} {inf : TypeInfo} {z : Value} {pa : List (Nat × AVal)} {res : List AVal} (ht : P.underlying t = some (.slice e)) (hi : P.info? e = some inf) (hz : inf.zero = some z) (hsz : inf.size = sz) (h0 : 0 < sz) (hzs : z.cells.toList.length = sz) (hm : m * sz ≤ 16777216)
    (hp : partsA E parts.toList = some pa) (ho : pa.all (fun p => okPart σ p.2) = true) (hf : fillA (fun i => some (i * sz, sz)) ((List.replicate m (z.cells.toList.map .v)).flatten) pa = some res) (h1 : res.all AVal.oneB = true) (hc : res.all AVal.clo1 = true) :
    OpTo P ⟨d, .buildSlice t m parts, ty, pos, after, guard⟩ E σ (.list sz (chunk sz m res)) σ := by
  intro ok L w ρ hs hr
  obtain ⟨out, o1, o2, o3⟩ := buildSlice_core (E := E) hs (fun p hp b hb => hr p.2 (by simp [Op.operands]; exact ⟨p.1, by simpa using hp⟩) b hb) ht hi hz hsz h0 hzs hm hp ho hf
  have hrl : res.length = m * sz := by rw [All2.length _ _ o2]; simpa using o3
  obtain ⟨he, hs'⟩ := sim_allocI hs (.cells out e)
  refine ⟨_, _, _, L, .inl (by simp [execOp, o1]; rfl), he, hs', ?_⟩
  have key : ∀ i el j av, (chunk sz m res)[i]? = some el → el[j]? = some av → ∃ v, out[i * sz + j]? = some v ∧ RepC ok w av v := by
    intro i el j av h1' h2'
    obtain ⟨_, _, h3⟩ := chunk_at h1' h2'
    obtain ⟨v, h4, h5⟩ := All2.get _ _ o2 _ _ h3
    exact ⟨v, by simpa using h4, h5.repC (List.all_eq_true.1 hc av (List.mem_of_getElem? h3))⟩
  have res' := RepC.list (ok := fun b => ok b ∨ b = w.heap.size) (w := w.alloc (.cells out e)) sz (chunk sz m res) w.heap.size 0 m (fun i j => (out[i * sz + j]?).getD undef) (.inr rfl) (by rw [chunk_length]; exact Nat.le_refl _) (fun el hel => by
        obtain ⟨i, hi'⟩ := List.getElem?_of_mem hel
        have hlt : i < m := by
          rcases Nat.lt_or_ge i m with h | h
          · exact h
          · rw [List.getElem?_eq_none (by rw [chunk_length]; exact h)] at hi'; cases hi'
        rw [chunk_get sz m res i hlt] at hi'
        cases hi'
        have : (i + 1) * sz ≤ m * sz := Nat.mul_le_mul_right _ hlt
        rw [Nat.add_mul] at this
        simp; omega) (fun i el j av h1' h2' => by
      obtain ⟨v, h3, _⟩ := key i el j av h1' h2'
      rw [World.cell?_alloc_new, Nat.zero_add, h3]; rfl) (fun i el j av h1' h2' => by
      obtain ⟨v, h3, h4⟩ := key i el j av h1' h2'
      rw [h3]
      obtain ⟨_, _, h5⟩ := chunk_at h1' h2'
      exact h4.oneCell (List.all_eq_true.1 h1 av (List.mem_of_getElem? h5))) (fun i el j av h1' h2' => by
      obtain ⟨v, h3, h4⟩ := key i el j av h1' h2'
      rw [h3]
      exact h4.mono (fun b hb => .inl hb) (fun b hb => Go.RowKit.Below.heap_alloc w _ b (hs.okd b hb).1))
  rw [chunk_length] at res'
  exact res'
end
end Go.Proofs.YtbojpddejdmamaaGreatDoor
