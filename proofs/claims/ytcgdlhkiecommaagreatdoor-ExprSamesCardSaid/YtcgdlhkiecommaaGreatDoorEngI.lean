import Derived.Test.YtcgdlhkiecommaaGreatDoorEngE

/- The engine, part 6: append; structs and arrays as values; slices cut; calls. -/

set_option linter.unusedVariables false
set_option linter.unusedSimpArgs false
namespace Go.Proofs.YtcgdlhkiecommaaGreatDoor
open Go
section
variable {P : Program} {w : World}
def notInt : TypeDesc → Bool
  | .slice _ => true
  | .string => true
  | _ => false
theorem run_append_fit {t u ty e : TypeId} {ud : TypeDesc} {inf : TypeInfo} (ht : P.underlying t = some (.slice e)) (hu : P.underlying u = some ud) (hn : notInt ud = true) (hi : P.info? e = some inf)
    (base : Option Addr) (sLen sCap m : Nat) (x : Value) (vals : List Value) (hlen : (Builtin.lenOf x).run P w = .ok m w) (hf : (Builtin.firstCells inf.size m x).run P w = .ok vals.toArray w) (hfit : sLen + m ≤ sCap) :
    (Builtin.append_ #[t, u] ty #[.slice base sLen sCap, x]).run P w = (match base with
      | some a => ((storeCells (a.add (sLen * inf.size)) vals).run P w).andThen fun _ w' => .ok (.slice base (sLen + m) sCap) w'
      | none => .ok (.slice base (sLen + m) sCap) w) := by
  cases ud with
  | slice e' => cases base <;> simp [Builtin.append_, run_underlying ht, run_underlying hu, sizeOf, typeInfo, hi, hlen, hf, hfit]
  | string => cases base <;> simp [Builtin.append_, run_underlying ht, run_underlying hu, sizeOf, typeInfo, hi, hlen, hf, hfit]
  | _ => simp [notInt] at hn
theorem run_append_new {t u ty e : TypeId} {ud : TypeDesc} {inf : TypeInfo} {z : Value} (ht : P.underlying t = some (.slice e)) (hu : P.underlying u = some ud) (hn : notInt ud = true) (hi : P.info? e = some inf) (hz : inf.zero = some z)
    (base : Option Addr) (sLen sCap m : Nat) (x : Value) (olds vals : List Value) (hlen : (Builtin.lenOf x).run P w = .ok m w)
    (hfo : (Builtin.firstCells inf.size sLen (.slice base sLen sCap)).run P w.drew = .ok olds.toArray w.drew) (hf : (Builtin.firstCells inf.size m x).run P w.drew = .ok vals.toArray w.drew) (hfit : sCap < sLen + m)
    (h63 : ((sLen + m : Nat) : Int) ≤ 9223372036854775807) (hby : (sLen + m) * inf.bytes ≤ 140737488355328) :
    (Builtin.append_ #[t, u] ty #[.slice base sLen sCap, x]).run P w = .ok (.slice (some ⟨w.heap.size, 0, none⟩) (sLen + m) (grownCap w (sLen + m) sCap e))
        (w.drew.alloc (.cells (olds.toArray ++ (vals.toArray ++ Builtin.zeroCells z.cells (grownCap w (sLen + m) sCap e - (sLen + m)))) e)) := by
  have hn' : ¬ (sLen + m ≤ sCap) := by omega
  have h63' : ¬ (9223372036854775807 < ((sLen : Int) + (m : Int))) := by omega
  have h48' : ¬ (281474976710656 < Builtin.nextslicecap (sLen + m) sCap * inf.bytes) := by
    have := growslice_fits hfit hby
    omega
  cases ud with
  | slice e' => simp [Builtin.append_, run_underlying ht, run_underlying hu, sizeOf, typeInfo, zeroValue, hi, hz, hlen, hn', h63', h48', Question.forced, hfo, hf, newRow, grownCap]
  | string => simp [Builtin.append_, run_underlying ht, run_underlying hu, sizeOf, typeInfo, zeroValue, hi, hz, hlen, hn', h63', h48', Question.forced, hfo, hf, newRow, grownCap]
  | _ => simp [notInt] at hn
/-- What is appended: its elements, in memory. -/
def Src (P : Program) (ok : Nat → Prop) (L : Loc) (w : World) (sz : Nat) (x : Value) (news : List (List AVal)) : Prop :=
  (∀ el ∈ news, el.length = sz) ∧ ∃ vals : List Value, vals.length = news.length * sz ∧ (Builtin.lenOf x).run P w = .ok news.length w ∧
    (Builtin.firstCells sz news.length x).run P w = .ok vals.toArray w ∧ (Builtin.firstCells sz news.length x).run P w.drew = .ok vals.toArray w.drew ∧
    ∀ i el j av, news[i]? = some el → el[j]? = some av → ∃ v, vals[i * sz + j]? = some v ∧ RepL ok L w av v ∧ v.oneCell' = true
theorem firstCells_at {sz m c : Nat} {b o : Nat} {vals : List Value} (hl : vals.length = m * sz) (h : ∀ k v, vals[k]? = some v → w.cell? ⟨b, o + k, none⟩ = some v) (len : Nat) :
    (Builtin.firstCells sz m (.slice (some ⟨b, o, none⟩) len c)).run P w = .ok vals.toArray w :=
  run_firstCells_some (P := P) w sz m ⟨b, o, none⟩ len c vals hl (fun j v hj => by rw [addr_add0]; exact h j v hj)
/-- The flat list of what a row's elements hold, out of a function of the place. -/
theorem flat_vals (sz : Nat) (news : List (List AVal)) (f : Nat → Value) (k : Nat) (hk : k < news.length * sz) : ((List.range (news.length * sz)).map f)[k]? = some (f k) := by
  rw [List.getElem?_map, List.getElem?_range hk]; rfl
theorem place_lt {i j sz m : Nat} (hi : i < m) (hj : j < sz) : i * sz + j < m * sz := by
  have : (i + 1) * sz ≤ m * sz := Nat.mul_le_mul_right _ hi
  rw [Nat.add_mul] at this
  omega
theorem place_div {i j sz : Nat} (hj : j < sz) : (i * sz + j) / sz = i ∧ (i * sz + j) % sz = j := by
  have h0 : 0 < sz := by omega
  constructor
  · rw [Nat.mul_comm, Nat.mul_add_div h0, Nat.div_eq_of_lt hj]; rfl
  · rw [Nat.mul_comm, Nat.mul_add_mod, Nat.mod_eq_of_lt hj]
theorem src_list {ok : Nat → Prop} {L : Loc} {sz : Nat} {els : List (List AVal)} {v : Value} (h0 : 0 < sz) (h : RepC ok w (.list sz els) v) : Src P ok L w sz v els := by
  obtain ⟨a, c, rfl, hc, hh⟩ := h.list_form
  rcases hh with rfl | ⟨b, o, vs, rfl, hok, hs, hcell, hrep, h1⟩
  · refine ⟨by simp, [], by simp, by simp [Builtin.lenOf], ?_, ?_, by simp⟩
    · cases a <;> simp [Builtin.firstCells, loadCells, loadCellsFrom]
    · cases a <;> simp [Builtin.firstCells, loadCells, loadCellsFrom]
  · let f : Nat → Value := fun k => vs (k / sz) (k % sz)
    have hf : ∀ i el j av, els[i]? = some el → el[j]? = some av → ((List.range (els.length * sz)).map f)[i * sz + j]? = some (vs i j) := by
      intro i el j av hi hj
      have hi' : i < els.length := by
        rcases Nat.lt_or_ge i els.length with h | h
        · exact h
        · simp [List.getElem?_eq_none h] at hi
      have hj' : j < sz := by
        have := hs el (List.mem_of_getElem? hi)
        rcases Nat.lt_or_ge j el.length with h | h
        · omega
        · simp [List.getElem?_eq_none h] at hj
      rw [flat_vals sz els f _ (place_lt hi' hj')]
      show some (vs ((i * sz + j) / sz) ((i * sz + j) % sz)) = _
      rw [(place_div hj').1, (place_div hj').2]
    have hcells : ∀ k u, ((List.range (els.length * sz)).map f)[k]? = some u → w.cell? ⟨b, o + k, none⟩ = some u := by
      intro k u hk
      rcases Nat.lt_or_ge k (els.length * sz) with hl | hl
      · rw [flat_vals sz els f k hl] at hk
        cases hk
        have hi' : k / sz < els.length := by rw [Nat.div_lt_iff_lt_mul h0]; exact hl
        have hj' : k % sz < sz := Nat.mod_lt _ h0
        have hm := List.getElem_mem hi'
        have hlen := hs _ hm
        have := hcell (k / sz) _ (k % sz) _ (List.getElem?_eq_getElem hi') (List.getElem?_eq_getElem (by omega))
        have e : o + k / sz * sz + k % sz = o + k := by have := Nat.div_add_mod k sz; rw [Nat.mul_comm] at this; omega
        rw [e] at this
        exact this
      · rw [List.getElem?_eq_none (by simpa using hl)] at hk; cases hk
    refine ⟨hs, (List.range (els.length * sz)).map f, by simp, by simp [Builtin.lenOf], firstCells_at (by simp) hcells _, firstCells_at (by simp) (by simpa using hcells) _, fun i el j av hi hj => ?_⟩
    exact ⟨vs i j, hf i el j av hi hj, (hrep i el j av hi hj).repL, h1 i el j av hi hj⟩
theorem src_nil {ok : Nat → Prop} {L : Loc} {sz : Nat} {v : Value} (h : RepC ok w .nil v) : Src P ok L w sz v [] := by
  obtain ⟨a, rfl⟩ := h.nil_form
  refine ⟨by simp, [], by simp, by simp [Builtin.lenOf], ?_, ?_, by simp⟩
  · cases a <;> simp [Builtin.firstCells, loadCells, loadCellsFrom]
  · cases a <;> simp [Builtin.firstCells, loadCells, loadCellsFrom]
theorem src_string {ok : Nat → Prop} {L : Loc} (s : ByteArray) : Src P ok L w 1 (.string s) (s.data.toList.map fun b => [.v (.int .u8 b.toNat)]) := by
  have hx : s.extract 0 s.size = s := by simp
  refine ⟨by simp, s.data.toList.map fun b => .int .u8 b.toNat, by simp, ?_, ?_, ?_, ?_⟩
  · simp [Builtin.lenOf]
  · simp [Builtin.firstCells, hx]
    apply Array.ext'
    simp
  · simp [Builtin.firstCells, hx]
    apply Array.ext'
    simp
  · intro i el j av hi hj
    rw [List.getElem?_map, Option.map_eq_some_iff] at hi
    obtain ⟨b, h1, rfl⟩ := hi
    cases j with
    | succ j => simp at hj
    | zero =>
      simp at hj
      subst hj
      refine ⟨.int .u8 b.toNat, ?_, RepC.v _, rfl⟩
      rw [Nat.mul_one, Nat.add_zero, List.getElem?_map, h1]; rfl
theorem src_slice {ok : Nat → Prop} {L : Loc} {σ : Store} {sz id ver off m : Nat} {els : List (List AVal)} {v : Value} (h0 : 0 < sz) (hs : Sim ok L σ w) (hid : σ.get id = some (ver, .row sz els)) (hm : off + m ≤ els.length) (h : RepL ok L w (.slice id ver off m) v) : Src P ok L w sz v ((els.drop off).take m) := by
  obtain ⟨a, c, rfl, hc, _, h3⟩ := h.2 (hs.ver hid)
  have hlen : ((els.drop off).take m).length = m := by simp; omega
  rcases Nat.eq_zero_or_pos m with rfl | hpos
  · refine ⟨by simp, [], by simp, by simp [Builtin.lenOf], ?_, ?_, by simp⟩
    · cases a <;> simp [Builtin.firstCells, loadCells, loadCellsFrom]
    · cases a <;> simp [Builtin.firstCells, loadCells, loadCellsFrom]
  · have ha := h3 (.inl hpos)
    subst ha
    obtain ⟨o1, o2, o3, o4, o5⟩ := hs.objs id ver _ hid
    obtain ⟨conc, et, g1, g2, g3⟩ := o5 (by omega)
    let f : Nat → Value := fun k => (conc[off * sz + k]?).getD undef
    have hg : ∀ i el, ((els.drop off).take m)[i]? = some el → i < m ∧ els[off + i]? = some el := by
      intro i el hi
      rw [List.getElem?_take] at hi
      split at hi
      · rename_i hlt
        rw [List.getElem?_drop] at hi
        exact ⟨hlt, hi⟩
      · cases hi
    have hin : ∀ k, k < m * sz → ∃ u, conc[off * sz + k]? = some u := by
      intro k hk
      refine ⟨conc[off * sz + k]'?_, Array.getElem?_eq_getElem _⟩
      have h1 : (off + m) * sz ≤ L.cap id * sz := Nat.mul_le_mul_right _ (by omega)
      rw [Nat.add_mul] at h1
      omega
    refine ⟨fun el hm => ?_, (List.range (((els.drop off).take m).length * sz)).map f, by simp, by simp [Builtin.lenOf, hlen], ?_, ?_, fun i el j av hi hj => ?_⟩
    · exact o3 el (List.mem_of_mem_drop (List.mem_of_mem_take hm))
    · refine firstCells_at (by simp) (fun k u hk => ?_) _
      rcases Nat.lt_or_ge k (((els.drop off).take m).length * sz) with hl | hl
      · rw [flat_vals sz _ f k hl] at hk
        cases hk
        rw [hlen] at hl
        obtain ⟨u, hu⟩ := hin k hl
        simp only [World.cell?, o2, g1, f, hu]
        simp [hu]
      · rw [List.getElem?_eq_none (by simpa using hl)] at hk; cases hk
    · refine firstCells_at (by simp) (fun k u hk => ?_) _
      rcases Nat.lt_or_ge k (((els.drop off).take m).length * sz) with hl | hl
      · rw [flat_vals sz _ f k hl] at hk
        cases hk
        rw [hlen] at hl
        obtain ⟨u, hu⟩ := hin k hl
        have g1' : w.drew.heap[L.blk id]? = some (.cells conc et (0, 0)) := g1
        simp only [World.cell?, o2, g1', f, hu]
        simp [hu]
      · rw [List.getElem?_eq_none (by simpa using hl)] at hk; cases hk
    · obtain ⟨hi1, hi2⟩ := hg i el hi
      have hj' : j < sz := by
        have := o3 el (List.mem_of_getElem? hi2)
        rcases Nat.lt_or_ge j el.length with h | h
        · omega
        · simp [List.getElem?_eq_none h] at hj
      obtain ⟨u, u1, u2, u3⟩ := g3 (off + i) el j av hi2 hj
      refine ⟨u, ?_, u2, u3⟩
      rw [flat_vals sz _ f _ (by rw [hlen]; exact place_lt hi1 hj')]
      show some ((conc[off * sz + (i * sz + j)]?).getD undef) = _
      rw [show off * sz + (i * sz + j) = (off + i) * sz + j from by rw [Nat.add_mul]; omega, u1]
      rfl
end
section
variable {P : Program} {n : Nat} {Q : APost} {env : Env} {σ σ' : Store} {ops : Array Oper} {rest : List Oper}
variable {E : Operand → Option AVal} {d : Option Tmp} {ty : TypeId} {pos : String} {after : Array Edge} {guard : Option (Nat × Bool)}
/-- What stands ahead: nil, or a row of one's own from its head on. -/
inductive Head (σ : Store) (sz id : Nat) : AVal → List (List AVal) → Prop
  | nil : Head σ sz id .nil []
  | row (ver m : Nat) (els : List (List AVal)) : σ.get id = some (ver, .row sz els) → m ≤ els.length → Head σ sz id (.slice id ver 0 m) (els.take m)
theorem append_core {ok : Nat → Prop} {L : Loc} {w : World} {t u e sz id : Nat} {ud : TypeDesc} {inf : TypeInfo} {z : Value} {a : AVal} {v x : Value} {olds news : List (List AVal)} (ht : P.underlying t = some (.slice e)) (hu : P.underlying u = some ud) (hn : notInt ud = true) (hi : P.info? e = some inf) (hz : inf.zero = some z)
    (hsz : inf.size = sz) (h0 : 0 < sz) (hzs : z.cells.toList.length = sz) (hs : Sim ok L σ w) (hh : Head σ sz id a olds) (hv : RepL ok L w a v) (hsrc : Src P ok L w sz x news)
    (h63 : olds.length + news.length ≤ 9223372036854775807) (hby : (olds.length + news.length) * inf.bytes ≤ 140737488355328) :
    ∃ v' w' L' ver', (Builtin.append_ #[t, u] ty #[v, x]).run P w = .ok v' w' ∧ Evo ok L σ w ok L' (σ.put id ver' (.row sz (olds ++ news))) w' ∧ Sim ok L' (σ.put id ver' (.row sz (olds ++ news))) w' ∧ RepL ok L' w' (.slice id ver' 0 (olds.length + news.length)) v' := by
  obtain ⟨hns, vals, hvl, hlen, hf, hf', hrep⟩ := hsrc
  -- the head in memory
  have hd : ∃ base c, v = .slice base olds.length c ∧ (∀ el ∈ olds, el.length = sz) ∧
      ((c = 0 ∧ olds = []) ∨ (∃ ver els conc et m, a = .slice id ver 0 m ∧ σ.get id = some (ver, .row sz els) ∧ base = some ⟨L.blk id, 0, none⟩ ∧ c = L.cap id ∧ L.cap id ≠ 0 ∧ olds.length ≤ c ∧ w.heap[L.blk id]? = some (.cells conc et (0, 0)) ∧ conc.size = c * sz ∧
        ∀ i el j av, olds[i]? = some el → el[j]? = some av → ∃ v, conc[i * sz + j]? = some v ∧ RepL ok L w av v ∧ v.oneCell' = true)) := by
    cases hh with
    | nil =>
      obtain ⟨b, rfl⟩ := RepC.nil_form hv
      exact ⟨b, 0, rfl, by simp, .inl ⟨rfl, rfl⟩⟩
    | row ver m els hid hm =>
      obtain ⟨b, c, rfl, h2, h3, h4⟩ := hv.2 (hs.ver hid)
      obtain ⟨o1, o2, o3, o4, o5⟩ := hs.objs id ver _ hid
      have hc : c = L.cap id := by omega
      have hol : (els.take m).length = m := by simp; omega
      refine ⟨b, c, by rw [hol], fun el hm => o3 el (List.mem_of_mem_take hm), ?_⟩
      by_cases hcap : L.cap id = 0
      · left
        refine ⟨by omega, ?_⟩
        have : m = 0 := by omega
        subst this
        simp
      · right
        obtain ⟨conc, et, g1, g2, g3⟩ := o5 hcap
        refine ⟨ver, els, conc, et, m, rfl, hid, ?_, hc, hcap, by omega, g1, by rw [hc]; exact g2, fun i el j av hi hj => ?_⟩
        · have := h4 (.inr ⟨rfl, hcap⟩)
          simpa using this
        · rw [List.getElem?_take] at hi
          split at hi
          · exact g3 i el j av hi hj
          · cases hi
  obtain ⟨base, c, rfl, hos, hd⟩ := hd
  have hall : ∀ el ∈ olds ++ news, el.length = sz := fun el hm => (List.mem_append.1 hm).elim (hos el) (hns el)
  have hlt : ∀ {l : List (List AVal)} {i : Nat} {el : List AVal}, l[i]? = some el → i < l.length := by
    intro l i el hi
    rcases Nat.lt_or_ge i l.length with h | h
    · exact h
    · simp [List.getElem?_eq_none h] at hi
  have hltj : ∀ {el : List AVal} {j : Nat} {av : AVal}, el.length = sz → el[j]? = some av → j < sz := by
    intro el j av hl hj
    rcases Nat.lt_or_ge j el.length with h | h
    · omega
    · simp [List.getElem?_eq_none h] at hj
  by_cases hfit : olds.length + news.length ≤ c
  · rcases hd with ⟨rfl, rfl⟩ | ⟨ver, els, conc, et, m, rfl, hid, rfl, rfl, hcap, hoc, g1, g2, g3⟩
    · -- nothing is appended to nothing
      have hnn : news = [] := List.eq_nil_of_length_eq_zero (by simp at hfit; simpa using hfit)
      subst hnn
      have hvn : vals = [] := List.eq_nil_of_length_eq_zero (by simpa using hvl)
      subst hvn
      have hrun := run_append_fit (ty := ty) ht hu hn hi base 0 0 0 x [] hlen (by rw [hsz]; exact hf) (Nat.le_refl _)
      have hrun' : (Builtin.append_ #[t, u] ty #[.slice base 0 0, x]).run P w = .ok (.slice base 0 0) w := by
        rw [hrun]
        cases base <;> simp [storeCells]
      obtain ⟨he, hs'⟩ := sim_upd (w' := w) hs id w.heap.size 0 sz (L.ver id + 1) (.row sz ([] ++ [])) (by omega) rfl rfl rfl (Nat.le_refl _) (fun k hk _ => rfl) (.inl (Nat.le_refl _)) (fun h => absurd rfl h)
        (fun he => ⟨by simp [Loc.upd], by simp [Loc.upd], by simp, by simp, fun h => by simp [Loc.upd] at h⟩)
      exact ⟨_, w, _, _, hrun', he, hs', by simp [Loc.upd], fun _ => ⟨base, 0, rfl, by simp, by simp [Loc.upd], fun h => by simp [Loc.upd] at h⟩⟩
    · have h1 : ∀ v ∈ vals, v.oneCell' = true := by
        intro v hv
        obtain ⟨k, hk⟩ := List.getElem?_of_mem hv
        have hkl : k < news.length * sz := by
          rw [← hvl]
          rcases Nat.lt_or_ge k vals.length with h | h
          · exact h
          · simp [List.getElem?_eq_none h] at hk
        have hi' : k / sz < news.length := by rw [Nat.div_lt_iff_lt_mul h0]; exact hkl
        have hj' : k % sz < sz := Nat.mod_lt _ h0
        have hel := hns _ (List.getElem_mem hi')
        obtain ⟨u, u1, _, u3⟩ := hrep (k / sz) _ (k % sz) _ (List.getElem?_eq_getElem hi') (List.getElem?_eq_getElem (by omega))
        have e : k / sz * sz + k % sz = k := by have := Nat.div_add_mod k sz; rw [Nat.mul_comm] at this; omega
        rw [e, hk] at u1
        cases u1
        exact u3
      have hbound : olds.length * sz + vals.length ≤ conc.size := by
        rw [hvl, g2, ← Nat.add_mul]
        exact Nat.mul_le_mul_right _ hfit
      have hst := run_storeCells_at P (L.blk id) (olds.length * sz) et vals 0 conc w g1 (by simpa using hbound) h1
      simp only [Nat.add_zero] at hst
      generalize hcs : (conc.toList.take (olds.length * sz) ++ vals ++ conc.toList.drop (olds.length * sz + vals.length)).toArray = cs at hst
      have hrun := run_append_fit (ty := ty) ht hu hn hi (some ⟨L.blk id, 0, none⟩) olds.length (L.cap id) news.length x vals hlen (by rw [hsz]; exact hf) hfit
      have hrun' : (Builtin.append_ #[t, u] ty #[.slice (some ⟨L.blk id, 0, none⟩) olds.length (L.cap id), x]).run P w = .ok (.slice (some ⟨L.blk id, 0, none⟩) (olds.length + news.length) (L.cap id)) (w.setRow (L.blk id) cs) := by
        rw [hrun]
        simp only [addr_add0, hsz, Nat.zero_add, hst, Result.andThen_ok]
      have hget : ∀ k, cs[k]? = if k < olds.length * sz then conc[k]? else if k < olds.length * sz + vals.length then vals[k - olds.length * sz]? else conc[k]? := by
        intro k
        rw [← hcs]
        simp only [List.getElem?_toArray, List.append_assoc]
        by_cases h1 : k < olds.length * sz
        · rw [if_pos h1, List.getElem?_append_left (by simp; omega), List.getElem?_take, if_pos h1]; simp
        · rw [if_neg h1, List.getElem?_append_right (by simp; omega)]
          have hl1 : (conc.toList.take (olds.length * sz)).length = olds.length * sz := by simp; omega
          rw [hl1]
          by_cases h2 : k < olds.length * sz + vals.length
          · rw [if_pos h2, List.getElem?_append_left (by omega)]
          · rw [if_neg h2, List.getElem?_append_right (by omega), List.getElem?_drop]
            rw [show olds.length * sz + vals.length + (k - olds.length * sz - vals.length) = k from by omega]
            simp
      have hcsz : cs.size = conc.size := by
        rw [← hcs]
        simp
        omega
      obtain ⟨he, hs'⟩ := sim_upd (w' := w.setRow (L.blk id) cs) hs id (L.blk id) (L.cap id) sz (L.ver id + 1) (.row sz (olds ++ news)) (by omega) rfl rfl rfl (by simp [World.setRow]) (fun k hk hne => setRow_other w _ k _ hne) (.inr ⟨rfl, hcap, _, _, hid⟩) (fun _ => by
          have := hs.lt (L.blk id) ⟨id, _, _, hid, hcap, rfl⟩
          simpa [World.setRow] using this)
        (fun he => by
          refine ⟨by simp [Loc.upd], by simp [Loc.upd], hall, by simpa [Loc.upd] using hfit, fun _ => ⟨cs, et, by simpa [Loc.upd] using setRow_heap w _ conc cs et _ g1, by simp only [Loc.upd, if_pos]; rw [hcsz]; exact g2, fun i el j av hi hj => ?_⟩⟩
          have hj' := hltj (hall el (List.mem_of_getElem? hi)) hj
          rw [List.getElem?_append] at hi
          rw [hget]
          split at hi
          · rename_i hlo
            have hpl := place_lt hlo hj'
            rw [if_pos hpl]
            obtain ⟨v, k1, k2, k3⟩ := g3 i el j av hi hj
            exact ⟨v, k1, k2.evo hs he, k3⟩
          · rename_i hlo
            have hge : olds.length * sz ≤ i * sz := Nat.mul_le_mul_right _ (by omega)
            rw [if_neg (by omega)]
            obtain ⟨v, k1, k2, k3⟩ := hrep _ el j av hi hj
            have e : i * sz + j - olds.length * sz = (i - olds.length) * sz + j := by rw [Nat.sub_mul]; omega
            have hpl := place_lt (hlt hi) hj'
            rw [if_pos (by rw [hvl]; omega), e]
            exact ⟨v, k1, k2.evo hs he, k3⟩)
      refine ⟨_, _, _, _, hrun', he, hs', by simp [Loc.upd], fun _ => ⟨_, _, rfl, hfit, by simp [Loc.upd], fun _ => by simp [Loc.upd]⟩⟩
  · -- a new block
    have holds : ∃ ovals : List Value, ovals.length = olds.length * sz ∧ (Builtin.firstCells sz olds.length (.slice base olds.length c)).run P w.drew = .ok ovals.toArray w.drew ∧
        ∀ i el j av, olds[i]? = some el → el[j]? = some av → ∃ v, ovals[i * sz + j]? = some v ∧ RepL ok L w av v ∧ v.oneCell' = true := by
      rcases hd with ⟨rfl, rfl⟩ | ⟨ver, els, conc, et, m, rfl, hid, rfl, rfl, hcap, hoc, g1, g2, g3⟩
      · refine ⟨[], by simp, ?_, by simp⟩
        cases base <;> simp [Builtin.firstCells, loadCells, loadCellsFrom]
      · have hle : olds.length * sz ≤ conc.size := by rw [g2]; exact Nat.mul_le_mul_right _ hoc
        refine ⟨conc.toList.take (olds.length * sz), by simp; omega, ?_, fun i el j av hi hj => ?_⟩
        · refine firstCells_at (w := w.drew) (by simp; omega) (fun k u hk => ?_) _
          rw [List.getElem?_take] at hk
          split at hk
          · have : conc[k]? = some u := by simpa using hk
            have g1' : w.drew.heap[L.blk id]? = some (.cells conc et (0, 0)) := g1
            simp [World.cell?, g1', this]
          · cases hk
        · obtain ⟨v, k1, k2, k3⟩ := g3 i el j av hi hj
          refine ⟨v, ?_, k2, k3⟩
          rw [List.getElem?_take, if_pos (place_lt (hlt hi) (hltj (hos el (List.mem_of_getElem? hi)) hj))]
          simpa using k1
    obtain ⟨ovals, hol, hfo, hog⟩ := holds
    have hrun := run_append_new (ty := ty) ht hu hn hi hz base olds.length c news.length x ovals vals hlen (by rw [hsz]; exact hfo) (by rw [hsz]; exact hf') (by omega) (by omega) hby
    generalize hcap' : grownCap w (olds.length + news.length) c e = cap' at hrun
    have hge : olds.length + news.length ≤ cap' := by rw [← hcap']; exact grownCap_ge w _ _ _
    rw [← Array.append_assoc] at hrun
    generalize hconc : ovals.toArray ++ vals.toArray ++ Builtin.zeroCells z.cells (cap' - (olds.length + news.length)) = conc' at hrun
    have hcz : conc'.size = cap' * sz := by
      rw [← hconc]
      simp only [Array.size_append, List.size_toArray, size_zeroCells, hol, hvl, ← Nat.add_mul]
      rw [show z.cells.size = sz from by simpa using hzs, ← Nat.add_mul]
      congr 1
      omega
    have hget : ∀ k, k < (olds.length + news.length) * sz → conc'[k]? = if k < olds.length * sz then ovals[k]? else vals[k - olds.length * sz]? := by
      intro k hk
      rw [← hconc]
      rw [Nat.add_mul] at hk
      rw [Array.getElem?_append_left (by simp; omega)]
      by_cases h1 : k < olds.length * sz
      · rw [if_pos h1, Array.getElem?_append_left (by simp; omega)]; simp
      · rw [if_neg h1, Array.getElem?_append_right (by simp; omega)]; simp [hol]
    obtain ⟨he, hs'⟩ := sim_upd (w' := w.drew.alloc (.cells conc' e)) hs id w.heap.size cap' sz (L.ver id + 1) (.row sz (olds ++ news)) (by omega) rfl rfl rfl (by simp) (fun k hk _ => Go.RowKit.Below.heap_alloc w.drew _ k hk) (.inl (Nat.le_refl _)) (fun _ => by simp)
      (fun he => objrep_new hs he (heap_alloc_new w.drew _) hall (by simpa using hge) hcz (fun i el j av hi hj => by
        have hj' := hltj (hall el (List.mem_of_getElem? hi)) hj
        have hi' := hlt hi
        rw [List.length_append] at hi'
        rw [hget _ (place_lt hi' hj')]
        rw [List.getElem?_append] at hi
        split at hi
        · rename_i hlo
          rw [if_pos (place_lt hlo hj')]
          exact hog i el j av hi hj
        · rename_i hlo
          have hge' : olds.length * sz ≤ i * sz := Nat.mul_le_mul_right _ (by omega)
          rw [if_neg (by omega), show i * sz + j - olds.length * sz = (i - olds.length) * sz + j from by rw [Nat.sub_mul]; omega]
          exact hrep _ el j av hi hj))
    exact ⟨_, _, _, _, hrun, he, hs', by simp [Loc.upd], fun _ => ⟨_, _, rfl, hge, by simp [Loc.upd], fun _ => by simp [Loc.upd]⟩⟩
/-- append(s, x...), x told by what it holds. -/
theorem op_append {x y : Operand} {t u e sz : Nat} {ud : TypeDesc} {inf : TypeInfo} {z : Value} {a b : AVal} {olds news : List (List AVal)} (id : Nat) (ht : P.underlying t = some (.slice e)) (hu : P.underlying u = some ud) (hn : notInt ud = true) (hi : P.info? e = some inf) (hz : inf.zero = some z)
    (hsz : inf.size = sz) (h0 : 0 < sz) (hzs : z.cells.toList.length = sz) (hx : E x = some a) (hy : E y = some b) (hh : Head σ sz id a olds)
    (hsrc : ∀ ok L w v, Sim ok L σ w → Rep ok L w b v → Src P ok L w sz v news)
    (h63 : olds.length + news.length ≤ 9223372036854775807) (hby : (olds.length + news.length) * inf.bytes ≤ 140737488355328) :
    OpR P ⟨d, .call { callee := .builtin .append, args := #[x, y], argTypes := #[t, u] }, ty, pos, after, guard⟩ E σ (fun r σ' => ∃ ver, r = .slice id ver 0 (olds.length + news.length) ∧ σ' = σ.put id ver (.row sz (olds ++ news))) := by
  intro ok L w ρ hs hr
  have hv : RepL ok L w a (ρ x) := by
    have := hr x (by simp [Op.operands, Call.operands]) _ hx
    cases hh <;> exact this
  have hy' := hsrc ok L w _ hs (hr y (by simp [Op.operands, Call.operands]) _ hy)
  obtain ⟨v', w', L', ver', h1, h2, h3, h4⟩ := append_core (ty := ty) ht hu hn hi hz hsz h0 hzs hs hh hv hy' h63 hby
  refine ⟨_, _, v', w', ok, L', ⟨ver', rfl, rfl⟩, .inl ?_, h2, h3, h4⟩
  simp [execOp, resolve, invoke, builtin, h1]
end
end Go.Proofs.YtcgdlhkiecommaaGreatDoor

/- The engine, part 7: structs and arrays as values, tuples, cuts, calls and what may be lent to them. -/

set_option linter.unusedVariables false
set_option linter.unusedSimpArgs false
namespace Go.Proofs.YtcgdlhkiecommaaGreatDoor
open Go
section
variable {P : Program} {n : Nat} {Q : APost} {env : Env} {σ σ' : Store} {ops : Array Oper} {rest : List Oper}
variable {E : Operand → Option AVal} {d : Option Tmp} {ty : TypeId} {pos : String} {after : Array Edge} {guard : Option (Nat × Bool)}
/-- Part of a struct or an array told by its cells. -/
theorem run_part {ok : Nat → Prop} {L : Loc} {w : World} {t : TypeId} {td : TypeDesc} {inf : TypeInfo} {cells : List AVal} {vs : List Value} {off : Nat} {a : AVal} (ht : P.underlying t = some td) (hi : P.info? t = some inf) (h : All2 (RepL ok L w) cells vs) (ha : asOne (TypeDesc.isAggB td) inf.size (cells.drop off) = some a) :
    ∃ v, (part t vs.toArray off).run P w = .ok v w ∧ Rep ok L w a v := by
  have hl := All2.length _ _ h
  cases hb : TypeDesc.isAggB td with
  | false =>
    rw [hb] at ha
    have h0 : cells[off]? = some a := by simpa [asOne, List.head?_eq_getElem?] using ha
    obtain ⟨v, h1, h2⟩ := All2.get _ _ h off a h0
    exact ⟨v, by simp [part, run_isAgg' ht, hb, h1], h2.rep h2.leaf⟩
  | true =>
    rw [hb] at ha
    simp only [asOne] at ha
    split at ha
    · rename_i hk
      cases ha
      refine ⟨.agg (vs.toArray.extract off (off + inf.size)), by simp [part, run_isAgg' ht, hb, sizeOf, typeInfo, hi], (vs.drop off).take inf.size, ?_, ?_⟩
      · apply congrArg
        apply Array.ext'
        simp [Array.toList_extract, List.extract_eq_take_drop]
      · refine All2.of_get _ _ (by simp; omega) fun i x y hx hy => ?_
        rw [List.getElem?_take] at hx hy
        split at hx
        · rename_i hlt
          rw [if_pos hlt] at hy
          rw [List.getElem?_drop] at hx hy
          obtain ⟨v, h1, h2⟩ := All2.get _ _ h _ _ hx
          rw [h1] at hy
          cases hy
          exact h2
        · cases hx
    · cases ha
theorem op_field {x : Operand} {s f off : Nat} {fs : Array Field} {fl : Field} {td : TypeDesc} {inf : TypeInfo} {cells : List AVal} {a : AVal} (hs' : P.underlying s = some (.struct fs)) (hf : fs[f]? = some fl) (ht : P.underlying fl.type = some td) (hi : P.info? fl.type = some inf) (hoff : fl.offset = off)
    (hx : E x = some (.agg cells)) (ha : asOne (TypeDesc.isAggB td) inf.size (cells.drop off) = some a) : OpTo P ⟨d, .field s x f, ty, pos, after, guard⟩ E σ a σ :=
  op_value fun ok L w ρ hs hr => by
    obtain ⟨vs, h1, h2⟩ := hr x (by simp [Op.operands]) _ hx
    obtain ⟨v, h3, h4⟩ := run_part (P := P) (t := fl.type) ht hi h2 ha
    refine ⟨v, ?_, h4⟩
    simp [execOp, Instr.field, run_underlying hs', hf, h1, asAgg, hoff, h3]
theorem op_extract {x : Operand} {i : Nat} {comps : List AVal} {a : AVal} (hx : E x = some (.tuple comps)) (ha : comps[i]? = some a) (hf : a.flat = true) : OpTo P ⟨d, .extract x i, ty, pos, after, guard⟩ E σ a σ :=
  op_value fun ok L w ρ hs hr => by
    obtain ⟨vs, h1, h2⟩ := hr x (by simp [Op.operands]) _ hx
    obtain ⟨v, h3, h4⟩ := All2.get _ _ h2 i a ha
    exact ⟨v, by simp [execOp, Instr.extract, h1, h3], rep_of h4 hf⟩
/-- operands, one by one -/
def avals (E : Operand → Option AVal) : List Operand → Option (List AVal)
  | [] => some []
  | x :: xs => match E x, avals E xs with
    | some a, some as => some (a :: as)
    | _, _ => none
theorem avals_rep {ok : Nat → Prop} {L : Loc} {w : World} {ρ : Operand → Value} : ∀ (xs : List Operand) (as : List AVal), (∀ x ∈ xs, ∀ b, E x = some b → Rep ok L w b (ρ x)) → avals E xs = some as → All2 (Rep ok L w) as (xs.map ρ)
  | [], as, _, h => by simp [avals] at h; subst h; trivial
  | x :: xs, as, hr, h => by
    simp only [avals] at h
    split at h
    · rename_i a as' h1 h2
      cases h
      exact ⟨hr x (by simp) a h1, avals_rep xs as' (fun y hy => hr y (by simp [hy])) h2⟩
    · cases h
theorem avals_leaf {ok : Nat → Prop} {L : Loc} {w : World} : ∀ (as : List AVal) (vs : List Value), All2 (Rep ok L w) as vs → as.all AVal.leaf = true → All2 (RepL ok L w) as vs
  | [], [], _, _ => trivial
  | a :: as, v :: vs, ⟨h1, h2⟩, h => by
    simp only [List.all_cons, Bool.and_eq_true] at h
    exact ⟨h1.toL h.1, avals_leaf as vs h2 h.2⟩
  | [], _ :: _, h, _ => h.elim
  | _ :: _, [], h, _ => h.elim
/-- a closure -/
theorem op_closure {f : FuncId} {caps : Array Operand} {as : List AVal} (hc : avals E caps.toList = some as) (hl : as.all AVal.leaf = true) : OpTo P ⟨d, .makeFunc (.func f) #[] caps, ty, pos, after, guard⟩ E σ (.fn f as) σ :=
  op_value fun ok L w ρ hs hr => by
    have h1 := avals_rep (ρ := ρ) (ok := ok) (L := L) (w := w) caps.toList as (fun x hx b hb => hr x (by simpa [Op.operands] using hx) b hb) hc
    refine ⟨.func (.func f) #[] (caps.map ρ), by simp [execOp, Instr.makeFunc], _, ?_, avals_leaf _ _ h1 hl⟩
    congr 1
    apply Array.ext'
    simp
/-! ### Cuts -/
def OptI (E : Operand → Option AVal) (o : Option Operand) (dflt l : Nat) : Prop := (o = none ∧ l = dflt) ∨ ∃ x k i, o = some x ∧ E x = some (.v (.int k i)) ∧ i = (l : Int)
theorem OptI.of {x : Operand} {k : IntKind} {i : Int} {l dflt : Nat} (h : E x = some (.v (.int k i))) (he : i = (l : Int)) : OptI E (some x) dflt l := .inr ⟨x, k, i, rfl, h, he⟩
theorem OptI.none {l : Nat} : OptI E .none l l := .inl ⟨rfl, rfl⟩
theorem optI_mem {lo : Option Operand} {dflt l : Nat} {ok : Nat → Prop} {L : Loc} {w : World} {ρ : Operand → Value} (h : OptI E lo dflt l) (hr : ∀ x, lo = some x → ∀ b, E x = some b → Rep ok L w b (ρ x)) : (lo = none ∧ l = dflt) ∨ ∃ x k, lo = some x ∧ ρ x = .int k (l : Int) := by
  rcases h with h | ⟨x, k, i, h1, h2, rfl⟩
  · exact .inl h
  · exact .inr ⟨x, k, h1, rep_bool (hr x h1 _ h2)⟩
theorem run_bounds {w : World} {isSlice : Bool} {len cap l h : Nat} {ρ : Operand → Value} {lo hi : Option Operand} (hlo : (lo = none ∧ l = 0) ∨ ∃ x k, lo = some x ∧ ρ x = .int k (l : Int)) (hhi : (hi = none ∧ h = len) ∨ ∃ x k, hi = some x ∧ ρ x = .int k (h : Int)) (hlh : l ≤ h) (hhc : h ≤ cap) :
    (Instr.sliceBounds isSlice len cap (lo.map ρ) (hi.map ρ) none).run P w = .ok (l, h, cap) w := by
  rcases hlo with ⟨rfl, rfl⟩ | ⟨x, k, rfl, h1⟩ <;> rcases hhi with ⟨rfl, rfl⟩ | ⟨y, k', rfl, h2⟩ <;>
    (simp only [Option.map_some, Option.map_none, Instr.sliceBounds, Instr.sliceBound, asIntOf, *]; simp [hlh, hhc, *])
theorem op_cut_string {x : Operand} {t : TypeId} {lo hi : Option Operand} {s : ByteArray} {l h : Nat} (ht : P.underlying t = some .string) (hx : E x = some (.v (.string s))) (hlo : OptI E lo 0 l) (hhi : OptI E hi s.size h) (hlh : l ≤ h) (hhs : h ≤ s.size) :
    OpTo P ⟨d, .slice t x lo hi none, ty, pos, after, guard⟩ E σ (.v (.string (s.extract l h))) σ :=
  op_value fun ok L w ρ hs hr => by
    have h1 := rep_bool (hr x (by simp [Op.operands]) _ hx)
    have h2 := optI_mem hlo (ρ := ρ) (ok := ok) (L := L) (w := w) (fun y hy => hr y (by simp [Op.operands, hy]))
    have h3 := optI_mem hhi (ρ := ρ) (ok := ok) (L := L) (w := w) (fun y hy => hr y (by simp [Op.operands, hy]))
    have h4 := run_bounds (P := P) (w := w) (isSlice := false) h2 h3 hlh hhs
    refine ⟨_, ?_, RepC.v _⟩
    simp [execOp, Instr.sliceAt, run_underlying ht, Instr.slice, h1, h4]
theorem op_cut_list {x : Operand} {t e sz : Nat} {inf : TypeInfo} {lo hi : Option Operand} {els : List (List AVal)} {l h : Nat} (ht : P.underlying t = some (.slice e)) (hi' : P.info? e = some inf) (hsz : inf.size = sz) (hx : E x = some (.list sz els)) (hlo : OptI E lo 0 l) (hhi : OptI E hi els.length h) (hlh : l ≤ h) (hhs : h ≤ els.length) :
    OpTo P ⟨d, .slice t x lo hi none, ty, pos, after, guard⟩ E σ (.list sz ((els.drop l).take (h - l))) σ :=
  op_value fun ok L w ρ hs hr => by
    obtain ⟨a, c, h1, hc, hh⟩ := RepC.list_form (hr x (by simp [Op.operands]) _ hx)
    have h2 := optI_mem hlo (ρ := ρ) (ok := ok) (L := L) (w := w) (fun y hy => hr y (by simp [Op.operands, hy]))
    have h3 := optI_mem hhi (ρ := ρ) (ok := ok) (L := L) (w := w) (fun y hy => hr y (by simp [Op.operands, hy]))
    have h4 := run_bounds (P := P) (w := w) (isSlice := true) h2 h3 hlh (Nat.le_trans hhs hc)
    have hlen : ((els.drop l).take (h - l)).length = h - l := by simp; omega
    refine ⟨.slice (if c = l then a else a.map (·.add (l * sz))) (h - l) (c - l), by simp [execOp, Instr.sliceAt, run_underlying ht, Instr.slice, h1, h4, sizeOf, typeInfo, hi', hsz], ?_⟩
    by_cases hne : h - l = 0
    · have : (els.drop l).take (h - l) = [] := List.eq_nil_of_length_eq_zero (by omega)
      rw [this, hne]
      exact RepC.empty _ _ _
    · rcases hh with rfl | ⟨b, o, vs, rfl, hok, hs1, hcell, hrep, h1'⟩
      · simp at hhs; omega
      · rw [if_neg (by omega)]
        simp only [Option.map_some, addr_add0]
        have hg : ∀ i e, ((els.drop l).take (h - l))[i]? = some e → els[l + i]? = some e := by
          intro i e hi
          rw [List.getElem?_take] at hi
          split at hi
          · rwa [List.getElem?_drop] at hi
          · cases hi
        have key := RepC.list (ok := ok) (w := w) sz ((els.drop l).take (h - l)) b (o + l * sz) (c - l) (fun i j => vs (l + i) j) hok (by rw [hlen]; omega) (fun e he => hs1 e (List.mem_of_mem_drop (List.mem_of_mem_take he))) (fun i e j av hi hj => by
          have := hcell _ _ _ _ (hg i e hi) hj
          rw [show o + l * sz + i * sz + j = o + (l + i) * sz + j from by rw [Nat.add_mul]; omega]
          exact this) (fun i e j av hi hj => h1' _ _ _ _ (hg i e hi) hj) (fun i e j av hi hj => hrep _ _ _ _ (hg i e hi) hj)
        rw [hlen] at key
        exact key
end
end Go.Proofs.YtcgdlhkiecommaaGreatDoor

/- The engine, part 8: values built; calls; what is lent to a call, what is handed over. -/

set_option linter.unusedVariables false
set_option linter.unusedSimpArgs false
namespace Go.Proofs.YtcgdlhkiecommaaGreatDoor
open Go
section
variable {P : Program} {n : Nat} {Q : APost} {env : Env} {σ σ' : Store} {ops : Array Oper} {rest : List Oper}
variable {E : Operand → Option AVal} {d : Option Tmp} {ty : TypeId} {pos : String} {after : Array Edge} {guard : Option (Nat × Bool)}
/-! ### Values built -/
def fillA (place : Nat → Option (Nat × Nat)) (cells : List AVal) : List (Nat × AVal) → Option (List AVal)
  | [] => some cells
  | (i, a) :: rest =>
    match place i with
    | none => none
    | some (off, size) => if a.cells.length = size ∧ off + size ≤ cells.length then fillA place (splice cells off a.cells) rest else none
theorem foldl_set (vs : List Value) (off k : Nat) (cells : Array Value) (h : off + k + vs.length ≤ cells.size) :
    ((vs.zipIdx k).foldl (fun cs (c : Value × Nat) => cs.setIfInBounds (off + c.2) c.1) cells).toList = cells.toList.take (off + k) ++ vs ++ cells.toList.drop (off + k + vs.length) := by
  induction vs generalizing k cells with
  | nil => simp
  | cons v vs ih =>
    simp only [List.zipIdx_cons, List.foldl_cons, List.length_cons] at h ⊢
    rw [ih (k + 1) _ (by simp; omega)]
    have hlt : off + k < cells.toList.length := by simp; omega
    simp only [Array.toList_setIfInBounds]
    rw [List.set_eq_take_append_cons_drop, if_pos hlt]
    have hl : (cells.toList.take (off + k)).length = off + k := by simp; omega
    rw [show off + (k + 1) = (off + k) + 1 from by omega]
    rw [List.take_append, List.drop_append, hl]
    simp only [Nat.add_sub_cancel_left]
    rw [show off + k + 1 + vs.length - (off + k) = vs.length + 1 from by omega]
    rw [List.drop_eq_nil_of_le (as := cells.toList.take (off + k)) (by rw [hl]; omega)]
    rw [List.take_of_length_le (l := cells.toList.take (off + k)) (by rw [hl]; omega)]
    simp [List.drop_drop]
    congr 1
    omega
theorem All2.append {α β : Type} {R : α → β → Prop} : ∀ {as : List α} {bs : List β} {as' : List α} {bs' : List β}, All2 R as bs → All2 R as' bs' → All2 R (as ++ as') (bs ++ bs')
  | [], [], _, _, _, h => h
  | _ :: _, _ :: _, _, _, ⟨h1, h2⟩, h => ⟨h1, All2.append h2 h⟩
  | [], _ :: _, _, _, h, _ => h.elim
  | _ :: _, [], _, _, h, _ => h.elim
theorem All2.take {α β : Type} {R : α → β → Prop} : ∀ {as : List α} {bs : List β} (k : Nat), All2 R as bs → All2 R (as.take k) (bs.take k)
  | [], [], k, _ => by simp [All2]
  | _ :: _, _ :: _, 0, _ => by simp [All2]
  | _ :: _, _ :: _, k + 1, ⟨h1, h2⟩ => ⟨h1, All2.take k h2⟩
  | [], _ :: _, _, h => h.elim
  | _ :: _, [], _, h => h.elim
theorem All2.drop {α β : Type} {R : α → β → Prop} : ∀ {as : List α} {bs : List β} (k : Nat), All2 R as bs → All2 R (as.drop k) (bs.drop k)
  | [], [], k, _ => by simp [All2]
  | _ :: _, _ :: _, 0, h => h
  | _ :: _, _ :: _, k + 1, ⟨h1, h2⟩ => All2.drop k h2
  | [], _ :: _, _, h => h.elim
  | _ :: _, [], _, h => h.elim
theorem fill_rep {ok : Nat → Prop} {L : Loc} {w : World} {ρ : Operand → Value} (hs : Sim ok L σ w) (place : Nat → Option (Nat × Nat)) : ∀ (parts : List (Nat × Operand)) (pa : List (Nat × AVal)) (cells : List AVal) (vs : Array Value) (res : List AVal), All2 (RepL ok L w) cells vs.toList →
    All2 (fun (p : Nat × AVal) (q : Nat × Operand) => p.1 = q.1 ∧ Rep ok L w p.2 (ρ q.2) ∧ p.2.cells.all AVal.oneB = true ∧ p.2.cells.all (AVal.live σ) = true) pa parts → fillA place cells pa = some res →
    ∃ out : Array Value, Instr.fill place vs (parts.map fun q => (q.1, ρ q.2)) = some out ∧ All2 (RepL ok L w) res out.toList := by
  intro parts
  induction parts with
  | nil =>
    intro pa cells vs res hc hp hf
    cases pa with
    | nil => simp only [fillA, Option.some.injEq] at hf; subst hf; exact ⟨vs, by simp [Instr.fill], hc⟩
    | cons _ _ => exact hp.elim
  | cons q parts ih =>
    intro pa cells vs res hc hp hf
    cases pa with
    | nil => exact hp.elim
    | cons p pa =>
      obtain ⟨⟨e, hr, h1, hl⟩, hp⟩ := hp
      obtain ⟨i, a⟩ := p
      obtain ⟨i', x⟩ := q
      simp only at e hr h1 hl
      subst e
      simp only [fillA] at hf
      cases hpl : place i with
      | none => rw [hpl] at hf; cases hf
      | some os =>
        obtain ⟨off, size⟩ := os
        rw [hpl] at hf
        simp only at hf
        split at hf
        · rename_i hcond
          obtain ⟨c1, c2⟩ := hcond
          obtain ⟨k1, _⟩ := hr.cells hs h1 hl
          have kl := All2.length _ _ k1
          have hcl := All2.length _ _ hc
          have hsz : (ρ x).cells.size = size := by rw [← c1, kl]; simp
          have hfit : off + size ≤ vs.size := by rw [show vs.size = cells.length from by rw [hcl]; simp]; exact c2
          have hfold := foldl_set (ρ x).cells.toList off 0 vs (by simp; omega)
          obtain ⟨out, o1, o2⟩ := ih pa (splice cells off a.cells) ((ρ x).cells.zipIdx.foldl (fun cs (c : Value × Nat) => cs.setIfInBounds (off + c.2) c.1) vs) res (by
            rw [← Array.foldl_toList, Array.toList_zipIdx, hfold]
            simp only [Nat.add_zero]
            refine All2.append (All2.append (All2.take off hc) k1) ?_
            rw [← kl]
            exact All2.drop _ hc) hp hf
          refine ⟨out, ?_, o2⟩
          simp only [List.map_cons, Instr.fill, hpl]
          rw [if_neg (by simp [hsz]; omega)]
          exact o1
        · cases hf
/-- the parts of a build, told -/
def partsA (E : Operand → Option AVal) : List (Nat × Operand) → Option (List (Nat × AVal))
  | [] => some []
  | (i, x) :: r => match E x, partsA E r with
    | some a, some as => some ((i, a) :: as)
    | _, _ => none
def okPart (σ : Store) (a : AVal) : Bool := a.cells.all AVal.oneB && a.cells.all (AVal.live σ)
theorem partsA_rep {ok : Nat → Prop} {L : Loc} {w : World} {ρ : Operand → Value} : ∀ (ps : List (Nat × Operand)) (as : List (Nat × AVal)), (∀ p ∈ ps, ∀ b, E p.2 = some b → Rep ok L w b (ρ p.2)) → partsA E ps = some as → as.all (fun p => okPart σ p.2) = true →
    All2 (fun (p : Nat × AVal) (q : Nat × Operand) => p.1 = q.1 ∧ Rep ok L w p.2 (ρ q.2) ∧ p.2.cells.all AVal.oneB = true ∧ p.2.cells.all (AVal.live σ) = true) as ps
  | [], as, _, h, _ => by simp [partsA] at h; subst h; trivial
  | (i, x) :: ps, as, hr, h, ho => by
    simp only [partsA] at h
    split at h
    · rename_i a as' h1 h2
      cases h
      simp only [List.all_cons, Bool.and_eq_true, okPart] at ho
      exact ⟨⟨rfl, hr (i, x) (by simp) a h1, ho.1.1, ho.1.2⟩, partsA_rep ps as' (fun p hp => hr p (by simp [hp])) h2 (by simpa [okPart] using ho.2)⟩
    · cases h
theorem op_build_struct {t : TypeId} {parts : Array (Nat × Operand)} {fs : Array Field} {inf : TypeInfo} {z : Value} {places : Array (Nat × Nat)} {pa : List (Nat × AVal)} {res : List AVal} (ht : P.underlying t = some (.struct fs)) (hi : P.info? t = some inf) (hz : inf.zero = some z)
    (hpl : ∀ w, ((fs.mapM fun f => do pure (f.offset, ← sizeOf f.type) : Sem (Array (Nat × Nat)))).run P w = .ok places w)
    (hp : partsA E parts.toList = some pa) (ho : pa.all (fun p => okPart σ p.2) = true) (hf : fillA (places[·]?) (z.cells.toList.map .v) pa = some res) :
    OpTo P ⟨d, .build t parts, ty, pos, after, guard⟩ E σ (.agg res) σ :=
  op_value fun ok L w ρ hs hr => by
    have h1 := partsA_rep (σ := σ) (ρ := ρ) (ok := ok) (L := L) (w := w) parts.toList pa (fun p hp b hb => hr p.2 (by simp [Op.operands]; exact ⟨p.1, by simpa using hp⟩) b hb) hp ho
    obtain ⟨out, o1, o2⟩ := fill_rep hs (places[·]?) parts.toList pa _ z.cells res (All2.map_v ok L w _) h1 hf
    refine ⟨.agg out, ?_, out.toList, by simp, o2⟩
    have e : (parts.map fun (p : Nat × Operand) => (p.1, ρ p.2)).toList = parts.toList.map fun q => (q.1, ρ q.2) := by simp
    simp only [execOp, Instr.build, zeroValue, typeInfo, Sem.run_bind, run_program, hi, hz, run_underlying ht, Result.andThen_ok, Sem.run_pure, hpl, e, o1]
/-! '[]T{..}' -/
theorem map_range_fill {z : Array Value} {sz m : Nat} (hz : z.size = sz) (h0 : 0 < sz) : ((Array.range (m * sz)).map (z[· % z.size]!)).toList = (List.replicate m z.toList).flatten := by
  subst hz
  induction m with
  | zero => simp
  | succ m ih =>
    apply List.ext_getElem?
    intro i
    rw [List.replicate_succ', List.flatten_append, ← ih]
    simp only [Array.toList_map, Array.toList_range, List.getElem?_map, List.flatten_singleton]
    rw [List.getElem?_append]
    simp only [List.length_map, List.length_range]
    by_cases h : i < m * z.size
    · rw [if_pos h, List.getElem?_map, List.getElem?_range (by rw [Nat.add_mul]; omega), List.getElem?_range h]
    · rw [if_neg h]
      by_cases h2 : i < (m + 1) * z.size
      · rw [List.getElem?_range h2]
        have e : i % z.size = i - m * z.size := by
          rw [Nat.add_mul] at h2
          have : i = z.size * m + (i - m * z.size) := by rw [Nat.mul_comm]; omega
          rw [this, Nat.mul_add_mod, Nat.mod_eq_of_lt (by omega)]
          rw [Nat.mul_comm]; omega
        have hlt : i - m * z.size < z.size := by rw [Nat.add_mul] at h2; omega
        simp [e, hlt]
      · rw [List.getElem?_eq_none (by simpa using h2), List.getElem?_eq_none (by rw [Nat.add_mul] at h2; simp; omega)]
        rfl
/-- cut into pieces of sz -/
def chunk (sz : Nat) : Nat → List AVal → List (List AVal)
  | 0, _ => []
  | m + 1, l => l.take sz :: chunk sz m (l.drop sz)
theorem chunk_get (sz : Nat) : ∀ (m : Nat) (l : List AVal) (i : Nat), i < m → (chunk sz m l)[i]? = some ((l.drop (i * sz)).take sz)
  | m + 1, l, 0, _ => by simp [chunk]
  | m + 1, l, i + 1, h => by
    simp only [chunk, List.getElem?_cons_succ]
    rw [chunk_get sz m _ i (by omega), List.drop_drop]
    congr 3
    rw [Nat.add_mul]; omega
theorem chunk_length (sz : Nat) : ∀ (m : Nat) (l : List AVal), (chunk sz m l).length = m
  | 0, _ => rfl
  | m + 1, l => by simp [chunk, chunk_length sz m]
theorem chunk_at {sz m : Nat} {l : List AVal} {i j : Nat} {el : List AVal} {av : AVal} (h1 : (chunk sz m l)[i]? = some el) (h2 : el[j]? = some av) : i < m ∧ j < sz ∧ l[i * sz + j]? = some av := by
  have hi : i < m := by
    rcases Nat.lt_or_ge i m with h | h
    · exact h
    · rw [List.getElem?_eq_none (by rw [chunk_length]; exact h)] at h1; cases h1
  rw [chunk_get sz m l i hi] at h1
  cases h1
  rw [List.getElem?_take] at h2
  split at h2
  · rename_i hj
    rw [List.getElem?_drop] at h2
    exact ⟨hi, hj, h2⟩
  · cases h2
theorem buildSlice_core {ok : Nat → Prop} {L : Loc} {w : World} {ρ : Operand → Value} {t e m sz : Nat} {parts : Array (Nat × Operand)} {inf : TypeInfo} {z : Value} {pa : List (Nat × AVal)} {res : List AVal} (hs : Sim ok L σ w) (hr : ∀ p ∈ parts.toList, ∀ b, E p.2 = some b → Rep ok L w b (ρ p.2)) (ht : P.underlying t = some (.slice e)) (hi : P.info? e = some inf) (hz : inf.zero = some z) (hsz : inf.size = sz) (h0 : 0 < sz) (hzs : z.cells.toList.length = sz) (hm : m * sz ≤ 16777216)
    (hp : partsA E parts.toList = some pa) (ho : pa.all (fun p => okPart σ p.2) = true) (hf : fillA (fun i => some (i * sz, sz)) ((List.replicate m (z.cells.toList.map .v)).flatten) pa = some res) :
    ∃ out : Array Value, (Instr.buildSlice t m (parts.map fun (p : Nat × Operand) => (p.1, ρ p.2))).run P w = .ok (.slice (some ⟨w.heap.size, 0, none⟩) m m) (w.alloc (.cells out e)) ∧ All2 (RepL ok L w) res out.toList ∧ out.size = m * sz := by
  have h1 := partsA_rep (σ := σ) (ρ := ρ) (ok := ok) (L := L) (w := w) parts.toList pa hr hp ho
  have hzz : z.cells.size = sz := by simpa using hzs
  have hstart : All2 (RepL ok L w) ((List.replicate m (z.cells.toList.map .v)).flatten) ((Array.range (m * sz)).map (z.cells[· % z.cells.size]!)).toList := by
    rw [map_range_fill hzz h0]
    have : (List.replicate m (z.cells.toList.map AVal.v)).flatten = ((List.replicate m z.cells.toList).flatten).map AVal.v := by
      rw [List.map_flatten]; simp
    rw [this]
    exact All2.map_v ok L w _
  obtain ⟨out, o1, o2⟩ := fill_rep hs (fun i => some (i * sz, sz)) parts.toList pa _ _ res hstart h1 hf
  have hlen : ∀ (place : Nat → Option (Nat × Nat)) (pa : List (Nat × AVal)) (cells res : List AVal), fillA place cells pa = some res → res.length = cells.length := by
    intro place pa
    induction pa with
    | nil => intro cells res h; simp only [fillA, Option.some.injEq] at h; rw [h]
    | cons p pa ih =>
      intro cells res h
      obtain ⟨i, a⟩ := p
      simp only [fillA] at h
      split at h
      · cases h
      · split at h
        · rename_i hc
          rw [ih _ _ h]
          simp only [splice, List.length_append, List.length_take, List.length_drop]
          omega
        · cases h
  refine ⟨out, ?_, o2, ?_⟩
  · have e : (parts.map fun (p : Nat × Operand) => (p.1, ρ p.2)).toList = parts.toList.map fun q => (q.1, ρ q.2) := by simp
    have hb : ¬ (m * sz > 2 ^ 24) := by omega
    simp only [Instr.buildSlice, Sem.run_bind, run_underlying ht, Result.andThen_ok, sizeOf, typeInfo, run_program, hi, Sem.run_pure, hsz]
    by_cases hmz : m * sz = 0
    · rw [if_neg hb, if_pos hmz]
      have e2 : ∀ f : Nat → Value, (Array.range (m * sz)).map f = #[] := by intro f; rw [hmz]; simp
      rw [e2] at o1
      simp only [Sem.run_pure, Result.andThen_ok, e2, e, o1]
      simp [newRow]
    · rw [if_neg hb, if_neg hmz]
      simp only [zeroValue, typeInfo, Sem.run_bind, run_program, hi, hz, Result.andThen_ok, Sem.run_pure, e, o1]
      simp [newRow]
  · have h2 := All2.length _ _ o2
    have h3 := hlen _ _ _ _ hf
    rw [h3] at h2
    simp at h2
    rw [← h2]
    have : z.cells.size = sz := hzz
    simp [this]
theorem op_buildSlice_own {t e m sz : Nat} {parts : Array (Nat × Operand)} {inf : TypeInfo} {z : Value} {pa : List (Nat × AVal)} {res : List AVal} (id : Nat) (ht : P.underlying t = some (.slice e)) (hi : P.info? e = some inf) (hz : inf.zero = some z) (hsz : inf.size = sz) (h0 : 0 < sz) (hzs : z.cells.toList.length = sz) (hm : m * sz ≤ 16777216)
    (hp : partsA E parts.toList = some pa) (ho : pa.all (fun p => okPart σ p.2) = true) (hf : fillA (fun i => some (i * sz, sz)) ((List.replicate m (z.cells.toList.map .v)).flatten) pa = some res) (h1 : res.all AVal.oneB = true) (hl : res.all (AVal.live σ) = true) :
    OpR P ⟨d, .buildSlice t m parts, ty, pos, after, guard⟩ E σ (fun r σ' => ∃ ver, r = .slice id ver 0 m ∧ σ' = σ.put id ver (.row sz (chunk sz m res))) := by
  intro ok L w ρ hs hr
  obtain ⟨out, o1, o2, o3⟩ := buildSlice_core (E := E) hs (fun p hp b hb => hr p.2 (by simp [Op.operands]; exact ⟨p.1, by simpa using hp⟩) b hb) ht hi hz hsz h0 hzs hm hp ho hf
  have hrl : res.length = m * sz := by rw [All2.length _ _ o2]; simpa using o3
  obtain ⟨he, hs'⟩ := sim_upd (w' := w.alloc (.cells out e)) hs id w.heap.size m sz (L.ver id + 1) (.row sz (chunk sz m res)) (by omega) rfl rfl rfl (by simp) (fun k hk _ => Go.RowKit.Below.heap_alloc w _ k hk) (.inl (Nat.le_refl _)) (fun _ => by simp)
    (fun he => objrep_new hs he (heap_alloc_new w _) (fun el hel => by
        obtain ⟨i, hi'⟩ := List.getElem?_of_mem hel
        have hlt : i < m := by
          rcases Nat.lt_or_ge i m with h | h
          · exact h
          · rw [List.getElem?_eq_none (by rw [chunk_length]; exact h)] at hi'; cases hi'
        rw [chunk_get sz m res i hlt] at hi'
        cases hi'
        have : (i + 1) * sz ≤ m * sz := Nat.mul_le_mul_right _ hlt
        rw [Nat.add_mul] at this
        simp; omega) (by rw [chunk_length]; exact Nat.le_refl _) o3 (fun i el j av h1' h2' => by
      obtain ⟨_, _, h3⟩ := chunk_at h1' h2'
      obtain ⟨v, h4, h5⟩ := All2.get _ _ o2 _ _ h3
      have hm := List.mem_of_getElem? h3
      exact ⟨v, by simpa using h4, h5, h5.oneCell (List.all_eq_true.1 h1 av hm) (AVal.live_ver hs (List.all_eq_true.1 hl av hm))⟩))
  refine ⟨_, _, .slice (some ⟨w.heap.size, 0, none⟩) m m, _, ok, _, ⟨_, rfl, rfl⟩, .inl ?_, he, hs', by simp [Loc.upd], fun _ => ⟨_, _, rfl, Nat.le_refl _, by simp [Loc.upd], fun _ => by simp [Loc.upd]⟩⟩
  simp [execOp, o1]
/-- The same, told as what may only be read from now on. -/
theorem op_buildSlice {t e m sz : Nat} {parts : Array (Nat × Operand)} {inf : TypeInfo} {z : Value} {pa : List (Nat × AVal)} {res : List AVal} (ht : P.underlying t = some (.slice e)) (hi : P.info? e = some inf) (hz : inf.zero = some z) (hsz : inf.size = sz) (h0 : 0 < sz) (hzs : z.cells.toList.length = sz) (hm : m * sz ≤ 16777216)
    (hp : partsA E parts.toList = some pa) (ho : pa.all (fun p => okPart σ p.2) = true) (hf : fillA (fun i => some (i * sz, sz)) ((List.replicate m (z.cells.toList.map .v)).flatten) pa = some res) (h1 : res.all AVal.oneB = true) (hc : res.all AVal.clo1 = true) :
    OpTo P ⟨d, .buildSlice t m parts, ty, pos, after, guard⟩ E σ (.list sz (chunk sz m res)) σ := by
  intro ok L w ρ hs hr
  obtain ⟨out, o1, o2, o3⟩ := buildSlice_core (E := E) hs (fun p hp b hb => hr p.2 (by simp [Op.operands]; exact ⟨p.1, by simpa using hp⟩) b hb) ht hi hz hsz h0 hzs hm hp ho hf
  have hrl : res.length = m * sz := by rw [All2.length _ _ o2]; simpa using o3
  obtain ⟨he, hs'⟩ := sim_allocI hs (.cells out e)
  refine ⟨_, _, _, L, .inl (by simp [execOp, o1]; rfl), he, hs', ?_⟩
  have key : ∀ i el j av, (chunk sz m res)[i]? = some el → el[j]? = some av → ∃ v, out[i * sz + j]? = some v ∧ RepC ok w av v := by
    intro i el j av h1' h2'
    obtain ⟨_, _, h3⟩ := chunk_at h1' h2'
    obtain ⟨v, h4, h5⟩ := All2.get _ _ o2 _ _ h3
    exact ⟨v, by simpa using h4, h5.repC (List.all_eq_true.1 hc av (List.mem_of_getElem? h3))⟩
  have res' := RepC.list (ok := fun b => ok b ∨ b = w.heap.size) (w := w.alloc (.cells out e)) sz (chunk sz m res) w.heap.size 0 m (fun i j => (out[i * sz + j]?).getD undef) (.inr rfl) (by rw [chunk_length]; exact Nat.le_refl _) (fun el hel => by
        obtain ⟨i, hi'⟩ := List.getElem?_of_mem hel
        have hlt : i < m := by
          rcases Nat.lt_or_ge i m with h | h
          · exact h
          · rw [List.getElem?_eq_none (by rw [chunk_length]; exact h)] at hi'; cases hi'
        rw [chunk_get sz m res i hlt] at hi'
        cases hi'
        have : (i + 1) * sz ≤ m * sz := Nat.mul_le_mul_right _ hlt
        rw [Nat.add_mul] at this
        simp; omega) (fun i el j av h1' h2' => by
      obtain ⟨v, h3, _⟩ := key i el j av h1' h2'
      rw [World.cell?_alloc_new, Nat.zero_add, h3]; rfl) (fun i el j av h1' h2' => by
      obtain ⟨v, h3, h4⟩ := key i el j av h1' h2'
      rw [h3]
      obtain ⟨_, _, h5⟩ := chunk_at h1' h2'
      exact h4.oneCell (List.all_eq_true.1 h1 av (List.mem_of_getElem? h5))) (fun i el j av h1' h2' => by
      obtain ⟨v, h3, h4⟩ := key i el j av h1' h2'
      rw [h3]
      exact h4.mono (fun b hb => .inl hb) (fun b hb => Go.RowKit.Below.heap_alloc w _ b (hs.okd b hb).1))
  rw [chunk_length] at res'
  exact res'
end
end Go.Proofs.YtcgdlhkiecommaaGreatDoor

/- The engine, part 9: calls; what is lent to a call, what is handed over. -/

set_option linter.unusedVariables false
set_option linter.unusedSimpArgs false
namespace Go.Proofs.YtcgdlhkiecommaaGreatDoor
open Go
section
variable {P : Program} {n : Nat} {Q : APost} {env : Env} {σ σ' : Store} {ops : Array Oper} {rest : List Oper}
variable {E : Operand → Option AVal} {d : Option Tmp} {ty : TypeId} {pos : String} {after : Array Edge} {guard : Option (Nat × Bool)}
/-- A function with a body. -/
def Into (P : Program) (g : FuncId) : Prop := ∃ fn, P.funcs[g]? = some fn ∧ (fn.name == "runtime.NumGoroutine") = false ∧ fn.body.isNone = false
theorem run_callFunc {g : FuncId} {args : Array Value} {w : World} (h : Into P g) : (callFunc g args).run P w = .ok (.enter g args) w := by
  obtain ⟨fn, h1, h2, h3⟩ := h
  unfold callFunc
  simp only [Sem.run_bind, run_program, Result.andThen_ok, h1]
  rw [h2, h3]
  simp
def calleeOf : AVal → Option (FuncId × List AVal)
  | .v (.func (.func g) fs cs) => if fs.isEmpty && cs.isEmpty then some (g, []) else none
  | .fn g caps => some (g, caps)
  | _ => none
/-- The result of a call, as the caller goes on with it. -/
def CallK (P : Program) (n : Nat) (ops : Array Oper) (rest : List Oper) (Q : APost) (env : Env) (dst : Option Tmp) : AEnd → Store → Prop
  | .ret a, σ' => AL P n ops rest Q (env.putd dst a) σ'
  | .pan a, σ' => Q (.panic a) env σ'
theorem call_run {f : Operand} {args : Array Operand} {ts : Array TypeId} {fa : AVal} {g : FuncId} {caps : List AVal} {avs : List AVal} {ok : Nat → Prop} {L : Loc} {w : World} {ρ : Operand → Value} (hin : Into P g)
    (hr : ∀ x ∈ (Op.call { callee := .value f, args := args, argTypes := ts }).operands, ∀ b, E x = some b → Rep ok L w b (ρ x)) (hf : E f = some fa) (hc : calleeOf fa = some (g, caps)) (ha : avals E args.toList = some avs) :
    ∃ vs, (execOp ρ ⟨d, .call { callee := .value f, args := args, argTypes := ts }, ty, pos, after, guard⟩).run P w = .ok (.enter g vs.toArray) w ∧ All2 (Rep ok L w) (avs ++ caps) vs := by
  have h1 := hr f (by simp [Op.operands, Call.operands]) _ hf
  have h2 := avals_rep (ρ := ρ) (ok := ok) (L := L) (w := w) args.toList avs (fun x hx b hb => hr x (by simp [Op.operands, Call.operands]; exact .inr (by simpa using hx)) b hb) ha
  cases fa with
  | v x =>
    cases x with
    | func fn fs cs =>
      cases fn with
      | func g' =>
        simp only [calleeOf] at hc
        split at hc
        · rename_i he
          cases hc
          have e := rep_bool h1
          simp only [Bool.and_eq_true, Array.isEmpty_iff] at he
          obtain ⟨rfl, rfl⟩ := he
          refine ⟨args.toList.map ρ, ?_, by simpa using h2⟩
          have e2 : args.map ρ = (args.toList.map ρ).toArray := by apply Array.ext'; simp
          simp [execOp, resolve, Deferred.ofValue, e, invoke, run_callFunc hin]
          exact e2
        · cases hc
      | _ => simp [calleeOf] at hc
    | _ => simp [calleeOf] at hc
  | fn g' cs =>
    simp only [calleeOf, Option.some.injEq, Prod.mk.injEq] at hc
    obtain ⟨rfl, rfl⟩ := hc
    obtain ⟨vs, e, h3⟩ := h1
    have h4 : All2 (Rep ok L w) cs vs := All2.mono (fun a b h => h.rep h.leaf) _ _ h3
    refine ⟨args.toList.map ρ ++ vs, ?_, All2.append h2 h4⟩
    simp [execOp, resolve, Deferred.ofValue, e, invoke, run_callFunc hin]
  | _ => simp [calleeOf] at hc
theorem call_step {f : Operand} {args : Array Operand} {ts : Array TypeId} {fa : AVal} {g : FuncId} {caps : List AVal} {avs : List AVal} {R : AEnd → Store → Prop} (hin : Into P g)
    (hf : aval env f = some fa) (hc : calleeOf fa = some (g, caps)) (ha : avals (aval env) args.toList = some avs) (h : AC P g (avs ++ caps) σ R) (hd : ∀ t, d = some t → t < n)
    (k : ∀ r σ', R r σ' → CallK P n ops rest Q env d r σ') {ok : Nat → Prop} {L : Loc} {w : World} {act : Act} (h1 : Sim ok L σ w) (h2 : RepEnv ok L w env act.tmps) (h3 : act.defers = []) (h4 : act.tmps.size = n)
    (K : Act → World → Prop) (hK : ∀ a w', wpList P ops (Post n Q ok L σ w) rest a w' → K a w') :
    Oper.wp P ⟨d, .call { callee := .value f, args := args, argTypes := ts }, ty, pos, after, guard⟩ act w K (Post n Q ok L σ w) := by
  obtain ⟨vs, hrun, hv⟩ := call_run (E := aval env) (d := d) (ty := ty) (pos := pos) (after := after) (guard := guard) (ts := ts) hin (fun x _ b hb => h2.aval (x := x) hb) hf hc ha
  unfold Oper.wp
  rw [hrun]
  refine (h ok L w vs h1 hv).mono ?_
  rintro e w' ⟨r, σ', ok', L', hR, he, hs, hx⟩
  cases r with
  | ret a =>
    cases e with
    | returned v =>
      refine hK _ _ (wpList_after (fun _ _ _ h => Post.after he h) _ _ _ (k _ _ hR ok' L' w' (act.put d v) hs ?_ ?_ ?_))
      · exact (h2.evo h1 he).put hx (fun t ht => h4 ▸ hd t ht)
      · rw [put_defers]; exact h3
      · rw [put_size]; exact h4
    | _ => exact hx.elim
  | pan a =>
    cases e with
    | panicked chain => exact ⟨.panic a, env, σ', ok', L', k _ _ hR, he, hs, h2.evo h1 he, h3, h4, hx⟩
    | _ => exact hx.elim
/-- A call. -/
theorem al_call {f : Operand} {args : Array Operand} {ts : Array TypeId} {fa : AVal} {g : FuncId} {caps : List AVal} {avs : List AVal} {R : AEnd → Store → Prop} (hin : Into P g)
    (hf : aval env f = some fa) (hc : calleeOf fa = some (g, caps)) (ha : avals (aval env) args.toList = some avs) (h : AC P g (avs ++ caps) σ R) (hd : ∀ t, d = some t → t < n)
    (k : ∀ r σ', R r σ' → CallK P n ops rest Q env d r σ') : AL P n ops (⟨d, .call { callee := .value f, args := args, argTypes := ts }, ty, pos, after, none⟩ :: rest) Q env σ :=
  fun ok L w act h1 h2 h3 h4 => wpList_plain rfl fun K hK => call_step hin hf hc ha h hd k h1 h2 h3 h4 K hK
/-- A guarded call that is carried out. -/
theorem al_call_take {f : Operand} {args : Array Operand} {ts : Array TypeId} {fa : AVal} {g : FuncId} {caps : List AVal} {avs : List AVal} {R : AEnd → Store → Prop} {j t : Nat} {og : Oper} {b : Bool} (hin : Into P g)
    (hog : ops[j]? = some og) (hdst : og.dst = some t) (hb : env.get t = some (.v (.bool b)))
    (hf : aval env f = some fa) (hc : calleeOf fa = some (g, caps)) (ha : avals (aval env) args.toList = some avs) (h : AC P g (avs ++ caps) σ R) (hd : ∀ t, d = some t → t < n)
    (k : ∀ r σ', R r σ' → CallK P n ops rest Q env d r σ') : AL P n ops (⟨d, .call { callee := .value f, args := args, argTypes := ts }, ty, pos, after, some (j, b)⟩ :: rest) Q env σ :=
  fun ok L w act h1 h2 h3 h4 => wpList_step fun K hK => by
    rw [if_pos (by simp [Region.wanted, yielded_of h2 hog hdst hb])]
    exact call_step hin hf hc ha h hd k h1 h2 h3 h4 K hK
/-! ### Contracts under more memory -/
def AVal.cloA : AVal → Bool
  | .agg cs => cs.all AVal.clo1
  | .fn _ cs => cs.all AVal.clo1
  | a => a.clo1
/-- No object is named. -/
def AVal.clo : AVal → Bool
  | .tuple cs => cs.all AVal.cloA
  | a => a.cloA
def AEnd.clo : AEnd → Bool
  | .ret a => a.clo
  | .pan a => a.clo
theorem RepL.loc {ok : Nat → Prop} {L L' : Loc} {w : World} {a : AVal} {v : Value} (h : RepL ok L w a v) (hc : a.clo1 = true) : RepL ok L' w a v := (h.repC hc).repL
theorem All2.mem {α β : Type} {R S : α → β → Prop} : ∀ (as : List α) (bs : List β), All2 R as bs → (∀ a ∈ as, ∀ b, R a b → S a b) → All2 S as bs
  | [], [], _, _ => trivial
  | a :: as, b :: bs, ⟨h1, h2⟩, h => ⟨h a (by simp) b h1, All2.mem as bs h2 (fun x hx => h x (by simp [hx]))⟩
  | [], _ :: _, h, _ => h.elim
  | _ :: _, [], h, _ => h.elim
theorem RepA.loc {ok : Nat → Prop} {L L' : Loc} {w : World} {a : AVal} {v : Value} (h : RepA ok L w a v) (hc : a.cloA = true) : RepA ok L' w a v := by
  cases a with
  | agg cs => obtain ⟨vs, e, h2⟩ := h; exact ⟨vs, e, All2.mem _ _ h2 fun a ha b hb => hb.loc (List.all_eq_true.1 hc a ha)⟩
  | fn f cs => obtain ⟨vs, e, h2⟩ := h; exact ⟨vs, e, All2.mem _ _ h2 fun a ha b hb => hb.loc (List.all_eq_true.1 hc a ha)⟩
  | v _ => simp only [RepA] at h ⊢; exact RepL.loc h hc
  | nil => simp only [RepA] at h ⊢; exact RepL.loc h hc
  | list _ _ => simp only [RepA] at h ⊢; exact RepL.loc h hc
  | rptr _ => simp only [RepA] at h ⊢; exact RepL.loc h hc
  | slice _ _ _ _ => cases hc
  | ptr _ _ _ _ => cases hc
  | map _ _ => cases hc
  | tuple _ => cases hc
theorem Rep.loc {ok : Nat → Prop} {L L' : Loc} {w : World} {a : AVal} {v : Value} (h : Rep ok L w a v) (hc : a.clo = true) : Rep ok L' w a v := by
  cases a with
  | tuple cs => obtain ⟨vs, e, h2⟩ := h; exact ⟨vs, e, All2.mem _ _ h2 fun a ha b hb => hb.loc (List.all_eq_true.1 hc a ha)⟩
  | v _ => simp only [Rep] at h ⊢; exact RepA.loc h hc
  | nil => simp only [Rep] at h ⊢; exact RepA.loc h hc
  | list _ _ => simp only [Rep] at h ⊢; exact RepA.loc h hc
  | rptr _ => simp only [Rep] at h ⊢; exact RepA.loc h hc
  | slice _ _ _ _ => simp only [Rep] at h ⊢; exact RepA.loc h hc
  | ptr _ _ _ _ => simp only [Rep] at h ⊢; exact RepA.loc h hc
  | map _ _ => simp only [Rep] at h ⊢; exact RepA.loc h hc
  | agg _ => simp only [Rep] at h ⊢; exact RepA.loc h hc
  | fn _ _ => simp only [Rep] at h ⊢; exact RepA.loc h hc
theorem EndRep.loc {ok : Nat → Prop} {L L' : Loc} {w : World} {r : AEnd} {e : Ending} (h : EndRep ok L w r e) (hc : r.clo = true) : EndRep ok L' w r e := by
  cases r <;> cases e <;> simp only [EndRep] at h ⊢
  · exact h.loc hc
  · obtain ⟨v, h1, h2⟩ := h; exact ⟨v, h1, h2.loc hc⟩
/-- What may be read loses nothing when less may be read of what is not met. -/
theorem RepC.okmono {ok ok' : Nat → Prop} {w : World} {a : AVal} {v : Value} (h : RepC ok w a v) (hok : ∀ b, ok b → ok' b) : RepC ok' w a v := h.mono hok (fun _ _ => rfl)
theorem RepL.okmono {ok ok' : Nat → Prop} {L : Loc} {w : World} {a : AVal} {v : Value} (h : RepL ok L w a v) (hok : ∀ b, ok b → ok' b) : RepL ok' L w a v := by
  cases a with
  | slice _ _ _ _ => exact h
  | ptr _ _ _ _ => exact h
  | map _ _ => exact h
  | _ => exact RepC.okmono h hok
theorem RepA.okmono {ok ok' : Nat → Prop} {L : Loc} {w : World} {a : AVal} {v : Value} (h : RepA ok L w a v) (hok : ∀ b, ok b → ok' b) : RepA ok' L w a v := by
  cases a with
  | agg cs => obtain ⟨vs, e, h2⟩ := h; exact ⟨vs, e, All2.mono (fun _ _ h => h.okmono hok) _ _ h2⟩
  | fn f cs => obtain ⟨vs, e, h2⟩ := h; exact ⟨vs, e, All2.mono (fun _ _ h => h.okmono hok) _ _ h2⟩
  | _ => simp only [RepA] at h ⊢; exact h.okmono hok
theorem Rep.okmono {ok ok' : Nat → Prop} {L : Loc} {w : World} {a : AVal} {v : Value} (h : Rep ok L w a v) (hok : ∀ b, ok b → ok' b) : Rep ok' L w a v := by
  cases a with
  | tuple cs => obtain ⟨vs, e, h2⟩ := h; exact ⟨vs, e, All2.mono (fun _ _ h => h.okmono hok) _ _ h2⟩
  | _ => simp only [Rep] at h ⊢; exact h.okmono hok
theorem EndRep.okmono {ok ok' : Nat → Prop} {L : Loc} {w : World} {r : AEnd} {e : Ending} (h : EndRep ok L w r e) (hok : ∀ b, ok b → ok' b) : EndRep ok' L w r e := by
  cases r <;> cases e <;> simp only [EndRep] at h ⊢
  · exact h.okmono hok
  · obtain ⟨v, e1, e2⟩ := h; exact ⟨v, e1, e2.okmono hok⟩
theorem foot_empty {L : Loc} {b : Nat} : ¬ Foot L [] b := by
  rintro ⟨i, v, o, h, _⟩
  cases h
theorem sim_empty {ok : Nat → Prop} {L : Loc} {w : World} (h : ∀ b, ok b → b < w.heap.size) (hg : GlobOK ok w) : Sim ok L [] w := by
  constructor
  · intro i v o h; cases h
  · intro b hb; exact (foot_empty hb).elim
  · intro i j vi vj oi oj hi; cases hi
  · intro b hb; exact ⟨h b hb, foot_empty⟩
  · exact hg
/-- A call that is handed nothing that may be written leaves what its caller holds. -/
theorem back_pure {ok ok' : Nat → Prop} {L L' : Loc} {w w' : World} (hs : Sim ok L σ w) (okc : Nat → Prop) (hokc : ∀ b, okc b → ok b ∨ Foot L σ b) (hsub : ∀ b, ok b → okc b) (he : Evo okc L [] w ok' L' [] w') (hs' : Sim ok' L' [] w') :
    Evo ok L σ w (fun b => ok' b ∧ ¬ Foot L σ b) L σ w' ∧ Sim (fun b => ok' b ∧ ¬ Foot L σ b) L σ w' := by
  have hsame : ∀ b, b < w.heap.size → w'.heap[b]? = w.heap[b]? := fun b hb => he.same b hb foot_empty
  have hev : Evo ok L σ w (fun b => ok' b ∧ ¬ Foot L σ b) L σ w' := by
    refine ⟨he.os, he.tape, he.output, he.size, fun b hb _ => hsame b hb, fun _ _ h => h, fun b hb => ⟨he.okm b (hsub b hb), (hs.okd b hb).2⟩, fun b hb hlt => ?_, fun _ => Nat.le_refl _, fun _ _ => ⟨rfl, rfl, rfl⟩⟩
    rcases he.okn b hb.1 hlt with h | h
    · exact hokc b h
    · exact (foot_empty h).elim
  refine ⟨hev, ⟨fun i v o h => (hs.objs i v o h).evo hs hev rfl (fun hc => hsame _ (hs.lt _ ⟨i, v, o, h, hc, rfl⟩)), fun b hb => Nat.lt_of_lt_of_le (hs.lt b hb) he.size, hs.inj, fun b hb => ⟨(hs'.okd b hb.1).1, hb.2⟩, hs.globEvo hev⟩⟩
theorem ac_pure {g : FuncId} {avs : List AVal} {R : AEnd → Store → Prop} (h : AC P g avs [] R) (hR : ∀ r σ', R r σ' → σ' = [] ∧ r.clo = true) (σ : Store) : AC P g avs σ (fun r σ' => R r [] ∧ σ' = σ) := by
  intro ok L w vs hs hv
  refine (h ok L w vs (sim_empty (fun b hb => (hs.okd b hb).1) hs.glob) hv).mono ?_
  rintro e w' ⟨r, σ1, ok', L', h1, he, hs', hx⟩
  obtain ⟨rfl, hc⟩ := hR _ _ h1
  obtain ⟨he2, hs2⟩ := back_pure hs ok (fun b hb => .inl hb) (fun b hb => hb) he hs'
  refine ⟨r, σ, _, L, ⟨h1, rfl⟩, he2, hs2, ?_⟩
  -- what comes back may be read: nothing of it lies in what is held
  have hok : ∀ b, ok' b → ok' b ∧ ¬ Foot L σ b := fun b hb => ⟨hb, fun hf => by
    rcases he.okn b hb (hs.lt b hf) with h | h
    · exact (hs.okd b h).2 hf
    · exact foot_empty h⟩
  exact (hx.loc (L' := L) hc).okmono hok
/-! ### What is lent: it may be read by the callee, and stays the caller's -/
inductive LendL (σ : Store) : AVal → AVal → Prop
  | same (a : AVal) : LendL σ a a
  | nil (sz : Nat) : LendL σ .nil (.list sz [])
  | vnil (sz : Nat) : LendL σ (.v (.slice none 0 0)) (.list sz [])
  | slice (id ver off m sz : Nat) (els : List (List AVal)) : σ.get id = some (ver, .row sz els) → off + m ≤ els.length → (∀ el ∈ els, el.all AVal.clo1 = true) → LendL σ (.slice id ver off m) (.list sz ((els.drop off).take m))
/-- .. a pointer too -/
inductive LendA (σ : Store) : AVal → AVal → Prop
  | leaf (a b : AVal) : LendL σ a b → LendA σ a b
  | agg (as bs : List AVal) : All2 (LendL σ) as bs → LendA σ (.agg as) (.agg bs)
  | ptr (id ver i j sz : Nat) (els : List (List AVal)) (el bs : List AVal) : σ.get id = some (ver, .row sz els) → els[i]? = some el → All2 (LendL σ) (el.drop j) bs → bs.all AVal.clo1 = true → LendA σ (.ptr id ver i j) (.rptr bs)
theorem LendL.rep {ok : Nat → Prop} {L : Loc} {w : World} (hs : Sim ok L σ w) {a b : AVal} {v : Value} (hl : LendL σ a b) (h : RepL ok L w a v) : RepL (fun x => ok x ∨ Foot L σ x) L w b v := by
  cases hl with
  | same => exact h.okmono (fun _ h => .inl h)
  | nil sz =>
    have h' : RepC ok w .nil v := h
    cases h'
    exact RepC.empty _ _ _
  | vnil sz =>
    have h' : RepC ok w (.v (.slice none 0 0)) v := h
    cases h'
    exact RepC.empty _ _ _
  | slice id ver off m sz els hid hm hc =>
    obtain ⟨ad, c, rfl, hle, _, ha⟩ := h.2 (hs.ver hid)
    have hlen : ((els.drop off).take m).length = m := by simp; omega
    rcases Nat.eq_zero_or_pos m with rfl | hpos
    · have e : (els.drop off).take 0 = [] := by simp
      rw [e]
      exact RepC.empty _ _ _
    · have := ha (.inl hpos)
      subst this
      obtain ⟨o1, o2, o3, o4, o5⟩ := hs.objs id ver _ hid
      have hcap : L.cap id ≠ 0 := by omega
      obtain ⟨conc, et, g1, g2, g3⟩ := o5 hcap
      have hg : ∀ i e, ((els.drop off).take m)[i]? = some e → els[off + i]? = some e := by
        intro i e hi
        rw [List.getElem?_take] at hi
        split at hi
        · rwa [List.getElem?_drop] at hi
        · cases hi
      have res := RepC.list (ok := fun x => ok x ∨ Foot L σ x) (w := w) sz ((els.drop off).take m) (L.blk id) (off * L.sz id) c (fun i j => (conc[(off + i) * sz + j]?).getD undef) (.inr ⟨id, ver, _, hid, hcap, rfl⟩) (by rw [hlen]; exact hle)
        (fun e he => o3 e (List.mem_of_mem_drop (List.mem_of_mem_take he))) (fun i e j av hi hj => by
          obtain ⟨u, u1, u2, u3⟩ := g3 _ _ _ _ (hg i e hi) hj
          rw [u1]
          simp only [World.cell?, g1, o2]
          rw [show off * sz + i * sz + j = (off + i) * sz + j from by rw [Nat.add_mul], u1]
          rfl) (fun i e j av hi hj => by
          obtain ⟨u, u1, u2, u3⟩ := g3 _ _ _ _ (hg i e hi) hj
          rw [u1]; exact u3) (fun i e j av hi hj => by
          obtain ⟨u, u1, u2, u3⟩ := g3 _ _ _ _ (hg i e hi) hj
          rw [u1]
          have hm := List.mem_of_getElem? (hg i e hi)
          exact (u2.repC (List.all_eq_true.1 (hc e hm) av (List.mem_of_getElem? hj))).okmono (fun _ h => .inl h))
      rw [hlen] at res
      exact res
theorem All2.two {α β γ : Type} {R : α → β → Prop} {S : α → γ → Prop} {T : β → γ → Prop} (h : ∀ a b c, R a b → S a c → T b c) : ∀ (as : List α) (bs : List β) (cs : List γ), All2 R as bs → All2 S as cs → All2 T bs cs
  | [], [], [], _, _ => trivial
  | _ :: as, _ :: bs, _ :: cs, ⟨h1, h2⟩, ⟨h3, h4⟩ => ⟨h _ _ _ h1 h3, All2.two h as bs cs h2 h4⟩
  | [], _ :: _, _, h, _ => h.elim
  | [], [], _ :: _, _, h => h.elim
  | _ :: _, [], _, h, _ => h.elim
  | _ :: _, _ :: _, [], _, h => h.elim
theorem LendA.rep {ok : Nat → Prop} {L : Loc} {w : World} (hs : Sim ok L σ w) {a b : AVal} {v : Value} (hl : LendA σ a b) (h : Rep ok L w a v) : Rep (fun x => ok x ∨ Foot L σ x) L w b v := by
  cases hl with
  | leaf a b hl =>
    cases hl with
    | same => exact h.okmono (fun _ h => .inl h)
    | nil sz => exact LendL.rep hs (.nil sz) h
    | vnil sz => exact LendL.rep hs (.vnil sz) h
    | slice id ver off m sz els hid hm hc => exact LendL.rep hs (.slice id ver off m sz els hid hm hc) h
  | agg as bs hl =>
    obtain ⟨vs, e, h2⟩ := h
    exact ⟨vs, e, All2.two (fun a b c h1 h3 => h1.rep hs h3) _ _ _ hl h2⟩
  | ptr id ver i j sz els el bs hid hel hl hc =>
    have e := h.2 (hs.ver hid)
    subst e
    obtain ⟨e1, e2, e3, e4, conc, et, g1, g2, g3⟩ := hs.row hid hel
    have key : ∀ k av, bs[k]? = some av → ∃ u, conc[i * sz + (j + k)]? = some u ∧ RepC (fun x => ok x ∨ Foot L σ x) w av u := by
      intro k av hk
      have hlen := All2.length _ _ hl
      have hkl : k < (el.drop j).length := by
        rw [hlen]
        rcases Nat.lt_or_ge k bs.length with h | h
        · exact h
        · simp [List.getElem?_eq_none h] at hk
      obtain ⟨av', h1, h2⟩ := All2.get _ _ hl k _ (List.getElem?_eq_getElem hkl)
      rw [hk] at h1
      cases h1
      have hx := List.getElem?_eq_getElem hkl
      rw [List.getElem?_drop] at hx
      obtain ⟨u, u1, u2, _⟩ := g3 i el _ _ hel hx
      exact ⟨u, u1, (h2.rep hs u2).repC (List.all_eq_true.1 hc _ (List.mem_of_getElem? hk))⟩
    refine RepC.rptr bs (L.blk id) _ (fun k => (conc[i * sz + (j + k)]?).getD undef) (.inr ⟨id, ver, _, hid, e3, rfl⟩) (fun k av hk => ?_) (fun k av hk => ?_)
    · obtain ⟨u, u1, _⟩ := key k av hk
      simp only [World.cell?, g1, e1, u1]
      simp [Nat.add_assoc, u1]
    · obtain ⟨u, u1, u2⟩ := key k av hk
      rw [u1]; exact u2
/-- A plain value: no memory is told. -/
def AVal.sca : AVal → Bool
  | .v _ => true
  | _ => false
def AVal.scaA : AVal → Bool
  | .agg cs => cs.all AVal.sca
  | a => a.sca
def AVal.scal : AVal → Bool
  | .tuple cs => cs.all AVal.scaA
  | a => a.scaA
def AEnd.scal : AEnd → Bool
  | .ret a => a.scal
  | .pan a => a.scal
theorem Rep.scal {ok ok' : Nat → Prop} {L L' : Loc} {w w' : World} {a : AVal} {v : Value} (h : Rep ok L w a v) (hc : a.scal = true) : Rep ok' L' w' a v := by
  have k1 : ∀ {a v}, RepL ok L w a v → a.sca = true → RepL ok' L' w' a v := by
    intro a v h hc
    cases a <;> first | (cases hc; done) | skip
    rw [rep_bool (ok := ok) (L := L) (w := w) h]; exact RepC.v _
  have k2 : ∀ {a v}, RepA ok L w a v → a.scaA = true → RepA ok' L' w' a v := by
    intro a v h hc
    cases a with
    | agg cs => obtain ⟨vs, e, h2⟩ := h; exact ⟨vs, e, All2.mem _ _ h2 fun a ha b hb => k1 hb (List.all_eq_true.1 hc a ha)⟩
    | v x => exact k1 (a := .v x) h hc
    | _ => cases hc
  cases a with
  | tuple cs => obtain ⟨vs, e, h2⟩ := h; exact ⟨vs, e, All2.mem _ _ h2 fun a ha b hb => k2 hb (List.all_eq_true.1 hc a ha)⟩
  | agg cs => exact k2 (a := .agg cs) h hc
  | v x => exact k2 (a := .v x) h hc
  | _ => cases hc
theorem ac_lend {g : FuncId} {avs bvs : List AVal} {R : AEnd → Store → Prop} (h : AC P g bvs [] R) (hR : ∀ r σ', R r σ' → σ' = [] ∧ r.scal = true) (hl : All2 (LendA σ) avs bvs) : AC P g avs σ (fun r σ' => R r [] ∧ σ' = σ) := by
  intro ok L w vs hs hv
  have hv' : All2 (Rep (fun x => ok x ∨ Foot L σ x) L w) bvs vs := All2.two (fun a b c h1 h3 => h1.rep hs h3) _ _ _ hl hv
  refine (h _ L w vs (sim_empty (fun b hb => hb.elim (fun h => (hs.okd b h).1) (fun h => hs.lt b h)) (hs.glob.mono (fun b hb => .inl hb) (fun _ _ => rfl))) hv').mono ?_
  rintro e w' ⟨r, σ1, ok', L', h1, he, hs', hx⟩
  obtain ⟨rfl, hc⟩ := hR _ _ h1
  obtain ⟨he2, hs2⟩ := back_pure hs _ (fun b hb => hb) (fun b hb => .inl hb) he hs'
  refine ⟨r, σ, _, L, ⟨h1, rfl⟩, he2, hs2, ?_⟩
  cases r <;> cases e <;> simp only [EndRep] at hx ⊢
  · exact hx.scal hc
  · obtain ⟨v, e1, e2⟩ := hx; exact ⟨v, e1, e2.scal hc⟩
end
end Go.Proofs.YtcgdlhkiecommaaGreatDoor
