/- The engine, part 6: append; structs and arrays as values; slices cut; calls. -/
import Derived.Test.YtbojpddejdmamaaGreatDoorEngE
set_option linter.unusedVariables false
set_option linter.unusedSimpArgs false
namespace Go.Proofs.YtbojpddejdmamaaGreatDoor
open Go

section
variable {P : Program} {w : World}
def notInt : TypeDesc → Bool
  | .slice _ => true
  | .string => true
  | _ => false

theorem run_append_fit {t u ty e : TypeId} {ud : TypeDesc} {inf : TypeInfo} (ht : P.underlying t = some (.slice e)) (hu : P.underlying u = some ud) (hn : notInt ud = true) (hi : P.info? e = some inf)
    (base : Option Addr) (sLen sCap m : Nat) (x : Value) (vals : List Value) (hlen : (Builtin.lenOf x).run P w = .ok m w) (hf : (Builtin.firstCells inf.size m x).run P w = .ok vals.toArray w) (hfit : sLen + m ≤ sCap) :
    (Builtin.append_ #[t, u] ty #[.slice base sLen sCap, x]).run P w = (match base with
      | some a => ((storeCells (a.add (sLen * inf.size)) vals).run P w).andThen fun _ w' => .ok (.slice base (sLen + m) sCap) w'
      | none => .ok (.slice base (sLen + m) sCap) w) := by
  cases ud with
  | slice e' => cases base <;> simp [Builtin.append_, run_underlying ht, run_underlying hu, sizeOf, typeInfo, hi, hlen, hf, hfit]
  | string => cases base <;> simp [Builtin.append_, run_underlying ht, run_underlying hu, sizeOf, typeInfo, hi, hlen, hf, hfit]
  | _ => simp [notInt] at hn

theorem run_append_new {t u ty e : TypeId} {ud : TypeDesc} {inf : TypeInfo} {z : Value} (ht : P.underlying t = some (.slice e)) (hu : P.underlying u = some ud) (hn : notInt ud = true) (hi : P.info? e = some inf) (hz : inf.zero = some z)
    (base : Option Addr) (sLen sCap m : Nat) (x : Value) (olds vals : List Value) (hlen : (Builtin.lenOf x).run P w = .ok m w)
    (hfo : (Builtin.firstCells inf.size sLen (.slice base sLen sCap)).run P w.drew = .ok olds.toArray w.drew) (hf : (Builtin.firstCells inf.size m x).run P w.drew = .ok vals.toArray w.drew) (hfit : sCap < sLen + m)
    (h63 : ((sLen + m : Nat) : Int) ≤ 9223372036854775807) (hby : (sLen + m) * inf.bytes ≤ 140737488355328) :
    (Builtin.append_ #[t, u] ty #[.slice base sLen sCap, x]).run P w = .ok (.slice (some ⟨w.heap.size, 0, none⟩) (sLen + m) (grownCap w (sLen + m) sCap e))
        (w.drew.alloc (.cells (olds.toArray ++ (vals.toArray ++ Builtin.zeroCells z.cells (grownCap w (sLen + m) sCap e - (sLen + m)))) e)) := by
  have hn' : ¬ (sLen + m ≤ sCap) := by omega
  have h63' : ¬ (9223372036854775807 < ((sLen : Int) + (m : Int))) := by omega
  have h48' : ¬ (281474976710656 < Builtin.nextslicecap (sLen + m) sCap * inf.bytes) := by
    have := growslice_fits hfit hby
    omega
  cases ud with
  | slice e' => simp [Builtin.append_, run_underlying ht, run_underlying hu, sizeOf, typeInfo, zeroValue, hi, hz, hlen, hn', h63', h48', Question.forced, hfo, hf, newRow, grownCap]
  | string => simp [Builtin.append_, run_underlying ht, run_underlying hu, sizeOf, typeInfo, zeroValue, hi, hz, hlen, hn', h63', h48', Question.forced, hfo, hf, newRow, grownCap]
  | _ => simp [notInt] at hn

/-- What is appended: its elements, in memory. -/
def Src (P : Program) (ok : Nat → Prop) (L : Loc) (w : World) (sz : Nat) (x : Value) (news : List (List AVal)) : Prop :=
  (∀ el ∈ news, el.length = sz) ∧ ∃ vals : List Value, vals.length = news.length * sz ∧ (Builtin.lenOf x).run P w = .ok news.length w ∧
    (Builtin.firstCells sz news.length x).run P w = .ok vals.toArray w ∧ (Builtin.firstCells sz news.length x).run P w.drew = .ok vals.toArray w.drew ∧
    ∀ i el j av, news[i]? = some el → el[j]? = some av → ∃ v, vals[i * sz + j]? = some v ∧ RepL ok L w av v ∧ v.oneCell' = true

theorem firstCells_at {sz m c : Nat} {b o : Nat} {vals : List Value} (hl : vals.length = m * sz) (h : ∀ k v, vals[k]? = some v → w.cell? ⟨b, o + k, none⟩ = some v) (len : Nat) :
    (Builtin.firstCells sz m (.slice (some ⟨b, o, none⟩) len c)).run P w = .ok vals.toArray w :=
  run_firstCells_some (P := P) w sz m ⟨b, o, none⟩ len c vals hl (fun j v hj => by rw [addr_add0]; exact h j v hj)

/-- The flat list of what a row's elements hold, out of a function of the place. -/
theorem flat_vals (sz : Nat) (news : List (List AVal)) (f : Nat → Value) (k : Nat) (hk : k < news.length * sz) : ((List.range (news.length * sz)).map f)[k]? = some (f k) := by
  rw [List.getElem?_map, List.getElem?_range hk]; rfl
theorem place_lt {i j sz m : Nat} (hi : i < m) (hj : j < sz) : i * sz + j < m * sz := by
  have : (i + 1) * sz ≤ m * sz := Nat.mul_le_mul_right _ hi
  rw [Nat.add_mul] at this
  omega
theorem place_div {i j sz : Nat} (hj : j < sz) : (i * sz + j) / sz = i ∧ (i * sz + j) % sz = j := by
  have h0 : 0 < sz := by omega
  constructor
  · rw [Nat.mul_comm, Nat.mul_add_div h0, Nat.div_eq_of_lt hj]; rfl
  · rw [Nat.mul_comm, Nat.mul_add_mod, Nat.mod_eq_of_lt hj]

theorem src_list {ok : Nat → Prop} {L : Loc} {sz : Nat} {els : List (List AVal)} {v : Value} (h0 : 0 < sz) (h : RepC ok w (.list sz els) v) : Src P ok L w sz v els := by
  obtain ⟨a, c, rfl, hc, hh⟩ := h.list_form
  rcases hh with rfl | ⟨b, o, vs, rfl, hok, hs, hcell, hrep, h1⟩
  · refine ⟨by simp, [], by simp, by simp [Builtin.lenOf], ?_, ?_, by simp⟩
    · cases a <;> simp [Builtin.firstCells, loadCells, loadCellsFrom]
    · cases a <;> simp [Builtin.firstCells, loadCells, loadCellsFrom]
  · let f : Nat → Value := fun k => vs (k / sz) (k % sz)
    have hf : ∀ i el j av, els[i]? = some el → el[j]? = some av → ((List.range (els.length * sz)).map f)[i * sz + j]? = some (vs i j) := by
      intro i el j av hi hj
      have hi' : i < els.length := by
        rcases Nat.lt_or_ge i els.length with h | h
        · exact h
        · simp [List.getElem?_eq_none h] at hi
      have hj' : j < sz := by
        have := hs el (List.mem_of_getElem? hi)
        rcases Nat.lt_or_ge j el.length with h | h
        · omega
        · simp [List.getElem?_eq_none h] at hj
      rw [flat_vals sz els f _ (place_lt hi' hj')]
      show some (vs ((i * sz + j) / sz) ((i * sz + j) % sz)) = _
      rw [(place_div hj').1, (place_div hj').2]
    have hcells : ∀ k u, ((List.range (els.length * sz)).map f)[k]? = some u → w.cell? ⟨b, o + k, none⟩ = some u := by
      intro k u hk
      rcases Nat.lt_or_ge k (els.length * sz) with hl | hl
      · rw [flat_vals sz els f k hl] at hk
        cases hk
        have hi' : k / sz < els.length := by rw [Nat.div_lt_iff_lt_mul h0]; exact hl
        have hj' : k % sz < sz := Nat.mod_lt _ h0
        have hm := List.getElem_mem hi'
        have hlen := hs _ hm
        have := hcell (k / sz) _ (k % sz) _ (List.getElem?_eq_getElem hi') (List.getElem?_eq_getElem (by omega))
        have e : o + k / sz * sz + k % sz = o + k := by have := Nat.div_add_mod k sz; rw [Nat.mul_comm] at this; omega
        rw [e] at this
        exact this
      · rw [List.getElem?_eq_none (by simpa using hl)] at hk; cases hk
    refine ⟨hs, (List.range (els.length * sz)).map f, by simp, by simp [Builtin.lenOf], firstCells_at (by simp) hcells _, firstCells_at (by simp) (by simpa using hcells) _, fun i el j av hi hj => ?_⟩
    exact ⟨vs i j, hf i el j av hi hj, (hrep i el j av hi hj).repL, h1 i el j av hi hj⟩

theorem src_nil {ok : Nat → Prop} {L : Loc} {sz : Nat} {v : Value} (h : RepC ok w .nil v) : Src P ok L w sz v [] := by
  obtain ⟨a, rfl⟩ := h.nil_form
  refine ⟨by simp, [], by simp, by simp [Builtin.lenOf], ?_, ?_, by simp⟩
  · cases a <;> simp [Builtin.firstCells, loadCells, loadCellsFrom]
  · cases a <;> simp [Builtin.firstCells, loadCells, loadCellsFrom]

theorem src_string {ok : Nat → Prop} {L : Loc} (s : ByteArray) : Src P ok L w 1 (.string s) (s.data.toList.map fun b => [.v (.int .u8 b.toNat)]) := by
  have hx : s.extract 0 s.size = s := by simp
  refine ⟨by simp, s.data.toList.map fun b => .int .u8 b.toNat, by simp, ?_, ?_, ?_, ?_⟩
  · simp [Builtin.lenOf]
  · simp [Builtin.firstCells, hx]
    apply Array.ext'
    simp
  · simp [Builtin.firstCells, hx]
    apply Array.ext'
    simp
  · intro i el j av hi hj
    rw [List.getElem?_map, Option.map_eq_some_iff] at hi
    obtain ⟨b, h1, rfl⟩ := hi
    cases j with
    | succ j => simp at hj
    | zero =>
      simp at hj
      subst hj
      refine ⟨.int .u8 b.toNat, ?_, RepC.v _, rfl⟩
      rw [Nat.mul_one, Nat.add_zero, List.getElem?_map, h1]; rfl

theorem src_slice {ok : Nat → Prop} {L : Loc} {σ : Store} {sz id ver off m : Nat} {els : List (List AVal)} {v : Value} (h0 : 0 < sz) (hs : Sim ok L σ w) (hid : σ.get id = some (ver, .row sz els)) (hm : off + m ≤ els.length) (h : RepL ok L w (.slice id ver off m) v) : Src P ok L w sz v ((els.drop off).take m) := by
  obtain ⟨a, c, rfl, hc, _, h3⟩ := h.2 (hs.ver hid)
  have hlen : ((els.drop off).take m).length = m := by simp; omega
  rcases Nat.eq_zero_or_pos m with rfl | hpos
  · refine ⟨by simp, [], by simp, by simp [Builtin.lenOf], ?_, ?_, by simp⟩
    · cases a <;> simp [Builtin.firstCells, loadCells, loadCellsFrom]
    · cases a <;> simp [Builtin.firstCells, loadCells, loadCellsFrom]
  · have ha := h3 (.inl hpos)
    subst ha
    obtain ⟨o1, o2, o3, o4, o5⟩ := hs.objs id ver _ hid
    obtain ⟨conc, et, g1, g2, g3⟩ := o5 (by omega)
    let f : Nat → Value := fun k => (conc[off * sz + k]?).getD undef
    have hg : ∀ i el, ((els.drop off).take m)[i]? = some el → i < m ∧ els[off + i]? = some el := by
      intro i el hi
      rw [List.getElem?_take] at hi
      split at hi
      · rename_i hlt
        rw [List.getElem?_drop] at hi
        exact ⟨hlt, hi⟩
      · cases hi
    have hin : ∀ k, k < m * sz → ∃ u, conc[off * sz + k]? = some u := by
      intro k hk
      refine ⟨conc[off * sz + k]'?_, Array.getElem?_eq_getElem _⟩
      have h1 : (off + m) * sz ≤ L.cap id * sz := Nat.mul_le_mul_right _ (by omega)
      rw [Nat.add_mul] at h1
      omega
    refine ⟨fun el hm => ?_, (List.range (((els.drop off).take m).length * sz)).map f, by simp, by simp [Builtin.lenOf, hlen], ?_, ?_, fun i el j av hi hj => ?_⟩
    · exact o3 el (List.mem_of_mem_drop (List.mem_of_mem_take hm))
    · refine firstCells_at (by simp) (fun k u hk => ?_) _
      rcases Nat.lt_or_ge k (((els.drop off).take m).length * sz) with hl | hl
      · rw [flat_vals sz _ f k hl] at hk
        cases hk
        rw [hlen] at hl
        obtain ⟨u, hu⟩ := hin k hl
        simp only [World.cell?, o2, g1, f, hu]
        simp [hu]
      · rw [List.getElem?_eq_none (by simpa using hl)] at hk; cases hk
    · refine firstCells_at (by simp) (fun k u hk => ?_) _
      rcases Nat.lt_or_ge k (((els.drop off).take m).length * sz) with hl | hl
      · rw [flat_vals sz _ f k hl] at hk
        cases hk
        rw [hlen] at hl
        obtain ⟨u, hu⟩ := hin k hl
        have g1' : w.drew.heap[L.blk id]? = some (.cells conc et (0, 0)) := g1
        simp only [World.cell?, o2, g1', f, hu]
        simp [hu]
      · rw [List.getElem?_eq_none (by simpa using hl)] at hk; cases hk
    · obtain ⟨hi1, hi2⟩ := hg i el hi
      have hj' : j < sz := by
        have := o3 el (List.mem_of_getElem? hi2)
        rcases Nat.lt_or_ge j el.length with h | h
        · omega
        · simp [List.getElem?_eq_none h] at hj
      obtain ⟨u, u1, u2, u3⟩ := g3 (off + i) el j av hi2 hj
      refine ⟨u, ?_, u2, u3⟩
      rw [flat_vals sz _ f _ (by rw [hlen]; exact place_lt hi1 hj')]
      show some ((conc[off * sz + (i * sz + j)]?).getD undef) = _
      rw [show off * sz + (i * sz + j) = (off + i) * sz + j from by rw [Nat.add_mul]; omega, u1]
      rfl
end

section
variable {P : Program} {n : Nat} {Q : APost} {env : Env} {σ σ' : Store} {ops : Array Oper} {rest : List Oper}
variable {E : Operand → Option AVal} {d : Option Tmp} {ty : TypeId} {pos : String} {after : Array Edge} {guard : Option (Nat × Bool)}

/-- What stands ahead: nil, or a row of one's own from its head on. -/
inductive Head (σ : Store) (sz id : Nat) : AVal → List (List AVal) → Prop
  | nil : Head σ sz id .nil []
  | row (ver m : Nat) (els : List (List AVal)) : σ.get id = some (ver, .row sz els) → m ≤ els.length → Head σ sz id (.slice id ver 0 m) (els.take m)

theorem append_core {ok : Nat → Prop} {L : Loc} {w : World} {t u e sz id : Nat} {ud : TypeDesc} {inf : TypeInfo} {z : Value} {a : AVal} {v x : Value} {olds news : List (List AVal)} (ht : P.underlying t = some (.slice e)) (hu : P.underlying u = some ud) (hn : notInt ud = true) (hi : P.info? e = some inf) (hz : inf.zero = some z)
    (hsz : inf.size = sz) (h0 : 0 < sz) (hzs : z.cells.toList.length = sz) (hs : Sim ok L σ w) (hh : Head σ sz id a olds) (hv : RepL ok L w a v) (hsrc : Src P ok L w sz x news)
    (h63 : olds.length + news.length ≤ 9223372036854775807) (hby : (olds.length + news.length) * inf.bytes ≤ 140737488355328) :
    ∃ v' w' L' ver', (Builtin.append_ #[t, u] ty #[v, x]).run P w = .ok v' w' ∧ Evo ok L σ w ok L' (σ.put id ver' (.row sz (olds ++ news))) w' ∧ Sim ok L' (σ.put id ver' (.row sz (olds ++ news))) w' ∧ RepL ok L' w' (.slice id ver' 0 (olds.length + news.length)) v' := by
  obtain ⟨hns, vals, hvl, hlen, hf, hf', hrep⟩ := hsrc
  -- the head in memory
  have hd : ∃ base c, v = .slice base olds.length c ∧ (∀ el ∈ olds, el.length = sz) ∧
      ((c = 0 ∧ olds = []) ∨ (∃ ver els conc et m, a = .slice id ver 0 m ∧ σ.get id = some (ver, .row sz els) ∧ base = some ⟨L.blk id, 0, none⟩ ∧ c = L.cap id ∧ L.cap id ≠ 0 ∧ olds.length ≤ c ∧ w.heap[L.blk id]? = some (.cells conc et (0, 0)) ∧ conc.size = c * sz ∧
        ∀ i el j av, olds[i]? = some el → el[j]? = some av → ∃ v, conc[i * sz + j]? = some v ∧ RepL ok L w av v ∧ v.oneCell' = true)) := by
    cases hh with
    | nil =>
      obtain ⟨b, rfl⟩ := RepC.nil_form hv
      exact ⟨b, 0, rfl, by simp, .inl ⟨rfl, rfl⟩⟩
    | row ver m els hid hm =>
      obtain ⟨b, c, rfl, h2, h3, h4⟩ := hv.2 (hs.ver hid)
      obtain ⟨o1, o2, o3, o4, o5⟩ := hs.objs id ver _ hid
      have hc : c = L.cap id := by omega
      have hol : (els.take m).length = m := by simp; omega
      refine ⟨b, c, by rw [hol], fun el hm => o3 el (List.mem_of_mem_take hm), ?_⟩
      by_cases hcap : L.cap id = 0
      · left
        refine ⟨by omega, ?_⟩
        have : m = 0 := by omega
        subst this
        simp
      · right
        obtain ⟨conc, et, g1, g2, g3⟩ := o5 hcap
        refine ⟨ver, els, conc, et, m, rfl, hid, ?_, hc, hcap, by omega, g1, by rw [hc]; exact g2, fun i el j av hi hj => ?_⟩
        · have := h4 (.inr ⟨rfl, hcap⟩)
          simpa using this
        · rw [List.getElem?_take] at hi
          split at hi
          · exact g3 i el j av hi hj
          · cases hi
  obtain ⟨base, c, rfl, hos, hd⟩ := hd
  have hall : ∀ el ∈ olds ++ news, el.length = sz := fun el hm => (List.mem_append.1 hm).elim (hos el) (hns el)
  have hlt : ∀ {l : List (List AVal)} {i : Nat} {el : List AVal}, l[i]? = some el → i < l.length := by
    intro l i el hi
    rcases Nat.lt_or_ge i l.length with h | h
    · exact h
    · simp [List.getElem?_eq_none h] at hi
  have hltj : ∀ {el : List AVal} {j : Nat} {av : AVal}, el.length = sz → el[j]? = some av → j < sz := by
    intro el j av hl hj
    rcases Nat.lt_or_ge j el.length with h | h
    · omega
    · simp [List.getElem?_eq_none h] at hj
  by_cases hfit : olds.length + news.length ≤ c
  · rcases hd with ⟨rfl, rfl⟩ | ⟨ver, els, conc, et, m, rfl, hid, rfl, rfl, hcap, hoc, g1, g2, g3⟩
    · -- nothing is appended to nothing
      have hnn : news = [] := List.eq_nil_of_length_eq_zero (by simp at hfit; simpa using hfit)
      subst hnn
      have hvn : vals = [] := List.eq_nil_of_length_eq_zero (by simpa using hvl)
      subst hvn
      have hrun := run_append_fit (ty := ty) ht hu hn hi base 0 0 0 x [] hlen (by rw [hsz]; exact hf) (Nat.le_refl _)
      have hrun' : (Builtin.append_ #[t, u] ty #[.slice base 0 0, x]).run P w = .ok (.slice base 0 0) w := by
        rw [hrun]
        cases base <;> simp [storeCells]
      obtain ⟨he, hs'⟩ := sim_upd (w' := w) hs id w.heap.size 0 sz (L.ver id + 1) (.row sz ([] ++ [])) (by omega) rfl rfl rfl (Nat.le_refl _) (fun k hk _ => rfl) (.inl (Nat.le_refl _)) (fun h => absurd rfl h)
        (fun he => ⟨by simp [Loc.upd], by simp [Loc.upd], by simp, by simp, fun h => by simp [Loc.upd] at h⟩)
      exact ⟨_, w, _, _, hrun', he, hs', by simp [Loc.upd], fun _ => ⟨base, 0, rfl, by simp, by simp [Loc.upd], fun h => by simp [Loc.upd] at h⟩⟩
    · have h1 : ∀ v ∈ vals, v.oneCell' = true := by
        intro v hv
        obtain ⟨k, hk⟩ := List.getElem?_of_mem hv
        have hkl : k < news.length * sz := by
          rw [← hvl]
          rcases Nat.lt_or_ge k vals.length with h | h
          · exact h
          · simp [List.getElem?_eq_none h] at hk
        have hi' : k / sz < news.length := by rw [Nat.div_lt_iff_lt_mul h0]; exact hkl
        have hj' : k % sz < sz := Nat.mod_lt _ h0
        have hel := hns _ (List.getElem_mem hi')
        obtain ⟨u, u1, _, u3⟩ := hrep (k / sz) _ (k % sz) _ (List.getElem?_eq_getElem hi') (List.getElem?_eq_getElem (by omega))
        have e : k / sz * sz + k % sz = k := by have := Nat.div_add_mod k sz; rw [Nat.mul_comm] at this; omega
        rw [e, hk] at u1
        cases u1
        exact u3
      have hbound : olds.length * sz + vals.length ≤ conc.size := by
        rw [hvl, g2, ← Nat.add_mul]
        exact Nat.mul_le_mul_right _ hfit
      have hst := run_storeCells_at P (L.blk id) (olds.length * sz) et vals 0 conc w g1 (by simpa using hbound) h1
      simp only [Nat.add_zero] at hst
      generalize hcs : (conc.toList.take (olds.length * sz) ++ vals ++ conc.toList.drop (olds.length * sz + vals.length)).toArray = cs at hst
      have hrun := run_append_fit (ty := ty) ht hu hn hi (some ⟨L.blk id, 0, none⟩) olds.length (L.cap id) news.length x vals hlen (by rw [hsz]; exact hf) hfit
      have hrun' : (Builtin.append_ #[t, u] ty #[.slice (some ⟨L.blk id, 0, none⟩) olds.length (L.cap id), x]).run P w = .ok (.slice (some ⟨L.blk id, 0, none⟩) (olds.length + news.length) (L.cap id)) (w.setRow (L.blk id) cs) := by
        rw [hrun]
        simp only [addr_add0, hsz, Nat.zero_add, hst, Result.andThen_ok]
      have hget : ∀ k, cs[k]? = if k < olds.length * sz then conc[k]? else if k < olds.length * sz + vals.length then vals[k - olds.length * sz]? else conc[k]? := by
        intro k
        rw [← hcs]
        simp only [List.getElem?_toArray, List.append_assoc]
        by_cases h1 : k < olds.length * sz
        · rw [if_pos h1, List.getElem?_append_left (by simp; omega), List.getElem?_take, if_pos h1]; simp
        · rw [if_neg h1, List.getElem?_append_right (by simp; omega)]
          have hl1 : (conc.toList.take (olds.length * sz)).length = olds.length * sz := by simp; omega
          rw [hl1]
          by_cases h2 : k < olds.length * sz + vals.length
          · rw [if_pos h2, List.getElem?_append_left (by omega)]
          · rw [if_neg h2, List.getElem?_append_right (by omega), List.getElem?_drop]
            rw [show olds.length * sz + vals.length + (k - olds.length * sz - vals.length) = k from by omega]
            simp
      have hcsz : cs.size = conc.size := by
        rw [← hcs]
        simp
        omega
      obtain ⟨he, hs'⟩ := sim_upd (w' := w.setRow (L.blk id) cs) hs id (L.blk id) (L.cap id) sz (L.ver id + 1) (.row sz (olds ++ news)) (by omega) rfl rfl rfl (by simp [World.setRow]) (fun k hk hne => setRow_other w _ k _ hne) (.inr ⟨rfl, hcap, _, _, hid⟩) (fun _ => by
          have := hs.lt (L.blk id) ⟨id, _, _, hid, hcap, rfl⟩
          simpa [World.setRow] using this)
        (fun he => by
          refine ⟨by simp [Loc.upd], by simp [Loc.upd], hall, by simpa [Loc.upd] using hfit, fun _ => ⟨cs, et, by simpa [Loc.upd] using setRow_heap w _ conc cs et _ g1, by simp only [Loc.upd, if_pos]; rw [hcsz]; exact g2, fun i el j av hi hj => ?_⟩⟩
          have hj' := hltj (hall el (List.mem_of_getElem? hi)) hj
          rw [List.getElem?_append] at hi
          rw [hget]
          split at hi
          · rename_i hlo
            have hpl := place_lt hlo hj'
            rw [if_pos hpl]
            obtain ⟨v, k1, k2, k3⟩ := g3 i el j av hi hj
            exact ⟨v, k1, k2.evo hs he, k3⟩
          · rename_i hlo
            have hge : olds.length * sz ≤ i * sz := Nat.mul_le_mul_right _ (by omega)
            rw [if_neg (by omega)]
            obtain ⟨v, k1, k2, k3⟩ := hrep _ el j av hi hj
            have e : i * sz + j - olds.length * sz = (i - olds.length) * sz + j := by rw [Nat.sub_mul]; omega
            have hpl := place_lt (hlt hi) hj'
            rw [if_pos (by rw [hvl]; omega), e]
            exact ⟨v, k1, k2.evo hs he, k3⟩)
      refine ⟨_, _, _, _, hrun', he, hs', by simp [Loc.upd], fun _ => ⟨_, _, rfl, hfit, by simp [Loc.upd], fun _ => by simp [Loc.upd]⟩⟩
  · -- a new block
    have holds : ∃ ovals : List Value, ovals.length = olds.length * sz ∧ (Builtin.firstCells sz olds.length (.slice base olds.length c)).run P w.drew = .ok ovals.toArray w.drew ∧
        ∀ i el j av, olds[i]? = some el → el[j]? = some av → ∃ v, ovals[i * sz + j]? = some v ∧ RepL ok L w av v ∧ v.oneCell' = true := by
      rcases hd with ⟨rfl, rfl⟩ | ⟨ver, els, conc, et, m, rfl, hid, rfl, rfl, hcap, hoc, g1, g2, g3⟩
      · refine ⟨[], by simp, ?_, by simp⟩
        cases base <;> simp [Builtin.firstCells, loadCells, loadCellsFrom]
      · have hle : olds.length * sz ≤ conc.size := by rw [g2]; exact Nat.mul_le_mul_right _ hoc
        refine ⟨conc.toList.take (olds.length * sz), by simp; omega, ?_, fun i el j av hi hj => ?_⟩
        · refine firstCells_at (w := w.drew) (by simp; omega) (fun k u hk => ?_) _
          rw [List.getElem?_take] at hk
          split at hk
          · have : conc[k]? = some u := by simpa using hk
            have g1' : w.drew.heap[L.blk id]? = some (.cells conc et (0, 0)) := g1
            simp [World.cell?, g1', this]
          · cases hk
        · obtain ⟨v, k1, k2, k3⟩ := g3 i el j av hi hj
          refine ⟨v, ?_, k2, k3⟩
          rw [List.getElem?_take, if_pos (place_lt (hlt hi) (hltj (hos el (List.mem_of_getElem? hi)) hj))]
          simpa using k1
    obtain ⟨ovals, hol, hfo, hog⟩ := holds
    have hrun := run_append_new (ty := ty) ht hu hn hi hz base olds.length c news.length x ovals vals hlen (by rw [hsz]; exact hfo) (by rw [hsz]; exact hf') (by omega) (by omega) hby
    generalize hcap' : grownCap w (olds.length + news.length) c e = cap' at hrun
    have hge : olds.length + news.length ≤ cap' := by rw [← hcap']; exact grownCap_ge w _ _ _
    rw [← Array.append_assoc] at hrun
    generalize hconc : ovals.toArray ++ vals.toArray ++ Builtin.zeroCells z.cells (cap' - (olds.length + news.length)) = conc' at hrun
    have hcz : conc'.size = cap' * sz := by
      rw [← hconc]
      simp only [Array.size_append, List.size_toArray, size_zeroCells, hol, hvl, ← Nat.add_mul]
      rw [show z.cells.size = sz from by simpa using hzs, ← Nat.add_mul]
      congr 1
      omega
    have hget : ∀ k, k < (olds.length + news.length) * sz → conc'[k]? = if k < olds.length * sz then ovals[k]? else vals[k - olds.length * sz]? := by
      intro k hk
      rw [← hconc]
      rw [Nat.add_mul] at hk
      rw [Array.getElem?_append_left (by simp; omega)]
      by_cases h1 : k < olds.length * sz
      · rw [if_pos h1, Array.getElem?_append_left (by simp; omega)]; simp
      · rw [if_neg h1, Array.getElem?_append_right (by simp; omega)]; simp [hol]
    obtain ⟨he, hs'⟩ := sim_upd (w' := w.drew.alloc (.cells conc' e)) hs id w.heap.size cap' sz (L.ver id + 1) (.row sz (olds ++ news)) (by omega) rfl rfl rfl (by simp) (fun k hk _ => Go.RowKit.Below.heap_alloc w.drew _ k hk) (.inl (Nat.le_refl _)) (fun _ => by simp)
      (fun he => objrep_new hs he (heap_alloc_new w.drew _) hall (by simpa using hge) hcz (fun i el j av hi hj => by
        have hj' := hltj (hall el (List.mem_of_getElem? hi)) hj
        have hi' := hlt hi
        rw [List.length_append] at hi'
        rw [hget _ (place_lt hi' hj')]
        rw [List.getElem?_append] at hi
        split at hi
        · rename_i hlo
          rw [if_pos (place_lt hlo hj')]
          exact hog i el j av hi hj
        · rename_i hlo
          have hge' : olds.length * sz ≤ i * sz := Nat.mul_le_mul_right _ (by omega)
          rw [if_neg (by omega), show i * sz + j - olds.length * sz = (i - olds.length) * sz + j from by rw [Nat.sub_mul]; omega]
          exact hrep _ el j av hi hj))
    exact ⟨_, _, _, _, hrun, he, hs', by simp [Loc.upd], fun _ => ⟨_, _, rfl, hge, by simp [Loc.upd], fun _ => by simp [Loc.upd]⟩⟩

/-- append(s, x...), x told by what it holds. -/
theorem op_append {x y : Operand} {t u e sz : Nat} {ud : TypeDesc} {inf : TypeInfo} {z : Value} {a b : AVal} {olds news : List (List AVal)} (id : Nat) (ht : P.underlying t = some (.slice e)) (hu : P.underlying u = some ud) (hn : notInt ud = true) (hi : P.info? e = some inf) (hz : inf.zero = some z)
    (hsz : inf.size = sz) (h0 : 0 < sz) (hzs : z.cells.toList.length = sz) (hx : E x = some a) (hy : E y = some b) (hh : Head σ sz id a olds)
    (hsrc : ∀ ok L w v, Sim ok L σ w → Rep ok L w b v → Src P ok L w sz v news)
    (h63 : olds.length + news.length ≤ 9223372036854775807) (hby : (olds.length + news.length) * inf.bytes ≤ 140737488355328) :
    OpR P ⟨d, .call { callee := .builtin .append, args := #[x, y], argTypes := #[t, u] }, ty, pos, after, guard⟩ E σ (fun r σ' => ∃ ver, r = .slice id ver 0 (olds.length + news.length) ∧ σ' = σ.put id ver (.row sz (olds ++ news))) := by
  intro ok L w ρ hs hr
  have hv : RepL ok L w a (ρ x) := by
    have := hr x (by simp [Op.operands, Call.operands]) _ hx
    cases hh <;> exact this
  have hy' := hsrc ok L w _ hs (hr y (by simp [Op.operands, Call.operands]) _ hy)
  obtain ⟨v', w', L', ver', h1, h2, h3, h4⟩ := append_core (ty := ty) ht hu hn hi hz hsz h0 hzs hs hh hv hy' h63 hby
  refine ⟨_, _, v', w', ok, L', ⟨ver', rfl, rfl⟩, .inl ?_, h2, h3, h4⟩
  simp [execOp, resolve, invoke, builtin, h1]
end
end Go.Proofs.YtbojpddejdmamaaGreatDoor
