/- The engine, part 12: what comes in, told; how a law's row is closed. -/
import Derived.Test.YtnnklpmgncbgnaaGreatEngK
import Derived.ProofKit
import Derived.OpenShut
import Derived.ShutString
import Derived.ChangeOld
import Derived.SizedLaws
import Derived.Below
import Derived.Carry
set_option linter.unusedVariables false
set_option linter.unusedSimpArgs false
namespace Go.Proofs.YtnnklpmgncbgnaaGreat
open Go Go.RowKit

/-- A value of a type, cell by cell. -/
def TyV (P : Program) : Nat → TypeId → List AVal → Prop
  | 0, _, _ => False
  | n + 1, t, cs => match P.underlying t with
    | some .bool => ∃ b, cs = [.v (.bool b)]
    | some (.int k) => ∃ x, (Lit.int k x).wf = true ∧ cs = [.v (.int k x)]
    | some .string => ∃ s : ByteArray, s.size ≤ reachBytes ∧ cs = [.v (.string s)]
    | some (.slice e) => ∃ els : List (List AVal), els.length * P.bytesOf e ≤ reachBytes ∧ (∀ el ∈ els, TyV P n e el) ∧ cs = [.list (P.cellsOf e) els]
    | some (.struct fs) => cs.length = P.cellsOf t ∧ ∀ f ∈ fs.toList, TyV P n f.type ((cs.drop f.offset).take (P.cellsOf f.type))
    | some (.array m e) => cs.length = P.cellsOf t ∧ ∀ i, i < m → TyV P n e ((cs.drop (i * P.cellsOf e)).take (P.cellsOf e))
    | _ => False

def rowed (P : Program) : List Field → Nat → Nat → Bool
  | [], s, e => s == e
  | f :: fs, s, e => f.offset == s && rowed P fs (s + P.cellsOf f.type) e

/-- Types made of types of the list. -/
def closedT (P : Program) (S : List TypeId) : Bool := S.all fun t => match P.underlying t with
  | some .bool | some (.int _) | some .string => true
  | some (.slice e) => S.contains e && decide (0 < P.cellsOf e)
  | some (.struct fs) => fs.toList.all (fun f => S.contains f.type) && rowed P fs.toList 0 (P.cellsOf t)
  | some (.array m e) => S.contains e && P.cellsOf t == m * P.cellsOf e
  | _ => false

section
variable {P : Program} {ok : Nat → Prop} {w : World}

/-- .. in memory -/
def RepO (ok : Nat → Prop) (w : World) (a : AVal) (v : Value) : Prop := RepC ok w a v ∧ v.oneCell' = true

theorem mapM_get {α β : Type} (f : α → Option β) : ∀ (l : List α) (ys : List β), l.mapM f = some ys → ys.length = l.length ∧ ∀ (i : Nat) (x : α), l[i]? = some x → ∃ y, ys[i]? = some y ∧ f x = some y
  | [], ys, h => by simp at h; subst h; exact ⟨rfl, by simp⟩
  | x :: l, ys, h => by
    rw [List.mapM_cons] at h
    simp only [bind, Option.bind_eq_some_iff, pure, Option.some.injEq] at h
    obtain ⟨y, h1, ys', h2, rfl⟩ := h
    obtain ⟨h3, h4⟩ := mapM_get f l ys' h2
    refine ⟨by simp [h3], fun i z hz => ?_⟩
    cases i with
    | zero => simp at hz; subst hz; exact ⟨y, by simp, h1⟩
    | succ i => simp at hz; obtain ⟨u, h5, h6⟩ := h4 i z hz; exact ⟨u, by simpa using h5, h6⟩

theorem All2.nil_r {α β : Type} {R : α → β → Prop} {as : List α} (h : All2 R as []) : as = [] := by
  cases as with
  | nil => rfl
  | cons _ _ => exact h.elim

theorem fields_rep {n : Nat} {vs : List Value} : ∀ (fs : List Field) (s e : Nat), rowed P fs s e = true → e ≤ vs.length → (∀ f ∈ fs, ∃ cs, TyV P n f.type cs ∧ All2 (RepO ok w) cs ((vs.drop f.offset).take (P.cellsOf f.type))) →
    s ≤ e ∧ ∃ cs, All2 (RepO ok w) cs ((vs.drop s).take (e - s)) ∧ ∀ f ∈ fs, s ≤ f.offset ∧ TyV P n f.type ((cs.drop (f.offset - s)).take (P.cellsOf f.type))
  | [], s, e, h, he, _ => by
    simp only [rowed, beq_iff_eq] at h
    subst h
    exact ⟨Nat.le_refl _, [], by simp [All2], by simp⟩
  | f :: fs, s, e, h, he, hf => by
    simp only [rowed, Bool.and_eq_true, beq_iff_eq] at h
    obtain ⟨h1, h2⟩ := h
    obtain ⟨hle, cs, c1, c2⟩ := fields_rep fs (s + P.cellsOf f.type) e h2 he (fun g hg => hf g (by simp [hg]))
    obtain ⟨cf, d1, d2⟩ := hf f (by simp)
    rw [h1] at d2
    have hlf : cf.length = P.cellsOf f.type := by
      rw [All2.length _ _ d2]; simp; omega
    refine ⟨by omega, cf ++ cs, ?_, fun g hg => ?_⟩
    · have : (vs.drop s).take (e - s) = (vs.drop s).take (P.cellsOf f.type) ++ (vs.drop (s + P.cellsOf f.type)).take (e - (s + P.cellsOf f.type)) := by
        rw [← List.drop_drop, ← List.take_append_drop (P.cellsOf f.type) ((vs.drop s).take (e - s))]
        congr 1
        · rw [List.take_take]; congr 1; omega
        · rw [List.drop_take]; congr 1; omega
      rw [this]
      exact All2.append d2 c1
    · rcases List.mem_cons.1 hg with rfl | hg
      · refine ⟨by omega, ?_⟩
        rw [h1, Nat.sub_self, List.drop_zero, List.take_append_of_le_length (by omega), List.take_of_length_le (by omega)]
        exact d1
      · obtain ⟨k1, k2⟩ := c2 g hg
        refine ⟨by omega, ?_⟩
        rw [List.drop_append, List.drop_eq_nil_of_le (by omega), List.nil_append, show g.offset - s - cf.length = g.offset - (s + P.cellsOf f.type) from by omega]
        exact k2

theorem array_rep {n e k : Nat} {vs : List Value} (hk : P.cellsOf e = k) : ∀ (m : Nat), m * k ≤ vs.length → (∀ i, i < m → ∃ cs, TyV P n e cs ∧ All2 (RepO ok w) cs ((vs.drop (i * k)).take k)) →
    ∃ cs, All2 (RepO ok w) cs (vs.take (m * k)) ∧ ∀ i, i < m → TyV P n e ((cs.drop (i * k)).take k)
  | 0, _, _ => ⟨[], by simp [All2], by simp⟩
  | m + 1, hl, hf => by
    rw [Nat.add_mul, Nat.one_mul] at hl
    obtain ⟨cs, c1, c2⟩ := array_rep hk m (by omega) (fun i hi => hf i (by omega))
    obtain ⟨cm, d1, d2⟩ := hf m (by omega)
    have hlc : cs.length = m * k := by rw [All2.length _ _ c1]; simp; omega
    have hlm : cm.length = k := by rw [All2.length _ _ d2]; simp; omega
    refine ⟨cs ++ cm, ?_, fun i hi => ?_⟩
    · have : vs.take ((m + 1) * k) = vs.take (m * k) ++ (vs.drop (m * k)).take k := by
        rw [Nat.add_mul, Nat.one_mul, List.take_add]
      rw [this]
      exact All2.append c1 d2
    · by_cases h : i = m
      · subst h
        rw [List.drop_append, List.drop_eq_nil_of_le (by omega), List.nil_append, hlc, Nat.sub_self, List.drop_zero, List.take_of_length_le (by omega)]
        exact d1
      · have h1 := c2 i (by omega)
        have h2 : (i + 1) * k ≤ m * k := Nat.mul_le_mul_right _ (by omega)
        rw [Nat.add_mul, Nat.one_mul] at h2
        rw [List.drop_append_of_le_length (by omega), List.take_append_of_le_length (by simp; omega)]
        exact h1

theorem weightsEach_mem {H : Type} : ∀ (ts : List TypeId) (ds : List (DataW H)) (i : Nat) (t : TypeId) (d : DataW H), ts[i]? = some t → ds[i]? = some d → ∀ n ∈ d.weights P t, n ∈ DataW.weightsEach P ts ds
  | [], _, i, t, d, h, _ => by simp at h
  | _ :: _, [], i, t, d, _, h => by simp at h
  | u :: ts, e :: ds, 0, t, d, h1, h2 => by
    simp at h1 h2; subst h1; subst h2
    intro n hn; simp [DataW.weightsEach, hn]
  | u :: ts, e :: ds, i + 1, t, d, h1, h2 => by
    simp at h1 h2
    intro n hn
    have := weightsEach_mem ts ds i t d h1 h2 n hn
    simp [DataW.weightsEach, this]

theorem weightsAll_mem {H : Type} {t : TypeId} : ∀ (ds : List (DataW H)) (d : DataW H), d ∈ ds → ∀ n ∈ d.weights P t, n ∈ DataW.weightsAll P t ds
  | [], d, h => by simp at h
  | e :: ds, d, h => by
    intro n hn
    rcases List.mem_cons.1 h with rfl | h
    · simp [DataW.weightsAll, hn]
    · have := weightsAll_mem ds d h n hn
      simp [DataW.weightsAll, this]

theorem choose_list {α : Type} {R : Nat → α → Prop} : ∀ n : Nat, (∀ i, i < n → ∃ a, R i a) → ∃ l : List α, l.length = n ∧ ∀ i a, l[i]? = some a → R i a
  | 0, _ => ⟨[], rfl, by simp⟩
  | n + 1, h => by
    obtain ⟨l, h1, h2⟩ := choose_list n (fun i hi => h i (by omega))
    obtain ⟨a, ha⟩ := h n (by omega)
    refine ⟨l ++ [a], by simp [h1], fun i b hb => ?_⟩
    rw [List.getElem?_append] at hb
    split at hb
    · exact h2 i b hb
    · rename_i hi
      have : i = n := by
        have := (List.getElem?_eq_some_iff.1 hb).1
        simp at this
        omega
      subst this
      simp [h1] at hb
      subst hb
      exact ha

theorem cells_get {a : Addr} {k : Nat} {vs : List Value} (h : w.cells? 0 a k = some vs) : vs.length = k ∧ ∀ i v, vs[i]? = some v → w.cell? (a.add i) = some v := by
  unfold World.cells? at h
  rw [if_pos (Nat.zero_le _)] at h
  obtain ⟨h1, h2⟩ := mapM_get _ _ _ h
  simp at h1
  refine ⟨h1, fun i v hv => ?_⟩
  have hi : i < k := by have := (List.getElem?_eq_some_iff.1 hv).1; omega
  obtain ⟨y, h3, h4⟩ := h2 i i (by simp [hi])
  rw [hv] at h3
  cases h3
  exact h4

theorem cell_block {a : Addr} {v : Value} (h : w.cell? a = some v) : a.spot = none ∧ a.block < w.heap.size := by
  unfold World.cell? at h
  split at h
  · rename_i c e f hb
    refine ⟨?_, (Array.getElem?_eq_some_iff.1 hb).1⟩
    split at h
    · cases h
    · rename_i hs; simpa using hs
  · cases h

/-- **What can be read is told.** -/
theorem trod_rep {H : Type} {enc : TypeId × Value → H} {S : List TypeId} (hS : closedT P S = true) (hok : ∀ b, b < w.heap.size → ok b) : ∀ (fuel : Nat) (t : TypeId) (vs : List Value) (d : DataW H) (ps : List MemPlace), t ∈ S →
    DataW.trod enc P w 0 (fun _ => true) true fuel t vs = some (d, ps) → (∀ n ∈ d.weights P t, n ≤ reachBytes) → ∃ cs, TyV P fuel t cs ∧ All2 (RepO ok w) cs vs
  | 0, t, vs, d, ps, _, h, _ => by simp [DataW.trod] at h
  | fuel + 1, t, vs, d, ps, ht, h, hw => by
    have hc := List.all_eq_true.1 hS t ht
    simp only [TyV]
    cases hu : P.underlying t with
    | none => rw [hu] at hc; cases hc
    | some td =>
      rw [hu] at hc
      cases td with
      | bool =>
        obtain ⟨b, rfl, _⟩ := DataW.trod_bool hu h
        exact ⟨[.v (.bool b)], ⟨b, rfl⟩, ⟨RepC.v _, rfl⟩, trivial⟩
      | int k =>
        obtain ⟨x, rfl, _, hx⟩ := DataW.trod_int hu h
        exact ⟨[.v (.int k x)], ⟨x, hx, rfl⟩, ⟨RepC.v _, rfl⟩, trivial⟩
      | string =>
        obtain ⟨s, rfl, he, _⟩ := DataW.trod_string hu h
        cases he
        refine ⟨[.v (.string s)], ⟨s, ?_, rfl⟩, ⟨RepC.v _, rfl⟩, trivial⟩
        have := hw s.data.toList.length (by simp [DataW.weights])
        simpa using this
      | struct fs =>
        obtain ⟨xs, n, hn, hx, hl, hlx, hf⟩ := DataW.trod_struct hu h
        cases hn
        cases hx
        simp only [Bool.and_eq_true, List.all_eq_true, List.contains_iff_mem] at hc
        have key : ∀ f ∈ fs.toList, ∃ cs, TyV P fuel f.type cs ∧ All2 (RepO ok w) cs ((vs.drop f.offset).take (P.cellsOf f.type)) := by
          intro f hf1
          obtain ⟨i, hi, rfl⟩ := List.getElem_of_mem hf1
          have hi' : i < fs.size := by simpa using hi
          have h1 := hf i fs[i] (by simp [hi'])
          have hx1 : i < xs.length := by omega
          rw [List.getElem?_eq_getElem hx1] at h1
          have hi2 : fs.toList[i] = fs[i] := by simp
          rw [hi2]
          refine trod_rep hS hok fuel _ _ xs[i].1 xs[i].2 (by have := hc.1 fs.toList[i] (by simp); rwa [hi2] at this) h1 (fun m hm => hw m ?_)
          simp only [DataW.weights, hu]
          exact weightsEach_mem _ _ i _ _ (by simp [hi']) (by simp [hx1]) m hm
        obtain ⟨_, cs, c1, c2⟩ := fields_rep fs.toList 0 (P.cellsOf t) hc.2 (by omega) key
        rw [List.drop_zero, Nat.sub_zero, List.take_of_length_le (by omega)] at c1
        refine ⟨cs, ⟨by rw [All2.length _ _ c1, hl], fun f hf1 => ?_⟩, c1⟩
        have := (c2 f hf1).2
        simpa using this
      | array m e =>
        obtain ⟨xs, n, hn, hx, hl, hlx, hf⟩ := DataW.trod_array hu h
        cases hn
        cases hx
        simp only [Bool.and_eq_true, List.contains_iff_mem, beq_iff_eq] at hc
        have key : ∀ i, i < m → ∃ cs, TyV P fuel e cs ∧ All2 (RepO ok w) cs ((vs.drop (i * P.cellsOf e)).take (P.cellsOf e)) := by
          intro i hi
          have h1 := hf i hi
          have hx1 : i < xs.length := by omega
          rw [List.getElem?_eq_getElem hx1] at h1
          refine trod_rep hS hok fuel _ _ xs[i].1 xs[i].2 hc.1 h1 (fun q hq => hw q ?_)
          simp only [DataW.weights, hu]
          exact weightsAll_mem _ _ (List.mem_map.2 ⟨_, List.getElem_mem hx1, rfl⟩) q hq
        obtain ⟨cs, c1, c2⟩ := array_rep rfl m (by omega) key
        rw [List.take_of_length_le (by omega)] at c1
        exact ⟨cs, ⟨by rw [All2.length _ _ c1, hl], c2⟩, c1⟩
      | slice e =>
        simp only [Bool.and_eq_true, List.contains_iff_mem] at hc
        rcases DataW.trod_slice hu h with ⟨rfl, hx⟩ | ⟨a, len, cap, elems, rest, n, hn, rfl, hx, _, hlc, _, hle, hel, _, _⟩
        · exact ⟨[.list (P.cellsOf e) []], ⟨[], by simp, by simp, rfl⟩, ⟨RepC.empty _ _ _, rfl⟩, trivial⟩
        · cases hn
          cases hx
          have hwt : (elems.length + rest.length) * P.bytesOf e ≤ reachBytes := hw _ (by simp [DataW.weights, hu])
          have key : ∀ i, i < len → ∃ cs vs, TyV P fuel e cs ∧ w.cells? 0 (a.add (i * P.cellsOf e)) (P.cellsOf e) = some vs ∧ All2 (RepO ok w) cs vs := by
            intro i hi
            have h1 := hel i hi
            have hx1 : i < elems.length := by omega
            rw [List.getElem?_eq_getElem hx1] at h1
            obtain ⟨vs, h2, h3⟩ := Option.bind_eq_some_iff.1 h1
            obtain ⟨cs, c1, c2⟩ := trod_rep hS hok fuel _ _ elems[i].1 elems[i].2 hc.1 h3 (fun q hq => hw q (by
              simp only [DataW.weights, hu]
              refine List.mem_cons_of_mem _ (List.mem_append_left _ (weightsAll_mem _ _ (List.mem_map.2 ⟨_, List.getElem_mem hx1, rfl⟩) q hq))))
            exact ⟨cs, vs, c1, h2, c2⟩
          obtain ⟨els, hl, hels⟩ := choose_list (R := fun i cs => ∃ vs, TyV P fuel e cs ∧ w.cells? 0 (a.add (i * P.cellsOf e)) (P.cellsOf e) = some vs ∧ All2 (RepO ok w) cs vs) len (fun i hi => let ⟨cs, vs, h⟩ := key i hi; ⟨cs, vs, h⟩)
          have hty : ∀ el ∈ els, TyV P fuel e el := by
            intro el hel
            obtain ⟨i, hi, rfl⟩ := List.getElem_of_mem hel
            obtain ⟨vs, h1, _⟩ := hels i _ (List.getElem?_eq_getElem hi)
            exact h1
          refine ⟨[.list (P.cellsOf e) els], ⟨els, Nat.le_trans (Nat.mul_le_mul_right _ (by omega)) hwt, hty, rfl⟩, ⟨?_, rfl⟩, trivial⟩
          by_cases h0 : len = 0
          · have : els = [] := List.length_eq_zero_iff.1 (by omega)
            subst this
            rw [h0]
            exact RepC.empty _ _ _
          · have hcell : ∀ i e' j av, els[i]? = some e' → e'[j]? = some av → ∃ v, w.cell? ((a.add (i * P.cellsOf e)).add j) = some v ∧ v.oneCell' = true ∧ RepC ok w av v := by
              intro i e' j av h1 h2
              obtain ⟨vs, _, h4, h5⟩ := hels i e' h1
              obtain ⟨h6, h7⟩ := cells_get h4
              obtain ⟨v, h8, h9⟩ := All2.get _ _ h5 j av h2
              exact ⟨v, h7 j v h8, h9.2, h9.1⟩
            have hlen : ∀ e' ∈ els, e'.length = P.cellsOf e := by
              intro e' he'
              obtain ⟨i, hi, rfl⟩ := List.getElem_of_mem he'
              obtain ⟨vs, _, h4, h5⟩ := hels i _ (List.getElem?_eq_getElem hi)
              rw [All2.length _ _ h5, (cells_get h4).1]
            have hpos : 0 < P.cellsOf e := by simpa using hc.2
            have h00 : ∃ v, w.cell? a = some v := by
              have hl0 : 0 < els.length := by omega
              have h1 := List.getElem?_eq_getElem hl0
              have h2 := hlen _ (List.getElem_mem hl0)
              obtain ⟨v, h3, _⟩ := hcell 0 _ 0 _ h1 (List.getElem?_eq_getElem (by omega))
              exact ⟨v, by simpa [Addr.add] using h3⟩
            obtain ⟨v0, h00⟩ := h00
            obtain ⟨hsp, hbl⟩ := cell_block h00
            obtain ⟨b, o, sp⟩ := a
            cases hsp
            have hadd : ∀ i j, ((⟨b, o, none⟩ : Addr).add (i * P.cellsOf e)).add j = ⟨b, o + i * P.cellsOf e + j, none⟩ := by
              intro i j
              rw [Addr.add_add]
              unfold Addr.add
              split
              · rename_i h; simp [Nat.add_eq_zero_iff.1 h]
              · simp; omega
            let cv : Nat → Nat → Value := fun i j => (w.cell? ⟨b, o + i * P.cellsOf e + j, none⟩).getD .nilIface
            rw [← hl]
            refine RepC.list _ els b o cap cv (hok b hbl) (by omega) hlen (fun i e' j av h1 h2 => ?_) (fun i e' j av h1 h2 => ?_) (fun i e' j av h1 h2 => ?_)
            all_goals (obtain ⟨v, h3, h4, h5⟩ := hcell i e' j av h1 h2; rw [hadd] at h3; simp [cv, h3])
            · exact h4
            · exact h5
      | _ => simp at hc
/-- An argument, as it comes. -/
def argOf (P : Program) (t : TypeId) (cs : List AVal) : AVal := match P.underlying t with
  | some (.struct _) | some (.array _ _) => .agg cs
  | _ => cs.headD .nil

theorem arg_rep {H : Type} {enc : TypeId × Value → H} {S : List TypeId} {r : Reach} {base : Nat} (hS : closedT P S = true) (hok : ∀ b, b < w.heap.size → ok b) {t : TypeId} {v : Value} {d : DataW H} {ps : List MemPlace} (L : Loc) (ht : t ∈ S)
    (hv : Value.okWide P w r base t v) (h : DataW.Trod enc P w 0 (fun _ => true) true t v d ps) (hw : ∀ n ∈ d.weights P t, n ≤ reachBytes) : ∃ n cs, TyV P n t cs ∧ Rep ok L w (argOf P t cs) v := by
  obtain ⟨fuel, h⟩ := h
  obtain ⟨cs, h1, h2⟩ := trod_rep hS hok fuel t _ d ps ht h hw
  refine ⟨fuel, cs, h1, ?_⟩
  have hc := List.all_eq_true.1 hS t ht
  cases fuel with
  | zero => exact h1.elim
  | succ n =>
    simp only [argOf]
    simp only [TyV] at h1
    have one : ∀ a : AVal, cs = [a] → v.oneCell' = true → Rep ok L w (cs.headD .nil) v := by
      rintro a rfl ho
      have hv : v.cells.toList = [v] := by cases v <;> simp_all [Value.cells, Value.oneCell']
      rw [hv] at h2
      exact (h2.1.1.repL (L := L)).rep (RepL.leaf (h2.1.1.repL (L := L)))
    cases hu : P.underlying t with
    | none => rw [hu] at hc; cases hc
    | some td =>
      rw [hu] at hc h1
      cases td with
      | bool => obtain ⟨b, e⟩ := h1; obtain ⟨b', rfl⟩ := Go.WideShapes.okWide_bool hu hv; exact one _ e rfl
      | int k => obtain ⟨x, _, e⟩ := h1; obtain ⟨b', rfl⟩ := Go.WideShapes.okWide_int hu hv; exact one _ e rfl
      | string => obtain ⟨x, _, e⟩ := h1; obtain ⟨b', rfl⟩ := Go.WideShapes.okWide_string hu hv; exact one _ e rfl
      | slice e => obtain ⟨x, _, _, e⟩ := h1; obtain ⟨_, _, _, rfl⟩ := Go.WideShapes.okWide_slice hu hv; exact one _ e rfl
      | struct fs =>
        obtain ⟨vs, rfl, _⟩ := Go.WideShapes.okWide_struct hu hv
        exact ⟨vs.toList, by simp, All2.mono (fun a b h => h.1.repL) _ _ h2⟩
      | array m e =>
        have : ∃ vs, v = .agg vs := by
          simp only [Value.okWide, hu] at hv
          obtain ⟨vs, h, _⟩ := hv
          exact ⟨vs, h⟩
        obtain ⟨vs, rfl⟩ := this
        exact ⟨vs.toList, by simp, All2.mono (fun a b h => h.1.repL) _ _ h2⟩
      | _ => simp at hc

/-- A contract, met at the world's door. -/
theorem ac_door {f : FuncId} {avs : List AVal} {vs : List Value} {R : AEnd → Store → Prop} (hg : GlobOK (fun b => b < w.heap.size) w) (h : AC P f avs [] R)
    (hv : ∀ L : Loc, All2 (Rep (fun b => b < w.heap.size) L w) avs vs) {a : Value} (hR : ∀ r σ', R r σ' → r = .ret (.v a)) :
    Calls P f vs.toArray w fun e w' => e = .returned a ∧ Below w.heap.size w w' := by
  let L : Loc := ⟨fun _ => 0, fun _ => 0, fun _ => 0, fun _ => 0⟩
  refine (h (fun b => b < w.heap.size) L w vs ⟨?_, ?_, ?_, ?_, hg⟩ (hv L)).mono ?_
  · intro id ver o h; cases h
  · rintro b ⟨id, ver, o, h, _⟩; cases h
  · intro i j vi vj oi oj h; cases h
  · intro b hb; exact ⟨hb, by rintro ⟨id, ver, o, h, _⟩; cases h⟩
  · rintro e w' ⟨r, σ', ok', L', hr, he, hs, hx⟩
    obtain rfl := hR r σ' hr
    cases e with
    | returned v =>
      refine ⟨?_, he.os, he.tape, he.output, he.size, fun k hk => he.same k hk (by rintro ⟨id, ver, o, h, _⟩; cases h)⟩
      have hx' : Rep ok' L' w' (.v a) v := hx
      cases hx' with
      | v => rfl
    | _ => exact hx.elim
end
end Go.Proofs.YtnnklpmgncbgnaaGreat
