/- The reference's many runs, lane by lane: the low bits of the words. -/
import Derived.Test.YtnnklpmgncbgnaaGreatCLane
import Derived.Test.YtnnklpmgncbgnaaGreatCClosed
import Derived.Test.YtnnklpmgncbgnaaGreatEngNest
set_option linter.unusedVariables false
set_option linter.unusedSimpArgs false
namespace Go.Proofs.YtnnklpmgncbgnaaGreat
open Go

theorem Net.known_eq {n : Net} (hn : n.Small) : n.known4 = n.known := by
  cases h : n.known with
  | true => exact Net.known4_eq hn h
  | false =>
    cases h2 : n.known4 with
    | false => rfl
    | true => rw [Net.known4_known h2] at h; cases h
def lowRow (w : List Nat) (k : Nat) : List Nat := w.map fun x => x % 2 ^ k
theorem lowRow_length (w : List Nat) (k : Nat) : (lowRow w k).length = w.length := by simp [lowRow]
theorem lowRow_get (w : List Nat) (k j : Nat) (h : j < w.length) : (lowRow w k).getD j default = w.getD j default % 2 ^ k := getD_map (fun x => x % 2 ^ k) w j h
theorem lowRow_zero (w : List Nat) : lowRow w 0 = List.replicate w.length 0 := by
  refine List.ext_getElem (by simp [lowRow]) fun i h1 h2 => ?_
  simp only [lowRow, List.getElem_map, List.getElem_replicate]
  omega
theorem lowRow_full {w : List Nat} (h : W64 w) : lowRow w 64 = w := by
  have e : lowRow w 64 = w.map id := List.map_congr_left fun x hx => Nat.mod_eq_of_lt (h x hx)
  rw [e, List.map_id]
theorem lowRow_mix (w : List Nat) (k : Nat) : mixTo (lowRow w (k + 1)) (lowRow w k) w.length = lowRow w (k + 1) := by
  have := mixTo_all (a := lowRow w (k + 1)) (b := lowRow w k) (by rw [lowRow_length, lowRow_length])
  rwa [lowRow_length] at this
theorem lowRow_at (w : List Nat) (k j : Nat) (h : j < w.length) : (mixTo (lowRow w (k + 1)) (lowRow w k) j).getD (0 + (j : Int).toNat) default = w.getD j default % 2 ^ k := by
  rw [mix_get (by rw [lowRow_length, lowRow_length]) j (by rw [lowRow_length]; exact h), lowRow_get _ _ _ h]
theorem lowRow_one (w : List Nat) (k j : Nat) (h : j < w.length) (hb : laneB k (w.getD j default) = 1) : mixTo (lowRow w (k + 1)) (lowRow w k) (j + 1) = (mixTo (lowRow w (k + 1)) (lowRow w k) j).set (0 + (j : Int).toNat) ((mixTo (lowRow w (k + 1)) (lowRow w k) j).getD (0 + (j : Int).toNat) default ||| (1 <<< k)) := by
  rw [mixTo_step (by rw [lowRow_length, lowRow_length]) j (by rw [lowRow_length]; exact h), lowRow_at w k j h, lowRow_get _ _ _ h]
  congr 1
  have hp := lane_prog (x := w.getD j default) (k := k)
  rw [hb, Nat.shiftRight_eq_div_pow] at hp
  exact low_one (by omega)
theorem lowRow_none (w : List Nat) (k j : Nat) (h : j < w.length) (hb : laneB k (w.getD j default) ≠ 1) : mixTo (lowRow w (k + 1)) (lowRow w k) (j + 1) = mixTo (lowRow w (k + 1)) (lowRow w k) j := by
  rw [mixTo_step (by rw [lowRow_length, lowRow_length]) j (by rw [lowRow_length]; exact h), lowRow_get _ _ _ h]
  have hp := lane_prog (x := w.getD j default) (k := k)
  have h0 : laneB k (w.getD j default) = 0 := by rcases laneB_01 k (w.getD j default) with e | e; exact e; exact absurd e hb
  rw [h0, Nat.shiftRight_eq_div_pow] at hp
  rw [low_zero (x := w.getD j default) (k := k) (by omega), ← lowRow_at w k j h]
  have hj : 0 + (j : Int).toNat = j := by omega
  rw [hj]
  refine List.ext_getElem (by simp) fun i h1 h2 => ?_
  rw [List.getElem_set]
  split
  · rename_i e
    subst e
    rw [List.getD_eq_getElem?_getD, List.getElem?_eq_getElem h2]; rfl
  · rfl
/-! ### The store of the reference's Many -/
def rowS (vs : Nat → Nat) (m k : Nat) : List AVal := [.slice (900 + k) (vs k) 0 m]
def inner (vs : Nat → Nat) (rows : Nat → List Nat) (k : Nat) : Nat × AObj := (vs k, .row 1 ((rows k).map encU))
def setV (vs : Nat → Nat) (i v k : Nat) : Nat := if k = i then v else vs k
def MSB (n : Net) (ver2 v8 : Nat) (row : List (List AVal)) : Store := [(2, ver2, .row 4 [[.list 1 (n.ins.map encS), .list 3 (n.regs.map encR), .list 2 (n.gates.map encG), .list 2 (n.outs.map encP)]]), (8, v8, .row 1 row)]
theorem msb_none {n : Net} {ver2 v8 : Nat} {row : List (List AVal)} {i : Nat} : (MSB n ver2 v8 row).get (900 + i) = none := by
  simp only [MSB, Store.get]
  rw [nat_beq_false.2 (by omega), nat_beq_false.2 (by omega)]
def MST (n : Net) (ver2 v8 mo mi : Nat) (vs : Nat → Nat) (rows : Nat → List Nat) : Store := MSB n ver2 v8 ((List.range mo).map (rowS vs n.outs.length)) ++ nest 900 mi (inner vs rows)
theorem mst_get {n : Net} {ver2 v8 mo mi : Nat} {vs : Nat → Nat} {rows : Nat → List Nat} {j : Nat} (h : j < mi) : (MST n ver2 v8 mo mi vs rows).get (900 + j) = some (vs j, .row 1 ((rows j).map encU)) := by
  rw [MST, Store.get_right msb_none, nest_at h]; rfl
theorem mst_new {n : Net} {ver2 v8 i v : Nat} {vs : Nat → Nat} {rows : Nat → List Nat} {x : List Nat} (hx : rows i = x) : (MST n ver2 v8 i i vs rows).put (900 + i) v (.row 1 (x.map encU)) = MST n ver2 v8 i (i + 1) (setV vs i v) rows := by
  rw [MST, Store.put_right msb_none, nest_new, MST]
  have e1 : (List.range i).map (rowS vs n.outs.length) = (List.range i).map (rowS (setV vs i v) n.outs.length) := by
    refine List.map_congr_left fun k hk => ?_
    have := List.mem_range.1 hk
    simp only [rowS, setV]
    rw [if_neg (by omega)]
  rw [e1]
  congr 1
  refine nest_congr fun k hk => ?_
  by_cases e : k = i
  · subst e; simp only [inner, setV, if_true, hx]
  · simp only [inner, setV, if_neg e]
theorem keep_app (σ τ : Store) (q : Nat → Bool) : (σ ++ τ : Store).keep q = σ.keep q ++ τ.keep q := by
  induction σ with
  | nil => rfl
  | cons p r ih =>
    obtain ⟨i, x⟩ := p
    show Store.keep q ((i, x) :: (r ++ τ)) = _
    simp only [Store.keep]
    cases q i with
    | true => show (i, x) :: Store.keep q (r ++ τ) = _; rw [ih]; rfl
    | false => exact ih
theorem keep_nest {b m : Nat} {o : Nat → Nat × AObj} {q : Nat → Bool} (h : ∀ k, k < m → q (b + k) = true) : (nest b m o).keep q = nest b m o := by
  induction m with
  | zero => rfl
  | succ m ih =>
    rw [nest_succ, keep_app, ih (fun k hk => h k (by omega))]
    simp only [Store.keep, h m (by omega)]
theorem mst_app {n : Net} {ver2 v8 w8 v i : Nat} {vs : Nat → Nat} {rows : Nat → List Nat} {ob : AObj} : (((MST n ver2 v8 i (i + 1) vs rows).put 49 v ob).put 8 w8 (.row 1 ((List.range i ++ [i]).map (rowS vs n.outs.length)))).keep (fun k => !(Nat.beq k 49)) = MST n ver2 w8 (i + 1) (i + 1) vs rows := by
  rw [MST, Store.put_right rfl]
  have e1 : (nest 900 (i + 1) (inner vs rows)).put 49 v ob = nest 900 (i + 1) (inner vs rows) ++ [(49, v, ob)] := by
    have := Store.put_right (σ := nest 900 (i + 1) (inner vs rows)) (τ := []) (id := 49) (v := v) (o := ob) (nest_out (by omega))
    rw [List.append_nil] at this
    exact this
  rw [e1, Store.put_left (x := (v8, .row 1 ((List.range i).map (rowS vs n.outs.length)))) rfl, keep_app, keep_app, keep_nest (fun k _ => by rw [nat_beq_false.2 (by omega)]; rfl), MST, List.range_succ]
  have e2 : Store.keep (fun k => !(Nat.beq k 49)) [(49, v, ob)] = [] := rfl
  rw [e2, List.append_nil]
  rfl
theorem mst_keep {n : Net} {ver2 v8 mo mi : Nat} {vs : Nat → Nat} {rows : Nat → List Nat} {q : Nat → Bool} (h2 : q 2 = true) (h8 : q 8 = true) (h : ∀ k, k < mi → q (900 + k) = true) : (MST n ver2 v8 mo mi vs rows).keep q = MST n ver2 v8 mo mi vs rows := by
  rw [MST, keep_app, keep_nest h]
  simp only [MSB, Store.keep, h2, h8]
theorem mst_keep48 {n : Net} {ver2 v8 mo mi : Nat} {vs : Nat → Nat} {rows : Nat → List Nat} : (MST n ver2 v8 mo mi vs rows).keep (fun k => ![48].contains k) = MST n ver2 v8 mo mi vs rows :=
  mst_keep rfl rfl (fun k _ => by
    have : [48].contains (900 + k) = false := by simp; omega
    rw [this]; rfl)
theorem mst_rows {n : Net} {ver2 v8 mo mi : Nat} {vs : Nat → Nat} {rows rows' : Nat → List Nat} (h : ∀ k, k < mi → rows k = rows' k) : MST n ver2 v8 mo mi vs rows = MST n ver2 v8 mo mi vs rows' := by
  rw [MST, MST, nest_congr (o := inner vs rows) (p := inner vs rows') (fun k hk => by simp only [inner, h k hk])]
theorem mst_put {n : Net} {ver2 v8 mo mi i : Nat} {vs : Nat → Nat} {rows rows' : Nat → List Nat} {x : List Nat} (hi : i < mi) (h1 : rows' i = x) (h : ∀ k, k < mi → k ≠ i → rows k = rows' k) : (MST n ver2 v8 mo mi vs rows).put (900 + i) (vs i) (.row 1 (x.map encU)) = MST n ver2 v8 mo mi vs rows' := by
  rw [MST, Store.put_right msb_none, nest_put hi, MST]
  congr 1
  refine nest_congr fun k hk => ?_
  by_cases e : k = i
  · subst e; simp only [inner, if_true, h1]
  · simp only [inner, if_neg e, h k hk e]
/-- A row of the answer. -/
def Net.wrow (n : Net) (ins : List (List Nat)) (q : Nat) : List Nat := (n.wouts ins ins.length).getD q default
theorem Net.wrow_length (n : Net) (ins : List (List Nat)) {q : Nat} (h : q < ins.length) : (n.wrow ins q).length = n.outs.length := by
  rw [Net.wrow, Net.wouts, range_get _ _ _ h, List.length_map]
theorem Net.wrow_64 {n : Net} (hn : n.Small) {ins : List (List Nat)} (hi : InsU ins) {q : Nat} (h : q < ins.length) : W64 (n.wrow ins q) :=
  (Net.wouts_insu hn hi _ (getD_mem (by rw [n.wouts_length]; exact h))).2
/-- Rows while lane k is done up to the clock i, and in it up to j. -/
def Net.rowsI (n : Net) (ins : List (List Nat)) (k i : Nat) (q : Nat) : List Nat := if q < i then lowRow (n.wrow ins q) (k + 1) else lowRow (n.wrow ins q) k
def Net.rowsJ (n : Net) (ins : List (List Nat)) (k i j : Nat) (q : Nat) : List Nat := if q = i then mixTo (lowRow (n.wrow ins i) (k + 1)) (lowRow (n.wrow ins i) k) j else n.rowsI ins k i q
theorem Net.rowsI_zero (n : Net) (ins : List (List Nat)) (k q : Nat) : n.rowsI ins k 0 q = lowRow (n.wrow ins q) k := by rw [Net.rowsI, if_neg (by omega)]
theorem Net.rowsI_all (n : Net) (ins : List (List Nat)) (k m : Nat) {q : Nat} (h : q < m) : n.rowsI ins k m q = lowRow (n.wrow ins q) (k + 1) := by rw [Net.rowsI, if_pos h]
theorem Net.rowsJ_zero (n : Net) (ins : List (List Nat)) (k i q : Nat) : n.rowsJ ins k i 0 q = n.rowsI ins k i q := by
  rw [Net.rowsJ]
  split
  · rename_i e; subst e; rw [mixTo_zero, Net.rowsI, if_neg (by omega)]
  · rfl
theorem Net.rowsJ_all (n : Net) (ins : List (List Nat)) (k i q : Nat) : n.rowsJ ins k i (n.wrow ins i).length q = n.rowsI ins k (i + 1) q := by
  rw [Net.rowsJ]
  split
  · rename_i e; subst e; rw [lowRow_mix, Net.rowsI, if_pos (by omega)]
  · rename_i e
    rw [Net.rowsI, Net.rowsI]
    by_cases h : q < i
    · rw [if_pos h, if_pos (by omega)]
    · rw [if_neg h, if_neg (by omega)]
theorem Net.rowsJ_none {n : Net} {ins : List (List Nat)} {k i j : Nat} (h : j < (n.wrow ins i).length) (hb : laneB k ((n.wrow ins i).getD j default) ≠ 1) (q : Nat) : n.rowsJ ins k i j q = n.rowsJ ins k i (j + 1) q := by
  rw [Net.rowsJ, Net.rowsJ, lowRow_none _ _ _ h hb]
theorem Net.many_bad {n : Net} {ins : List (List Nat)} (h : n.manyOK ins = false) : n.many ins = ([], 2) := by rw [Net.many, if_neg (by rw [h]; decide)]
theorem manyOK_f1 {n : Net} {ins : List (List Nat)} (hn : n.Small) (h : ((!n.valid || !n.known4) || decide ((ins.length : Int) > 1000)) = true) : n.manyOK ins = false := by
  have h2 := manyOK_or (n := n) (ins := ins)
  rw [Net.known_eq hn] at h
  rw [h, Bool.true_or] at h2
  cases e : n.manyOK ins with
  | false => rfl
  | true => rw [e] at h2; cases h2
theorem manyOK_f2 {n : Net} {ins : List (List Nat)} {i : Nat} (hi : i < ins.length) (h : ((ins.getD i default).length : Int) ≠ n.ins.length) : n.manyOK ins = false := by
  cases e : n.manyOK ins with
  | false => rfl
  | true =>
    have := (Net.manyOK_facts e).2.2.2 i hi
    omega
theorem Net.rowsJ_one {n : Net} {ins : List (List Nat)} {k i j : Nat} (h : j < (n.wrow ins i).length) (hb : laneB k ((n.wrow ins i).getD j default) = 1) : n.rowsJ ins k i (j + 1) i = (n.rowsJ ins k i j i).set (0 + (j : Int).toNat) ((n.rowsJ ins k i j i).getD (0 + (j : Int).toNat) default ||| (1 <<< k)) := by
  rw [Net.rowsJ, if_pos rfl, Net.rowsJ, if_pos rfl]
  exact lowRow_one _ _ _ h hb
theorem Net.rowsJ_other {n : Net} {ins : List (List Nat)} {k i j q : Nat} (h : q ≠ i) : n.rowsJ ins k i j q = n.rowsJ ins k i (j + 1) q := by
  rw [Net.rowsJ, Net.rowsJ, if_neg h, if_neg h]
theorem fstore_final {n : Net} {ver2 v8 : Nat} {vs : Nat → Nat} {ins : List (List Nat)} : FStore (MST n ver2 v8 ins.length ins.length vs (n.wrow ins)) (fun i => decide (i < 900)) (MSB n ver2 v8 ((n.wouts ins ins.length).map encLU)) := by
  intro id ver o2 h
  simp only [MSB, Store.get] at h
  by_cases e2 : 2 = id
  · subst e2
    simp only [Nat.beq] at h
    cases h
    exact ⟨_, rfl, rfl, FrzO.same _ _ _⟩
  · rw [nat_beq_false.2 e2] at h
    by_cases e8 : 8 = id
    · subst e8
      simp only [Nat.beq] at h
      cases h
      refine ⟨_, rfl, rfl, rfl, by rw [List.length_map, List.length_map, List.length_range, n.wouts_length], fun i el el2 h1 h2 => ?_⟩
      rw [List.getElem?_map] at h1 h2
      have hi : i < ins.length := by
        cases hr : (List.range ins.length)[i]? with
        | none => rw [hr] at h1; cases h1
        | some x => have := (List.getElem?_eq_some_iff.1 hr).1; simpa using this
      rw [List.getElem?_range hi] at h1
      have hw : (n.wouts ins ins.length)[i]? = some (n.wrow ins i) := by
        rw [Net.wrow, List.getD_eq_getElem?_getD, List.getElem?_eq_getElem (by rw [n.wouts_length]; exact hi)]; rfl
      rw [hw] at h2
      cases h1; cases h2
      refine ⟨rfl, fun j a b h3 h4 => ?_⟩
      cases j with
      | succ j => cases h3
      | zero =>
        cases h3; cases h4
        exact frz_whole (by simp) (mst_get hi) (by rw [List.length_map, n.wrow_length ins hi]) (clo_map (fun _ => rfl))
    · rw [nat_beq_false.2 e8] at h
      cases h
theorem Net.many_row {n : Net} (hn : n.Small) {ins : List (List Nat)} (hi : InsU ins) {i : Nat} (h : i < (n.many ins).1.length) : ((n.many ins).1.getD i default).length ≤ 140737488355328 := by
  have hm := getD_mem h
  unfold Net.many at hm ⊢
  split
  · rename_i e
    rw [if_pos e] at hm
    exact (Net.wouts_insu hn hi _ hm).1
  · rename_i e
    rw [if_neg e] at hm
    cases hm
theorem Net.many_len (n : Net) (ins : List (List Nat)) : (n.many ins).1.length ≤ ins.length := by
  unfold Net.many
  split
  · show (n.wouts ins ins.length).length ≤ _
    rw [n.wouts_length]; exact Nat.le_refl _
  · exact Nat.zero_le _
theorem many_bound {m : Nat} {a c : Bool} (h : ((a || (decide ((m : Int) > 8) && decide ((m : Int) ≤ 1000))) || c) = false) : m ≤ 8 ∨ 1000 < m := by
  rw [Bool.or_eq_false_iff, Bool.or_eq_false_iff, Bool.and_eq_false_iff, decide_eq_false_iff_not, decide_eq_false_iff_not] at h
  omega
end Go.Proofs.YtnnklpmgncbgnaaGreat
