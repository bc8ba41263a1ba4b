/- Share and Clean keep what a net means, in plain Lean; what Share returns is shared. -/
import Derived.Test.YtbpamlphacpkeaaGClean
import Derived.Test.YtbpamlphacpkeaaGMono
set_option linter.unusedVariables false
set_option linter.unusedSimpArgs false
namespace Go.Proofs.Ytbpamlphacpkeaa
open Go

theorem keep_small1 {n : Net} (hn : n.Small) : n.share.1.Small := by
  unfold Net.share
  split
  · rename_i hv
    obtain ⟨f1, f2, f3, f4, f5, f6, f7⟩ := Net.valid_facts hv
    have hz := Net.share_inv0 hn hv n.gates.length (Nat.le_refl _)
    exact laid_small hn hv hz.bits.good.small (by have := hz.len; omega) hz.range
  · exact none_small
theorem keep_small2 {n : Net} (hn : n.Small) : n.clean.1.Small := by
  unfold Net.clean
  split
  · rename_i hv
    have hc := Net.clean_inv hv n.gates.length (Nat.le_refl _)
    obtain ⟨c1, c2, c3⟩ := hc.ok hn hv (Nat.le_refl _)
    exact laid_small hn hv c2 (by rw [hc.len]; rfl) c3
  · exact none_small

/-! ### Bits -/
theorem bitI_or {x : Int} (h : x = 0 ∨ x = 1) : ∃ u, x = bitI u := by
  rcases h with e | e
  · exact ⟨false, e⟩
  · exact ⟨true, e⟩
theorem now_bits {V v made : List Int} {l : Int} (h0 : 0 ≤ l) (hm : 0 ≤ made.getD (l / 2).toNat default) (hb : v.getD (l / 2).toNat default = 0 ∨ v.getD (l / 2).toNat default = 1) (h : ofB V (made.getD (l / 2).toNat default) = v.getD (l / 2).toNat default) : ofB V (nowV made l) = ofB v l := by
  obtain ⟨u, hu⟩ := bitI_or hb
  unfold nowV
  rw [Nat.zero_add]
  have e : ofB v l = if l % 2 = 1 then notB (v.getD (l / 2).toNat default) else v.getD (l / 2).toNat default := rfl
  rw [e]
  split
  · rw [ofB_flip hm (ofB_node (h.trans hu)), h]
  · exact h
theorem laid_vals (n : Net) (s : MS) (made ins regs : List Int) : (laidN n s made).valsTo ins regs (laidN n s made).gates.length = s.vals ins regs :=
  valsTo_congr (n := laidN n s made) (m := s.made []) _ (fun _ _ => rfl)
/-- A net laid by literals that mean the same means the same. -/
theorem laid_eval {n : Net} (hv : n.valid = true) {s : MS} {made ins regs : List Int} (hok : (laidN n s made).valid = true) (l1 : ins.length = n.ins.length) (l2 : regs.length = n.regs.length) (b1 : ∀ x ∈ ins, x = 0 ∨ x = 1) (b2 : ∀ x ∈ regs, x = 0 ∨ x = 1)
    (h : ∀ l ∈ n.roots, 0 ≤ made.getD (l / 2).toNat default ∧ ofB (s.vals ins regs) (made.getD (l / 2).toNat default) = (n.valsTo ins regs n.gates.length).getD (l / 2).toNat default) : (laidN n s made).eval ins regs = n.eval ins regs ∧ (n.eval ins regs).2.2 = 0 := by
  obtain ⟨f1, f2, f3, f4, f5, f6, f7⟩ := Net.valid_facts hv
  have g1 : ∀ x ∈ ins, isBit x := fun x hx => by have := b1 x hx; unfold isBit; omega
  have g2 : ∀ x ∈ regs, isBit x := fun x hx => by have := b2 x hx; unfold isBit; omega
  have hb := Net.bad_ok hv l1 l2 g1 g2
  have hb2 := Net.bad_ok hok (show ins.length = (laidN n s made).ins.length from l1) (show regs.length = (n.regs.map (sharedR made)).length by rw [List.length_map]; exact l2) g1 g2
  have h01 := n.vals_01 b1 b2 hv l1 l2 n.gates.length (Nat.le_refl _)
  have hl := n.valsTo_length ins regs n.gates.length
  have hr := Net.roots_ok hv
  have key : ∀ l ∈ n.roots, ofB (s.vals ins regs) (nowV made l) = ofB (n.valsTo ins regs n.gates.length) l := by
    intro l hl2
    have hrl := hr l hl2
    obtain ⟨k1, k2⟩ := h l hl2
    exact now_bits hrl.1 k1 (h01 _ (getD_mem (by omega))) k2
  rw [Net.eval_ok hb2, Net.eval_ok hb, laid_vals, List.take_length, List.take_length, List.take_length, List.take_length]
  refine ⟨?_, rfl⟩
  have e1 : (laidN n s made).outs.map (fun p => ofB (s.vals ins regs) p.2) = n.outs.map (fun p => ofB (n.valsTo ins regs n.gates.length) p.2) := by
    show (n.outs.map (sharedP made)).map _ = _
    rw [List.map_map]
    exact List.map_congr_left fun p hp => key p.2 (List.mem_append.2 (.inr (List.mem_map.2 ⟨p, hp, rfl⟩)))
  have e2 : (laidN n s made).regs.map (fun r => ofB (s.vals ins regs) r.2.2) = n.regs.map (fun r => ofB (n.valsTo ins regs n.gates.length) r.2.2) := by
    show (n.regs.map (sharedR made)).map _ = _
    rw [List.map_map]
    exact List.map_congr_left fun r hr => key r.2.2 (List.mem_append.2 (.inl (List.mem_map.2 ⟨r, hr, rfl⟩)))
  rw [e1, e2]
theorem share_eval {n : Net} (hn : n.Small) (hv : n.valid = true) {ins regs : List Int} (l1 : ins.length = n.ins.length) (l2 : regs.length = n.regs.length) (b1 : ∀ x ∈ ins, x = 0 ∨ x = 1) (b2 : ∀ x ∈ regs, x = 0 ∨ x = 1) : n.share.1.eval ins regs = n.eval ins regs ∧ (n.eval ins regs).2.2 = 0 := by
  have hs := Net.share_inv hn hv b1 b2 l1 l2 n.gates.length (Nat.le_refl _)
  have h01 := n.vals_01 b1 b2 hv l1 l2 n.gates.length (Nat.le_refl _)
  have hl := n.valsTo_length ins regs n.gates.length
  have hlen := hs.len
  rw [Net.share, if_pos hv]
  refine laid_eval hv (hs.laid hv) l1 l2 b1 b2 fun l hl2 => ?_
  have hr := Net.roots_ok hv l hl2
  have hm := hs.means (l / 2).toNat (by omega)
  refine ⟨hm.lo, hm.bit.trans ?_⟩
  exact (bit_of (h01 _ (getD_mem (by omega)))).symm
/-! ### Clean -/
theorem setEv_get (n : Net) : ∀ i, i ≤ n.fst → ∀ k, k < i → (n.setEv i).getD k default = 2 * (k : Int)
  | i + 1, hi, k, hk => by
    have hl := n.setEv_length i
    rw [Net.setEv, getD_setI]
    split
    · rename_i h; omega
    · rename_i h
      exact setEv_get n i (by omega) k (by omega)
theorem clean_vals {n : Net} (hv : n.valid = true) {ins regs : List Int} (l1 : ins.length = n.ins.length) (l2 : regs.length = n.regs.length) (b1 : ∀ x ∈ ins, x = 0 ∨ x = 1) (b2 : ∀ x ∈ regs, x = 0 ∨ x = 1) : ∀ i, i ≤ n.gates.length → ∀ k, k < n.fst + i → n.kept.getD k default = true → ofB ((n.cleanTo i).1.vals ins regs) ((n.cleanTo i).2.getD k default) = (n.valsTo ins regs i).getD k default
  | 0, _, k, hk, _ => by
    have e := setEv_get n n.fst (Nat.le_refl _) k (by omega)
    show ofB (n.begin.vals ins regs) ((n.setEv n.fst).getD k default) = _
    rw [e]
    have hvv : n.begin.vals ins regs = n.valsTo ins regs 0 := rfl
    unfold ofB
    rw [if_neg (by omega), hvv, show (2 * (k : Int) / 2).toNat = k by omega]
  | i + 1, hi, k, hk, hm => by
    have ih := clean_vals hv l1 l2 b1 b2 i (by omega)
    have hc := Net.clean_inv hv i (by omega)
    have hl := n.valsTo_length ins regs i
    have hF : n.fst = 1 + n.ins.length + n.regs.length := rfl
    have h01 := n.vals_01 b1 b2 hv l1 l2 i (by omega)
    have hbr := n.begin_regs
    have hfl := MS.first_lits (n.cleanTo i).1
    have hfirst : (n.cleanTo i).1.first = 1 + (n.cleanTo i).1.ins.length + (n.cleanTo i).1.regs.length := rfl
    have hi1 : (n.cleanTo i).1.ins.length = n.ins.length := by rw [hc.same.1]
    have hi2 : (n.cleanTo i).1.regs.length = n.regs.length := by rw [hc.same.2, hbr]
    have hVl := (n.cleanTo i).1.vals_length ins regs
    obtain ⟨_, _, _, _, f5, _, _⟩ := Net.valid_facts hv
    have hg := f5 i (by omega)
    have hlen := hc.len
    have low : k < n.fst + i → (n.valsTo ins regs (i + 1)).getD k default = (n.valsTo ins regs i).getD k default := fun h => by
      rw [Net.valsTo]; exact getD_snoc_l (by omega)
    by_cases hkp : n.kept.getD (n.fst + i) default = true
    · obtain ⟨u1, u2⟩ := Net.used_closed hv n.roots i (by omega) hkp
      have g1 := ih ((n.gates.getD i default).1 / 2).toNat (by omega) u1
      have g2 := ih ((n.gates.getD i default).2 / 2).toNat (by omega) u2
      have r1 := hc.range ((n.gates.getD i default).1 / 2).toNat (by omega)
      have r2 := hc.range ((n.gates.getD i default).2 / 2).toNat (by omega)
      rw [Net.cleanTo_yes hkp]
      generalize hL : (n.cleanTo i).2.set (0 + (n.fst + i)) (n.cleanTo i).1.lits = L
      have hLk : ∀ j, j ≠ n.fst + i → L.getD j default = (n.cleanTo i).2.getD j default := fun j hj => by
        rw [← hL, getD_setI, if_neg (fun hh => by omega)]
      have hLi : L.getD (n.fst + i) default = (n.cleanTo i).1.lits := by
        rw [← hL, getD_setI, if_pos ⟨by omega, by omega⟩]
      have n1 : ofB ((n.cleanTo i).1.vals ins regs) (nowV L (n.gates.getD i default).1) = ofB (n.valsTo ins regs i) (n.gates.getD i default).1 :=
        now_bits hg.1 (by rw [hLk _ (by omega)]; exact r1.1) (h01 _ (getD_mem (by omega))) (by rw [hLk _ (by omega)]; exact g1)
      have n2 : ofB ((n.cleanTo i).1.vals ins regs) (nowV L (n.gates.getD i default).2) = ofB (n.valsTo ins regs i) (n.gates.getD i default).2 :=
        now_bits hg.2.1 (by rw [hLk _ (by omega)]; exact r2.1) (h01 _ (getD_mem (by omega))) (by rw [hLk _ (by omega)]; exact g2)
      have hva : ((n.cleanTo i).1.push (nowV L (n.gates.getD i default).1, nowV L (n.gates.getD i default).2)).vals ins regs = (n.cleanTo i).1.vals ins regs ++ [bothB (ofB ((n.cleanTo i).1.vals ins regs) (nowV L (n.gates.getD i default).1)) (ofB ((n.cleanTo i).1.vals ins regs) (nowV L (n.gates.getD i default).2))] :=
        MS.vals_add (n.cleanTo i).1 (nowV L (n.gates.getD i default).1, nowV L (n.gates.getD i default).2) ins regs
      show ofB (((n.cleanTo i).1.push (nowV L (n.gates.getD i default).1, nowV L (n.gates.getD i default).2)).vals ins regs) (L.getD k default) = _
      rw [hva, n1, n2]
      by_cases e : k = n.fst + i
      · subst e
        rw [hLi, Net.valsTo]
        unfold ofB
        rw [if_neg (by omega), show ((n.cleanTo i).1.lits / 2).toNat = ((n.cleanTo i).1.vals ins regs).length by omega, getD_snoc_r, show n.fst + i = (n.valsTo ins regs i).length by omega, getD_snoc_r]
      · have hr := hc.range k (by omega)
        rw [hLk k e, ofB_snoc (by omega), low (by omega)]
        exact ih k (by omega) hm
    · have hkp : n.kept.getD (n.fst + i) default = false := by simpa using hkp
      have hk2 : k < n.fst + i := by
        rcases Nat.lt_or_ge k (n.fst + i) with h | h
        · exact h
        · have : k = n.fst + i := by omega
          subst this; rw [hkp] at hm; cases hm
      rw [Net.cleanTo_no hkp, low hk2]
      exact ih k hk2 hm
theorem clean_eval {n : Net} (hn : n.Small) (hv : n.valid = true) {ins regs : List Int} (l1 : ins.length = n.ins.length) (l2 : regs.length = n.regs.length) (b1 : ∀ x ∈ ins, x = 0 ∨ x = 1) (b2 : ∀ x ∈ regs, x = 0 ∨ x = 1) : n.clean.1.eval ins regs = n.eval ins regs := by
  have hc := Net.clean_inv hv n.gates.length (Nat.le_refl _)
  have hlen := hc.len
  have hF : n.fst = 1 + n.ins.length + n.regs.length := rfl
  rw [Net.clean, if_pos hv]
  refine (laid_eval hv (hc.laid hv) l1 l2 b1 b2 fun l hl2 => ?_).1
  have hr := Net.roots_ok hv l hl2
  refine ⟨(hc.range _ (by omega)).1, clean_vals hv l1 l2 b1 b2 n.gates.length (Nat.le_refl _) _ (by omega) ?_⟩
  exact Net.used_mem hl2 hr.1 hr.2
/-! ### What Share returns is shared -/
structure MS.Nice (s : MS) : Prop where
  form : ∀ k, k < s.gates.length → 2 ≤ (s.gates.getD k default).1 ∧ (s.gates.getD k default).1 < (s.gates.getD k default).2 ∧ (s.gates.getD k default).1 / 2 ≠ (s.gates.getD k default).2 / 2
  diff : ∀ j k, j < k → k < s.gates.length → s.gates.getD j default ≠ s.gates.getD k default
theorem there_none {s : MS} (hs : s.Good) {p : Int × Int} : thFind p s.th = none ↔ ∀ k, k < s.gates.length → s.gates.getD k default ≠ p := by
  rw [hs.there p, Option.map_eq_none_iff, firstTo_none, allTo_iff]
  constructor
  · intro h k hk e
    have := h k hk
    rw [MS.at, e] at this
    simp [gateB] at this
  · intro h k hk
    have := h k hk
    cases e : s.at p k with
    | false => rfl
    | true =>
      exfalso; apply this
      unfold MS.at gateB at e
      simp only [Bool.and_true, Bool.and_eq_true, beq_iff_eq] at e
      exact Prod.ext e.1 e.2
theorem MS.and_nice {s : MS} (hs : s.Good) (hn : s.Nice) (a b : Int) : (s.and a b).2.Nice := by
  unfold MS.and
  split
  · exact hn
  · rename_i h0
    have hb := MS.no_two (s := s) (a := a) (b := b) (by simpa using h0)
    split
    · exact hn
    · rename_i c1
      split
      · exact hn
      · rename_i c2
        cases hf : thFind (min a b, max a b) s.th with
        | some l => exact hn
        | none =>
          simp only
          split
          · exact hn
          · rw [there_none hs] at hf
            have hlen : (s.add (min a b, max a b)).gates.length = s.gates.length + 1 := by show (s.gates ++ [_]).length = _; simp
            have hlo : ∀ k, k < s.gates.length → (s.add (min a b, max a b)).gates.getD k default = s.gates.getD k default := fun k hk => getD_snoc_l hk
            have hhi : (s.add (min a b, max a b)).gates.getD s.gates.length default = (min a b, max a b) := getD_snoc_r
            rw [flip_eq] at c1
            refine ⟨fun k hk => ?_, fun j k hj hk => ?_⟩
            · have hk : k < (s.add (min a b, max a b)).gates.length := hk
              by_cases c : k < s.gates.length
              · rw [hlo k c]; exact hn.form k c
              · have : k = s.gates.length := by omega
                subst this
                rw [hhi]
                simp only
                have e1 : min a b ≤ max a b := by omega
                have e2 : 0 ≤ min a b := by omega
                generalize min a b = x at *
                generalize max a b = y at *
                split at c1 <;> omega
            · have hk : k < (s.add (min a b, max a b)).gates.length := hk
              by_cases c : k < s.gates.length
              · rw [hlo k c, hlo j (by omega)]; exact hn.diff j k hj c
              · have : k = s.gates.length := by omega
                subst this
                rw [hhi, hlo j hj]; exact hf j hj
theorem Net.share_nice {n : Net} (hn : n.Small) (hv : n.valid = true) : ∀ i, i ≤ n.gates.length → (n.shareTo i).1.Nice
  | 0, _ => ⟨fun k hk => absurd hk (by show ¬ k < 0; omega), fun j k _ hk => absurd hk (by show ¬ k < 0; omega)⟩
  | i + 1, hi => MS.and_nice (Net.share_inv0 hn hv i (by omega)).bits.good (Net.share_nice hn hv i (by omega)) _ _
theorem now_even {m : Nat} {l : Int} (h0 : 0 ≤ l) (h1 : (l / 2).toNat < m) : nowV (evens m) l = l := by
  unfold nowV
  rw [Nat.zero_add, evens_get h1, flip_eq]
  split
  · split <;> omega
  · omega
theorem share_again {a : Net} (ha : a.Small) (hv : a.valid = true) (hf : ∀ k, k < a.gates.length → 2 ≤ (a.gates.getD k default).1 ∧ (a.gates.getD k default).1 < (a.gates.getD k default).2 ∧ (a.gates.getD k default).1 / 2 ≠ (a.gates.getD k default).2 / 2)
    (hd : ∀ j k, j < k → k < a.gates.length → a.gates.getD j default ≠ a.gates.getD k default) : ∀ i, i ≤ a.gates.length → (a.shareTo i).1.gates = a.gates.take i ∧ (a.shareTo i).2 = evens (a.fst + i)
  | 0, _ => ⟨rfl, rfl⟩
  | i + 1, hi => by
    obtain ⟨e1, e2⟩ := share_again ha hv hf hd i (by omega)
    have hz := Net.share_inv0 ha hv i (by omega)
    obtain ⟨f1, f2, f3, f4, f5, _, _⟩ := Net.valid_facts hv
    have hg := f5 i (by omega)
    have hfi := hf i (by omega)
    have hF : a.fst = 1 + a.ins.length + a.regs.length := rfl
    have hbr := a.begin_regs
    generalize hs : (a.shareTo i).1 = s at *
    have hsl : s.gates.length = i := by rw [e1, List.length_take]; omega
    have hl : s.lits = 2 * ((a.fst : Int) + i) := by
      show 2 * (((1 + (s.ins.length : Int)) + (s.regs.length : Int)) + (s.gates.length : Int)) = _
      have e3 : s.ins.length = a.ins.length := by rw [hz.same.1]; rfl
      have e4 : s.regs.length = a.regs.length := by rw [hz.same.2, hbr]
      omega
    have w1 : nowV (evens (a.fst + i)) (a.gates.getD i default).1 = (a.gates.getD i default).1 := now_even hg.1 (by omega)
    have w2 : nowV (evens (a.fst + i)) (a.gates.getD i default).2 = (a.gates.getD i default).2 := now_even hg.2.1 (by omega)
    have hmin : min (a.gates.getD i default).1 (a.gates.getD i default).2 = (a.gates.getD i default).1 := by omega
    have hmax : max (a.gates.getD i default).1 (a.gates.getD i default).2 = (a.gates.getD i default).2 := by omega
    have hand : s.and (a.gates.getD i default).1 (a.gates.getD i default).2 = ((s.lits, 0), s.add (a.gates.getD i default)) := by
      have := MS.and_new (s := s) (a := (a.gates.getD i default).1) (b := (a.gates.getD i default).2) (MS.no_ok2 (by omega) (by omega))
        (by
          rw [hmin, hmax, Bool.or_eq_false_iff, beq_eq_false_iff_ne, beq_eq_false_iff_ne, flip_eq]
          split <;> omega)
        (by rw [hmin, hmax, Bool.or_eq_false_iff, beq_eq_false_iff_ne, beq_eq_false_iff_ne]; omega)
        (by
          rw [hmin, hmax]
          have : thFind (a.gates.getD i default) s.th = none := (there_none hz.bits.good).2 fun k hk => by
            have e5 : s.gates.getD k default = a.gates.getD k default := by
              rw [e1, List.getD_eq_getElem?_getD, List.getElem?_take, if_pos (by omega), ← List.getD_eq_getElem?_getD]
            rw [e5]; exact hd k i (by omega) (by omega)
          rw [show ((a.gates.getD i default).1, (a.gates.getD i default).2) = a.gates.getD i default from rfl, this]; rfl)
        (by omega)
      rw [hmin, hmax] at this
      exact this
    have e6 : a.shareTo (i + 1) = (((a.shareTo i).1.and (nowV (a.shareTo i).2 (a.gates.getD i default).1) (nowV (a.shareTo i).2 (a.gates.getD i default).2)).2, (a.shareTo i).2 ++ [((a.shareTo i).1.and (nowV (a.shareTo i).2 (a.gates.getD i default).1) (nowV (a.shareTo i).2 (a.gates.getD i default).2)).1.1]) := rfl
    rw [e6, hs, e2, w1, w2, hand]
    refine ⟨?_, ?_⟩
    · show s.gates ++ [a.gates.getD i default] = _
      rw [e1, take_succ_getD _ i (by omega)]
    · show evens (a.fst + i) ++ [s.lits] = evens (a.fst + i + 1)
      rw [evens_succ, hl]; rfl
theorem share_twice {n : Net} (hn : n.Small) (hv : n.valid = true) : n.share.1.share = (n.share.1, 0) ∧ n.share.1.valid = true ∧ n.share.1.gates.length ≤ n.gates.length ∧
    (∀ k, k < n.share.1.gates.length → 2 ≤ (n.share.1.gates.getD k default).1 ∧ (n.share.1.gates.getD k default).1 < (n.share.1.gates.getD k default).2 ∧ (n.share.1.gates.getD k default).1 / 2 ≠ (n.share.1.gates.getD k default).2 / 2) ∧ (∀ j k, j < k → k < n.share.1.gates.length → n.share.1.gates.getD j default ≠ n.share.1.gates.getD k default) := by
  have hsm := keep_small1 hn
  have hz := Net.share_inv0 hn hv n.gates.length (Nat.le_refl _)
  have hnice := Net.share_nice hn hv n.gates.length (Nat.le_refl _)
  have hva := hz.laid hv
  have hgl := hz.gates
  have e0 : n.share.1 = laidN n (n.shareTo n.gates.length).1 (n.shareTo n.gates.length).2 := by rw [Net.share, if_pos hv]
  rw [← e0] at hva
  have eg : n.share.1.gates = (n.shareTo n.gates.length).1.gates := by rw [e0]; rfl
  rw [← eg] at hgl
  have hform : ∀ k, k < n.share.1.gates.length → 2 ≤ (n.share.1.gates.getD k default).1 ∧ (n.share.1.gates.getD k default).1 < (n.share.1.gates.getD k default).2 ∧ (n.share.1.gates.getD k default).1 / 2 ≠ (n.share.1.gates.getD k default).2 / 2 := by rw [eg]; exact hnice.form
  have hdiff : ∀ j k, j < k → k < n.share.1.gates.length → n.share.1.gates.getD j default ≠ n.share.1.gates.getD k default := by rw [eg]; exact hnice.diff
  refine ⟨?_, hva, hgl, hform, hdiff⟩
  generalize n.share.1 = a at *
  obtain ⟨s1, s2⟩ := share_again hsm hva hform hdiff a.gates.length (Nat.le_refl _)
  have hz2 := Net.share_inv0 hsm hva a.gates.length (Nat.le_refl _)
  obtain ⟨f1, f2, f3, f4, f5, f6, f7⟩ := Net.valid_facts hva
  have hF : a.fst = 1 + a.ins.length + a.regs.length := rfl
  rw [Net.share, if_pos hva, s2]
  have : laidN a (a.shareTo a.gates.length).1 (evens (a.fst + a.gates.length)) = a := by
    have hr : a.regs.map (sharedR (evens (a.fst + a.gates.length))) = a.regs := by
      conv => rhs; rw [← List.map_id a.regs]
      refine List.map_congr_left fun r hr => ?_
      obtain ⟨k, hk, rfl⟩ := List.getElem_of_mem hr
      have hf := f6 k hk
      rw [List.getD_eq_getElem?_getD, List.getElem?_eq_getElem hk] at hf
      simp only [Option.getD_some] at hf
      unfold sharedR
      rw [now_even hf.2.1 (by omega)]; rfl
    have ho : a.outs.map (sharedP (evens (a.fst + a.gates.length))) = a.outs := by
      conv => rhs; rw [← List.map_id a.outs]
      refine List.map_congr_left fun p hp => ?_
      obtain ⟨k, hk, rfl⟩ := List.getElem_of_mem hp
      have hf := f7 k hk
      rw [List.getD_eq_getElem?_getD, List.getElem?_eq_getElem hk] at hf
      simp only [Option.getD_some] at hf
      unfold sharedP
      rw [now_even hf.1 (by omega)]; rfl
    unfold laidN
    rw [hr, ho, s1, List.take_length]
  rw [this]
theorem clean_facts {n : Net} (hv : n.valid = true) : n.clean.1.valid = true ∧ n.clean.1.gates.length ≤ n.gates.length := by
  have hc := Net.clean_inv hv n.gates.length (Nat.le_refl _)
  rw [Net.clean, if_pos hv]
  exact ⟨hc.laid hv, hc.gates⟩
/-- Among the gates before it, no gate is found. -/
theorem seen_not {l : List (Int × Int)} (hd : ∀ j k, j < k → k < l.length → l.getD j default ≠ l.getD k default) {i : Nat} (hi : i < l.length) : ((l.take i).map pairV).any (keyEq (pairV (l.getD i default))) = false := by
  rw [List.any_eq_false]
  intro x hx
  obtain ⟨p, hp, rfl⟩ := List.mem_map.1 hx
  obtain ⟨j, hj, rfl⟩ := List.getElem_of_mem hp
  have hj2 : j < i := by rw [List.length_take] at hj; omega
  have := hd j i hj2 hi
  rw [keyEq_pair]
  intro h
  rw [Bool.and_eq_true, beq_iff_eq, beq_iff_eq] at h
  apply this
  rw [List.getD_eq_getElem?_getD, List.getElem?_eq_getElem (by omega : j < l.length), Option.getD_some]
  rw [List.getElem_take] at h
  exact (Prod.ext h.1 h.2).symm
theorem or_no4 {a b c d : Bool} (ha : a = false) (hb : b = false) (hc : c = false) (hd : d = false) (h : (match (a || b || c) with | true => true | false => d) = true) : False := by
  subst ha hb hc hd
  simp at h
theorem bitsOf_01 (l : List Int) (m : Nat) : ∀ y ∈ bitsOf l m false, y = 0 ∨ y = 1 := by
  intro y hy
  obtain ⟨i, _, rfl⟩ := List.mem_map.1 hy
  unfold bitVal
  split
  · exact .inl rfl
  · rw [if_neg (by simp)]; omega
end Go.Proofs.Ytbpamlphacpkeaa
