/- What the literals of a maker mean: bits of its inputs. -/
import Derived.Test.YtbpamlphacpkeaaGMk
set_option linter.unusedVariables false
set_option linter.unusedSimpArgs false
namespace Go.Proofs.Ytbpamlphacpkeaa
open Go

def bitI (v : Bool) : Int := if v then 1 else 0
theorem bitI_not (v : Bool) : notB (bitI v) = bitI (!v) := by cases v <;> decide
theorem bitI_both (u v : Bool) : bothB (bitI u) (bitI v) = bitI (u && v) := by cases u <;> cases v <;> decide
theorem bitI_inj {u v : Bool} (h : bitI u = bitI v) : u = v := by revert h; cases u <;> cases v <;> decide

/-- All bits, of a maker's net. -/
def MS.vals (s : MS) (ins regs : List Int) : List Int := (s.made []).valsTo ins regs s.gates.length
theorem MS.vals_length (s : MS) (ins regs : List Int) : (s.vals ins regs).length = 1 + ins.length + regs.length + s.gates.length := Net.valsTo_length _ _ _ _
/-- Gates take what is before them. -/
def MS.before (s : MS) : Prop := ∀ k, k < s.gates.length → (0 ≤ (s.gates.getD k default).1 ∧ (s.gates.getD k default).1 < 2 * (s.first + k)) ∧ (0 ≤ (s.gates.getD k default).2 ∧ (s.gates.getD k default).2 < 2 * (s.first + k))
structure MS.Bits (s : MS) (ins regs : List Int) : Prop where
  good : s.Good
  before : s.before
  li : ins.length = s.ins.length
  lr : regs.length = s.regs.length
structure Means (s : MS) (ins regs : List Int) (lit : Int) (v : Bool) : Prop where
  lo : 0 ≤ lit
  hi : lit < s.lits
  bit : ofB (s.vals ins regs) lit = bitI v

theorem valsTo_congr {n m : Net} {ins regs : List Int} : ∀ i, (∀ k, k < i → n.gates.getD k default = m.gates.getD k default) → n.valsTo ins regs i = m.valsTo ins regs i
  | 0, _ => rfl
  | i + 1, h => by
    simp only [Net.valsTo]
    rw [valsTo_congr i (fun k hk => h k (by omega)), h i (by omega)]
theorem MS.vals_add (s : MS) (p : Int × Int) (ins regs : List Int) : (s.add p).vals ins regs = s.vals ins regs ++ [bothB (ofB (s.vals ins regs) p.1) (ofB (s.vals ins regs) p.2)] := by
  have e : (s.add p).gates.length = s.gates.length + 1 := by show (s.gates ++ [p]).length = _; simp
  unfold MS.vals
  rw [e, Net.valsTo]
  have h1 : ((s.add p).made []).valsTo ins regs s.gates.length = (s.made []).valsTo ins regs s.gates.length := valsTo_congr _ (fun k hk => by
    show (s.gates ++ [p]).getD k default = s.gates.getD k default
    exact getD_snoc_l hk)
  have h2 : ((s.add p).made []).gates.getD s.gates.length default = p := getD_snoc_r
  rw [h1, h2]
theorem ofB_snoc {v : List Int} {x l : Int} (h : (l / 2).toNat < v.length) : ofB (v ++ [x]) l = ofB v l := by
  unfold ofB; rw [getD_snoc_l h]
theorem ofB_prefix {n : Net} {ins regs : List Int} {l : Int} {i : Nat} (h : (l / 2).toNat < 1 + ins.length + regs.length + i) : ∀ d, ofB (n.valsTo ins regs (i + d)) l = ofB (n.valsTo ins regs i) l
  | 0 => rfl
  | d + 1 => by
    rw [show i + (d + 1) = (i + d) + 1 from rfl, Net.valsTo, ofB_snoc (by rw [Net.valsTo_length]; omega), ofB_prefix h d]
theorem flip_div {l : Int} (h : 0 ≤ l) : flip l / 2 = l / 2 ∧ (flip l % 2 = 1 ↔ l % 2 = 0) := by
  rw [flip_eq]; split <;> constructor <;> omega
theorem ofB_flip {v : List Int} {l : Int} (h0 : 0 ≤ l) (hb : v.getD (l / 2).toNat default = 0 ∨ v.getD (l / 2).toNat default = 1) : ofB v (flip l) = notB (ofB v l) := by
  obtain ⟨h1, h2⟩ := flip_div h0
  unfold ofB
  rw [h1]
  by_cases h : l % 2 = 0
  · rw [if_pos (h2.2 h), if_neg (by omega)]
  · rw [if_neg (fun hh => h (h2.1 hh)), if_pos (by omega)]
    rcases hb with e | e <;> rw [e] <;> decide
theorem ofB_node {v : List Int} {l : Int} {u : Bool} (h : ofB v l = bitI u) : v.getD (l / 2).toNat default = 0 ∨ v.getD (l / 2).toNat default = 1 := by
  have hu : bitI u = 0 ∨ bitI u = 1 := by cases u <;> simp [bitI]
  unfold ofB at h
  split at h
  · unfold notB at h
    split at h <;> omega
  · omega
section
variable {s : MS} {ins regs : List Int}
theorem MS.first_lits (s : MS) : s.lits = 2 * (s.first + s.gates.length) := rfl
theorem Means.flip {lit : Int} {v : Bool} (h : Means s ins regs lit v) : Means s ins regs (Go.Proofs.Ytbpamlphacpkeaa.flip lit) (!v) := by
  have e1 := h.lo
  have e2 := h.hi
  have e3 := MS.first_lits s
  refine ⟨?_, ?_, by rw [ofB_flip h.lo (ofB_node h.bit), h.bit, bitI_not]⟩
  · rw [flip_eq]; split <;> omega
  · rw [flip_eq]; split <;> omega
theorem MS.no_ok2 {a b : Int} (h1 : 0 ≤ a ∧ a < s.lits) (h2 : 0 ≤ b ∧ b < s.lits) : s.no [a, b] = 0 := by
  refine MS.no_ok ?_
  show ((true && s.litAt [a, b] 0) && s.litAt [a, b] 1) = true
  have e1 : s.litAt [a, b] 0 = true := by
    simp only [MS.litAt, Bool.not_eq_true', Bool.or_eq_false_iff, decide_eq_false_iff_not]
    show ¬ a < 0 ∧ ¬ a ≥ s.lits
    omega
  have e2 : s.litAt [a, b] 1 = true := by
    simp only [MS.litAt, Bool.not_eq_true', Bool.or_eq_false_iff, decide_eq_false_iff_not]
    show ¬ b < 0 ∧ ¬ b ≥ s.lits
    omega
  rw [e1, e2]; rfl
theorem MS.no_ok3 {a b c : Int} (h1 : 0 ≤ a ∧ a < s.lits) (h2 : 0 ≤ b ∧ b < s.lits) (h3 : 0 ≤ c ∧ c < s.lits) : s.no [a, b, c] = 0 := by
  refine MS.no_ok ?_
  show (((true && s.litAt [a, b, c] 0) && s.litAt [a, b, c] 1) && s.litAt [a, b, c] 2) = true
  have e1 : s.litAt [a, b, c] 0 = true := by
    simp only [MS.litAt, Bool.not_eq_true', Bool.or_eq_false_iff, decide_eq_false_iff_not]
    show ¬ a < 0 ∧ ¬ a ≥ s.lits
    omega
  have e2 : s.litAt [a, b, c] 1 = true := by
    simp only [MS.litAt, Bool.not_eq_true', Bool.or_eq_false_iff, decide_eq_false_iff_not]
    show ¬ b < 0 ∧ ¬ b ≥ s.lits
    omega
  have e3 : s.litAt [a, b, c] 2 = true := by
    simp only [MS.litAt, Bool.not_eq_true', Bool.or_eq_false_iff, decide_eq_false_iff_not]
    show ¬ c < 0 ∧ ¬ c ≥ s.lits
    omega
  rw [e1, e2, e3]; rfl
/-- What an operation leaves. -/
structure Kept (s s' : MS) (ins regs : List Int) (m : Nat) : Prop where
  bits : s'.Bits ins regs
  means : ∀ lit v, Means s ins regs lit v → Means s' ins regs lit v
  gates : s'.gates.length ≤ s.gates.length + m
  same : s'.ins = s.ins ∧ s'.regs = s.regs
theorem Kept.refl (hs : s.Bits ins regs) (m : Nat) : Kept s s ins regs m := ⟨hs, fun _ _ h => h, by omega, rfl, rfl⟩
theorem Kept.trans {s' s'' : MS} {m k : Nat} (h1 : Kept s s' ins regs m) (h2 : Kept s' s'' ins regs k) : Kept s s'' ins regs (m + k) :=
  ⟨h2.bits, fun l v h => h2.means l v (h1.means l v h), by have := h1.gates; have := h2.gates; omega, h2.same.1.trans h1.same.1, h2.same.2.trans h1.same.2⟩
theorem MS.and_means (hs : s.Bits ins regs) {a b : Int} {u v : Bool} (ha : Means s ins regs a u) (hb : Means s ins regs b v) (hg : s.gates.length < 20000) : (s.and a b).1.2 = 0 ∧ Means (s.and a b).2 ins regs (s.and a b).1.1 (u && v) ∧ Kept s (s.and a b).2 ins regs 1 := by
  have h0 : s.no [a, b] = 0 := MS.no_ok2 ⟨ha.lo, ha.hi⟩ ⟨hb.lo, hb.hi⟩
  have hz : 0 ≤ (0 : Int) ∧ (0 : Int) < s.lits := by
    have := hs.good.ok.lits; omega
  have hv0 : (s.vals ins regs).getD 0 default = 0 := by
    have : ∀ i, ((s.made []).valsTo ins regs i).getD 0 default = 0 := by
      intro i
      induction i with
      | zero => rfl
      | succ i ih => rw [Net.valsTo, getD_snoc_l (by rw [Net.valsTo_length]; omega), ih]
    exact this _
  have m0 : Means s ins regs 0 false := ⟨hz.1, hz.2, by show ofB _ 0 = 0; unfold ofB; rw [if_neg (by decide)]; exact hv0⟩
  have hlo := ha.lo
  have hlo' := hb.lo
  -- the lesser and the greater one
  have hmm : (min a b = a ∧ max a b = b ∧ True) ∨ (min a b = b ∧ max a b = a ∧ True) := by
    rcases Int.le_total a b with h | h
    · exact .inl ⟨by omega, by omega, trivial⟩
    · exact .inr ⟨by omega, by omega, trivial⟩
  have key : ∀ (x y : Int) (p q : Bool), Means s ins regs x p → Means s ins regs y q → x ≤ y → min a b = x → max a b = y → (s.and a b).1.2 = 0 ∧ Means (s.and a b).2 ins regs (s.and a b).1.1 (p && q) ∧ Kept s (s.and a b).2 ins regs 1 := by
    intro x y p q hx hy hxy e1 e2
    have one : s.vals ins regs = s.vals ins regs := rfl
    by_cases c1 : (min a b == 0 || flip (min a b) == max a b) = true
    · rw [MS.and_zero h0 c1]
      refine ⟨rfl, ?_, .refl hs 1⟩
      simp only [e1, e2, Bool.or_eq_true, beq_iff_eq] at c1
      have : (p && q) = false := by
        rcases c1 with c | c
        · subst c
          have := m0.bit.symm.trans hx.bit
          rw [← bitI_inj this]; rfl
        · subst c
          have := (hx.flip.bit.symm.trans hy.bit)
          rw [← bitI_inj this]; cases p <;> rfl
      rw [this]; exact m0
    · have c1 : (min a b == 0 || flip (min a b) == max a b) = false := by simpa using c1
      by_cases c2 : (min a b == 1 || min a b == max a b) = true
      · rw [MS.and_one h0 c1 c2]
        refine ⟨rfl, ?_, .refl hs 1⟩
        simp only [e1, e2, Bool.or_eq_true, beq_iff_eq] at c2
        show Means s ins regs (max a b) _
        rw [e2]
        have : (p && q) = q := by
          rcases c2 with c | c
          · subst c
            have h1 : Means s ins regs 1 true := m0.flip
            have := h1.bit.symm.trans hx.bit
            rw [← bitI_inj this]; rfl
          · subst c
            have := hx.bit.symm.trans hy.bit
            rw [bitI_inj this]; cases q <;> rfl
        rw [this]; exact hy
      · have c2 : (min a b == 1 || min a b == max a b) = false := by simpa using c2
        cases hf : thFind (min a b, max a b) s.th with
        | some lit =>
          rw [MS.and_there h0 c1 c2 (by rw [hf]; rfl), hf]
          refine ⟨rfl, ?_, .refl hs 1⟩
          show Means s ins regs lit _
          have hth := hs.good.there (min a b, max a b)
          rw [hf] at hth
          cases hft : firstTo (s.at (min a b, max a b)) s.gates.length with
          | none => rw [hft] at hth; cases hth
          | some k =>
            rw [hft] at hth
            have hlit : lit = 2 * (s.first + k) := by simpa using hth
            have hk : k < s.gates.length ∧ s.at (min a b, max a b) k = true := by
              have : ∀ n, firstTo (s.at (min a b, max a b)) n = some k → k < n ∧ s.at (min a b, max a b) k = true := by
                intro n
                induction n with
                | zero => intro h; cases h
                | succ n ih =>
                  intro h
                  simp only [firstTo] at h
                  split at h
                  · rename_i k' hk'
                    cases h
                    have := ih hk'
                    exact ⟨by omega, this.2⟩
                  · split at h
                    · cases h; rename_i hp; exact ⟨by omega, hp⟩
                    · cases h
              exact this _ hft
            obtain ⟨hk1, hk2⟩ := hk
            have hgk : s.gates.getD k default = (min a b, max a b) := by
              unfold MS.at gateB at hk2
              simp only [Bool.and_true, Bool.and_eq_true, beq_iff_eq] at hk2
              exact Prod.ext hk2.1 hk2.2
            have hbf := hs.before k hk1
            rw [hgk] at hbf
            simp only at hbf
            have hfl := MS.first_lits s
            have hfirst : s.first = 1 + s.ins.length + s.regs.length := rfl
            have hli := hs.li
            have hlr := hs.lr
            refine ⟨by omega, by omega, ?_⟩
            have e : s.gates.length = (k + 1) + (s.gates.length - (k + 1)) := by omega
            have hn : (lit / 2).toNat = 1 + ins.length + regs.length + k := by omega
            unfold MS.vals
            rw [e, ofB_prefix (i := k + 1) (by omega), Net.valsTo]
            unfold ofB
            rw [if_neg (by omega), hn]
            have hl := (s.made []).valsTo_length ins regs k
            rw [show 1 + ins.length + regs.length + k = ((s.made []).valsTo ins regs k).length from hl.symm, getD_snoc_r]
            have hgk' : (s.made []).gates.getD k default = (min a b, max a b) := hgk
            rw [hgk']
            have p1 : ofB ((s.made []).valsTo ins regs k) (min a b) = bitI p := by
              rw [← ofB_prefix (i := k) (by omega) (s.gates.length - k), show k + (s.gates.length - k) = s.gates.length by omega, e1]; exact hx.bit
            have p2 : ofB ((s.made []).valsTo ins regs k) (max a b) = bitI q := by
              rw [← ofB_prefix (i := k) (by omega) (s.gates.length - k), show k + (s.gates.length - k) = s.gates.length by omega, e2]; exact hy.bit
            show bothB (ofB _ (min a b)) (ofB _ (max a b)) = _
            rw [p1, p2, bitI_both]
        | none =>
          rw [MS.and_new h0 c1 c2 (by rw [hf]; rfl) (by omega)]
          have hlx := hx.lo
          have hhx := hx.hi
          have hly := hy.lo
          have hhy := hy.hi
          have hok := hs.good.ok.lits
          have hfl := MS.first_lits s
          have hfl2 := MS.first_lits (s.add (min a b, max a b))
          have hf2 : (s.add (min a b, max a b)).first = s.first := rfl
          have hlen : (s.add (min a b, max a b)).gates.length = s.gates.length + 1 := by show (s.gates ++ [_]).length = _; simp
          have hfirst : s.first = 1 + s.ins.length + s.regs.length := rfl
          have hli := hs.li
          have hlr := hs.lr
          have hva := s.vals_add (min a b, max a b) ins regs
          have hvl := s.vals_length ins regs
          show (0 : Int) = 0 ∧ Means (s.add (min a b, max a b)) ins regs s.lits (p && q) ∧ Kept s (s.add (min a b, max a b)) ins regs 1
          refine ⟨rfl, ⟨by omega, by omega, ?_⟩, ⟨MS.add_good hs.good (by omega) (by simp only; omega) (by simp only; omega) hf, ?_, hs.li, hs.lr⟩, fun l w hm => ⟨hm.lo, by have := hm.hi; omega, ?_⟩, by omega, rfl, rfl⟩
          · show ofB ((s.add (min a b, max a b)).vals ins regs) s.lits = _
            rw [hva]
            unfold ofB
            rw [if_neg (by omega), show (s.lits / 2).toNat = (s.vals ins regs).length by omega, getD_snoc_r]
            show bothB (ofB _ (min a b)) (ofB _ (max a b)) = _
            rw [e1, e2, hx.bit, hy.bit, bitI_both]
          · intro k hk
            by_cases c : k < s.gates.length
            · have : (s.add (min a b, max a b)).gates.getD k default = s.gates.getD k default := getD_snoc_l c
              rw [this, hf2]; exact hs.before k c
            · have ek : k = s.gates.length := by omega
              subst ek
              have : (s.add (min a b, max a b)).gates.getD s.gates.length default = (min a b, max a b) := getD_snoc_r
              rw [this, hf2]
              simp only
              omega
          · show ofB ((s.add (min a b, max a b)).vals ins regs) l = _
            have := hm.lo
            have := hm.hi
            rw [hva, ofB_snoc (by omega), hm.bit]
  rcases hmm with ⟨e1, e2, _⟩ | ⟨e1, e2, _⟩
  · exact key a b u v ha hb (by omega) e1 e2
  · rw [Bool.and_comm]
    exact key b a v u hb ha (by omega) e1 e2
theorem MS.or_means (hs : s.Bits ins regs) {a b : Int} {u v : Bool} (ha : Means s ins regs a u) (hb : Means s ins regs b v) (hg : s.gates.length < 20000) : (s.or a b).1.2 = 0 ∧ Means (s.or a b).2 ins regs (s.or a b).1.1 (u || v) ∧ Kept s (s.or a b).2 ins regs 1 := by
  have h0 : s.no [a, b] = 0 := MS.no_ok2 ⟨ha.lo, ha.hi⟩ ⟨hb.lo, hb.hi⟩
  obtain ⟨h1, h2, h3⟩ := MS.and_means hs ha.flip hb.flip hg
  rw [MS.or_ok h0 (by rw [h1]; rfl)]
  refine ⟨rfl, ?_, h3⟩
  have := h2.flip
  have e : (!(!u && !v)) = (u || v) := by cases u <;> cases v <;> rfl
  rw [e] at this
  exact this
theorem MS.either_means (hs : s.Bits ins regs) {a b c d : Int} {u v w x : Bool} (ha : Means s ins regs a u) (hb : Means s ins regs b v) (hc : Means s ins regs c w) (hd : Means s ins regs d x) (hg : s.gates.length < 19990) : (s.either a b c d).1.2 = 0 ∧ Means (s.either a b c d).2 ins regs (s.either a b c d).1.1 ((u && v) || (w && x)) ∧ Kept s (s.either a b c d).2 ins regs 3 := by
  obtain ⟨h1, h2, h3⟩ := MS.and_means hs ha hb (by omega)
  have g3 := h3.gates
  obtain ⟨h4, h5, h6⟩ := MS.and_means h3.bits (h3.means _ _ hc) (h3.means _ _ hd) (by omega)
  have g6 := h6.gates
  obtain ⟨h7, h8, h9⟩ := MS.or_means h6.bits (h6.means _ _ h2) h5 (by omega)
  rw [MS.either_3 (by rw [h1]; rfl) (by rw [h4]; rfl)]
  exact ⟨h7, h8, (h3.trans h6).trans h9⟩
theorem MS.xor_means (hs : s.Bits ins regs) {a b : Int} {u v : Bool} (ha : Means s ins regs a u) (hb : Means s ins regs b v) (hg : s.gates.length < 19990) : (s.xor a b).1.2 = 0 ∧ Means (s.xor a b).2 ins regs (s.xor a b).1.1 (u != v) ∧ Kept s (s.xor a b).2 ins regs 3 := by
  have h0 : s.no [a, b] = 0 := MS.no_ok2 ⟨ha.lo, ha.hi⟩ ⟨hb.lo, hb.hi⟩
  have := MS.either_means hs ha hb.flip ha.flip hb hg
  rw [MS.xor_ok h0]
  have e : ((u && !v) || (!u && v)) = (u != v) := by cases u <;> cases v <;> rfl
  rw [e] at this
  exact this
theorem MS.mux_means (hs : s.Bits ins regs) {x a b : Int} {u v w : Bool} (hx : Means s ins regs x u) (ha : Means s ins regs a v) (hb : Means s ins regs b w) (hg : s.gates.length < 19990) : (s.mux x a b).1.2 = 0 ∧ Means (s.mux x a b).2 ins regs (s.mux x a b).1.1 ((u && v) || (!u && w)) ∧ Kept s (s.mux x a b).2 ins regs 3 := by
  have h0 : s.no [x, a, b] = 0 := MS.no_ok3 ⟨hx.lo, hx.hi⟩ ⟨ha.lo, ha.hi⟩ ⟨hb.lo, hb.hi⟩
  rw [MS.mux_ok h0]
  exact MS.either_means hs hx ha hx.flip hb hg
end
end Go.Proofs.Ytbpamlphacpkeaa
