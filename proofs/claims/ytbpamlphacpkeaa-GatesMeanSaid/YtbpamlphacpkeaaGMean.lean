/- The law 'GatesMean' in plain Lean: names of inputs and outputs, what was made and what it means. -/
import Derived.Test.YtbpamlphacpkeaaGSem
import Derived.Test.YtbpamlphacpkeaaGOps
import Derived.Test.YtbpamlphacpkeaaGMono
import Derived.Laws.Runes
set_option linter.unusedVariables false
set_option linter.unusedSimpArgs false
namespace Go.Proofs.Ytbpamlphacpkeaa
open Go

section
variable {P : Program} {σ : Store} {E : Operand → Option AVal} {d : Option Tmp} {ty : TypeId} {pos : String} {after : Array Edge} {guard : Option (Nat × Bool)}
theorem op_runestr {x : Operand} {t s : TypeId} {td : TypeDesc} {k : IntKind} {a : Int} (hs : P.underlying s = some td) (hd : P.underlying t = some .string) (hx : E x = some (.v (.int k a))) : OpTo P ⟨d, .convert s t x, ty, pos, after, guard⟩ E σ (.v (.string (Utf8.encode a))) σ :=
  op_one (by simp [Op.operands]) hx fun ρ w h1 => by
    have := run_convert_int_string (P := P) w s t k a (by rw [hs]; rfl) hd
    simp [execOp, h1, this]
end
theorem wrap_i32 {x : Int} (h0 : -2147483648 ≤ x) (h1 : x ≤ 2147483647) : IntKind.i32.wrap x = x := by
  simp only [IntKind.wrap, IntKind.bits, IntKind.signed, Bool.true_and]
  split <;> rename_i h <;> simp at h <;> omega

/-! ### Names -/
theorem enc_small {c : Int} (h0 : 0 ≤ c) (h1 : c < 128) : Utf8.encode c = ByteArray.mk #[UInt8.ofNat c.toNat] := by
  have hv : Utf8.valid c = true := by simp [Utf8.valid]; omega
  unfold Utf8.encode
  simp only [hv, if_true]
  rw [if_pos (by omega)]
theorem enc_size (r : Int) : (Utf8.encode r).size ≤ 4 := by
  unfold Utf8.encode
  simp only
  split
  · split
    · show 1 ≤ 4; omega
    · split
      · show 2 ≤ 4; omega
      · split
        · show 3 ≤ 4; omega
        · show 4 ≤ 4; omega
  · split
    · show 1 ≤ 4; omega
    · split
      · show 2 ≤ 4; omega
      · split
        · show 3 ≤ 4; omega
        · show 4 ≤ 4; omega
def sOut : ByteArray := ByteArray.mk #[111]
def pin1 (i : Nat) : ByteArray := sOut ++ Utf8.encode (48 + (i : Int) / 100)
def pin2 (i : Nat) : ByteArray := pin1 i ++ Utf8.encode (48 + (i : Int) / 10 % 10)
def pinS (i : Nat) : ByteArray := pin2 i ++ Utf8.encode (48 + (i : Int) % 10)
theorem pin_sizes (i : Nat) : (pin1 i).size ≤ 5 ∧ (pin2 i).size ≤ 9 ∧ (pinS i).size ≤ 13 := by
  have h1 := enc_size (48 + (i : Int) / 100)
  have h2 := enc_size (48 + (i : Int) / 10 % 10)
  have h3 := enc_size (48 + (i : Int) % 10)
  have e1 : (pin1 i).size = 1 + (Utf8.encode (48 + (i : Int) / 100)).size := by unfold pin1; rw [ByteArray.size_append]; rfl
  have e2 : (pin2 i).size = (pin1 i).size + (Utf8.encode (48 + (i : Int) / 10 % 10)).size := by unfold pin2; rw [ByteArray.size_append]
  have e3 : (pinS i).size = (pin2 i).size + (Utf8.encode (48 + (i : Int) % 10)).size := by unfold pinS; rw [ByteArray.size_append]
  omega
theorem pin_list {i : Nat} (h : i < 1000) : (pinS i).data.toList = [111, UInt8.ofNat (48 + i / 100), UInt8.ofNat (48 + i / 10 % 10), UInt8.ofNat (48 + i % 10)] := by
  unfold pinS pin2 pin1 sOut
  rw [enc_small (c := 48 + (i : Int) / 100) (by omega) (by omega), enc_small (c := 48 + (i : Int) / 10 % 10) (by omega) (by omega), enc_small (c := 48 + (i : Int) % 10) (by omega) (by omega)]
  have e1 : (48 + (i : Int) / 100).toNat = 48 + i / 100 := by omega
  have e2 : (48 + (i : Int) / 10 % 10).toNat = 48 + i / 10 % 10 := by omega
  have e3 : (48 + (i : Int) % 10).toNat = 48 + i % 10 := by omega
  rw [e1, e2, e3]
  simp
theorem okByte_of {n : Nat} (h0 : 33 ≤ n) (h1 : n ≤ 126) : okByte (UInt8.ofNat n) = true := by
  unfold okByte
  have : (UInt8.ofNat n).toNat = n := by rw [UInt8.toNat_ofNat']; omega
  rw [this]
  simp only [Bool.not_eq_true', Bool.or_eq_false_iff, decide_eq_false_iff_not]
  omega
theorem okName_list {s : ByteArray} {l : List UInt8} (h : s.data.toList = l) (hl : 1 ≤ l.length ∧ l.length ≤ 100) (hb : ∀ c ∈ l, okByte c = true) : okName s = true := by
  have hs : s.size = l.length := by rw [← h]; simp
  unfold okName
  rw [h, Bool.and_eq_true, Bool.and_eq_true, decide_eq_true_eq, decide_eq_true_eq]
  refine ⟨allTo_iff.2 fun k hk => hb _ (getD_mem hk), by omega, by omega⟩
theorem pin_ok {i : Nat} (h : i < 1000) : okName (pinS i) = true := by
  refine okName_list (pin_list h) (by simp) fun c hc => ?_
  simp only [List.mem_cons, List.not_mem_nil, or_false] at hc
  rcases hc with rfl | rfl | rfl | rfl
  · decide
  · exact okByte_of (by omega) (by omega)
  · exact okByte_of (by omega) (by omega)
  · exact okByte_of (by omega) (by omega)
theorem ofNat_inj {a b : Nat} (ha : a < 256) (hb : b < 256) (h : UInt8.ofNat a = UInt8.ofNat b) : a = b := by
  have := congrArg UInt8.toNat h
  rw [UInt8.toNat_ofNat', UInt8.toNat_ofNat'] at this
  omega
theorem pin_inj {i k : Nat} (hi : i < 1000) (hk : k < 1000) (h : (pinS i).toList = (pinS k).toList) : i = k := by
  rw [ByteArray.toList_eq, ByteArray.toList_eq, pin_list hi, pin_list hk] at h
  simp only [List.cons.injEq, and_true, true_and] at h
  obtain ⟨h1, h2, h3⟩ := h
  have e1 := ofNat_inj (by omega) (by omega) h1
  have e2 := ofNat_inj (by omega) (by omega) h2
  have e3 := ofNat_inj (by omega) (by omega) h3
  omega
theorem okNames_of {f : Nat → ByteArray} {m : Nat} (hm : m ≤ 500) (hok : ∀ k, k < m → okName (f k) = true) (hinj : ∀ i k, i < m → k < m → (f i).toList = (f k).toList → i = k) : okNames ((List.range m).map f) = true := by
  have hg : ∀ k, k < m → ((List.range m).map f).getD k default = f k := by
    intro k hk
    rw [List.getD_eq_getElem?_getD, List.getElem?_map, List.getElem?_range hk]; rfl
  unfold okNames
  rw [Bool.and_eq_true, decide_eq_true_eq]
  refine ⟨by simp; omega, allTo_iff.2 fun k hk => ?_⟩
  have hk : k < m := by simpa using hk
  refine nameAt_ok (by rw [hg k hk]; exact hok k hk) (allTo_iff.2 fun j hj => ?_)
  rw [hg k hk, hg j (by omega)]
  cases e : (f j).toList == (f k).toList with
  | false => rfl
  | true =>
    have := hinj j k (by omega) hk (by simpa using e)
    omega
def namesM (i : Nat) : List ByteArray := (List.range i).map fun (k : Nat) => Utf8.encode (97 + (k : Int))
theorem namesM_succ (i : Nat) : namesM (i + 1) = namesM i ++ [Utf8.encode (97 + (i : Int))] := by simp [namesM, List.range_succ]
theorem namesM_length (i : Nat) : (namesM i).length = i := by simp [namesM]
theorem namesM_size (i : Nat) : ∀ s ∈ namesM i, s.size ≤ 140737488355328 := by
  intro s hs
  obtain ⟨k, _, rfl⟩ := List.mem_map.1 hs
  have := enc_size (97 + (k : Int))
  omega
theorem name_list {k : Nat} (h : k < 20) : (Utf8.encode (97 + (k : Int))).data.toList = [UInt8.ofNat (97 + k)] := by
  rw [enc_small (by omega) (by omega), show (97 + (k : Int)).toNat = 97 + k by omega]
theorem namesM_ok {m : Nat} (h : m ≤ 8) : okNames (namesM m) = true :=
  okNames_of (by omega) (fun k hk => okName_list (name_list (by omega)) (by simp) fun c hc => by
    rw [List.mem_singleton] at hc; rw [hc]; exact okByte_of (by omega) (by omega)) fun i k hi hk e => by
    rw [ByteArray.toList_eq, ByteArray.toList_eq, name_list (by omega), name_list (by omega)] at e
    simp only [List.cons.injEq, and_true] at e
    have := ofNat_inj (by omega) (by omega) e
    omega
theorem made_valid {ins : List ByteArray} (h : okNames ins = true) : ((MS.make ins [] []).made []).valid = true := by
  refine Net.valid_all ?_ rfl rfl rfl
  have : ((MS.make ins [] []).made []).okHead = (((okNames ins && okNames []) && okNames []) && decide (((0 : Nat) : Int) ≤ 20000)) := rfl
  rw [this, h]; decide
theorem namesM_make {m : Nat} (h : m ≤ 8) : makeOK (namesM m) [] [] = true := by
  unfold makeOK
  rw [made_valid (namesM_ok h)]; rfl

/-! ### What was made -/
def valsM (b : List Int) : Nat → List Bool
  | 0 => [false]
  | i + 1 => valsM b i ++ [b.getD i default == 1]
theorem valsM_length (b : List Int) : ∀ i, (valsM b i).length = i + 1
  | 0 => rfl
  | i + 1 => by simp [valsM, valsM_length b i]
def litM (made : List Int) (a : Int) : Int := if a < 0 then flip (pickAt made a) else pickAt made a
def boolM (made : List Int) (vals : List Bool) (a : Int) : Bool := if a < 0 then !(vals.getD (0 + ((a.tmod made.length + made.length) % made.length).toNat) default) else vals.getD (0 + ((a.tmod made.length + made.length) % made.length).toNat) default
structure MQ where
  i : Nat
  v1 : Nat
  v2 : Nat
  vg : Nat
  s : MS
  made : List Int
  vals : List Bool
structure MQ.OK (m : Nat) (b : List Int) (q : MQ) : Prop where
  bits : q.s.Bits b []
  ins : q.s.ins = namesM m
  regs : q.s.regs = []
  gates : q.s.gates.length ≤ 3 * q.i
  len1 : q.made.length = m + 1 + q.i
  len2 : q.vals.length = m + 1 + q.i
  means : ∀ k, k < q.made.length → Means q.s b [] (q.made.getD k default) (q.vals.getD k default)
theorem MQ.pick {m : Nat} {b : List Int} {q : MQ} (h : q.OK m b) (a : Int) : Means q.s b [] (litM q.made a) (boolM q.made q.vals a) := by
  have hl := h.len1
  obtain ⟨h1, h2⟩ := pick_bound q.made a (by omega)
  have hm := h.means _ h2
  unfold litM boolM
  rw [Nat.zero_add]
  split
  · exact hm.flip
  · exact hm
theorem MQ.next {m : Nat} {b : List Int} {q : MQ} (h : q.OK m b) {s' : MS} {lit : Int} {v : Bool} {k : Nat} (hk : k ≤ 3) (hm : Means s' b [] lit v) (hs : Kept q.s s' b [] k) (v1 v2 vg : Nat) : MQ.OK m b ⟨q.i + 1, v1, v2, vg, s', q.made ++ [lit], q.vals ++ [v]⟩ := by
  obtain ⟨h1, h2, h3, h4, h5, h6, h7⟩ := h
  have hg := hs.gates
  refine ⟨hs.bits, hs.same.1.trans h2, hs.same.2.trans h3, ?_, ?_, ?_, fun j hj => ?_⟩
  · show s'.gates.length ≤ 3 * (q.i + 1); omega
  · show (q.made ++ [lit]).length = _; rw [List.length_append, List.length_singleton]; show q.made.length + 1 = m + 1 + (q.i + 1); omega
  · show (q.vals ++ [v]).length = _; rw [List.length_append, List.length_singleton]; show q.vals.length + 1 = m + 1 + (q.i + 1); omega
  · have hj : j < (q.made ++ [lit]).length := hj
    rw [List.length_append, List.length_singleton] at hj
    show Means s' b [] ((q.made ++ [lit]).getD j default) ((q.vals ++ [v]).getD j default)
    by_cases e : j < q.made.length
    · rw [getD_snoc_l e, getD_snoc_l (by omega)]
      exact hs.means _ _ (h7 j e)
    · have ej : j = q.made.length := by omega
      subst ej
      rw [getD_snoc_r, show q.made.length = q.vals.length by omega, getD_snoc_r]
      exact hm
theorem madeTo_get {i k : Nat} (h : k ≤ i) : (madeTo i).getD k default = 2 * (k : Int) := by
  rw [madeTo, List.getD_eq_getElem?_getD, List.getElem?_map, List.getElem?_range (by omega)]; rfl
theorem valsM_get {b : List Int} : ∀ {i k : Nat}, k < i → (valsM b i).getD (k + 1) default = (b.getD k default == 1)
  | i + 1, k, h => by
    rw [valsM]
    by_cases e : k < i
    · rw [getD_snoc_l (by rw [valsM_length]; omega)]
      exact valsM_get e
    · have : k = i := by omega
      subst this
      rw [show k + 1 = (valsM b k).length by rw [valsM_length], getD_snoc_r]
theorem valsM_zero {b : List Int} : ∀ i, (valsM b i).getD 0 default = false
  | 0 => rfl
  | i + 1 => by rw [valsM, getD_snoc_l (by rw [valsM_length]; omega)]; exact valsM_zero i
theorem MQ.start {m : Nat} (hm : m ≤ 8) {b : List Int} (hl : b.length = m) (hb : ∀ x ∈ b, x = 0 ∨ x = 1) (v1 v2 vg : Nat) : MQ.OK m b ⟨0, v1, v2, vg, MS.make (namesM m) [] [], madeTo m, valsM b m⟩ := by
  have hn := namesM_length m
  have hsm : ((MS.make (namesM m) [] []).made []).Small := MS.make_small (namesM_size m) (by simp) (by simp) (by omega) (by simp) rfl
  have hg : (MS.make (namesM m) [] []).Good := MS.make_good (made_valid (namesM_ok hm)) hsm
  refine ⟨⟨hg, fun k hk => absurd hk (by show ¬ k < 0; omega), by show b.length = (namesM m).length; omega, rfl⟩, rfl, rfl, Nat.zero_le _, by show (madeTo m).length = m + 1 + 0; rw [madeTo_length], by show (valsM b m).length = m + 1 + 0; rw [valsM_length], fun k hk => ?_⟩
  have hk : k < (madeTo m).length := hk
  rw [madeTo_length] at hk
  show Means (MS.make (namesM m) [] []) b [] ((madeTo m).getD k default) ((valsM b m).getD k default)
  rw [madeTo_get (by omega)]
  have hlits : (MS.make (namesM m) [] []).lits = 2 * (1 + (m : Int)) := by
    show 2 * (((1 + ((namesM m).length : Int)) + ((0 : Nat) : Int)) + ((0 : Nat) : Int)) = _
    rw [hn]; omega
  refine ⟨by omega, by omega, ?_⟩
  have hv : (MS.make (namesM m) [] []).vals b [] = ([0] ++ b) ++ [] := rfl
  unfold ofB
  rw [if_neg (by omega), hv, List.append_nil, show (2 * (k : Int) / 2).toNat = k by omega]
  cases k with
  | zero => rw [valsM_zero]; rfl
  | succ k =>
    rw [valsM_get (by omega)]
    show b.getD k default = _
    rcases hb _ (getD_mem (v := b) (show k < b.length by omega)) with e | e <;> rw [e] <;> rfl
theorem bits_01 (l : List Int) (m : Nat) : ∀ x ∈ bitsOf l m false, x = 0 ∨ x = 1 := by
  intro x hx
  obtain ⟨i, _, rfl⟩ := List.mem_map.1 hx
  unfold bitVal
  split
  · exact .inl rfl
  · simp only [Bool.false_and, Bool.false_eq_true, if_false]; omega
def pinsM (made : List Int) (i : Nat) : List (ByteArray × Int) := (List.range i).map fun (k : Nat) => (pinS k, made.getD (0 + (k : Int).toNat) default)
theorem pinsM_succ (made : List Int) (i : Nat) : pinsM made (i + 1) = pinsM made i ++ [(pinS i, made.getD (0 + (i : Int).toNat) default)] := by simp [pinsM, List.range_succ]
theorem pinsM_length (made : List Int) (i : Nat) : (pinsM made i).length = i := by simp [pinsM]
theorem pinsM_get {made : List Int} {i k : Nat} (h : k < i) : (pinsM made i).getD k default = (pinS k, made.getD k default) := by
  rw [pinsM, List.getD_eq_getElem?_getD, List.getElem?_map, List.getElem?_range h]
  show (pinS k, made.getD (0 + (k : Int).toNat) default) = _
  rw [show 0 + (k : Int).toNat = k by omega]
theorem MQ.pins {m : Nat} {b : List Int} {q : MQ} (h : q.OK m b) : ∀ p ∈ pinsM q.made q.made.length, p.1.size ≤ 140737488355328 ∧ p.2 ≤ 9223372036854775807 := by
  intro p hp
  obtain ⟨k, hk, rfl⟩ := List.mem_map.1 hp
  rw [List.mem_range] at hk
  have hm := h.means k hk
  have hl := h.bits.good.ok.lits
  have := hm.hi
  obtain ⟨_, _, h3⟩ := pin_sizes k
  refine ⟨by simp only; omega, ?_⟩
  show q.made.getD (0 + (k : Int).toNat) default ≤ _
  rw [show 0 + (k : Int).toNat = k by omega]
  omega
/-- The law's answer. -/
theorem MQ.law {m : Nat} (hm8 : m ≤ 8) {b : List Int} (hb : ∀ x ∈ b, x = 0 ∨ x = 1) {q : MQ} (h : q.OK m b) (hi : q.i ≤ 100) :
    (q.s.net [] (pinsM q.made q.made.length)).2 = 0 ∧ ((q.s.net [] (pinsM q.made q.made.length)).1.eval b []).2.2 = 0 ∧ ((q.s.net [] (pinsM q.made q.made.length)).1.eval b []).1.length = q.vals.length ∧
    ∀ k, k < q.vals.length → ((q.s.net [] (pinsM q.made q.made.length)).1.eval b []).1.getD k default = bitI (q.vals.getD k default) := by
  obtain ⟨h1, h2, h3, h4, h5, h6, h7⟩ := h
  have hbits := h1
  obtain ⟨g1, g2, g3, g4⟩ := h1
  have hl0 : ([] : List Int).length = q.s.regs.length := g4
  have hins : q.s.ins.length = m := by rw [h2, namesM_length]
  have hregs : q.s.regs.length = 0 := g4.symm
  have hfirst : q.s.first = 1 + q.s.ins.length + q.s.regs.length := rfl
  have hfl := MS.first_lits q.s
  have hpl := pinsM_length q.made q.made.length
  have hnr : nextTo [] q.s.regs ([] : List Int).length = [] := by rw [h3]; rfl
  have hvalid : (q.s.nexts [] (pinsM q.made q.made.length)).valid = true := by
    refine Net.valid_all ?_ ?_ ?_ ?_
    · have e : (q.s.nexts [] (pinsM q.made q.made.length)).okHead = (((okNames q.s.ins && okNames ((nextTo [] q.s.regs ([] : List Int).length).map (·.1))) && okNames ((pinsM q.made q.made.length).map (·.1))) && decide ((q.s.gates.length : Int) ≤ 20000)) := rfl
      have e2 : (pinsM q.made q.made.length).map (·.1) = (List.range q.made.length).map pinS := by rw [pinsM, List.map_map]; rfl
      rw [e, hnr, h2, namesM_ok hm8, e2, okNames_of (by omega) (fun k hk => pin_ok (by omega)) (fun i k hi hk e => pin_inj (by omega) (by omega) e), decide_eq_true (by omega)]
      decide
    · refine allTo_iff.2 fun k hk => ?_
      have hk : k < q.s.gates.length := hk
      obtain ⟨⟨b1, b2⟩, b3, b4⟩ := g2 k hk
      rw [gate_lits]
      have e1 : (q.s.nexts [] (pinsM q.made q.made.length)).first = 1 + q.s.ins.length + ((nextTo [] q.s.regs ([] : List Int).length).length : Int) := rfl
      rw [hnr] at e1
      have e2 : (q.s.nexts [] (pinsM q.made q.made.length)).gates = q.s.gates := rfl
      rw [e2]
      simp only [litOK, Bool.and_eq_true, decide_eq_true_eq]
      have : (([] : List (ByteArray × Int × Int)).length : Int) = 0 := rfl
      omega
    · refine allTo_iff.2 fun k hk => ?_
      have hk : k < (nextTo [] q.s.regs ([] : List Int).length).length := hk
      rw [hnr] at hk; cases hk
    · refine allTo_iff.2 fun k hk => ?_
      have hk : k < (pinsM q.made q.made.length).length := hk
      rw [hpl] at hk
      have hmk := h7 k hk
      have l1 := hmk.lo
      have l2 := hmk.hi
      rw [out_lits]
      have e1 : (q.s.nexts [] (pinsM q.made q.made.length)).first = 1 + q.s.ins.length + ((nextTo [] q.s.regs ([] : List Int).length).length : Int) := rfl
      rw [hnr] at e1
      have e2 : (q.s.nexts [] (pinsM q.made q.made.length)).gates = q.s.gates := rfl
      have e3 : (q.s.nexts [] (pinsM q.made q.made.length)).outs.getD k default = (pinS k, q.made.getD k default) := pinsM_get hk
      rw [e2, e3]
      simp only [litOK, Bool.and_eq_true, decide_eq_true_eq]
      have : (([] : List (ByteArray × Int × Int)).length : Int) = 0 := rfl
      omega
  rw [MS.net_ok hl0 hvalid]
  have hb2 : ∀ x ∈ b, isBit x := fun x hx => by rcases hb x hx with e | e <;> rw [e] <;> simp [isBit]
  have hbad : (q.s.nexts [] (pinsM q.made q.made.length)).bad b [] = false := Net.bad_ok hvalid (by show b.length = q.s.ins.length; exact g3) (by show ([] : List Int).length = (nextTo [] q.s.regs ([] : List Int).length).length; rw [hnr]; rfl) hb2 (by simp)
  rw [Net.eval_ok hbad]
  have hvv : (q.s.nexts [] (pinsM q.made q.made.length)).valsTo b [] (q.s.nexts [] (pinsM q.made q.made.length)).gates.length = q.s.vals b [] := valsTo_congr _ (fun k hk => rfl)
  have ho : (q.s.nexts [] (pinsM q.made q.made.length)).outs = pinsM q.made q.made.length := rfl
  rw [hvv, ho, List.take_length]
  refine ⟨rfl, rfl, by rw [List.length_map, hpl]; omega, fun k hk => ?_⟩
  show ((pinsM q.made q.made.length).map fun p => ofB (q.s.vals b []) p.2).getD k default = _
  rw [getD_map _ _ _ (by omega), pinsM_get (by omega)]
  exact (h7 k (by omega)).bit
end Go.Proofs.Ytbpamlphacpkeaa
