/- States as numbers; the next states of a state, in plain Lean. -/
import Derived.Test.YtnnklpmgncbgnaaGreatCWide
set_option linter.unusedVariables false
set_option linter.unusedSimpArgs false
namespace Go.Proofs.YtnnklpmgncbgnaaGreat
open Go

theorem min_shift {i : Nat} (hi : i ≤ 64) : min (i : Int).toNat 64 = i := by omega
theorem shr_i64 {x : Int} {i : Nat} (hi : i ≤ 64) : x / 2 ^ min (i : Int).toNat IntKind.i64.bits = x / 2 ^ i := by
  show x / 2 ^ min (i : Int).toNat 64 = _
  rw [min_shift hi]
theorem shr_u64 {x i : Nat} (hi : i ≤ 64) : (x : Int) / 2 ^ min (i : Int).toNat IntKind.u64.bits = ((x >>> i : Nat) : Int) := by
  show (x : Int) / 2 ^ min (i : Int).toNat 64 = _
  rw [min_shift hi, Nat.shiftRight_eq_div_pow]
  norm_cast
theorem pow_le_of {i m : Nat} (h : i ≤ m) : 2 ^ i ≤ 2 ^ m := Nat.pow_le_pow_right (by decide) h
theorem shl_i64 {b i : Nat} (hb : b ≤ 3) (hi : i ≤ 40) : IntKind.i64.wrap ((b : Int) * 2 ^ min (i : Int).toNat IntKind.i64.bits) = ((b <<< i : Nat) : Int) := by
  show IntKind.i64.wrap ((b : Int) * 2 ^ min (i : Int).toNat 64) = _
  rw [min_shift (by omega), Nat.shiftLeft_eq]
  have h1 := pow_le_of hi
  have h2 : b * 2 ^ i ≤ 3 * 2 ^ 40 := Nat.mul_le_mul hb h1
  have e : ((b * 2 ^ i : Nat) : Int) = (b : Int) * 2 ^ i := by norm_cast
  rw [← e]
  exact wrap_i64 (by omega) (by omega)
theorem shl_u64 {b i : Nat} (hb : b ≤ 1) (hi : i < 64) : IntKind.u64.wrap ((b : Int) * 2 ^ min (i : Int).toNat IntKind.u64.bits) = ((b <<< i : Nat) : Int) := by
  show IntKind.u64.wrap ((b : Int) * 2 ^ min (i : Int).toNat 64) = _
  rw [min_shift (by omega), Nat.shiftLeft_eq]
  have h1 := pow_le_of (show i ≤ 63 by omega)
  have h2 : b * 2 ^ i ≤ 1 * 2 ^ 63 := Nat.mul_le_mul hb h1
  have e : ((b * 2 ^ i : Nat) : Int) = (b : Int) * 2 ^ i := by norm_cast
  rw [← e]
  exact wrap_u64 (by omega) (by omega)
def Bit01 (l : List Int) : Prop := ∀ x ∈ l, x = 0 ∨ x = 1
/-- Bits as a number. -/
def numTo (l : List Int) : Nat → Nat
  | 0 => 0
  | i + 1 => numTo l i ||| ((l.getD i default).toNat <<< i)
def num (l : List Int) : Nat := numTo l l.length
theorem shl_lt {b i : Nat} (hb : b ≤ 1) : b <<< i < 2 ^ (i + 1) := by
  rw [Nat.shiftLeft_eq, Nat.pow_succ]
  have : b * 2 ^ i ≤ 1 * 2 ^ i := Nat.mul_le_mul_right _ hb
  have := Nat.two_pow_pos i
  omega
theorem bit01_get {l : List Int} (h : Bit01 l) (i : Nat) : (l.getD i default).toNat ≤ 1 ∧ 0 ≤ l.getD i default ∧ l.getD i default ≤ 1 := by
  by_cases hi : i < l.length
  · rcases h _ (getD_mem hi) with e | e <;> rw [e] <;> decide
  · rw [List.getD_eq_getElem?_getD, List.getElem?_eq_none (by omega)]; decide
theorem numTo_lt {l : List Int} (h : Bit01 l) : ∀ i, numTo l i < 2 ^ i
  | 0 => by show 0 < 1; decide
  | i + 1 => by
    have ih := numTo_lt h i
    have h1 : numTo l i < 2 ^ (i + 1) := Nat.lt_of_lt_of_le ih (pow_le_of (by omega))
    exact Nat.or_lt_two_pow h1 (shl_lt (bit01_get h i).1)
theorem num_lt {l : List Int} (h : Bit01 l) : num l < 2 ^ l.length := numTo_lt h _
/-- A bit of a number. -/
def bitI (x : Int) (i : Nat) : Int := x / 2 ^ i % 2
theorem bitI_01 (x : Int) (i : Nat) : bitI x i = 0 ∨ bitI x i = 1 := Int.emod_two_eq _
theorem bitI_range (x : Int) (i : Nat) : 0 ≤ bitI x i ∧ bitI x i ≤ 1 := by rcases bitI_01 x i with h | h <;> rw [h] <;> decide
def bitsI (x : Int) (m : Nat) : List Int := (List.range m).map (bitI x)
theorem bitsI_length (x : Int) (m : Nat) : (bitsI x m).length = m := by simp [bitsI]
theorem range_get {α : Type} [Inhabited α] (f : Nat → α) (m i : Nat) (hi : i < m) : ((List.range m).map f).getD i default = f i := by
  rw [List.getD_eq_getElem?_getD, List.getElem?_map, List.getElem?_range hi]; rfl
theorem range_snoc {α : Type} (f : Nat → α) (i : Nat) : (List.range (i + 1)).map f = (List.range i).map f ++ [f i] := by simp [List.range_succ]
theorem bitsI_01 (x : Int) (m : Nat) : Bit01 (bitsI x m) := by
  intro y hy
  obtain ⟨i, _, rfl⟩ := List.mem_map.1 hy
  exact bitI_01 x i
/-! ### The next states -/
def Net.fromN (n : Net) (s : Int) : List Nat := (List.range n.regs.length).map fun i => maskOf (bitI s i)
def laneV (base : Nat) (i : Nat) : Nat → Nat
  | 0 => 0
  | k + 1 => laneV base i k ||| ((bitI ((base : Int) + (k : Int)) i).toNat <<< k)
theorem laneV_lt (base i : Nat) : ∀ k, laneV base i k < 2 ^ k
  | 0 => by show 0 < 1; decide
  | k + 1 => by
    have ih := laneV_lt base i k
    have hb := bitI_range ((base : Int) + (k : Int)) i
    exact Nat.or_lt_two_pow (Nat.lt_of_lt_of_le ih (pow_le_of (by omega))) (shl_lt (by omega))
def Net.lanes (n : Net) (base k : Nat) : List Nat := (List.range n.ins.length).map fun i => laneV base i k
theorem Net.lanes_length (n : Net) (base k : Nat) : (n.lanes base k).length = n.ins.length := by simp [Net.lanes]
theorem Net.lanes_zero (n : Net) (base : Nat) : n.lanes base 0 = List.replicate n.ins.length 0 := by
  apply List.ext_getElem (by simp [Net.lanes])
  intro i h1 h2
  simp [Net.lanes, laneV]
theorem Net.lanes_64 (n : Net) (base k : Nat) (hk : k ≤ 64) : W64 (n.lanes base k) := by
  intro x hx
  obtain ⟨i, _, rfl⟩ := List.mem_map.1 hx
  exact Nat.lt_of_lt_of_le (laneV_lt base i k) (pow_le_of hk)
theorem Net.fromN_length (n : Net) (s : Int) : (n.fromN s).length = n.regs.length := by simp [Net.fromN]
theorem Net.fromN_64 (n : Net) (s : Int) : W64 (n.fromN s) := by
  intro x hx
  obtain ⟨i, _, rfl⟩ := List.mem_map.1 hx
  exact maskOf_lt _
/-- What 64 inputs from a base on make of a state. -/
def Net.wvN (n : Net) (s : Int) (base : Nat) : List Nat := n.wideTo (n.lanes base 64) (n.fromN s) n.gates.length
def Net.toTo (n : Net) (v : List Nat) (k : Nat) : Nat → Nat
  | 0 => 0
  | i + 1 => n.toTo v k i ||| (((nextW v (n.regs.getD i default) >>> k) % 2) <<< i)
theorem Net.toTo_lt (n : Net) (v : List Nat) (k : Nat) : ∀ i, n.toTo v k i < 2 ^ i
  | 0 => by show 0 < 1; decide
  | i + 1 => by
    have ih := n.toTo_lt v k i
    exact Nat.or_lt_two_pow (Nat.lt_of_lt_of_le ih (pow_le_of (by omega))) (shl_lt (by omega))
def Net.nextNum (n : Net) (s : Int) (j : Nat) : Nat := n.toTo (n.wvN s (j / 64 * 64)) (j % 64) n.regs.length
theorem Net.nextNum_lt (n : Net) (s : Int) (j : Nat) : n.nextNum s j < 2 ^ n.regs.length := n.toTo_lt _ _ _
def Net.nexts (n : Net) (s : Int) (j : Nat) : List Nat := (List.range j).map (n.nextNum s)
theorem Net.nexts_succ (n : Net) (s : Int) (b k : Nat) (hk : k < 64) : n.nexts s (64 * b + (k + 1)) = n.nexts s (64 * b + k) ++ [n.toTo (n.wvN s (64 * b)) k n.regs.length] := by
  rw [← Nat.add_assoc]
  simp only [Net.nexts, range_snoc]
  have e1 : (64 * b + k) / 64 * 64 = 64 * b := by omega
  have e2 : (64 * b + k) % 64 = k := by omega
  simp only [Net.nextNum, e1, e2]
theorem Net.nexts_length (n : Net) (s : Int) (j : Nat) : (n.nexts s j).length = j := by simp [Net.nexts]
def encK (x : Nat) : List AVal := [.v (.int .i64 (x : Int))]
theorem bit_u8 (x : Int) (i : Nat) : IntKind.u8.wrap (x / 2 ^ i % 2) = bitI x i := by
  have := bitI_range x i
  exact wrap_u8 this.1 (by have := this.2; omega)
theorem bit_u64 (x : Int) (i : Nat) : IntKind.u64.wrap (x / 2 ^ i % 2) = ((bitI x i).toNat : Int) := by
  have := bitI_range x i
  exact (wrap_u64 this.1 (by have := this.2; unfold bitI at this; omega)).trans (show bitI x i = _ by omega)
theorem conv_nat {x : Int} (h0 : 0 ≤ x) (h1 : x ≤ 255) : IntKind.i64.wrap x = (x.toNat : Int) := (wrap_i64 (by omega) (by omega)).trans (by omega)
theorem u64_and1 {a : Nat} (ha : a < 2 ^ 64) : IntKind.u64.wrap (BitVec.ofInt 64 (a : Int) &&& BitVec.ofInt 64 (1 : Int)).toNat = ((a % 2 : Nat) : Int) := by
  have := u64_and (a := a) (b := 1) ha (by decide)
  rw [Nat.and_one_is_mod] at this
  exact this
theorem lt62 {a i : Nat} (h : a < 2 ^ i) (hi : i ≤ 62) : a < 2 ^ 62 := Nat.lt_of_lt_of_le h (pow_le_of hi)
theorem bits_next (x : Int) (m j : Nat) (hj : j < m) : mixTo (bitsI x m) (List.replicate m 0) (j + 1) = (mixTo (bitsI x m) (List.replicate m 0) j).set (0 + (j : Int).toNat) (bitI x j) := by
  rw [mixTo_step (by simp [bitsI]) j (by simp [bitsI]; exact hj), bitsI, range_get _ _ _ hj]
theorem bits_mix (x : Int) (m : Nat) : mixTo (bitsI x m) (List.replicate m 0) m = bitsI x m := by
  have := mixTo_all (a := bitsI x m) (b := List.replicate m 0) (by simp [bitsI])
  rwa [List.length_replicate] at this
theorem Net.from_next (n : Net) (s : Int) (j : Nat) (hj : j < n.regs.length) : mixTo (n.fromN s) (List.replicate n.regs.length 0) (j + 1) = (mixTo (n.fromN s) (List.replicate n.regs.length 0) j).set (0 + (j : Int).toNat) (maskOf (bitI s j)) := by
  rw [mixTo_step (by simp [Net.fromN]) j (by simp [Net.fromN]; exact hj), Net.fromN, range_get _ _ _ hj]
theorem Net.from_mix (n : Net) (s : Int) : mixTo (n.fromN s) (List.replicate n.regs.length 0) n.regs.length = n.fromN s := by
  have := mixTo_all (a := n.fromN s) (b := List.replicate n.regs.length 0) (by simp [Net.fromN])
  rwa [List.length_replicate] at this
theorem mix_get {α : Type} [Inhabited α] {a b : List α} (h : a.length = b.length) (i : Nat) (hi : i < b.length) : (mixTo a b i).getD (0 + (i : Int).toNat) default = b.getD i default := by
  have e0 : 0 + (i : Int).toNat = i := by omega
  have e1 : (a.take i).length = i := by simp; omega
  rw [e0, mixTo, List.getD_eq_getElem?_getD, List.getElem?_append_right (by omega), e1, List.getElem?_drop, List.getD_eq_getElem?_getD]
  congr 2
  omega
theorem Net.lane_next (n : Net) (base k i : Nat) (hi : i < n.ins.length) : mixTo (n.lanes base (k + 1)) (n.lanes base k) (i + 1) =
    (mixTo (n.lanes base (k + 1)) (n.lanes base k) i).set (0 + (i : Int).toNat) ((mixTo (n.lanes base (k + 1)) (n.lanes base k) i).getD (0 + (i : Int).toNat) default ||| ((bitI ((base : Int) + (k : Int)) i).toNat <<< k)) := by
  have hl : (n.lanes base (k + 1)).length = (n.lanes base k).length := by rw [n.lanes_length, n.lanes_length]
  rw [mixTo_step hl i (by rw [n.lanes_length]; exact hi), mix_get hl i (by rw [n.lanes_length]; exact hi), Net.lanes, Net.lanes, range_get _ _ _ hi, range_get _ _ _ hi]
  rfl
theorem Net.lane_mix (n : Net) (base k : Nat) : mixTo (n.lanes base (k + 1)) (n.lanes base k) n.ins.length = n.lanes base (k + 1) := by
  have := mixTo_all (a := n.lanes base (k + 1)) (b := n.lanes base k) (by rw [n.lanes_length, n.lanes_length])
  rwa [n.lanes_length] at this
/-- How many inputs there are. -/
def Net.many2 (n : Net) : Nat := 1 <<< n.ins.length
theorem Net.many2_le {n : Net} (h : n.ins.length ≤ 10) : n.many2 ≤ 1024 := by
  rw [Net.many2, Nat.shiftLeft_eq, Nat.one_mul]
  exact pow_le_of (m := 10) h
structure Net.Go (n : Net) : Prop where
  v : n.valid = true
  i : n.ins.length ≤ 10
  r : n.regs.length ≤ 12
end Go.Proofs.YtnnklpmgncbgnaaGreat
