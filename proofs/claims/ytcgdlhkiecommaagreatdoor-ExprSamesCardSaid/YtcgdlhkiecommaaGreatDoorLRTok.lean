/- The reference's tokens: numbers, quotes, one token. -/
import Derived.Test.YtcgdlhkiecommaaGreatDoorLPlace
set_option linter.all false
namespace Go.Proofs.YtcgdlhkiecommaaGreatDoor
open Go
theorem isBlankC_int (c : UInt8) : (((((c.toNat : Int) == 32) || ((c.toNat : Int) == 9)) || ((c.toNat : Int) == 13)) || ((c.toNat : Int) == 10)) = isBlankC c := by
  rw [isBlankC, ← u8_int c 32, ← u8_int c 9, ← u8_int c 13, ← u8_int c 10, Bool.or_assoc, Bool.or_assoc]; rfl
theorem tw_mem {p : UInt8 → Bool} : ∀ {l : Bs} {c : UInt8}, c ∈ l.takeWhile p → p c = true
  | [], c, h => by simp at h
  | d :: l, c, h => by
    rw [List.takeWhile_cons] at h
    cases hd : p d with
    | false => rw [hd] at h; simp at h
    | true =>
      rw [hd, if_pos rfl, List.mem_cons] at h
      rcases h with rfl | h
      · exact hd
      · exact tw_mem h
/-! ### Numbers -/
def numR (s : Bs) : Int := if decV s ≤ 2147483647 then (decV s : Int) else -1
theorem decV_take {s : Bs} {i : Nat} (h : i < s.length) : decV (s.take (i + 1)) = 10 * decV (s.take i) + ((s.getD i default).toNat - 48) := by
  rw [take_snoc s i h, decV_snoc]
theorem decI_take {s : Bs} {i : Nat} (h : i < s.length) (hd : 48 ≤ (s.getD i default).toNat) : (10 : Int) * (decV (s.take i) : Int) + (((s.getD i default).toNat : Int) - 48) = (decV (s.take (i + 1)) : Int) := by
  rw [decV_take h]; omega
theorem decV_app (a b : Bs) : decV a ≤ decV (a ++ b) := by
  have : decV (a ++ b) = decFrom (decV a) b := by simp [decV, decFrom, List.foldl_append]
  rw [this]; exact decFrom_ge b _
theorem decV_mono (s : Bs) (i : Nat) : decV (s.take i) ≤ decV s := by
  have := decV_app (s.take i) (s.drop i)
  rwa [List.take_append_drop] at this
theorem digit_at {s : Bs} (hd : s.all isDigitC = true) {i : Nat} (h : i < s.length) : 48 ≤ (s.getD i default).toNat ∧ (s.getD i default).toNat ≤ 57 := by
  rw [← digit_iff]
  exact List.all_eq_true.1 hd _ (getD_mem h)
theorem num_big {s : Bs} {i : Nat} (h : i < s.length) (hd : s.all isDigitC = true) (hb : decide ((10 : Int) * (decV (s.take i) : Int) + (((s.getD i default).toNat : Int) - 48) > 2147483647) = true) : numR s = -1 := by
  rw [decI_take h (digit_at hd h).1, decide_eq_true_eq] at hb
  have := decV_mono s (i + 1)
  rw [numR, if_neg (by omega)]
theorem num_fits {s : Bs} (h : decV (s.take s.length) ≤ 2147483647) : ((decV (s.take s.length) : Nat) : Int) = numR s := by
  rw [List.take_length] at h ⊢
  rw [numR, if_pos h]
/-! ### Quotes -/
def quoN (s : Bs) (j : Nat) (k : Int) : Nat := ((s.drop (j + 1)).takeWhile (ofK · k)).length
def quoI (s : Bs) (j : Nat) (k lo hi : Int) : Int :=
  bif decide ((j : Int) ≥ (s.length : Int)) || (((s.getD j default).toNat : Int) != 34) then -1 else
  bif ((decide ((quoN s j k : Int) < lo) || decide ((quoN s j k : Int) > hi)) || decide (((j : Int) + 1) + (quoN s j k : Int) ≥ (s.length : Int))) || (((s.getD (((j : Int) + 1) + (quoN s j k : Int)).toNat default).toNat : Int) != 34) then -1 else (quoN s j k : Int)
theorem drop_one {s : Bs} {j : Nat} {c : UInt8} {r : Bs} (h : s.drop j = c :: r) : s.drop (j + 1) = r ∧ j < s.length ∧ s.getD j default = c := by
  have h1 : s.drop (j + 1) = (s.drop j).drop 1 := by rw [List.drop_drop]
  have h2 := congrArg List.length h
  rw [List.length_drop, List.length_cons] at h2
  refine ⟨by rw [h1, h]; rfl, by omega, ?_⟩
  have := getD_drop (s := s) (i := j) (q := 0)
  rw [h, Nat.add_zero] at this
  exact this.symm
theorem quo_of {s : Bs} {j : Nat} {k lo hi : Int} {u q : Bs} (hd : s.drop j = 34 :: (u ++ 34 :: q)) (hk : ofK 34 k = false) (hu : ∀ c ∈ u, ofK c k = true) (h1 : lo ≤ u.length) (h2 : (u.length : Int) ≤ hi) : quoI s j k lo hi = u.length := by
  obtain ⟨e1, e2, e3⟩ := drop_one hd
  have hn : quoN s j k = u.length := by
    rw [quoN, e1, tw_app hu (by intro c hc; simp at hc; subst hc; exact hk)]
  have hl := congrArg List.length e1
  rw [List.length_drop, List.length_append, List.length_cons] at hl
  have e4 : s.getD (j + 1 + u.length) default = 34 := by
    rw [← getD_drop, e1, List.getD_eq_getElem?_getD, List.getElem?_append_right (Nat.le_refl _), Nat.sub_self]; rfl
  have b1 : (decide ((j : Int) ≥ (s.length : Int)) || (((s.getD j default).toNat : Int) != 34)) = false := by
    rw [e3, decide_eq_false (by omega)]; rfl
  have e5 : (((j : Int) + 1) + (u.length : Int)).toNat = j + 1 + u.length := by omega
  rw [quoI, b1, cond_false, hn, e5, e4, decide_eq_false (by omega), decide_eq_false (by omega), decide_eq_false (by omega)]; rfl
theorem quo_inv {s : Bs} {j : Nat} {k lo hi : Int} (h : decide (quoI s j k lo hi ≥ 0) = true) : ∃ u q, s.drop j = 34 :: (u ++ 34 :: q) ∧ (∀ c ∈ u, ofK c k = true) ∧ lo ≤ u.length ∧ (u.length : Int) ≤ hi ∧ quoI s j k lo hi = u.length := by
  rw [decide_eq_true_eq] at h
  cases b1 : (decide ((j : Int) ≥ (s.length : Int)) || (((s.getD j default).toNat : Int) != 34)) with
  | true => rw [quoI, b1, cond_true] at h; omega
  | false =>
    rw [quoI, b1, cond_false] at h
    rw [quoI, b1, cond_false]
    cases b2 : (((decide ((quoN s j k : Int) < lo) || decide ((quoN s j k : Int) > hi)) || decide (((j : Int) + 1) + (quoN s j k : Int) ≥ (s.length : Int))) || (((s.getD (((j : Int) + 1) + (quoN s j k : Int)).toNat default).toNat : Int) != 34)) with
    | true => rw [b2, cond_true] at h; omega
    | false =>
      rw [cond_false]
      simp only [Bool.or_eq_false_iff, decide_eq_false_iff_not, bne_eq_false_iff_eq] at b1 b2
      obtain ⟨b1, b3⟩ := b1
      obtain ⟨⟨⟨c1, c2⟩, c3⟩, c4⟩ := b2
      have e5 : (((j : Int) + 1) + (quoN s j k : Int)).toNat = j + 1 + quoN s j k := by omega
      rw [e5] at c4
      have t1 : s.getD j default = 34 := UInt8.toNat_inj.1 (by show _ = 34; omega)
      have t2 : s.getD (j + 1 + quoN s j k) default = 34 := UInt8.toNat_inj.1 (by show _ = 34; omega)
      have d1 : s.drop j = 34 :: s.drop (j + 1) := by rw [drop_cons s j (by omega), t1]
      have d2 : s.drop (j + 1 + quoN s j k) = 34 :: s.drop (j + 1 + quoN s j k + 1) := by rw [drop_cons s _ (by omega), t2]
      have d3 : s.drop (j + 1) = (s.drop (j + 1)).takeWhile (ofK · k) ++ 34 :: s.drop (j + 1 + quoN s j k + 1) := by
        have e := List.prefix_iff_eq_take.1 (List.takeWhile_prefix (ofK · k) (l := s.drop (j + 1)))
        conv => lhs; rw [← List.take_append_drop (quoN s j k) (s.drop (j + 1)), List.drop_drop, d2]
        rw [quoN, ← e]
      refine ⟨_, _, by rw [d1]; exact congrArg _ d3, fun c hc => tw_mem hc, ?_, ?_, rfl⟩
      · show lo ≤ (quoN s j k : Int); omega
      · show (quoN s j k : Int) ≤ hi; omega
/-! ### One token -/
theorem b46 {s : Bs} {i : Nat} (h : i < s.length) : (((((s.drop i).getD 0 default).toNat : Int) == 98) && decide ((i : Int) + 1 < (s.length : Int)) && (((s.getD ((i : Int) + 1).toNat default).toNat : Int) == 34)) = [98, 34].isPrefixOf (s.drop i) := by
  have e : ((i : Int) + 1).toNat = i + 1 := by omega
  have hd := drop_cons s i h
  rw [pre_two, e, hd]
  show ((((s.getD i default).toNat : Int) == 98) && _ && _) = (s.getD i default == 98 && (s.drop (i + 1)).head? == some 34)
  rw [← u8_int (s.getD i default) 98, Bool.and_assoc]
  congr 1
  by_cases h2 : i + 1 < s.length
  · rw [decide_eq_true (by omega), drop_cons s (i + 1) h2, List.head?_cons, Bool.true_and]
    show _ = (s.getD (i + 1) default == 34)
    rw [← u8_int]; rfl
  · rw [decide_eq_false (by omega), List.drop_eq_nil_iff.2 (by omega)]; rfl
theorem run_cut {d : Bs} {p : UInt8 → Bool} {i : Nat} : d.take (i + (d.takeWhile p).length - i) = d.takeWhile p := by
  rw [Nat.add_sub_cancel_left]
  exact (List.prefix_iff_eq_take.1 (List.takeWhile_prefix p)).symm
theorem vec_of {u : Bs} (h : ∀ c ∈ u, ofK c 2 = true) (h1 : (1 : Int) ≤ u.length) (h2 : (u.length : Int) ≤ 64) : isVecL u = true := by
  rw [isVecL, Bool.and_eq_true, Bool.and_eq_true, decide_eq_true_eq, List.all_eq_true]
  refine ⟨?_, by omega, h⟩
  cases u with
  | nil => simp at h1
  | cons => rfl
theorem text_of {u : Bs} (h : ∀ c ∈ u, ofK c 3 = true) (h2 : (u.length : Int) ≤ 60) : isTextL u = true := by
  rw [isTextL, Bool.and_eq_true, decide_eq_true_eq, List.all_eq_true]
  exact ⟨by omega, h⟩
theorem tokA_of {d : Bs} {op : Int} {t : Bs} {n : Int} {m : Nat} (h : Shape d op t n m) : tokA d = (op, t, n, m) := by rw [tokA, of_shape h]; rfl
theorem tokA_no {d : Bs} (h : tok d = none) : tokA d = (0, [], 0, 0) := by rw [tokA, h]; rfl
section
variable {s : Bs} {i : Nat}
theorem rt_vec (h0 : [98, 34].isPrefixOf (s.drop i) = true) (h : decide (quoI s (i + 1) 2 1 64 ≥ 0) = true) : ∃ n : Nat, quoI s (i + 1) 2 1 64 = n ∧ i + 2 + n ≤ s.length ∧ tokA (s.drop i) = (5, (s.drop (i + 2)).take (i + 2 + n - (i + 2)), 0, n + 3) := by
  obtain ⟨u, q, hd, hu, h1, h2, h3⟩ := quo_inv h
  obtain ⟨r, hr⟩ := List.isPrefixOf_iff_prefix.1 h0
  have hr2 : s.drop i = 98 :: 34 :: r := hr.symm
  have e1 := (drop_one hr2).1
  have e2 := (drop_one hd).1
  have hl := congrArg List.length e2
  rw [List.length_drop, List.length_append, List.length_cons] at hl
  rw [e1] at hd
  refine ⟨u.length, h3, by have := (drop_one (j := i + 1) (by rw [e1, hd])).2.1; omega, ?_⟩
  have := Shape.vec (s := s.drop i) u q (by rw [hr2, hd]) (vec_of hu h1 h2)
  rw [tokA_of this, show i + 1 + 1 = i + 2 from rfl] at *
  rw [e2, Nat.add_sub_cancel_left, List.take_left]
theorem rt_novec (h0 : [98, 34].isPrefixOf (s.drop i) = true) (h : decide (quoI s (i + 1) 2 1 64 ≥ 0) = false) : tokA (s.drop i) = (0, [], 0, 0) := by
  refine tokA_no ?_
  cases ht : tok (s.drop i) with
  | none => rfl
  | some x =>
    exfalso
    rw [tok, if_pos h0] at ht
    split at ht
    · rename_i hc
      rw [Bool.and_eq_true] at hc
      obtain ⟨q, hq⟩ := quoted_split hc.1
      obtain ⟨v1, v2, v3⟩ := vec_facts hc.2
      have e : s.drop (i + 1) = (s.drop i).tail := by rw [List.tail_drop]
      have := quo_of (s := s) (j := i + 1) (k := 2) (lo := 1) (hi := 64) (by rw [e]; exact hq) (by decide) v3 (by omega) (by omega)
      rw [this, decide_eq_false_iff_not] at h
      omega
    · cases ht
variable (h0 : [98, 34].isPrefixOf (s.drop i) = false) (hl : isLetterC ((s.drop i).getD 0 default) = false)
include h0 hl
theorem rt_int (h1 : isDigitC ((s.drop i).getD 0 default) = true) : tok (s.drop i) = if ((s.drop i).takeWhile isPartC).all isDigitC && decide (decV ((s.drop i).takeWhile isPartC) ≤ 2147483647) then some ((3 : Int), ([] : Bs), ((decV ((s.drop i).takeWhile isPartC) : Nat) : Int), ((s.drop i).takeWhile isPartC).length) else none := by
  rw [tok, if_neg (by rw [h0]; decide), if_neg (by rw [hl]; decide), if_pos h1]
variable (hd : isDigitC ((s.drop i).getD 0 default) = false)
include hd
theorem rt_39 (h : ((((s.drop i).getD 0 default).toNat : Int) == 39) = true) : tok (s.drop i) = if decide ((s.drop i).length > 2) && ((s.drop i).getD 2 default == 39 && isBitC ((s.drop i).getD 1 default)) then some (4, [(s.drop i).getD 1 default], 0, 3) else none := by
  rw [tok, if_neg (by rw [h0]; decide), if_neg (by rw [hl]; decide), if_neg (by rw [hd]; decide), if_pos (by rw [← u8_int]; exact h)]
theorem rt_34 (h9 : ((((s.drop i).getD 0 default).toNat : Int) == 39) = false) (h : ((((s.drop i).getD 0 default).toNat : Int) == 34) = true) : tok (s.drop i) = if quotedOK (s.drop i) && isTextL (quotedT (s.drop i)) then some (6, quotedT (s.drop i), 0, (quotedT (s.drop i)).length + 2) else none := by
  have e : ((s.drop i).getD 0 default == 39) = false := by rw [← u8_int]; exact h9
  rw [tok, if_neg (by rw [h0]; decide), if_neg (by rw [hl]; decide), if_neg (by rw [hd]; decide), if_neg (by rw [e]; decide), if_pos (by rw [← u8_int]; exact h)]
theorem rt_text (h9 : ((((s.drop i).getD 0 default).toNat : Int) == 39) = false) (h4 : ((((s.drop i).getD 0 default).toNat : Int) == 34) = true) (h : decide (quoI s i 3 0 60 ≥ 0) = true) : ∃ n : Nat, quoI s i 3 0 60 = n ∧ i + 1 + n ≤ s.length ∧ tokA (s.drop i) = (6, (s.drop (i + 1)).take (i + 1 + n - (i + 1)), 0, n + 2) := by
  obtain ⟨u, q, hq, hu, h1, h2, h3⟩ := quo_inv h
  obtain ⟨e2, e3, _⟩ := drop_one hq
  have hl := congrArg List.length e2
  rw [List.length_drop, List.length_append, List.length_cons] at hl
  refine ⟨u.length, h3, by omega, ?_⟩
  rw [tokA_of (Shape.text (s := s.drop i) u q hq (text_of hu h2)), e2, Nat.add_sub_cancel_left, List.take_left]
theorem rt_notext (h9 : ((((s.drop i).getD 0 default).toNat : Int) == 39) = false) (h4 : ((((s.drop i).getD 0 default).toNat : Int) == 34) = true) (h : decide (quoI s i 3 0 60 ≥ 0) = false) : tokA (s.drop i) = (0, [], 0, 0) := by
  refine tokA_no ?_
  rw [rt_34 h0 hl hd h9 h4, if_neg]
  intro hc
  rw [Bool.and_eq_true] at hc
  obtain ⟨q, hq⟩ := quoted_split hc.1
  obtain ⟨v1, v2⟩ := text_facts hc.2
  have := quo_of (s := s) (j := i) (k := 3) (lo := 0) (hi := 60) hq (by decide) v2 (by omega) (by omega)
  rw [this, decide_eq_false_iff_not] at h
  omega
theorem bit_cond (hi : i < s.length) : ((decide ((i : Int) + 2 < (s.length : Int)) && isBitC (s.getD ((i : Int) + 1).toNat default)) && (((s.getD ((i : Int) + 2).toNat default).toNat : Int) == 39)) = (decide ((s.drop i).length > 2) && ((s.drop i).getD 2 default == 39 && isBitC ((s.drop i).getD 1 default))) := by
  rw [show ((i : Int) + 1).toNat = i + 1 from by omega, show ((i : Int) + 2).toNat = i + 2 from by omega, getD_drop, getD_drop, List.length_drop, ← u8_int (s.getD (i + 2) default) 39, Bool.and_assoc]
  congr 1
  · rw [Bool.eq_iff_iff, decide_eq_true_eq, decide_eq_true_eq]; omega
  · rw [Bool.and_comm]; rfl
theorem rt_bit (hi : i < s.length) (h : ((((s.drop i).getD 0 default).toNat : Int) == 39) = true) (hc : ((decide ((i : Int) + 2 < (s.length : Int)) && isBitC (s.getD ((i : Int) + 1).toNat default)) && (((s.getD ((i : Int) + 2).toNat default).toNat : Int) == 39)) = true) : i + 2 < s.length ∧ tokA (s.drop i) = (4, (s.drop (i + 1)).take (i + 2 - (i + 1)), 0, 3) := by
  have hlt : i + 2 < s.length := by
    rw [Bool.and_eq_true, Bool.and_eq_true, decide_eq_true_eq] at hc; omega
  refine ⟨hlt, ?_⟩
  rw [bit_cond h0 hl hd hi] at hc
  rw [tokA, rt_39 h0 hl hd h, if_pos hc, drop_cons s (i + 1) (by omega), show i + 2 - (i + 1) = 1 from by omega, getD_drop]; rfl
theorem rt_nobit (hi : i < s.length) (h : ((((s.drop i).getD 0 default).toNat : Int) == 39) = true) (hc : ((decide ((i : Int) + 2 < (s.length : Int)) && isBitC (s.getD ((i : Int) + 1).toNat default)) && (((s.getD ((i : Int) + 2).toNat default).toNat : Int) == 39)) = false) : tokA (s.drop i) = (0, [], 0, 0) := by
  rw [bit_cond h0 hl hd hi] at hc
  rw [tokA, rt_39 h0 hl hd h, if_neg (by rw [hc]; decide)]; rfl
end
theorem digit_tw {d : Bs} : (d.takeWhile isDigitC).all isDigitC = true := by
  rw [List.all_eq_true]; intro c hc; exact tw_mem hc
theorem digit_part {d : Bs} (h : ((d.takeWhile isPartC).length : Int) = ((d.takeWhile isDigitC).length : Int)) : d.takeWhile isPartC = d.takeWhile isDigitC := by
  have e1 := List.prefix_iff_eq_take.1 (List.takeWhile_prefix isPartC (l := d))
  have e2 := List.prefix_iff_eq_take.1 (List.takeWhile_prefix isDigitC (l := d))
  rw [e1, e2, show (d.takeWhile isPartC).length = (d.takeWhile isDigitC).length from by omega]
theorem digit_all {d : Bs} (h : (d.takeWhile isPartC).all isDigitC = true) : d.takeWhile isDigitC = d.takeWhile isPartC := by
  have hp : ∀ c, isPartC c = false → isDigitC c = false := by
    intro c hc
    rw [isPartC, Bool.or_eq_false_iff, Bool.or_eq_false_iff] at hc; exact hc.1.2
  conv => lhs; rw [tw_parts d]
  exact tw_app (fun c hc => List.all_eq_true.1 h c hc) (fun c hc => hp c (tw_head hc))
theorem int_cond {d : Bs} : (decide (numR (d.takeWhile isDigitC) ≥ 0) && (((d.takeWhile isPartC).length : Int) == ((d.takeWhile isDigitC).length : Int))) = ((d.takeWhile isPartC).all isDigitC && decide (decV (d.takeWhile isPartC) ≤ 2147483647)) := by
  rw [Bool.eq_iff_iff, Bool.and_eq_true, Bool.and_eq_true, decide_eq_true_eq, decide_eq_true_eq, beq_iff_eq]
  constructor
  · rintro ⟨h1, h2⟩
    have e := digit_part h2
    rw [e]
    refine ⟨digit_tw, ?_⟩
    rw [numR] at h1
    split at h1
    · assumption
    · omega
  · rintro ⟨h1, h2⟩
    have e := digit_all h1
    rw [e]
    refine ⟨?_, rfl⟩
    rw [numR, if_pos h2]; omega
theorem rt_int_yes {s : Bs} {i : Nat} (h0 : [98, 34].isPrefixOf (s.drop i) = false) (hl : isLetterC ((s.drop i).getD 0 default) = false) (h1 : isDigitC ((s.drop i).getD 0 default) = true)
    (h : (decide (numR ((s.drop i).takeWhile isDigitC) ≥ 0) && ((((s.drop i).takeWhile isPartC).length : Int) == (((s.drop i).takeWhile isDigitC).length : Int))) = true) : tokA (s.drop i) = (3, [], numR ((s.drop i).takeWhile isDigitC), ((s.drop i).takeWhile isDigitC).length) := by
  have h2 := h
  rw [int_cond] at h2
  rw [tokA, rt_int h0 hl h1, if_pos h2]
  have e := digit_all (Bool.and_eq_true_iff.1 h2).1
  rw [e, numR, if_pos (of_decide_eq_true (Bool.and_eq_true_iff.1 h2).2)]; rfl
theorem rt_int_no {s : Bs} {i : Nat} (h0 : [98, 34].isPrefixOf (s.drop i) = false) (hl : isLetterC ((s.drop i).getD 0 default) = false) (h1 : isDigitC ((s.drop i).getD 0 default) = true)
    (h : (decide (numR ((s.drop i).takeWhile isDigitC) ≥ 0) && ((((s.drop i).takeWhile isPartC).length : Int) == (((s.drop i).takeWhile isDigitC).length : Int))) = false) : tokA (s.drop i) = (0, [], 0, 0) := by
  rw [int_cond] at h
  rw [tokA, rt_int h0 hl h1, if_neg (by rw [h]; decide)]; rfl
theorem sign_cond {s x : Bs} {i : Nat} (hi : i ≤ s.length) : (decide ((i : Int) + (x.length : Int) ≤ (s.length : Int)) && ((s.drop i).take (i + x.length - i) == x)) = x.isPrefixOf (s.drop i) := by
  rw [Nat.add_sub_cancel_left, Bool.eq_iff_iff, Bool.and_eq_true, decide_eq_true_eq, beq_iff_eq, List.isPrefixOf_iff_prefix, List.prefix_iff_eq_take]
  constructor
  · rintro ⟨_, h⟩; exact h.symm
  · intro h
    refine ⟨?_, h.symm⟩
    have := congrArg List.length h
    rw [List.length_take, List.length_drop] at this; omega
/-! ### Places and blanks -/
theorem com_cond {s : Bs} {j : Nat} (h : j < s.length) : (((((s.getD j default).toNat : Int) == 45) && decide ((j : Int) + 1 < (s.length : Int))) && (((s.getD ((j : Int) + 1).toNat default).toNat : Int) == 45)) = [45, 45].isPrefixOf (s.drop j) := by
  rw [show ((j : Int) + 1).toNat = j + 1 from by omega, drop_cons s j h, Bool.and_assoc, show (((s.getD j default).toNat : Int) == 45) = (s.getD j default == 45) from u8_int _ 45, show (((s.getD (j + 1) default).toNat : Int) == 45) = (s.getD (j + 1) default == 45) from u8_int _ 45]
  by_cases h2 : j + 1 < s.length
  · rw [decide_eq_true (by omega), drop_cons s (j + 1) h2, Bool.true_and]
    show _ = ((45 : UInt8) == s.getD j default && ((45 : UInt8) == s.getD (j + 1) default && true))
    rw [Bool.and_true, BEq.comm (a := (45 : UInt8)), BEq.comm (a := (45 : UInt8))]
  · rw [decide_eq_false (by omega), List.drop_eq_nil_iff.2 (by omega)]
    show _ = ((45 : UInt8) == s.getD j default && false)
    simp
theorem run_line (l : Bs) : (l.takeWhile (ofK · 4)).length = lineLen l := by
  rw [lineLen]
  congr 2
  funext c
  show ((c.toNat : Int) != 10) = (c != 10)
  rw [bne, bne, show ((c.toNat : Int) == 10) = (c == 10) from u8_int c 10]
/-! ### Writing -/
theorem most_bad {s : Bs} {acc : List Tk} {i : Nat} (hl : lex s = (acc ++ (lexFrom s i).1, (lexFrom s i).2)) (hb : lexFrom s i = ([], badF s i)) : lex s = (acc, badF s i) := by
  rw [hl, hb, List.append_nil]
theorem most_ok {s : Bs} {acc : List Tk} {i : Nat} (hl : lex s = (acc ++ (lexFrom s i).1, (lexFrom s i).2)) (hi : i ≤ s.length) (he : ¬ i < s.length) : lex s = (acc, okF) := by
  rw [lexFrom_end s i hi (by rw [next_end s i he]; exact he)] at hl
  rw [hl, List.append_nil]
theorem lex_code {s : Bs} (h : ((lex s).2.code != 0) = false) : (lex s).2 = okF := by
  obtain ⟨l, e, h1, h2⟩ := run_ex s s.length 0 (Nat.zero_le _) (by omega)
  have e1 : lex s = (l.map (·.2), endF s e) := h2
  rw [e1] at h ⊢
  cases e with
  | none => rfl
  | some j => exact absurd h (show ¬ ((10 : Int) != 0) = false by decide)
theorem lexP_no {s : Bs} (hl : decide ((s.length : Int) > 20000) = false) (h : ((lex s).2.code != 0) = true) : lexP s = ([], (lex s).2) := by
  rw [decide_eq_false_iff_not] at hl
  rw [lexP, if_neg (by omega), if_neg (by simpa using h)]
theorem lexP_yes {s : Bs} (hl : decide ((s.length : Int) > 20000) = false) (h : ((lex s).2.code != 0) = false) : lexP s = ((lex s).1, (lex s).2) := by
  rw [decide_eq_false_iff_not] at hl
  rw [lexP, if_neg (by omega), if_pos (by simpa using h), lex_code h]
theorem lex_clo (s : Bs) : (AVal.tuple [.list 5 ((lex s).1.map encK), .agg (encF (lex s).2)]).clo = true := rfl
/-! ### The limit -/
theorem alike_self (l : List Tk) : alikeL l l = true := by rw [alikeL, beq_self_eq_true]
end Go.Proofs.YtcgdlhkiecommaaGreatDoor
