import Derived.Test.YtcgdlhkiecommaaGreatDoorXRef3
import Derived.Test.YtcgdlhkiecommaaGreatDoorXDec
import Derived.Test.YtcgdlhkiecommaaGreatDoorXWr

import Derived.Test.YtcgdlhkiecommaaGreatDoorShelf
import Derived.Shelf.Strings.BuilderK
import Derived.Lib.FrozenHead2
import Derived.Lib.OthersKept
import Derived.WalkKit



/- What few parts are: how many nodes, how long names, how many tokens; all tokens can be written. -/




set_option linter.all false
namespace Go.Proofs.YtcgdlhkiecommaaGreatDoor
open Go
mutual
def nodes : Ex → Nat
  | .mk _ _ _ _ _ k _ _ _ => nodesL k + 1
def nodesL : List Ex → Nat
  | [] => 0
  | e :: r => nodes e + nodesL r
end
theorem nodes_eq (e : Ex) : nodes e = nodesL e.kids + 1 := by cases e; rfl
theorem nodes_len (l : List Ex) : l.length ≤ nodesL l := by
  induction l with
  | nil => exact Nat.le_refl _
  | cons a l ih => have := nodes_eq a; simp only [nodesL, List.length_cons]; omega
mutual
def smE : Ex → Bool
  | .mk _ s _ b _ k _ _ _ => (decide (s.length ≤ 200000) && decide (b.length ≤ 3000)) && smEs k
def smEs : List Ex → Bool
  | [] => true
  | e :: r => smE e && smEs r
end
theorem smE_facts {e : Ex} (h : smE e = true) : e.name.length ≤ 200000 ∧ e.bits.length ≤ 3000 ∧ ∀ k ∈ e.kids, smE k = true := by
  have hl : ∀ l : List Ex, smEs l = true → ∀ k ∈ l, smE k = true := by
    intro l
    induction l with
    | nil => intro _ k hk; cases hk
    | cons a l ih =>
      intro h k hk
      rw [smEs, Bool.and_eq_true] at h
      cases hk with
      | head => exact h.1
      | tail _ hk => exact ih h.2 k hk
  cases e with
  | mk o s n b v k t l c =>
    rw [smE] at h
    simp only [Bool.and_eq_true, decide_eq_true_eq] at h
    exact ⟨h.1.1, h.1.2, hl k h.2⟩
theorem smE_of {e : Ex} (h1 : e.name.length ≤ 200000) (h2 : e.bits.length ≤ 3000) (h3 : ∀ k ∈ e.kids, smE k = true) : smE e = true := by
  have hl : ∀ l : List Ex, (∀ k ∈ l, smE k = true) → smEs l = true := by
    intro l
    induction l with
    | nil => intro _; rfl
    | cons a l ih => intro h; rw [smEs, h a (by simp), ih fun k hk => h k (by simp [hk])]; rfl
  cases e with
  | mk o s n b v k t l c =>
    rw [smE, hl k h3]
    have h1 : s.length ≤ 200000 := h1
    have h2 : b.length ≤ 3000 := h2
    rw [decide_eq_true h1, decide_eq_true h2]; rfl
theorem partsEs_few {l : List Ex} {d : Nat} (hl : ∀ k ∈ l, ∀ n : Int, 0 ≤ n → n ≤ 3000 → 0 ≤ partsE k n (d + 1) → partsE k n (d + 1) + nodes k ≤ n ∧ smE k = true ∧ height k + (d + 1) ≤ 300) :
    ∀ n : Int, n ≤ 3000 → 0 ≤ partsEs l n d → partsEs l n d + nodesL l ≤ n ∧ (∀ k ∈ l, smE k = true ∧ height k + (d + 1) ≤ 300) := by
  induction l with
  | nil => intro n _ h; exact ⟨by simp [partsEs, nodesL], fun k hk => by cases hk⟩
  | cons a l ih =>
    intro n hn h
    rw [partsEs] at h ⊢
    by_cases h0 : n < 0
    · rw [if_pos h0] at h; omega
    · rw [if_neg h0] at h ⊢
      have hp : 0 ≤ partsE a n (d + 1) := by
        rcases Int.lt_or_le (partsE a n (d + 1)) 0 with h1 | h1
        · rw [partsEs_lt h1] at h; exact h
        · exact h1
      obtain ⟨g1, g2, g3⟩ := hl a (by simp) n (by omega) hn hp
      obtain ⟨g4, g5⟩ := ih (fun k hk => hl k (by simp [hk])) _ (by omega) h
      refine ⟨by simp only [nodesL]; omega, fun k hk => ?_⟩
      rcases List.mem_cons.1 hk with rfl | hk
      · exact ⟨g2, g3⟩
      · exact g5 k hk
theorem heights_le {l : List Ex} {b : Nat} (h : ∀ k ∈ l, height k + 1 ≤ b) : heights l ≤ b := by
  induction l with
  | nil => exact Nat.zero_le _
  | cons a l ih => have := h a (by simp); have := ih (fun k hk => h k (by simp [hk])); rw [heights]; omega
theorem partsE_few (e : Ex) : ∀ (n : Int) (d : Nat), 0 ≤ n → n ≤ 3000 → 0 ≤ partsE e n d → partsE e n d + nodes e ≤ n ∧ smE e = true ∧ height e + d ≤ 300 := by
  induction e using Ex.ind with
  | h e ih =>
    intro n d h0 hn h
    by_cases hd : 300 < d
    · rw [partsE_no hd] at h; omega
    · rw [partsE_eq hd] at h ⊢
      have hs : 0 ≤ n - (((((1 + (e.bits.length : Int)) + (e.name.length / 50 : Nat)) + e.val.bits.length) + e.val.list.length) + e.type.names.length + e.type.elem.length) := by
        rcases Int.lt_or_le (n - (((((1 + (e.bits.length : Int)) + (e.name.length / 50 : Nat)) + e.val.bits.length) + e.val.list.length) + e.type.names.length + e.type.elem.length)) 0 with h1 | h1
        · rw [partsEs_lt h1] at h; exact h
        · exact h1
      obtain ⟨g1, g2⟩ := partsEs_few (l := e.kids) (d := d) (fun k hk n h0 hn h => ih k hk n (d + 1) h0 hn h) _ (by omega) h
      refine ⟨by rw [nodes_eq]; omega, smE_of (by omega) (by omega) (fun k hk => (g2 k hk).1), ?_⟩
      rw [height_eq]
      have := heights_le (l := e.kids) (b := 300 - d) (fun k hk => by have := (g2 k hk).2; omega)
      omega
theorem few_one {e : Ex} (h : fewP [e] 3000 = true) : nodes e ≤ 3000 ∧ smE e = true ∧ height e ≤ 300 := by
  rw [fewP] at h
  split at h
  · cases h
  · rename_i h2
    have hp : 0 ≤ partsE e 3000 0 := by
      rcases Int.lt_or_le (partsE e 3000 0) 0 with h3 | h3
      · rw [decide_eq_true h3] at h2; simp at h2
      · exact h3
    obtain ⟨g1, g2, g3⟩ := partsE_few e 3000 0 (by omega) (by omega) hp
    exact ⟨by omega, g2, by omega⟩
theorem szE_few (e : Ex) : smE e = true → nuE e = true → nodes e ≤ 3000 → szE e = true := by
  have hl : ∀ l : List Ex, (∀ k ∈ l, szE k = true) → szEs l = true := by
    intro l
    induction l with
    | nil => intro _; rfl
    | cons a l ih => intro h; rw [szEs, h a (by simp), ih fun k hk => h k (by simp [hk])]; rfl
  have hn : ∀ l : List Ex, nuEs l = true → ∀ k ∈ l, nuE k = true := by
    intro l
    induction l with
    | nil => intro _ k hk; cases hk
    | cons a l ih =>
      intro h k hk
      rw [nuEs, Bool.and_eq_true] at h
      cases hk with
      | head => exact h.1
      | tail _ hk => exact ih h.2 k hk
  have hm : ∀ (l : List Ex) (k : Ex), k ∈ l → nodes k ≤ nodesL l := by
    intro l
    induction l with
    | nil => intro k hk; cases hk
    | cons a l ih =>
      intro k hk
      rw [nodesL]
      cases hk with
      | head => omega
      | tail _ hk => have := ih k hk; omega
  induction e using Ex.ind with
  | h e ih =>
    intro h1 h2 h3
    obtain ⟨g1, g2, g3⟩ := smE_facts h1
    rw [nodes_eq] at h3
    have g4 := nodes_len e.kids
    cases e with
    | mk o s n b v k t l c =>
      rw [nuE] at h2
      simp only [Bool.and_eq_true] at h2
      rw [szE, hl k (fun x hx => ih x hx (g3 x hx) (hn k h2.2 x hx) (by have := hm k x hx; simp only [Ex.kids] at h3; omega))]
      simp only [Ex.name, Ex.bits, Ex.kids] at g1 g2 g4 h3
      rw [decide_eq_true (by omega), decide_eq_true (by omega), decide_eq_true (by omega)]
      have hb : b.all (fun x => decide (0 ≤ x)) = true := by
        rw [List.all_eq_true]
        intro x hx
        have := List.all_eq_true.1 h2.1.1.2.2 x hx
        rw [wB, Bool.and_eq_true] at this
        exact this.1
      rw [hb]; rfl
structure OKk (t : Tk) : Prop where
  poss : possT t = true
  text : t.text.length ≤ 200000
  int : t.op = 3 → 0 ≤ t.n
  n0 : -9223372036854775808 ≤ t.n
  n1 : t.n ≤ 9223372036854775807
theorem tw_all {p : UInt8 → Bool} (l : Bs) (h : ∀ c ∈ l, p c = true) : l.takeWhile p = l := by
  induction l with
  | nil => rfl
  | cons a l ih => rw [List.takeWhile_cons, h a (by simp), if_pos rfl, ih fun c hc => h c (by simp [hc])]
theorem bitC_bit {x : Int} (h0 : 0 ≤ x) (h3 : x ≤ 3) : isBitC (bitC x) = true := by
  have : x = 0 ∨ x = 1 ∨ x = 2 ∨ x = 3 := by omega
  rcases this with rfl | rfl | rfl | rfl <;> decide
theorem tkS_ok {s : Bs} (h : (isWordL s || signsL.contains s) = true) (hl : s.length ≤ 200000) : OKk (tkS s) := by
  rw [tkS]
  cases hw : isWordL s with
  | true => exact ⟨by rw [possT]; simp [hw], hl, (by intro h; cases h), by simp, by simp⟩
  | false =>
    rw [hw, Bool.false_or, List.contains_iff_mem] at h
    exact ⟨by rw [possT]; simp [h], hl, (by intro h; cases h), by simp, by simp⟩
theorem ops_ok {s : Bs} (h : 0 ≤ strengthI s) : (isWordL s || signsL.contains s) = true ∧ s.length ≤ 200000 := by
  have key : ∀ x ∈ levelsL.flatten, (isWordL x || signsL.contains x) = true ∧ x.length ≤ 200000 := by
    have : (levelsL.flatten.all fun x => (isWordL x || signsL.contains x) && decide (x.length ≤ 200000)) = true := by decide +kernel
    intro x hx
    have := List.all_eq_true.1 this x hx
    rw [Bool.and_eq_true, decide_eq_true_eq] at this
    exact this
  refine key s ?_
  have lv : ∀ k, k < 4 → (levelL k).contains s = true → s ∈ levelsL.flatten := by
    intro k hk hc
    rw [List.contains_iff_mem] at hc
    refine List.mem_flatten.2 ⟨levelL k, ?_, hc⟩
    have : k = 0 ∨ k = 1 ∨ k = 2 ∨ k = 3 := by omega
    rcases this with rfl | rfl | rfl | rfl <;> simp [levelL, levelsL]
  rw [strengthI] at h
  split at h
  · exact lv 0 (by omega) (by assumption)
  · split at h
    · exact lv 1 (by omega) (by assumption)
    · split at h
      · exact lv 2 (by omega) (by assumption)
      · split at h
        · exact lv 3 (by omega) (by assumption)
        · omega
theorem inBr_all {p : Tk → Prop} {t : List Tk} (hO : p tkO) (hC : p tkC) (h : ∀ x ∈ t, p x) : ∀ x ∈ inBr t, p x := by
  rw [inBr_eq]
  intro x hx
  simp only [List.mem_append, List.mem_singleton] at hx
  rcases hx with (rfl | hx) | rfl
  · exact hO
  · exact h x hx
  · exact hC
theorem kidTk_all {p : Tk → Prop} {k : Ex} {n : Int} (hO : p tkO) (hC : p tkC) (h : ∀ x ∈ toks k, p x) : ∀ x ∈ kidTk k n, p x := by
  rw [kidTk]; split
  · exact inBr_all hO hC h
  · exact h
theorem sepT_all {p : Tk → Prop} {s : Bs} {ts : List (List Tk)} (hs : p (tkS s)) (h : ∀ t ∈ ts, ∀ x ∈ t, p x) : ∀ x ∈ sepT s ts, p x := by
  induction ts with
  | nil => intro x hx; cases hx
  | cons a r ih =>
    cases r with
    | nil => exact h a (by simp)
    | cons b r =>
      intro x hx
      rw [sepT] at hx
      simp only [List.mem_append, List.mem_cons] at hx
      rcases hx with hx | rfl | hx
      · exact h a (by simp) x hx
      · exact hs
      · exact ih (fun t ht => h t (by simp [List.mem_cons] at ht ⊢; right; exact ht)) x hx
      · intro h2; cases h2
theorem tkO_ok : OKk tkO := tkO_eq ▸ tkS_ok (by decide +kernel) (by decide)
theorem tkC_ok : OKk tkC := tkC_eq ▸ tkS_ok (by decide +kernel) (by decide)
theorem toks_ok (e : Ex) : formP e = true → szE e = true → smE e = true → ∀ t ∈ toks e, OKk t := by
  induction e using Ex.ind with
  | h e ih =>
    intro hf hz hm
    obtain ⟨z1, z2, z3, z4, z5⟩ := szE_facts hz
    obtain ⟨m1, m2, m3⟩ := smE_facts hm
    have hk : ∀ i, i < e.kids.length → ∀ t ∈ toks (e.kids.getD i default), OKk t := fun i hi => ih _ (getD_mem hi) (form_kid hf _ (getD_mem hi)) (z5 _ (getD_mem hi)) (m3 _ (getD_mem hi))
    have ht := form_op hf
    rw [tailR] at ht
    rcases kind_of hf with ⟨h1, hk0⟩ | ⟨h1, hk0⟩ | ⟨h1, hk0⟩ | ⟨h1, hn, hk0⟩ | ⟨h1, hn, hk0, hs⟩ | ⟨h1, hn, hk0, hs⟩
    · rcases h1 with h1 | h1 | h1 | h1
      · rw [h1] at ht
        simp only [show ((1 : Int) == 1) = true from rfl, cond_true, Bool.and_eq_true, decide_eq_true_eq] at ht
        rw [(toks_int (by rw [h1]; rfl)).1]
        intro t htm
        obtain rfl := List.mem_singleton.1 htm
        exact ⟨by rw [possT]; simp [ht.1.1, ht.1.2], Nat.zero_le _, fun _ => ht.1.1, by show _ ≤ e.n; omega, by show e.n ≤ _; omega⟩
      · have hb := form_bits2 hf (by rw [h1]; rfl)
        rw [h1] at ht
        simp only [show ((2 : Int) == 1) = false from rfl, show ((2 : Int) == 2) = true from rfl, cond_true, cond_false, Bool.and_eq_true, beq_iff_eq] at ht
        have hl : e.bits.length = 1 := by omega
        rw [(toks_bit (by rw [h1]; rfl) (by rw [h1]; rfl)).1]
        intro t htm
        obtain rfl := List.mem_singleton.1 htm
        obtain ⟨x, hx⟩ : ∃ x, e.bits = [x] := List.length_eq_one_iff.1 hl
        have hb4 := bitC_bit (z4 x (by rw [hx]; simp)) (bits_le hb x (by rw [hx]; simp))
        refine ⟨?_, by rw [bitsT_len]; omega, (by intro h; cases h), by simp, by simp⟩
        rw [possT, hx]
        simp [bitsT, hb4]
      · have hb := form_bits3 hf (by rw [h1]; rfl)
        have hlen := bits_len hb
        rw [(toks_vec (by rw [h1]; rfl) (by rw [h1]; rfl) (by rw [h1]; rfl)).1]
        intro t htm
        obtain rfl := List.mem_singleton.1 htm
        have hall : ∀ c ∈ bitsT e.bits, ofK c 2 = true := by
          intro c hc
          rw [bitsT, List.mem_reverse, List.mem_map] at hc
          obtain ⟨x, hx, rfl⟩ := hc
          have := bitC_bit (z4 x hx) (bits_le hb x hx)
          rw [show ofK (bitC x) 2 = isBitC (bitC x) from rfl]; exact this
        refine ⟨?_, by rw [bitsT_len]; omega, (by intro h; cases h), by simp, by simp⟩
        rw [possT]
        simp only [List.drop_zero]
        rw [tw_all _ hall, bitsT_len]
        simp; omega
      · rw [h1] at ht
        simp only [show ((4 : Int) == 1) = false from rfl, show ((4 : Int) == 2) = false from rfl, show ((4 : Int) == 3) = false from rfl, show ((4 : Int) == 4) = true from rfl, cond_true, cond_false, Bool.and_eq_true] at ht
        rw [(toks_name (by rw [h1]; rfl) (by rw [h1]; rfl) (by rw [h1]; rfl) (by rw [h1]; rfl)).1]
        intro t htm
        obtain rfl := List.mem_singleton.1 htm
        exact ⟨by rw [possT]; simp [tkN, ht.1], m1, (by intro h; cases h), by simp [tkN], by simp [tkN]⟩
    · obtain ⟨o1, o2, o3, o4, o6⟩ := ops6 h1
      rw [(toks_index o1 o2 o3 o4 o6 hk0).1]
      intro t htm
      rcases List.mem_append.1 htm with htm | htm
      · exact kidTk_all tkO_ok tkC_ok (hk 0 (by omega)) t htm
      · exact inBr_all tkO_ok tkC_ok (hk 1 (by omega)) t htm
    · obtain ⟨o1, o2, o3, o4, o6, o7⟩ := ops7 h1
      rw [(toks_slice o1 o2 o3 o4 o6 o7 hk0).1]
      intro t htm
      rcases List.mem_append.1 htm with htm | htm
      · exact kidTk_all tkO_ok tkC_ok (hk 0 (by omega)) t htm
      · refine inBr_all tkO_ok tkC_ok (sepT_all (tkS_ok (by decide +kernel) (by decide)) ?_) t htm
        intro l hl x hx
        obtain ⟨k, hk1, rfl⟩ := List.mem_map.1 hl
        have hkm := List.mem_of_mem_drop hk1
        exact ih k hkm (form_kid hf k hkm) (z5 k hkm) (m3 k hkm) x hx
    · obtain ⟨o1, o2, o3, o4, o6, o7⟩ := ops5 h1
      rw [(toks_call o1 o2 o3 o4 o6 o7 (by rw [binds_call h1 hn]; rfl)).1]
      intro t htm
      rcases List.mem_cons.1 htm with rfl | htm
      · exact ⟨by rw [possT]; simp [tkN, hn], m1, (by intro h; cases h), by simp [tkN], by simp [tkN]⟩
      · refine inBr_all tkO_ok tkC_ok (sepT_all (tkS_ok (by decide +kernel) (by decide)) ?_) t htm
        intro l hl x hx
        obtain ⟨k, hkm, rfl⟩ := List.mem_map.1 hl
        exact ih k hkm (form_kid hf k hkm) (z5 k hkm) (m3 k hkm) x hx
    · obtain ⟨o1, o2, o3, o4, o6, o7⟩ := ops5 h1
      have hb := binds_unary h1 hn hk0
      rw [(toks_one o1 o2 o3 o4 o6 o7 (by rw [hb]; rfl) (by rw [hb]; rfl) hk0).1]
      intro t htm
      rcases List.mem_cons.1 htm with rfl | htm
      · rcases hs with hs | hs <;> rw [hs] <;> exact tkS_ok (by decide +kernel) (by decide)
      · exact kidTk_all tkO_ok tkC_ok (hk 0 (by omega)) t htm
    · obtain ⟨o1, o2, o3, o4, o6, o7⟩ := ops5 h1
      have hb := binds_binary h1 hn hk0
      have hr := str_range e.name
      rw [(toks_two o1 o2 o3 o4 o6 o7 (by rw [hb]; simp; omega) (by rw [hb]; simp; omega) hk0).1]
      intro t htm
      rcases List.mem_append.1 htm with htm | htm
      · exact kidTk_all tkO_ok tkC_ok (hk 0 (by omega)) t htm
      · rcases List.mem_cons.1 htm with rfl | htm
        · obtain ⟨w1, w2⟩ := ops_ok hs
          exact tkS_ok w1 w2
        · exact kidTk_all tkO_ok tkC_ok (hk 1 (by omega)) t htm
def textQ (e : Ex) : Bs × Int := bif validQ e then (joinT (toks e), 0) else ([], 2)
end Go.Proofs.YtcgdlhkiecommaaGreatDoor
/- Names, as the reference gathers them. -/

namespace Go.Proofs.YtcgdlhkiecommaaGreatDoor
open Go
def isNm (e : Ex) : Bool := (e.op == 4) || ((e.op == 5) && isNameL e.name)
def addN (out : List Bs) (e : Ex) : List Bs := bif isNm e && !(out.contains e.name) then out ++ [e.name] else out
mutual
def namesQ : List Bs → Ex → List Bs
  | out, .mk o s n b v k t l c => namesQs (addN out (.mk o s n b v k t l c)) k
def namesQs : List Bs → List Ex → List Bs
  | out, [] => out
  | out, e :: r => namesQs (namesQ out e) r
end
theorem namesQs_fold (l : List Ex) : ∀ out, namesQs out l = l.foldl namesQ out := by
  induction l with
  | nil => intro out; rfl
  | cons a l ih => intro out; rw [namesQs, ih]; rfl
theorem namesQ_eq (out : List Bs) (e : Ex) : namesQ out e = e.kids.foldl namesQ (addN out e) := by rw [← namesQs_fold]; cases e; rfl
theorem addN_no {out : List Bs} {e : Ex} (h : isNm e = false) : addN out e = out := by rw [addN, h]; rfl
theorem fold_inBr (t : List Tk) (out : List Bs) : (inBr t).foldl addName out = t.foldl addName out := by
  rw [inBr_eq, List.foldl_append, List.foldl_append]; rfl
theorem fold_tkS (s : Bs) (out : List Bs) : addName out (tkS s) = out := by
  rw [addName, tkS]; cases isWordL s <;> rfl
theorem fold_kidTk (k : Ex) (n : Int) (out : List Bs) : (kidTk k n).foldl addName out = (toks k).foldl addName out := by
  rw [kidTk]; split
  · rw [fold_inBr]
  · rfl
theorem fold_sepT (s : Bs) (l : List Ex) (out : List Bs) : (sepT s (l.map toks)).foldl addName out = l.foldl (fun o k => (toks k).foldl addName o) out := by
  induction l generalizing out with
  | nil => rfl
  | cons a r ih =>
    cases r with
    | nil => rfl
    | cons b r =>
      show ((toks a) ++ (tkS s :: sepT s ((b :: r).map toks))).foldl addName out = _
      rw [List.foldl_append, List.foldl_cons, fold_tkS, ih]; rfl
theorem names_toks (e : Ex) : formP e = true → ∀ out, namesQ out e = (toks e).foldl addName out := by
  induction e using Ex.ind with
  | h e ih =>
    intro hf out
    have hk : ∀ i, i < e.kids.length → ∀ o, namesQ o (e.kids.getD i default) = (toks (e.kids.getD i default)).foldl addName o := fun i hi => ih _ (getD_mem hi) (form_kid hf _ (getD_mem hi))
    rw [namesQ_eq]
    rcases kind_of hf with ⟨h1, hk0⟩ | ⟨h1, hk0⟩ | ⟨h1, hk0⟩ | ⟨h1, hn, hk0⟩ | ⟨h1, hn, hk0, hs⟩ | ⟨h1, hn, hk0, hs⟩
    · rw [hk0]
      rcases h1 with h1 | h1 | h1 | h1
      · rw [(toks_int (by rw [h1]; rfl)).1, addN_no (by rw [isNm, h1]; rfl)]; rfl
      · rw [(toks_bit (by rw [h1]; rfl) (by rw [h1]; rfl)).1, addN_no (by rw [isNm, h1]; rfl)]; rfl
      · rw [(toks_vec (by rw [h1]; rfl) (by rw [h1]; rfl) (by rw [h1]; rfl)).1, addN_no (by rw [isNm, h1]; rfl)]; rfl
      · rw [(toks_name (by rw [h1]; rfl) (by rw [h1]; rfl) (by rw [h1]; rfl) (by rw [h1]; rfl)).1]
        simp only [List.foldl_nil, List.foldl_cons]
        rw [addN, addName, isNm, h1]
        show _ = if (true && !(out.contains e.name)) = true then _ else _
        cases out.contains e.name <;> rfl
    · obtain ⟨o1, o2, o3, o4, o6⟩ := ops6 h1
      rw [(toks_index o1 o2 o3 o4 o6 hk0).1, addN_no (by rw [isNm, h1]; rfl), List.foldl_append, fold_kidTk, fold_inBr, ← hk 0 (by omega), ← hk 1 (by omega)]
      match hkk : e.kids, hk0 with
      | [a, b], _ => rfl
    · obtain ⟨o1, o2, o3, o4, o6, o7⟩ := ops7 h1
      rw [(toks_slice o1 o2 o3 o4 o6 o7 hk0).1, addN_no (by rw [isNm, h1]; rfl), List.foldl_append, fold_kidTk, fold_inBr, fold_sepT, ← hk 0 (by omega)]
      match hkk : e.kids, hk0 with
      | [a, b, c], _ =>
        have h1 := hk 1 (by rw [hkk]; simp)
        have h2 := hk 2 (by rw [hkk]; simp)
        rw [hkk] at h1 h2
        simp only [List.foldl_cons, List.foldl_nil, List.drop_succ_cons, List.drop_zero]
        rw [show ([a, b, c] : List Ex).getD 0 default = a from rfl]
        rw [show ([a, b, c] : List Ex).getD 1 default = b from rfl] at h1
        rw [show ([a, b, c] : List Ex).getD 2 default = c from rfl] at h2
        rw [h1, h2]
    · obtain ⟨o1, o2, o3, o4, o6, o7⟩ := ops5 h1
      rw [(toks_call o1 o2 o3 o4 o6 o7 (by rw [binds_call h1 hn]; rfl)).1, List.foldl_cons, fold_inBr, fold_sepT]
      have e1 : addN out e = addName out (tkN e.name) := by
        rw [addN, addName, isNm, h1, hn]
        show _ = if (true && !(out.contains e.name)) = true then _ else _
        cases out.contains e.name <;> rfl
      rw [e1]
      have key : ∀ (l : List Ex), (∀ k ∈ l, ∀ o, namesQ o k = (toks k).foldl addName o) → ∀ o, l.foldl namesQ o = l.foldl (fun o k => (toks k).foldl addName o) o := by
        intro l
        induction l with
        | nil => intro _ o; rfl
        | cons a l ihl => intro h o; rw [List.foldl_cons, List.foldl_cons, h a (by simp), ihl (fun k hk => h k (by simp [hk]))]
      exact key _ (fun k hk => ih k hk (form_kid hf k hk)) _
    · obtain ⟨o1, o2, o3, o4, o6, o7⟩ := ops5 h1
      have hb := binds_unary h1 hn hk0
      rw [(toks_one o1 o2 o3 o4 o6 o7 (by rw [hb]; rfl) (by rw [hb]; rfl) hk0).1, List.foldl_cons, fold_tkS, fold_kidTk, addN_no (by rw [isNm, h1, hn]; rfl), ← hk 0 (by omega)]
      match hkk : e.kids, hk0 with
      | [a], _ => rfl
    · obtain ⟨o1, o2, o3, o4, o6, o7⟩ := ops5 h1
      have hb := binds_binary h1 hn hk0
      have hr := str_range e.name
      rw [(toks_two o1 o2 o3 o4 o6 o7 (by rw [hb]; simp; omega) (by rw [hb]; simp; omega) hk0).1, addN_no (by rw [isNm, h1, hn]; rfl), List.foldl_append, List.foldl_cons, fold_tkS, fold_kidTk, fold_kidTk, ← hk 0 (by omega), ← hk 1 (by omega)]
      match hkk : e.kids, hk0 with
      | [a, b], _ => rfl
end Go.Proofs.YtcgdlhkiecommaaGreatDoor
/- What was written is read as it was: words for it, and small facts. -/

namespace Go.Proofs.YtcgdlhkiecommaaGreatDoor
open Go
def Has (l : List Tk) : Nat → List Tk → Prop
  | _, [] => True
  | i, t :: r => (i < l.length ∧ tkey (tokAt l i) = tkey t) ∧ Has l (i + 1) r
theorem has_app {l a b : List Tk} : ∀ {i : Nat}, Has l i (a ++ b) → Has l i a ∧ Has l (i + a.length) b := by
  induction a with
  | nil => intro i h; exact ⟨trivial, h⟩
  | cons t a ih =>
    intro i h
    obtain ⟨h1, h2⟩ := h
    obtain ⟨h3, h4⟩ := ih h2
    exact ⟨⟨h1, h3⟩, by rw [List.length_cons, show i + (a.length + 1) = i + 1 + a.length by omega]; exact h4⟩
theorem has_of {l : List Tk} : ∀ {a : List Tk} {i : Nat}, a.map tkey = (l.drop i).map tkey → Has l i a
  | [], _, _ => trivial
  | t :: a, i, h => by
    rcases Nat.lt_or_ge i l.length with hi | hi
    · rw [List.drop_eq_getElem_cons hi, List.map_cons, List.map_cons, List.cons.injEq] at h
      refine ⟨⟨hi, ?_⟩, has_of h.2⟩
      rw [tokAt, List.getD_eq_getElem?_getD, List.getElem?_eq_getElem hi]; exact h.1.symm
    · rw [List.drop_of_length_le hi] at h; simp at h
theorem has_alike {a l : List Tk} (h : alikeL a l = true) : Has l 0 a := has_of (by rw [List.drop_zero]; rw [alikeL, beq_iff_eq] at h; exact h)
theorem tkey_parts {a b : Tk} (h : tkey a = tkey b) : a.op = b.op ∧ a.text = b.text ∧ a.n = b.n := by
  simp only [tkey, Prod.mk.injEq] at h; exact h
section
variable {l : List Tk}
theorem isAt_S {i : Nat} {s : Bs} (h : tkey (tokAt l i) = tkey (tkS s)) (ts : List Bs) : isAt l ts i = ts.contains s := by
  obtain ⟨h1, h2, _⟩ := tkey_parts h
  rw [isAt, h1, h2, tkS]
  cases isWordL s <;> rfl
theorem isAt_no {i : Nat} {t : Tk} (h : tkey (tokAt l i) = tkey t) (h2 : (t.op == 2 || t.op == 7) = false) (ts : List Bs) : isAt l ts i = false := by
  obtain ⟨h1, _, _⟩ := tkey_parts h
  rw [isAt, h1, h2]; rfl
def Quiet (l : List Tk) (k j : Nat) : Prop := isAt l [sOpen] j = false ∧ ∀ q, k ≤ q → q < 4 → isAt l (levelL q) j = false
theorem isAt_end {j : Nat} (h : l.length ≤ j) (ts : List Bs) : isAt l ts j = false := by
  cases h1 : isAt l ts j with
  | false => rfl
  | true => have := isAt_lt h1; omega
theorem quiet_end {k j : Nat} (h : l.length ≤ j) : Quiet l k j := ⟨isAt_end h _, fun q _ _ => isAt_end h _⟩
theorem Quiet.up {k k' j : Nat} (h : Quiet l k j) (hk : k ≤ k') : Quiet l k' j := ⟨h.1, fun q h1 h2 => h.2 q (by omega) h2⟩
theorem quiet_S {j : Nat} {s : Bs} (h : tkey (tokAt l j) = tkey (tkS s)) (k : Nat) (h0 : [sOpen].contains s = false) (h1 : ∀ q, k ≤ q → q < 4 → (levelL q).contains s = false) : Quiet l k j :=
  ⟨by rw [isAt_S h]; exact h0, fun q g1 g2 => by rw [isAt_S h]; exact h1 q g1 g2⟩
theorem quiet_P {j : Nat} {s : Bs} (h : tkey (tokAt l j) = tkey (tkS s)) (hs : s = sShut ∨ s = sComma ∨ s = sDownto) (k : Nat) : Quiet l k j := by
  refine quiet_S h k (by rcases hs with rfl | rfl | rfl <;> decide +kernel) fun q _ hq => ?_
  have : q = 0 ∨ q = 1 ∨ q = 2 ∨ q = 3 := by omega
  rcases this with rfl | rfl | rfl | rfl <;> rcases hs with rfl | rfl | rfl <;> decide +kernel
end
theorem op_mem {s : Bs} (h : 0 ≤ strengthI s) : s ∈ levelsL.flatten := by
  have lv : ∀ k, k < 4 → (levelL k).contains s = true → s ∈ levelsL.flatten := by
    intro k hk hc
    rw [List.contains_iff_mem] at hc
    refine List.mem_flatten.2 ⟨levelL k, ?_, hc⟩
    have : k = 0 ∨ k = 1 ∨ k = 2 ∨ k = 3 := by omega
    rcases this with rfl | rfl | rfl | rfl <;> simp [levelL, levelsL]
  rw [strengthI] at h
  split at h
  · exact lv 0 (by omega) (by assumption)
  · split at h
    · exact lv 1 (by omega) (by assumption)
    · split at h
      · exact lv 2 (by omega) (by assumption)
      · split at h
        · exact lv 3 (by omega) (by assumption)
        · omega
theorem lev_op {s : Bs} {k : Nat} (h : strengthI s = (k : Int)) : k < 4 ∧ [sOpen].contains s = false ∧ (∀ q, q < 4 → (levelL q).contains s = (q == k)) := by
  have key : (levelsL.flatten.all fun x => !([sOpen].contains x) && (List.range 4).all fun q => (levelL q).contains x == (strengthI x == (q : Int))) = true := by decide +kernel
  have h1 := List.all_eq_true.1 key s (op_mem (by omega))
  rw [Bool.and_eq_true, Bool.not_eq_true', List.all_eq_true] at h1
  refine ⟨by have := str_range s; omega, h1.1, fun q hq => ?_⟩
  have := h1.2 q (List.mem_range.2 hq)
  rw [beq_iff_eq, h] at this
  rw [this, Bool.eq_iff_iff, beq_iff_eq, beq_iff_eq]; omega
theorem bit_back {x : Int} (h0 : 0 ≤ x) (h3 : x ≤ 3) : bitCode (bitC x) = x := by
  have : x = 0 ∨ x = 1 ∨ x = 2 ∨ x = 3 := by omega
  rcases this with rfl | rfl | rfl | rfl <;> decide +kernel
theorem bits_back {b : List Int} (h : isBits b = true) (h0 : ∀ x ∈ b, 0 ≤ x) : parseBits (bitsT b) = b := by
  have hl := bits_len h
  have hv : isVecL (bitsT b) = true := by
    have h1 : (bitsT b).isEmpty = false := by
      cases hb : bitsT b with
      | nil => have := bitsT_len b; rw [hb] at this; simp at this; omega
      | cons a r => rfl
    have h2 : (bitsT b).all isBitC = true := by
      rw [List.all_eq_true]
      intro c hc
      rw [bitsT, List.mem_reverse, List.mem_map] at hc
      obtain ⟨x, hx, rfl⟩ := hc
      exact bitC_bit (h0 x hx) (bits_le h x hx)
    rw [isVecL, h1, h2, decide_eq_true (by rw [bitsT_len]; exact hl.2)]; rfl
  rw [parseBits, hv]
  show ((bitsT b).map bitCode).reverse = b
  rw [bitsT, List.map_reverse, List.reverse_reverse, List.map_map]
  have : b.map (bitCode ∘ bitC) = b.map id := List.map_congr_left (fun x hx => bit_back (h0 x hx) (bits_le h x hx))
  rw [this, List.map_id]
theorem none_same {v : Va} (h : noneV v = true) : sameV va0 v = true := by
  simp only [noneV, Bool.and_eq_true, beq_iff_eq] at h
  obtain ⟨⟨⟨h1, h2⟩, h3⟩, h4⟩ := h
  have h3' : v.bits = [] := List.length_eq_zero_iff.1 (by omega)
  have h4' : v.list = [] := List.length_eq_zero_iff.1 (by omega)
  rw [sameV_eq, h1, h2, h3', h4']; rfl
theorem unty_same {v : Ty} (h : untyped v = true) : sameT ty0 v = true := by
  simp only [untyped, Bool.and_eq_true, beq_iff_eq] at h
  obtain ⟨⟨⟨⟨h1, h2⟩, h0⟩, h3⟩, h4⟩ := h
  have h3' : v.names = [] := List.length_eq_zero_iff.1 (by omega)
  have h4' : v.elem = [] := List.length_eq_zero_iff.1 (by omega)
  rw [sameT_eq, h1, h2, h0, h3', h4']; rfl
theorem form_fields {e : Ex} (h : formP e = true) : sameV va0 e.val = true ∧ sameT ty0 e.type = true ∧ (e.op ≠ 1 → e.n = 0) ∧ (e.op ≠ 4 → e.op ≠ 5 → e.name = []) ∧ (e.op ≠ 2 → e.op ≠ 3 → e.bits = []) := by
  rw [formH, Bool.and_eq_true, Bool.not_eq_true'] at h
  have h1 := h.1
  rw [headR, bareR] at h1
  rw [Bool.or_eq_false_iff, Bool.or_eq_false_iff, Bool.or_eq_false_iff, Bool.not_eq_false', Bool.and_eq_true] at h1
  obtain ⟨⟨⟨⟨hu, hn⟩, h2⟩, h3⟩, h4⟩ := h1
  refine ⟨none_same hn, unty_same hu, fun g => ?_, fun g g' => ?_, fun g g' => ?_⟩
  · simpa [g] using h2
  · simpa [g, g'] using h3
  · have : ¬ ((e.bits.length : Int) > 0) := by simpa [g, g'] using h4
    exact List.length_eq_zero_iff.1 (by omega)
theorem same_mk {e : Ex} (h : formP e = true) {o n : Int} {nm : Bs} {bits : List Int} {kids : List Ex} {t : Tk} (h1 : o = e.op) (h2 : nm = e.name) (h3 : n = e.n) (h4 : bits = e.bits) (hk : allSame sameE kids e.kids = true) : sameE (mkE o nm n bits kids t) e = true := by
  obtain ⟨g1, g2, _⟩ := form_fields h
  rw [sameE_eq, sameEs_all]
  show (o == e.op && (nm == e.name && (n == e.n && (bits == e.bits && (sameV va0 e.val && (sameT ty0 e.type && allSame sameE kids e.kids)))))) = true
  rw [h1, h2, h3, h4, g1, g2, hk]; simp
theorem same_call {e : Ex} (h : formP e = true) {nm : Bs} {kids : List Ex} {i c : Int} (h1 : e.op = 5) (h2 : nm = e.name) (hk : allSame sameE kids e.kids = true) : sameE (.mk 5 nm 0 [] va0 kids ty0 i c) e = true := by
  obtain ⟨g1, g2, g3, _, g5⟩ := form_fields h
  rw [sameE_eq, sameEs_all]
  show ((5 : Int) == e.op && (nm == e.name && ((0 : Int) == e.n && (([] : List Int) == e.bits && (sameV va0 e.val && (sameT ty0 e.type && allSame sameE kids e.kids)))))) = true
  rw [h1, h2, g3 (by omega), g5 (by omega) (by omega), g1, g2, hk]; simp
theorem same_op {a b : Ex} (h : sameE a b = true) : a.op = b.op := by rw [sameE_eq, Bool.and_eq_true] at h; exact beq_iff_eq.1 h.1
theorem sep_tail (s : Bs) (r : List Ex) : ∀ a : Ex, sepT s ((a :: r).map toks) = toks a ++ (r.map fun k => tkS s :: toks k).flatten := by
  induction r with
  | nil => intro a; simp [sepT]
  | cons b r ih =>
    intro a
    have := ih b
    rw [List.map_cons] at this
    rw [List.map_cons, List.map_cons, sepT, this]
    · simp
    · simp
end Go.Proofs.YtcgdlhkiecommaaGreatDoor
/- What was written is read as it was: by the kind of the expression. -/

namespace Go.Proofs.YtcgdlhkiecommaaGreatDoor
open Go
section
variable {l : List Tk}
theorem row_up {d m i j : Nat} {e : Ex} (h : rowD l d m i = .ok e j) : rowD l d (m + 1) i = rowLoop l (rowP l (factor l d) m) (3 - m) (l.length - j) e j := by
  rw [rowD, rowP, show rowP l (factor l d) m i = .ok e j from h]
theorem row_upto {d i j : Nat} {e : Ex} : ∀ (n k : Nat), k + n ≤ 4 → Quiet l k j → rowD l d (4 - (k + n)) i = .ok e j → rowD l d (4 - k) i = .ok e j
  | 0, k, _, _, h => h
  | n + 1, k, hk, hq, h => by
    have h1 := row_upto n (k + 1) (by omega) (hq.up (by omega)) (by rw [show k + 1 + n = k + (n + 1) by omega]; exact h)
    rw [show 4 - k = (4 - (k + 1)) + 1 by omega, row_up h1, show 3 - (4 - (k + 1)) = k by omega]
    exact loop_stop (hq.2 k (Nat.le_refl _) (by omega))
structure Rb (l : List Tk) (d : Nat) (e : Ex) (i j : Nat) : Prop where
  t : bindsP e = 5 → (e.op = 4 → isAt l [sOpen] j = false) → ∃ e', sameE e' e = true ∧ factor l d i = partsP l d (innerD l d) (l.length - j) e' j
  r : ∀ k : Nat, k < 4 → (k : Int) ≤ bindsP e → k ≠ 1 → Quiet l (k + 1) j → ∃ e', sameE e' e = true ∧ rowD l d (4 - k) i = rowLoop l (rowP l (factor l d) (3 - k)) k (l.length - j) e' j
  s : ∀ k : Nat, k ≤ 4 → (k : Int) ≤ bindsP e → Quiet l k j → ∃ e', sameE e' e = true ∧ rowD l d (4 - k) i = .ok e' j
theorem rb_of {d i j : Nat} {e : Ex} (b : Nat) (hb : bindsP e = (b : Int)) (ht : b = 5 → (e.op = 4 → isAt l [sOpen] j = false) → ∃ e', sameE e' e = true ∧ factor l d i = partsP l d (innerD l d) (l.length - j) e' j)
    (hs : Quiet l (min b 4) j → ∃ e', sameE e' e = true ∧ rowD l d (4 - min b 4) i = .ok e' j)
    (hr : b < 4 → b ≠ 1 → Quiet l (b + 1) j → ∃ e', sameE e' e = true ∧ rowD l d (4 - b) i = rowLoop l (rowP l (factor l d) (3 - b)) b (l.length - j) e' j) : Rb l d e i j := by
  have s : ∀ k : Nat, k ≤ 4 → (k : Int) ≤ bindsP e → Quiet l k j → ∃ e', sameE e' e = true ∧ rowD l d (4 - k) i = .ok e' j := by
    intro k hk hkb hq
    obtain ⟨e', h1, h2⟩ := hs (hq.up (by omega))
    exact ⟨e', h1, row_upto (min b 4 - k) k (by omega) hq (by rw [show k + (min b 4 - k) = min b 4 by omega]; exact h2)⟩
  refine ⟨fun h => ht (by omega), fun k hk hkb hk1 hq => ?_, s⟩
  by_cases hkb2 : k = b
  · subst hkb2; exact hr hk hk1 hq
  · obtain ⟨e', h1, h2⟩ := s (k + 1) (by omega) (by omega) hq
    refine ⟨e', h1, ?_⟩
    rw [show 4 - k = (4 - (k + 1)) + 1 by omega, row_up h2, show 4 - (k + 1) = 3 - k by omega, show 3 - (3 - k) = k by omega]
theorem rb_tight {d i j : Nat} {e : Ex} (hb : bindsP e = 5) (ht : (e.op = 4 → isAt l [sOpen] j = false) → ∃ e', sameE e' e = true ∧ factor l d i = partsP l d (innerD l d) (l.length - j) e' j) : Rb l d e i j := by
  refine rb_of 5 (by rw [hb]; rfl) (fun _ h => ht h) (fun hq => ?_) (fun h => by omega)
  obtain ⟨e', h1, h2⟩ := ht (fun _ => hq.1)
  exact ⟨e', h1, by show factor l d i = _; rw [h2]; exact parts_stop hq.1⟩
def RB (l : List Tk) (e : Ex) : Prop := ∀ d i, dep e ≤ d → Has l i (toks e) → Rb l d e i (i + (toks e).length)
structure Rk (l : List Tk) (d : Nat) (e : Ex) (least i j : Nat) : Prop where
  t : least = 5 → (e.op = 4 → isAt l [sOpen] j = false) → ∃ e', sameE e' e = true ∧ factor l d i = partsP l d (innerD l d) (l.length - j) e' j
  r : least < 4 → least ≠ 1 → Quiet l (least + 1) j → ∃ e', sameE e' e = true ∧ rowD l d (4 - least) i = rowLoop l (rowP l (factor l d) (3 - least)) least (l.length - j) e' j
  s : least ≤ 4 → Quiet l least j → ∃ e', sameE e' e = true ∧ rowD l d (4 - least) i = .ok e' j
theorem has_br {i : Nat} {t : List Tk} (h : Has l i (inBr t)) : (i < l.length ∧ tkey (tokAt l i) = tkey (tkS sOpen)) ∧ Has l (i + 1) t ∧ (i + 1 + t.length < l.length ∧ tkey (tokAt l (i + 1 + t.length)) = tkey (tkS sShut)) := by
  obtain ⟨h1, h2⟩ := h
  obtain ⟨h3, h4⟩ := has_app h2
  exact ⟨h1, h3, h4.1⟩
theorem br_len (t : List Tk) : (inBr t).length = t.length + 2 := by simp [inBr]
theorem open_at {i : Nat} (h : tkey (tokAt l i) = tkey (tkS sOpen)) : isAt l [sOpen] i = true := by rw [isAt_S h]; decide +kernel
theorem shut_at {i : Nat} (h : tkey (tokAt l i) = tkey (tkS sShut)) : isAt l [sShut] i = true := by rw [isAt_S h]; decide +kernel
theorem open_yes {d i : Nat} (h : tkey (tokAt l i) = tkey (tkS sOpen)) (hd : d ≠ 0) : openP l d i = .ok () (i + 1) := by
  rw [openP, if_pos (open_at h), intoP, if_neg hd]
theorem op_S {i : Nat} {s : Bs} (h : tkey (tokAt l i) = tkey (tkS s)) : (tokAt l i).op = 2 ∨ (tokAt l i).op = 7 := by
  have := (tkey_parts h).1
  rw [this, tkS]; cases isWordL s <;> simp
theorem fac_br {d i j : Nat} {e : Ex} (h : tkey (tokAt l i) = tkey (tkS sOpen)) (hd : d ≠ 0) (h1 : rowD l (d - 1) 4 (i + 1) = .ok e j) (h2 : tkey (tokAt l j) = tkey (tkS sShut)) :
    factor l d i = partsP l d (innerD l d) (l.length - (j + 1)) e (j + 1) := by
  rw [factor_not l d i (by rw [isAt_S h]; decide +kernel), primP]
  have ho := op_S h
  have e3 : ((tokAt l i).op == 3) = false := by rcases ho with ho | ho <;> rw [ho] <;> rfl
  have e4 : ((tokAt l i).op == 4) = false := by rcases ho with ho | ho <;> rw [ho] <;> rfl
  have e5 : ((tokAt l i).op == 5) = false := by rcases ho with ho | ho <;> rw [ho] <;> rfl
  have e1 : ((tokAt l i).op == 1) = false := by rcases ho with ho | ho <;> rw [ho] <;> rfl
  rw [e3, e4, e5, e1]
  simp only [Bool.false_eq_true, if_false]
  rw [open_yes h hd]
  simp only
  rw [show innerD l d (i + 1) = .ok e j by rw [innerD_pos hd]; exact h1]
  simp only
  rw [want_yes (shut_at h2)]
theorem rk_of {e : Ex} {d i least : Nat} (h : RB l e) (hd : kidDp e (least : Int) ≤ d) (hh : Has l i (kidTk e (least : Int))) (hl : least ≤ 5) (hb0 : 0 ≤ bindsP e) : Rk l d e least i (i + (kidTk e (least : Int)).length) := by
  by_cases hb : bindsP e < (least : Int)
  · rw [kidTk, if_pos hb] at hh
    rw [kidDp, if_pos hb] at hd
    rw [kidTk, if_pos hb, br_len]
    obtain ⟨⟨h1, h2⟩, h3, h4, h5⟩ := has_br hh
    have hb0 : ∃ e', sameE e' e = true ∧ rowD l (d - 1) 4 (i + 1) = .ok e' (i + 1 + (toks e).length) := (h (d - 1) (i + 1) (by omega) h3).s 0 (by omega) (by omega) (quiet_P h5 (.inl rfl) 0)
    obtain ⟨e', g1, g2⟩ := hb0
    have g3 := fac_br h2 (by omega) g2 h5
    rw [show i + ((toks e).length + 2) = i + 1 + (toks e).length + 1 by omega]
    have gs : ∀ k : Nat, k ≤ 4 → Quiet l k (i + 1 + (toks e).length + 1) → rowD l d (4 - k) i = .ok e' (i + 1 + (toks e).length + 1) := fun k hk hq =>
      row_upto (4 - k) k (by omega) hq (by rw [show 4 - (k + (4 - k)) = 0 by omega]; show factor l d i = _; rw [g3]; exact parts_stop hq.1)
    refine ⟨fun _ _ => ⟨e', g1, g3⟩, fun hl4 _ hq => ⟨e', g1, ?_⟩, fun hl4 hq => ⟨e', g1, gs least hl4 hq⟩⟩
    have := gs (least + 1) (by omega) hq
    rw [show 4 - least = (4 - (least + 1)) + 1 by omega, row_up this, show 4 - (least + 1) = 3 - least by omega, show 3 - (3 - least) = least by omega]
  · rw [kidTk, if_neg hb] at hh ⊢
    rw [kidDp, if_neg hb] at hd
    have hr := h d i hd hh
    have hbr := (binds_range e).2
    exact ⟨fun h5 h4 => hr.t (by omega) h4, fun hl4 hl1 hq => hr.r least hl4 (by omega) hl1 hq, fun hl4 hq => hr.s least hl4 (by omega) hq⟩
theorem downto_at {i : Nat} (h : tkey (tokAt l i) = tkey (tkS sDownto)) : isAt l [sDownto] i = true := by rw [isAt_S h]; decide +kernel
theorem slice_rd {d j1 j2 : Nat} {hi lo e0 : Ex} {t : Tk} (hd : d ≠ 0) (hw : tkey (tokAt l j1) = tkey (tkS sDownto)) (h2 : rowD l (d - 1) 4 (j1 + 1) = .ok lo j2) (hs : tkey (tokAt l j2) = tkey (tkS sShut)) :
    sliceP l (innerD l d) e0 hi t j1 = .ok (mkE 7 [] 0 [] [e0, hi, lo] t) (j2 + 1) := by
  rw [sliceP, want_yes (downto_at hw)]
  simp only
  rw [show innerD l d (j1 + 1) = .ok lo j2 by rw [innerD_pos hd]; exact h2]
  simp only
  rw [want_yes (shut_at hs)]
theorem part_slice {d i j1 j2 : Nat} {hi lo e0 : Ex} (hd : d ≠ 0) (h : tkey (tokAt l i) = tkey (tkS sOpen)) (h1 : rowD l (d - 1) 4 (i + 1) = .ok hi j1) (hw : tkey (tokAt l j1) = tkey (tkS sDownto)) (h2 : rowD l (d - 1) 4 (j1 + 1) = .ok lo j2) (hs : tkey (tokAt l j2) = tkey (tkS sShut)) :
    partP l d (innerD l d) e0 i = .ok (mkE 7 [] 0 [] [e0, hi, lo] (tokAt l i)) (j2 + 1) := by
  rw [partP, open_yes h hd]
  simp only
  rw [show innerD l d (i + 1) = .ok hi j1 by rw [innerD_pos hd]; exact h1]
  simp only
  rw [if_pos (downto_at hw), slice_rd hd hw h2 hs]
theorem part_one {d i j1 : Nat} {x e0 : Ex} (hd : d ≠ 0) (h : tkey (tokAt l i) = tkey (tkS sOpen)) (h1 : rowD l (d - 1) 4 (i + 1) = .ok x j1) (hs : tkey (tokAt l j1) = tkey (tkS sShut)) :
    partP l d (innerD l d) e0 i = .ok (partE e0 x (tokAt l i)) (j1 + 1) := by
  rw [partP, open_yes h hd]
  simp only
  rw [show innerD l d (i + 1) = .ok x j1 by rw [innerD_pos hd]; exact h1]
  simp only
  rw [if_neg (by rw [isAt_S hs]; decide +kernel), want_yes (shut_at hs)]
theorem fac_name {d i : Nat} {s : Bs} (h : tkey (tokAt l i) = tkey (tkN s)) : factor l d i = match namedP l d (innerD l d) i with | .bad g => .bad g | .ok e j => partsP l d (innerD l d) (l.length - j) e j := by
  have ho : (tokAt l i).op = 1 := (tkey_parts h).1
  rw [factor_not l d i (isAt_no h rfl _), primP, ho]; rfl
def tailC (r : List Ex) : List Tk := (r.map fun k => tkS sComma :: toks k).flatten
theorem tail_head {j : Nat} {r : List Ex} (h : Has l j (tailC r ++ [tkS sShut])) : ∃ s, (s = sComma ∨ s = sShut) ∧ tkey (tokAt l j) = tkey (tkS s) := by
  cases r with
  | nil => exact ⟨sShut, .inr rfl, h.1.2⟩
  | cons a r => exact ⟨sComma, .inl rfl, h.1.2⟩
theorem args_all {d : Nat} (hd : d ≠ 0) : ∀ (r : List Ex) (acc : List Ex) (j : Nat), (∀ k ∈ r, RB l k ∧ dep k ≤ d - 1 ∧ 0 ≤ bindsP k) → Has l j (tailC r ++ [tkS sShut]) → acc.length + r.length ≤ 20 →
    ∃ r', allSame sameE r' r = true ∧ argsP l (innerD l d) (20 - acc.length) acc j = .ok (acc ++ r') (j + (tailC r).length)
  | [], acc, j, _, h, _ => ⟨[], rfl, by
      rw [List.append_nil]
      exact args_stop (by rw [isAt_S h.1.2]; decide +kernel)⟩
  | k :: r, acc, j, hk, h, hl => by
    obtain ⟨⟨h1, h2⟩, h3⟩ := h
    obtain ⟨g1, g2, g3⟩ := hk k (by simp)
    have h3' : Has l (j + 1) (toks k ++ (tailC r ++ [tkS sShut])) := by
      have : tailC (k :: r) = (tkS sComma :: toks k) ++ tailC r := by simp [tailC]
      rw [← List.append_assoc]; simpa [tailC] using h3
    obtain ⟨h4, h5⟩ := has_app h3'
    obtain ⟨s, hs, ht⟩ := tail_head h5
    obtain ⟨k', e1, e2⟩ := (g1 (d - 1) (j + 1) g2 h4).s 0 (by omega) g3 (quiet_P ht (by rcases hs with h | h <;> simp [h]) 0)
    have hlen : acc.length < 20 := by simp only [List.length_cons] at hl; omega
    have e3 : innerD l d (j + 1) = .ok k' (j + 1 + (toks k).length) := by rw [innerD_pos hd]; exact e2
    have e4 := args_step (kids := acc) (by rw [isAt_S h2]; decide +kernel) hlen e3
    obtain ⟨r', e5, e6⟩ := args_all hd r (acc ++ [k']) (j + 1 + (toks k).length) (fun x hx => hk x (by simp [hx])) h5 (by simp only [List.length_append, List.length_cons, List.length_nil] at hl ⊢; omega)
    refine ⟨k' :: r', by rw [allSame, e1, e5]; rfl, ?_⟩
    rw [← e4, e6]
    have : (tailC (k :: r)).length = 1 + (toks k).length + (tailC r).length := by simp [tailC]; omega
    rw [this]
    simp only [List.append_assoc, List.singleton_append]
    rw [show j + 1 + (toks k).length + (tailC r).length = j + (1 + (toks k).length + (tailC r).length) by omega]
end
end Go.Proofs.YtcgdlhkiecommaaGreatDoor
/- What was written is read as it was: all expressions. -/

namespace Go.Proofs.YtcgdlhkiecommaaGreatDoor
open Go
section
variable {l : List Tk}
theorem kids_2 {e : Ex} (h : e.kids.length = 2) : ∃ a b, e.kids = [a, b] := by
  match hk : e.kids, h with
  | [a, b], _ => exact ⟨a, b, rfl⟩
theorem kids_1' {e : Ex} (h : e.kids.length = 1) : ∃ a, e.kids = [a] := by
  match hk : e.kids, h with
  | [a], _ => exact ⟨a, rfl⟩
theorem kids_3' {e : Ex} (h : e.kids.length = 3) : ∃ a b c, e.kids = [a, b, c] := by
  match hk : e.kids, h with
  | [a, b, c], _ => exact ⟨a, b, c, rfl⟩
theorem binds_not5 {e : Ex} (h : e.op ≠ 5) : bindsP e = 5 := by
  rw [bindsP, show (e.op != 5) = true by simpa using h]; rfl
theorem lit_rb {d i : Nat} {e : Ex} (hb : bindsP e = 5) {t : Tk} (h : tkey (tokAt l i) = tkey t) (h27 : (t.op == 2 || t.op == 7) = false) {x : Ex} (hx : sameE x e = true)
    (hp : primP l d (innerD l d) i = partsP l d (innerD l d) (l.length - (i + 1)) x (i + 1)) : Rb l d e i (i + 1) :=
  rb_tight hb fun _ => ⟨x, hx, by rw [factor_not l d i (isAt_no h h27 _), hp]⟩
theorem rb_all (e : Ex) : formP e = true → szE e = true → RB l e := by
  induction e using Ex.ind with
  | h e ih =>
    intro hf hz d i hd hh
    obtain ⟨z1, z2, z3, z4, z5⟩ := szE_facts hz
    have hk : ∀ k ∈ e.kids, RB l k := fun k hk => ih k hk (form_kid hf k hk) (z5 k hk)
    have hnn : ∀ k ∈ e.kids, 0 ≤ bindsP k := fun k hk => binds_nn (form_kid hf k hk)
    obtain ⟨f1, f2, f3, f4, f5⟩ := form_fields hf
    rcases kind_of hf with ⟨h1, hk0⟩ | ⟨h1, hk0⟩ | ⟨h1, hk0⟩ | ⟨h1, hn, hk0⟩ | ⟨h1, hn, hk0, hs⟩ | ⟨h1, hn, hk0, hs⟩
    · rcases h1 with h1 | h1 | h1 | h1
      · rw [(toks_int (by rw [h1]; rfl)).1] at hh ⊢
        have hk := hh.1.2
        obtain ⟨o1, o2, o3⟩ := tkey_parts hk
        refine lit_rb (binds_not5 (by omega)) hk rfl (x := mkE 1 [] (tokAt l i).n [] [] (tokAt l i)) (same_mk hf h1.symm (f4 (by omega) (by omega)).symm o3 (f5 (by omega) (by omega)).symm (by rw [hk0]; rfl)) ?_
        rw [primP, show ((tokAt l i).op == 3) = true by rw [o1]; rfl]; rfl
      · have hb := form_bits2 hf (by rw [h1]; rfl)
        rw [(toks_bit (by rw [h1]; rfl) (by rw [h1]; rfl)).1] at hh ⊢
        have hk := hh.1.2
        obtain ⟨o1, o2, o3⟩ := tkey_parts hk
        refine lit_rb (binds_not5 (by omega)) hk rfl (x := mkE 2 [] 0 (parseBits (tokAt l i).text) [] (tokAt l i)) (same_mk hf h1.symm (f4 (by omega) (by omega)).symm (f3 (by omega)).symm (by rw [o2]; exact bits_back hb z4) (by rw [hk0]; rfl)) ?_
        have e0 : (tokAt l i).op = 4 := o1
        rw [primP, e0]; rfl
      · have hb := form_bits3 hf (by rw [h1]; rfl)
        rw [(toks_vec (by rw [h1]; rfl) (by rw [h1]; rfl) (by rw [h1]; rfl)).1] at hh ⊢
        have hk := hh.1.2
        obtain ⟨o1, o2, o3⟩ := tkey_parts hk
        refine lit_rb (binds_not5 (by omega)) hk rfl (x := mkE 3 [] 0 (parseBits (tokAt l i).text) [] (tokAt l i)) (same_mk hf h1.symm (f4 (by omega) (by omega)).symm (f3 (by omega)).symm (by rw [o2]; exact bits_back hb z4) (by rw [hk0]; rfl)) ?_
        have e0 : (tokAt l i).op = 5 := o1
        rw [primP, e0]; rfl
      · rw [(toks_name (by rw [h1]; rfl) (by rw [h1]; rfl) (by rw [h1]; rfl) (by rw [h1]; rfl)).1] at hh ⊢
        have hk := hh.1.2
        obtain ⟨o1, o2, o3⟩ := tkey_parts hk
        refine rb_tight (binds_not5 (by omega)) fun hq => ⟨mkE 4 (tokAt l i).text 0 [] [] (tokAt l i), same_mk hf h1.symm o2 (f3 (by omega)).symm (f5 (by omega) (by omega)).symm (by rw [hk0]; rfl), ?_⟩
        have hq := hq h1
        have hno : isAt l [sOpen] (i + 1) = false := hq
        rw [fac_name hk, namedP, show ((tokAt l i).op == 1) = true by rw [o1]; rfl, if_pos rfl, hno]; rfl
    · obtain ⟨o1, o2, o3, o4, o6⟩ := ops6 h1
      obtain ⟨a, b, hab⟩ := kids_2 hk0
      obtain ⟨t1, t2⟩ := toks_index o1 o2 o3 o4 o6 hk0
      rw [hab] at t1 t2
      change toks e = kidTk a 5 ++ inBr (toks b) at t1
      change dep e = max (kidDp a 5) (dep b + 1) at t2
      rw [t1] at hh ⊢
      obtain ⟨g1, g2⟩ := has_app hh
      obtain ⟨⟨b1, b2⟩, b3, b4, b5⟩ := has_br g2
      have ha4 : a.op ≠ 4 := by
        have ht := form_op hf
        rw [tailR, h1, hab] at ht
        simp only [show ((6 : Int) == 1) = false from rfl, show ((6 : Int) == 2) = false from rfl, show ((6 : Int) == 3) = false from rfl, show ((6 : Int) == 4) = false from rfl, show ((6 : Int) == 5) = false from rfl, show ((6 : Int) == 6) = true from rfl, cond_true, cond_false, Bool.and_eq_true, bne_iff_ne] at ht
        exact ht.2
      have hm : a ∈ e.kids ∧ b ∈ e.kids := by rw [hab]; simp
      obtain ⟨a', ea, fa⟩ := (rk_of (d := d) (least := 5) (hk a hm.1) (show kidDp a 5 ≤ d by omega) g1 (by omega) (hnn a (by first | exact hm.1 | exact ham))).t rfl (fun h => absurd h ha4)
      have fa : factor l d i = partsP l d (innerD l d) (l.length - (i + (kidTk a 5).length)) a' (i + (kidTk a 5).length) := fa
      obtain ⟨b', eb, fb⟩ := (hk b hm.2 (d - 1) _ (by omega) b3).s 0 (by omega) (hnn b hm.2) (quiet_P b5 (.inl rfl) 0)
      have hp := parts_step (innerD_gt d) (open_at b2) (part_one (e0 := a') (by omega) b2 fb b5)
      refine rb_tight (binds_not5 (by omega)) fun _ => ⟨partE a' b' (tokAt l (i + (kidTk a 5).length)), ?_, ?_⟩
      · rw [partE, if_neg (by rw [same_op ea]; simpa using ha4)]
        exact same_mk hf h1.symm (f4 (by omega) (by omega)).symm (f3 (by omega)).symm (f5 (by omega) (by omega)).symm (by rw [hab, allSame, allSame, ea, eb]; rfl)
      · rw [fa, ← hp]
        have : i + (kidTk a 5 ++ inBr (toks b)).length = i + (kidTk a 5).length + 1 + (toks b).length + 1 := by rw [List.length_append, br_len]; omega
        rw [this]
    · obtain ⟨o1, o2, o3, o4, o6, o7⟩ := ops7 h1
      obtain ⟨a, b, c, hab⟩ := kids_3' hk0
      obtain ⟨t1, t2⟩ := toks_slice o1 o2 o3 o4 o6 o7 hk0
      rw [hab] at t1 t2
      change toks e = kidTk a 5 ++ inBr (toks b ++ (tkS sDownto :: toks c)) at t1
      change dep e = max (kidDp a 5) (max (dep b) (max (dep c) 0) + 1) at t2
      have hm : a ∈ e.kids ∧ b ∈ e.kids ∧ c ∈ e.kids := by rw [hab]; simp
      rw [t1] at hh ⊢
      obtain ⟨g1, g2⟩ := has_app hh
      obtain ⟨⟨b1, b2⟩, b3, b4, b5⟩ := has_br g2
      obtain ⟨c1, ⟨c2, c3⟩, c4⟩ := has_app b3
      have hlast : i + (kidTk a 5).length + 1 + (toks b ++ (tkS sDownto :: toks c)).length = i + (kidTk a 5).length + 1 + (toks b).length + 1 + (toks c).length := by rw [List.length_append, List.length_cons]; omega
      rw [hlast] at b5
      obtain ⟨b', eb, fb⟩ := (hk b hm.2.1 (d - 1) _ (by omega) c1).s 0 (by omega) (hnn b hm.2.1) (quiet_P c3 (.inr (.inr rfl)) 0)
      obtain ⟨c', ec, fc⟩ := (hk c hm.2.2 (d - 1) _ (by omega) c4).s 0 (by omega) (hnn c hm.2.2) (quiet_P b5 (.inl rfl) 0)
      have hj : i + (kidTk a 5 ++ inBr (toks b ++ (tkS sDownto :: toks c))).length = i + (kidTk a 5).length + 1 + (toks b).length + 1 + (toks c).length + 1 := by rw [List.length_append, br_len, List.length_append, List.length_cons]; omega
      rw [hj]
      by_cases ha4 : a.op = 4
      · have fa4 := form_kid hf a hm.1
        have ta : kidTk a 5 = [tkN a.name] := by
          rw [kidTk, if_neg (by rw [binds_not5 (by omega)]; omega), (toks_name (by rw [ha4]; rfl) (by rw [ha4]; rfl) (by rw [ha4]; rfl) (by rw [ha4]; rfl)).1]
        rw [ta] at g1 b2 c3 b5 fb fc ⊢
        simp only [List.length_singleton] at b2 c3 b5 fb fc ⊢
        have hk1 := g1.1.2
        obtain ⟨n1, n2, n3⟩ := tkey_parts hk1
        obtain ⟨_, _, q3, _, q5⟩ := form_fields fa4
        refine rb_tight (binds_not5 (by omega)) fun _ => ⟨mkE 7 [] 0 [] [mkE 4 (tokAt l i).text 0 [] [] (tokAt l i), b', c'] (tokAt l (i + 1)), ?_, ?_⟩
        · have hka : a.kids = [] := by
            rcases kind_of fa4 with ⟨w1, w2⟩ | ⟨w1, _⟩ | ⟨w1, _⟩ | ⟨w1, _, _⟩ | ⟨w1, _, _, _⟩ | ⟨w1, _, _, _⟩ <;> first | exact w2 | omega
          have ea : sameE (mkE 4 (tokAt l i).text 0 [] [] (tokAt l i)) a = true := same_mk fa4 ha4.symm n2 (q3 (by omega)).symm (q5 (by omega) (by omega)).symm (by rw [hka]; rfl)
          exact same_mk hf h1.symm (f4 (by omega) (by omega)).symm (f3 (by omega)).symm (f5 (by omega) (by omega)).symm (by rw [hab, allSame, allSame, allSame, ea, eb, ec]; rfl)
        · rw [fac_name hk1, namedP, show ((tokAt l i).op == 1) = true by rw [n1]; rfl, if_pos rfl, if_pos (open_at b2), open_yes b2 (by omega)]
          simp only
          rw [show innerD l d (i + 1 + 1) = .ok b' (i + 1 + 1 + (toks b).length) by rw [innerD_pos (by omega)]; exact fb]
          simp only
          rw [if_pos (downto_at c3), slice_rd (by omega) c3 fc b5]
      · obtain ⟨a', ea, fa⟩ := (rk_of (d := d) (least := 5) (hk a hm.1) (show kidDp a 5 ≤ d by omega) g1 (by omega) (hnn a (by first | exact hm.1 | exact ham))).t rfl (fun h => absurd h ha4)
        have fa : factor l d i = partsP l d (innerD l d) (l.length - (i + (kidTk a 5).length)) a' (i + (kidTk a 5).length) := fa
        have hp := parts_step (innerD_gt d) (open_at b2) (part_slice (e0 := a') (by omega) b2 fb c3 fc b5)
        refine rb_tight (binds_not5 (by omega)) fun _ => ⟨mkE 7 [] 0 [] [a', b', c'] (tokAt l (i + (kidTk a 5).length)), ?_, ?_⟩
        · exact same_mk hf h1.symm (f4 (by omega) (by omega)).symm (f3 (by omega)).symm (f5 (by omega) (by omega)).symm (by rw [hab, allSame, allSame, allSame, ea, eb, ec]; rfl)
        · rw [fa, ← hp]
    · obtain ⟨o1, o2, o3, o4, o6, o7⟩ := ops5 h1
      obtain ⟨t1, t2⟩ := toks_call o1 o2 o3 o4 o6 o7 (by rw [binds_call h1 hn]; rfl)
      obtain ⟨a, r, har⟩ : ∃ a r, e.kids = a :: r := by
        cases hkk : e.kids with
        | nil => rw [hkk] at hk0; simp at hk0
        | cons a r => exact ⟨a, r, rfl⟩
      have hl20 : e.kids.length ≤ 20 := by
        have ht := form_op hf
        have hno : operR e.name (e.kids.length : Int) = false := by
          cases ho : operR e.name (e.kids.length : Int) with
          | false => rfl
          | true =>
            exfalso
            rw [operR, strR_pos, Bool.or_eq_true, Bool.and_eq_true, Bool.and_eq_true, decide_eq_true_eq, Bool.or_eq_true, beq_iff_eq, beq_iff_eq] at ho
            rcases ho with ⟨_, ho⟩ | ⟨_, ho⟩
            · have key : (levelsL.flatten.all fun x => !(isNameL x)) = true := by decide +kernel
              have := List.all_eq_true.1 key _ (op_mem ho)
              rw [hn] at this; cases this
            · rcases ho with ho | ho <;> rw [beq_iff_eq] at ho <;> rw [ho] at hn <;> exact absurd hn (by decide +kernel)
        rw [tailR, h1, hno, hn] at ht
        simp only [show ((5 : Int) == 1) = false from rfl, show ((5 : Int) == 2) = false from rfl, show ((5 : Int) == 3) = false from rfl, show ((5 : Int) == 4) = false from rfl, show ((5 : Int) == 5) = true from rfl, cond_true, cond_false, Bool.false_or, Bool.and_eq_true, decide_eq_true_eq] at ht
        omega
      rw [har, sep_tail] at t1
      rw [har] at hl20 t2
      have hmax : dep a ≤ d - 1 ∧ (∀ k ∈ r, dep k ≤ d - 1) ∧ d ≠ 0 := by
        rw [t2] at hd
        simp only [List.map_cons, maxL] at hd
        refine ⟨by omega, fun k hk => ?_, by omega⟩
        have : dep k ≤ maxL (r.map dep) := by
          obtain ⟨q, hq, rfl⟩ := List.getElem_of_mem hk
          have := dep_bound (l := r) (i := q) hq
          rw [List.getD_eq_getElem?_getD, List.getElem?_eq_getElem hq, Option.getD_some] at this
          exact this
        omega
      obtain ⟨hda, hdr, hd0⟩ := hmax
      rw [t1] at hh ⊢
      obtain ⟨⟨n0, n1⟩, g2⟩ := hh
      obtain ⟨⟨b1, b2⟩, b3, b4, b5⟩ := has_br g2
      obtain ⟨c1, c2⟩ := has_app b3
      have c3 : Has l (i + 1 + 1 + (toks a).length) (tailC r ++ [tkS sShut]) := by
        have := (has_app (a := toks a) (b := tailC r ++ [tkS sShut]) (by
          have h3 := g2.2
          rw [List.append_assoc] at h3
          exact h3)).2
        exact this
      have ham : a ∈ e.kids := by rw [har]; simp
      obtain ⟨s, hs, hts⟩ := tail_head c3
      obtain ⟨a', ea, fa⟩ := (hk a ham (d - 1) _ hda c1).s 0 (by omega) (hnn a ham) (quiet_P hts (by rcases hs with h | h <;> simp [h]) 0)
      obtain ⟨r', er, fr⟩ := args_all hd0 r [a'] _ (fun k hkr => ⟨hk k (by rw [har]; simp [hkr]), hdr k hkr, hnn k (by rw [har]; simp [hkr])⟩) c3 (by simp only [List.length_cons, List.length_nil] at hl20 ⊢; omega)
      obtain ⟨w1, w2, w3⟩ := tkey_parts n1
      have hend : i + 1 + 1 + (toks a).length + (tailC r).length = i + 1 + 1 + (toks a ++ (r.map fun k => tkS sComma :: toks k).flatten).length := by rw [List.length_append, tailC]; omega
      have b5' : tkey (tokAt l (i + 1 + 1 + (toks a).length + (tailC r).length)) = tkey (tkS sShut) := by rw [hend]; exact b5
      refine rb_tight (binds_call h1 hn) fun _ => ⟨mkE 5 (tokAt l i).text 0 [] ([a'] ++ r') (tokAt l i), ?_, ?_⟩
      · exact same_mk hf h1.symm w2 (f3 (by omega)).symm (f5 (by omega) (by omega)).symm (by rw [har]; show allSame sameE (a' :: r') (a :: r) = true; rw [allSame, ea, er]; rfl)
      · have hj : i + (tkN e.name :: inBr (toks a ++ (r.map fun k => tkS sComma :: toks k).flatten)).length = i + 1 + 1 + (toks a).length + (tailC r).length + 1 := by rw [List.length_cons, br_len, hend]; omega
        rw [hj, fac_name n1, namedP, show ((tokAt l i).op == 1) = true by rw [w1]; rfl, if_pos rfl, if_pos (open_at b2), open_yes b2 hd0]
        simp only
        rw [show innerD l d (i + 1 + 1) = .ok a' (i + 1 + 1 + (toks a).length) by rw [innerD_pos hd0]; exact fa]
        simp only
        rw [if_neg (by rw [isAt_S hts]; rcases hs with rfl | rfl <;> decide +kernel)]
        have fr : argsP l (innerD l d) 19 [a'] (i + 1 + 1 + (toks a).length) = .ok ([a'] ++ r') (i + 1 + 1 + (toks a).length + (tailC r).length) := fr
        rw [fr]
        simp only
        rw [want_yes (shut_at b5')]
    · obtain ⟨o1, o2, o3, o4, o6, o7⟩ := ops5 h1
      have hb := binds_unary h1 hn hk0
      obtain ⟨a, ha⟩ := kids_1' hk0
      obtain ⟨t1, t2⟩ := toks_one o1 o2 o3 o4 o6 o7 (by rw [hb]; rfl) (by rw [hb]; rfl) hk0
      rw [ha] at t1 t2
      change toks e = tkS e.name :: kidTk a 4 at t1
      change dep e = kidDp a 4 + 1 at t2
      have ham : a ∈ e.kids := by rw [ha]; simp
      rw [t1] at hh ⊢
      obtain ⟨⟨n0, n1⟩, g2⟩ := hh
      have hat : isAt l [sNot, sMinus] i = true := by rw [isAt_S n1]; rcases hs with hs | hs <;> rw [hs] <;> decide +kernel
      have hdk : kidDp a ((4 : Nat) : Int) = kidDp a 4 := rfl
      have hrk := rk_of (d := d - 1) (least := 4) (hk a ham) (by omega) g2 (by omega) (hnn a (by first | exact hm.1 | exact ham))
      have hj : i + (tkS e.name :: kidTk a 4).length = i + 1 + (kidTk a ((4 : Nat) : Int)).length := by
        have : kidTk a ((4 : Nat) : Int) = kidTk a 4 := rfl
        rw [List.length_cons, this]; omega
      rw [hj]
      have hw := (tkey_parts n1).2.1
      refine rb_of 4 (by rw [hb]; rfl) (fun h => by omega) (fun hq => ?_) (fun h => by omega)
      obtain ⟨a', ea, fa⟩ := hrk.s (by omega) hq
      have fa : factor l (d - 1) (i + 1) = .ok a' (i + 1 + (kidTk a ((4 : Nat) : Int)).length) := fa
      refine ⟨mkE 5 (tokAt l i).text 0 [] [a'] (tokAt l i), same_mk hf h1.symm (by rw [hw]; rw [tkS]) (f3 (by omega)).symm (f5 (by omega) (by omega)).symm (by rw [ha, allSame, ea]; rfl), ?_⟩
      show factor l d i = _
      rw [fac_ok hat (by omega) fa]
    · obtain ⟨o1, o2, o3, o4, o6, o7⟩ := ops5 h1
      have hb := binds_binary h1 hn hk0
      have hr := str_range e.name
      obtain ⟨k, hkk⟩ := Int.eq_ofNat_of_zero_le hs
      obtain ⟨v1, v2, v3⟩ := lev_op (s := e.name) (k := k) hkk
      obtain ⟨a, b, hab⟩ := kids_2 hk0
      have hm : a ∈ e.kids ∧ b ∈ e.kids := by rw [hab]; simp
      obtain ⟨t1, t2⟩ := toks_two o1 o2 o3 o4 o6 o7 (by rw [hb]; simp; omega) (by rw [hb]; simp; omega) hk0
      rw [hab, hb, hkk] at t1 t2
      change toks e = kidTk a (leftP (k : Int)) ++ (tkS e.name :: kidTk b ((k + 1 : Nat) : Int)) at t1
      change dep e = max (kidDp a (leftP (k : Int))) (kidDp b ((k + 1 : Nat) : Int)) at t2
      obtain ⟨lf, hlf, hlf2⟩ : ∃ lf : Nat, leftP (k : Int) = (lf : Int) ∧ lf = (if k = 1 then 2 else k) := by
        by_cases h : k = 1
        · exact ⟨2, by rw [h]; rfl, by rw [if_pos h]⟩
        · exact ⟨k, by rw [leftP, show ((k : Int) == 1) = false by simp; omega]; rfl, by rw [if_neg h]⟩
      rw [hlf] at t1 t2
      rw [t1] at hh ⊢
      obtain ⟨g1, ⟨n0, n1⟩, g2⟩ := has_app hh
      have hra := rk_of (d := d) (hk a hm.1) (by omega) g1 (by split at hlf2 <;> omega) (hnn a (by first | exact hm.1 | exact ham))
      have hrb := rk_of (d := d) (hk b hm.2) (by omega) g2 (by omega) (hnn b hm.2)
      have hj : i + (kidTk a (lf : Int) ++ (tkS e.name :: kidTk b ((k + 1 : Nat) : Int))).length = i + (kidTk a (lf : Int)).length + 1 + (kidTk b ((k + 1 : Nat) : Int)).length := by rw [List.length_append, List.length_cons]; omega
      rw [hj]
      have hw := (tkey_parts n1).2.1
      have hat : isAt l (levelL k) (i + (kidTk a (lf : Int)).length) = true := by rw [isAt_S n1, v3 k v1]; simp
      have hq0 : Quiet l (k + 1) (i + (kidTk a (lf : Int)).length) := quiet_S n1 (k + 1) v2 (fun q h1 h2 => by rw [v3 q h2]; simp; omega)
      have hsame : ∀ a' b', sameE a' a = true → sameE b' b = true → sameE (mkE 5 (tokAt l (i + (kidTk a (lf : Int)).length)).text 0 [] [a', b'] (tokAt l (i + (kidTk a (lf : Int)).length))) e = true := fun a' b' ea eb =>
        same_mk hf h1.symm (by rw [hw]; rw [tkS]) (f3 (by omega)).symm (f5 (by omega) (by omega)).symm (by rw [hab, allSame, allSame, ea, eb]; rfl)
      have hcont : k ≠ 1 → Quiet l (k + 1) (i + (kidTk a (lf : Int)).length + 1 + (kidTk b ((k + 1 : Nat) : Int)).length) → ∃ e', sameE e' e = true ∧ rowD l d (4 - k) i = rowLoop l (rowP l (factor l d) (3 - k)) k (l.length - (i + (kidTk a (lf : Int)).length + 1 + (kidTk b ((k + 1 : Nat) : Int)).length)) e' (i + (kidTk a (lf : Int)).length + 1 + (kidTk b ((k + 1 : Nat) : Int)).length) := by
        intro hk1 hq
        rw [if_neg hk1] at hlf2
        subst hlf2
        obtain ⟨a', ea, fa⟩ := hra.r v1 hk1 hq0
        obtain ⟨b', eb, fb⟩ := hrb.s (by omega) hq
        refine ⟨_, hsame a' b' ea eb, ?_⟩
        rw [fa]
        have fb : rowP l (factor l d) (3 - lf) (i + (kidTk a (lf : Int)).length + 1) = .ok b' (i + (kidTk a (lf : Int)).length + 1 + (kidTk b ((lf + 1 : Nat) : Int)).length) := by
          have e3 : 4 - (lf + 1) = 3 - lf := by omega
          rw [← e3]; exact fb
        exact (loop_step (row_gt (factor_gt d) (3 - lf)) hat fb hk1).symm
      refine rb_of k (by rw [hb, hkk]) (fun h => by omega) (fun hq => ?_) (fun _ hk1 hq => hcont hk1 hq)
      rw [show min k 4 = k by omega] at hq ⊢
      by_cases hk1 : k = 1
      · subst hk1
        rw [if_pos rfl] at hlf2
        subst hlf2
        obtain ⟨a', ea, fa⟩ := hra.s (by omega) hq0
        obtain ⟨b', eb, fb⟩ := hrb.s (by omega) (hq.up (by omega))
        refine ⟨_, hsame a' b' ea eb, ?_⟩
        show rowD l d (2 + 1) i = _
        rw [row_up fa]
        exact loop_one hat fb rfl
      · obtain ⟨e', h1, h2⟩ := hcont hk1 (hq.up (by omega))
        exact ⟨e', h1, by rw [h2]; exact loop_stop (hq.2 k (Nat.le_refl _) v1)⟩
theorem targ_all (e : Ex) : formP e = true → szE e = true → isTargP e = true → ∀ i, dep e ≤ 40 → Has l i (toks e) → ∃ e', sameE e' e = true ∧ targetP l i = partsP l 40 (innerD l 40) (l.length - (i + (toks e).length)) e' (i + (toks e).length) := by
  induction e using Ex.ind with
  | h e ih =>
    intro hf hz hT i hd hh
    obtain ⟨z1, z2, z3, z4, z5⟩ := szE_facts hz
    have hk : ∀ k ∈ e.kids, RB l k := fun k hk => rb_all k (form_kid hf k hk) (z5 k hk)
    have hnn : ∀ k ∈ e.kids, 0 ≤ bindsP k := fun k hk => binds_nn (form_kid hf k hk)
    obtain ⟨f1, f2, f3, f4, f5⟩ := form_fields hf
    have htight : ∀ k : Ex, isTargP k = true → bindsP k = 5 := by
      intro k hk
      by_cases h5 : k.op = 5
      · rw [isTargP_eq, h5, show ((5 : Int) == 6 || (5 : Int) == 7) = false from rfl, cond_false, targE, h5] at hk
        have hn : isNameL k.name = true := by
          simp only [show ((5 : Int) == 4) = false from rfl, Bool.false_or, Bool.and_eq_true] at hk; exact hk.2
        exact binds_call h5 hn
      · exact binds_not5 h5
    have hkt : ∀ k : Ex, isTargP k = true → kidTk k 5 = toks k ∧ kidDp k 5 = dep k := by
      intro k hk
      rw [kidTk, kidDp, if_neg (by rw [htight k hk]; omega), if_neg (by rw [htight k hk]; omega)]; exact ⟨rfl, rfl⟩
    rcases kind_of hf with ⟨h1, hk0⟩ | ⟨h1, hk0⟩ | ⟨h1, hk0⟩ | ⟨h1, hn, hk0⟩ | ⟨h1, hn, hk0, hs⟩ | ⟨h1, hn, hk0, hs⟩
    · have h4 : e.op = 4 := by
        rw [isTargP_eq, targE] at hT
        rcases h1 with h1 | h1 | h1 | h1 <;> first | exact h1 | (rw [h1] at hT; cases hT)
      rw [(toks_name (by rw [h4]; rfl) (by rw [h4]; rfl) (by rw [h4]; rfl) (by rw [h4]; rfl)).1] at hh ⊢
      obtain ⟨o1, o2, o3⟩ := tkey_parts hh.1.2
      refine ⟨mkE 4 (tokAt l i).text 0 [] [] (tokAt l i), same_mk hf h4.symm o2 (f3 (by omega)).symm (f5 (by omega) (by omega)).symm (by rw [hk0]; rfl), ?_⟩
      rw [targetP, show ((tokAt l i).op == 1) = true by rw [o1]; rfl]; rfl
    · obtain ⟨o1, o2, o3, o4, o6⟩ := ops6 h1
      obtain ⟨a, b, hab⟩ := kids_2 hk0
      obtain ⟨t1, t2⟩ := toks_index o1 o2 o3 o4 o6 hk0
      rw [hab] at t1 t2
      change toks e = kidTk a 5 ++ inBr (toks b) at t1
      change dep e = max (kidDp a 5) (dep b + 1) at t2
      have hTa : isTargP a = true := by
        have := targR_67 (e := e) (by rw [h1]; rfl) (by omega)
        rw [this, hab] at hT; exact hT
      obtain ⟨k1, k2⟩ := hkt a hTa
      rw [k1] at t1; rw [k2] at t2
      rw [t1] at hh ⊢
      obtain ⟨g1, g2⟩ := has_app hh
      obtain ⟨⟨b1, b2⟩, b3, b4, b5⟩ := has_br g2
      have ha4 : a.op ≠ 4 := by
        have ht := form_op hf
        rw [tailR, h1, hab] at ht
        simp only [show ((6 : Int) == 1) = false from rfl, show ((6 : Int) == 2) = false from rfl, show ((6 : Int) == 3) = false from rfl, show ((6 : Int) == 4) = false from rfl, show ((6 : Int) == 5) = false from rfl, show ((6 : Int) == 6) = true from rfl, cond_true, cond_false, Bool.and_eq_true, bne_iff_ne] at ht
        exact ht.2
      have hm : a ∈ e.kids ∧ b ∈ e.kids := by rw [hab]; simp
      obtain ⟨a', ea, fa⟩ := ih a hm.1 (form_kid hf a hm.1) (z5 a hm.1) hTa i (by omega) g1
      obtain ⟨b', eb, fb⟩ := (hk b hm.2 (40 - 1) _ (by omega) b3).s 0 (by omega) (hnn b hm.2) (quiet_P b5 (.inl rfl) 0)
      have hp := parts_step (innerD_gt 40) (open_at b2) (part_one (e0 := a') (by omega) b2 fb b5)
      refine ⟨partE a' b' (tokAt l (i + (toks a).length)), ?_, ?_⟩
      · rw [partE, if_neg (by rw [same_op ea]; simpa using ha4)]
        exact same_mk hf h1.symm (f4 (by omega) (by omega)).symm (f3 (by omega)).symm (f5 (by omega) (by omega)).symm (by rw [hab, allSame, allSame, ea, eb]; rfl)
      · rw [fa, ← hp]
        have : i + (toks a ++ inBr (toks b)).length = i + (toks a).length + 1 + (toks b).length + 1 := by rw [List.length_append, br_len]; omega
        rw [this]
    · obtain ⟨o1, o2, o3, o4, o6, o7⟩ := ops7 h1
      obtain ⟨a, b, c, hab⟩ := kids_3' hk0
      obtain ⟨t1, t2⟩ := toks_slice o1 o2 o3 o4 o6 o7 hk0
      rw [hab] at t1 t2
      change toks e = kidTk a 5 ++ inBr (toks b ++ (tkS sDownto :: toks c)) at t1
      change dep e = max (kidDp a 5) (max (dep b) (max (dep c) 0) + 1) at t2
      have hm : a ∈ e.kids ∧ b ∈ e.kids ∧ c ∈ e.kids := by rw [hab]; simp
      have hTa : isTargP a = true := by
        have := targR_67 (e := e) (by rw [h1]; rfl) (by omega)
        rw [this, hab] at hT; exact hT
      obtain ⟨k1, k2⟩ := hkt a hTa
      rw [k1] at t1; rw [k2] at t2
      rw [t1] at hh ⊢
      obtain ⟨g1, g2⟩ := has_app hh
      obtain ⟨⟨b1, b2⟩, b3, b4, b5⟩ := has_br g2
      obtain ⟨c1, ⟨c2, c3⟩, c4⟩ := has_app b3
      have hlast : i + (toks a).length + 1 + (toks b ++ (tkS sDownto :: toks c)).length = i + (toks a).length + 1 + (toks b).length + 1 + (toks c).length := by rw [List.length_append, List.length_cons]; omega
      rw [hlast] at b5
      obtain ⟨b', eb, fb⟩ := (hk b hm.2.1 (40 - 1) _ (by omega) c1).s 0 (by omega) (hnn b hm.2.1) (quiet_P c3 (.inr (.inr rfl)) 0)
      obtain ⟨c', ec, fc⟩ := (hk c hm.2.2 (40 - 1) _ (by omega) c4).s 0 (by omega) (hnn c hm.2.2) (quiet_P b5 (.inl rfl) 0)
      have hj : i + (toks a ++ inBr (toks b ++ (tkS sDownto :: toks c))).length = i + (toks a).length + 1 + (toks b).length + 1 + (toks c).length + 1 := by rw [List.length_append, br_len, List.length_append, List.length_cons]; omega
      rw [hj]
      obtain ⟨a', ea, fa⟩ := ih a hm.1 (form_kid hf a hm.1) (z5 a hm.1) hTa i (by omega) g1
      have hp := parts_step (innerD_gt 40) (open_at b2) (part_slice (e0 := a') (by omega) b2 fb c3 fc b5)
      refine ⟨mkE 7 [] 0 [] [a', b', c'] (tokAt l (i + (toks a).length)), ?_, ?_⟩
      · exact same_mk hf h1.symm (f4 (by omega) (by omega)).symm (f3 (by omega)).symm (f5 (by omega) (by omega)).symm (by rw [hab, allSame, allSame, allSame, ea, eb, ec]; rfl)
      · rw [fa, ← hp]
    · obtain ⟨o1, o2, o3, o4, o6, o7⟩ := ops5 h1
      have hk1 : e.kids.length = 1 := by
        rw [isTargP_eq, h1, show ((5 : Int) == 6 || (5 : Int) == 7) = false from rfl, cond_false, targE, h1] at hT
        simp only [show ((5 : Int) == 4) = false from rfl, Bool.false_or, Bool.and_eq_true, beq_iff_eq] at hT
        omega
      obtain ⟨a, ha⟩ := kids_1' hk1
      obtain ⟨t1, t2⟩ := toks_call o1 o2 o3 o4 o6 o7 (by rw [binds_call h1 hn]; rfl)
      rw [ha] at t1 t2
      change toks e = tkN e.name :: inBr (toks a) at t1
      change dep e = max (dep a) 0 + 1 at t2
      have ham : a ∈ e.kids := by rw [ha]; simp
      rw [t1] at hh ⊢
      obtain ⟨⟨n0, n1⟩, g2⟩ := hh
      obtain ⟨⟨b1, b2⟩, b3, b4, b5⟩ := has_br g2
      obtain ⟨w1, w2, w3⟩ := tkey_parts n1
      obtain ⟨a', ea, fa⟩ := (hk a ham (40 - 1) _ (by omega) b3).s 0 (by omega) (hnn a ham) (quiet_P b5 (.inl rfl) 0)
      have hp := parts_step (innerD_gt 40) (open_at b2) (part_one (e0 := mkE 4 (tokAt l i).text 0 [] [] (tokAt l i)) (by omega) b2 fa b5)
      refine ⟨partE (mkE 4 (tokAt l i).text 0 [] [] (tokAt l i)) a' (tokAt l (i + 1)), ?_, ?_⟩
      · rw [partE, if_pos (by rfl)]
        exact same_call hf h1 w2 (by rw [ha, allSame, ea]; rfl)
      · rw [targetP, show ((tokAt l i).op == 1) = true by rw [w1]; rfl, if_pos rfl, ← hp]
        have : i + (tkN e.name :: inBr (toks a)).length = i + 1 + 1 + (toks a).length + 1 := by rw [List.length_cons, br_len]; omega
        rw [this]
    · rw [isTargP_eq, h1, show ((5 : Int) == 6 || (5 : Int) == 7) = false from rfl, cond_false, targE, h1, hn] at hT
      simp at hT
    · rw [isTargP_eq, h1, show ((5 : Int) == 6 || (5 : Int) == 7) = false from rfl, cond_false, targE, h1, hn] at hT
      simp at hT
theorem back_read {e : Ex} (hf : formP e = true) (hz : szE e = true) (hd : dep e ≤ 40) (h : alikeL (toks e) l = true) : ∃ e', sameE e' e = true ∧ rowD l 40 4 0 = .ok e' l.length := by
  have hl : l.length = 0 + (toks e).length := by rw [Nat.zero_add]; exact (alike_length h).symm
  rw [hl]
  exact (rb_all e hf hz 40 0 hd (has_alike h)).s 0 (by omega) (binds_nn hf) (quiet_end (by omega))
theorem back_targ {e : Ex} (hf : formP e = true) (hz : szE e = true) (hT : isTargP e = true) (hd : dep e ≤ 40) (h : alikeL (toks e) l = true) : ∃ e', sameE e' e = true ∧ targetP l 0 = .ok e' l.length := by
  have hl : l.length = 0 + (toks e).length := by rw [Nat.zero_add]; exact (alike_length h).symm
  obtain ⟨e', h1, h2⟩ := targ_all e hf hz hT 0 hd (has_alike h)
  refine ⟨e', h1, ?_⟩
  rw [h2, ← hl]
  exact parts_stop (isAt_end (Nat.le_refl _) _)
end
end Go.Proofs.YtcgdlhkiecommaaGreatDoor
/- strings.Builder at this dump: copyCheck and WriteByte. -/





set_option linter.unusedVariables false
namespace Go.Proofs.YtcgdlhkiecommaaGreatDoor
open Go Go.RowKit Go.Shelf
theorem sizeBld : (Tryz.prog.info? 163).map (·.size) = some 2 := by kernel_rfl
theorem liesBld : liesAt Tryz.prog Tryz.prog.depth 163 (2 / Tryz.prog.cellsOf 163) 0 163 1 = true := by kernel_rfl
theorem infoByteB : (Tryz.prog.info? 5).map (fun i => (i.zero, i.size, i.bytes)) = some (some (.int .u8 0), 1, 1) := by kernel_rfl
theorem neB5 : (163 : Nat) ≠ 5 := by decide
set_option maxHeartbeats 1000000 in
set_option maxRecDepth 100000 in
theorem bld_copy_used (b : Nat) (w : World) (h0 : w.cell? ⟨b, 0, none⟩ = some (.pointer (some ⟨b, 0, none⟩))) :
    Calls Tryz.prog 188 #[.pointer (some ⟨b, 0, none⟩)] w fun e w' => e = .returned (.tuple #[]) ∧ w' = w := by
  obtain ⟨j, hj, _⟩ := Option.map_eq_some_iff.1 sizeBld
  go_enter Tryz.func188, Tryz.ntmps188
  go_wp2
  rw [Lib.run_neq_ptr_same w _ Tryz.underlying160 hj]
  go_wp2
  go_end0
  exact ⟨rfl, rfl⟩
set_option maxHeartbeats 1000000 in
set_option maxRecDepth 100000 in
theorem bld_copy_fresh (b : Nat) (w : World) (h0 : w.cell? ⟨b, 0, none⟩ = some (.pointer none)) (hsh : w.shape? b = some (163, 2)) (hfz : w.frozen? ⟨b, 0, none⟩ = false) :
    Calls Tryz.prog 188 #[.pointer (some ⟨b, 0, none⟩)] w fun e w' => e = .returned (.tuple #[]) ∧ w' = w.setCell ⟨b, 0, none⟩ (.pointer (some ⟨b, 0, none⟩)) := by
  obtain ⟨j, hj, hjs⟩ := Option.map_eq_some_iff.1 sizeBld
  go_enter Tryz.func188, Tryz.ntmps188
  go_wp2
  rw [Lib.run_to_unsafe w ⟨b, 0, none⟩ Tryz.underlying160 Tryz.underlying200 hj (by rw [hjs]; decide) hsh (Nat.zero_lt_succ 1)]
  simp only [Result.andThen]
  rw [Oper.upon_value]
  go_wp2
  rw [run_callFunc_extern Tryz.func203 (by kernel_rfl) (by kernel_rfl) (by kernel_rfl) (e := Extern.AbiNoEscape.same) (by kernel_rfl)]
  rw [Lib.run_noEscape]
  simp only [Result.andThen]
  rw [Oper.upon_value]
  go_wp2
  rw [Lib.run_from_unsafe w ⟨b, 0, none⟩ Tryz.underlying200 Tryz.underlying160 hj hsh liesBld]
  simp only [Result.andThen]
  rw [Oper.upon_value]
  go_wp2
  go_end0
  exact ⟨rfl, rfl⟩
theorem bld_copy (B b : Nat) (bs : List Value) (w : World) (h : Lib.IsBuilderF 163 5 B b bs w) :
    Calls Tryz.prog 188 #[.pointer (some ⟨b, 0, none⟩)] w fun e w' => e = .returned (.tuple #[]) ∧ (Lib.BuilderAtF 163 5 B b (.pointer (some ⟨b, 0, none⟩)) bs w' ∧ Below B w w' ∧ Lib.OthersKept 5 (some b) w w') := by
  rcases h with h | h
  · refine (bld_copy_fresh b w h.cell0 h.shape h.frozen0).mono ?_
    rintro e w' ⟨rfl, rfl⟩
    exact ⟨rfl, h.used _, (Below.refl B w).setCell (p := ⟨b, 0, none⟩) h.1 _, (Lib.OthersKept.refl _ _ w).setCell ⟨b, 0, none⟩ rfl _⟩
  · refine (bld_copy_used b w h.cell0).mono ?_
    rintro e w' ⟨rfl, rfl⟩
    exact ⟨rfl, h, Below.refl B _, Lib.OthersKept.refl _ _ _⟩
theorem enters_copy : ∀ args w, (callFunc 188 args).run Tryz.prog w = .ok (.enter 188 args) w := enters_of Tryz.func188 (by kernel_rfl) rfl
set_option maxHeartbeats 2000000 in
set_option maxRecDepth 100000 in
theorem bld_writeByte (B b : Nat) (bs : List Value) (c : Int) (w : World) (h : Lib.IsBuilderF 163 5 B b bs w) (hlen : bs.length + 1 ≤ 140737488355328) (hBw : B ≤ w.heap.size) :
    Calls Tryz.prog 179 #[.pointer (some ⟨b, 0, none⟩), .int .u8 c] w fun e w' => e = .returned .nilIface ∧ (Lib.BuilderAtF 163 5 B b (.pointer (some ⟨b, 0, none⟩)) (bs ++ [.int .u8 c]) w' ∧ Below B w w' ∧ Lib.OthersKept 5 (some b) w w') := by
  obtain ⟨i0, hi, hz0, hz1, hz2⟩ := info_parts infoByteB
  have e240 := enters_copy
  go_enter Tryz.func179, Tryz.ntmps179
  go_wp2_with (go_at_fn 188; refine (bld_copy B b bs _ h).mono ?_)
  rintro e w1 ⟨rfl, h1, hb1, hk1⟩
  obtain ⟨hB, v, hbk, hown, hne⟩ := h1
  have c0 : w1.cell? ⟨b, 0, none⟩ = some (.pointer (some ⟨b, 0, none⟩)) := by rw [Lib.cell_of_heap hbk]; rfl
  have c1 : w1.cell? ⟨b, 1, none⟩ = some v := by rw [Lib.cell_of_heap hbk]; rfl
  go_wp2_with (at_builtin; refine wpList_append_ownF _ rfl _ _ 161 rfl B 5 i0 (.int .u8 0) 1 1 Tryz.underlying161 hi hz0 hz1 hz2 rfl (by decide) _ _ _ rfl (hown.alloc _) ⟨w1.heap.size, 0, none⟩ 1 1 [.int .u8 c] rfl rfl ?c1 ?c2 ?c3 ?c4 ?c5 ?_)
  case c1 =>
    intro j u hj
    match j, hj with
    | 0, hj => simp at hj; subst hj; simp [Addr.add]
  case c2 => intro u hu; simp at hu; subst hu; rfl
  case c3 => unfold maxLen; omega
  case c4 => omega
  case c5 => have := hb1.size; simp; omega
  intro v' w2 hown' hgrow _
  have hlt : b < w1.heap.size := by
    rcases Nat.lt_or_ge b w1.heap.size with h' | h'
    · exact h'
    · simp [Array.getElem?_eq_none h'] at hbk
  have hb2 : w2.heap[b]? = some (.cells #[.pointer (some ⟨b, 0, none⟩), v] 163 (0, 0)) := by
    rw [hgrow.block b (by simp; omega) (fun e => hne e.symm), Lib.alloc_old w1 _ b hlt]
    exact hbk
  have d0 : w2.cell? ⟨b, 0, none⟩ = some (.pointer (some ⟨b, 0, none⟩)) := by rw [Lib.cell_of_heap hb2]; rfl
  have d1 : w2.cell? ⟨b, 1, none⟩ = some v := by rw [Lib.cell_of_heap hb2]; rfl
  have f1 : w2.frozen? ⟨b, 1, none⟩ = false := Lib.frozen_of_heap hb2 1
  obtain ⟨g, cap, rfl⟩ : ∃ g cap, v' = .slice (some ⟨g, 0, none⟩) (bs.length + 1) cap := by
    rcases hown'.2 with ⟨_, h0⟩ | ⟨g, cap, cur, fz, hv, _⟩
    · omega
    · exact ⟨g, cap, hv⟩
  go_wp2
  go_ret
  refine ⟨rfl, ?_, ?_, ((hk1.alloc _).grown hgrow (Lib.ownsRowF_kind (hown.alloc _))).setCell ⟨b, 1, none⟩ rfl _⟩
  · exact Lib.BuilderAtF.put (T := 163) (e := 5) hB hb2 (bs' := bs ++ [.int .u8 c]) (by simpa using hown') neB5
  · exact ((hb1.alloc (by have := hb1.size; omega) _).grown hgrow (by have := hb1.size; simp; omega) (fun k hk => (hown.lt k hk).1)).setCell (p := ⟨b, 1, none⟩) hB _
end Go.Proofs.YtcgdlhkiecommaaGreatDoor
/- What few parts are, for what is written: tokens, depth, names; the reference's answers are the program's. -/


namespace Go.Proofs.YtcgdlhkiecommaaGreatDoor
open Go
def sumL : List Nat → Nat
  | [] => 0
  | a :: r => a + sumL r
theorem inBr_len (t : List Tk) : (inBr t).length = t.length + 2 := by simp [inBr]
theorem kidT_len (ks : List Ex) (ts : List (List Tk)) (i : Nat) (n : Int) : (kidT ks ts i n).length ≤ (ts.getD i []).length + 2 := by
  rw [kidT]; split
  · rw [inBr_len]; omega
  · omega
theorem sepT_len (s : Bs) (ts : List (List Tk)) : (sepT s ts).length ≤ sumL (ts.map fun t => t.length + 1) := by
  induction ts with
  | nil => simp [sepT]
  | cons a r ih =>
    cases r with
    | nil => simp [sepT, sumL]
    | cons b r => simp only [sepT, List.length_append, List.length_cons, List.map_cons, sumL] at ih ⊢; omega
theorem toksOf_len (e : Ex) (ts : List (List Tk)) : (toksOf e ts).length + 1 ≤ sumL (ts.map fun t => t.length + 1) + 6 := by
  have h0 : (ts.getD 0 []).length ≤ sumL (ts.map fun t => t.length + 1) ∧ (ts.getD 0 []).length + (ts.getD 1 []).length ≤ sumL (ts.map fun t => t.length + 1) ∧ (ts.getD 0 []).length + 1 + sumL ((ts.drop 1).map fun t => t.length + 1) ≤ sumL (ts.map fun t => t.length + 1) + 1 := by
    match ts with
    | [] => simp [sumL]
    | [a] => simp [sumL]
    | a :: b :: r => simp [sumL]; omega
  have k0 := fun n => kidT_len e.kids ts 0 n
  have k1 := fun n => kidT_len e.kids ts 1 n
  have s1 := sepT_len sDownto (ts.drop 1)
  have s2 := sepT_len sComma ts
  have h2 : (ts.getD 0 []).length + 2 + 1 + ((ts.getD 1 []).length + 2) + 1 ≤ sumL (ts.map fun t => t.length + 1) + 6 := by omega
  unfold toksOf
  cases e.op == 1 <;> cases e.op == 2 <;> cases e.op == 3 <;> cases e.op == 4 <;> cases e.op == 6 <;> cases e.op == 7 <;> cases bindsP e == 5 <;> cases bindsP e == 4 <;>
    simp only [cond_true, cond_false, List.length_append, List.length_cons, List.length_nil, inBr_len] <;>
    first | omega | (have := k0 5; omega) | (have := k0 4; omega) | (have := k0 (leftP (bindsP e)); have := k1 (bindsP e + 1); omega)
theorem toks_len (e : Ex) : (toks e).length + 1 ≤ 6 * nodes e := by
  induction e using Ex.ind with
  | h e ih =>
    have hs : ∀ l : List Ex, (∀ k ∈ l, (toks k).length + 1 ≤ 6 * nodes k) → sumL ((l.map toks).map fun t => t.length + 1) ≤ 6 * nodesL l := by
      intro l
      induction l with
      | nil => intro _; exact Nat.le_refl _
      | cons a l ih => intro h; have := h a (by simp); have := ih fun k hk => h k (by simp [hk]); simp only [List.map_cons, sumL, nodesL]; omega
    rw [toks_eq, nodes_eq]
    have := toksOf_len e (e.kids.map toks)
    have := hs e.kids ih
    omega
theorem getD_maxL (ds : List Nat) (i : Nat) : ds.getD i 0 ≤ maxL ds := by
  rcases Nat.lt_or_ge i ds.length with h | h
  · exact maxL_le h
  · rw [List.getD_eq_getElem?_getD, List.getElem?_eq_none h]; exact Nat.zero_le _
theorem maxL_drop (ds : List Nat) : maxL (ds.drop 1) ≤ maxL ds := by cases ds <;> simp [maxL]; omega
theorem depOf_le (e : Ex) (ds : List Nat) : depOf e ds ≤ maxL ds + 2 := by
  have k := fun i n => (show kidD e.kids ds i n ≤ maxL ds + 1 by rw [kidD]; have := getD_maxL ds i; split <;> omega)
  have g := getD_maxL ds 1
  have m := maxL_drop ds
  unfold depOf
  cases e.op == 1 <;> cases e.op == 2 <;> cases e.op == 3 <;> cases e.op == 4 <;> cases e.op == 6 <;> cases e.op == 7 <;> cases bindsP e == 5 <;> cases bindsP e == 4 <;>
    simp only [cond_true, cond_false] <;>
    first | omega | (have := k 0 5; omega) | (have := k 0 4; omega) | (have := k 0 (leftP (bindsP e)); have := k 1 (bindsP e + 1); omega)
theorem dep_le (e : Ex) : dep e ≤ 2 * height e + 2 := by
  induction e using Ex.ind with
  | h e ih =>
    have hs : ∀ l : List Ex, (∀ k ∈ l, dep k ≤ 2 * height k + 2) → maxL (l.map dep) ≤ 2 * heights l := by
      intro l
      induction l with
      | nil => intro _; exact Nat.le_refl _
      | cons a l ih => intro h; have := h a (by simp); have := ih fun k hk => h k (by simp [hk]); simp only [List.map_cons, maxL, heights]; omega
    have h1 := hs e.kids ih
    have h2 := depOf_le e (e.kids.map dep)
    rw [← dep_eq] at h2
    rw [height_eq]; omega
theorem depQ_le (e : Ex) : depQ e ≤ 2 * height e := by
  induction e using Ex.ind with
  | h e ih =>
    rw [depQ_eq, height_eq]
    have : ∀ n, n ≤ e.kids.length → mostR e (e.kids.map depQ) n ≤ 2 * heights e.kids := by
      intro n
      induction n with
      | zero => intro _; exact Nat.zero_le _
      | succ n ihn =>
        intro hn
        have h1 := ihn (by omega)
        have hm : e.kids.getD n default ∈ e.kids := getD_mem (by omega)
        have h2 := ih _ hm
        have h3 := heights_mem hm
        have h4 : (e.kids.map depQ).getD n 0 = depQ (e.kids.getD n default) := by
          rw [List.getD_eq_getElem?_getD, List.getD_eq_getElem?_getD, List.getElem?_map, List.getElem?_eq_getElem (show n < e.kids.length by omega)]; rfl
        rw [mostR, h4, addR]
        split <;> split <;> omega
    exact this _ (Nat.le_refl _)
theorem toksOf_all {p : Tk → Prop} {e : Ex} {ts : List (List Tk)} (hO : p tkO) (hC : p tkC) (hn : ∀ o, p ⟨o, e.name, 0, 0, 0⟩) (hi : p ⟨3, [], e.n, 0, 0⟩) (hb : ∀ o, p ⟨o, bitsT e.bits, 0, 0, 0⟩) (hs : ∀ s : Bs, s.length ≤ 6 → p (tkS s)) (h : ∀ t ∈ ts, ∀ x ∈ t, p x) : ∀ x ∈ toksOf e ts, p x := by
  have hg : ∀ i, ∀ x ∈ ts.getD i [], p x := by
    intro i x hx
    rcases Nat.lt_or_ge i ts.length with h1 | h1
    · exact h _ (by rw [List.getD_eq_getElem?_getD, List.getElem?_eq_getElem h1]; exact List.getElem_mem h1) x hx
    · rw [List.getD_eq_getElem?_getD, List.getElem?_eq_none h1] at hx; cases hx
  have hk : ∀ i n, ∀ x ∈ kidT e.kids ts i n, p x := by
    intro i n x hx
    rw [kidT] at hx
    split at hx
    · exact inBr_all hO hC (hg i) x hx
    · exact hg i x hx
  have hS : p (tkS e.name) := by rw [tkS]; exact hn _
  have one : ∀ {t : Tk}, p t → ∀ x ∈ [t], p x := fun h x hx => by rw [List.mem_singleton.1 hx]; exact h
  have app : ∀ {a b : List Tk}, (∀ x ∈ a, p x) → (∀ x ∈ b, p x) → ∀ x ∈ a ++ b, p x := fun h1 h2 x hx => (List.mem_append.1 hx).elim (h1 x) (h2 x)
  have con : ∀ {t : Tk} {b : List Tk}, p t → (∀ x ∈ b, p x) → ∀ x ∈ t :: b, p x := fun h1 h2 x hx => (List.mem_cons.1 hx).elim (fun e => e ▸ h1) (h2 x)
  unfold toksOf
  cases e.op == 1
  case true => exact one hi
  cases e.op == 2
  case true => exact one (hb _)
  cases e.op == 3
  case true => exact one (hb _)
  cases e.op == 4
  case true => exact one (hn _)
  cases e.op == 6
  case true => exact app (hk _ _) (inBr_all hO hC (hg 1))
  cases e.op == 7
  case true => exact app (hk _ _) (inBr_all hO hC (sepT_all (hs _ (by decide)) fun t ht => h t (List.mem_of_mem_drop ht)))
  cases bindsP e == 5
  case true => exact con (hn _) (inBr_all hO hC (sepT_all (hs _ (by decide)) h))
  cases bindsP e == 4
  case true => exact con hS (hk _ _)
  exact app (hk _ _) (con hS (hk _ _))
theorem nuE_facts {e : Ex} (h : nuE e = true) : (-9223372036854775808 ≤ e.n ∧ e.n ≤ 9223372036854775807) ∧ ∀ k ∈ e.kids, nuE k = true := by
  have hn : ∀ l : List Ex, nuEs l = true → ∀ k ∈ l, nuE k = true := by
    intro l
    induction l with
    | nil => intro _ k hk; cases hk
    | cons a l ih =>
      intro h k hk
      rw [nuEs, Bool.and_eq_true] at h
      cases hk with
      | head => exact h.1
      | tail _ hk => exact ih h.2 k hk
  cases e with
  | mk o s n b v k t l c =>
    rw [nuE] at h
    simp only [Bool.and_eq_true] at h
    have h1 := h.1.1.2.1
    rw [w64, Bool.and_eq_true, decide_eq_true_eq, decide_eq_true_eq] at h1
    exact ⟨h1, hn k h.2⟩
theorem okt0 {o : Int} {s : Bs} (h : s.length ≤ 1000000) : OKT ⟨o, s, 0, 0, 0⟩ := ⟨Nat.le_trans h (by decide), (by decide : (-9223372036854775808 : Int) ≤ 0), (by decide : (0 : Int) ≤ 9223372036854775807)⟩
theorem toks_small (e : Ex) : smE e = true → nuE e = true → OKTs (toks e) := by
  induction e using Ex.ind with
  | h e ih =>
    intro hm hn
    obtain ⟨m1, m2, m3⟩ := smE_facts hm
    obtain ⟨n1, n2⟩ := nuE_facts hn
    rw [toks_eq]
    refine toksOf_all (p := OKT) ⟨by decide, by decide, by decide⟩ ⟨by decide, by decide, by decide⟩ (fun o => okt0 (by omega)) ⟨(by decide : (0 : Nat) ≤ 140737488355328), n1.1, n1.2⟩ (fun o => okt0 (by rw [bitsT_len]; omega)) (fun s hs => by rw [tkS]; exact okt0 (by omega)) (fun t ht x hx => ?_)
    obtain ⟨k, hk, rfl⟩ := List.mem_map.1 ht
    exact ih k hk (m3 k hk) (n2 k hk) x hx
theorem namesQ_le (e : Ex) : ∀ out, (namesQ out e).length ≤ out.length + nodes e := by
  induction e using Ex.ind with
  | h e ih =>
    intro out
    have key : ∀ (l : List Ex), (∀ k ∈ l, ∀ out : List Bs, (namesQ out k).length ≤ out.length + nodes k) → ∀ out : List Bs, (l.foldl namesQ out).length ≤ out.length + nodesL l := by
      intro l
      induction l with
      | nil => intro _ out; exact Nat.le_refl _
      | cons a l ihl => intro h out; have h1 := h a (by simp) out; have h2 := ihl (fun k hk => h k (by simp [hk])) (namesQ out a); rw [List.foldl_cons, nodesL]; omega
    rw [namesQ_eq, nodes_eq]
    have h1 := key _ ih (addN out e)
    have h2 : (addN out e).length ≤ out.length + 1 := by rw [addN]; cases (isNm e && !(out.contains e.name)) <;> simp
    omega
theorem namesE_len (e : Ex) : (namesE e).1.length ≤ (toks e).length := by
  rw [namesE]; cases validP e
  · exact Nat.zero_le _
  · exact namesT_len _
def namesRQ (e : Ex) : List Bs × Int := bif validQ e then (namesQ [] e, 0) else ([], 2)
structure WF (P : Program) (e : Ex) : Prop where
  z : szE e = true
  m : smE e = true
  nd : nodes e ≤ 3000
  ht : height e ≤ 300
  tl : (toks e).length ≤ 18000
  dp : dep e ≤ 602
  dq : depQ e ≤ 600
  w : OKW P e
  tk : OKTs (toks e)
  v : validQ e = validP e
  tx : textQ e = textE e
  nm : namesRQ e = namesE e
  nl : (namesQ [] e).length ≤ 3000
theorem wf_of {P : Program} {e : Ex} (hb : BT P) (h : fewP [e] 3000 = true) (hn : nuE e = true) : WF P e := by
  obtain ⟨h1, h2, h3⟩ := few_one h
  have hz := szE_few e h2 hn h1
  have t1 := toks_len e
  have d1 := dep_le e
  have d2 := depQ_le e
  have n1 := namesQ_le e []
  have hv := validQ_P e (by omega)
  refine ⟨hz, h2, h1, h3, by omega, by omega, by omega, ⟨hz, .inr hb, by omega, by omega⟩, toks_small e h2 hn, hv, ?_, ?_, by simpa using Nat.le_trans n1 (by simpa using h1)⟩
  · rw [textQ, textE, hv]
    cases hvp : validP e with
    | false => rfl
    | true =>
      have hf := validQ_form (hv.trans hvp)
      exact (textP_T (fun t ht => (toks_ok e hf hz h2 t ht).poss) (by omega)).symm
  · rw [namesRQ, namesE, hv]
    cases hvp : validP e with
    | false => rfl
    | true =>
      have hf := validQ_form (hv.trans hvp)
      show (namesQ [] e, (0 : Int)) = (namesT (toks e), 0)
      rw [names_toks e hf []]; rfl
end Go.Proofs.YtcgdlhkiecommaaGreatDoor
/- What is read of the first tokens alone is the same. -/

namespace Go.Proofs.YtcgdlhkiecommaaGreatDoor
open Go
section
variable {l : List Tk} {n : Nat}
end
end Go.Proofs.YtcgdlhkiecommaaGreatDoor
/- What is read is valid, and is written with tokens that were read. -/


namespace Go.Proofs.YtcgdlhkiecommaaGreatDoor
open Go
def seg (l : List Tk) (i j : Nat) : List (Int × Bs × Int) := ((l.map tkey).drop i).take (j - i)
theorem seg_app {l : List Tk} {i j k : Nat} (h1 : i ≤ j) (h2 : j ≤ k) : seg l i j ++ seg l j k = seg l i k := by
  have e : k - i = (j - i) + (k - j) := by omega
  rw [seg, seg, seg, e, List.take_add, List.drop_drop, show i + (j - i) = j by omega]
theorem seg_one {l : List Tk} {i : Nat} (h : i < l.length) : seg l i (i + 1) = [tkey (tokAt l i)] := by
  have e : l.drop i = tokAt l i :: l.drop (i + 1) := by
    rw [List.drop_eq_getElem_cons h, tokAt, List.getD_eq_getElem?_getD, List.getElem?_eq_getElem h]; rfl
  rw [seg, show i + 1 - i = 1 by omega, ← List.map_drop, e]; rfl
def Sb (l : List Tk) (ts : List Tk) (i j : Nat) : Prop := i ≤ j ∧ (ts.map tkey).Sublist (seg l i j)
section
variable {l : List Tk}
theorem sb_app {a b : List Tk} {i j k : Nat} (h1 : Sb l a i j) (h2 : Sb l b j k) : Sb l (a ++ b) i k :=
  ⟨Nat.le_trans h1.1 h2.1, by rw [List.map_append, ← seg_app h1.1 h2.1]; exact h1.2.append h2.2⟩
theorem sb_one {t : Tk} {i : Nat} (h : i < l.length) (hk : tkey t = tkey (tokAt l i)) : Sb l [t] i (i + 1) :=
  ⟨by omega, by rw [seg_one h, List.map_cons, List.map_nil, hk]; exact List.Sublist.refl _⟩
theorem sb_cons {t : Tk} {b : List Tk} {i k : Nat} (h : i < l.length) (hk : tkey t = tkey (tokAt l i)) (h2 : Sb l b (i + 1) k) : Sb l (t :: b) i k := sb_app (sb_one h hk) h2
theorem sb_nil {i j : Nat} (h : i ≤ j) : Sb l [] i j := ⟨h, by simp⟩
theorem sb_skip {b : List Tk} {i j k : Nat} (h : i ≤ j) (h2 : Sb l b j k) : Sb l b i k := sb_app (sb_nil h) h2
theorem sb_more {b : List Tk} {i j k : Nat} (h : j ≤ k) (h2 : Sb l b i j) : Sb l b i k := by
  have := sb_app h2 (sb_nil (l := l) h)
  rwa [List.append_nil] at this
theorem sb_sub {a b : List Tk} {i j : Nat} (h : a.Sublist b) (h2 : Sb l b i j) : Sb l a i j := ⟨h2.1, (h.map tkey).trans h2.2⟩
def Wr (l : List Tk) : Prop := ∀ i, i < l.length → possT (tokAt l i) = true
theorem key_S {t : Tk} (h : possT t = true) (ho : t.op = 2 ∨ t.op = 7) : tkey (tkS t.text) = tkey t := by
  have key : (signsL.all fun x => !(isWordL x)) = true := by decide +kernel
  rcases ho with ho | ho
  · rw [possT, ho] at h
    simp only [show ((2 : Int) == 1) = false from rfl, show ((2 : Int) == 2) = true from rfl, cond_true, cond_false, Bool.and_eq_true, beq_iff_eq] at h
    rw [tkey, tkey, ho, h.1, tkS, h.2]; rfl
  · rw [possT, ho] at h
    simp only [show ((7 : Int) == 1) = false from rfl, show ((7 : Int) == 2) = false from rfl, show ((7 : Int) == 3) = false from rfl, show ((7 : Int) == 4) = false from rfl, show ((7 : Int) == 5) = false from rfl, show ((7 : Int) == 6) = false from rfl, show ((7 : Int) == 7) = true from rfl, cond_true, cond_false, Bool.and_eq_true, beq_iff_eq] at h
    have hw := List.all_eq_true.1 key _ (List.contains_iff_mem.1 h.2)
    rw [Bool.not_eq_true'] at hw
    rw [tkey, tkey, ho, h.1, tkS, hw]; rfl
theorem isAt_key (hw : Wr l) {ts : List Bs} {i : Nat} (h : isAt l ts i = true) : i < l.length ∧ tkey (tkS (tokAt l i).text) = tkey (tokAt l i) ∧ ts.contains (tokAt l i).text = true := by
  have hi := isAt_lt h
  rw [isAt, Bool.and_eq_true, Bool.or_eq_true, beq_iff_eq, beq_iff_eq] at h
  exact ⟨hi, key_S (hw i hi) h.1, h.2⟩
theorem isAt_one (hw : Wr l) {s : Bs} {i : Nat} (h : isAt l [s] i = true) : i < l.length ∧ tkey (tkS s) = tkey (tokAt l i) := by
  obtain ⟨h1, h2, h3⟩ := isAt_key hw h
  have : (tokAt l i).text = s := by simpa using h3
  rw [← this]; exact ⟨h1, h2⟩
theorem szE_of {e : Ex} (h1 : e.name.length ≤ 1000000000) (h2 : e.bits.length ≤ 1000000000) (h3 : e.kids.length ≤ 1000000000) (h4 : ∀ x ∈ e.bits, 0 ≤ x) (h5 : ∀ k ∈ e.kids, szE k = true) : szE e = true := by
  have hl : ∀ l : List Ex, (∀ k ∈ l, szE k = true) → szEs l = true := by
    intro l
    induction l with
    | nil => intro _; rfl
    | cons a l ih => intro h; rw [szEs, h a (by simp), ih fun k hk => h k (by simp [hk])]; rfl
  cases e with
  | mk o s n b v k t l c =>
    rw [szE, hl k h5]
    have h1 : s.length ≤ 1000000000 := h1
    have h2 : b.length ≤ 1000000000 := h2
    have h3 : k.length ≤ 1000000000 := h3
    have h4 : b.all (fun x => decide (0 ≤ x)) = true := List.all_eq_true.2 (fun x hx => decide_eq_true (h4 x hx))
    rw [decide_eq_true h1, decide_eq_true h2, decide_eq_true h3, h4]; rfl
structure Gd (l : List Tk) (d k : Nat) (e : Ex) (i j : Nat) : Prop where
  f : formP e = true
  z : szE e = true
  m : smE e = true
  dp : kidDp e (k : Int) ≤ d
  sb : Sb l (kidTk e (k : Int)) i j
  h : height e + 1 ≤ j - i
theorem sub_br (t : List Tk) : t.Sublist (inBr t) := (List.sublist_append_left t _).trans (List.sublist_cons_self _ _)
theorem Gd.down {d k k' i j : Nat} {e : Ex} (g : Gd l d k' e i j) (hk : k ≤ k') : Gd l d k e i j := by
  refine ⟨g.f, g.z, g.m, ?_, ?_, g.h⟩
  · have := g.dp
    rw [kidDp] at this ⊢
    split <;> split at this <;> omega
  · have := g.sb
    rw [kidTk] at this ⊢
    split
    · rw [if_pos (by omega)] at this; exact this
    · split at this
      · exact sb_sub (sub_br _) this
      · exact this
theorem Gd.tk0 {d i j : Nat} {e : Ex} (g : Gd l d 0 e i j) : Sb l (toks e) i j ∧ dep e ≤ d := by
  have h1 := g.sb
  have h2 := g.dp
  have := tight g.f
  rw [show ((0 : Nat) : Int) = 0 from rfl, this.1] at h1
  rw [show ((0 : Nat) : Int) = 0 from rfl, this.2] at h2
  exact ⟨h1, h2⟩
theorem sb_br (hw : Wr l) {t : List Tk} {i j : Nat} (ho : isAt l [sOpen] i = true) (h : Sb l t (i + 1) j) (hs : isAt l [sShut] j = true) : Sb l (inBr t) i (j + 1) := by
  obtain ⟨a1, a2⟩ := isAt_one hw ho
  obtain ⟨b1, b2⟩ := isAt_one hw hs
  exact sb_cons a1 a2 (sb_app h (sb_one b1 b2))
theorem Gd.br (hw : Wr l) {d i j : Nat} {e : Ex} (ho : isAt l [sOpen] i = true) (hd : d ≠ 0) (g : Gd l (d - 1) 0 e (i + 1) j) (hs : isAt l [sShut] j = true) : Gd l d 5 e i (j + 1) := by
  obtain ⟨t1, t2⟩ := g.tk0
  refine ⟨g.f, g.z, g.m, ?_, ?_, by have := g.h; omega⟩
  · rw [kidDp]; split <;> omega
  · rw [kidTk]; split
    · exact sb_br hw ho t1 hs
    · exact sb_skip (Nat.le_succ i) (sb_more (Nat.le_succ j) t1)
theorem gd_leaf {d k i : Nat} {e : Ex} {t : Tk} (hf : formP e = true) (hz : szE e = true) (hm : smE e = true) (hb : bindsP e = 5) (ht : toks e = [t]) (hd : dep e = 0) (hi : i < l.length) (hk : tkey t = tkey (tokAt l i)) (hh : e.kids = []) (hk5 : k ≤ 5) : Gd l d k e i (i + 1) := by
  refine ⟨hf, hz, hm, ?_, ?_, by rw [height_eq, hh]; simp [heights]⟩
  · rw [kidDp, if_neg (by omega), hd]; omega
  · rw [kidTk, if_neg (by omega), ht]; exact sb_one hi hk
theorem name_len {s : Bs} (h : isNameL s = true) : s.length ≤ 40 := by
  simp only [isNameL, Bool.and_eq_true, decide_eq_true_eq] at h; exact h.2.1
theorem lev_str {s : Bs} {k : Nat} (hk : k < 4) (h : (levelL k).contains s = true) : strengthI s = (k : Int) ∧ isNameL s = false ∧ s.length ≤ 40 := by
  have key : (levelsL.flatten.all fun x => (decide (x.length ≤ 40) && !(isNameL x)) && (List.range 4).all fun q => (levelL q).contains x == (strengthI x == (q : Int))) = true := by decide +kernel
  have hm : s ∈ levelsL.flatten := by
    rw [List.contains_iff_mem] at h
    refine List.mem_flatten.2 ⟨levelL k, ?_, h⟩
    have : k = 0 ∨ k = 1 ∨ k = 2 ∨ k = 3 := by omega
    rcases this with rfl | rfl | rfl | rfl <;> simp [levelL, levelsL]
  have h1 := List.all_eq_true.1 key s hm
  rw [Bool.and_eq_true, Bool.and_eq_true, Bool.not_eq_true', decide_eq_true_eq, List.all_eq_true] at h1
  have := h1.2 k (List.mem_range.2 hk)
  rw [h, beq_iff_eq] at this
  exact ⟨by simpa using this.symm, h1.1.2, h1.1.1⟩
theorem all2 {p : Ex → Prop} {a b : Ex} (h1 : p a) (h2 : p b) : ∀ k ∈ [a, b], p k := by
  intro k hk; simp only [List.mem_cons, List.not_mem_nil, or_false] at hk; rcases hk with rfl | rfl <;> assumption
theorem all3 {p : Ex → Prop} {a b c : Ex} (h1 : p a) (h2 : p b) (h3 : p c) : ∀ k ∈ [a, b, c], p k := by
  intro k hk; simp only [List.mem_cons, List.not_mem_nil, or_false] at hk; rcases hk with rfl | rfl | rfl <;> assumption
theorem form_of {e : Ex} (h1 : headR e = false) (h2 : ∀ k ∈ e.kids, formP k = true) (h3 : tailR e = true) : formP e = true := by
  rw [formH, h1, List.all_eq_true.2 h2, h3]; rfl
theorem gd_bin (hw : Wr l) {d k i j m : Nat} {a b : Ex} {t : Tk} (hk : k < 4) (ga : Gd l d (if k = 1 then 2 else k) a i j) (hat : isAt l (levelL k) j = true) (gb : Gd l d (k + 1) b (j + 1) m) :
    Gd l d k (mkE 5 (tokAt l j).text 0 [] [a, b] t) i m := by
  obtain ⟨a1, a2, a3⟩ := isAt_key hw hat
  obtain ⟨s1, s2, s3⟩ := lev_str hk a3
  have hb : bindsP (mkE 5 (tokAt l j).text 0 [] [a, b] t) = (k : Int) := (binds_binary (e := mkE 5 (tokAt l j).text 0 [] [a, b] t) rfl s2 rfl).trans s1
  have hlf : leftP (k : Int) = ((if k = 1 then 2 else k : Nat) : Int) := by
    by_cases h : k = 1
    · rw [h]; rfl
    · rw [leftP, show ((k : Int) == 1) = false by simp; omega, if_neg h]; rfl
  obtain ⟨t1, t2⟩ := toks_two (e := mkE 5 (tokAt l j).text 0 [] [a, b] t) rfl rfl rfl rfl rfl rfl (by rw [hb]; simp; omega) (by rw [hb]; simp; omega) rfl
  rw [hb, hlf] at t1 t2
  have ga1 := ga.h
  have gb1 := gb.h
  refine ⟨form_of rfl (all2 ga.f gb.f) ?_, szE_of (by show (tokAt l j).text.length ≤ _; omega) (by simp [mkE, Ex.bits]) (by simp [mkE, Ex.kids]) (by intro x hx; simp [mkE, Ex.bits] at hx) (all2 ga.z gb.z), smE_of (by show (tokAt l j).text.length ≤ _; omega) (by simp [mkE, Ex.bits]) (all2 ga.m gb.m), ?_, ?_, ?_⟩
  · show (operR (tokAt l j).text 2 || _) = true
    rw [operR, strR_pos, s1, decide_eq_true (show (k : Int) ≥ 0 by omega)]; rfl
  · rw [kidDp, if_neg (by omega), t2]
    exact Nat.max_le.2 ⟨ga.dp, gb.dp⟩
  · rw [kidTk, if_neg (by omega), t1]
    exact sb_app ga.sb (sb_cons a1 a2 gb.sb)
  · rw [height_eq]
    show max (height a + 1) (max (height b + 1) 0) + 1 ≤ m - i
    have g1 := ga.sb.1
    have g2 := gb.sb.1
    omega
theorem gd_un (hw : Wr l) {d i j : Nat} {a : Ex} {t : Tk} (hat : isAt l [sNot, sMinus] i = true) (hd : d ≠ 0) (ga : Gd l (d - 1) 4 a (i + 1) j) : Gd l d 4 (mkE 5 (tokAt l i).text 0 [] [a] t) i j := by
  obtain ⟨a1, a2, a3⟩ := isAt_key hw hat
  have hs : (tokAt l i).text = sNot ∨ (tokAt l i).text = sMinus := by simpa using a3
  have s2 : isNameL (tokAt l i).text = false := by rcases hs with h | h <;> rw [h] <;> decide +kernel
  have s3 : (tokAt l i).text.length ≤ 40 := by rcases hs with h | h <;> rw [h] <;> decide
  have hb : bindsP (mkE 5 (tokAt l i).text 0 [] [a] t) = 4 := binds_unary (e := mkE 5 (tokAt l i).text 0 [] [a] t) rfl s2 rfl
  obtain ⟨t1, t2⟩ := toks_one (e := mkE 5 (tokAt l i).text 0 [] [a] t) rfl rfl rfl rfl rfl rfl (by rw [hb]; rfl) (by rw [hb]; rfl) rfl
  have ga1 := ga.h
  have h1 : ∀ {p : Ex → Prop}, p a → ∀ k ∈ [a], p k := fun h k hk => by rw [List.mem_singleton.1 hk]; exact h
  refine ⟨form_of rfl (h1 ga.f) ?_, szE_of (by show (tokAt l i).text.length ≤ _; omega) (by simp [mkE, Ex.bits]) (by simp [mkE, Ex.kids]) (by intro x hx; simp [mkE, Ex.bits] at hx) (h1 ga.z), smE_of (by show (tokAt l i).text.length ≤ _; omega) (by simp [mkE, Ex.bits]) (h1 ga.m), ?_, ?_, ?_⟩
  · show (operR (tokAt l i).text 1 || _) = true
    rw [operR]
    rcases hs with h | h <;> rw [h] <;> simp
  · rw [kidDp, if_neg (by rw [hb]; decide), t2]
    have : kidDp a ((4 : Nat) : Int) ≤ d - 1 := ga.dp
    have e4 : kidDp ((mkE 5 (tokAt l i).text 0 [] [a] t).kids.getD 0 default) 4 = kidDp a ((4 : Nat) : Int) := rfl
    rw [e4]; omega
  · rw [kidTk, if_neg (by rw [hb]; decide), t1]
    exact sb_cons a1 a2 ga.sb
  · rw [height_eq]
    show max (height a + 1) 0 + 1 ≤ j - i
    have g1 := ga.sb.1
    omega
theorem gd_idx (hw : Wr l) {d i j m : Nat} {e x : Ex} {t : Tk} (ge : Gd l d 5 e i j) (h4 : e.op ≠ 4) (ho : isAt l [sOpen] j = true) (hd : d ≠ 0) (gx : Gd l (d - 1) 0 x (j + 1) m) (hs : isAt l [sShut] m = true) : Gd l d 5 (mkE 6 [] 0 [] [e, x] t) i (m + 1) := by
  have hb : bindsP (mkE 6 [] 0 [] [e, x] t) = 5 := binds_not5 (by simp [mkE, Ex.op])
  obtain ⟨t1, t2⟩ := toks_index (e := mkE 6 [] 0 [] [e, x] t) rfl rfl rfl rfl rfl rfl
  obtain ⟨x1, x2⟩ := gx.tk0
  have g1 := ge.h
  have g2 := gx.h
  refine ⟨form_of rfl (all2 ge.f gx.f) ?_, szE_of (by simp [mkE, Ex.name]) (by simp [mkE, Ex.bits]) (by simp [mkE, Ex.kids]) (by intro x hx; simp [mkE, Ex.bits] at hx) (all2 ge.z gx.z), smE_of (by simp [mkE, Ex.name]) (by simp [mkE, Ex.bits]) (all2 ge.m gx.m), ?_, ?_, ?_⟩
  · show (((2 : Int) == 2) && (e.op != 4)) = true
    simpa using h4
  · rw [kidDp, if_neg (by rw [hb]; decide), t2]
    have := ge.dp
    exact Nat.max_le.2 ⟨this, by show dep x + 1 ≤ d; omega⟩
  · rw [kidTk, if_neg (by rw [hb]; decide), t1]
    exact sb_app ge.sb (sb_br hw ho x1 hs)
  · rw [height_eq]
    show max (height e + 1) (max (height x + 1) 0) + 1 ≤ m + 1 - i
    have := ge.sb.1
    have := gx.sb.1
    omega
theorem gd_slc (hw : Wr l) {d i j m q : Nat} {e hi lo : Ex} {t : Tk} (ge : Gd l d 5 e i j) (ho : isAt l [sOpen] j = true) (hd : d ≠ 0) (gh : Gd l (d - 1) 0 hi (j + 1) m) (hdn : isAt l [sDownto] m = true) (gl : Gd l (d - 1) 0 lo (m + 1) q) (hs : isAt l [sShut] q = true) : Gd l d 5 (mkE 7 [] 0 [] [e, hi, lo] t) i (q + 1) := by
  have hb : bindsP (mkE 7 [] 0 [] [e, hi, lo] t) = 5 := binds_not5 (by simp [mkE, Ex.op])
  obtain ⟨t1, t2⟩ := toks_slice (e := mkE 7 [] 0 [] [e, hi, lo] t) rfl rfl rfl rfl rfl rfl rfl
  obtain ⟨x1, x2⟩ := gh.tk0
  obtain ⟨y1, y2⟩ := gl.tk0
  obtain ⟨d1, d2⟩ := isAt_one hw hdn
  have g1 := ge.h
  have g2 := gh.h
  have g3 := gl.h
  refine ⟨form_of rfl (all3 ge.f gh.f gl.f) rfl, szE_of (by simp [mkE, Ex.name]) (by simp [mkE, Ex.bits]) (by simp [mkE, Ex.kids]) (by intro x hx; simp [mkE, Ex.bits] at hx) (all3 ge.z gh.z gl.z), smE_of (by simp [mkE, Ex.name]) (by simp [mkE, Ex.bits]) (all3 ge.m gh.m gl.m), ?_, ?_, ?_⟩
  · rw [kidDp, if_neg (by rw [hb]; decide), t2]
    have := ge.dp
    exact Nat.max_le.2 ⟨this, by show max (dep hi) (max (dep lo) 0) + 1 ≤ d; omega⟩
  · rw [kidTk, if_neg (by rw [hb]; decide), t1]
    exact sb_app ge.sb (sb_br hw ho (t := toks hi ++ (tkS sDownto :: toks lo)) (sb_app x1 (sb_cons d1 d2 y1)) hs)
  · rw [height_eq]
    show max (height e + 1) (max (height hi + 1) (max (height lo + 1) 0)) + 1 ≤ q + 1 - i
    have := ge.sb.1
    have := gh.sb.1
    have := gl.sb.1
    omega
structure Ga (l : List Tk) (d : Nat) (kids : List Ex) (i j : Nat) : Prop where
  n : kids ≠ []
  sb : Sb l (sepT sComma (kids.map toks)) i j
  k : ∀ k ∈ kids, formP k = true ∧ szE k = true ∧ smE k = true ∧ dep k ≤ d ∧ height k + 1 ≤ j - i
theorem ga_one {d i j : Nat} {e : Ex} (g : Gd l d 0 e i j) : Ga l d [e] i j :=
  ⟨by simp, g.tk0.1, fun k hk => by rw [List.mem_singleton.1 hk]; exact ⟨g.f, g.z, g.m, g.tk0.2, g.h⟩⟩
theorem ga_more (hw : Wr l) {d i j m : Nat} {kids : List Ex} {e : Ex} (h : Ga l d kids i j) (hc : isAt l [sComma] j = true) (g : Gd l d 0 e (j + 1) m) : Ga l d (kids ++ [e]) i m := by
  obtain ⟨c1, c2⟩ := isAt_one hw hc
  have g1 := g.sb.1
  have g2 := h.sb.1
  have g3 := g.h
  refine ⟨by simp, ?_, fun k hk => ?_⟩
  · rw [List.map_append, List.map_cons, List.map_nil, sep_snoc _ _ _ (by have := h.n; simpa using this)]
    exact sb_app h.sb (sb_cons c1 c2 g.tk0.1)
  · rcases List.mem_append.1 hk with hk | hk
    · obtain ⟨k1, k2, k3, k4, k5⟩ := h.k k hk
      exact ⟨k1, k2, k3, k4, by omega⟩
    · rw [List.mem_singleton.1 hk]; exact ⟨g.f, g.z, g.m, g.tk0.2, by omega⟩
theorem maxL_bound {ds : List Nat} {n : Nat} (h : ∀ x ∈ ds, x ≤ n) : maxL ds ≤ n := by
  induction ds with
  | nil => exact Nat.zero_le _
  | cons a r ih => exact Nat.max_le.2 ⟨h a (by simp), ih fun x hx => h x (by simp [hx])⟩
theorem gd_call (hw : Wr l) {d i j m : Nat} {s : Bs} {kids : List Ex} {li co : Int} (hs : Sb l [tkN s] i j) (hn : isNameL s = true) (hij : i < j) (ho : isAt l [sOpen] j = true) (hd : d ≠ 0) (ga : Ga l (d - 1) kids (j + 1) m) (hl : kids.length ≤ 20) (hsh : isAt l [sShut] m = true) :
    Gd l d 5 (.mk 5 s 0 [] va0 kids ty0 li co) i (m + 1) := by
  have hb : bindsP (.mk 5 s 0 [] va0 kids ty0 li co) = 5 := binds_call (e := .mk 5 s 0 [] va0 kids ty0 li co) rfl hn
  obtain ⟨t1, t2⟩ := toks_call (e := .mk 5 s 0 [] va0 kids ty0 li co) rfl rfl rfl rfl rfl rfl (by rw [hb]; rfl)
  have hkl : 1 ≤ kids.length := List.length_pos_iff.2 ga.n
  have hlen := name_len hn
  have gsb := ga.sb.1
  refine ⟨form_of rfl (fun k hk => (ga.k k hk).1) ?_, szE_of (by show s.length ≤ _; omega) (by simp [Ex.bits]) (by show kids.length ≤ _; omega) (by intro x hx; simp [Ex.bits] at hx) (fun k hk => (ga.k k hk).2.1), smE_of (by show s.length ≤ _; omega) (by simp [Ex.bits]) (fun k hk => (ga.k k hk).2.2.1), ?_, ?_, ?_⟩
  · show (operR s (kids.length : Int) || ((isNameL s && decide ((kids.length : Int) ≥ 1)) && decide ((kids.length : Int) ≤ 20))) = true
    rw [hn, decide_eq_true (by omega), decide_eq_true (by omega)]; simp
  · rw [kidDp, if_neg (by rw [hb]; decide), t2]
    have : maxL (kids.map dep) ≤ d - 1 := maxL_bound fun x hx => by
      obtain ⟨k, hk, rfl⟩ := List.mem_map.1 hx
      exact (ga.k k hk).2.2.2.1
    show maxL (kids.map dep) + 1 ≤ d
    omega
  · rw [kidTk, if_neg (by rw [hb]; decide), t1]
    exact sb_app hs (sb_br hw ho ga.sb hsh)
  · rw [height_eq]
    have : heights kids ≤ m - (j + 1) := heights_le fun k hk => (ga.k k hk).2.2.2.2
    show heights kids + 1 ≤ m + 1 - i
    omega
end
end Go.Proofs.YtcgdlhkiecommaaGreatDoor
/- What is read is valid: all ways to read. -/

namespace Go.Proofs.YtcgdlhkiecommaaGreatDoor
open Go
section
variable {l : List Tk}
theorem row_none {m i j : Nat} {g : Flt} {e : Ex} : rowP l (fun _ => .bad g) m i ≠ .ok e j := by
  induction m generalizing e j with
  | zero => intro h; cases h
  | succ m ih =>
    intro h
    rw [rowP] at h
    cases hx : rowP l (fun _ => .bad g) m i with
    | bad g => rw [hx] at h; cases h
    | ok e2 j2 => exact ih hx
def In (l : List Tk) (d : Nat) (inner : Nat → Rd Ex) : Prop := ∀ i e j, inner i = .ok e j → d ≠ 0 ∧ Gd l (d - 1) 0 e i j
theorem gd_loop (hw : Wr l) {nxt : Nat → Rd Ex} (hn : ∀ i, (nxt i).gt i l.length) {d k : Nat} (hk : k < 4) (hx : ∀ i e j, nxt i = .ok e j → Gd l d (k + 1) e i j) {i0 : Nat} : ∀ (f : Nat) (e0 : Ex) (i : Nat) (e : Ex) (j : Nat), i ≤ l.length → Gd l d (if k = 1 then 2 else k) e0 i0 i → rowLoop l nxt k f e0 i = .ok e j → Gd l d k e i0 j := by
  have hdn : ∀ {e i}, Gd l d (if k = 1 then 2 else k) e i0 i → Gd l d k e i0 i := fun g => g.down (by split <;> omega)
  intro f
  induction f with
  | zero => intro e0 i e j _ g h; rw [rowLoop] at h; cases h; exact hdn g
  | succ f ih =>
    intro e0 i e j hi g h
    rw [rowLoop] at h
    split at h
    · rename_i hat
      cases hy : nxt (i + 1) with
      | bad g => rw [hy] at h; cases h
      | ok e2 j2 =>
        rw [hy] at h
        simp only at h
        have g2 := gd_bin (t := tokAt l i) hw hk g hat (hx _ _ _ hy)
        split at h
        · cases h; exact g2
        · rename_i hk1
          exact ih _ j2 e j (hn _ _ _ hy).2 (by rw [if_neg hk1]; exact g2) h
    · cases h; exact hdn g
theorem gd_row (hw : Wr l) {fac : Nat → Rd Ex} (hn : ∀ i, (fac i).gt i l.length) {d : Nat} (hx : ∀ i e j, fac i = .ok e j → Gd l d 4 e i j) : ∀ m, m ≤ 4 → ∀ i e j, rowP l fac m i = .ok e j → Gd l d (4 - m) e i j := by
  intro m
  induction m with
  | zero => intro _; exact hx
  | succ m ih =>
    intro hm i e j h
    rw [rowP] at h
    cases hy : rowP l fac m i with
    | bad g => rw [hy] at h; cases h
    | ok e2 j2 =>
      rw [hy] at h
      simp only at h
      have g := ih (by omega) _ _ _ hy
      rw [show 4 - (m + 1) = 3 - m by omega]
      refine gd_loop hw (row_gt hn m) (k := 3 - m) (by omega) (fun i e j h => by rw [show 3 - m + 1 = 4 - m by omega]; exact ih (by omega) i e j h) _ e2 j2 e j (row_gt hn m _ _ _ hy).2 (g.down (by split <;> omega)) h
theorem gd_slice (hw : Wr l) {d : Nat} {inner : Nat → Rd Ex} (hin : In l d inner) {e hi : Ex} {t : Tk} {i j m q : Nat} {x : Ex} (ge : Gd l d 5 e i j) (ho : isAt l [sOpen] j = true) (gh : Gd l (d - 1) 0 hi (j + 1) m) (h : sliceP l inner e hi t m = .ok x q) : Gd l d 5 x i q := by
  rw [sliceP] at h
  cases h1 : wantP l sDownto m with
  | bad g => rw [h1] at h; cases h
  | ok u j1 =>
    rw [h1] at h; simp only at h
    obtain ⟨rfl, a1⟩ := want_ok h1
    cases h2 : inner (m + 1) with
    | bad g => rw [h2] at h; cases h
    | ok lo k =>
      rw [h2] at h; simp only at h
      obtain ⟨hd, gl⟩ := hin _ _ _ h2
      cases h3 : wantP l sShut k with
      | bad g => rw [h3] at h; cases h
      | ok u j3 =>
        rw [h3] at h; simp only at h
        obtain ⟨rfl, a3⟩ := want_ok h3
        cases h
        exact gd_slc hw ge ho hd gh a1 gl a3
theorem gd_part (hw : Wr l) {d : Nat} {inner : Nat → Rd Ex} (hin : In l d inner) {e : Ex} {i j m : Nat} {x : Ex} (ge : Gd l d 5 e i j) (h : partP l d inner e j = .ok x m) : Gd l d 5 x i m := by
  rw [partP] at h
  cases h1 : openP l d j with
  | bad g => rw [h1] at h; cases h
  | ok u j1 =>
    rw [h1] at h; simp only at h
    obtain ⟨hd, rfl, ho⟩ := open_ok h1
    cases h2 : inner (j + 1) with
    | bad g => rw [h2] at h; cases h
    | ok first k =>
      rw [h2] at h; simp only at h
      obtain ⟨_, gf⟩ := hin _ _ _ h2
      split at h
      · exact gd_slice hw hin ge ho gf h
      · cases h3 : wantP l sShut k with
        | bad g => rw [h3] at h; cases h
        | ok u j3 =>
          rw [h3] at h; simp only at h
          obtain ⟨rfl, a3⟩ := want_ok h3
          cases h
          rw [partE]
          split
          · rename_i h4
            have h4' : e.op = 4 := by simpa using h4
            have hT := form_op ge.f
            rw [tailR, h4'] at hT
            simp only [show ((4 : Int) == 1) = false from rfl, show ((4 : Int) == 2) = false from rfl, show ((4 : Int) == 3) = false from rfl, show ((4 : Int) == 4) = true from rfl, cond_true, cond_false, Bool.and_eq_true] at hT
            have hs := ge.sb
            rw [kidTk, if_neg (by rw [binds_not5 (by omega)]; decide), (toks_name (by rw [h4']; rfl) (by rw [h4']; rfl) (by rw [h4']; rfl) (by rw [h4']; rfl)).1] at hs
            have := ge.h
            exact gd_call hw hs hT.1 (by omega) ho hd (ga_one gf) (by simp) a3
          · rename_i h4
            exact gd_idx hw ge (by simpa using h4) ho hd gf a3
theorem gd_parts (hw : Wr l) {d : Nat} {inner : Nat → Rd Ex} (hin : In l d inner) {i : Nat} : ∀ (f : Nat) (e0 : Ex) (j : Nat) (e : Ex) (m : Nat), Gd l d 5 e0 i j → partsP l d inner f e0 j = .ok e m → Gd l d 5 e i m := by
  intro f
  induction f with
  | zero => intro e0 j e m g h; rw [partsP] at h; cases h; exact g
  | succ f ih =>
    intro e0 j e m g h
    rw [partsP] at h
    split at h
    · cases hy : partP l d inner e0 j with
      | bad g => rw [hy] at h; cases h
      | ok e2 j2 =>
        rw [hy] at h; simp only at h
        exact ih _ _ _ _ (gd_part hw hin g hy) h
    · cases h; exact g
theorem ga_args (hw : Wr l) {d : Nat} {inner : Nat → Rd Ex} (hin : In l d inner) {i : Nat} : ∀ (f : Nat) (ks : List Ex) (j : Nat) (x : List Ex) (m : Nat), Ga l (d - 1) ks i j → argsP l inner f ks j = .ok x m → Ga l (d - 1) x i m ∧ x.length ≤ ks.length + f := by
  intro f
  induction f with
  | zero =>
    intro ks j x m g h
    rw [argsP] at h
    split at h
    · cases h
    · cases h; exact ⟨g, Nat.le_refl _⟩
  | succ f ih =>
    intro ks j x m g h
    rw [argsP] at h
    split at h
    · rename_i hc
      cases hy : inner (j + 1) with
      | bad g => rw [hy] at h; cases h
      | ok e2 j2 =>
        rw [hy] at h; simp only at h
        obtain ⟨g1, g2⟩ := ih _ _ _ _ (ga_more hw g hc (hin _ _ _ hy).2) h
        refine ⟨g1, ?_⟩
        rw [List.length_append] at g2; simp only [List.length_cons, List.length_nil] at g2; omega
    · cases h; exact ⟨g, by omega⟩
theorem name_at (hw : Wr l) {i : Nat} (h : ((tokAt l i).op == 1) = true) : i < l.length ∧ isNameL (tokAt l i).text = true ∧ tkey (tkN (tokAt l i).text) = tkey (tokAt l i) := by
  have hi := op_lt (l := l) (i := i) (k := 1) (by simpa using h) (by decide)
  have hp := hw i hi
  rw [possT, h, cond_true, Bool.and_eq_true, beq_iff_eq] at hp
  rw [beq_iff_eq] at h
  exact ⟨hi, hp.2, by rw [tkey, tkey, h, hp.1]; rfl⟩
theorem gd_name (hw : Wr l) {d k i : Nat} {t : Tk} (h : ((tokAt l i).op == 1) = true) (hk : k ≤ 5) : Gd l d k (mkE 4 (tokAt l i).text 0 [] [] t) i (i + 1) := by
  obtain ⟨a1, a2, a3⟩ := name_at hw h
  have hl := name_len a2
  have := toks_name (e := mkE 4 (tokAt l i).text 0 [] [] t) rfl rfl rfl rfl
  refine gd_leaf (t := tkN (tokAt l i).text) (form_of rfl (by intro k hk; cases hk) ?_) (szE_of (by show (tokAt l i).text.length ≤ _; omega) (by simp [mkE, Ex.bits]) (by simp [mkE, Ex.kids]) (by intro x hx; simp [mkE, Ex.bits] at hx) (by intro k hk; cases hk)) (smE_of (by show (tokAt l i).text.length ≤ _; omega) (by simp [mkE, Ex.bits]) (by intro k hk; cases hk)) (binds_not5 (by simp [mkE, Ex.op])) this.1 this.2 a1 a3 rfl hk
  show (isNameL (tokAt l i).text && ((0 : Int) == 0)) = true
  rw [a2]; rfl
theorem gd_named (hw : Wr l) {d : Nat} {inner : Nat → Rd Ex} (hin : In l d inner) {i m : Nat} {x : Ex} (h : namedP l d inner i = .ok x m) : Gd l d 5 x i m := by
  rw [namedP] at h
  split at h
  · rename_i h1
    obtain ⟨a1, a2, a3⟩ := name_at hw h1
    split at h
    · rename_i ho
      cases hp : openP l d (i + 1) with
      | bad g => rw [hp] at h; cases h
      | ok u j1 =>
        rw [hp] at h; simp only at h
        obtain ⟨hd, rfl, _⟩ := open_ok hp
        cases h2 : inner (i + 1 + 1) with
        | bad g => rw [h2] at h; cases h
        | ok first k =>
          rw [h2] at h; simp only at h
          obtain ⟨_, gf⟩ := hin _ _ _ h2
          split at h
          · exact gd_slice hw hin (gd_name hw h1 (Nat.le_refl 5)) ho gf h
          · cases h5 : argsP l inner 19 [first] k with
            | bad g => rw [h5] at h; cases h
            | ok ks m2 =>
              rw [h5] at h; simp only at h
              obtain ⟨g1, g2⟩ := ga_args hw hin _ _ _ _ _ (ga_one gf) h5
              cases h3 : wantP l sShut m2 with
              | bad g => rw [h3] at h; cases h
              | ok u j3 =>
                rw [h3] at h; simp only at h
                obtain ⟨rfl, a5⟩ := want_ok h3
                cases h
                exact gd_call hw (sb_one a1 a3) a2 (by omega) ho hd g1 (by simpa using g2) a5
    · cases h; exact gd_name hw h1 (Nat.le_refl 5)
  · cases h
theorem vec_bits {s : Bs} (h : isVecL s = true) : isBits (parseBits s) = true ∧ (∀ x ∈ parseBits s, 0 ≤ x) ∧ bitsT (parseBits s) = s ∧ (parseBits s).length = s.length ∧ s.length ≤ 64 := by
  have hp : parseBits s = (s.map bitCode).reverse := by rw [parseBits, h]; rfl
  have h0 := h
  simp only [isVecL, Bool.and_eq_true, decide_eq_true_eq, Bool.not_eq_true'] at h
  obtain ⟨h1, h2, h3⟩ := h
  have hb : ∀ c ∈ s, 0 ≤ bitCode c ∧ bitCode c ≤ 3 ∧ bitC (bitCode c) = c := by
    intro c hc
    have := List.all_eq_true.1 h3 c hc
    simp only [isBitC, Bool.or_eq_true, beq_iff_eq] at this
    rcases this with rfl | rfl | rfl | rfl <;> decide +kernel
  have hl : (parseBits s).length = s.length := by rw [hp]; simp
  have hx : ∀ x ∈ parseBits s, 0 ≤ x ∧ x ≤ 3 := by
    intro x hx
    rw [hp, List.mem_reverse, List.mem_map] at hx
    obtain ⟨c, hc, rfl⟩ := hx
    exact ⟨(hb c hc).1, (hb c hc).2.1⟩
  refine ⟨?_, fun x h => (hx x h).1, ?_, hl, h2⟩
  · have hne : s ≠ [] := by intro e; rw [e] at h1; cases h1
    have := List.length_pos_iff.2 hne
    have h4 : ((parseBits s).any fun x => !(decide (x ≤ 3))) = false := by
      rw [List.any_eq_false]
      intro x h
      simpa using (hx x h).2
    rw [isBits, h4, hl, decide_eq_true (by omega), decide_eq_true (by omega)]; rfl
  · rw [bitsT, hp, List.map_reverse, List.reverse_reverse, List.map_map]
    have : s.map (bitC ∘ bitCode) = s.map id := List.map_congr_left fun c hc => (hb c hc).2.2
    rw [this, List.map_id]
theorem tw_len {p : UInt8 → Bool} {s : Bs} (h : (((s.drop 0).takeWhile p).length : Int) = (s.length : Int)) : s.all p = true := by
  rw [List.drop_zero] at h
  induction s with
  | nil => rfl
  | cons a r ih =>
    rw [List.takeWhile_cons] at h
    cases ha : p a with
    | false => rw [ha] at h; simp at h; omega
    | true =>
      rw [ha] at h
      simp only [if_true, List.length_cons] at h
      rw [List.all_cons, ha, ih (by omega)]; rfl
theorem vec_at (hw : Wr l) {i : Nat} (h : (tokAt l i).op = 4 ∨ (tokAt l i).op = 5) : i < l.length ∧ isVecL (tokAt l i).text = true ∧ (tokAt l i).n = 0 ∧ ((tokAt l i).op = 4 → (tokAt l i).text.length = 1) := by
  have hi : i < l.length := by rcases h with h | h; exact op_lt h (by decide); exact op_lt h (by decide)
  have hp := hw i hi
  rcases h with h | h
  · rw [possT, h] at hp
    simp only [show ((4 : Int) == 1) = false from rfl, show ((4 : Int) == 2) = false from rfl, show ((4 : Int) == 3) = false from rfl, show ((4 : Int) == 4) = true from rfl, cond_true, cond_false, Bool.and_eq_true, beq_iff_eq] at hp
    obtain ⟨⟨h1, h2⟩, h3⟩ := hp
    obtain ⟨c, hc⟩ : ∃ c, (tokAt l i).text = [c] := List.length_eq_one_iff.1 (by omega)
    rw [hc] at h3
    refine ⟨hi, ?_, h1, fun _ => by omega⟩
    rw [hc, isVecL]
    have : isBitC c = true := h3
    simp [this]
  · rw [possT, h] at hp
    simp only [show ((5 : Int) == 1) = false from rfl, show ((5 : Int) == 2) = false from rfl, show ((5 : Int) == 3) = false from rfl, show ((5 : Int) == 4) = false from rfl, show ((5 : Int) == 5) = true from rfl, cond_true, cond_false, Bool.and_eq_true, beq_iff_eq, decide_eq_true_eq] at hp
    obtain ⟨⟨⟨h1, h2⟩, h3⟩, h4⟩ := hp
    refine ⟨hi, ?_, h1, fun e => by omega⟩
    have ha : (tokAt l i).text.all isBitC = true := tw_len (p := fun c => ofK c 2) h4
    have hne : (tokAt l i).text.isEmpty = false := by
      cases hx : (tokAt l i).text with
      | nil => rw [hx] at h2; simp at h2
      | cons a r => rfl
    rw [isVecL, ha, hne, decide_eq_true (by omega)]; rfl
theorem gd_int (hw : Wr l) {d k i : Nat} {t : Tk} (h : (tokAt l i).op = 3) (hk : k ≤ 5) : Gd l d k (mkE 1 [] (tokAt l i).n [] [] t) i (i + 1) := by
  have hi : i < l.length := op_lt h (by decide)
  have hp := hw i hi
  rw [possT, h] at hp
  simp only [show ((3 : Int) == 1) = false from rfl, show ((3 : Int) == 2) = false from rfl, show ((3 : Int) == 3) = true from rfl, cond_true, cond_false, Bool.and_eq_true, beq_iff_eq, decide_eq_true_eq] at hp
  obtain ⟨⟨h1, h2⟩, h3⟩ := hp
  have := toks_int (e := mkE 1 [] (tokAt l i).n [] [] t) rfl
  refine gd_leaf (t := ⟨3, [], (tokAt l i).n, 0, 0⟩) (form_of rfl (by intro k hk; cases hk) ?_) (szE_of (by simp [mkE, Ex.name]) (by simp [mkE, Ex.bits]) (by simp [mkE, Ex.kids]) (by intro x hx; simp [mkE, Ex.bits] at hx) (by intro k hk; cases hk)) (smE_of (by simp [mkE, Ex.name]) (by simp [mkE, Ex.bits]) (by intro k hk; cases hk)) (binds_not5 (by simp [mkE, Ex.op])) this.1 this.2 hi ?_ rfl hk
  · show ((decide ((tokAt l i).n ≥ 0) && decide ((tokAt l i).n ≤ 2147483647)) && ((0 : Int) == 0)) = true
    rw [decide_eq_true (by omega), decide_eq_true (by omega)]; rfl
  · rw [tkey, tkey, h, h1]
theorem gd_bit (hw : Wr l) {d k i : Nat} {t : Tk} (h : (tokAt l i).op = 4) (hk : k ≤ 5) : Gd l d k (mkE 2 [] 0 (parseBits (tokAt l i).text) [] t) i (i + 1) := by
  obtain ⟨hi, hv, hn, h1⟩ := vec_at hw (.inl h)
  obtain ⟨b1, b2, b3, b4, b5⟩ := vec_bits hv
  have := toks_bit (e := mkE 2 [] 0 (parseBits (tokAt l i).text) [] t) rfl rfl
  refine gd_leaf (t := ⟨4, bitsT (parseBits (tokAt l i).text), 0, 0, 0⟩) (form_of rfl (by intro k hk; cases hk) ?_) (szE_of (by simp [mkE, Ex.name]) (by show (parseBits (tokAt l i).text).length ≤ _; omega) (by simp [mkE, Ex.kids]) b2 (by intro k hk; cases hk)) (smE_of (by simp [mkE, Ex.name]) (by show (parseBits (tokAt l i).text).length ≤ _; omega) (by intro k hk; cases hk)) (binds_not5 (by simp [mkE, Ex.op])) this.1 this.2 hi ?_ rfl hk
  · show ((((parseBits (tokAt l i).text).length : Int) == 1) && isBits (parseBits (tokAt l i).text)) && ((0 : Int) == 0) = true
    rw [b1, b4, h1 h]; rfl
  · rw [b3, tkey, tkey, h, hn]
theorem gd_vec (hw : Wr l) {d k i : Nat} {t : Tk} (h : (tokAt l i).op = 5) (hk : k ≤ 5) : Gd l d k (mkE 3 [] 0 (parseBits (tokAt l i).text) [] t) i (i + 1) := by
  obtain ⟨hi, hv, hn, h1⟩ := vec_at hw (.inr h)
  obtain ⟨b1, b2, b3, b4, b5⟩ := vec_bits hv
  have := toks_vec (e := mkE 3 [] 0 (parseBits (tokAt l i).text) [] t) rfl rfl rfl
  refine gd_leaf (t := ⟨5, bitsT (parseBits (tokAt l i).text), 0, 0, 0⟩) (form_of rfl (by intro k hk; cases hk) ?_) (szE_of (by simp [mkE, Ex.name]) (by show (parseBits (tokAt l i).text).length ≤ _; omega) (by simp [mkE, Ex.kids]) b2 (by intro k hk; cases hk)) (smE_of (by simp [mkE, Ex.name]) (by show (parseBits (tokAt l i).text).length ≤ _; omega) (by intro k hk; cases hk)) (binds_not5 (by simp [mkE, Ex.op])) this.1 this.2 hi ?_ rfl hk
  · show isBits (parseBits (tokAt l i).text) && ((0 : Int) == 0) = true
    rw [b1]; rfl
  · rw [b3, tkey, tkey, h, hn]
theorem gd_prim (hw : Wr l) {d : Nat} {inner : Nat → Rd Ex} (hin : In l d inner) {i m : Nat} {x : Ex} (h : primP l d inner i = .ok x m) : Gd l d 5 x i m := by
  rw [primP] at h
  split at h
  · rename_i h1; exact gd_parts hw hin _ _ _ _ _ (gd_int hw (by simpa using h1) (Nat.le_refl 5)) h
  · split at h
    · rename_i h1; exact gd_parts hw hin _ _ _ _ _ (gd_bit hw (by simpa using h1) (Nat.le_refl 5)) h
    · split at h
      · rename_i h1; exact gd_parts hw hin _ _ _ _ _ (gd_vec hw (by simpa using h1) (Nat.le_refl 5)) h
      · split at h
        · cases h2 : namedP l d inner i with
          | bad g => rw [h2] at h; cases h
          | ok e j => rw [h2] at h; simp only at h; exact gd_parts hw hin _ _ _ _ _ (gd_named hw hin h2) h
        · cases hp : openP l d i with
          | bad g => rw [hp] at h; cases h
          | ok u j1 =>
            rw [hp] at h; simp only at h
            obtain ⟨hd, rfl, ho⟩ := open_ok hp
            cases h2 : inner (i + 1) with
            | bad g => rw [h2] at h; cases h
            | ok e j =>
              rw [h2] at h; simp only at h
              cases h3 : wantP l sShut j with
              | bad g => rw [h3] at h; cases h
              | ok u j3 =>
                rw [h3] at h; simp only at h
                obtain ⟨rfl, a3⟩ := want_ok h3
                exact gd_parts hw hin _ _ _ _ _ (Gd.br hw ho hd (hin _ _ _ h2).2 a3) h
theorem gd_factor (hw : Wr l) : ∀ d i e j, factor l d i = .ok e j → Gd l d 4 e i j := by
  intro d
  induction d with
  | zero =>
    intro i e j h
    rw [factor, facP] at h
    split at h
    · rw [intoP] at h; cases h
    · exact (gd_prim hw (fun i e j h => absurd h row_none) h).down (by omega)
  | succ d ih =>
    intro i e j h
    rw [factor, facP] at h
    split at h
    · rename_i hat
      cases h1 : intoP l (d + 1) i with
      | bad g => rw [h1] at h; cases h
      | ok u j1 =>
        rw [h1] at h; simp only at h
        obtain ⟨hd, rfl⟩ := into_ok h1
        cases h2 : factor l d (i + 1) with
        | bad g => rw [h2] at h; cases h
        | ok e2 k =>
          rw [h2] at h; simp only at h
          cases h
          exact gd_un hw hat hd (ih _ _ _ h2)
    · exact (gd_prim hw (fun i e j h => ⟨Nat.succ_ne_zero d, gd_row hw (factor_gt d) ih 4 (Nat.le_refl 4) i e j h⟩) h).down (by omega)
theorem gd_all (hw : Wr l) {d i j : Nat} {e : Ex} (h : rowD l d 4 i = .ok e j) : Gd l d 0 e i j := gd_row hw (factor_gt d) (gd_factor hw d) 4 (Nat.le_refl 4) i e j h
end
end Go.Proofs.YtcgdlhkiecommaaGreatDoor
/- What the laws without the reference ask, of trees and tokens alone. -/



namespace Go.Proofs.YtcgdlhkiecommaaGreatDoor
open Go
theorem szX_of {e : Ex} (h1 : e.name.length ≤ 140737488355328) (h2 : e.bits.length ≤ 140737488355328) (h3 : e.kids.length ≤ 140737488355328) (h4 : szV e.val = true) (h5 : szT e.type = true) (h6 : ∀ k ∈ e.kids, szX k = true) : szX e = true := by
  have hl : ∀ l : List Ex, (∀ k ∈ l, szX k = true) → szXs l = true := by
    intro l
    induction l with
    | nil => intro _; rfl
    | cons a l ih => intro h; rw [szXs, h a (by simp), ih fun k hk => h k (by simp [hk])]; rfl
  cases e with
  | mk o s n b v k t l c =>
    rw [szX, hl k h6]
    have h1 : s.length ≤ 140737488355328 := h1
    have h2 : b.length ≤ 140737488355328 := h2
    have h3 : k.length ≤ 140737488355328 := h3
    have h4 : szV v = true := h4
    have h5 : szT t = true := h5
    rw [decide_eq_true h1, decide_eq_true h2, decide_eq_true h3, h4, h5]; rfl
theorem szX_form (e : Ex) : formP e = true → szE e = true → szX e = true := by
  induction e using Ex.ind with
  | h e ih =>
    intro hf hz
    obtain ⟨z1, z2, z3, z4, z5⟩ := szE_facts hz
    have hf1 := hf
    rw [formH, Bool.and_eq_true, Bool.not_eq_true'] at hf1
    have hb := hf1.1
    rw [headR, bareR] at hb
    rw [Bool.or_eq_false_iff, Bool.or_eq_false_iff, Bool.or_eq_false_iff, Bool.not_eq_false', Bool.and_eq_true] at hb
    obtain ⟨⟨⟨⟨hu, hn⟩, _⟩, _⟩, _⟩ := hb
    refine szX_of (by omega) (by omega) (by omega) ?_ ?_ (fun k hk => ih k hk (form_kid hf k hk) (z5 k hk))
    · simp only [noneV, Bool.and_eq_true, beq_iff_eq] at hn
      have h3 : e.val.bits = [] := List.length_eq_zero_iff.1 (by omega)
      have h4 : e.val.list = [] := List.length_eq_zero_iff.1 (by omega)
      cases hv : e.val with
      | mk k n b l =>
        rw [hv] at h3 h4
        have h3 : b = [] := h3
        have h4 : l = [] := h4
        rw [h3, h4]; rfl
    · simp only [untyped, Bool.and_eq_true, beq_iff_eq] at hu
      have h2 : e.type.name = [] := hu.1.1.2
      have h3 : e.type.names = [] := List.length_eq_zero_iff.1 (by omega)
      have h4 : e.type.elem = [] := List.length_eq_zero_iff.1 (by omega)
      cases hv : e.type with
      | mk k n s b l =>
        rw [hv] at h2 h3 h4
        have h2 : s = [] := h2
        have h3 : b = [] := h3
        have h4 : l = [] := h4
        rw [h2, h3, h4]; rfl
theorem poss_key (t : Tk) : possT t = possT ⟨(tkey t).1, (tkey t).2.1, (tkey t).2.2, 0, 0⟩ := rfl
theorem poss_of_key {s t : Tk} (h : tkey s = tkey t) (hp : possT t = true) : possT s = true := by rw [poss_key, h, ← poss_key]; exact hp
theorem wr_alike {a l : List Tk} (h : alikeL a l = true) (hp : ∀ t ∈ a, possT t = true) : Wr l := by
  intro i hi
  have hl := alike_length h
  rw [alikeL, beq_iff_eq] at h
  have e := congrArg (fun x => x[i]?) h
  simp only [List.getElem?_map, List.getElem?_eq_getElem hi, List.getElem?_eq_getElem (show i < a.length by omega), Option.map_some, Option.some.injEq] at e
  have hg : tokAt l i = l[i] := by rw [tokAt, List.getD_eq_getElem?_getD, List.getElem?_eq_getElem hi]; rfl
  rw [hg]
  exact poss_of_key e.symm (hp _ (List.getElem_mem _))
theorem wr_of {l : List Tk} (h : ∀ t ∈ l, possT t = true) : Wr l := fun i hi => h _ (getD_mem hi)
section
variable {l : List Tk}
theorem inner_in (hw : Wr l) (d : Nat) : In l d (innerD l d) := by
  intro i e j h
  cases d with
  | zero => exact absurd h row_none
  | succ d => exact ⟨Nat.succ_ne_zero d, gd_row hw (factor_gt d) (gd_factor hw d) 4 (Nat.le_refl 4) i e j h⟩
theorem gd_targ (hw : Wr l) {i j : Nat} {e : Ex} (h : targetP l i = .ok e j) : Gd l 40 5 e i j := by
  rw [targetP] at h
  split at h
  · rename_i h1; exact gd_parts hw (inner_in hw 40) _ _ _ _ _ (gd_name hw h1 (Nat.le_refl 5)) h
  · cases h
end
structure BK (e : Ex) (l : List Tk) : Prop where
  ok : OKTs l
  n : l.length ≤ 20000
  al : alikeL (toks e) l = true
  rd : ∃ a, sameE a e = true ∧ szX a = true ∧ readP ex0 l 0 (fun i => rowD l 40 4 i) = (a, (l.length : Int), okF)
  tg : isTargP e = true → ∃ a, sameE a e = true ∧ szX a = true ∧ readP ex0 l 0 (fun i => targetP l i) = (a, (l.length : Int), okF)
theorem valid_form {P : Program} {e : Ex} (wf : WF P e) (hv : validP e = true) : formP e = true := validQ_form (wf.v.trans hv)
theorem valid_dep {e : Ex} (hv : validP e = true) : dep e ≤ 40 := by
  rw [validP, Bool.and_eq_true, decide_eq_true_eq] at hv; omega
theorem text_valid {P : Program} {e : Ex} (wf : WF P e) (hv : validP e = true) : textE e = (joinT (toks e), 0) := by
  rw [← wf.tx, textQ, wf.v, hv]; rfl
theorem poss_valid {P : Program} {e : Ex} (wf : WF P e) (hv : validP e = true) : ∀ t ∈ toks e, possT t = true := fun t ht => (toks_ok e (valid_form wf hv) wf.z wf.m t ht).poss
theorem bk_of {P : Program} {e : Ex} (wf : WF P e) (hv : validP e = true) (hs : (joinT (toks e)).length ≤ 20000) : (lexP (joinT (toks e))).2 = okF ∧ BK e (lexP (joinT (toks e))).1 := by
  have hf := valid_form wf hv
  have hp := poss_valid wf hv
  obtain ⟨h1, h2⟩ := back_lex hp hs
  have hl := alike_length h2
  have htl := wf.tl
  have hw := wr_alike h2 hp
  have htx : textP (lexP (joinT (toks e))).1 = (joinT (toks e), 0) := by rw [alike_text h2]; exact textP_T hp (by omega)
  have hc : (((textP (lexP (joinT (toks e))).1).2 != 0 || decide (((0 : Nat) : Int) < 0)) || decide (((0 : Nat) : Int) > ((lexP (joinT (toks e))).1.length : Int))) = false := by
    rw [htx]; simp
  refine ⟨h1, alike_oks h2 wf.tk, by omega, h2, ?_, fun hT => ?_⟩
  · obtain ⟨a, ea, fa⟩ := back_read (l := (lexP (joinT (toks e))).1) hf wf.z (valid_dep hv) h2
    have g := gd_all hw fa
    exact ⟨a, ea, szX_form a g.f g.z, readP_ok hc fa⟩
  · obtain ⟨a, ea, fa⟩ := back_targ (l := (lexP (joinT (toks e))).1) hf wf.z hT (valid_dep hv) h2
    have g := gd_targ hw fa
    exact ⟨a, ea, szX_form a g.f g.z, readP_ok hc fa⟩
theorem wtot_len {l : List Tk} (h : ∀ t ∈ l, possT t = true) : wtot l ≤ 76 * l.length := by
  induction l with
  | nil => exact Nat.le_refl _
  | cons a l ih =>
    have h1 := poss_small (h a (by simp))
    have h2 := ih fun t ht => h t (by simp [ht])
    simp only [wtot, List.map_cons, List.sum_cons, List.length_cons] at h2 ⊢
    omega
theorem wtot_big {P : Program} {e : Ex} (wf : WF P e) (hv : validP e = true) : wtot (toks e) ≤ 1400000 := by
  have := wtot_len (poss_valid wf hv)
  have := wf.tl
  omega
theorem lex_fault {s : Bs} (h : ((lexP s).2.code != 0) = false) : s.length ≤ 20000 := by
  rcases Nat.lt_or_ge 20000 s.length with h1 | h1
  · rw [lexP, if_pos h1] at h; cases h
  · exact h1
section
variable {l : List Tk} {i : Nat}
end
mutual
def placE : Ex → Ex → Bool
  | .mk o s n b v k t l c, u => (sameE (.mk o s n b v k t l c) u && (l == u.line && c == u.col)) && placEs k u.kids
def placEs : List Ex → List Ex → Bool
  | [], [] => true
  | v :: r, w :: s => placE v w && placEs r s
  | _, _ => false
end
theorem placEs_all : placEs = allSame placE := by
  funext a
  induction a with
  | nil => funext b; cases b <;> simp [placEs, allSame]
  | cons x a ih => funext b; cases b <;> simp [placEs, allSame, ih]
theorem placE_eq (a b : Ex) : placE a b = ((sameE a b && (a.line == b.line && a.col == b.col)) && allSame placE a.kids b.kids) := by rw [← placEs_all]; cases a; rfl
theorem placE_yes {a b : Ex} (h : ((!(sameE a b) || (a.line != b.line)) || (a.col != b.col)) = false) : ((a.kids.length : Int) != (b.kids.length : Int)) = false ∧ placE a b = allSame placE a.kids b.kids := by
  simp only [Bool.or_eq_false_iff, Bool.not_eq_false', bne_eq_false_iff_eq] at h
  obtain ⟨⟨h1, h2⟩, h3⟩ := h
  have hk := h1
  rw [sameE_eq, sameEs_all] at hk
  simp only [Bool.and_eq_true] at hk
  have := allSame_len hk.2.2.2.2.2.2
  refine ⟨by rw [bne_eq_false_iff_eq]; omega, ?_⟩
  rw [placE_eq, h1, h2, h3]; simp
theorem readP_yes {α : Type} {z : α} {l : List Tk} {p : Int} {x : Nat → Rd α} (hx : ∀ i g, x i = .bad g → (g.code != 0) = true) (h : ((readP z l p x).2.2.code != 0) = false) : (textP l).2 = 0 ∧ ∃ i j : Nat, ∃ e, p = (i : Int) ∧ i ≤ l.length ∧ x i = .ok e j ∧ readP z l p x = (e, (j : Int), okF) := by
  cases hc : (((textP l).2 != 0 || decide (p < 0)) || decide (p > (l.length : Int))) with
  | true => rw [readP_arg hc] at h; cases h
  | false =>
    have hc2 := hc
    simp only [Bool.or_eq_false_iff, bne_eq_false_iff_eq, decide_eq_false_iff_not] at hc2
    obtain ⟨⟨h1, h2⟩, h3⟩ := hc2
    obtain ⟨i, rfl⟩ := Int.eq_ofNat_of_zero_le (show 0 ≤ p by omega)
    refine ⟨h1, i, ?_⟩
    cases hy : x i with
    | bad g =>
      rw [readP_bad hc hy] at h
      rw [hx i g hy] at h; cases h
    | ok e j => exact ⟨j, e, rfl, by omega, rfl, readP_ok hc hy⟩
end Go.Proofs.YtcgdlhkiecommaaGreatDoor
/- A fault has a code. -/

namespace Go.Proofs.YtcgdlhkiecommaaGreatDoor
open Go
def Nz {α : Type} (f : Nat → Rd α) : Prop := ∀ i g, f i = .bad g → (g.code != 0) = true
section
variable {l : List Tk}
theorem flt_nz {c : Int} {i : Nat} (hc : (c != 0) = true) : ((fltAt l c i).code != 0) = true := by
  rw [fltAt]; split
  · rfl
  · exact hc
theorem want_nz {s : Bs} : Nz (wantP l s) := by
  intro i g h
  rw [wantP] at h
  split at h
  · cases h
  · cases h; exact flt_nz rfl
theorem into_nz {d : Nat} : Nz (intoP l d) := by
  intro i g h
  rw [intoP] at h
  split at h
  · cases h; exact flt_nz rfl
  · cases h
theorem open_nz {d : Nat} : Nz (openP l d) := by
  intro i g h
  rw [openP] at h
  split at h
  · exact into_nz i g h
  · cases h; exact flt_nz rfl
theorem loop_nz {nxt : Nat → Rd Ex} (hn : Nz nxt) {k : Nat} : ∀ (f : Nat) (e : Ex) (i : Nat) (g : Flt), rowLoop l nxt k f e i = .bad g → (g.code != 0) = true := by
  intro f
  induction f with
  | zero => intro e i g h; cases h
  | succ f ih =>
    intro e i g h
    rw [rowLoop] at h
    split at h
    · cases hy : nxt (i + 1) with
      | bad g2 => rw [hy] at h; cases h; exact hn _ _ hy
      | ok e2 j2 =>
        rw [hy] at h; simp only at h
        split at h
        · cases h
        · exact ih _ _ _ h
    · cases h
theorem row_nz {fac : Nat → Rd Ex} (hn : Nz fac) (m : Nat) : Nz (rowP l fac m) := by
  induction m with
  | zero => exact hn
  | succ m ih =>
    intro i g h
    rw [rowP] at h
    cases hy : rowP l fac m i with
    | bad g2 => rw [hy] at h; cases h; exact ih _ _ hy
    | ok e2 j2 => rw [hy] at h; simp only at h; exact loop_nz ih _ _ _ _ h
theorem slice_nz {inner : Nat → Rd Ex} (hn : Nz inner) {e h : Ex} {t : Tk} : Nz (sliceP l inner e h t) := by
  intro i g h1
  rw [sliceP] at h1
  cases h2 : wantP l sDownto i with
  | bad g2 => rw [h2] at h1; cases h1; exact want_nz _ _ h2
  | ok u j1 =>
    rw [h2] at h1; simp only at h1
    cases h3 : inner j1 with
    | bad g2 => rw [h3] at h1; cases h1; exact hn _ _ h3
    | ok low k =>
      rw [h3] at h1; simp only at h1
      cases h4 : wantP l sShut k with
      | bad g2 => rw [h4] at h1; cases h1; exact want_nz _ _ h4
      | ok u m => rw [h4] at h1; cases h1
theorem args_nz {inner : Nat → Rd Ex} (hn : Nz inner) : ∀ (f : Nat) (kids : List Ex) (i : Nat) (g : Flt), argsP l inner f kids i = .bad g → (g.code != 0) = true := by
  intro f
  induction f with
  | zero =>
    intro kids i g h
    rw [argsP] at h
    split at h
    · cases h; exact flt_nz rfl
    · cases h
  | succ f ih =>
    intro kids i g h
    rw [argsP] at h
    split at h
    · cases hy : inner (i + 1) with
      | bad g2 => rw [hy] at h; cases h; exact hn _ _ hy
      | ok e2 j2 => rw [hy] at h; simp only at h; exact ih _ _ _ h
    · cases h
theorem part_nz {d : Nat} {inner : Nat → Rd Ex} (hn : Nz inner) {e : Ex} : Nz (partP l d inner e) := by
  intro i g h1
  rw [partP] at h1
  cases h2 : openP l d i with
  | bad g2 => rw [h2] at h1; cases h1; exact open_nz _ _ h2
  | ok u j1 =>
    rw [h2] at h1; simp only at h1
    cases h3 : inner j1 with
    | bad g2 => rw [h3] at h1; cases h1; exact hn _ _ h3
    | ok first k =>
      rw [h3] at h1; simp only at h1
      split at h1
      · exact slice_nz hn _ _ h1
      · cases h4 : wantP l sShut k with
        | bad g2 => rw [h4] at h1; cases h1; exact want_nz _ _ h4
        | ok u m => rw [h4] at h1; cases h1
theorem parts_nz {d : Nat} {inner : Nat → Rd Ex} (hn : Nz inner) : ∀ (f : Nat) (e : Ex) (i : Nat) (g : Flt), partsP l d inner f e i = .bad g → (g.code != 0) = true := by
  intro f
  induction f with
  | zero => intro e i g h; cases h
  | succ f ih =>
    intro e i g h
    rw [partsP] at h
    split at h
    · cases hy : partP l d inner e i with
      | bad g2 => rw [hy] at h; cases h; exact part_nz hn _ _ hy
      | ok e2 j2 => rw [hy] at h; simp only at h; exact ih _ _ _ h
    · cases h
theorem named_nz {d : Nat} {inner : Nat → Rd Ex} (hn : Nz inner) : Nz (namedP l d inner) := by
  intro i g h1
  rw [namedP] at h1
  split at h1
  · split at h1
    · cases h2 : openP l d (i + 1) with
      | bad g2 => rw [h2] at h1; cases h1; exact open_nz _ _ h2
      | ok u j1 =>
        rw [h2] at h1; simp only at h1
        cases h3 : inner j1 with
        | bad g2 => rw [h3] at h1; cases h1; exact hn _ _ h3
        | ok first k =>
          rw [h3] at h1; simp only at h1
          split at h1
          · exact slice_nz hn _ _ h1
          · cases h5 : argsP l inner 19 [first] k with
            | bad g2 => rw [h5] at h1; cases h1; exact args_nz hn _ _ _ _ h5
            | ok ks m =>
              rw [h5] at h1; simp only at h1
              cases h4 : wantP l sShut m with
              | bad g2 => rw [h4] at h1; cases h1; exact want_nz _ _ h4
              | ok u q => rw [h4] at h1; cases h1
    · cases h1
  · cases h1; exact flt_nz rfl
theorem prim_nz {d : Nat} {inner : Nat → Rd Ex} (hn : Nz inner) : Nz (primP l d inner) := by
  intro i g h1
  rw [primP] at h1
  split at h1
  · exact parts_nz hn _ _ _ _ h1
  · split at h1
    · exact parts_nz hn _ _ _ _ h1
    · split at h1
      · exact parts_nz hn _ _ _ _ h1
      · split at h1
        · cases h2 : namedP l d inner i with
          | bad g2 => rw [h2] at h1; cases h1; exact named_nz hn _ _ h2
          | ok e j => rw [h2] at h1; simp only at h1; exact parts_nz hn _ _ _ _ h1
        · cases h2 : openP l d i with
          | bad g2 => rw [h2] at h1; cases h1; exact open_nz _ _ h2
          | ok u j1 =>
            rw [h2] at h1; simp only at h1
            cases h3 : inner j1 with
            | bad g2 => rw [h3] at h1; cases h1; exact hn _ _ h3
            | ok e k =>
              rw [h3] at h1; simp only at h1
              cases h4 : wantP l sShut k with
              | bad g2 => rw [h4] at h1; cases h1; exact want_nz _ _ h4
              | ok u m => rw [h4] at h1; simp only at h1; exact parts_nz hn _ _ _ _ h1
theorem fac_nz {d : Nat} {sub : Nat → Rd Ex} (hn : Nz sub) : Nz (facP l d sub) := by
  intro i g h1
  rw [facP] at h1
  split at h1
  · cases h2 : intoP l d i with
    | bad g2 => rw [h2] at h1; cases h1; exact into_nz _ _ h2
    | ok u j1 =>
      rw [h2] at h1; simp only at h1
      cases h3 : sub j1 with
      | bad g2 => rw [h3] at h1; cases h1; exact hn _ _ h3
      | ok e2 k => rw [h3] at h1; cases h1
  · exact prim_nz (row_nz hn 4) _ _ h1
theorem factor_nz (d : Nat) : Nz (factor l d) := by
  induction d with
  | zero => exact fac_nz (l := l) (sub := fun _ => .bad eofF) (fun i g h => by cases h; rfl)
  | succ d ih => exact fac_nz ih
theorem rowD_nz (d m : Nat) : Nz (rowD l d m) := row_nz (factor_nz d) m
end
end Go.Proofs.YtcgdlhkiecommaaGreatDoor
/- What ExprShort and ExprBrackets ask. -/


namespace Go.Proofs.YtcgdlhkiecommaaGreatDoor
open Go
theorem seg_len (l : List Tk) (i j : Nat) : (seg l i j).length ≤ j - i := by rw [seg, List.length_take]; omega
theorem text_poss {l : List Tk} (h : (textP l).2 = 0) : l.length ≤ 20000 ∧ ∀ t ∈ l, possT t = true := by
  obtain ⟨h1, h2⟩ := textP_wr h
  exact ⟨h1, fun t ht => by rw [← wr_poss]; exact h2 t ht⟩
theorem same_toks (a : Ex) : ∀ b, sameE a b = true → toks a = toks b ∧ (a.op = b.op ∧ a.name = b.name ∧ a.kids.length = b.kids.length) := by
  induction a using Ex.ind with
  | h a ih =>
    intro b h
    have h0 := h
    rw [sameE_eq, sameEs_all] at h
    simp only [Bool.and_eq_true, beq_iff_eq] at h
    obtain ⟨h1, h2, h3, h4, _, _, h5⟩ := h
    have hl := allSame_len h5
    have hk : ∀ i, i < a.kids.length → toks (a.kids.getD i default) = toks (b.kids.getD i default) ∧ bindsP (a.kids.getD i default) = bindsP (b.kids.getD i default) := by
      intro i hi
      obtain ⟨g1, g2, g3, g4⟩ := ih _ (getD_mem hi) _ ((allSame_iff hl).1 h5 i hi)
      exact ⟨g1, by rw [bindsP, bindsP, g2, g3, g4]⟩
    refine ⟨?_, h1, h2, hl⟩
    have hm : a.kids.map toks = b.kids.map toks := by
      refine List.ext_getElem (by rw [List.length_map, List.length_map]; exact hl) fun i g1 g2 => ?_
      rw [List.length_map] at g1 g2
      have := (hk i g1).1
      rw [List.getD_eq_getElem?_getD, List.getD_eq_getElem?_getD, List.getElem?_eq_getElem g1, List.getElem?_eq_getElem g2] at this
      rw [List.getElem_map, List.getElem_map]; exact this
    have hkt : ∀ (i : Nat) (n : Int) (ts : List (List Tk)), kidT a.kids ts i n = kidT b.kids ts i n := by
      intro i n ts
      rcases Nat.lt_or_ge i a.kids.length with hi | hi
      · rw [kidT, kidT, (hk i hi).2]
      · have e1 : a.kids.getD i default = default := by rw [List.getD_eq_getElem?_getD, List.getElem?_eq_none hi]; rfl
        have e2 : b.kids.getD i default = default := by rw [List.getD_eq_getElem?_getD, List.getElem?_eq_none (by omega)]; rfl
        rw [kidT, kidT, e1, e2]
    have hb : bindsP a = bindsP b := by rw [bindsP, bindsP, h1, h2, hl]
    rw [toks_eq, toks_eq, hm, toksOf, toksOf, h1, h2, h3, h4, hb]
    simp only [hkt]
theorem fewer_toks {e a : Ex} {l m : List Tk} {n : Nat} (hal : alikeL (toks e) l = true) (hlt : m.length < l.length) (ht : (textP m).2 = 0) (h : rowD m 40 4 0 = .ok a n) (hn : n = m.length) : sameE a e = false := by
  cases hs : sameE a e with
  | false => rfl
  | true =>
    exfalso
    obtain ⟨h1, hp⟩ := text_poss ht
    have g := gd_all (wr_of hp) h
    have t1 := g.tk0.1.2.length_le
    rw [List.length_map] at t1
    have := seg_len m 0 n
    have := (same_toks a e hs).1
    have hl := alike_length hal
    rw [← this] at hl
    omega
end Go.Proofs.YtcgdlhkiecommaaGreatDoor
