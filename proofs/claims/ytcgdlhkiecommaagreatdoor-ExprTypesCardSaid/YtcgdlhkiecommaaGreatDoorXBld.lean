import Derived.Test.YtcgdlhkiecommaaGreatDoorXRef3
import Derived.Test.YtcgdlhkiecommaaGreatDoorXDec
import Derived.Test.YtcgdlhkiecommaaGreatDoorXTop

import Derived.Test.YtcgdlhkiecommaaGreatDoorShelf
import Derived.Shelf.Strings.BuilderK
import Derived.Lib.FrozenHead2
import Derived.Lib.OthersKept
import Derived.WalkKit
/- What few parts are: how many nodes, how long names, how many tokens; all tokens can be written. -/




set_option linter.all false
namespace Go.Proofs.YtcgdlhkiecommaaGreatDoor
open Go
mutual
def nodes : Ex → Nat
  | .mk _ _ _ _ _ k _ _ _ => nodesL k + 1
def nodesL : List Ex → Nat
  | [] => 0
  | e :: r => nodes e + nodesL r
end
theorem nodes_eq (e : Ex) : nodes e = nodesL e.kids + 1 := by cases e; rfl
theorem nodes_len (l : List Ex) : l.length ≤ nodesL l := by
  induction l with
  | nil => exact Nat.le_refl _
  | cons a l ih => have := nodes_eq a; simp only [nodesL, List.length_cons]; omega
mutual
def smE : Ex → Bool
  | .mk _ s _ b _ k _ _ _ => (decide (s.length ≤ 200000) && decide (b.length ≤ 3000)) && smEs k
def smEs : List Ex → Bool
  | [] => true
  | e :: r => smE e && smEs r
end
theorem smE_facts {e : Ex} (h : smE e = true) : e.name.length ≤ 200000 ∧ e.bits.length ≤ 3000 ∧ ∀ k ∈ e.kids, smE k = true := by
  have hl : ∀ l : List Ex, smEs l = true → ∀ k ∈ l, smE k = true := by
    intro l
    induction l with
    | nil => intro _ k hk; cases hk
    | cons a l ih =>
      intro h k hk
      rw [smEs, Bool.and_eq_true] at h
      cases hk with
      | head => exact h.1
      | tail _ hk => exact ih h.2 k hk
  cases e with
  | mk o s n b v k t l c =>
    rw [smE] at h
    simp only [Bool.and_eq_true, decide_eq_true_eq] at h
    exact ⟨h.1.1, h.1.2, hl k h.2⟩
theorem smE_of {e : Ex} (h1 : e.name.length ≤ 200000) (h2 : e.bits.length ≤ 3000) (h3 : ∀ k ∈ e.kids, smE k = true) : smE e = true := by
  have hl : ∀ l : List Ex, (∀ k ∈ l, smE k = true) → smEs l = true := by
    intro l
    induction l with
    | nil => intro _; rfl
    | cons a l ih => intro h; rw [smEs, h a (by simp), ih fun k hk => h k (by simp [hk])]; rfl
  cases e with
  | mk o s n b v k t l c =>
    rw [smE, hl k h3]
    have h1 : s.length ≤ 200000 := h1
    have h2 : b.length ≤ 3000 := h2
    rw [decide_eq_true h1, decide_eq_true h2]; rfl
theorem partsEs_few {l : List Ex} {d : Nat} (hl : ∀ k ∈ l, ∀ n : Int, 0 ≤ n → n ≤ 3000 → 0 ≤ partsE k n (d + 1) → partsE k n (d + 1) + nodes k ≤ n ∧ smE k = true ∧ height k + (d + 1) ≤ 300) :
    ∀ n : Int, n ≤ 3000 → 0 ≤ partsEs l n d → partsEs l n d + nodesL l ≤ n ∧ (∀ k ∈ l, smE k = true ∧ height k + (d + 1) ≤ 300) := by
  induction l with
  | nil => intro n _ h; exact ⟨by simp [partsEs, nodesL], fun k hk => by cases hk⟩
  | cons a l ih =>
    intro n hn h
    rw [partsEs] at h ⊢
    by_cases h0 : n < 0
    · rw [if_pos h0] at h; omega
    · rw [if_neg h0] at h ⊢
      have hp : 0 ≤ partsE a n (d + 1) := by
        rcases Int.lt_or_le (partsE a n (d + 1)) 0 with h1 | h1
        · rw [partsEs_lt h1] at h; exact h
        · exact h1
      obtain ⟨g1, g2, g3⟩ := hl a (by simp) n (by omega) hn hp
      obtain ⟨g4, g5⟩ := ih (fun k hk => hl k (by simp [hk])) _ (by omega) h
      refine ⟨by simp only [nodesL]; omega, fun k hk => ?_⟩
      rcases List.mem_cons.1 hk with rfl | hk
      · exact ⟨g2, g3⟩
      · exact g5 k hk
theorem heights_le {l : List Ex} {b : Nat} (h : ∀ k ∈ l, height k + 1 ≤ b) : heights l ≤ b := by
  induction l with
  | nil => exact Nat.zero_le _
  | cons a l ih => have := h a (by simp); have := ih (fun k hk => h k (by simp [hk])); rw [heights]; omega
theorem partsE_few (e : Ex) : ∀ (n : Int) (d : Nat), 0 ≤ n → n ≤ 3000 → 0 ≤ partsE e n d → partsE e n d + nodes e ≤ n ∧ smE e = true ∧ height e + d ≤ 300 := by
  induction e using Ex.ind with
  | h e ih =>
    intro n d h0 hn h
    by_cases hd : 300 < d
    · rw [partsE_no hd] at h; omega
    · rw [partsE_eq hd] at h ⊢
      have hs : 0 ≤ n - (((((1 + (e.bits.length : Int)) + (e.name.length / 50 : Nat)) + e.val.bits.length) + e.val.list.length) + e.type.names.length + e.type.elem.length) := by
        rcases Int.lt_or_le (n - (((((1 + (e.bits.length : Int)) + (e.name.length / 50 : Nat)) + e.val.bits.length) + e.val.list.length) + e.type.names.length + e.type.elem.length)) 0 with h1 | h1
        · rw [partsEs_lt h1] at h; exact h
        · exact h1
      obtain ⟨g1, g2⟩ := partsEs_few (l := e.kids) (d := d) (fun k hk n h0 hn h => ih k hk n (d + 1) h0 hn h) _ (by omega) h
      refine ⟨by rw [nodes_eq]; omega, smE_of (by omega) (by omega) (fun k hk => (g2 k hk).1), ?_⟩
      rw [height_eq]
      have := heights_le (l := e.kids) (b := 300 - d) (fun k hk => by have := (g2 k hk).2; omega)
      omega
theorem szE_few (e : Ex) : smE e = true → nuE e = true → nodes e ≤ 3000 → szE e = true := by
  have hl : ∀ l : List Ex, (∀ k ∈ l, szE k = true) → szEs l = true := by
    intro l
    induction l with
    | nil => intro _; rfl
    | cons a l ih => intro h; rw [szEs, h a (by simp), ih fun k hk => h k (by simp [hk])]; rfl
  have hn : ∀ l : List Ex, nuEs l = true → ∀ k ∈ l, nuE k = true := by
    intro l
    induction l with
    | nil => intro _ k hk; cases hk
    | cons a l ih =>
      intro h k hk
      rw [nuEs, Bool.and_eq_true] at h
      cases hk with
      | head => exact h.1
      | tail _ hk => exact ih h.2 k hk
  have hm : ∀ (l : List Ex) (k : Ex), k ∈ l → nodes k ≤ nodesL l := by
    intro l
    induction l with
    | nil => intro k hk; cases hk
    | cons a l ih =>
      intro k hk
      rw [nodesL]
      cases hk with
      | head => omega
      | tail _ hk => have := ih k hk; omega
  induction e using Ex.ind with
  | h e ih =>
    intro h1 h2 h3
    obtain ⟨g1, g2, g3⟩ := smE_facts h1
    rw [nodes_eq] at h3
    have g4 := nodes_len e.kids
    cases e with
    | mk o s n b v k t l c =>
      rw [nuE] at h2
      simp only [Bool.and_eq_true] at h2
      rw [szE, hl k (fun x hx => ih x hx (g3 x hx) (hn k h2.2 x hx) (by have := hm k x hx; simp only [Ex.kids] at h3; omega))]
      simp only [Ex.name, Ex.bits, Ex.kids] at g1 g2 g4 h3
      rw [decide_eq_true (by omega), decide_eq_true (by omega), decide_eq_true (by omega)]
      have hb : b.all (fun x => decide (0 ≤ x)) = true := by
        rw [List.all_eq_true]
        intro x hx
        have := List.all_eq_true.1 h2.1.1.2.2 x hx
        rw [wB, Bool.and_eq_true] at this
        exact this.1
      rw [hb]; rfl
structure OKk (t : Tk) : Prop where
  poss : possT t = true
  text : t.text.length ≤ 200000
  int : t.op = 3 → 0 ≤ t.n
  n0 : -9223372036854775808 ≤ t.n
  n1 : t.n ≤ 9223372036854775807
theorem tw_all {p : UInt8 → Bool} (l : Bs) (h : ∀ c ∈ l, p c = true) : l.takeWhile p = l := by
  induction l with
  | nil => rfl
  | cons a l ih => rw [List.takeWhile_cons, h a (by simp), if_pos rfl, ih fun c hc => h c (by simp [hc])]
theorem bitC_bit {x : Int} (h0 : 0 ≤ x) (h3 : x ≤ 3) : isBitC (bitC x) = true := by
  have : x = 0 ∨ x = 1 ∨ x = 2 ∨ x = 3 := by omega
  rcases this with rfl | rfl | rfl | rfl <;> decide
theorem tkS_ok {s : Bs} (h : (isWordL s || signsL.contains s) = true) (hl : s.length ≤ 200000) : OKk (tkS s) := by
  rw [tkS]
  cases hw : isWordL s with
  | true => exact ⟨by rw [possT]; simp [hw], hl, (by intro h; cases h), by simp, by simp⟩
  | false =>
    rw [hw, Bool.false_or, List.contains_iff_mem] at h
    exact ⟨by rw [possT]; simp [h], hl, (by intro h; cases h), by simp, by simp⟩
theorem ops_ok {s : Bs} (h : 0 ≤ strengthI s) : (isWordL s || signsL.contains s) = true ∧ s.length ≤ 200000 := by
  have key : ∀ x ∈ levelsL.flatten, (isWordL x || signsL.contains x) = true ∧ x.length ≤ 200000 := by
    have : (levelsL.flatten.all fun x => (isWordL x || signsL.contains x) && decide (x.length ≤ 200000)) = true := by decide +kernel
    intro x hx
    have := List.all_eq_true.1 this x hx
    rw [Bool.and_eq_true, decide_eq_true_eq] at this
    exact this
  refine key s ?_
  have lv : ∀ k, k < 4 → (levelL k).contains s = true → s ∈ levelsL.flatten := by
    intro k hk hc
    rw [List.contains_iff_mem] at hc
    refine List.mem_flatten.2 ⟨levelL k, ?_, hc⟩
    have : k = 0 ∨ k = 1 ∨ k = 2 ∨ k = 3 := by omega
    rcases this with rfl | rfl | rfl | rfl <;> simp [levelL, levelsL]
  rw [strengthI] at h
  split at h
  · exact lv 0 (by omega) (by assumption)
  · split at h
    · exact lv 1 (by omega) (by assumption)
    · split at h
      · exact lv 2 (by omega) (by assumption)
      · split at h
        · exact lv 3 (by omega) (by assumption)
        · omega
theorem inBr_all {p : Tk → Prop} {t : List Tk} (hO : p tkO) (hC : p tkC) (h : ∀ x ∈ t, p x) : ∀ x ∈ inBr t, p x := by
  rw [inBr_eq]
  intro x hx
  simp only [List.mem_append, List.mem_singleton] at hx
  rcases hx with (rfl | hx) | rfl
  · exact hO
  · exact h x hx
  · exact hC
theorem kidTk_all {p : Tk → Prop} {k : Ex} {n : Int} (hO : p tkO) (hC : p tkC) (h : ∀ x ∈ toks k, p x) : ∀ x ∈ kidTk k n, p x := by
  rw [kidTk]; split
  · exact inBr_all hO hC h
  · exact h
theorem sepT_all {p : Tk → Prop} {s : Bs} {ts : List (List Tk)} (hs : p (tkS s)) (h : ∀ t ∈ ts, ∀ x ∈ t, p x) : ∀ x ∈ sepT s ts, p x := by
  induction ts with
  | nil => intro x hx; cases hx
  | cons a r ih =>
    cases r with
    | nil => exact h a (by simp)
    | cons b r =>
      intro x hx
      rw [sepT] at hx
      simp only [List.mem_append, List.mem_cons] at hx
      rcases hx with hx | rfl | hx
      · exact h a (by simp) x hx
      · exact hs
      · exact ih (fun t ht => h t (by simp [List.mem_cons] at ht ⊢; right; exact ht)) x hx
      · intro h2; cases h2
theorem tkO_ok : OKk tkO := tkO_eq ▸ tkS_ok (by decide +kernel) (by decide)
theorem tkC_ok : OKk tkC := tkC_eq ▸ tkS_ok (by decide +kernel) (by decide)
theorem toks_ok (e : Ex) : formP e = true → szE e = true → smE e = true → ∀ t ∈ toks e, OKk t := by
  induction e using Ex.ind with
  | h e ih =>
    intro hf hz hm
    obtain ⟨z1, z2, z3, z4, z5⟩ := szE_facts hz
    obtain ⟨m1, m2, m3⟩ := smE_facts hm
    have hk : ∀ i, i < e.kids.length → ∀ t ∈ toks (e.kids.getD i default), OKk t := fun i hi => ih _ (getD_mem hi) (form_kid hf _ (getD_mem hi)) (z5 _ (getD_mem hi)) (m3 _ (getD_mem hi))
    have ht := form_op hf
    rw [tailR] at ht
    rcases kind_of hf with ⟨h1, hk0⟩ | ⟨h1, hk0⟩ | ⟨h1, hk0⟩ | ⟨h1, hn, hk0⟩ | ⟨h1, hn, hk0, hs⟩ | ⟨h1, hn, hk0, hs⟩
    · rcases h1 with h1 | h1 | h1 | h1
      · rw [h1] at ht
        simp only [show ((1 : Int) == 1) = true from rfl, cond_true, Bool.and_eq_true, decide_eq_true_eq] at ht
        rw [(toks_int (by rw [h1]; rfl)).1]
        intro t htm
        obtain rfl := List.mem_singleton.1 htm
        exact ⟨by rw [possT]; simp [ht.1.1, ht.1.2], Nat.zero_le _, fun _ => ht.1.1, by show _ ≤ e.n; omega, by show e.n ≤ _; omega⟩
      · have hb := form_bits2 hf (by rw [h1]; rfl)
        rw [h1] at ht
        simp only [show ((2 : Int) == 1) = false from rfl, show ((2 : Int) == 2) = true from rfl, cond_true, cond_false, Bool.and_eq_true, beq_iff_eq] at ht
        have hl : e.bits.length = 1 := by omega
        rw [(toks_bit (by rw [h1]; rfl) (by rw [h1]; rfl)).1]
        intro t htm
        obtain rfl := List.mem_singleton.1 htm
        obtain ⟨x, hx⟩ : ∃ x, e.bits = [x] := List.length_eq_one_iff.1 hl
        have hb4 := bitC_bit (z4 x (by rw [hx]; simp)) (bits_le hb x (by rw [hx]; simp))
        refine ⟨?_, by rw [bitsT_len]; omega, (by intro h; cases h), by simp, by simp⟩
        rw [possT, hx]
        simp [bitsT, hb4]
      · have hb := form_bits3 hf (by rw [h1]; rfl)
        have hlen := bits_len hb
        rw [(toks_vec (by rw [h1]; rfl) (by rw [h1]; rfl) (by rw [h1]; rfl)).1]
        intro t htm
        obtain rfl := List.mem_singleton.1 htm
        have hall : ∀ c ∈ bitsT e.bits, ofK c 2 = true := by
          intro c hc
          rw [bitsT, List.mem_reverse, List.mem_map] at hc
          obtain ⟨x, hx, rfl⟩ := hc
          have := bitC_bit (z4 x hx) (bits_le hb x hx)
          rw [show ofK (bitC x) 2 = isBitC (bitC x) from rfl]; exact this
        refine ⟨?_, by rw [bitsT_len]; omega, (by intro h; cases h), by simp, by simp⟩
        rw [possT]
        simp only [List.drop_zero]
        rw [tw_all _ hall, bitsT_len]
        simp; omega
      · rw [h1] at ht
        simp only [show ((4 : Int) == 1) = false from rfl, show ((4 : Int) == 2) = false from rfl, show ((4 : Int) == 3) = false from rfl, show ((4 : Int) == 4) = true from rfl, cond_true, cond_false, Bool.and_eq_true] at ht
        rw [(toks_name (by rw [h1]; rfl) (by rw [h1]; rfl) (by rw [h1]; rfl) (by rw [h1]; rfl)).1]
        intro t htm
        obtain rfl := List.mem_singleton.1 htm
        exact ⟨by rw [possT]; simp [tkN, ht.1], m1, (by intro h; cases h), by simp [tkN], by simp [tkN]⟩
    · obtain ⟨o1, o2, o3, o4, o6⟩ := ops6 h1
      rw [(toks_index o1 o2 o3 o4 o6 hk0).1]
      intro t htm
      rcases List.mem_append.1 htm with htm | htm
      · exact kidTk_all tkO_ok tkC_ok (hk 0 (by omega)) t htm
      · exact inBr_all tkO_ok tkC_ok (hk 1 (by omega)) t htm
    · obtain ⟨o1, o2, o3, o4, o6, o7⟩ := ops7 h1
      rw [(toks_slice o1 o2 o3 o4 o6 o7 hk0).1]
      intro t htm
      rcases List.mem_append.1 htm with htm | htm
      · exact kidTk_all tkO_ok tkC_ok (hk 0 (by omega)) t htm
      · refine inBr_all tkO_ok tkC_ok (sepT_all (tkS_ok (by decide +kernel) (by decide)) ?_) t htm
        intro l hl x hx
        obtain ⟨k, hk1, rfl⟩ := List.mem_map.1 hl
        have hkm := List.mem_of_mem_drop hk1
        exact ih k hkm (form_kid hf k hkm) (z5 k hkm) (m3 k hkm) x hx
    · obtain ⟨o1, o2, o3, o4, o6, o7⟩ := ops5 h1
      rw [(toks_call o1 o2 o3 o4 o6 o7 (by rw [binds_call h1 hn]; rfl)).1]
      intro t htm
      rcases List.mem_cons.1 htm with rfl | htm
      · exact ⟨by rw [possT]; simp [tkN, hn], m1, (by intro h; cases h), by simp [tkN], by simp [tkN]⟩
      · refine inBr_all tkO_ok tkC_ok (sepT_all (tkS_ok (by decide +kernel) (by decide)) ?_) t htm
        intro l hl x hx
        obtain ⟨k, hkm, rfl⟩ := List.mem_map.1 hl
        exact ih k hkm (form_kid hf k hkm) (z5 k hkm) (m3 k hkm) x hx
    · obtain ⟨o1, o2, o3, o4, o6, o7⟩ := ops5 h1
      have hb := binds_unary h1 hn hk0
      rw [(toks_one o1 o2 o3 o4 o6 o7 (by rw [hb]; rfl) (by rw [hb]; rfl) hk0).1]
      intro t htm
      rcases List.mem_cons.1 htm with rfl | htm
      · rcases hs with hs | hs <;> rw [hs] <;> exact tkS_ok (by decide +kernel) (by decide)
      · exact kidTk_all tkO_ok tkC_ok (hk 0 (by omega)) t htm
    · obtain ⟨o1, o2, o3, o4, o6, o7⟩ := ops5 h1
      have hb := binds_binary h1 hn hk0
      have hr := str_range e.name
      rw [(toks_two o1 o2 o3 o4 o6 o7 (by rw [hb]; simp; omega) (by rw [hb]; simp; omega) hk0).1]
      intro t htm
      rcases List.mem_append.1 htm with htm | htm
      · exact kidTk_all tkO_ok tkC_ok (hk 0 (by omega)) t htm
      · rcases List.mem_cons.1 htm with rfl | htm
        · obtain ⟨w1, w2⟩ := ops_ok hs
          exact tkS_ok w1 w2
        · exact kidTk_all tkO_ok tkC_ok (hk 1 (by omega)) t htm
theorem OKk.okt {t : Tk} (h : OKk t) : OKT t := ⟨Nat.le_trans h.text (by decide), h.n0, h.n1⟩
def tokQ (e : Ex) : List Tk := bif validQ e then toks e else []
def textQ (e : Ex) : Bs × Int := bif validQ e then (joinT (toks e), 0) else ([], 2)
end Go.Proofs.YtcgdlhkiecommaaGreatDoor
/- Names, as the reference gathers them. -/

namespace Go.Proofs.YtcgdlhkiecommaaGreatDoor
open Go
def isNm (e : Ex) : Bool := (e.op == 4) || ((e.op == 5) && isNameL e.name)
def addN (out : List Bs) (e : Ex) : List Bs := bif isNm e && !(out.contains e.name) then out ++ [e.name] else out
mutual
def namesQ : List Bs → Ex → List Bs
  | out, .mk o s n b v k t l c => namesQs (addN out (.mk o s n b v k t l c)) k
def namesQs : List Bs → List Ex → List Bs
  | out, [] => out
  | out, e :: r => namesQs (namesQ out e) r
end
theorem namesQs_fold (l : List Ex) : ∀ out, namesQs out l = l.foldl namesQ out := by
  induction l with
  | nil => intro out; rfl
  | cons a l ih => intro out; rw [namesQs, ih]; rfl
theorem namesQ_eq (out : List Bs) (e : Ex) : namesQ out e = e.kids.foldl namesQ (addN out e) := by rw [← namesQs_fold]; cases e; rfl
theorem addN_no {out : List Bs} {e : Ex} (h : isNm e = false) : addN out e = out := by rw [addN, h]; rfl
theorem fold_inBr (t : List Tk) (out : List Bs) : (inBr t).foldl addName out = t.foldl addName out := by
  rw [inBr_eq, List.foldl_append, List.foldl_append]; rfl
theorem fold_tkS (s : Bs) (out : List Bs) : addName out (tkS s) = out := by
  rw [addName, tkS]; cases isWordL s <;> rfl
theorem fold_kidTk (k : Ex) (n : Int) (out : List Bs) : (kidTk k n).foldl addName out = (toks k).foldl addName out := by
  rw [kidTk]; split
  · rw [fold_inBr]
  · rfl
theorem fold_sepT (s : Bs) (l : List Ex) (out : List Bs) : (sepT s (l.map toks)).foldl addName out = l.foldl (fun o k => (toks k).foldl addName o) out := by
  induction l generalizing out with
  | nil => rfl
  | cons a r ih =>
    cases r with
    | nil => rfl
    | cons b r =>
      show ((toks a) ++ (tkS s :: sepT s ((b :: r).map toks))).foldl addName out = _
      rw [List.foldl_append, List.foldl_cons, fold_tkS, ih]; rfl
theorem names_toks (e : Ex) : formP e = true → ∀ out, namesQ out e = (toks e).foldl addName out := by
  induction e using Ex.ind with
  | h e ih =>
    intro hf out
    have hk : ∀ i, i < e.kids.length → ∀ o, namesQ o (e.kids.getD i default) = (toks (e.kids.getD i default)).foldl addName o := fun i hi => ih _ (getD_mem hi) (form_kid hf _ (getD_mem hi))
    rw [namesQ_eq]
    rcases kind_of hf with ⟨h1, hk0⟩ | ⟨h1, hk0⟩ | ⟨h1, hk0⟩ | ⟨h1, hn, hk0⟩ | ⟨h1, hn, hk0, hs⟩ | ⟨h1, hn, hk0, hs⟩
    · rw [hk0]
      rcases h1 with h1 | h1 | h1 | h1
      · rw [(toks_int (by rw [h1]; rfl)).1, addN_no (by rw [isNm, h1]; rfl)]; rfl
      · rw [(toks_bit (by rw [h1]; rfl) (by rw [h1]; rfl)).1, addN_no (by rw [isNm, h1]; rfl)]; rfl
      · rw [(toks_vec (by rw [h1]; rfl) (by rw [h1]; rfl) (by rw [h1]; rfl)).1, addN_no (by rw [isNm, h1]; rfl)]; rfl
      · rw [(toks_name (by rw [h1]; rfl) (by rw [h1]; rfl) (by rw [h1]; rfl) (by rw [h1]; rfl)).1]
        simp only [List.foldl_nil, List.foldl_cons]
        rw [addN, addName, isNm, h1]
        show _ = if (true && !(out.contains e.name)) = true then _ else _
        cases out.contains e.name <;> rfl
    · obtain ⟨o1, o2, o3, o4, o6⟩ := ops6 h1
      rw [(toks_index o1 o2 o3 o4 o6 hk0).1, addN_no (by rw [isNm, h1]; rfl), List.foldl_append, fold_kidTk, fold_inBr, ← hk 0 (by omega), ← hk 1 (by omega)]
      match hkk : e.kids, hk0 with
      | [a, b], _ => rfl
    · obtain ⟨o1, o2, o3, o4, o6, o7⟩ := ops7 h1
      rw [(toks_slice o1 o2 o3 o4 o6 o7 hk0).1, addN_no (by rw [isNm, h1]; rfl), List.foldl_append, fold_kidTk, fold_inBr, fold_sepT, ← hk 0 (by omega)]
      match hkk : e.kids, hk0 with
      | [a, b, c], _ =>
        have h1 := hk 1 (by rw [hkk]; simp)
        have h2 := hk 2 (by rw [hkk]; simp)
        rw [hkk] at h1 h2
        simp only [List.foldl_cons, List.foldl_nil, List.drop_succ_cons, List.drop_zero]
        rw [show ([a, b, c] : List Ex).getD 0 default = a from rfl]
        rw [show ([a, b, c] : List Ex).getD 1 default = b from rfl] at h1
        rw [show ([a, b, c] : List Ex).getD 2 default = c from rfl] at h2
        rw [h1, h2]
    · obtain ⟨o1, o2, o3, o4, o6, o7⟩ := ops5 h1
      rw [(toks_call o1 o2 o3 o4 o6 o7 (by rw [binds_call h1 hn]; rfl)).1, List.foldl_cons, fold_inBr, fold_sepT]
      have e1 : addN out e = addName out (tkN e.name) := by
        rw [addN, addName, isNm, h1, hn]
        show _ = if (true && !(out.contains e.name)) = true then _ else _
        cases out.contains e.name <;> rfl
      rw [e1]
      have key : ∀ (l : List Ex), (∀ k ∈ l, ∀ o, namesQ o k = (toks k).foldl addName o) → ∀ o, l.foldl namesQ o = l.foldl (fun o k => (toks k).foldl addName o) o := by
        intro l
        induction l with
        | nil => intro _ o; rfl
        | cons a l ihl => intro h o; rw [List.foldl_cons, List.foldl_cons, h a (by simp), ihl (fun k hk => h k (by simp [hk]))]
      exact key _ (fun k hk => ih k hk (form_kid hf k hk)) _
    · obtain ⟨o1, o2, o3, o4, o6, o7⟩ := ops5 h1
      have hb := binds_unary h1 hn hk0
      rw [(toks_one o1 o2 o3 o4 o6 o7 (by rw [hb]; rfl) (by rw [hb]; rfl) hk0).1, List.foldl_cons, fold_tkS, fold_kidTk, addN_no (by rw [isNm, h1, hn]; rfl), ← hk 0 (by omega)]
      match hkk : e.kids, hk0 with
      | [a], _ => rfl
    · obtain ⟨o1, o2, o3, o4, o6, o7⟩ := ops5 h1
      have hb := binds_binary h1 hn hk0
      have hr := str_range e.name
      rw [(toks_two o1 o2 o3 o4 o6 o7 (by rw [hb]; simp; omega) (by rw [hb]; simp; omega) hk0).1, addN_no (by rw [isNm, h1, hn]; rfl), List.foldl_append, List.foldl_cons, fold_tkS, fold_kidTk, fold_kidTk, ← hk 0 (by omega), ← hk 1 (by omega)]
      match hkk : e.kids, hk0 with
      | [a, b], _ => rfl
end Go.Proofs.YtcgdlhkiecommaaGreatDoor
/- What was written is read as it was: words for it, and small facts. -/

namespace Go.Proofs.YtcgdlhkiecommaaGreatDoor
open Go
section
variable {l : List Tk}
end
end Go.Proofs.YtcgdlhkiecommaaGreatDoor
/- What was written is read as it was: by the kind of the expression. -/

namespace Go.Proofs.YtcgdlhkiecommaaGreatDoor
open Go
section
variable {l : List Tk}
end
end Go.Proofs.YtcgdlhkiecommaaGreatDoor
/- What was written is read as it was: all expressions. -/

namespace Go.Proofs.YtcgdlhkiecommaaGreatDoor
open Go
section
variable {l : List Tk}
end
end Go.Proofs.YtcgdlhkiecommaaGreatDoor
/- strings.Builder at this dump: copyCheck and WriteByte. -/





set_option linter.unusedVariables false
namespace Go.Proofs.YtcgdlhkiecommaaGreatDoor
open Go Go.RowKit Go.Shelf
theorem sizeBld : (Tryz.prog.info? 163).map (·.size) = some 2 := by kernel_rfl
theorem liesBld : liesAt Tryz.prog Tryz.prog.depth 163 (2 / Tryz.prog.cellsOf 163) 0 163 1 = true := by kernel_rfl
theorem infoByteB : (Tryz.prog.info? 5).map (fun i => (i.zero, i.size, i.bytes)) = some (some (.int .u8 0), 1, 1) := by kernel_rfl
theorem neB5 : (163 : Nat) ≠ 5 := by decide
set_option maxHeartbeats 1000000 in
set_option maxRecDepth 100000 in
theorem bld_copy_used (b : Nat) (w : World) (h0 : w.cell? ⟨b, 0, none⟩ = some (.pointer (some ⟨b, 0, none⟩))) :
    Calls Tryz.prog 188 #[.pointer (some ⟨b, 0, none⟩)] w fun e w' => e = .returned (.tuple #[]) ∧ w' = w := by
  obtain ⟨j, hj, _⟩ := Option.map_eq_some_iff.1 sizeBld
  go_enter Tryz.func188, Tryz.ntmps188
  go_wp2
  rw [Lib.run_neq_ptr_same w _ Tryz.underlying160 hj]
  go_wp2
  go_end0
  exact ⟨rfl, rfl⟩
set_option maxHeartbeats 1000000 in
set_option maxRecDepth 100000 in
theorem bld_copy_fresh (b : Nat) (w : World) (h0 : w.cell? ⟨b, 0, none⟩ = some (.pointer none)) (hsh : w.shape? b = some (163, 2)) (hfz : w.frozen? ⟨b, 0, none⟩ = false) :
    Calls Tryz.prog 188 #[.pointer (some ⟨b, 0, none⟩)] w fun e w' => e = .returned (.tuple #[]) ∧ w' = w.setCell ⟨b, 0, none⟩ (.pointer (some ⟨b, 0, none⟩)) := by
  obtain ⟨j, hj, hjs⟩ := Option.map_eq_some_iff.1 sizeBld
  go_enter Tryz.func188, Tryz.ntmps188
  go_wp2
  rw [Lib.run_to_unsafe w ⟨b, 0, none⟩ Tryz.underlying160 Tryz.underlying200 hj (by rw [hjs]; decide) hsh (Nat.zero_lt_succ 1)]
  simp only [Result.andThen]
  rw [Oper.upon_value]
  go_wp2
  rw [run_callFunc_extern Tryz.func203 (by kernel_rfl) (by kernel_rfl) (by kernel_rfl) (e := Extern.AbiNoEscape.same) (by kernel_rfl)]
  rw [Lib.run_noEscape]
  simp only [Result.andThen]
  rw [Oper.upon_value]
  go_wp2
  rw [Lib.run_from_unsafe w ⟨b, 0, none⟩ Tryz.underlying200 Tryz.underlying160 hj hsh liesBld]
  simp only [Result.andThen]
  rw [Oper.upon_value]
  go_wp2
  go_end0
  exact ⟨rfl, rfl⟩
theorem bld_copy (B b : Nat) (bs : List Value) (w : World) (h : Lib.IsBuilderF 163 5 B b bs w) :
    Calls Tryz.prog 188 #[.pointer (some ⟨b, 0, none⟩)] w fun e w' => e = .returned (.tuple #[]) ∧ (Lib.BuilderAtF 163 5 B b (.pointer (some ⟨b, 0, none⟩)) bs w' ∧ Below B w w' ∧ Lib.OthersKept 5 (some b) w w') := by
  rcases h with h | h
  · refine (bld_copy_fresh b w h.cell0 h.shape h.frozen0).mono ?_
    rintro e w' ⟨rfl, rfl⟩
    exact ⟨rfl, h.used _, (Below.refl B w).setCell (p := ⟨b, 0, none⟩) h.1 _, (Lib.OthersKept.refl _ _ w).setCell ⟨b, 0, none⟩ rfl _⟩
  · refine (bld_copy_used b w h.cell0).mono ?_
    rintro e w' ⟨rfl, rfl⟩
    exact ⟨rfl, h, Below.refl B _, Lib.OthersKept.refl _ _ _⟩
theorem enters_copy : ∀ args w, (callFunc 188 args).run Tryz.prog w = .ok (.enter 188 args) w := enters_of Tryz.func188 (by kernel_rfl) rfl
set_option maxHeartbeats 2000000 in
set_option maxRecDepth 100000 in
theorem bld_writeByte (B b : Nat) (bs : List Value) (c : Int) (w : World) (h : Lib.IsBuilderF 163 5 B b bs w) (hlen : bs.length + 1 ≤ 140737488355328) (hBw : B ≤ w.heap.size) :
    Calls Tryz.prog 179 #[.pointer (some ⟨b, 0, none⟩), .int .u8 c] w fun e w' => e = .returned .nilIface ∧ (Lib.BuilderAtF 163 5 B b (.pointer (some ⟨b, 0, none⟩)) (bs ++ [.int .u8 c]) w' ∧ Below B w w' ∧ Lib.OthersKept 5 (some b) w w') := by
  obtain ⟨i0, hi, hz0, hz1, hz2⟩ := info_parts infoByteB
  have e240 := enters_copy
  go_enter Tryz.func179, Tryz.ntmps179
  go_wp2_with (go_at_fn 188; refine (bld_copy B b bs _ h).mono ?_)
  rintro e w1 ⟨rfl, h1, hb1, hk1⟩
  obtain ⟨hB, v, hbk, hown, hne⟩ := h1
  have c0 : w1.cell? ⟨b, 0, none⟩ = some (.pointer (some ⟨b, 0, none⟩)) := by rw [Lib.cell_of_heap hbk]; rfl
  have c1 : w1.cell? ⟨b, 1, none⟩ = some v := by rw [Lib.cell_of_heap hbk]; rfl
  go_wp2_with (at_builtin; refine wpList_append_ownF _ rfl _ _ 161 rfl B 5 i0 (.int .u8 0) 1 1 Tryz.underlying161 hi hz0 hz1 hz2 rfl (by decide) _ _ _ rfl (hown.alloc _) ⟨w1.heap.size, 0, none⟩ 1 1 [.int .u8 c] rfl rfl ?c1 ?c2 ?c3 ?c4 ?c5 ?_)
  case c1 =>
    intro j u hj
    match j, hj with
    | 0, hj => simp at hj; subst hj; simp [Addr.add]
  case c2 => intro u hu; simp at hu; subst hu; rfl
  case c3 => unfold maxLen; omega
  case c4 => omega
  case c5 => have := hb1.size; simp; omega
  intro v' w2 hown' hgrow _
  have hlt : b < w1.heap.size := by
    rcases Nat.lt_or_ge b w1.heap.size with h' | h'
    · exact h'
    · simp [Array.getElem?_eq_none h'] at hbk
  have hb2 : w2.heap[b]? = some (.cells #[.pointer (some ⟨b, 0, none⟩), v] 163 (0, 0)) := by
    rw [hgrow.block b (by simp; omega) (fun e => hne e.symm), Lib.alloc_old w1 _ b hlt]
    exact hbk
  have d0 : w2.cell? ⟨b, 0, none⟩ = some (.pointer (some ⟨b, 0, none⟩)) := by rw [Lib.cell_of_heap hb2]; rfl
  have d1 : w2.cell? ⟨b, 1, none⟩ = some v := by rw [Lib.cell_of_heap hb2]; rfl
  have f1 : w2.frozen? ⟨b, 1, none⟩ = false := Lib.frozen_of_heap hb2 1
  obtain ⟨g, cap, rfl⟩ : ∃ g cap, v' = .slice (some ⟨g, 0, none⟩) (bs.length + 1) cap := by
    rcases hown'.2 with ⟨_, h0⟩ | ⟨g, cap, cur, fz, hv, _⟩
    · omega
    · exact ⟨g, cap, hv⟩
  go_wp2
  go_ret
  refine ⟨rfl, ?_, ?_, ((hk1.alloc _).grown hgrow (Lib.ownsRowF_kind (hown.alloc _))).setCell ⟨b, 1, none⟩ rfl _⟩
  · exact Lib.BuilderAtF.put (T := 163) (e := 5) hB hb2 (bs' := bs ++ [.int .u8 c]) (by simpa using hown') neB5
  · exact ((hb1.alloc (by have := hb1.size; omega) _).grown hgrow (by have := hb1.size; simp; omega) (fun k hk => (hown.lt k hk).1)).setCell (p := ⟨b, 1, none⟩) hB _
end Go.Proofs.YtcgdlhkiecommaaGreatDoor
