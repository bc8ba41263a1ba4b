import Derived.Test.YtcgdlhkiecommaaGreatDoorXBld
import Derived.Test.YtcgdlhkiecommaaGreatDoorXTop
import Derived.Test.YtcgdlhkiecommaaGreatDoorShelfB
import Derived.RangeFuncNested
import Derived.RangeFuncBound
import Derived.RangeFuncCalls
import Derived.RangeFuncLeaves
import Derived.RangeFuncBox
import Derived.Shelf.Abstract
import Derived.Shelf.RegionOpen
import Derived.WalkKit
import Derived.OwnWalkIn
import Derived.TacticsInMore
import Derived.LoopNIn
import Derived.LoopIn


import Derived.Test.YtcgdlhkiecommaaGreatDoorXRef3



import Derived.Test.YtcgdlhkiecommaaGreatDoorLRef




/- logic.Text: bits as a string. -/















set_option linter.unusedVariables false
set_option linter.all false
namespace Go.Proofs.YtcgdlhkiecommaaGreatDoor
open Go Go.RowKit Go.Shelf
attribute [local go_sem] Oper.semAt_some
end Go.Proofs.YtcgdlhkiecommaaGreatDoor
/- A fault has a code. -/

namespace Go.Proofs.YtcgdlhkiecommaaGreatDoor
open Go
section
variable {l : List Tk}
end
end Go.Proofs.YtcgdlhkiecommaaGreatDoor
/- What few parts are, for what is written: tokens, depth, names; the reference's answers are the program's. -/


namespace Go.Proofs.YtcgdlhkiecommaaGreatDoor
open Go
end Go.Proofs.YtcgdlhkiecommaaGreatDoor
/- What is read of the first tokens alone is the same. -/

namespace Go.Proofs.YtcgdlhkiecommaaGreatDoor
open Go
section
variable {l : List Tk} {n : Nat}
end
end Go.Proofs.YtcgdlhkiecommaaGreatDoor
/- What is read is valid, and is written with tokens that were read. -/


namespace Go.Proofs.YtcgdlhkiecommaaGreatDoor
open Go
def seg (l : List Tk) (i j : Nat) : List (Int × Bs × Int) := ((l.map tkey).drop i).take (j - i)
theorem seg_app {l : List Tk} {i j k : Nat} (h1 : i ≤ j) (h2 : j ≤ k) : seg l i j ++ seg l j k = seg l i k := by
  have e : k - i = (j - i) + (k - j) := by omega
  rw [seg, seg, seg, e, List.take_add, List.drop_drop, show i + (j - i) = j by omega]
theorem seg_one {l : List Tk} {i : Nat} (h : i < l.length) : seg l i (i + 1) = [tkey (tokAt l i)] := by
  have e : l.drop i = tokAt l i :: l.drop (i + 1) := by
    rw [List.drop_eq_getElem_cons h, tokAt, List.getD_eq_getElem?_getD, List.getElem?_eq_getElem h]; rfl
  rw [seg, show i + 1 - i = 1 by omega, ← List.map_drop, e]; rfl
def Sb (l : List Tk) (ts : List Tk) (i j : Nat) : Prop := i ≤ j ∧ (ts.map tkey).Sublist (seg l i j)
section
variable {l : List Tk}
theorem sb_app {a b : List Tk} {i j k : Nat} (h1 : Sb l a i j) (h2 : Sb l b j k) : Sb l (a ++ b) i k :=
  ⟨Nat.le_trans h1.1 h2.1, by rw [List.map_append, ← seg_app h1.1 h2.1]; exact h1.2.append h2.2⟩
theorem sb_one {t : Tk} {i : Nat} (h : i < l.length) (hk : tkey t = tkey (tokAt l i)) : Sb l [t] i (i + 1) :=
  ⟨by omega, by rw [seg_one h, List.map_cons, List.map_nil, hk]; exact List.Sublist.refl _⟩
theorem sb_cons {t : Tk} {b : List Tk} {i k : Nat} (h : i < l.length) (hk : tkey t = tkey (tokAt l i)) (h2 : Sb l b (i + 1) k) : Sb l (t :: b) i k := sb_app (sb_one h hk) h2
theorem sb_nil {i j : Nat} (h : i ≤ j) : Sb l [] i j := ⟨h, by simp⟩
theorem sb_skip {b : List Tk} {i j k : Nat} (h : i ≤ j) (h2 : Sb l b j k) : Sb l b i k := sb_app (sb_nil h) h2
theorem sb_more {b : List Tk} {i j k : Nat} (h : j ≤ k) (h2 : Sb l b i j) : Sb l b i k := by
  have := sb_app h2 (sb_nil (l := l) h)
  rwa [List.append_nil] at this
theorem sb_sub {a b : List Tk} {i j : Nat} (h : a.Sublist b) (h2 : Sb l b i j) : Sb l a i j := ⟨h2.1, (h.map tkey).trans h2.2⟩
def Wr (l : List Tk) : Prop := ∀ i, i < l.length → possT (tokAt l i) = true
theorem key_S {t : Tk} (h : possT t = true) (ho : t.op = 2 ∨ t.op = 7) : tkey (tkS t.text) = tkey t := by
  have key : (signsL.all fun x => !(isWordL x)) = true := by decide +kernel
  rcases ho with ho | ho
  · rw [possT, ho] at h
    simp only [show ((2 : Int) == 1) = false from rfl, show ((2 : Int) == 2) = true from rfl, cond_true, cond_false, Bool.and_eq_true, beq_iff_eq] at h
    rw [tkey, tkey, ho, h.1, tkS, h.2]; rfl
  · rw [possT, ho] at h
    simp only [show ((7 : Int) == 1) = false from rfl, show ((7 : Int) == 2) = false from rfl, show ((7 : Int) == 3) = false from rfl, show ((7 : Int) == 4) = false from rfl, show ((7 : Int) == 5) = false from rfl, show ((7 : Int) == 6) = false from rfl, show ((7 : Int) == 7) = true from rfl, cond_true, cond_false, Bool.and_eq_true, beq_iff_eq] at h
    have hw := List.all_eq_true.1 key _ (List.contains_iff_mem.1 h.2)
    rw [Bool.not_eq_true'] at hw
    rw [tkey, tkey, ho, h.1, tkS, hw]; rfl
theorem isAt_key (hw : Wr l) {ts : List Bs} {i : Nat} (h : isAt l ts i = true) : i < l.length ∧ tkey (tkS (tokAt l i).text) = tkey (tokAt l i) ∧ ts.contains (tokAt l i).text = true := by
  have hi := isAt_lt h
  rw [isAt, Bool.and_eq_true, Bool.or_eq_true, beq_iff_eq, beq_iff_eq] at h
  exact ⟨hi, key_S (hw i hi) h.1, h.2⟩
theorem isAt_one (hw : Wr l) {s : Bs} {i : Nat} (h : isAt l [s] i = true) : i < l.length ∧ tkey (tkS s) = tkey (tokAt l i) := by
  obtain ⟨h1, h2, h3⟩ := isAt_key hw h
  have : (tokAt l i).text = s := by simpa using h3
  rw [← this]; exact ⟨h1, h2⟩
theorem szE_of {e : Ex} (h1 : e.name.length ≤ 1000000000) (h2 : e.bits.length ≤ 1000000000) (h3 : e.kids.length ≤ 1000000000) (h4 : ∀ x ∈ e.bits, 0 ≤ x) (h5 : ∀ k ∈ e.kids, szE k = true) : szE e = true := by
  have hl : ∀ l : List Ex, (∀ k ∈ l, szE k = true) → szEs l = true := by
    intro l
    induction l with
    | nil => intro _; rfl
    | cons a l ih => intro h; rw [szEs, h a (by simp), ih fun k hk => h k (by simp [hk])]; rfl
  cases e with
  | mk o s n b v k t l c =>
    rw [szE, hl k h5]
    have h1 : s.length ≤ 1000000000 := h1
    have h2 : b.length ≤ 1000000000 := h2
    have h3 : k.length ≤ 1000000000 := h3
    have h4 : b.all (fun x => decide (0 ≤ x)) = true := List.all_eq_true.2 (fun x hx => decide_eq_true (h4 x hx))
    rw [decide_eq_true h1, decide_eq_true h2, decide_eq_true h3, h4]; rfl
structure Gd (l : List Tk) (d k : Nat) (e : Ex) (i j : Nat) : Prop where
  f : formP e = true
  z : szE e = true
  m : smE e = true
  dp : kidDp e (k : Int) ≤ d
  sb : Sb l (kidTk e (k : Int)) i j
  h : height e + 1 ≤ j - i
theorem sub_br (t : List Tk) : t.Sublist (inBr t) := (List.sublist_append_left t _).trans (List.sublist_cons_self _ _)
theorem Gd.down {d k k' i j : Nat} {e : Ex} (g : Gd l d k' e i j) (hk : k ≤ k') : Gd l d k e i j := by
  refine ⟨g.f, g.z, g.m, ?_, ?_, g.h⟩
  · have := g.dp
    rw [kidDp] at this ⊢
    split <;> split at this <;> omega
  · have := g.sb
    rw [kidTk] at this ⊢
    split
    · rw [if_pos (by omega)] at this; exact this
    · split at this
      · exact sb_sub (sub_br _) this
      · exact this
theorem Gd.tk0 {d i j : Nat} {e : Ex} (g : Gd l d 0 e i j) : Sb l (toks e) i j ∧ dep e ≤ d := by
  have h1 := g.sb
  have h2 := g.dp
  have := tight g.f
  rw [show ((0 : Nat) : Int) = 0 from rfl, this.1] at h1
  rw [show ((0 : Nat) : Int) = 0 from rfl, this.2] at h2
  exact ⟨h1, h2⟩
theorem sb_br (hw : Wr l) {t : List Tk} {i j : Nat} (ho : isAt l [sOpen] i = true) (h : Sb l t (i + 1) j) (hs : isAt l [sShut] j = true) : Sb l (inBr t) i (j + 1) := by
  obtain ⟨a1, a2⟩ := isAt_one hw ho
  obtain ⟨b1, b2⟩ := isAt_one hw hs
  exact sb_cons a1 a2 (sb_app h (sb_one b1 b2))
theorem Gd.br (hw : Wr l) {d i j : Nat} {e : Ex} (ho : isAt l [sOpen] i = true) (hd : d ≠ 0) (g : Gd l (d - 1) 0 e (i + 1) j) (hs : isAt l [sShut] j = true) : Gd l d 5 e i (j + 1) := by
  obtain ⟨t1, t2⟩ := g.tk0
  refine ⟨g.f, g.z, g.m, ?_, ?_, by have := g.h; omega⟩
  · rw [kidDp]; split <;> omega
  · rw [kidTk]; split
    · exact sb_br hw ho t1 hs
    · exact sb_skip (Nat.le_succ i) (sb_more (Nat.le_succ j) t1)
theorem gd_leaf {d k i : Nat} {e : Ex} {t : Tk} (hf : formP e = true) (hz : szE e = true) (hm : smE e = true) (hb : bindsP e = 5) (ht : toks e = [t]) (hd : dep e = 0) (hi : i < l.length) (hk : tkey t = tkey (tokAt l i)) (hh : e.kids = []) (hk5 : k ≤ 5) : Gd l d k e i (i + 1) := by
  refine ⟨hf, hz, hm, ?_, ?_, by rw [height_eq, hh]; simp [heights]⟩
  · rw [kidDp, if_neg (by omega), hd]; omega
  · rw [kidTk, if_neg (by omega), ht]; exact sb_one hi hk
theorem name_len {s : Bs} (h : isNameL s = true) : s.length ≤ 40 := by
  simp only [isNameL, Bool.and_eq_true, decide_eq_true_eq] at h; exact h.2.1
theorem lev_str {s : Bs} {k : Nat} (hk : k < 4) (h : (levelL k).contains s = true) : strengthI s = (k : Int) ∧ isNameL s = false ∧ s.length ≤ 40 := by
  have key : (levelsL.flatten.all fun x => (decide (x.length ≤ 40) && !(isNameL x)) && (List.range 4).all fun q => (levelL q).contains x == (strengthI x == (q : Int))) = true := by decide +kernel
  have hm : s ∈ levelsL.flatten := by
    rw [List.contains_iff_mem] at h
    refine List.mem_flatten.2 ⟨levelL k, ?_, h⟩
    have : k = 0 ∨ k = 1 ∨ k = 2 ∨ k = 3 := by omega
    rcases this with rfl | rfl | rfl | rfl <;> simp [levelL, levelsL]
  have h1 := List.all_eq_true.1 key s hm
  rw [Bool.and_eq_true, Bool.and_eq_true, Bool.not_eq_true', decide_eq_true_eq, List.all_eq_true] at h1
  have := h1.2 k (List.mem_range.2 hk)
  rw [h, beq_iff_eq] at this
  exact ⟨by simpa using this.symm, h1.1.2, h1.1.1⟩
theorem all2 {p : Ex → Prop} {a b : Ex} (h1 : p a) (h2 : p b) : ∀ k ∈ [a, b], p k := by
  intro k hk; simp only [List.mem_cons, List.not_mem_nil, or_false] at hk; rcases hk with rfl | rfl <;> assumption
theorem all3 {p : Ex → Prop} {a b c : Ex} (h1 : p a) (h2 : p b) (h3 : p c) : ∀ k ∈ [a, b, c], p k := by
  intro k hk; simp only [List.mem_cons, List.not_mem_nil, or_false] at hk; rcases hk with rfl | rfl | rfl <;> assumption
theorem form_of {e : Ex} (h1 : headR e = false) (h2 : ∀ k ∈ e.kids, formP k = true) (h3 : tailR e = true) : formP e = true := by
  rw [formH, h1, List.all_eq_true.2 h2, h3]; rfl
theorem gd_bin (hw : Wr l) {d k i j m : Nat} {a b : Ex} {t : Tk} (hk : k < 4) (ga : Gd l d (if k = 1 then 2 else k) a i j) (hat : isAt l (levelL k) j = true) (gb : Gd l d (k + 1) b (j + 1) m) :
    Gd l d k (mkE 5 (tokAt l j).text 0 [] [a, b] t) i m := by
  obtain ⟨a1, a2, a3⟩ := isAt_key hw hat
  obtain ⟨s1, s2, s3⟩ := lev_str hk a3
  have hb : bindsP (mkE 5 (tokAt l j).text 0 [] [a, b] t) = (k : Int) := (binds_binary (e := mkE 5 (tokAt l j).text 0 [] [a, b] t) rfl s2 rfl).trans s1
  have hlf : leftP (k : Int) = ((if k = 1 then 2 else k : Nat) : Int) := by
    by_cases h : k = 1
    · rw [h]; rfl
    · rw [leftP, show ((k : Int) == 1) = false by simp; omega, if_neg h]; rfl
  obtain ⟨t1, t2⟩ := toks_two (e := mkE 5 (tokAt l j).text 0 [] [a, b] t) rfl rfl rfl rfl rfl rfl (by rw [hb]; simp; omega) (by rw [hb]; simp; omega) rfl
  rw [hb, hlf] at t1 t2
  have ga1 := ga.h
  have gb1 := gb.h
  refine ⟨form_of rfl (all2 ga.f gb.f) ?_, szE_of (by show (tokAt l j).text.length ≤ _; omega) (by simp [mkE, Ex.bits]) (by simp [mkE, Ex.kids]) (by intro x hx; simp [mkE, Ex.bits] at hx) (all2 ga.z gb.z), smE_of (by show (tokAt l j).text.length ≤ _; omega) (by simp [mkE, Ex.bits]) (all2 ga.m gb.m), ?_, ?_, ?_⟩
  · show (operR (tokAt l j).text 2 || _) = true
    rw [operR, strR_pos, s1, decide_eq_true (show (k : Int) ≥ 0 by omega)]; rfl
  · rw [kidDp, if_neg (by omega), t2]
    exact Nat.max_le.2 ⟨ga.dp, gb.dp⟩
  · rw [kidTk, if_neg (by omega), t1]
    exact sb_app ga.sb (sb_cons a1 a2 gb.sb)
  · rw [height_eq]
    show max (height a + 1) (max (height b + 1) 0) + 1 ≤ m - i
    have g1 := ga.sb.1
    have g2 := gb.sb.1
    omega
theorem gd_un (hw : Wr l) {d i j : Nat} {a : Ex} {t : Tk} (hat : isAt l [sNot, sMinus] i = true) (hd : d ≠ 0) (ga : Gd l (d - 1) 4 a (i + 1) j) : Gd l d 4 (mkE 5 (tokAt l i).text 0 [] [a] t) i j := by
  obtain ⟨a1, a2, a3⟩ := isAt_key hw hat
  have hs : (tokAt l i).text = sNot ∨ (tokAt l i).text = sMinus := by simpa using a3
  have s2 : isNameL (tokAt l i).text = false := by rcases hs with h | h <;> rw [h] <;> decide +kernel
  have s3 : (tokAt l i).text.length ≤ 40 := by rcases hs with h | h <;> rw [h] <;> decide
  have hb : bindsP (mkE 5 (tokAt l i).text 0 [] [a] t) = 4 := binds_unary (e := mkE 5 (tokAt l i).text 0 [] [a] t) rfl s2 rfl
  obtain ⟨t1, t2⟩ := toks_one (e := mkE 5 (tokAt l i).text 0 [] [a] t) rfl rfl rfl rfl rfl rfl (by rw [hb]; rfl) (by rw [hb]; rfl) rfl
  have ga1 := ga.h
  have h1 : ∀ {p : Ex → Prop}, p a → ∀ k ∈ [a], p k := fun h k hk => by rw [List.mem_singleton.1 hk]; exact h
  refine ⟨form_of rfl (h1 ga.f) ?_, szE_of (by show (tokAt l i).text.length ≤ _; omega) (by simp [mkE, Ex.bits]) (by simp [mkE, Ex.kids]) (by intro x hx; simp [mkE, Ex.bits] at hx) (h1 ga.z), smE_of (by show (tokAt l i).text.length ≤ _; omega) (by simp [mkE, Ex.bits]) (h1 ga.m), ?_, ?_, ?_⟩
  · show (operR (tokAt l i).text 1 || _) = true
    rw [operR]
    rcases hs with h | h <;> rw [h] <;> simp
  · rw [kidDp, if_neg (by rw [hb]; decide), t2]
    have : kidDp a ((4 : Nat) : Int) ≤ d - 1 := ga.dp
    have e4 : kidDp ((mkE 5 (tokAt l i).text 0 [] [a] t).kids.getD 0 default) 4 = kidDp a ((4 : Nat) : Int) := rfl
    rw [e4]; omega
  · rw [kidTk, if_neg (by rw [hb]; decide), t1]
    exact sb_cons a1 a2 ga.sb
  · rw [height_eq]
    show max (height a + 1) 0 + 1 ≤ j - i
    have g1 := ga.sb.1
    omega
theorem gd_idx (hw : Wr l) {d i j m : Nat} {e x : Ex} {t : Tk} (ge : Gd l d 5 e i j) (h4 : e.op ≠ 4) (ho : isAt l [sOpen] j = true) (hd : d ≠ 0) (gx : Gd l (d - 1) 0 x (j + 1) m) (hs : isAt l [sShut] m = true) : Gd l d 5 (mkE 6 [] 0 [] [e, x] t) i (m + 1) := by
  have hb : bindsP (mkE 6 [] 0 [] [e, x] t) = 5 := binds_not5 (by simp [mkE, Ex.op])
  obtain ⟨t1, t2⟩ := toks_index (e := mkE 6 [] 0 [] [e, x] t) rfl rfl rfl rfl rfl rfl
  obtain ⟨x1, x2⟩ := gx.tk0
  have g1 := ge.h
  have g2 := gx.h
  refine ⟨form_of rfl (all2 ge.f gx.f) ?_, szE_of (by simp [mkE, Ex.name]) (by simp [mkE, Ex.bits]) (by simp [mkE, Ex.kids]) (by intro x hx; simp [mkE, Ex.bits] at hx) (all2 ge.z gx.z), smE_of (by simp [mkE, Ex.name]) (by simp [mkE, Ex.bits]) (all2 ge.m gx.m), ?_, ?_, ?_⟩
  · show (((2 : Int) == 2) && (e.op != 4)) = true
    simpa using h4
  · rw [kidDp, if_neg (by rw [hb]; decide), t2]
    have := ge.dp
    exact Nat.max_le.2 ⟨this, by show dep x + 1 ≤ d; omega⟩
  · rw [kidTk, if_neg (by rw [hb]; decide), t1]
    exact sb_app ge.sb (sb_br hw ho x1 hs)
  · rw [height_eq]
    show max (height e + 1) (max (height x + 1) 0) + 1 ≤ m + 1 - i
    have := ge.sb.1
    have := gx.sb.1
    omega
theorem gd_slc (hw : Wr l) {d i j m q : Nat} {e hi lo : Ex} {t : Tk} (ge : Gd l d 5 e i j) (ho : isAt l [sOpen] j = true) (hd : d ≠ 0) (gh : Gd l (d - 1) 0 hi (j + 1) m) (hdn : isAt l [sDownto] m = true) (gl : Gd l (d - 1) 0 lo (m + 1) q) (hs : isAt l [sShut] q = true) : Gd l d 5 (mkE 7 [] 0 [] [e, hi, lo] t) i (q + 1) := by
  have hb : bindsP (mkE 7 [] 0 [] [e, hi, lo] t) = 5 := binds_not5 (by simp [mkE, Ex.op])
  obtain ⟨t1, t2⟩ := toks_slice (e := mkE 7 [] 0 [] [e, hi, lo] t) rfl rfl rfl rfl rfl rfl rfl
  obtain ⟨x1, x2⟩ := gh.tk0
  obtain ⟨y1, y2⟩ := gl.tk0
  obtain ⟨d1, d2⟩ := isAt_one hw hdn
  have g1 := ge.h
  have g2 := gh.h
  have g3 := gl.h
  refine ⟨form_of rfl (all3 ge.f gh.f gl.f) rfl, szE_of (by simp [mkE, Ex.name]) (by simp [mkE, Ex.bits]) (by simp [mkE, Ex.kids]) (by intro x hx; simp [mkE, Ex.bits] at hx) (all3 ge.z gh.z gl.z), smE_of (by simp [mkE, Ex.name]) (by simp [mkE, Ex.bits]) (all3 ge.m gh.m gl.m), ?_, ?_, ?_⟩
  · rw [kidDp, if_neg (by rw [hb]; decide), t2]
    have := ge.dp
    exact Nat.max_le.2 ⟨this, by show max (dep hi) (max (dep lo) 0) + 1 ≤ d; omega⟩
  · rw [kidTk, if_neg (by rw [hb]; decide), t1]
    exact sb_app ge.sb (sb_br hw ho (t := toks hi ++ (tkS sDownto :: toks lo)) (sb_app x1 (sb_cons d1 d2 y1)) hs)
  · rw [height_eq]
    show max (height e + 1) (max (height hi + 1) (max (height lo + 1) 0)) + 1 ≤ q + 1 - i
    have := ge.sb.1
    have := gh.sb.1
    have := gl.sb.1
    omega
structure Ga (l : List Tk) (d : Nat) (kids : List Ex) (i j : Nat) : Prop where
  n : kids ≠ []
  sb : Sb l (sepT sComma (kids.map toks)) i j
  k : ∀ k ∈ kids, formP k = true ∧ szE k = true ∧ smE k = true ∧ dep k ≤ d ∧ height k + 1 ≤ j - i
theorem ga_one {d i j : Nat} {e : Ex} (g : Gd l d 0 e i j) : Ga l d [e] i j :=
  ⟨by simp, g.tk0.1, fun k hk => by rw [List.mem_singleton.1 hk]; exact ⟨g.f, g.z, g.m, g.tk0.2, g.h⟩⟩
theorem ga_more (hw : Wr l) {d i j m : Nat} {kids : List Ex} {e : Ex} (h : Ga l d kids i j) (hc : isAt l [sComma] j = true) (g : Gd l d 0 e (j + 1) m) : Ga l d (kids ++ [e]) i m := by
  obtain ⟨c1, c2⟩ := isAt_one hw hc
  have g1 := g.sb.1
  have g2 := h.sb.1
  have g3 := g.h
  refine ⟨by simp, ?_, fun k hk => ?_⟩
  · rw [List.map_append, List.map_cons, List.map_nil, sep_snoc _ _ _ (by have := h.n; simpa using this)]
    exact sb_app h.sb (sb_cons c1 c2 g.tk0.1)
  · rcases List.mem_append.1 hk with hk | hk
    · obtain ⟨k1, k2, k3, k4, k5⟩ := h.k k hk
      exact ⟨k1, k2, k3, k4, by omega⟩
    · rw [List.mem_singleton.1 hk]; exact ⟨g.f, g.z, g.m, g.tk0.2, by omega⟩
theorem maxL_bound {ds : List Nat} {n : Nat} (h : ∀ x ∈ ds, x ≤ n) : maxL ds ≤ n := by
  induction ds with
  | nil => exact Nat.zero_le _
  | cons a r ih => exact Nat.max_le.2 ⟨h a (by simp), ih fun x hx => h x (by simp [hx])⟩
theorem gd_call (hw : Wr l) {d i j m : Nat} {s : Bs} {kids : List Ex} {li co : Int} (hs : Sb l [tkN s] i j) (hn : isNameL s = true) (hij : i < j) (ho : isAt l [sOpen] j = true) (hd : d ≠ 0) (ga : Ga l (d - 1) kids (j + 1) m) (hl : kids.length ≤ 20) (hsh : isAt l [sShut] m = true) :
    Gd l d 5 (.mk 5 s 0 [] va0 kids ty0 li co) i (m + 1) := by
  have hb : bindsP (.mk 5 s 0 [] va0 kids ty0 li co) = 5 := binds_call (e := .mk 5 s 0 [] va0 kids ty0 li co) rfl hn
  obtain ⟨t1, t2⟩ := toks_call (e := .mk 5 s 0 [] va0 kids ty0 li co) rfl rfl rfl rfl rfl rfl (by rw [hb]; rfl)
  have hkl : 1 ≤ kids.length := List.length_pos_iff.2 ga.n
  have hlen := name_len hn
  have gsb := ga.sb.1
  refine ⟨form_of rfl (fun k hk => (ga.k k hk).1) ?_, szE_of (by show s.length ≤ _; omega) (by simp [Ex.bits]) (by show kids.length ≤ _; omega) (by intro x hx; simp [Ex.bits] at hx) (fun k hk => (ga.k k hk).2.1), smE_of (by show s.length ≤ _; omega) (by simp [Ex.bits]) (fun k hk => (ga.k k hk).2.2.1), ?_, ?_, ?_⟩
  · show (operR s (kids.length : Int) || ((isNameL s && decide ((kids.length : Int) ≥ 1)) && decide ((kids.length : Int) ≤ 20))) = true
    rw [hn, decide_eq_true (by omega), decide_eq_true (by omega)]; simp
  · rw [kidDp, if_neg (by rw [hb]; decide), t2]
    have : maxL (kids.map dep) ≤ d - 1 := maxL_bound fun x hx => by
      obtain ⟨k, hk, rfl⟩ := List.mem_map.1 hx
      exact (ga.k k hk).2.2.2.1
    show maxL (kids.map dep) + 1 ≤ d
    omega
  · rw [kidTk, if_neg (by rw [hb]; decide), t1]
    exact sb_app hs (sb_br hw ho ga.sb hsh)
  · rw [height_eq]
    have : heights kids ≤ m - (j + 1) := heights_le fun k hk => (ga.k k hk).2.2.2.2
    show heights kids + 1 ≤ m + 1 - i
    omega
end
end Go.Proofs.YtcgdlhkiecommaaGreatDoor
/- What is read is valid: all ways to read. -/

namespace Go.Proofs.YtcgdlhkiecommaaGreatDoor
open Go
section
variable {l : List Tk}
theorem row_none {m i j : Nat} {g : Flt} {e : Ex} : rowP l (fun _ => .bad g) m i ≠ .ok e j := by
  induction m generalizing e j with
  | zero => intro h; cases h
  | succ m ih =>
    intro h
    rw [rowP] at h
    cases hx : rowP l (fun _ => .bad g) m i with
    | bad g => rw [hx] at h; cases h
    | ok e2 j2 => exact ih hx
def In (l : List Tk) (d : Nat) (inner : Nat → Rd Ex) : Prop := ∀ i e j, inner i = .ok e j → d ≠ 0 ∧ Gd l (d - 1) 0 e i j
theorem gd_loop (hw : Wr l) {nxt : Nat → Rd Ex} (hn : ∀ i, (nxt i).gt i l.length) {d k : Nat} (hk : k < 4) (hx : ∀ i e j, nxt i = .ok e j → Gd l d (k + 1) e i j) {i0 : Nat} : ∀ (f : Nat) (e0 : Ex) (i : Nat) (e : Ex) (j : Nat), i ≤ l.length → Gd l d (if k = 1 then 2 else k) e0 i0 i → rowLoop l nxt k f e0 i = .ok e j → Gd l d k e i0 j := by
  have hdn : ∀ {e i}, Gd l d (if k = 1 then 2 else k) e i0 i → Gd l d k e i0 i := fun g => g.down (by split <;> omega)
  intro f
  induction f with
  | zero => intro e0 i e j _ g h; rw [rowLoop] at h; cases h; exact hdn g
  | succ f ih =>
    intro e0 i e j hi g h
    rw [rowLoop] at h
    split at h
    · rename_i hat
      cases hy : nxt (i + 1) with
      | bad g => rw [hy] at h; cases h
      | ok e2 j2 =>
        rw [hy] at h
        simp only at h
        have g2 := gd_bin (t := tokAt l i) hw hk g hat (hx _ _ _ hy)
        split at h
        · cases h; exact g2
        · rename_i hk1
          exact ih _ j2 e j (hn _ _ _ hy).2 (by rw [if_neg hk1]; exact g2) h
    · cases h; exact hdn g
theorem gd_row (hw : Wr l) {fac : Nat → Rd Ex} (hn : ∀ i, (fac i).gt i l.length) {d : Nat} (hx : ∀ i e j, fac i = .ok e j → Gd l d 4 e i j) : ∀ m, m ≤ 4 → ∀ i e j, rowP l fac m i = .ok e j → Gd l d (4 - m) e i j := by
  intro m
  induction m with
  | zero => intro _; exact hx
  | succ m ih =>
    intro hm i e j h
    rw [rowP] at h
    cases hy : rowP l fac m i with
    | bad g => rw [hy] at h; cases h
    | ok e2 j2 =>
      rw [hy] at h
      simp only at h
      have g := ih (by omega) _ _ _ hy
      rw [show 4 - (m + 1) = 3 - m by omega]
      refine gd_loop hw (row_gt hn m) (k := 3 - m) (by omega) (fun i e j h => by rw [show 3 - m + 1 = 4 - m by omega]; exact ih (by omega) i e j h) _ e2 j2 e j (row_gt hn m _ _ _ hy).2 (g.down (by split <;> omega)) h
theorem gd_slice (hw : Wr l) {d : Nat} {inner : Nat → Rd Ex} (hin : In l d inner) {e hi : Ex} {t : Tk} {i j m q : Nat} {x : Ex} (ge : Gd l d 5 e i j) (ho : isAt l [sOpen] j = true) (gh : Gd l (d - 1) 0 hi (j + 1) m) (h : sliceP l inner e hi t m = .ok x q) : Gd l d 5 x i q := by
  rw [sliceP] at h
  cases h1 : wantP l sDownto m with
  | bad g => rw [h1] at h; cases h
  | ok u j1 =>
    rw [h1] at h; simp only at h
    obtain ⟨rfl, a1⟩ := want_ok h1
    cases h2 : inner (m + 1) with
    | bad g => rw [h2] at h; cases h
    | ok lo k =>
      rw [h2] at h; simp only at h
      obtain ⟨hd, gl⟩ := hin _ _ _ h2
      cases h3 : wantP l sShut k with
      | bad g => rw [h3] at h; cases h
      | ok u j3 =>
        rw [h3] at h; simp only at h
        obtain ⟨rfl, a3⟩ := want_ok h3
        cases h
        exact gd_slc hw ge ho hd gh a1 gl a3
theorem gd_part (hw : Wr l) {d : Nat} {inner : Nat → Rd Ex} (hin : In l d inner) {e : Ex} {i j m : Nat} {x : Ex} (ge : Gd l d 5 e i j) (h : partP l d inner e j = .ok x m) : Gd l d 5 x i m := by
  rw [partP] at h
  cases h1 : openP l d j with
  | bad g => rw [h1] at h; cases h
  | ok u j1 =>
    rw [h1] at h; simp only at h
    obtain ⟨hd, rfl, ho⟩ := open_ok h1
    cases h2 : inner (j + 1) with
    | bad g => rw [h2] at h; cases h
    | ok first k =>
      rw [h2] at h; simp only at h
      obtain ⟨_, gf⟩ := hin _ _ _ h2
      split at h
      · exact gd_slice hw hin ge ho gf h
      · cases h3 : wantP l sShut k with
        | bad g => rw [h3] at h; cases h
        | ok u j3 =>
          rw [h3] at h; simp only at h
          obtain ⟨rfl, a3⟩ := want_ok h3
          cases h
          rw [partE]
          split
          · rename_i h4
            have h4' : e.op = 4 := by simpa using h4
            have hT := form_op ge.f
            rw [tailR, h4'] at hT
            simp only [show ((4 : Int) == 1) = false from rfl, show ((4 : Int) == 2) = false from rfl, show ((4 : Int) == 3) = false from rfl, show ((4 : Int) == 4) = true from rfl, cond_true, cond_false, Bool.and_eq_true] at hT
            have hs := ge.sb
            rw [kidTk, if_neg (by rw [binds_not5 (by omega)]; decide), (toks_name (by rw [h4']; rfl) (by rw [h4']; rfl) (by rw [h4']; rfl) (by rw [h4']; rfl)).1] at hs
            have := ge.h
            exact gd_call hw hs hT.1 (by omega) ho hd (ga_one gf) (by simp) a3
          · rename_i h4
            exact gd_idx hw ge (by simpa using h4) ho hd gf a3
theorem gd_parts (hw : Wr l) {d : Nat} {inner : Nat → Rd Ex} (hin : In l d inner) {i : Nat} : ∀ (f : Nat) (e0 : Ex) (j : Nat) (e : Ex) (m : Nat), Gd l d 5 e0 i j → partsP l d inner f e0 j = .ok e m → Gd l d 5 e i m := by
  intro f
  induction f with
  | zero => intro e0 j e m g h; rw [partsP] at h; cases h; exact g
  | succ f ih =>
    intro e0 j e m g h
    rw [partsP] at h
    split at h
    · cases hy : partP l d inner e0 j with
      | bad g => rw [hy] at h; cases h
      | ok e2 j2 =>
        rw [hy] at h; simp only at h
        exact ih _ _ _ _ (gd_part hw hin g hy) h
    · cases h; exact g
theorem ga_args (hw : Wr l) {d : Nat} {inner : Nat → Rd Ex} (hin : In l d inner) {i : Nat} : ∀ (f : Nat) (ks : List Ex) (j : Nat) (x : List Ex) (m : Nat), Ga l (d - 1) ks i j → argsP l inner f ks j = .ok x m → Ga l (d - 1) x i m ∧ x.length ≤ ks.length + f := by
  intro f
  induction f with
  | zero =>
    intro ks j x m g h
    rw [argsP] at h
    split at h
    · cases h
    · cases h; exact ⟨g, Nat.le_refl _⟩
  | succ f ih =>
    intro ks j x m g h
    rw [argsP] at h
    split at h
    · rename_i hc
      cases hy : inner (j + 1) with
      | bad g => rw [hy] at h; cases h
      | ok e2 j2 =>
        rw [hy] at h; simp only at h
        obtain ⟨g1, g2⟩ := ih _ _ _ _ (ga_more hw g hc (hin _ _ _ hy).2) h
        refine ⟨g1, ?_⟩
        rw [List.length_append] at g2; simp only [List.length_cons, List.length_nil] at g2; omega
    · cases h; exact ⟨g, by omega⟩
theorem name_at (hw : Wr l) {i : Nat} (h : ((tokAt l i).op == 1) = true) : i < l.length ∧ isNameL (tokAt l i).text = true ∧ tkey (tkN (tokAt l i).text) = tkey (tokAt l i) := by
  have hi := op_lt (l := l) (i := i) (k := 1) (by simpa using h) (by decide)
  have hp := hw i hi
  rw [possT, h, cond_true, Bool.and_eq_true, beq_iff_eq] at hp
  rw [beq_iff_eq] at h
  exact ⟨hi, hp.2, by rw [tkey, tkey, h, hp.1]; rfl⟩
theorem gd_name (hw : Wr l) {d k i : Nat} {t : Tk} (h : ((tokAt l i).op == 1) = true) (hk : k ≤ 5) : Gd l d k (mkE 4 (tokAt l i).text 0 [] [] t) i (i + 1) := by
  obtain ⟨a1, a2, a3⟩ := name_at hw h
  have hl := name_len a2
  have := toks_name (e := mkE 4 (tokAt l i).text 0 [] [] t) rfl rfl rfl rfl
  refine gd_leaf (t := tkN (tokAt l i).text) (form_of rfl (by intro k hk; cases hk) ?_) (szE_of (by show (tokAt l i).text.length ≤ _; omega) (by simp [mkE, Ex.bits]) (by simp [mkE, Ex.kids]) (by intro x hx; simp [mkE, Ex.bits] at hx) (by intro k hk; cases hk)) (smE_of (by show (tokAt l i).text.length ≤ _; omega) (by simp [mkE, Ex.bits]) (by intro k hk; cases hk)) (binds_not5 (by simp [mkE, Ex.op])) this.1 this.2 a1 a3 rfl hk
  show (isNameL (tokAt l i).text && ((0 : Int) == 0)) = true
  rw [a2]; rfl
theorem gd_named (hw : Wr l) {d : Nat} {inner : Nat → Rd Ex} (hin : In l d inner) {i m : Nat} {x : Ex} (h : namedP l d inner i = .ok x m) : Gd l d 5 x i m := by
  rw [namedP] at h
  split at h
  · rename_i h1
    obtain ⟨a1, a2, a3⟩ := name_at hw h1
    split at h
    · rename_i ho
      cases hp : openP l d (i + 1) with
      | bad g => rw [hp] at h; cases h
      | ok u j1 =>
        rw [hp] at h; simp only at h
        obtain ⟨hd, rfl, _⟩ := open_ok hp
        cases h2 : inner (i + 1 + 1) with
        | bad g => rw [h2] at h; cases h
        | ok first k =>
          rw [h2] at h; simp only at h
          obtain ⟨_, gf⟩ := hin _ _ _ h2
          split at h
          · exact gd_slice hw hin (gd_name hw h1 (Nat.le_refl 5)) ho gf h
          · cases h5 : argsP l inner 19 [first] k with
            | bad g => rw [h5] at h; cases h
            | ok ks m2 =>
              rw [h5] at h; simp only at h
              obtain ⟨g1, g2⟩ := ga_args hw hin _ _ _ _ _ (ga_one gf) h5
              cases h3 : wantP l sShut m2 with
              | bad g => rw [h3] at h; cases h
              | ok u j3 =>
                rw [h3] at h; simp only at h
                obtain ⟨rfl, a5⟩ := want_ok h3
                cases h
                exact gd_call hw (sb_one a1 a3) a2 (by omega) ho hd g1 (by simpa using g2) a5
    · cases h; exact gd_name hw h1 (Nat.le_refl 5)
  · cases h
theorem vec_bits {s : Bs} (h : isVecL s = true) : isBits (parseBits s) = true ∧ (∀ x ∈ parseBits s, 0 ≤ x) ∧ bitsT (parseBits s) = s ∧ (parseBits s).length = s.length ∧ s.length ≤ 64 := by
  have hp : parseBits s = (s.map bitCode).reverse := by rw [parseBits, h]; rfl
  have h0 := h
  simp only [isVecL, Bool.and_eq_true, decide_eq_true_eq, Bool.not_eq_true'] at h
  obtain ⟨h1, h2, h3⟩ := h
  have hb : ∀ c ∈ s, 0 ≤ bitCode c ∧ bitCode c ≤ 3 ∧ bitC (bitCode c) = c := by
    intro c hc
    have := List.all_eq_true.1 h3 c hc
    simp only [isBitC, Bool.or_eq_true, beq_iff_eq] at this
    rcases this with rfl | rfl | rfl | rfl <;> decide +kernel
  have hl : (parseBits s).length = s.length := by rw [hp]; simp
  have hx : ∀ x ∈ parseBits s, 0 ≤ x ∧ x ≤ 3 := by
    intro x hx
    rw [hp, List.mem_reverse, List.mem_map] at hx
    obtain ⟨c, hc, rfl⟩ := hx
    exact ⟨(hb c hc).1, (hb c hc).2.1⟩
  refine ⟨?_, fun x h => (hx x h).1, ?_, hl, h2⟩
  · have hne : s ≠ [] := by intro e; rw [e] at h1; cases h1
    have := List.length_pos_iff.2 hne
    have h4 : ((parseBits s).any fun x => !(decide (x ≤ 3))) = false := by
      rw [List.any_eq_false]
      intro x h
      simpa using (hx x h).2
    rw [isBits, h4, hl, decide_eq_true (by omega), decide_eq_true (by omega)]; rfl
  · rw [bitsT, hp, List.map_reverse, List.reverse_reverse, List.map_map]
    have : s.map (bitC ∘ bitCode) = s.map id := List.map_congr_left fun c hc => (hb c hc).2.2
    rw [this, List.map_id]
theorem tw_len {p : UInt8 → Bool} {s : Bs} (h : (((s.drop 0).takeWhile p).length : Int) = (s.length : Int)) : s.all p = true := by
  rw [List.drop_zero] at h
  induction s with
  | nil => rfl
  | cons a r ih =>
    rw [List.takeWhile_cons] at h
    cases ha : p a with
    | false => rw [ha] at h; simp at h; omega
    | true =>
      rw [ha] at h
      simp only [if_true, List.length_cons] at h
      rw [List.all_cons, ha, ih (by omega)]; rfl
theorem vec_at (hw : Wr l) {i : Nat} (h : (tokAt l i).op = 4 ∨ (tokAt l i).op = 5) : i < l.length ∧ isVecL (tokAt l i).text = true ∧ (tokAt l i).n = 0 ∧ ((tokAt l i).op = 4 → (tokAt l i).text.length = 1) := by
  have hi : i < l.length := by rcases h with h | h; exact op_lt h (by decide); exact op_lt h (by decide)
  have hp := hw i hi
  rcases h with h | h
  · rw [possT, h] at hp
    simp only [show ((4 : Int) == 1) = false from rfl, show ((4 : Int) == 2) = false from rfl, show ((4 : Int) == 3) = false from rfl, show ((4 : Int) == 4) = true from rfl, cond_true, cond_false, Bool.and_eq_true, beq_iff_eq] at hp
    obtain ⟨⟨h1, h2⟩, h3⟩ := hp
    obtain ⟨c, hc⟩ : ∃ c, (tokAt l i).text = [c] := List.length_eq_one_iff.1 (by omega)
    rw [hc] at h3
    refine ⟨hi, ?_, h1, fun _ => by omega⟩
    rw [hc, isVecL]
    have : isBitC c = true := h3
    simp [this]
  · rw [possT, h] at hp
    simp only [show ((5 : Int) == 1) = false from rfl, show ((5 : Int) == 2) = false from rfl, show ((5 : Int) == 3) = false from rfl, show ((5 : Int) == 4) = false from rfl, show ((5 : Int) == 5) = true from rfl, cond_true, cond_false, Bool.and_eq_true, beq_iff_eq, decide_eq_true_eq] at hp
    obtain ⟨⟨⟨h1, h2⟩, h3⟩, h4⟩ := hp
    refine ⟨hi, ?_, h1, fun e => by omega⟩
    have ha : (tokAt l i).text.all isBitC = true := tw_len (p := fun c => ofK c 2) h4
    have hne : (tokAt l i).text.isEmpty = false := by
      cases hx : (tokAt l i).text with
      | nil => rw [hx] at h2; simp at h2
      | cons a r => rfl
    rw [isVecL, ha, hne, decide_eq_true (by omega)]; rfl
theorem gd_int (hw : Wr l) {d k i : Nat} {t : Tk} (h : (tokAt l i).op = 3) (hk : k ≤ 5) : Gd l d k (mkE 1 [] (tokAt l i).n [] [] t) i (i + 1) := by
  have hi : i < l.length := op_lt h (by decide)
  have hp := hw i hi
  rw [possT, h] at hp
  simp only [show ((3 : Int) == 1) = false from rfl, show ((3 : Int) == 2) = false from rfl, show ((3 : Int) == 3) = true from rfl, cond_true, cond_false, Bool.and_eq_true, beq_iff_eq, decide_eq_true_eq] at hp
  obtain ⟨⟨h1, h2⟩, h3⟩ := hp
  have := toks_int (e := mkE 1 [] (tokAt l i).n [] [] t) rfl
  refine gd_leaf (t := ⟨3, [], (tokAt l i).n, 0, 0⟩) (form_of rfl (by intro k hk; cases hk) ?_) (szE_of (by simp [mkE, Ex.name]) (by simp [mkE, Ex.bits]) (by simp [mkE, Ex.kids]) (by intro x hx; simp [mkE, Ex.bits] at hx) (by intro k hk; cases hk)) (smE_of (by simp [mkE, Ex.name]) (by simp [mkE, Ex.bits]) (by intro k hk; cases hk)) (binds_not5 (by simp [mkE, Ex.op])) this.1 this.2 hi ?_ rfl hk
  · show ((decide ((tokAt l i).n ≥ 0) && decide ((tokAt l i).n ≤ 2147483647)) && ((0 : Int) == 0)) = true
    rw [decide_eq_true (by omega), decide_eq_true (by omega)]; rfl
  · rw [tkey, tkey, h, h1]
theorem gd_bit (hw : Wr l) {d k i : Nat} {t : Tk} (h : (tokAt l i).op = 4) (hk : k ≤ 5) : Gd l d k (mkE 2 [] 0 (parseBits (tokAt l i).text) [] t) i (i + 1) := by
  obtain ⟨hi, hv, hn, h1⟩ := vec_at hw (.inl h)
  obtain ⟨b1, b2, b3, b4, b5⟩ := vec_bits hv
  have := toks_bit (e := mkE 2 [] 0 (parseBits (tokAt l i).text) [] t) rfl rfl
  refine gd_leaf (t := ⟨4, bitsT (parseBits (tokAt l i).text), 0, 0, 0⟩) (form_of rfl (by intro k hk; cases hk) ?_) (szE_of (by simp [mkE, Ex.name]) (by show (parseBits (tokAt l i).text).length ≤ _; omega) (by simp [mkE, Ex.kids]) b2 (by intro k hk; cases hk)) (smE_of (by simp [mkE, Ex.name]) (by show (parseBits (tokAt l i).text).length ≤ _; omega) (by intro k hk; cases hk)) (binds_not5 (by simp [mkE, Ex.op])) this.1 this.2 hi ?_ rfl hk
  · show ((((parseBits (tokAt l i).text).length : Int) == 1) && isBits (parseBits (tokAt l i).text)) && ((0 : Int) == 0) = true
    rw [b1, b4, h1 h]; rfl
  · rw [b3, tkey, tkey, h, hn]
theorem gd_vec (hw : Wr l) {d k i : Nat} {t : Tk} (h : (tokAt l i).op = 5) (hk : k ≤ 5) : Gd l d k (mkE 3 [] 0 (parseBits (tokAt l i).text) [] t) i (i + 1) := by
  obtain ⟨hi, hv, hn, h1⟩ := vec_at hw (.inr h)
  obtain ⟨b1, b2, b3, b4, b5⟩ := vec_bits hv
  have := toks_vec (e := mkE 3 [] 0 (parseBits (tokAt l i).text) [] t) rfl rfl rfl
  refine gd_leaf (t := ⟨5, bitsT (parseBits (tokAt l i).text), 0, 0, 0⟩) (form_of rfl (by intro k hk; cases hk) ?_) (szE_of (by simp [mkE, Ex.name]) (by show (parseBits (tokAt l i).text).length ≤ _; omega) (by simp [mkE, Ex.kids]) b2 (by intro k hk; cases hk)) (smE_of (by simp [mkE, Ex.name]) (by show (parseBits (tokAt l i).text).length ≤ _; omega) (by intro k hk; cases hk)) (binds_not5 (by simp [mkE, Ex.op])) this.1 this.2 hi ?_ rfl hk
  · show isBits (parseBits (tokAt l i).text) && ((0 : Int) == 0) = true
    rw [b1]; rfl
  · rw [b3, tkey, tkey, h, hn]
theorem gd_prim (hw : Wr l) {d : Nat} {inner : Nat → Rd Ex} (hin : In l d inner) {i m : Nat} {x : Ex} (h : primP l d inner i = .ok x m) : Gd l d 5 x i m := by
  rw [primP] at h
  split at h
  · rename_i h1; exact gd_parts hw hin _ _ _ _ _ (gd_int hw (by simpa using h1) (Nat.le_refl 5)) h
  · split at h
    · rename_i h1; exact gd_parts hw hin _ _ _ _ _ (gd_bit hw (by simpa using h1) (Nat.le_refl 5)) h
    · split at h
      · rename_i h1; exact gd_parts hw hin _ _ _ _ _ (gd_vec hw (by simpa using h1) (Nat.le_refl 5)) h
      · split at h
        · cases h2 : namedP l d inner i with
          | bad g => rw [h2] at h; cases h
          | ok e j => rw [h2] at h; simp only at h; exact gd_parts hw hin _ _ _ _ _ (gd_named hw hin h2) h
        · cases hp : openP l d i with
          | bad g => rw [hp] at h; cases h
          | ok u j1 =>
            rw [hp] at h; simp only at h
            obtain ⟨hd, rfl, ho⟩ := open_ok hp
            cases h2 : inner (i + 1) with
            | bad g => rw [h2] at h; cases h
            | ok e j =>
              rw [h2] at h; simp only at h
              cases h3 : wantP l sShut j with
              | bad g => rw [h3] at h; cases h
              | ok u j3 =>
                rw [h3] at h; simp only at h
                obtain ⟨rfl, a3⟩ := want_ok h3
                exact gd_parts hw hin _ _ _ _ _ (Gd.br hw ho hd (hin _ _ _ h2).2 a3) h
theorem gd_factor (hw : Wr l) : ∀ d i e j, factor l d i = .ok e j → Gd l d 4 e i j := by
  intro d
  induction d with
  | zero =>
    intro i e j h
    rw [factor, facP] at h
    split at h
    · rw [intoP] at h; cases h
    · exact (gd_prim hw (fun i e j h => absurd h row_none) h).down (by omega)
  | succ d ih =>
    intro i e j h
    rw [factor, facP] at h
    split at h
    · rename_i hat
      cases h1 : intoP l (d + 1) i with
      | bad g => rw [h1] at h; cases h
      | ok u j1 =>
        rw [h1] at h; simp only at h
        obtain ⟨hd, rfl⟩ := into_ok h1
        cases h2 : factor l d (i + 1) with
        | bad g => rw [h2] at h; cases h
        | ok e2 k =>
          rw [h2] at h; simp only at h
          cases h
          exact gd_un hw hat hd (ih _ _ _ h2)
    · exact (gd_prim hw (fun i e j h => ⟨Nat.succ_ne_zero d, gd_row hw (factor_gt d) ih 4 (Nat.le_refl 4) i e j h⟩) h).down (by omega)
theorem gd_all (hw : Wr l) {d i j : Nat} {e : Ex} (h : rowD l d 4 i = .ok e j) : Gd l d 0 e i j := gd_row hw (factor_gt d) (gd_factor hw d) 4 (Nat.le_refl 4) i e j h
end
end Go.Proofs.YtcgdlhkiecommaaGreatDoor
/- What the laws without the reference ask, of trees and tokens alone. -/



namespace Go.Proofs.YtcgdlhkiecommaaGreatDoor
open Go
theorem szX_of {e : Ex} (h1 : e.name.length ≤ 140737488355328) (h2 : e.bits.length ≤ 140737488355328) (h3 : e.kids.length ≤ 140737488355328) (h4 : szV e.val = true) (h5 : szT e.type = true) (h6 : ∀ k ∈ e.kids, szX k = true) : szX e = true := by
  have hl : ∀ l : List Ex, (∀ k ∈ l, szX k = true) → szXs l = true := by
    intro l
    induction l with
    | nil => intro _; rfl
    | cons a l ih => intro h; rw [szXs, h a (by simp), ih fun k hk => h k (by simp [hk])]; rfl
  cases e with
  | mk o s n b v k t l c =>
    rw [szX, hl k h6]
    have h1 : s.length ≤ 140737488355328 := h1
    have h2 : b.length ≤ 140737488355328 := h2
    have h3 : k.length ≤ 140737488355328 := h3
    have h4 : szV v = true := h4
    have h5 : szT t = true := h5
    rw [decide_eq_true h1, decide_eq_true h2, decide_eq_true h3, h4, h5]; rfl
theorem szX_form (e : Ex) : formP e = true → szE e = true → szX e = true := by
  induction e using Ex.ind with
  | h e ih =>
    intro hf hz
    obtain ⟨z1, z2, z3, z4, z5⟩ := szE_facts hz
    have hf1 := hf
    rw [formH, Bool.and_eq_true, Bool.not_eq_true'] at hf1
    have hb := hf1.1
    rw [headR, bareR] at hb
    rw [Bool.or_eq_false_iff, Bool.or_eq_false_iff, Bool.or_eq_false_iff, Bool.not_eq_false', Bool.and_eq_true] at hb
    obtain ⟨⟨⟨⟨hu, hn⟩, _⟩, _⟩, _⟩ := hb
    refine szX_of (by omega) (by omega) (by omega) ?_ ?_ (fun k hk => ih k hk (form_kid hf k hk) (z5 k hk))
    · simp only [noneV, Bool.and_eq_true, beq_iff_eq] at hn
      have h3 : e.val.bits = [] := List.length_eq_zero_iff.1 (by omega)
      have h4 : e.val.list = [] := List.length_eq_zero_iff.1 (by omega)
      cases hv : e.val with
      | mk k n b l =>
        rw [hv] at h3 h4
        have h3 : b = [] := h3
        have h4 : l = [] := h4
        rw [h3, h4]; rfl
    · simp only [untyped, Bool.and_eq_true, beq_iff_eq] at hu
      have h2 : e.type.name = [] := hu.1.1.2
      have h3 : e.type.names = [] := List.length_eq_zero_iff.1 (by omega)
      have h4 : e.type.elem = [] := List.length_eq_zero_iff.1 (by omega)
      cases hv : e.type with
      | mk k n s b l =>
        rw [hv] at h2 h3 h4
        have h2 : s = [] := h2
        have h3 : b = [] := h3
        have h4 : l = [] := h4
        rw [h2, h3, h4]; rfl
theorem wr_of {l : List Tk} (h : ∀ t ∈ l, possT t = true) : Wr l := fun i hi => h _ (getD_mem hi)
section
variable {l : List Tk}
end
section
variable {l : List Tk} {i : Nat}
end
def long5 (l : List Tk) : Bool := if decide ((l.length : Int) > 400) = true then true else decide ((sumT [] l l.length : Int) > 5000)
theorem sum_succ (l : List Tk) (i : Nat) : ((sumT [] l (i + 1) : Nat) : Int) = (sumT [] l i : Int) + min ((l.getD i default).text.length : Int) 5000 := by
  simp only [sumT]; omega
theorem long5_facts {l : List Tk} (h : long5 l = false) : l.length ≤ 400 ∧ sumT [] l l.length ≤ 5000 := by
  rw [long5] at h
  split at h
  · cases h
  · rename_i h1
    rw [decide_eq_true_eq] at h1
    rw [decide_eq_false_iff_not] at h
    exact ⟨by omega, by omega⟩
theorem oks_in {l : List Tk} (h : TksIn l) : OKTs l := fun t ht => ⟨(h.1 t ht).len, (h.1 t ht).n0, (h.1 t ht).n1⟩
mutual
def placE : Ex → Ex → Bool
  | .mk o s n b v k t l c, u => (sameE (.mk o s n b v k t l c) u && (l == u.line && c == u.col)) && placEs k u.kids
def placEs : List Ex → List Ex → Bool
  | [], [] => true
  | v :: r, w :: s => placE v w && placEs r s
  | _, _ => false
end
theorem placEs_all : placEs = allSame placE := by
  funext a
  induction a with
  | nil => funext b; cases b <;> simp [placEs, allSame]
  | cons x a ih => funext b; cases b <;> simp [placEs, allSame, ih]
theorem placE_eq (a b : Ex) : placE a b = ((sameE a b && (a.line == b.line && a.col == b.col)) && allSame placE a.kids b.kids) := by rw [← placEs_all]; cases a; rfl
theorem placE_no {a b : Ex} (h : ((!(sameE a b) || (a.line != b.line)) || (a.col != b.col)) = true) : placE a b = false := by
  rw [placE_eq]
  simp only [Bool.or_eq_true, Bool.not_eq_true', bne_iff_ne] at h
  rcases h with (h | h) | h
  · rw [h]; rfl
  · rw [show (a.line == b.line) = false by simpa using h]; simp
  · rw [show (a.col == b.col) = false by simpa using h]; simp
theorem placE_yes {a b : Ex} (h : ((!(sameE a b) || (a.line != b.line)) || (a.col != b.col)) = false) : ((a.kids.length : Int) != (b.kids.length : Int)) = false ∧ placE a b = allSame placE a.kids b.kids := by
  simp only [Bool.or_eq_false_iff, Bool.not_eq_false', bne_eq_false_iff_eq] at h
  obtain ⟨⟨h1, h2⟩, h3⟩ := h
  have hk := h1
  rw [sameE_eq, sameEs_all] at hk
  simp only [Bool.and_eq_true] at hk
  have := allSame_len hk.2.2.2.2.2.2
  refine ⟨by rw [bne_eq_false_iff_eq]; omega, ?_⟩
  rw [placE_eq, h1, h2, h3]; simp
theorem placE_self (v : Ex) : placE v v = true := by
  induction v using Ex.ind with
  | h v ih => rw [placE_eq, sameE_self, allSame_self ih]; simp
end Go.Proofs.YtcgdlhkiecommaaGreatDoor
/- What ExprShort and ExprBrackets ask. -/


namespace Go.Proofs.YtcgdlhkiecommaaGreatDoor
open Go
end Go.Proofs.YtcgdlhkiecommaaGreatDoor
/- One byte is sought in a string of any length. -/


namespace Go.Proofs.YtcgdlhkiecommaaGreatDoor
open Go Go.RowKit
theorem q_lindexByte (s : Bs) (c : UInt8) : ACp Tryz.prog 201 [.v (.string (str s)), .v (.int .u8 (c.toNat : Int))] (.v (.int .i64 (Lib.indexByte s c))) :=
  acp_below (vs := [.string (str s), .int .u8 (c.toNat : Int)]) rfl fun ok w hg => (shelf_stringslite_IndexByte (str s) c.toNat w).mono fun e w' ⟨h1, h2⟩ => by
    subst h2
    refine ⟨?_, Below.refl _ _⟩
    rw [h1]
    have e1 : ((c.toNat : Int)).toNat.toUInt8 = c := by simp
    rw [e1]; rfl
theorem index_self {s : Bs} {c : UInt8} (h : ((([c] : Bs).length : Int) == 0 || ([c] == s)) = true) : (0 : Int) = Lib.indexByte s c := by
  have h1 : [c] = s := by simpa using h
  rw [← h1, indexByte_eq]; simp
theorem contains_index (s : Bs) (c : UInt8) : decide (Lib.indexByte s c ≥ 0) = Lib.contains s [c] := by
  rw [contains_one, indexByte_eq]
  cases s.contains c <;> simp
end Go.Proofs.YtcgdlhkiecommaaGreatDoor
/- The document's reader: its state, and what a call on it leaves. -/



namespace Go.Proofs.YtcgdlhkiecommaaGreatDoor
open Go
structure Qs where
  i : Nat
  d : Int
  F : Flt
def rdq (l : List Tk) (s : Qs) : List AVal := [.list 5 (l.map encK), .v (.int .i64 (s.i : Int)), .v (.int .i64 s.d), .v (.int .i64 s.F.code), .v (.string (str s.F.name)), .v (.int .i64 s.F.line), .v (.int .i64 s.F.col)]
abbrev rq (v0 : Nat) (l : List Tk) (s : Qs) (τ : Store) : Store := (0, v0, .row 7 [rdq l s]) :: τ
def Rd.next {α β : Type} (y : Rd β) (K : β → Nat → Rd α) : Rd α :=
  match y with
  | .bad g => .bad g
  | .ok a j => K a j
def Qs.good (s : Qs) : Prop := s.F = okF ∨ s.F.code ≠ 0
section
variable {α β : Type}
def QP (l : List Tk) (X : Rd α) (dd : Int) (s : Qs) (C : Rd α) (s' : Qs) : Prop :=
  s.good ∧ s.i ≤ s'.i ∧ s'.i ≤ l.length ∧ (s.F.code ≠ 0 → s' = ⟨s.i, s.d + dd, s.F⟩) ∧ (s.F = okF → (s'.F = okF ∧ s'.d = s.d + dd ∧ X = C) ∨ (s'.F.code ≠ 0 ∧ X = .bad s'.F ∧ s.d + dd - 1 ≤ s'.d ∧ s'.d ≤ s.d + dd))
variable {l : List Tk} {X : Rd α} {dd d2 : Int} {s s' s1 s2 : Qs} {C C' : Rd α}
theorem okF_code : okF.code = 0 := rfl
theorem QP.refl (hg : s.good) (hi : s.i ≤ l.length) : QP l X 0 s X s :=
  ⟨hg, Nat.le_refl _, hi, fun _ => by rw [Int.add_zero], fun h => .inl ⟨h, by omega, rfl⟩⟩
theorem QP.gd (h : QP l X dd s C s') : s'.good := by
  obtain ⟨hg, _, _, h1, h2⟩ := h
  rcases hg with g | g
  · rcases h2 g with ⟨a, _⟩ | ⟨a, _⟩
    · exact .inl a
    · exact .inr a
  · rw [h1 g]; exact .inr g
theorem QP.ge (h : QP l X dd s C s') : s.i ≤ s'.i := h.2.1
theorem QP.le (h : QP l X dd s C s') : s'.i ≤ l.length := h.2.2.1
theorem QP.bd (h : QP l X dd s C s') : s.d + dd - 1 ≤ s'.d ∧ s'.d ≤ s.d + dd := by
  obtain ⟨hg, _, _, h1, h2⟩ := h
  rcases hg with g | g
  · rcases h2 g with ⟨_, a, _⟩ | ⟨_, _, a⟩
    · omega
    · exact a
  · rw [h1 g]; constructor <;> simp only <;> omega
theorem QP.ok (h : QP l X dd s C s') (ho : s'.F = okF) : s.F = okF ∧ s'.d = s.d + dd ∧ X = C := by
  obtain ⟨hg, _, _, h1, h2⟩ := h
  rcases hg with g | g
  · rcases h2 g with ⟨_, a, b⟩ | ⟨a, _⟩
    · exact ⟨g, a, b⟩
    · rw [ho] at a; exact absurd rfl a
  · rw [h1 g] at ho; simp only at ho; rw [ho] at g; exact absurd rfl g
theorem QP.bad (h : QP l X dd s C s') (hs : s.F = okF) (ho : s'.F.code ≠ 0) : X = .bad s'.F := by
  obtain ⟨_, _, _, _, h2⟩ := h
  rcases h2 hs with ⟨a, _⟩ | ⟨_, a, _⟩
  · rw [a] at ho; exact absurd rfl ho
  · exact a
theorem QP.alt (h : QP l X dd s C s') (hC : s'.F = okF → C = C') : QP l X dd s C' s' := by
  obtain ⟨hg, h3, h4, h1, h2⟩ := h
  refine ⟨hg, h3, h4, h1, fun g => ?_⟩
  rcases h2 g with ⟨a, b, c⟩ | a
  · exact .inl ⟨a, b, c.trans (hC a)⟩
  · exact .inr a
theorem QP.to {d3 : Int} (h : QP l X dd s C s') (hd : dd = d3) : QP l X d3 s C s' := hd ▸ h
def QH (l : List Tk) (k : Nat) (s : Qs) : Prop := s.i ≤ l.length ∧ s.good ∧ (s.F = okF → 1 ≤ k ∧ s.d = 41 - (k : Int)) ∧ k ≤ 41 ∧ -1 ≤ s.d ∧ s.d ≤ 41
theorem QH.after {k : Nat} (hs : QH l k s) (h : QP l X 0 s C s') : QH l k s' := by
  obtain ⟨a, b, c, d, e, f⟩ := hs
  refine ⟨h.le, h.gd, fun ho => ?_, d, ?_, ?_⟩
  · obtain ⟨x, y, _⟩ := h.ok ho
    have := c x; constructor
    · exact this.1
    · omega
  · rcases b with b | b
    · have := c b; have := h.bd; omega
    · have := h.2.2.2.1 b; rw [this]; simp only; omega
  · have := h.bd; omega
def deepP (l : List Tk) (text : Bs) (d i : Nat) : Rd Unit := if isAt l [text] i then intoP l d i else .bad (fltAt l 11 i)
theorem deep_open (d i : Nat) : openP l d i = deepP l sOpen d i := rfl
theorem QH.into {k : Nat} {text : Bs} {i : Nat} (hs : QH l k s) (ho : s.F = okF) (h : QP l (deepP l text (k - 1) i) 1 s (.ok () s'.i) s') : QH l (k - 1) s' := by
  obtain ⟨a, b, c, d, e, f⟩ := hs
  obtain ⟨c1, c2⟩ := c ho
  refine ⟨h.le, h.gd, fun hq => ?_, by omega, ?_, ?_⟩
  · obtain ⟨_, y, z⟩ := h.ok hq
    have hk : k - 1 ≠ 0 := by
      intro h0
      rw [h0, deepP] at z
      split at z
      · cases z
      · cases z
    omega
  · have := h.bd; omega
  · have := h.bd; omega
def isQ (l : List Tk) (s : Qs) (t : Bs) : Bool := s.F.code == 0 && isAt l [t] s.i
def kindQ (l : List Tk) (s : Qs) (k : Int) : Bool := s.F.code == 0 && (tokAt l s.i).op == k
theorem Qs.good.okF {s : Qs} (h : s.good) (hc : s.F.code = 0) : s.F = okF := by
  rcases h with h | h
  · exact h
  · exact absurd hc h
theorem isQ_yes {t : Bs} (hg : s.good) (h : isQ l s t = true) : s.F = okF ∧ isAt l [t] s.i = true := by
  simp only [isQ, Bool.and_eq_true, beq_iff_eq] at h
  exact ⟨hg.okF h.1, h.2⟩
theorem isQ_no {t : Bs} (h : isQ l s t = false) (ho : s.F = okF) : isAt l [t] s.i = false := by
  rw [isQ, ho] at h; simpa [okF_code] using h
theorem kindQ_yes {k : Int} (hg : s.good) (h : kindQ l s k = true) : s.F = okF ∧ ((tokAt l s.i).op == k) = true := by
  simp only [kindQ, Bool.and_eq_true] at h
  exact ⟨hg.okF (by simpa using h.1), h.2⟩
theorem kindQ_no {k : Int} (h : kindQ l s k = false) (ho : s.F = okF) : ((tokAt l s.i).op == k) = false := by
  rw [kindQ, ho] at h; simpa [okF_code] using h
def RqK (v0 : Nat) (l : List Tk) (enc : α → AVal) (Q : α → Qs → Prop) (r : AEnd) (σ' : Store) : Prop := ∃ a s', Q a s' ∧ r = .ret (enc a) ∧ σ'.keep k0 = rq v0 l s' []
def RqT (v0 : Nat) (l : List Tk) (enc : α → AVal) (Q : α → Qs → Prop) (τ : Store) (r : AEnd) (σ' : Store) : Prop := ∃ a s', Q a s' ∧ r = .ret (enc a) ∧ σ' = rq v0 l s' τ
abbrev QR (l : List Tk) (X : Rd α) (dd : Int) (s : Qs) (a : α) (s' : Qs) : Prop := QP l X dd s (.ok a s'.i) s'
abbrev QRd (l : List Tk) (X : Rd α) (s : Qs) (a : α) (s' : Qs) : Prop := QP l X 0 s (.ok a s'.i) s' ∧ s'.d = s.d
abbrev QRf (l : List Tk) (X : Rd α) (s : Qs) (a : α) (s' : Qs) : Prop := QP l X 0 s (.ok a s'.i) s' ∧ s'.d = s.d ∧ s'.i = s.i
theorem rqk {v0 : Nat} {enc : α → AVal} {Q : α → Qs → Prop} {σ' : Store} (a : α) (s' : Qs) (h : Q a s') (hs : σ'.keep k0 = rq v0 l s' []) : RqK v0 l enc Q (.ret (enc a)) σ' := ⟨a, s', h, rfl, hs⟩
def RqF (v0 : Nat) (l : List Tk) (Q : Ex → Qs → Prop) (r : AEnd) (σ' : Store) : Prop := ∃ e s', Q e s' ∧ ∃ a, r = .ret a ∧ FrzT σ' k0 a (encX e) ∧ σ'.keep k0 = rq v0 l s' []
theorem rqf {v0 : Nat} {Q : Ex → Qs → Prop} {σ' : Store} {a : AVal} (e : Ex) (s' : Qs) (h : Q e s') (hf : FrzT σ' k0 a (encX e)) (hs : σ'.keep k0 = rq v0 l s' []) : RqF v0 l Q (.ret a) σ' := ⟨e, s', h, a, rfl, hf, hs⟩
theorem ac_rqf {P : Program} {f : FuncId} {avs : List AVal} {σ : Store} {v0 : Nat} {Q : Ex → Qs → Prop} (h : AC P f avs σ (RqF v0 l Q)) : AC P f avs σ (RqK v0 l encX Q) := by
  intro ok L w vs hs hv
  refine (h ok L w vs hs hv).mono ?_
  rintro e w' ⟨r, σ1, ok', L', hr, he, hs', hx⟩
  obtain ⟨ok2, L2, he2, hs2, hk, _⟩ := freeze_core hs' k0
  have kk := keep_keep k0 σ1
  obtain ⟨e2, s2, h1, a, rfl, hf, h2⟩ := hr
  refine ⟨.ret (encX e2), _, ok2, L2, ⟨e2, s2, h1, rfl, by rw [kk, h2]⟩, he.trans he2, hs2, ?_⟩
  cases e with
  | returned v => exact frzT_rep hs' he2 hk hf (show Rep ok' L' w' a v from hx)
  | _ => exact hx.elim
theorem rq_lift {P : Program} {n : FuncId} {extra : List AVal} {v0 : Nat} {enc : α → AVal} {Q : α → Qs → Prop} (hx : extra.map (AVal.rn (tab [0])) = extra) (henc : ∀ a, (enc a).rn (tab [0]) = enc a)
    (h : AC P n (.ptr 0 v0 0 0 :: extra) (rq v0 l s []) (RqK v0 l enc Q)) (τ : Store) (hb : (rq v0 l s τ).below 1000 = true) : AC P n (.ptr 0 v0 0 0 :: extra) (rq v0 l s τ) (RqT v0 l enc Q τ) := by
  have hf : Store.free [0] (rq v0 l s []) (rq v0 l s τ) = true := by simp [Store.free, Store.get, List.range_succ]
  have hm : Store.match (tab [0]) (rq v0 l s τ) (rq v0 l s []) := ⟨rfl, trivial⟩
  have := ac_at (σ := rq v0 l s τ) [0] rfl (ac_keep k0 h) hm hf hb (by
    rintro r σ' ⟨σ1, h1, rfl⟩ j hj
    rcases h1 with ⟨a, s2, _, _, e2⟩
    rw [e2] at hj
    revert hj
    simp only [Store.get]
    cases Nat.beq 0 j <;> simp)
  rw [List.map_cons, hx] at this
  refine ac_mono this ?_
  rintro r σ' ⟨r0, σ0, ⟨σ1, h1, rfl⟩, rfl, rfl⟩
  rcases h1 with ⟨a, s2, e1, rfl, e2⟩
  rw [e2]; exact ⟨a, s2, e1, by simp only [AEnd.rn, henc], rfl⟩
theorem rq_look {P : Program} {n : FuncId} {extra : List AVal} {v0 : Nat} {b : AVal} (hx : extra.map (AVal.rn (tab [0])) = extra) (hb2 : b.rn (tab [0]) = b)
    (h : AC P n (.ptr 0 v0 0 0 :: extra) (rq v0 l s []) (fun r σ' => r = .ret b ∧ σ'.keep k0 = rq v0 l s [])) {σ : Store} (h1 : σ.get 0 = some (v0, .row 7 [rdq l s])) (hb : σ.below 1000 = true) : AC P n (.ptr 0 v0 0 0 :: extra) σ (fun r σ' => r = .ret b ∧ σ' = σ) := by
  have hk : AC P n (.ptr 0 v0 0 0 :: extra) (rq v0 l s []) (fun r σ' => r = .ret b ∧ σ' = rq v0 l s []) := ac_mono (ac_keep k0 h) (by
    rintro r σ' ⟨σ1, ⟨h2, h3⟩, rfl⟩
    exact ⟨h2, h3⟩)
  have := ac_ro [0] rfl hk (⟨h1, trivial⟩ : Store.match (tab [0]) σ (rq v0 l s [])) (by simp [Store.free, Store.get, List.range_succ]) hb
  rw [List.map_cons, hx, hb2] at this
  exact this
end
section
variable {l : List Tk} {s s' : Qs}
theorem qp_fail {α : Type} {a : α} {c : Int} {i : Nat} {F' : Flt} (hi : s.i ≤ l.length) (hc : c ≠ 0) (h : s.F = okF) (hF : F' = fltAt l c i) : QP (α := α) l (.bad (fltAt l c i)) 0 s (.ok a s.i) ⟨s.i, s.d, F'⟩ := by
  subst hF
  refine ⟨.inl h, Nat.le_refl _, hi, fun g => ?_, fun _ => .inr ⟨?_, rfl, by simp only; omega, by simp only; omega⟩⟩
  · rw [h] at g; exact absurd rfl g
  · show (fltAt l c i).code ≠ 0
    rw [fltAt]; split
    · exact fun e => by cases e
    · exact hc
end
end Go.Proofs.YtcgdlhkiecommaaGreatDoor
/- The document's reader: small steps. -/

namespace Go.Proofs.YtcgdlhkiecommaaGreatDoor
open Go
section
variable {α β : Type} {l : List Tk} {X : Rd α} {dd : Int} {s s' : Qs} {C C' : Rd α} {k : Nat}
theorem qp_skip (hg : s.good) (hi : s.i ≤ l.length) (h : s.F.code ≠ 0) : QP l X 0 s C s :=
  ⟨hg, Nat.le_refl _, hi, fun _ => by rw [Int.add_zero], fun g => by rw [g] at h; exact absurd rfl h⟩
theorem qp_bad {Y : Rd β} {b : β} {j : Nat} {g : Flt} (hq : QP l Y dd s (.ok b j) s') (hY : Y = .bad g) (hX : s.F = okF → X = .bad g) : QP l X dd s C s' := by
  obtain ⟨hg, h3, h4, h1, h2⟩ := hq
  refine ⟨hg, h3, h4, h1, fun g => ?_⟩
  rcases h2 g with ⟨_, _, a⟩ | ⟨a, b, c⟩
  · rw [hY] at a; cases a
  · refine .inr ⟨a, ?_, c⟩
    rw [hX g]; rw [hY] at b; cases b; rfl
theorem qp_ok {a : α} {j : Nat} (ho : s.F = okF) (h1 : s.i ≤ j) (h2 : j ≤ l.length) (hX : X = .ok a j) : QP l X 0 s (.ok a j) ⟨j, s.d, s.F⟩ :=
  ⟨.inl ho, h1, h2, fun g => by rw [ho] at g; exact absurd rfl g, fun _ => .inl ⟨ho, by show s.d = _; omega, hX⟩⟩
theorem QP.shift (h : QP l X dd s C s') (m : Int) : QP l X (dd + m) s C ⟨s'.i, s'.d + m, s'.F⟩ := by
  obtain ⟨hg, h3, h4, h1, h2⟩ := h
  refine ⟨hg, h3, h4, fun g => ?_, fun g => ?_⟩
  · rw [h1 g]; simp only [Int.add_assoc]
  · rcases h2 g with ⟨a, b, c⟩ | ⟨a, b, c, d⟩
    · exact .inl ⟨a, by simp only; omega, c⟩
    · exact .inr ⟨a, b, by simp only; omega, by simp only; omega⟩
theorem QP.same {X' : Rd α} (h : QP l X dd s C s') (hX : s.F = okF → X = X') : QP l X' dd s C s' := by
  obtain ⟨hg, h3, h4, h1, h2⟩ := h
  refine ⟨hg, h3, h4, h1, fun g => ?_⟩
  rw [← hX g]; exact h2 g
theorem QP.step (h : QP l X dd s C s') (ho : s'.F = okF) (hl : s'.i < l.length) : QP l X dd s C ⟨s'.i + 1, s'.d, s'.F⟩ := by
  obtain ⟨a, b, c⟩ := h.ok ho
  have hg := h.ge
  exact ⟨h.1, by simp only; omega, hl, fun g => by rw [a] at g; exact absurd rfl g, fun _ => .inl ⟨ho, b, c⟩⟩
theorem QH.step (hs : QH l k s) (hl : s.i < l.length) : QH l k ⟨s.i + 1, s.d, s.F⟩ := ⟨hl, hs.2.1, hs.2.2⟩
theorem not_code {s : Qs} (h : (!(s.F.code == 0)) = true) : s.F.code ≠ 0 := by simpa using h
theorem is_code {s : Qs} (hg : s.good) (h : (!(s.F.code == 0)) = false) : s.F = okF := hg.okF (by simpa using h)
theorem isq_out {t : Bs} (h : (!(s.F.code == 0) || decide ((s.i : Int) ≥ (l.length : Int))) = true) : isQ l s t = false := by
  simp only [Bool.or_eq_true, Bool.not_eq_true', decide_eq_true_eq] at h
  rcases h with h | h
  · rw [isQ, h]; rfl
  · rw [isQ, isAt, tokAt_out (by omega)]; simp [show (default : Tk) = ⟨0, [], 0, 0, 0⟩ from rfl]
theorem isq_in {t : Bs} (h : (!(s.F.code == 0) || decide ((s.i : Int) ≥ (l.length : Int))) = false) : (((l.getD s.i default).op == 7 || (l.getD s.i default).op == 2) && (l.getD s.i default).text == t) = isQ l s t := by
  simp only [Bool.or_eq_false_iff, Bool.not_eq_false'] at h
  rw [isQ, h.1, Bool.true_and, isAt, tokAt, Bool.or_comm]
  simp only [List.contains_cons, List.contains_nil, Bool.or_false]
theorem kindq_eq {k : Int} (hk : k ≠ 0) : ((s.F.code == 0 && decide ((s.i : Int) < (l.length : Int))) && (l.getD s.i default).op == k) = kindQ l s k := by
  rw [kindQ]
  rcases Nat.lt_or_ge s.i l.length with h | h
  · rw [decide_eq_true (by omega), Bool.and_true]; rfl
  · rw [decide_eq_false (by omega), tokAt_out h, show (default : Tk) = ⟨0, [], 0, 0, 0⟩ from rfl, Bool.and_false, Bool.false_and]
    have : ((0 : Int) == k) = false := by rw [beq_eq_false_iff_ne]; exact fun e => hk e.symm
    rw [this, Bool.and_false]
theorem deep_far {t : Bs} {d i : Nat} (h : isAt l [t] i = true) (hd : d = 0) : deepP l t d i = .bad (fltAt l 23 i) := by rw [deepP, if_pos h, intoP, if_pos hd]
theorem deep_want {t : Bs} {d i : Nat} (h : ¬(isAt l [t] i = true ∧ d = 0)) : deepP l t d i = wantP l t i := by
  rw [deepP, wantP]
  cases g : isAt l [t] i with
  | true => rw [if_pos rfl, if_pos rfl, intoP, if_neg (fun e => h ⟨g, e⟩)]
  | false => rw [if_neg Bool.false_ne_true, if_neg Bool.false_ne_true]
theorem deep_leaf1 {t : Bs} (hs : QH l k s) {a : Unit} {j : Nat} (hq : QP l (.bad (fltAt l 23 s.i)) 0 s (.ok a j) s') (hd : s'.d = s.d) (h : (isQ l s t && decide (s.d + 1 > 40)) = true) : QP l (deepP l t (k - 1) s.i) 1 s (.ok a s'.i) s' := by
  simp only [Bool.and_eq_true, decide_eq_true_eq] at h
  obtain ⟨ho, ha⟩ := isQ_yes hs.2.1 h.1
  have hk := hs.2.2.1 ho
  have e := deep_far (d := k - 1) ha (by omega)
  obtain ⟨hg, h3, h4, h1, h2⟩ := hq
  refine ⟨hg, h3, h4, fun g => by rw [ho] at g; exact absurd rfl g, fun _ => ?_⟩
  rcases h2 ho with ⟨_, _, a⟩ | ⟨a, b, c, d⟩
  · cases a
  · exact .inr ⟨a, by rw [e, b], by omega, by omega⟩
theorem deep_leaf2 {t : Bs} (hs : QH l k s) {a : Unit} {j : Nat} (hq : QP l (wantP l t s.i) 0 s (.ok a j) s') (h : (isQ l s t && decide (s.d + 1 > 40)) = false) : QP l (deepP l t (k - 1) s.i) 1 s (.ok a j) ⟨s'.i, s'.d + 1, s'.F⟩ := by
  refine (hq.shift 1).same fun ho => ?_
  have hk := hs.2.2.1 ho
  refine (deep_want ?_).symm
  rintro ⟨h1, h2⟩
  have : isQ l s t = true := by rw [isQ, ho, h1]; rfl
  rw [this] at h
  simp only [Bool.true_and, decide_eq_false_iff_not] at h
  omega
theorem want_at {t : Bs} {i : Nat} (h : isAt l [t] i = true) : wantP l t i = .ok () (i + 1) := by rw [wantP, if_pos h]
theorem want_not {t : Bs} {i : Nat} (h : isAt l [t] i = false) : wantP l t i = .bad (fltAt l 11 i) := by rw [wantP, h, if_neg Bool.false_ne_true]
end
end Go.Proofs.YtcgdlhkiecommaaGreatDoor
/- The document's reader: rows and factors. -/




namespace Go.Proofs.YtcgdlhkiecommaaGreatDoor
open Go
section
variable {α β : Type} {l : List Tk} {X : Rd α} {dd d2 : Int} {s s' s1 s2 : Qs} {C C' : Rd α} {k : Nat}
theorem QP.call2 {Y : Rd β} {b : β} (h : QP l X dd s C s1) (hq : QP l Y d2 s1 (.ok b s2.i) s2) (hb : ∀ g, s1.F = okF → Y = .bad g → C = .bad g) (hk : s1.F = okF → Y = .ok b s2.i → C = C') : QP l X (dd + d2) s C' s2 := by
  have hbd := h.bd
  have hb2 := hq.bd
  obtain ⟨hg, h3, h4, h1, h2⟩ := h
  obtain ⟨hg', h3', h4', h1', h2'⟩ := hq
  refine ⟨hg, by omega, h4', fun g => ?_, fun g => ?_⟩
  · have e := h1 g
    have := h1' (by rw [e]; exact g)
    rw [this, e]; simp only [Int.add_assoc]
  · rcases h2 g with ⟨a, b, c⟩ | ⟨a, b, c, d⟩
    · rcases h2' a with ⟨a', b', c'⟩ | ⟨a', b', c', d'⟩
      · exact .inl ⟨a', by omega, c.trans (hk a c')⟩
      · exact .inr ⟨a', c.trans (hb _ a b'), by omega, by omega⟩
    · have e := h1' a
      refine .inr ⟨by rw [e]; exact a, by rw [e]; exact b, ?_, ?_⟩ <;> rw [e] <;> simp only <;> omega
theorem isAt_out {ts : List Bs} {i : Nat} (h : l.length ≤ i) : isAt l ts i = false := by
  rw [isAt, tokAt_out h]; simp [show (default : Tk) = ⟨0, [], 0, 0, 0⟩ from rfl]
theorem loop_in {s : Qs} (hg : s.good) (h : (s.F.code == 0 && decide ((s.i : Int) < (l.length : Int))) = true) : s.F = okF ∧ s.i < l.length := by
  simp only [Bool.and_eq_true, beq_iff_eq, decide_eq_true_eq] at h
  exact ⟨hg.okF h.1, by omega⟩
theorem loop_out {s : Qs} (h : (s.F.code == 0 && decide ((s.i : Int) < (l.length : Int))) = false) (ho : s.F = okF) : l.length ≤ s.i := by
  rw [ho, okF_code] at h
  simp only [beq_self_eq_true, Bool.true_and, decide_eq_false_iff_not] at h
  omega
theorem lev_no {i j : Nat} (h : (((tokAt l i).op != 7 && (tokAt l i).op != 2) || strR (tokAt l i).text != (j : Int)) = true) (h1 : 1 ≤ j) (h4 : j ≤ 4) : isAt l (levelL (j - 1)) i = false := by
  cases hc : isAt l (levelL (j - 1)) i with
  | false => rfl
  | true =>
    rw [isAt, Bool.and_eq_true] at hc
    have := (lev_str (by omega) hc.2).1
    have e : strR (tokAt l i).text = (j : Int) := by rw [strR, this]; omega
    rw [e] at h
    have hc1 := hc.1
    simp only [Bool.or_eq_true, beq_iff_eq] at hc1
    rcases hc1 with hc1 | hc1 <;> rw [hc1] at h <;> simp at h
theorem lev_yes {i j : Nat} (h : (((tokAt l i).op != 7 && (tokAt l i).op != 2) || strR (tokAt l i).text != (j : Int)) = false) (h1 : 1 ≤ j) (h4 : j ≤ 4) : isAt l (levelL (j - 1)) i = true := by
  simp only [Bool.or_eq_false_iff, bne_eq_false_iff_eq] at h
  obtain ⟨ha, hb⟩ := h
  have e : strengthI (tokAt l i).text = ((j - 1 : Nat) : Int) := by unfold strR at hb; omega
  have := (lev_op e).2.2 (j - 1) (by omega)
  rw [isAt, this, beq_self_eq_true, Bool.and_true]
  cases h7 : (tokAt l i).op == 7 with
  | true => simp
  | false =>
    cases h2 : (tokAt l i).op == 2 with
    | true => rfl
    | false => simp [bne, h7, h2] at ha
theorem deep_ok {t : Bs} {d i j : Nat} {u : Unit} (h : deepP l t d i = .ok u j) : d ≠ 0 ∧ j = i + 1 ∧ isAt l [t] i = true := by
  unfold deepP at h
  split at h
  · exact ⟨(into_ok h).1, (into_ok h).2, by assumption⟩
  · cases h
theorem deep_into {t : Bs} {d i : Nat} (h : isAt l [t] i = true) : deepP l t d i = intoP l d i := by rw [deepP, if_pos h]
theorem isAt_text {t : Bs} {i : Nat} (h : isAt l [t] i = true) : (tokAt l i).text = t := by
  simp only [isAt, Bool.and_eq_true, List.contains_cons, List.contains_nil, Bool.or_false, beq_iff_eq] at h
  exact h.2
theorem isAt_two {t : Bs} {i : Nat} (h : isAt l [t] i = true) (ht : t = sNot ∨ t = sMinus) : isAt l [sNot, sMinus] i = true := by
  have e := isAt_text h
  rw [isAt, Bool.and_eq_true] at h ⊢
  refine ⟨h.1, ?_⟩
  rw [e]; rcases ht with rfl | rfl <;> rfl
theorem not_two {i : Nat} (h1 : isAt l [sNot] i = false) (h2 : isAt l [sMinus] i = false) : isAt l [sNot, sMinus] i = false := by
  rw [isAt] at *
  simp only [List.contains_cons, List.contains_nil, Bool.or_false] at *
  cases ho : ((tokAt l i).op == 2 || (tokAt l i).op == 7) with
  | false => rfl
  | true => rw [ho, Bool.true_and] at h1 h2; rw [h1, h2]; rfl
theorem two_text {t : Nat} (h : t < 2) : [sNot, sMinus].getD t default = sNot ∨ [sNot, sMinus].getD t default = sMinus := by
  obtain rfl | rfl : t = 0 ∨ t = 1 := by omega
  · exact .inl rfl
  · exact .inr rfl
theorem fac_leaf {x : Bs} {a : Ex} {u : Unit} (hs : QH l k s) (hx : x = sNot ∨ x = sMinus) (ho : s.F = okF) (ha : isAt l [x] s.i = true) (h1 : QP l (deepP l x (k - 1) s.i) 1 s (.ok u s1.i) s1) (h2 : QP l (factor l (k - 1 - 1) s1.i) 0 s1 (.ok a s2.i) s2) :
    QP l (factor l (k - 1) s.i) 0 s (.ok (mkE 5 x 0 [] [a] (tokAt l s.i)) s2.i) ⟨s2.i, s2.d - 1, s2.F⟩ := by
  have hat := isAt_two ha hx
  have e := isAt_text ha
  have p1 := (QP.refl (X := factor l (k - 1) s.i) hs.2.1 hs.1).call2 h1 (C' := factor l (k - 1) s.i) (fun g _ hb => fac_into hat (by rw [← deep_into ha]; exact hb)) (fun _ _ => rfl)
  have p2 := p1.call2 h2 (C' := .ok (mkE 5 x 0 [] [a] (tokAt l s.i)) s2.i) (fun g hs1 hb => by
    obtain ⟨hd, hj, _⟩ := deep_ok (h1.ok hs1).2.2
    rw [hj] at hb; exact fac_bad hat hd hb) (fun hs1 hb => by
    obtain ⟨hd, hj, _⟩ := deep_ok (h1.ok hs1).2.2
    rw [hj] at hb
    have := fac_ok hat hd hb
    rw [e] at this; exact this)
  exact (p2.shift (-1)).to (by omega)
theorem fac_prim {s : Qs} (h : ∀ u, u < 2 → isQ l s ([sNot, sMinus].getD u default) = false) (ho : s.F = okF) : primP l (k - 1) (innerD l (k - 1)) s.i = factor l (k - 1) s.i :=
  (factor_not l (k - 1) s.i (not_two (isQ_no (h 0 (by decide)) ho) (isQ_no (h 1 (by decide)) ho))).symm
end
end Go.Proofs.YtcgdlhkiecommaaGreatDoor
/- The document's reader: what stands in a bracket behind an expression. -/

namespace Go.Proofs.YtcgdlhkiecommaaGreatDoor
open Go
def partK (e : Ex) (kids : List Ex) (t : Tk) : Ex := if e.op == 4 then .mk 5 e.name e.n e.bits e.val kids e.type e.line e.col else mkE 6 [] 0 [] [e, kids.getD 0 default] t
section
variable (l : List Tk)
def tailS (inner : Nat → Rd Ex) (e : Ex) (t : Tk) (b : Bool) (kids : List Ex) (j : Nat) : Rd Ex :=
  (if b then argsP l inner (20 - kids.length) kids j else .ok kids j).next fun ks m => (wantP l sShut m).next fun _ m2 => .ok (partK e ks t) m2
def partS (d : Nat) (inner : Nat → Rd Ex) (b : Bool) (e : Ex) (i : Nat) : Rd Ex :=
  (openP l d i).next fun _ i2 => (inner i2).next fun first j =>
    if isAt l [sDownto] j then sliceP l inner e first (tokAt l i) j else tailS l inner e (tokAt l i) b [first] j
end
section
variable {α β : Type} {l : List Tk} {X : Rd α} {dd d2 : Int} {s s' s1 s2 : Qs} {C C' : Rd α} {k : Nat} {inner : Nat → Rd Ex} {e : Ex} {t : Tk} {b : Bool} {kids : List Ex}
theorem tail_step {j j2 : Nat} {a : Ex} (hb : b = true) (h : isAt l [sComma] j = true) (hk : kids.length < 20) (h1 : inner (j + 1) = .ok a j2) : tailS l inner e t b kids j = tailS l inner e t b (kids ++ [a]) j2 := by
  subst hb; rw [tailS, tailS, if_pos rfl, if_pos rfl, args_step h hk h1]
theorem tail_bad {j : Nat} {g : Flt} (hb : b = true) (h : isAt l [sComma] j = true) (hk : kids.length < 20) (h1 : inner (j + 1) = .bad g) : tailS l inner e t b kids j = .bad g := by
  subst hb; rw [tailS, if_pos rfl, args_bad h hk h1]; rfl
theorem tail_full {j : Nat} (hb : b = true) (h : isAt l [sComma] j = true) (hk : kids.length = 20) : tailS l inner e t b kids j = .bad (fltAt l 11 j) := by
  subst hb; rw [tailS, if_pos rfl, args_full h hk]; rfl
theorem tail_stop {j : Nat} (h : b = true → isAt l [sComma] j = false) : tailS l inner e t b kids j = (wantP l sShut j).next fun _ m2 => .ok (partK e kids t) m2 := by
  cases b with
  | false => rfl
  | true => rw [tailS, if_pos rfl, args_stop (h rfl)]; rfl
theorem QP.stepF (h : QP l X dd s C s') (ho : s.F = okF) (hl : s'.i < l.length) : QP l X dd s C ⟨s'.i + 1, s'.d, s'.F⟩ := by
  obtain ⟨hg, h3, h4, h1, h2⟩ := h
  exact ⟨hg, by simp only; omega, hl, fun g => by rw [ho] at g; exact absurd rfl g, fun _ => h2 ho⟩
theorem inner_eq {d : Nat} (h : d ≠ 0) (i : Nat) : innerD l d i = rowD l (d - 1) 4 i := by rw [innerD_pos h]
theorem part_p1 {u : Unit} (hs : QH l k s) (h : QP l (deepP l sOpen (k - 1) s.i) 1 s (.ok u s1.i) s1) : QP l (partS l (k - 1) (innerD l (k - 1)) b e s.i) 1 s ((innerD l (k - 1) s1.i).next fun first j => if isAt l [sDownto] j then sliceP l (innerD l (k - 1)) e first (tokAt l s.i) j else tailS l (innerD l (k - 1)) e (tokAt l s.i) b [first] j) s1 :=
  (QP.refl (X := partS l (k - 1) (innerD l (k - 1)) b e s.i) hs.2.1 hs.1).call2 h (fun g _ hb => by rw [partS, deep_open, hb]; rfl) (fun _ hb => by rw [partS, deep_open, hb]; rfl)
theorem part_p2 {u : Unit} {a : Ex} {X : Rd Ex} {K : Ex → Nat → Rd Ex} (hd : s.F = okF) (h : QP l (deepP l sOpen (k - 1) s.i) 1 s (.ok u s1.i) s1) (hp : QP l X 1 s ((innerD l (k - 1) s1.i).next K) s1) (hq : QP l (rowD l (k - 1 - 1) 4 s1.i) 0 s1 (.ok a s2.i) s2) : QP l X 1 s (K a s2.i) s2 :=
  hp.call2 hq (fun g ho hb => by rw [inner_eq (deep_ok (h.ok ho).2.2).1, hb]; rfl) (fun ho hb => by rw [inner_eq (deep_ok (h.ok ho).2.2).1, hb]; rfl)
theorem part_sl {u u2 u3 : Unit} {a c : Ex} {X C : Rd Ex} {s3 s4 s5 : Qs} {t : Tk} (h : QP l (deepP l sOpen (k - 1) s.i) 1 s (.ok u s1.i) s1) (hk : s2.F = okF → s1.F = okF) (hp : QP l X 1 s (if isAt l [sDownto] s2.i then sliceP l (innerD l (k - 1)) e a t s2.i else C) s2) (hdn : isAt l [sDownto] s2.i = true) (ho2 : s2.F = okF)
    (h3 : QP l (wantP l sDownto s2.i) 0 s2 (.ok u2 s3.i) s3) (h4 : QP l (rowD l (k - 1 - 1) 4 s3.i) 0 s3 (.ok c s4.i) s4) (h5 : QP l (wantP l sShut s4.i) (-1) s4 (.ok u3 s5.i) s5) : QP l X 0 s (.ok (mkE 7 [] 0 [] [e, a, c] t) s5.i) s5 := by
  have hd := (deep_ok (h.ok (hk ho2)).2.2).1
  have p3 := (hp.alt fun _ => if_pos hdn).call2 h3 (C' := (innerD l (k - 1) s3.i).next fun low m => (wantP l sShut m).next fun _ m2 => .ok (mkE 7 [] 0 [] [e, a, low] t) m2) (fun g _ hb => by rw [sliceP, hb]) (fun _ hb => by
    rw [sliceP, hb]
    simp only
    cases innerD l (k - 1) s3.i with
    | bad g => rfl
    | ok low m => simp only [Rd.next]; cases wantP l sShut m <;> rfl)
  have p4 := p3.call2 h4 (C' := (wantP l sShut s4.i).next fun _ m2 => .ok (mkE 7 [] 0 [] [e, a, c] t) m2) (fun g _ hb => by rw [inner_eq hd, hb]; rfl) (fun _ hb => by rw [inner_eq hd, hb]; rfl)
  exact (p4.call2 h5 (C' := .ok (mkE 7 [] 0 [] [e, a, c] t) s5.i) (fun g _ hb => by rw [hb]; rfl) (fun _ hb => by rw [hb]; rfl)).to (by omega)
theorem part_ar {u : Unit} {a : Ex} {X : Rd Ex} {s3 : Qs} {t : Tk} (h : QP l (deepP l sOpen (k - 1) s.i) 1 s (.ok u s1.i) s1) (hk : s2.F = okF → s1.F = okF) (ho : s.F = okF) (hp : QP l X 1 s (tailS l (innerD l (k - 1)) e t b kids s2.i) s2) (hc : s2.F = okF ∧ isAt l [sComma] s2.i = true) (hb : b = true) (hn : kids.length < 20)
    (hq : QP l (rowD l (k - 1 - 1) 4 (s2.i + 1)) 0 ⟨s2.i + 1, s2.d, s2.F⟩ (.ok a s3.i) s3) : QP l X 1 s (tailS l (innerD l (k - 1)) e t b (kids ++ [a]) s3.i) s3 :=
  have hd := (deep_ok (h.ok (hk hc.1)).2.2).1
  (hp.stepF ho (isAt_lt hc.2)).call2 hq (fun g _ hbad => tail_bad hb hc.2 hn (by rw [inner_eq hd]; exact hbad)) (fun _ hok => tail_step hb hc.2 hn (by rw [inner_eq hd]; exact hok))
theorem part_fu {u : Unit} {a : Ex} {X C : Rd Ex} {s3 s4 : Qs} {t : Tk} {Y : Rd Ex} {j : Nat} (ho : s.F = okF) (hp : QP l X 1 s (tailS l inner e t b kids s2.i) s2) (hc : s2.F = okF ∧ isAt l [sComma] s2.i = true) (hb : b = true) (hn : kids.length = 20)
    (h3 : QP l (.bad (fltAt l 11 s2.i)) 0 s2 (.ok u j) s3 ∧ s3.d = s2.d ∧ s3.i = s2.i) (hq : QP l Y 0 ⟨s3.i + 1, s3.d, s3.F⟩ (.ok a s4.i) s4) : QP l X 1 s C s4 := by
  obtain ⟨h3, hd3, hi3⟩ := h3
  obtain ⟨a1, a2, a3⟩ := hp.ok hc.1
  obtain ⟨hg, g3, g4, g1, g2⟩ := h3
  rcases g2 hc.1 with ⟨_, _, hx⟩ | ⟨x1, x2, x3⟩
  · cases hx
  · have e4 := hq.2.2.2.1 x1
    have hge := hp.ge
    have hle := hq.le
    have h4i := hq.ge
    refine ⟨.inl ho, by simp only at h4i; omega, hle, fun g => by rw [ho] at g; exact absurd rfl g, fun _ => .inr ⟨?_, ?_, ?_, ?_⟩⟩
    · rw [e4]; exact x1
    · rw [e4, a3, tail_full hb hc.2 hn]; injection x2 with x2; rw [x2]
    · rw [e4]; simp only; omega
    · rw [e4]; simp only; omega
theorem part_cl {u : Unit} {X : Rd Ex} {s3 : Qs} {t : Tk} (hp : QP l X 1 s (tailS l inner e t b kids s2.i) s2) (hc : (b && isQ l s2 sComma) = false) (hq : QP l (wantP l sShut s2.i) (-1) s2 (.ok u s3.i) s3) : QP l X 0 s (.ok (partK e kids t) s3.i) s3 :=
  ((hp.alt fun ho => tail_stop (fun hb => isQ_no (by rw [hb] at hc; simpa using hc) ho)).call2 hq (C' := .ok (partK e kids t) s3.i) (fun g _ hb => by rw [hb]; rfl) (fun _ hb => by rw [hb]; rfl)).to (by omega)
end
end Go.Proofs.YtcgdlhkiecommaaGreatDoor
/- Bits of a text, the document's way. -/

namespace Go.Proofs.YtcgdlhkiecommaaGreatDoor
open Go
theorem of_bit {c : UInt8} {k : Nat} (h : ((c.toNat : Int) = (k : Int))) (hk : k < 256) : c = UInt8.ofNat k := by
  apply UInt8.toNat_inj.1
  rw [UInt8.toNat_ofNat']; omega
theorem isBitC_no {c : UInt8} (h1 : ((c.toNat : Int) == 48) = false) (h2 : ((c.toNat : Int) == 49) = false) (h3 : ((c.toNat : Int) == 120) = false) (h4 : ((c.toNat : Int) == 122) = false) : isBitC c = false := by
  have key : ∀ k : Nat, k < 256 → ((c.toNat : Int) == (k : Int)) = false → (c == UInt8.ofNat k) = false := by
    intro k hk h
    rw [beq_eq_false_iff_ne] at h ⊢
    intro e; apply h; rw [e, UInt8.toNat_ofNat']; omega
  rw [isBitC]
  have a := key 48 (by decide) h1; have b := key 49 (by decide) h2; have c1 := key 120 (by decide) h3; have d := key 122 (by decide) h4
  simp only [show (UInt8.ofNat 48) = 48 from rfl, show (UInt8.ofNat 49) = 49 from rfl, show (UInt8.ofNat 120) = 120 from rfl, show (UInt8.ofNat 122) = 122 from rfl] at a b c1 d
  rw [a, b, c1, d]; rfl
theorem isVec_facts {s : Bs} (h : isVecL s = true) : 1 ≤ s.length ∧ s.length ≤ 64 ∧ ∀ i, i < s.length → isBitC (s.getD i default) = true := by
  simp only [isVecL, Bool.and_eq_true, Bool.not_eq_true', decide_eq_true_eq, List.all_eq_true] at h
  obtain ⟨h1, h2, h3⟩ := h
  refine ⟨?_, h2, fun i hi => h3 _ (getD_mem hi)⟩
  cases s with
  | nil => cases h1
  | cons a r => simp
theorem bits_step {s : Bs} {i : Nat} (h : i < s.length) : (s.map bitCode).reverse.take (i + 1) = (s.map bitCode).reverse.take i ++ [bitCode (s.getD (s.length - 1 - i) default)] := by
  rw [List.take_succ]
  congr 1
  rw [List.getElem?_reverse (by rw [List.length_map]; exact h), List.length_map, List.getElem?_map, List.getElem?_eq_getElem (by omega), List.getD_eq_getElem?_getD, List.getElem?_eq_getElem (by omega)]
  rfl
theorem bits_all {s : Bs} (h : isVecL s = true) : (s.map bitCode).reverse.take s.length = parseBits s := by
  rw [parseBits, h, List.take_of_length_le (by simp)]; rfl
section
variable {l : List Tk} {s s' s1 s2 : Qs} {k : Nat} {b : Bool} {e : Ex} {X : Rd Ex} {kids : List Ex} {t : Tk}
theorem asE (e : Ex) : asOne true 16 ((encE e).drop 0) = some (.agg (cellsE e)) := by rw [encE_cells]; rfl
theorem comma_yes {s2 : Qs} (hg : s2.good) (h : (b && isQ l s2 sComma) = true) : b = true ∧ s2.F = okF ∧ isAt l [sComma] s2.i = true := by
  rw [Bool.and_eq_true] at h
  exact ⟨h.1, isQ_yes hg h.2⟩
theorem part_full {u : Unit} {a : Ex} {Y : Rd Ex} {g : Flt} {j j2 : Nat} {s3 s4 : Qs} (ho : s2.F = okF) (h3 : QP l (.bad g) 0 s2 (.ok u j) s3) (hq : QP l Y 0 ⟨s3.i + 1, s3.d, s3.F⟩ (.ok a j2) s4) : ¬s4.F = okF := by
  rcases h3.2.2.2.2 ho with ⟨_, _, hx⟩ | ⟨x1, _⟩
  · cases hx
  · intro h
    rw [hq.2.2.2.1 x1] at h
    simp only at h
    rw [h] at x1; exact x1 rfl
theorem part_name {j : Nat} (h : (e.op == 4) = true) (hp : QP l X 0 s (.ok (partK e kids t) j) s') : QP l X 0 s (.ok (.mk 5 e.name e.n e.bits e.val kids e.type e.line e.col) j) s' := by
  rw [partK, if_pos h] at hp; exact hp
theorem part_index {j : Nat} (h : (e.op == 4) = false) (hp : QP l X 0 s (.ok (partK e kids t) j) s') : QP l X 0 s (.ok (mkE 6 [] 0 [] [e, kids.getD 0 default] t) j) s' := by
  rw [partK, if_neg (by rw [h]; exact Bool.false_ne_true)] at hp; exact hp
end
end Go.Proofs.YtcgdlhkiecommaaGreatDoor
/- The document's reader: a primary, and all brackets behind it. -/


namespace Go.Proofs.YtcgdlhkiecommaaGreatDoor
open Go
def cellsOp (o : Option Ex) : List AVal := match o with | none => zeroE | some e => cellsE e
def exO (o : Option Ex) : Ex := match o with | none => ex0 | some e => e
theorem asO (o : Option Ex) : asOne true 16 ((cellsOp o).drop 0) = some (.agg (cellsOp o)) := by cases o <;> rfl
theorem reO (o : Option Ex) : ReA (.agg (cellsOp o)) (.agg (cellsE (exO o))) := by
  cases o with
  | none => exact .agg _ _ (by repeat (first | exact reL_nil | refine reL_cons (.same _) ?_ | refine reL_cons (.vnil _) ?_))
  | some e => exact .agg _ _ (by repeat (first | exact reL_nil | refine reL_cons (.same _) ?_))
def okE (e : Ex) : Prop := e.op = 4 → e.n = 0 ∧ e.bits = [] ∧ e.val = va0 ∧ e.type = ty0
section
variable (l : List Tk)
def contS (d : Nat) (inner : Nat → Rd Ex) (first : Bool) (e : Ex) (i : Nat) : Rd Ex :=
  if first then (if isAt l [sOpen] i then (partS l d inner true e i).next (fun e2 j => partsP l d inner (l.length - j) e2 j) else .ok e i) else partsP l d inner (l.length - i) e i
def muQ (s : Qs) : Nat := if s.F.code = 0 then l.length - s.i + 1 else 0
end
section
variable {l : List Tk} {d i j k : Nat} {inner : Nat → Rd Ex} {e e2 : Ex} {first : Bool} {s s1 s2 s3 : Qs}
theorem part_plain (h : okE e) : partS l d inner false e i = partP l d inner e i := by
  rw [partS, partP]
  cases openP l d i with
  | bad g => rfl
  | ok u i2 =>
    simp only [Rd.next]
    cases inner i2 with
    | bad g => rfl
    | ok a j =>
      simp only
      split
      · rfl
      · rw [tailS, if_neg Bool.false_ne_true]
        simp only [Rd.next]
        cases wantP l sShut j with
        | bad g => rfl
        | ok u m =>
          simp only
          rw [partK, partE]
          split
          · rename_i h4
            obtain ⟨a1, a2, a3, a4⟩ := h (by simpa using h4)
            rw [a1, a2, a3, a4]
          · rfl
theorem partS_ok {b : Bool} {j : Nat} (hn : ∀ i, (inner i).gt i l.length) (h : partS l d inner b e i = .ok e2 j) : i < j ∧ j ≤ l.length ∧ e2.op ≠ 4 := by
  rw [partS] at h
  cases h1 : openP l d i with
  | bad g => rw [h1] at h; cases h
  | ok u i2 =>
    rw [h1] at h
    simp only [Rd.next] at h
    have g1 := open_gt _ _ h1
    cases h2 : inner i2 with
    | bad g => rw [h2] at h; cases h
    | ok a j1 =>
      rw [h2] at h
      simp only at h
      have g2 := hn _ _ _ h2
      split at h
      · have g3 := slice_gt hn _ _ h
        refine ⟨by omega, g3.2, ?_⟩
        rw [sliceP] at h
        split at h
        · cases h
        · split at h
          · cases h
          · split at h
            · cases h
            · cases h; exact fun e => by cases e
      · rw [tailS] at h
        have key : ∀ ks m, (if b then argsP l inner (20 - [a].length) [a] j1 else .ok [a] j1) = Rd.ok ks m → j1 ≤ m ∧ m ≤ l.length := by
          intro ks m hk
          split at hk
          · exact args_ge hn g2.2 _ _ hk
          · cases hk; exact ⟨Nat.le_refl _, g2.2⟩
        cases h3 : (if b then argsP l inner (20 - [a].length) [a] j1 else Rd.ok [a] j1) with
        | bad g => rw [h3] at h; cases h
        | ok ks m =>
          rw [h3] at h
          have g3 := key _ _ h3
          simp only [Rd.next] at h
          cases h4 : wantP l sShut m with
          | bad g => rw [h4] at h; cases h
          | ok u2 m2 =>
            rw [h4] at h
            have g4 := want_gt _ _ h4
            simp only at h
            cases h
            refine ⟨by omega, g4.2, ?_⟩
            rw [partK]; split
            · exact fun e => by cases e
            · exact fun e => by cases e
theorem muQ_dec {b : Bool} {a : Ex} (hn : ∀ i, (inner i).gt i l.length) (ho : s2.F = okF) (hq : QP l (partS l d inner b e s2.i) 0 s2 (.ok a s3.i) s3) : muQ l s3 < muQ l s2 := by
  rw [muQ, muQ, if_pos (show s2.F.code = 0 by rw [ho]; rfl)]
  split
  · rename_i h
    have := partS_ok hn (hq.ok (hq.gd.okF h)).2.2
    omega
  · omega
theorem cont_stop (h : isAt l [sOpen] i = false) : contS l d inner first e i = .ok e i := by
  cases first with
  | true => rw [contS, if_pos rfl, h, if_neg Bool.false_ne_true]
  | false => rw [contS, if_neg Bool.false_ne_true, parts_stop h]
theorem cont_bad {g : Flt} (h : isAt l [sOpen] i = true) (hz : first = false → okE e) (h1 : partS l d inner first e i = .bad g) : contS l d inner first e i = .bad g := by
  cases first with
  | true => rw [contS, if_pos rfl, h, if_pos rfl, h1]; rfl
  | false => rw [contS, if_neg Bool.false_ne_true, parts_bad h (by rw [← part_plain (hz rfl)]; exact h1)]
theorem cont_step (hn : ∀ i, (inner i).gt i l.length) (h : isAt l [sOpen] i = true) (hz : first = false → okE e) (h1 : partS l d inner first e i = .ok e2 j) : contS l d inner first e i = contS l d inner false e2 j := by
  cases first with
  | true => rw [contS, if_pos rfl, h, if_pos rfl, h1]; rfl
  | false => rw [contS, contS, if_neg Bool.false_ne_true, if_neg Bool.false_ne_true]; exact (parts_step hn h (by rw [← part_plain (hz rfl)]; exact h1)).symm
theorem okE_part {b : Bool} (hn : ∀ i, (inner i).gt i l.length) (h : partS l d inner b e i = .ok e2 j) : okE e2 := fun h4 => absurd h4 (partS_ok hn h).2.2
theorem okE_form {e : Ex} (h : formP e = true) : okE e := by
  intro h4
  have hs := form_shape h
  obtain ⟨o, s, n, b, v, kd, t, ln, c⟩ := e
  simp only [Ex.op] at h4
  subst h4
  rw [shapeP] at hs
  cases hc : ((!noneV v || !untyped t) || ((4 : Int) != 1 && n != 0)) with
  | true => simp only [Ex.val, Ex.type, Ex.op, Ex.n, hc, cond_true] at hs; cases hs
  | false =>
    simp only [Ex.val, Ex.type, Ex.op, Ex.n, hc, cond_false] at hs
    simp only [show ((4 : Int) == 1) = false from rfl, show ((4 : Int) == 2) = false from rfl, show ((4 : Int) == 3) = false from rfl, show ((4 : Int) == 4) = true from rfl, cond_false, cond_true, Ex.bits, Ex.kids, Ex.name, Bool.and_eq_true, beq_iff_eq] at hs
    simp only [Bool.or_eq_false_iff, Bool.not_eq_false', show ((4 : Int) != 1) = true from rfl, Bool.true_and, bne_eq_false_iff_eq] at hc
    obtain ⟨⟨hv, ht⟩, hn⟩ := hc
    obtain ⟨vk, vn, vb, vl⟩ := v
    obtain ⟨tk, tl, tn, ts, te⟩ := t
    simp only [noneV, Va.kind, Va.n, Va.bits, Va.list, Bool.and_eq_true, beq_iff_eq] at hv
    simp only [untyped, Ty.kind, Ty.len, Ty.name, Ty.names, Ty.elem, Bool.and_eq_true, beq_iff_eq] at ht
    obtain ⟨⟨⟨rfl, rfl⟩, hb1⟩, hl1⟩ := hv
    obtain ⟨⟨⟨⟨rfl, rfl⟩, rfl⟩, hs1⟩, he1⟩ := ht
    have z : ∀ {α : Type} {l : List α}, (l.length : Int) = 0 → l = [] := fun h => List.length_eq_zero_iff.1 (by omega)
    have e1 := z hb1; have e2 := z hl1; have e3 := z hs1; have e4 := z he1; have e5 := z hs.1.1
    subst e1; subst e2; subst e3; subst e4; subst e5
    exact ⟨hn, rfl, rfl, rfl⟩
theorem okE_row (hw : Wr l) (h : rowD l d 4 i = .ok e j) : okE e := by
  have g := gd_all hw h
  intro h4
  have hf := g.f
  exact okE_form hf h4
theorem prim_lit3 (h : ((tokAt l i).op == 3) = true) : primP l d inner i = contS l d inner ((tokAt l i).op == 1) (mkE 1 [] (tokAt l i).n [] [] (tokAt l i)) (i + 1) := by
  rw [primP, h, if_pos rfl, show ((tokAt l i).op == 1) = false by rw [eq_of_beq h]; rfl]; rfl
theorem prim_lit4 (h3 : ((tokAt l i).op == 3) = false) (h : ((tokAt l i).op == 4) = true) : primP l d inner i = contS l d inner ((tokAt l i).op == 1) (mkE 2 [] 0 (parseBits (tokAt l i).text) [] (tokAt l i)) (i + 1) := by
  rw [primP, h3, if_neg Bool.false_ne_true, h, if_pos rfl, show ((tokAt l i).op == 1) = false by rw [eq_of_beq h]; rfl]; rfl
theorem prim_lit5 (h3 : ((tokAt l i).op == 3) = false) (h4 : ((tokAt l i).op == 4) = false) (h : ((tokAt l i).op == 5) = true) : primP l d inner i = contS l d inner ((tokAt l i).op == 1) (mkE 3 [] 0 (parseBits (tokAt l i).text) [] (tokAt l i)) (i + 1) := by
  rw [primP, h3, if_neg Bool.false_ne_true, h4, if_neg Bool.false_ne_true, h, if_pos rfl, show ((tokAt l i).op == 1) = false by rw [eq_of_beq h]; rfl]; rfl
theorem named_S (h : ((tokAt l i).op == 1) = true) : namedP l d inner i = if isAt l [sOpen] (i + 1) then partS l d inner true (mkE 4 (tokAt l i).text 0 [] [] (tokAt l i)) (i + 1) else .ok (mkE 4 (tokAt l i).text 0 [] [] (tokAt l i)) (i + 1) := by
  rw [namedP, if_pos h]
  split
  · rw [partS]
    cases openP l d (i + 1) with
    | bad g => rfl
    | ok u i2 =>
      simp only [Rd.next]
      cases inner i2 with
      | bad g => rfl
      | ok a j =>
        simp only
        split
        · rfl
        · rw [tailS, if_pos rfl]
          simp only [Rd.next, List.length_singleton]
          cases argsP l inner 19 [a] j with
          | bad g => rfl
          | ok ks m =>
            simp only
            cases wantP l sShut m <;> rfl
  · rfl
theorem prim_name (h3 : ((tokAt l i).op == 3) = false) (h4 : ((tokAt l i).op == 4) = false) (h5 : ((tokAt l i).op == 5) = false) (h : ((tokAt l i).op == 1) = true) : primP l d inner i = contS l d inner ((tokAt l i).op == 1) (mkE 4 (tokAt l i).text 0 [] [] (tokAt l i)) (i + 1) := by
  rw [primP, h3, if_neg Bool.false_ne_true, h4, if_neg Bool.false_ne_true, h5, if_neg Bool.false_ne_true, if_pos h, named_S h, h, contS, if_pos rfl]
  cases hA : isAt l [sOpen] (i + 1) with
  | true =>
    rw [if_pos rfl, if_pos rfl]
    cases partS l d inner true (mkE 4 (tokAt l i).text 0 [] [] (tokAt l i)) (i + 1) <;> rfl
  | false =>
    rw [if_neg Bool.false_ne_true, if_neg Bool.false_ne_true]
    exact parts_stop hA
theorem prim_rest (h3 : ((tokAt l i).op == 3) = false) (h4 : ((tokAt l i).op == 4) = false) (h5 : ((tokAt l i).op == 5) = false) (h : ((tokAt l i).op == 1) = false) : primP l d inner i = (openP l d i).next fun _ i2 => (inner i2).next fun e j => (wantP l sShut j).next fun _ m => contS l d inner ((tokAt l i).op == 1) e m := by
  rw [primP, h3, if_neg Bool.false_ne_true, h4, if_neg Bool.false_ne_true, h5, if_neg Bool.false_ne_true, h, if_neg Bool.false_ne_true]
  cases openP l d i with
  | bad g => rfl
  | ok u i2 =>
    simp only [Rd.next]
    cases inner i2 with
    | bad g => rfl
    | ok a j =>
      simp only
      cases wantP l sShut j <;> rfl
theorem okE_n {o : Int} {s : Bs} {n : Int} {b : List Int} {ks : List Ex} {t : Tk} (h : o ≠ 4) : okE (mkE o s n b ks t) := fun h4 => absurd h4 h
theorem okE_4 (s : Bs) (t : Tk) : okE (mkE 4 s 0 [] [] t) := fun _ => ⟨rfl, rfl, rfl, rfl⟩
theorem prim_restF (h3 : ((tokAt l i).op == 3) = false) (h4 : ((tokAt l i).op == 4) = false) (h5 : ((tokAt l i).op == 5) = false) (h : ((tokAt l i).op == 1) = false) : primP l d inner i = (openP l d i).next fun _ i2 => (inner i2).next fun e j => (wantP l sShut j).next fun _ m => contS l d inner false e m := by
  rw [prim_rest h3 h4 h5 h, h]
theorem prim_open {u u3 : Unit} {a : Ex} (hs : QH l k s) (ho : s.F = okF) (hx : primP l (k - 1) (innerD l (k - 1)) s.i = (openP l (k - 1) s.i).next fun _ i2 => (innerD l (k - 1) i2).next fun e j => (wantP l sShut j).next fun _ m => contS l (k - 1) (innerD l (k - 1)) first e m)
    (h1 : QP l (deepP l sOpen (k - 1) s.i) 1 s (.ok u s1.i) s1) (h2 : QP l (rowD l (k - 1 - 1) 4 s1.i) 0 s1 (.ok a s2.i) s2) (h3 : QP l (wantP l sShut s2.i) (-1) s2 (.ok u3 s3.i) s3) : QP l (primP l (k - 1) (innerD l (k - 1)) s.i) 0 s (contS l (k - 1) (innerD l (k - 1)) first a s3.i) s3 := by
  have p1 := ((QP.refl (X := primP l (k - 1) (innerD l (k - 1)) s.i) hs.2.1 hs.1).alt fun _ => hx).call2 h1 (C' := (innerD l (k - 1) s1.i).next fun e j => (wantP l sShut j).next fun _ m => contS l (k - 1) (innerD l (k - 1)) first e m) (fun g _ hb => by rw [deep_open, hb]; rfl) (fun _ hb => by rw [deep_open, hb]; rfl)
  have p2 := part_p2 ho h1 (p1.to (by omega)) h2
  exact (p2.call2 h3 (C' := contS l (k - 1) (innerD l (k - 1)) first a s3.i) (fun g _ hb => by rw [hb]; rfl) (fun _ hb => by rw [hb]; rfl)).to (by omega)
theorem prim_no (h3 : ((tokAt l i).op == 3) = false) (h4 : ((tokAt l i).op == 4) = false) (h5 : ((tokAt l i).op == 5) = false) (h : ((tokAt l i).op == 1) = false) (ha : isAt l [sOpen] i = false) : primP l d inner i = .bad (fltAt l 11 i) := by
  rw [prim_rest h3 h4 h5 h, openP, ha, if_neg Bool.false_ne_true]; rfl
theorem prim_early {u : Unit} {C : Rd Ex} {j : Nat} (h : (!(s.F.code == 0) || decide ((s.i : Int) ≥ (l.length : Int))) = true) (hq : QP l (.bad (fltAt l 12 s.i)) 0 s (.ok u j) s1) : QP l (primP l d inner s.i) 0 s C s1 := by
  refine qp_bad hq rfl fun ho => ?_
  rw [ho] at h
  simp only [okF_code, beq_self_eq_true, Bool.not_true, Bool.false_or, decide_eq_true_eq] at h
  have hl : l.length ≤ s.i := by omega
  have e : tokAt l s.i = ⟨0, [], 0, 0, 0⟩ := tokAt_out hl
  rw [prim_no (by rw [e]; rfl) (by rw [e]; rfl) (by rw [e]; rfl) (by rw [e]; rfl) (isAt_out hl), fltAt, fltAt, if_pos hl, if_pos hl]
theorem not_ok {u : Unit} {g : Flt} {j : Nat} (hq : QP l (.bad g) 0 s (.ok u j) s1) : ¬s1.F = okF := by
  intro h
  have := (hq.ok h).2.2
  cases this
theorem early_no {s : Qs} (hg : s.good) (h : (!(s.F.code == 0) || decide ((s.i : Int) ≥ (l.length : Int))) = false) : s.F = okF ∧ s.i < l.length := by
  simp only [Bool.or_eq_false_iff, Bool.not_eq_false', beq_iff_eq, decide_eq_false_iff_not] at h
  exact ⟨hg.okF h.1, by omega⟩
theorem poss_vec {t : Tk} (h : possT t = true) (ho : (t.op == 4) = true ∨ (t.op == 5) = true) : isVecL t.text = true := by
  rcases poss_cases h with ⟨e, _⟩ | ⟨e, _⟩ | ⟨e, _⟩ | ⟨_, _, c, hc, hb⟩ | ⟨_, _, hv⟩ | ⟨e, _⟩ | ⟨e, _⟩
  all_goals first
    | (rw [e] at ho; rcases ho with ho | ho <;> cases ho)
    | (rw [hc]; simp [isVecL, hb])
    | exact hv
end
end Go.Proofs.YtcgdlhkiecommaaGreatDoor
/- The document's reader: targets and types. -/


namespace Go.Proofs.YtcgdlhkiecommaaGreatDoor
open Go
section
variable (l : List Tk)
def typeT (sub : Nat → Rd Tr) (t : Tk) (e : Ex) (m : Nat) : Rd Tr :=
  if t.text == sArray then (wantP l sOf m).next fun _ m1 => (sub m1).next fun r k => .ok (.mk t.text [e] [r] t.line t.col) k else .ok (.mk t.text [e] [] t.line t.col) m
def typeS (plain : Bool) (sub : Nat → Rd Tr) (i : Nat) : Rd Tr :=
  if (tokAt l i).op == 1 then .ok (.mk (tokAt l i).text [] [] (tokAt l i).line (tokAt l i).col) (i + 1)
  else if isAt l [sVec] i || (isAt l [sArray] i && !plain) then
    (openP l 40 (i + 1)).next fun _ i2 => (innerD l 40 i2).next fun e j => (wantP l sShut j).next fun _ m => typeT l sub (tokAt l i) e m
  else .bad (fltAt l 11 i)
end
section
variable {l : List Tk} {i j k : Nat} {e : Ex} {s s1 s2 s3 s4 : Qs} {b : Bool} {sub : Nat → Rd Tr}
theorem name_ok {a : Tk} (ho : s.F = okF) (ha : ((tokAt l s.i).op == 1) = true) (hq : QP l (kindP l 1 s.i) 0 s (.ok a s1.i) s1) : a = tokAt l s.i ∧ s1.i = s.i + 1 ∧ s1.F = okF := by
  have e : kindP l 1 s.i = .ok (tokAt l s.i) (s.i + 1) := by rw [kindP, ha, if_pos rfl]
  rcases hq.2.2.2.2 ho with ⟨h1, _, h2⟩ | ⟨_, h2, _⟩
  · rw [e] at h2; injection h2 with h3 h4; exact ⟨h3.symm, h4.symm, h1⟩
  · rw [e] at h2; cases h2
theorem targ_no (h : ((tokAt l i).op == 1) = false) : targetP l i = .bad (fltAt l 11 i) := by rw [targetP, h, if_neg Bool.false_ne_true]
theorem targ_p {a : Tk} (hs : QH l k s) (ha : ((tokAt l s.i).op == 1) = true) (hq : QP l (kindP l 1 s.i) 0 s (.ok a s1.i) s1) : QP l (targetP l s.i) 0 s (contS l 40 (innerD l 40) false (mkE 4 (tokAt l s.i).text 0 [] [] (tokAt l s.i)) s1.i) s1 :=
  (QP.refl (X := targetP l s.i) hs.2.1 hs.1).call2 hq (fun g _ hb => by rw [kindP, ha, if_pos rfl] at hb; cases hb) (fun _ hk => by
    rw [kindP, ha, if_pos rfl] at hk
    injection hk with h3 h4
    rw [← h4, targetP, if_pos ha, contS, if_neg Bool.false_ne_true])
theorem type_early {u : Unit} {C : Rd Tr} {j : Nat} (h : (!(s.F.code == 0) || decide ((s.i : Int) ≥ (l.length : Int))) = true) (hq : QP l (.bad (fltAt l 12 s.i)) 0 s (.ok u j) s1) : QP l (typeS l b sub s.i) 0 s C s1 := by
  refine qp_bad hq rfl fun ho => ?_
  rw [ho] at h
  simp only [okF_code, beq_self_eq_true, Bool.not_true, Bool.false_or, decide_eq_true_eq] at h
  have hl : l.length ≤ s.i := by omega
  rw [typeS, tokAt_out hl, isAt_out hl, isAt_out hl, fltAt, fltAt, if_pos hl, if_pos hl]; rfl
theorem type_name (h : ((tokAt l i).op == 1) = true) : typeS l b sub i = .ok (.mk (tokAt l i).text [] [] (tokAt l i).line (tokAt l i).col) (i + 1) := by rw [typeS, if_pos h]
theorem type_fail (h : ((tokAt l i).op == 1) = false) (h2 : (isAt l [sVec] i || (isAt l [sArray] i && !b)) = false) : typeS l b sub i = .bad (fltAt l 11 i) := by
  rw [typeS, h, if_neg Bool.false_ne_true, h2, if_neg Bool.false_ne_true]
theorem isQ_all {t : Bs} (ho : s.F = okF) : isQ l s t = isAt l [t] s.i := by rw [isQ, ho]; rfl
theorem type_p {u u3 : Unit} {a : Ex} (hs : QH l 41 s) (ho : s.F = okF) (hl : s.i < l.length) (h : ((tokAt l s.i).op == 1) = false) (h2 : (isQ l s sVec || (isQ l s sArray && !b)) = true)
    (h3 : QP l (deepP l sOpen 40 (s.i + 1)) 1 ⟨s.i + 1, s.d, s.F⟩ (.ok u s1.i) s1) (h4 : QP l (rowD l (40 - 1) 4 s1.i) 0 s1 (.ok a s2.i) s2) (h5 : QP l (wantP l sShut s2.i) (-1) s2 (.ok u3 s3.i) s3) : QP l (typeS l b sub s.i) 0 s (typeT l sub (tokAt l s.i) a s3.i) s3 := by
  have e : typeS l b sub s.i = (openP l 40 (s.i + 1)).next fun _ i2 => (innerD l 40 i2).next fun e j => (wantP l sShut j).next fun _ m => typeT l sub (tokAt l s.i) e m := by
    rw [typeS, h, if_neg Bool.false_ne_true, if_pos (by rw [isQ_all ho, isQ_all ho] at h2; exact h2)]
  have p1 := (((QP.refl (X := typeS l b sub s.i) hs.2.1 hs.1).alt fun _ => e).step ho hl).call2 h3 (C' := (innerD l 40 s1.i).next fun e j => (wantP l sShut j).next fun _ m => typeT l sub (tokAt l s.i) e m) (fun g _ hb => by rw [deep_open, hb]; rfl) (fun _ hb => by rw [deep_open, hb]; rfl)
  have p2 := p1.call2 h4 (C' := (wantP l sShut s2.i).next fun _ m => typeT l sub (tokAt l s.i) a m) (fun g _ hb => by rw [inner_eq (by decide), hb]; rfl) (fun _ hb => by rw [inner_eq (by decide), hb]; rfl)
  exact (p2.call2 h5 (C' := typeT l sub (tokAt l s.i) a s3.i) (fun g _ hb => by rw [hb]; rfl) (fun _ hb => by rw [hb]; rfl)).to (by omega)
theorem type_vec {X : Rd Tr} {a : Ex} {t : Tk} (h : (t.text == sArray) = false) (hp : QP l X 0 s (typeT l sub t a s3.i) s3) : QP l X 0 s (.ok (.mk t.text [a] [] t.line t.col) s3.i) s3 :=
  hp.alt fun _ => by rw [typeT, h, if_neg Bool.false_ne_true]
theorem type_arr {X : Rd Tr} {a : Ex} {r : Tr} {u : Unit} {s5 : Qs} {t : Tk} (h : (t.text == sArray) = true) (hp : QP l X 0 s (typeT l sub t a s3.i) s3) (h4 : QP l (wantP l sOf s3.i) 0 s3 (.ok u s4.i) s4) (h5 : QP l (sub s4.i) 0 s4 (.ok r s5.i) s5) : QP l X 0 s (.ok (.mk t.text [a] [r] t.line t.col) s5.i) s5 :=
  ((hp.alt fun _ => by rw [typeT, if_pos h]).call2 h4 (C' := (sub s4.i).next fun r k => .ok (.mk t.text [a] [r] t.line t.col) k) (fun g _ hb => by rw [hb]; rfl) (fun _ hb => by rw [hb]; rfl)).call2 h5 (fun g _ hb => by rw [hb]; rfl) (fun _ hb => by rw [hb]; rfl)
theorem type_b (ho : s.F = okF) (h2 : (isQ l s sVec || (isQ l s sArray && !b)) = true) (h : ((tokAt l s.i).text == sArray) = true) : b = false := by
  rw [isQ_all ho, isQ_all ho] at h2
  cases b with
  | false => rfl
  | true =>
    simp only [Bool.not_true, Bool.and_false, Bool.or_false] at h2
    rw [isAt_text h2] at h
    exact absurd h (by decide)
end
end Go.Proofs.YtcgdlhkiecommaaGreatDoor
/- The document's reader: begun, and what a call of it hands back. -/


namespace Go.Proofs.YtcgdlhkiecommaaGreatDoor
open Go
def begQ (l : List Tk) (p : Int) : Bool := !(decide (p < 0) || decide (p > (l.length : Int))) && l.all possT
section
variable {α : Type} {l : List Tk} {s : Qs} {p : Int}
theorem beg_call {P : Program} {n : FuncId} {p : Int} (c : Nat) (hc : c < 1000) {ok : Bool}
    (h : AC P n [.list 5 (l.map encK), .v (.int .i64 p)] [] (fun r σ' => (ok = false ∧ r = .ret (.tuple [.v (.pointer none), .v (.bool false)]) ∧ σ'.keep k0 = []) ∨ (ok = true ∧ ∃ v, r = .ret (.tuple [.ptr 0 v 0 0, .v (.bool true)]) ∧ σ'.keep k0 = rq v l s []))) {σ : Store} (h1 : σ.get c = none) (hb : σ.below 1000 = true) :
    AC P n [.list 5 (l.map encK), .v (.int .i64 p)] σ (fun r σ' => (ok = false ∧ r = .ret (.tuple [.v (.pointer none), .v (.bool false)]) ∧ σ' = σ) ∨ (ok = true ∧ ∃ v, r = .ret (.tuple [.ptr c v 0 0, .v (.bool true)]) ∧ σ' = σ.put c v (.row 7 [rdq l s]))) := by
  have ht : tabOK [c] = true := by simp [tabOK, hc]
  have hf : Store.free [c] [] σ = true := by simp [Store.free, Store.get, List.range_succ]; exact h1
  have := ac_at (σ := σ) (σ0 := []) [c] ht (ac_keep k0 h) trivial hf hb (by
    rintro r σ' ⟨σ1, h1, rfl⟩ j hj
    rfl)
  refine ac_mono this ?_
  rintro r σ' ⟨r0, σ0, ⟨σ1, h1, rfl⟩, rfl, rfl⟩
  rcases h1 with ⟨e1, rfl, e2⟩ | ⟨e1, v, rfl, e2⟩
  · rw [e2]; exact .inl ⟨e1, rfl, rfl⟩
  · rw [e2]; exact .inr ⟨e1, v, rfl, rfl⟩
theorem rq_call {P : Program} {n : FuncId} {extra : List AVal} {v0 : Nat} {enc : α → AVal} {Q : α → Qs → Prop} (c : Nat) (hc : c < 1000) (hx : extra.map (AVal.rn (tab [c])) = extra) (henc : ∀ a, (enc a).rn (tab [c]) = enc a)
    (h : AC P n (.ptr 0 v0 0 0 :: extra) (rq v0 l s []) (RqK v0 l enc Q)) {σ : Store} (h1 : σ.get c = some (v0, .row 7 [rdq l s])) (hb : σ.below 1000 = true) :
    AC P n (.ptr c v0 0 0 :: extra) σ (fun r σ' => ∃ a s', Q a s' ∧ r = .ret (enc a) ∧ σ' = σ.put c v0 (.row 7 [rdq l s'])) := by
  have ht : tabOK [c] = true := by simp [tabOK, hc]
  have hf : Store.free [c] (rq v0 l s []) σ = true := by simp [Store.free, Store.get, List.range_succ]
  have hm : Store.match (tab [c]) σ (rq v0 l s []) := ⟨h1, trivial⟩
  have := ac_at (σ := σ) [c] ht (ac_keep k0 h) hm hf hb (by
    rintro r σ' ⟨σ1, h1, rfl⟩ j hj
    rcases h1 with ⟨a, s2, _, _, e2⟩
    rw [e2] at hj
    revert hj
    simp only [Store.get]
    cases Nat.beq 0 j <;> simp)
  rw [List.map_cons, hx] at this
  refine ac_mono this ?_
  rintro r σ' ⟨r0, σ0, ⟨σ1, h1, rfl⟩, rfl, rfl⟩
  rcases h1 with ⟨a, s2, e1, rfl, e2⟩
  rw [e2]; exact ⟨a, s2, e1, by simp only [AEnd.rn, henc], rfl⟩
def rdOut (z : α) (x : Rd α) : α × Int × Flt := match x with | .bad g => (z, 0, g) | .ok e j => (e, (j : Int), okF)
theorem out_bad {z a : α} {X : Rd α} {s' : Qs} (ho : s.F = okF) (hq : QP l X 0 s (.ok a s'.i) s') (h : (!(s'.F.code == 0)) = true) : rdOut z X = (z, 0, s'.F) := by
  rw [hq.bad ho (not_code h)]; rfl
theorem out_ok {z a : α} {X : Rd α} {s' : Qs} (hq : QP l X 0 s (.ok a s'.i) s') (h : (!(s'.F.code == 0)) = false) : rdOut z X = (a, (s'.i : Int), s'.F) := by
  have ho := is_code hq.gd h
  rw [(hq.ok ho).2.2, ho]; rfl
theorem beg_no (h : (decide (p < 0) || decide (p > (l.length : Int))) = true) : begQ l p = false := by rw [begQ, h]; rfl
theorem beg_im {i : Nat} (hi : i < l.length) (h : possT (l.getD i default) = false) : begQ l p = false := by
  have : l.all possT = false := List.all_eq_false.2 ⟨_, getD_mem hi, by rw [h]; exact Bool.false_ne_true⟩
  rw [begQ, this, Bool.and_false]
theorem beg_yes (h : (decide (p < 0) || decide (p > (l.length : Int))) = false) (ha : ∀ k, k < l.length → possT (l.getD k default) = true) : begQ l p = true := by
  rw [begQ, h, List.all_eq_true.2 (fun t ht => by obtain ⟨i, hi, rfl⟩ := List.getElem_of_mem ht; have := ha i hi; rwa [List.getD_eq_getElem?_getD, List.getElem?_eq_getElem hi] at this)]; rfl
theorem beg_facts {p : Int} (h : begQ l p = true) : (∀ t ∈ l, possT t = true) ∧ ∃ i : Nat, p = (i : Int) ∧ i ≤ l.length := by
  simp only [begQ, Bool.and_eq_true, Bool.not_eq_true', Bool.or_eq_false_iff, decide_eq_false_iff_not, List.all_eq_true] at h
  obtain ⟨⟨h1, h2⟩, h3⟩ := h
  obtain ⟨i, rfl⟩ := Int.eq_ofNat_of_zero_le (show 0 ≤ p by omega)
  exact ⟨h3, i, rfl, by omega⟩
theorem read_beg {p : Int} (hl : l.length ≤ 20000) : ((((textP l).2 != 0) || decide (p < 0)) || decide (p > (l.length : Int))) = !(begQ l p) := by
  have e : l.all (fun t => (wrP t).2) = l.all possT := by congr 1; funext t; exact wr_poss t
  rw [textP, if_neg (by omega), e, begQ, Bool.not_and, Bool.not_not]
  cases l.all possT <;> simp [Bool.or_assoc, Bool.or_comm]
theorem QH.first {i : Nat} (h : i ≤ l.length) : QH l 41 ⟨i, 0, okF⟩ := ⟨h, .inl rfl, fun _ => ⟨by decide, rfl⟩, Nat.le_refl _, by show (-1 : Int) ≤ 0; decide, by show (0 : Int) ≤ 41; decide⟩
theorem read_no {z : α} {p : Int} {x : Nat → Rd α} (hl : l.length ≤ 20000) (h : begQ l p = false) : readP z l p x = (z, 0, ⟨2, [], 0, 0⟩) := readP_arg (by rw [read_beg hl, h]; rfl)
theorem read_yes {z : α} {i : Nat} {x : Nat → Rd α} (hl : l.length ≤ 20000) (h : begQ l (i : Int) = true) : readP z l i x = rdOut z (x i) := by
  have hc := read_beg (p := (i : Int)) hl
  rw [h] at hc
  cases hx : x i with
  | bad g => rw [readP_bad hc hx]; rfl
  | ok a j => rw [readP_ok hc hx]; rfl
end
end Go.Proofs.YtcgdlhkiecommaaGreatDoor
/- What the document's reader reads is what the program's does; what is read is small. -/

namespace Go.Proofs.YtcgdlhkiecommaaGreatDoor
open Go
section
variable {l : List Tk} {i j : Nat} {sub sub' : Nat → Rd Tr}
theorem isAt_va {i : Nat} : isAt l [sVec, sArray] i = (isAt l [sVec] i || isAt l [sArray] i) := by
  rw [isAt, isAt, isAt]
  simp only [List.contains_cons, List.contains_nil, Bool.or_false]
  cases ((tokAt l i).op == 2 || (tokAt l i).op == 7) <;> simp
theorem isAt_op {ts : List Bs} {i : Nat} (h : ((tokAt l i).op == 1) = true) : isAt l ts i = false := by
  rw [isAt, eq_of_beq h]; rfl
theorem typeF_S (hs : ∀ m, isAt l [sArray] m = false → sub m = sub' m) (ha : ∀ m, isAt l [sArray] m = true → sub' m = .bad (fltAt l 11 m)) : typeF l sub i = typeS l false sub' i := by
  rw [typeF, typeS]
  cases h1 : (tokAt l i).op == 1 with
  | true => rw [isAt_op h1, if_neg Bool.false_ne_true]; rfl
  | false =>
    rw [if_neg Bool.false_ne_true, isAt_va, Bool.not_false, Bool.and_true]
    cases (isAt l [sVec] i || isAt l [sArray] i) with
    | false => rfl
    | true =>
      rw [if_pos rfl, if_pos rfl]
      cases openP l 40 (i + 1) with
      | bad g => rfl
      | ok u i2 =>
        simp only [Rd.next]
        cases innerD l 40 i2 with
        | bad g => rfl
        | ok e j =>
          simp only
          cases wantP l sShut j with
          | bad g => rfl
          | ok u m =>
            simp only
            rw [typeT]
            cases (tokAt l i).text == sArray with
            | false => rfl
            | true =>
              rw [if_pos rfl, if_pos rfl]
              cases wantP l sOf m with
              | bad g => rfl
              | ok u m1 =>
                simp only [Rd.next]
                cases h2 : isAt l [sArray] m1 with
                | true => rw [if_pos rfl, ha m1 h2]; rfl
                | false =>
                  rw [if_neg Bool.false_ne_true, hs m1 h2]
                  cases sub' m1 <;> rfl
theorem typeF_P (h : isAt l [sArray] i = false) : typeF l sub i = typeS l true sub' i := by
  rw [typeF, typeS]
  cases h1 : (tokAt l i).op == 1 with
  | true => rw [isAt_op h1, if_neg Bool.false_ne_true]; rfl
  | false =>
    rw [if_neg Bool.false_ne_true, isAt_va, h, Bool.false_and, Bool.or_false]
    cases hv : isAt l [sVec] i with
    | false => rfl
    | true =>
      rw [if_pos rfl, if_pos rfl]
      have ht : ((tokAt l i).text == sArray) = false := by rw [isAt_text hv]; rfl
      cases openP l 40 (i + 1) with
      | bad g => rfl
      | ok u i2 =>
        simp only [Rd.next]
        cases innerD l 40 i2 with
        | bad g => rfl
        | ok e j =>
          simp only
          cases wantP l sShut j with
          | bad g => rfl
          | ok u m => simp only; rw [typeT, ht, if_neg Bool.false_ne_true]; rfl
theorem typeS_no (h : isAt l [sArray] i = true) : typeS l true sub i = .bad (fltAt l 11 i) := by
  have h1 : ((tokAt l i).op == 1) = false := by
    cases h1 : (tokAt l i).op == 1 with
    | false => rfl
    | true => rw [isAt_op h1] at h; cases h
  have hv : isAt l [sVec] i = false := by
    cases hv : isAt l [sVec] i with
    | false => rfl
    | true => have := isAt_text hv; rw [isAt_text h] at this; exact absurd this (by decide)
  rw [typeS, h1, if_neg Bool.false_ne_true, hv, h]; rfl
theorem typeP_S : typeP l i = typeS l false (typeS l true (fun _ => .bad eofF)) i :=
  typeF_S (fun m h => typeF_P h) (fun m h => typeS_no h)
def trS (r : Tr) : Prop := r.len.length ≤ 1 ∧ r.elem.length ≤ 1 ∧ ∀ x ∈ r.len, szX x = true
theorem szX_row (hw : Wr l) {d : Nat} {e : Ex} (h : rowD l d 4 i = .ok e j) : szX e = true := by
  have g := gd_all hw h
  exact szX_form e g.f g.z
theorem szX_ex0 : szX ex0 = true := by decide
theorem in_40 (hw : Wr l) : In l 40 (innerD l 40) := fun i e j h => ⟨by decide, gd_all hw (d := 39) h⟩
theorem szX_targ (hw : Wr l) {e : Ex} (h : targetP l i = .ok e j) : szX e = true := by
  rw [targetP] at h
  split at h
  · rename_i h1
    have g := gd_parts hw (in_40 hw) _ _ _ _ _ (gd_name hw h1 (Nat.le_refl 5)) h
    exact szX_form e g.f g.z
  · cases h
theorem typeS_sz (hw : Wr l) {b : Bool} {r : Tr} (h : typeS l b sub i = .ok r j) : trS r ∧ ∀ x ∈ r.elem, ∃ m k, sub m = .ok x k := by
  rw [typeS] at h
  split at h
  · cases h; exact ⟨⟨by simp [Tr.len], by simp [Tr.elem], by simp [Tr.len]⟩, by simp [Tr.elem]⟩
  · split at h
    · cases h1 : openP l 40 (i + 1) with
      | bad g => rw [h1] at h; cases h
      | ok u i2 =>
        rw [h1] at h; simp only [Rd.next] at h
        cases h2 : innerD l 40 i2 with
        | bad g => rw [h2] at h; cases h
        | ok e j2 =>
          rw [h2] at h; simp only at h
          have hz : szX e = true := szX_row hw (d := 39) h2
          cases h3 : wantP l sShut j2 with
          | bad g => rw [h3] at h; cases h
          | ok u m =>
            rw [h3] at h; simp only at h
            rw [typeT] at h
            split at h
            · cases h4 : wantP l sOf m with
              | bad g => rw [h4] at h; cases h
              | ok u m1 =>
                rw [h4] at h; simp only [Rd.next] at h
                cases h5 : sub m1 with
                | bad g => rw [h5] at h; cases h
                | ok r2 k =>
                  rw [h5] at h; simp only at h; cases h
                  refine ⟨⟨by simp [Tr.len], by simp [Tr.elem], ?_⟩, ?_⟩
                  · intro x hx; simp only [Tr.len, List.mem_singleton] at hx; rw [hx]; exact hz
                  · intro x hx; simp only [Tr.elem, List.mem_singleton] at hx; rw [hx]; exact ⟨m1, _, h5⟩
            · cases h
              refine ⟨⟨by simp [Tr.len], by simp [Tr.elem], ?_⟩, by simp [Tr.elem]⟩
              intro x hx; simp only [Tr.len, List.mem_singleton] at hx; rw [hx]; exact hz
    · cases h
theorem typeP_sz (hw : Wr l) {r : Tr} (h : typeP l i = .ok r j) : trS r ∧ ∀ x ∈ r.elem, trS x ∧ x.elem = [] := by
  rw [typeP_S] at h
  obtain ⟨h1, h2⟩ := typeS_sz hw h
  refine ⟨h1, fun x hx => ?_⟩
  obtain ⟨m, k, h3⟩ := h2 x hx
  obtain ⟨h4, h5⟩ := typeS_sz hw h3
  refine ⟨h4, List.eq_nil_iff_forall_not_mem.2 fun y hy => ?_⟩
  obtain ⟨_, _, h6⟩ := h5 y hy
  cases h6
theorem readP_all {α : Type} {z : α} {p : Int} {x : Nat → Rd α} (P : α → Prop) (hz : P z) (hl : l.length ≤ 20000) (h : (∀ t ∈ l, possT t = true) → ∀ i a j, x i = .ok a j → P a) : P (readP z l p x).1 := by
  cases hb : begQ l p with
  | false => rw [read_no hl hb]; exact hz
  | true =>
    obtain ⟨h1, i, rfl, _⟩ := beg_facts hb
    rw [read_yes hl hb]
    cases hx : x i with
    | bad g => exact hz
    | ok a j => exact h h1 i a j hx
theorem read_type {p : Int} : readP tr0 l p (fun i => typeS l false (typeS l true (fun _ => .bad eofF)) i) = readP tr0 l p (fun i => typeP l i) := by
  congr 1; funext i; exact typeP_S.symm
end
end Go.Proofs.YtcgdlhkiecommaaGreatDoor
/- Sameness, as the reference asks it. -/

namespace Go.Proofs.YtcgdlhkiecommaaGreatDoor
open Go
theorem sameV_no {a b : Va} (h : ((((a.kind != b.kind) || (a.n != b.n)) || !(a.bits == b.bits)) || ((a.list.length : Int) != (b.list.length : Int))) = true) : sameV a b = false := by
  rw [sameV_eq, sameVs_all]
  simp only [Bool.or_eq_true, Bool.not_eq_true'] at h
  rcases h with ((h | h) | h) | h
  · have : (a.kind == b.kind) = false := by simpa using h
    rw [this]; rfl
  · have : (a.n == b.n) = false := by simpa using h
    rw [this]; simp
  · rw [h]; simp
  · rw [alls_len h]; simp
theorem sameV_yes {a b : Va} (h : ((((a.kind != b.kind) || (a.n != b.n)) || !(a.bits == b.bits)) || ((a.list.length : Int) != (b.list.length : Int))) = false) : ((a.list.length : Int) != (b.list.length : Int)) = false ∧ sameV a b = allSame sameV a.list b.list := by
  rw [sameV_eq, sameVs_all]
  simp only [Bool.or_eq_false_iff, Bool.not_eq_false', bne_eq_false_iff_eq] at h
  obtain ⟨⟨⟨h1, h2⟩, h3⟩, h4⟩ := h
  refine ⟨bne_eq_false_iff_eq.2 h4, ?_⟩
  rw [h1, h2, h3]; simp
theorem sameT_no {a b : Ty} (h : (((((a.kind != b.kind) || (a.len != b.len)) || (a.name != b.name)) || ((a.names.length : Int) != (b.names.length : Int))) || ((a.elem.length : Int) != (b.elem.length : Int))) = true) : sameT a b = false := by
  rw [sameT_eq, sameTs_all]
  simp only [Bool.or_eq_true] at h
  rcases h with (((h | h) | h) | h) | h
  · have : (a.kind == b.kind) = false := by simpa using h
    rw [this]; rfl
  · have : (a.len == b.len) = false := by simpa using h
    rw [this]; simp
  · have : (a.name == b.name) = false := by simpa using h
    rw [this]; simp
  · rw [leq_len h]; simp
  · rw [alls_len h]; simp
theorem sameT_yes {a b : Ty} (h : (((((a.kind != b.kind) || (a.len != b.len)) || (a.name != b.name)) || ((a.names.length : Int) != (b.names.length : Int))) || ((a.elem.length : Int) != (b.elem.length : Int))) = false) : ((a.names.length : Int) != (b.names.length : Int)) = false ∧ ((a.elem.length : Int) != (b.elem.length : Int)) = false ∧ sameT a b = ((a.names == b.names) && allSame sameT a.elem b.elem) := by
  rw [sameT_eq, sameTs_all]
  simp only [Bool.or_eq_false_iff, bne_eq_false_iff_eq] at h
  obtain ⟨⟨⟨⟨h1, h2⟩, h3⟩, h4⟩, h5⟩ := h
  refine ⟨bne_eq_false_iff_eq.2 h4, bne_eq_false_iff_eq.2 h5, ?_⟩
  rw [h1, h2, h3]; simp
theorem sameE_and (a b : Ex) : (((((((a.op == b.op) && (a.name == b.name)) && (a.n == b.n)) && (a.bits == b.bits)) && sameV a.val b.val) && sameT a.type b.type) && allSame sameE a.kids b.kids) = sameE a b := by
  rw [sameE_eq, sameEs_all]; simp only [Bool.and_assoc]
end Go.Proofs.YtcgdlhkiecommaaGreatDoor
