/- Writing in plain Lean: shapes, strengths, tokens, depth, names, parts. -/
import Derived.Test.YtcgdlhkiecommaaGreatDoorXRead2
set_option linter.all false
namespace Go.Proofs.YtcgdlhkiecommaaGreatDoor
open Go
/-! ### Shapes -/
def noneV (v : Va) : Bool := ((v.kind == 0 && v.n == 0) && ((v.bits.length : Int) == 0)) && ((v.list.length : Int) == 0)
def untyped (t : Ty) : Bool := (((t.kind == 0 && t.len == 0) && t.name == []) && ((t.names.length : Int) == 0)) && ((t.elem.length : Int) == 0)
def strengthI (s : Bs) : Int := if (levelL 0).contains s then 0 else if (levelL 1).contains s then 1 else if (levelL 2).contains s then 2 else if (levelL 3).contains s then 3 else -1
def isBits (b : List Int) : Bool := (decide ((b.length : Int) ≥ 1) && decide ((b.length : Int) ≤ 64)) && !(b.any fun x => !(decide (x ≤ 3)))
def oneOp (e : Ex) : Bool := ((e.kids.length : Int) == 1) && (e.name == sNot || e.name == sMinus)
def shapeP (e : Ex) : Bool :=
  bif (!noneV e.val || !untyped e.type) || (e.op != 1 && e.n != 0) then false else
  bif e.op == 1 then (((!(e.name != []) && ((e.bits.length : Int) == 0)) && ((e.kids.length : Int) == 0)) && decide (e.n ≥ 0)) && decide (e.n ≤ 2147483647) else
  bif e.op == 2 then ((!(e.name != []) && ((e.bits.length : Int) == 1)) && ((e.kids.length : Int) == 0)) && isBits e.bits else
  bif e.op == 3 then (!(e.name != []) && ((e.kids.length : Int) == 0)) && isBits e.bits else
  bif e.op == 4 then (((e.bits.length : Int) == 0) && ((e.kids.length : Int) == 0)) && isNameL e.name else
  bif e.op == 5 then (bif decide ((e.bits.length : Int) > 0) then false else (oneOp e || (((e.kids.length : Int) == 2) && decide (strengthI e.name ≥ 0))) || ((decide ((e.kids.length : Int) ≥ 1) && decide ((e.kids.length : Int) ≤ 20)) && isNameL e.name)) else
  bif e.op == 6 then ((!(e.name != []) && ((e.bits.length : Int) == 0)) && ((e.kids.length : Int) == 2)) && ((e.kids.getD 0 default).op != 4) else
  bif e.op == 7 then (!(e.name != []) && ((e.bits.length : Int) == 0)) && ((e.kids.length : Int) == 3) else false
mutual
def shapesP : Ex → Nat → Bool
  | .mk o s n b v k t l c, d => (decide ((d : Int) ≤ 20000) && shapeP (.mk o s n b v k t l c)) && !(shapesPs k (d + 1))
def shapesPs : List Ex → Nat → Bool
  | [], _ => false
  | e :: r, d => !(shapesP e d) || shapesPs r d
end
theorem shapesP_eq (e : Ex) (d : Nat) : shapesP e d = ((decide ((d : Int) ≤ 20000) && shapeP e) && !(e.kids.any fun k => !(shapesP k (d + 1)))) := by
  have h : ∀ l : List Ex, shapesPs l (d + 1) = l.any fun k => !(shapesP k (d + 1)) := by
    intro l
    induction l with
    | nil => simp [shapesPs]
    | cons a l ih => simp [shapesPs, ih]
  rw [← h]
  cases e; rfl
mutual
def formP : Ex → Bool
  | .mk o s n b v k t l c => shapeP (.mk o s n b v k t l c) && formPs k
def formPs : List Ex → Bool
  | [] => true
  | e :: r => formP e && formPs r
end
/-! ### What is written -/
def bindsP (e : Ex) : Int := bif e.op != 5 || isNameL e.name then 5 else bif (e.kids.length : Int) == 1 then 4 else strengthI e.name
def tkS (s : Bs) : Tk := ⟨if isWordL s then 2 else 7, s, 0, 0, 0⟩
def tkN (s : Bs) : Tk := ⟨1, s, 0, 0, 0⟩
def bitC (x : Int) : UInt8 := ([48, 49, 120, 122] : Bs).getD x.toNat default
def bitsT (b : List Int) : Bs := (b.map bitC).reverse
def inBr (t : List Tk) : List Tk := tkS sOpen :: (t ++ [tkS sShut])
def kidT (kids : List Ex) (ts : List (List Tk)) (i : Nat) (least : Int) : List Tk := if bindsP (kids.getD i default) < least then inBr (ts.getD i []) else ts.getD i []
def sepT (s : Bs) : List (List Tk) → List Tk
  | [] => []
  | [t] => t
  | t :: r => t ++ (tkS s :: sepT s r)
def leftP (k : Int) : Int := bif k == 1 then k + 1 else k
def toksOf (e : Ex) (ts : List (List Tk)) : List Tk :=
  bif e.op == 1 then [⟨3, [], e.n, 0, 0⟩] else
  bif e.op == 2 then [⟨4, bitsT e.bits, 0, 0, 0⟩] else
  bif e.op == 3 then [⟨5, bitsT e.bits, 0, 0, 0⟩] else
  bif e.op == 4 then [tkN e.name] else
  bif e.op == 6 then kidT e.kids ts 0 5 ++ inBr (ts.getD 1 []) else
  bif e.op == 7 then kidT e.kids ts 0 5 ++ inBr (sepT sDownto (ts.drop 1)) else
  bif bindsP e == 5 then tkN e.name :: inBr (sepT sComma ts) else
  bif bindsP e == 4 then tkS e.name :: kidT e.kids ts 0 4 else
  kidT e.kids ts 0 (leftP (bindsP e)) ++ (tkS e.name :: kidT e.kids ts 1 (bindsP e + 1))
def kidD (kids : List Ex) (ds : List Nat) (i : Nat) (least : Int) : Nat := if bindsP (kids.getD i default) < least then ds.getD i 0 + 1 else ds.getD i 0
def maxL : List Nat → Nat
  | [] => 0
  | a :: r => max a (maxL r)
def depOf (e : Ex) (ds : List Nat) : Nat :=
  bif e.op == 1 then 0 else bif e.op == 2 then 0 else bif e.op == 3 then 0 else bif e.op == 4 then 0 else
  bif e.op == 6 then max (kidD e.kids ds 0 5) (ds.getD 1 0 + 1) else
  bif e.op == 7 then max (kidD e.kids ds 0 5) (maxL (ds.drop 1) + 1) else
  bif bindsP e == 5 then maxL ds + 1 else
  bif bindsP e == 4 then kidD e.kids ds 0 4 + 1 else
  max (kidD e.kids ds 0 (leftP (bindsP e))) (kidD e.kids ds 1 (bindsP e + 1))
mutual
def toks : Ex → List Tk
  | .mk o s n b v k t l c => toksOf (.mk o s n b v k t l c) (toksL k)
def toksL : List Ex → List (List Tk)
  | [] => []
  | e :: r => toks e :: toksL r
end
mutual
def dep : Ex → Nat
  | .mk o s n b v k t l c => depOf (.mk o s n b v k t l c) (depL k)
def depL : List Ex → List Nat
  | [] => []
  | e :: r => dep e :: depL r
end
theorem toksL_map (l : List Ex) : toksL l = l.map toks := by
  induction l with
  | nil => simp [toksL]
  | cons a l ih => simp [toksL, ih]
theorem depL_map (l : List Ex) : depL l = l.map dep := by
  induction l with
  | nil => simp [depL]
  | cons a l ih => simp [depL, ih]
theorem toks_eq (e : Ex) : toks e = toksOf e (e.kids.map toks) := by rw [← toksL_map]; cases e; rfl
theorem dep_eq (e : Ex) : dep e = depOf e (e.kids.map dep) := by rw [← depL_map]; cases e; rfl
def validP (e : Ex) : Bool := shapesP e 0 && decide (((dep e : Nat) : Int) ≤ 40)
mutual
def toksR : Tr → List Tk
  | .mk s l e i c => bif (l.length : Int) == 0 then [tkN s] else tkS s :: (inBr (sepT [] (l.map toks)) ++ toksRs e)
def toksRs : List Tr → List Tk
  | [] => []
  | r :: t => tkS sOf :: (toksR r ++ toksRs t)
end
theorem toksR_eq (r : Tr) : toksR r = bif (r.len.length : Int) == 0 then [tkN r.name] else tkS r.name :: (inBr (sepT [] (r.len.map toks)) ++ toksRs r.elem) := by cases r; rfl
theorem toksRs_snoc (l : List Tr) (x : Tr) : toksRs (l ++ [x]) = toksRs l ++ (tkS sOf :: toksR x) := by
  induction l with
  | nil => simp [toksRs]
  | cons a l ih => simp only [List.cons_append, toksRs, ih, List.append_assoc]
mutual
def depR : Tr → Nat
  | .mk s l e i c => bif (l.length : Int) == 0 then 0 else max (maxL (l.map dep) + 1) (depRs e)
def depRs : List Tr → Nat
  | [] => 0
  | r :: t => max (depR r) (depRs t)
end
theorem depR_eq (r : Tr) : depR r = bif (r.len.length : Int) == 0 then 0 else max (maxL (r.len.map dep) + 1) (depRs r.elem) := by cases r; rfl
theorem depRs_snoc (l : List Tr) (x : Tr) : depRs (l ++ [x]) = max (depRs l) (depR x) := by
  induction l with
  | nil => simp [depRs]
  | cons a l ih => simp only [List.cons_append, depRs, ih]; omega
def okR (r : Tr) : Bool := decide (((depR r : Nat) : Int) ≤ 40)
mutual
def validR : Tr → Bool
  | .mk s l e i c =>
    bif s == sVec then ((((l.length : Int) == 1) && ((e.length : Int) == 0)) && validP (l.getD 0 default)) && okR (.mk s l e i c) else
    bif s == sArray then (((((l.length : Int) == 1) && ((e.length : Int) == 1)) && validP (l.getD 0 default)) && ((e.getD 0 default).name != sArray)) && validRs e && okR (.mk s l e i c) else
    (isNameL s && ((l.length : Int) == 0)) && ((e.length : Int) == 0)
def validRs : List Tr → Bool
  | [] => true
  | r :: _ => validR r
end
theorem validR_eq (r : Tr) : validR r =
    bif r.name == sVec then ((((r.len.length : Int) == 1) && ((r.elem.length : Int) == 0)) && validP (r.len.getD 0 default)) && okR r else
    bif r.name == sArray then (((((r.len.length : Int) == 1) && ((r.elem.length : Int) == 1)) && validP (r.len.getD 0 default)) && ((r.elem.getD 0 default).name != sArray)) && validRs r.elem && okR r else
    (isNameL r.name && ((r.len.length : Int) == 0)) && ((r.elem.length : Int) == 0) := by cases r; rfl
theorem validRs_eq {l : List Tr} (h : 0 < l.length) : validRs l = validR (l.getD 0 default) := by
  cases l with
  | nil => simp at h
  | cons a l => rfl
/-! ### Names, targets -/
def addName (out : List Bs) (t : Tk) : List Bs := if t.op == 1 && !(out.contains t.text) then out ++ [t.text] else out
def namesT (l : List Tk) : List Bs := l.foldl addName []
def targE (e : Ex) : Bool := e.op == 4 || ((e.op == 5 && ((e.kids.length : Int) == 1)) && isNameL e.name)
mutual
def isTargP : Ex → Bool
  | .mk o s n b v k t l c => bif (o == 6 || o == 7) then isTargH k else targE (.mk o s n b v k t l c)
def isTargH : List Ex → Bool
  | [] => false
  | e :: _ => isTargP e
end
theorem isTargP_eq (e : Ex) : isTargP e = bif (e.op == 6 || e.op == 7) then isTargH e.kids else targE e := by cases e; rfl
theorem isTargH_eq {l : List Ex} (h : 0 < l.length) : isTargH l = isTargP (l.getD 0 default) := by
  cases l with
  | nil => simp at h
  | cons a l => rfl
/-! ### Few parts -/
mutual
def partsV : Va → Int → Int
  | .mk _ _ b l, n => partsVs l (n - (1 + b.length))
def partsVs : List Va → Int → Int
  | [], n => n
  | v :: r, n => if n < 0 then n else partsVs r (partsV v n)
end
mutual
def partsE : Ex → Int → Nat → Int
  | .mk _ s _ b v k t _ _, n, d =>
    if 300 < d then -1 else partsEs k (n - (((((1 + (b.length : Int)) + (s.length / 50 : Nat)) + v.bits.length) + v.list.length) + t.names.length + t.elem.length)) d
def partsEs : List Ex → Int → Nat → Int
  | [], n, _ => n
  | e :: r, n, d => if n < 0 then n else partsEs r (partsE e n (d + 1)) d
end
/-! ### Small facts for the walks -/
theorem str_more {s : Bs} {i : Nat} (h : ∀ k, k < i → (levelL k).contains s = false) (h1 : (levelL i).contains s = false) : ∀ k, k < i + 1 → (levelL k).contains s = false := by
  intro k hk
  rcases Nat.lt_or_ge k i with h2 | h2
  · exact h k h2
  · rw [show k = i by omega]; exact h1
theorem str_found {s : Bs} (i : Nat) (hi : i < 4) (h : ∀ k, k < i → (levelL k).contains s = false) (h1 : (levelL i).contains s = true) : strengthI s = (i : Int) := by
  unfold strengthI
  rcases i with _ | _ | _ | _ | i
  · rw [if_pos h1]; rfl
  · rw [if_neg (by rw [h 0 (by omega)]; exact Bool.false_ne_true), if_pos h1]; rfl
  · rw [if_neg (by rw [h 0 (by omega)]; exact Bool.false_ne_true), if_neg (by rw [h 1 (by omega)]; exact Bool.false_ne_true), if_pos h1]; rfl
  · rw [if_neg (by rw [h 0 (by omega)]; exact Bool.false_ne_true), if_neg (by rw [h 1 (by omega)]; exact Bool.false_ne_true), if_neg (by rw [h 2 (by omega)]; exact Bool.false_ne_true), if_pos h1]; rfl
  · omega
theorem str_none {s : Bs} (h : ∀ k, k < 4 → (levelL k).contains s = false) : strengthI s = -1 := by
  unfold strengthI
  rw [if_neg (by rw [h 0 (by omega)]; exact Bool.false_ne_true), if_neg (by rw [h 1 (by omega)]; exact Bool.false_ne_true), if_neg (by rw [h 2 (by omega)]; exact Bool.false_ne_true), if_neg (by rw [h 3 (by omega)]; exact Bool.false_ne_true)]
theorem str_range (s : Bs) : -1 ≤ strengthI s ∧ strengthI s ≤ 3 := by
  unfold strengthI
  repeat' split
  all_goals omega
theorem binds_range (e : Ex) : -1 ≤ bindsP e ∧ bindsP e ≤ 5 := by
  have := str_range e.name
  unfold bindsP
  cases (e.op != 5 || isNameL e.name) <;> cases (((e.kids.length : Int) == 1)) <;> simp <;> omega
theorem findIdx_at {α : Type} [Inhabited α] {p : α → Bool} {l : List α} (i : Nat) (hi : i < l.length) (h : ∀ k, k < i → p (l.getD k default) = false) (h1 : p (l.getD i default) = true) : l.findIdx p = i := by
  have e : ∀ k (hk : k < l.length), l.getD k default = l[k] := fun k hk => by rw [List.getD_eq_getElem?_getD, List.getElem?_eq_getElem hk]; rfl
  refine (List.findIdx_eq hi).2 ⟨by rw [← e i hi]; exact h1, fun j hj => by rw [← e j (by omega)]; exact h j hj⟩
theorem idx_more {p : Nat → Bool} {i : Nat} (h : ∀ k, k < i → p k = false) (h1 : p i = false) : ∀ k, k < i + 1 → p k = false := by
  intro k hk
  rcases Nat.lt_or_ge k i with h2 | h2
  · exact h k h2
  · rw [show k = i by omega]; exact h1
theorem any_found {α : Type} [Inhabited α] {p : α → Bool} {l : List α} (i : Nat) (hi : i < l.length) (h : p (l.getD i default) = true) : l.any p = true := by
  rw [List.any_eq_true]; exact ⟨_, getD_mem hi, h⟩
theorem any_none {α : Type} [Inhabited α] {p : α → Bool} {l : List α} (h : ∀ k, k < l.length → p (l.getD k default) = false) : l.any p = false := by
  rw [List.any_eq_false]
  intro x hx
  obtain ⟨k, hk, rfl⟩ := List.getElem_of_mem hx
  have := h k hk
  rw [List.getD_eq_getElem?_getD, List.getElem?_eq_getElem hk] at this
  simpa using this
end Go.Proofs.YtcgdlhkiecommaaGreatDoor
