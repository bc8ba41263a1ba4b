/- Reading in plain Lean: rows of operators, factors, what stands in brackets, targets, types. -/
import Derived.Test.YtcgdlhkiecommaaGreatDoorXTree
set_option linter.unusedVariables false
set_option linter.all false
namespace Go.Proofs.YtcgdlhkiecommaaGreatDoor
open Go
inductive Rd (α : Type) where
  | bad (f : Flt)
  | ok (a : α) (at' : Nat)
def levelsL : List (List Bs) := [[[97, 110, 100], [111, 114], [120, 111, 114], [110, 97, 110, 100], [110, 111, 114], [120, 110, 111, 114]], [[61], [47, 61], [60], [60, 61], [62], [62, 61]], [[43], [45], [38]], [[42], [47], [109, 111, 100], [115, 104, 108], [115, 104, 114]]]
def levelL (k : Nat) : List Bs := levelsL.getD k []
def sOpen : Bs := [40]
def sShut : Bs := [41]
def sComma : Bs := [44]
def sDownto : Bs := [100, 111, 119, 110, 116, 111]
def sNot : Bs := [110, 111, 116]
def sMinus : Bs := [45]
def sVec : Bs := [118, 101, 99]
def sArray : Bs := [97, 114, 114, 97, 121]
def sOf : Bs := [111, 102]
def eofF : Flt := ⟨12, [], 0, 0⟩
def textT (t : Tk) : Bs := if t.op == 3 then Lib.itoa t.n else t.text
def mkE (op : Int) (name : Bs) (n : Int) (bits : List Int) (kids : List Ex) (t : Tk) : Ex := .mk op name n bits va0 kids ty0 t.line t.col
section
variable (l : List Tk)
def tokAt (i : Nat) : Tk := l.getD i default
def fltAt (code : Int) (i : Nat) : Flt := if l.length ≤ i then eofF else ⟨code, textT (tokAt l i), (tokAt l i).line, (tokAt l i).col⟩
def isAt (texts : List Bs) (i : Nat) : Bool := ((tokAt l i).op == 2 || (tokAt l i).op == 7) && texts.contains (tokAt l i).text
def wantP (text : Bs) (i : Nat) : Rd Unit := if isAt l [text] i then .ok () (i + 1) else .bad (fltAt l 11 i)
/-- One deeper; d: how much deeper it may go. -/
def intoP (d : Nat) (i : Nat) : Rd Unit := if d = 0 then .bad (fltAt l 23 i) else .ok () (i + 1)
def kindP (k : Int) (i : Nat) : Rd Tk := if (tokAt l i).op == k then .ok (tokAt l i) (i + 1) else .bad (fltAt l 11 i)
def openP (d : Nat) (i : Nat) : Rd Unit := if isAt l [sOpen] i then intoP l d i else .bad (fltAt l 11 i)
/-- A row of operators of one strength. -/
def rowLoop (nxt : Nat → Rd Ex) (k : Nat) : Nat → Ex → Nat → Rd Ex
  | 0, left, i => .ok left i
  | f + 1, left, i =>
    if isAt l (levelL k) i then
      match nxt (i + 1) with
      | .bad g => .bad g
      | .ok e j => if k = 1 then .ok (mkE 5 (tokAt l i).text 0 [] [left, e] (tokAt l i)) j else rowLoop nxt k f (mkE 5 (tokAt l i).text 0 [] [left, e] (tokAt l i)) j
    else .ok left i
/-- m: how many strengths there are from this one on. -/
def rowP (fac : Nat → Rd Ex) : Nat → Nat → Rd Ex
  | 0, i => fac i
  | m + 1, i =>
    match rowP fac m i with
    | .bad g => .bad g
    | .ok e j => rowLoop l (rowP fac m) (3 - m) (l.length - j) e j
/-- The second half of a slice. -/
def sliceP (inner : Nat → Rd Ex) (e high : Ex) (t : Tk) (j : Nat) : Rd Ex :=
  match wantP l sDownto j with
  | .bad g => .bad g
  | .ok _ j1 =>
    match inner j1 with
    | .bad g => .bad g
    | .ok low k =>
      match wantP l sShut k with
      | .bad g => .bad g
      | .ok _ m => .ok (mkE 7 [] 0 [] [e, high, low] t) m
/-- Arguments behind the first; f: how many more there may be. -/
def argsP (inner : Nat → Rd Ex) : Nat → List Ex → Nat → Rd (List Ex)
  | 0, kids, j => if isAt l [sComma] j then .bad (fltAt l 11 j) else .ok kids j
  | f + 1, kids, j =>
    if isAt l [sComma] j then
      match inner (j + 1) with
      | .bad g => .bad g
      | .ok e k => argsP inner f (kids ++ [e]) k
    else .ok kids j
/-- A name, and its first bracket. -/
def namedP (d : Nat) (inner : Nat → Rd Ex) (i : Nat) : Rd Ex :=
  if (tokAt l i).op == 1 then
    if isAt l [sOpen] (i + 1) then
      match openP l d (i + 1) with
      | .bad g => .bad g
      | .ok _ i2 =>
        match inner i2 with
        | .bad g => .bad g
        | .ok first j =>
          if isAt l [sDownto] j then sliceP l inner (mkE 4 (tokAt l i).text 0 [] [] (tokAt l i)) first (tokAt l (i + 1)) j
          else
            match argsP l inner 19 [first] j with
            | .bad g => .bad g
            | .ok kids k =>
              match wantP l sShut k with
              | .bad g => .bad g
              | .ok _ m => .ok (mkE 5 (tokAt l i).text 0 [] kids (tokAt l i)) m
    else .ok (mkE 4 (tokAt l i).text 0 [] [] (tokAt l i)) (i + 1)
  else .bad (fltAt l 11 i)
def partE (e first : Ex) (t : Tk) : Ex := if e.op == 4 then .mk 5 e.name 0 [] va0 [first] ty0 e.line e.col else mkE 6 [] 0 [] [e, first] t
/-- One bracket behind an expression. -/
def partP (d : Nat) (inner : Nat → Rd Ex) (e : Ex) (i : Nat) : Rd Ex :=
  match openP l d i with
  | .bad g => .bad g
  | .ok _ i2 =>
    match inner i2 with
    | .bad g => .bad g
    | .ok first j =>
      if isAt l [sDownto] j then sliceP l inner e first (tokAt l i) j
      else
        match wantP l sShut j with
        | .bad g => .bad g
        | .ok _ m => .ok (partE e first (tokAt l i)) m
/-- All brackets behind an expression. -/
def partsP (d : Nat) (inner : Nat → Rd Ex) : Nat → Ex → Nat → Rd Ex
  | 0, e, i => .ok e i
  | f + 1, e, i =>
    if isAt l [sOpen] i then
      match partP l d inner e i with
      | .bad g => .bad g
      | .ok e2 j => partsP d inner f e2 j
    else .ok e i
def primP (d : Nat) (inner : Nat → Rd Ex) (i : Nat) : Rd Ex :=
  if (tokAt l i).op == 3 then partsP l d inner (l.length - (i + 1)) (mkE 1 [] (tokAt l i).n [] [] (tokAt l i)) (i + 1)
  else if (tokAt l i).op == 4 then partsP l d inner (l.length - (i + 1)) (mkE 2 [] 0 (parseBits (tokAt l i).text) [] (tokAt l i)) (i + 1)
  else if (tokAt l i).op == 5 then partsP l d inner (l.length - (i + 1)) (mkE 3 [] 0 (parseBits (tokAt l i).text) [] (tokAt l i)) (i + 1)
  else if (tokAt l i).op == 1 then
    match namedP l d inner i with
    | .bad g => .bad g
    | .ok e j => partsP l d inner (l.length - j) e j
  else
    match openP l d i with
    | .bad g => .bad g
    | .ok _ i2 =>
      match inner i2 with
      | .bad g => .bad g
      | .ok e j =>
        match wantP l sShut j with
        | .bad g => .bad g
        | .ok _ m => partsP l d inner (l.length - m) e m
/-- not and - of one; sub: the same, one deeper. -/
def facP (d : Nat) (sub : Nat → Rd Ex) (i : Nat) : Rd Ex :=
  if isAt l [sNot, sMinus] i then
    match intoP l d i with
    | .bad g => .bad g
    | .ok _ i1 =>
      match sub i1 with
      | .bad g => .bad g
      | .ok e j => .ok (mkE 5 (tokAt l i).text 0 [] [e] (tokAt l i)) j
  else primP l d (rowP l sub 4) i
/-- A factor that may be nested d deep. -/
def factor : Nat → Nat → Rd Ex
  | 0 => facP l 0 (fun _ => .bad eofF)
  | d + 1 => facP l (d + 1) (factor d)
/-- A row that may be nested d deep. -/
def rowD (d m i : Nat) : Rd Ex := rowP l (factor l d) m i
/-- What stands inside of one more bracket. -/
def innerD : Nat → Nat → Rd Ex
  | 0 => rowP l (fun _ => .bad eofF) 4
  | d + 1 => rowP l (factor l d) 4
def targetP (i : Nat) : Rd Ex :=
  if (tokAt l i).op == 1 then partsP l 40 (innerD l 40) (l.length - (i + 1)) (mkE 4 (tokAt l i).text 0 [] [] (tokAt l i)) (i + 1)
  else .bad (fltAt l 11 i)
def typeF (sub : Nat → Rd Tr) (i : Nat) : Rd Tr :=
  if isAt l [sVec, sArray] i then
    match openP l 40 (i + 1) with
    | .bad g => .bad g
    | .ok _ i2 =>
      match innerD l 40 i2 with
      | .bad g => .bad g
      | .ok e j =>
        match wantP l sShut j with
        | .bad g => .bad g
        | .ok _ m =>
          if (tokAt l i).text == sArray then
            match wantP l sOf m with
            | .bad g => .bad g
            | .ok _ m1 =>
              if isAt l [sArray] m1 then .bad (fltAt l 11 m1)
              else match sub m1 with
                | .bad g => .bad g
                | .ok r k => .ok (.mk (tokAt l i).text [e] [r] (tokAt l i).line (tokAt l i).col) k
          else .ok (.mk (tokAt l i).text [e] [] (tokAt l i).line (tokAt l i).col) m
  else if (tokAt l i).op == 1 then .ok (.mk (tokAt l i).text [] [] (tokAt l i).line (tokAt l i).col) (i + 1)
  else .bad (fltAt l 11 i)
def type0 (i : Nat) : Rd Tr := typeF l (fun _ => .bad eofF) i
def typeP (i : Nat) : Rd Tr := typeF l (type0 l) i
theorem facP_factor (d : Nat) : factor l d = facP l d (match d with | 0 => fun _ => .bad eofF | e + 1 => factor l e) := by cases d <;> rfl
theorem innerD_eq (d : Nat) : innerD l d = rowP l (match d with | 0 => fun _ => .bad eofF | e + 1 => factor l e) 4 := by cases d <;> rfl
theorem factor_not (d i : Nat) (h : isAt l [sNot, sMinus] i = false) : factor l d i = primP l d (innerD l d) i := by
  rw [facP_factor, innerD_eq, facP, if_neg (by rw [h]; exact Bool.false_ne_true)]
/-! ### What is read takes at least one token -/
def Rd.gt {α : Type} (r : Rd α) (i : Nat) (n : Nat) : Prop := ∀ a j, r = .ok a j → i < j ∧ j ≤ n
end
section
variable {l : List Tk}
theorem tokAt_out {i : Nat} (h : l.length ≤ i) : tokAt l i = default := by
  simp [tokAt, List.getD_eq_getElem?_getD, List.getElem?_eq_none h]
theorem isAt_lt {texts : List Bs} {i : Nat} (h : isAt l texts i = true) : i < l.length := by
  rcases Nat.lt_or_ge i l.length with h1 | h1
  · exact h1
  · rw [isAt, tokAt_out h1] at h
    simp [show (default : Tk) = ⟨0, [], 0, 0, 0⟩ from rfl] at h
theorem op_lt {i : Nat} {k : Int} (h : (tokAt l i).op = k) (hk : k ≠ 0) : i < l.length := by
  rcases Nat.lt_or_ge i l.length with h1 | h1
  · exact h1
  · rw [tokAt_out h1, show (default : Tk) = ⟨0, [], 0, 0, 0⟩ from rfl] at h
    exact absurd h.symm hk
theorem want_gt {s : Bs} {i : Nat} : (wantP l s i).gt i l.length := by
  intro a j h
  unfold wantP at h
  split at h
  · rename_i h1
    have := isAt_lt h1
    cases h; omega
  · cases h
theorem into_gt {d i : Nat} (h1 : i < l.length) : (intoP l d i).gt i l.length := by
  intro a j h
  unfold intoP at h
  split at h
  · cases h
  · cases h; omega
theorem open_gt {d i : Nat} : (openP l d i).gt i l.length := by
  intro a j h
  unfold openP at h
  split at h
  · rename_i h1
    exact into_gt (isAt_lt h1) a j h
  · cases h
theorem rowLoop_ge {nxt : Nat → Rd Ex} (hn : ∀ i, (nxt i).gt i l.length) {k f : Nat} {e : Ex} {i : Nat} (hi : i ≤ l.length) : ∀ a j, rowLoop l nxt k f e i = .ok a j → i ≤ j ∧ j ≤ l.length := by
  induction f generalizing e i with
  | zero => intro a j h; rw [rowLoop] at h; cases h; omega
  | succ f ih =>
    intro a j h
    rw [rowLoop] at h
    split at h
    · split at h
      · cases h
      · rename_i e2 j2 h2
        have := hn _ _ _ h2
        split at h
        · cases h; omega
        · have := ih this.2 a j h; omega
    · cases h; omega
theorem row_gt {fac : Nat → Rd Ex} (hf : ∀ i, (fac i).gt i l.length) (m : Nat) : ∀ i, (rowP l fac m i).gt i l.length := by
  induction m with
  | zero => exact hf
  | succ m ih =>
    intro i a j h
    rw [rowP] at h
    split at h
    · cases h
    · rename_i e2 j2 h2
      have h3 := ih _ _ _ h2
      have := rowLoop_ge ih h3.2 a j h
      omega
theorem slice_gt {inner : Nat → Rd Ex} (hf : ∀ i, (inner i).gt i l.length) {e h : Ex} {t : Tk} {i : Nat} : (sliceP l inner e h t i).gt i l.length := by
  intro a j h
  unfold sliceP at h
  split at h
  · cases h
  · rename_i h2
    have h3 := want_gt _ _ h2
    split at h
    · cases h
    · rename_i h4
      have h5 := hf _ _ _ h4
      split at h
      · cases h
      · rename_i h6
        have h7 := want_gt _ _ h6
        cases h; omega
theorem args_ge {inner : Nat → Rd Ex} (hf : ∀ i, (inner i).gt i l.length) {f : Nat} {kids : List Ex} {i : Nat} (hi : i ≤ l.length) : ∀ a j, argsP l inner f kids i = .ok a j → i ≤ j ∧ j ≤ l.length := by
  induction f generalizing kids i with
  | zero =>
    intro a j h; rw [argsP] at h
    split at h
    · cases h
    · cases h; omega
  | succ f ih =>
    intro a j h
    rw [argsP] at h
    split at h
    · split at h
      · cases h
      · rename_i e2 j2 h2
        have := hf _ _ _ h2
        have := ih this.2 a j h
        omega
    · cases h; omega
theorem named_gt {d : Nat} {inner : Nat → Rd Ex} (hf : ∀ i, (inner i).gt i l.length) {i : Nat} : (namedP l d inner i).gt i l.length := by
  intro a j h
  unfold namedP at h
  split at h
  · rename_i h0
    have hi := op_lt (l := l) (i := i) (k := 1) (by simpa using h0) (by decide)
    split at h
    · split at h
      · cases h
      · rename_i h2
        have h3 := open_gt _ _ h2
        split at h
        · cases h
        · rename_i h4
          have h5 := hf _ _ _ h4
          split at h
          · have := slice_gt hf _ _ h; omega
          · split at h
            · cases h
            · rename_i h6
              have h7 := args_ge hf h5.2 _ _ h6
              split at h
              · cases h
              · rename_i h8
                have h9 := want_gt _ _ h8
                cases h; omega
    · cases h; omega
  · cases h
theorem part_gt {d : Nat} {inner : Nat → Rd Ex} (hf : ∀ i, (inner i).gt i l.length) {e : Ex} {i : Nat} : (partP l d inner e i).gt i l.length := by
  intro a j h
  unfold partP at h
  split at h
  · cases h
  · rename_i h2
    have h3 := open_gt _ _ h2
    split at h
    · cases h
    · rename_i h4
      have h5 := hf _ _ _ h4
      split at h
      · have := slice_gt hf _ _ h; omega
      · split at h
        · cases h
        · rename_i h6
          have h7 := want_gt _ _ h6
          cases h; omega
theorem parts_ge {d : Nat} {inner : Nat → Rd Ex} (hf : ∀ i, (inner i).gt i l.length) {f : Nat} {e : Ex} {i : Nat} (hi : i ≤ l.length) : ∀ a j, partsP l d inner f e i = .ok a j → i ≤ j ∧ j ≤ l.length := by
  induction f generalizing e i with
  | zero => intro a j h; rw [partsP] at h; cases h; omega
  | succ f ih =>
    intro a j h
    rw [partsP] at h
    split at h
    · split at h
      · cases h
      · rename_i e2 j2 h2
        have := part_gt hf _ _ h2
        have := ih this.2 a j h
        omega
    · cases h; omega
theorem prim_gt {d : Nat} {inner : Nat → Rd Ex} (hf : ∀ i, (inner i).gt i l.length) {i : Nat} : (primP l d inner i).gt i l.length := by
  intro a j h
  unfold primP at h
  split at h
  · rename_i h0
    have hi := op_lt (l := l) (i := i) (k := 3) (by simpa using h0) (by decide)
    have := parts_ge hf (by omega) _ _ h; omega
  · split at h
    · rename_i h0
      have hi := op_lt (l := l) (i := i) (k := 4) (by simpa using h0) (by decide)
      have := parts_ge hf (by omega) _ _ h; omega
    · split at h
      · rename_i h0
        have hi := op_lt (l := l) (i := i) (k := 5) (by simpa using h0) (by decide)
        have := parts_ge hf (by omega) _ _ h; omega
      · split at h
        · split at h
          · cases h
          · rename_i h2
            have h3 := named_gt hf _ _ h2
            have := parts_ge hf h3.2 _ _ h; omega
        · split at h
          · cases h
          · rename_i h2
            have h3 := open_gt _ _ h2
            split at h
            · cases h
            · rename_i h4
              have h5 := hf _ _ _ h4
              split at h
              · cases h
              · rename_i h6
                have h7 := want_gt _ _ h6
                have := parts_ge hf h7.2 _ _ h; omega
theorem fac_gt {d : Nat} {sub : Nat → Rd Ex} (hf : ∀ i, (sub i).gt i l.length) (i : Nat) : (facP l d sub i).gt i l.length := by
  intro a j h
  unfold facP at h
  split at h
  · rename_i h0
    split at h
    · cases h
    · rename_i h2
      have h3 := into_gt (isAt_lt h0) _ _ h2
      split at h
      · cases h
      · rename_i h4
        have h5 := hf _ _ _ h4
        cases h; omega
  · exact prim_gt (row_gt hf 4) _ _ h
theorem bad_gt {α : Type} {g : Flt} {i n : Nat} : (Rd.bad (α := α) g).gt i n := by intro a j h; cases h
theorem factor_gt (d : Nat) : ∀ i, (factor l d i).gt i l.length := by
  induction d with
  | zero => exact fac_gt (fun _ => bad_gt)
  | succ d ih => exact fac_gt ih
theorem innerD_gt (d : Nat) : ∀ i, (innerD l d i).gt i l.length := by
  cases d with
  | zero => exact row_gt (fun _ => bad_gt) 4
  | succ d => exact row_gt (factor_gt d) 4
end
end Go.Proofs.YtcgdlhkiecommaaGreatDoor
