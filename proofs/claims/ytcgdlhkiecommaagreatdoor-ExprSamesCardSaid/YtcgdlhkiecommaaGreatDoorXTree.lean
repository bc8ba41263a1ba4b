/- Trees: values, types, expressions, types as written; how they lie in memory. -/
import Derived.Test.YtcgdlhkiecommaaGreatDoorLFlt
set_option linter.unusedVariables false
set_option linter.all false
namespace Go.Proofs.YtcgdlhkiecommaaGreatDoor
open Go
inductive Va where
  | mk (kind n : Int) (bits : List Int) (list : List Va)
inductive Ty where
  | mk (kind len : Int) (name : Bs) (names : List Bs) (elem : List Ty)
inductive Ex where
  | mk (op : Int) (name : Bs) (n : Int) (bits : List Int) (val : Va) (kids : List Ex) (type : Ty) (line col : Int)
inductive Tr where
  | mk (name : Bs) (len : List Ex) (elem : List Tr) (line col : Int)
def Va.kind : Va → Int | .mk k _ _ _ => k
def Va.n : Va → Int | .mk _ n _ _ => n
def Va.bits : Va → List Int | .mk _ _ b _ => b
def Va.list : Va → List Va | .mk _ _ _ l => l
def Ty.kind : Ty → Int | .mk k _ _ _ _ => k
def Ty.len : Ty → Int | .mk _ l _ _ _ => l
def Ty.name : Ty → Bs | .mk _ _ s _ _ => s
def Ty.names : Ty → List Bs | .mk _ _ _ l _ => l
def Ty.elem : Ty → List Ty | .mk _ _ _ _ l => l
def Ex.op : Ex → Int | .mk o _ _ _ _ _ _ _ _ => o
def Ex.name : Ex → Bs | .mk _ s _ _ _ _ _ _ _ => s
def Ex.n : Ex → Int | .mk _ _ n _ _ _ _ _ _ => n
def Ex.bits : Ex → List Int | .mk _ _ _ b _ _ _ _ _ => b
def Ex.val : Ex → Va | .mk _ _ _ _ v _ _ _ _ => v
def Ex.kids : Ex → List Ex | .mk _ _ _ _ _ k _ _ _ => k
def Ex.type : Ex → Ty | .mk _ _ _ _ _ _ t _ _ => t
def Ex.line : Ex → Int | .mk _ _ _ _ _ _ _ l _ => l
def Ex.col : Ex → Int | .mk _ _ _ _ _ _ _ _ c => c
def Tr.name : Tr → Bs | .mk s _ _ _ _ => s
def Tr.len : Tr → List Ex | .mk _ l _ _ _ => l
def Tr.elem : Tr → List Tr | .mk _ _ l _ _ => l
def Tr.line : Tr → Int | .mk _ _ _ l _ => l
def Tr.col : Tr → Int | .mk _ _ _ _ c => c
def va0 : Va := .mk 0 0 [] []
def ty0 : Ty := .mk 0 0 [] [] []
def ex0 : Ex := .mk 0 [] 0 [] va0 [] ty0 0 0
def tr0 : Tr := .mk [] [] [] 0 0
instance : Inhabited Va := ⟨va0⟩
instance : Inhabited Ty := ⟨ty0⟩
instance : Inhabited Ex := ⟨ex0⟩
instance : Inhabited Tr := ⟨tr0⟩
mutual
def encVa : Va → List AVal
  | .mk k n b l => [.v (.int .i64 k), .v (.int .i64 n), .list 1 (b.map encB), .list 4 (encVas l)]
def encVas : List Va → List (List AVal)
  | [] => []
  | v :: r => encVa v :: encVas r
end
mutual
def encTy : Ty → List AVal
  | .mk k l s ns e => [.v (.int .i64 k), .v (.int .i64 l), .v (.string (str s)), .list 1 (ns.map encBs), .list 5 (encTys e)]
def encTys : List Ty → List (List AVal)
  | [] => []
  | v :: r => encTy v :: encTys r
end
mutual
def encE : Ex → List AVal
  | .mk o s n b v k t l c => [.v (.int .i64 o), .v (.string (str s)), .v (.int .i64 n), .list 1 (b.map encB)] ++ encVa v ++ [.list 16 (encEs k)] ++ encTy t ++ [.v (.int .i64 l), .v (.int .i64 c)]
def encEs : List Ex → List (List AVal)
  | [] => []
  | v :: r => encE v :: encEs r
end
mutual
def encR : Tr → List AVal
  | .mk s l e i c => [.v (.string (str s)), .list 16 (l.map encE), .list 5 (encRs e), .v (.int .i64 i), .v (.int .i64 c)]
def encRs : List Tr → List (List AVal)
  | [] => []
  | v :: r => encR v :: encRs r
end
theorem encVas_map (l : List Va) : encVas l = l.map encVa := by
  induction l with
  | nil => simp [encVas]
  | cons a l ih => simp [encVas, ih]
theorem encTys_map (l : List Ty) : encTys l = l.map encTy := by
  induction l with
  | nil => simp [encTys]
  | cons a l ih => simp [encTys, ih]
theorem encEs_map (l : List Ex) : encEs l = l.map encE := by
  induction l with
  | nil => simp [encEs]
  | cons a l ih => simp [encEs, ih]
theorem encRs_map (l : List Tr) : encRs l = l.map encR := by
  induction l with
  | nil => simp [encRs]
  | cons a l ih => simp [encRs, ih]
/-- One level of the cells, told by the parts. -/
def cellsV (v : Va) : List AVal := [.v (.int .i64 v.kind), .v (.int .i64 v.n), .list 1 (v.bits.map encB), .list 4 (v.list.map encVa)]
def cellsT (t : Ty) : List AVal := [.v (.int .i64 t.kind), .v (.int .i64 t.len), .v (.string (str t.name)), .list 1 (t.names.map encBs), .list 5 (t.elem.map encTy)]
def cellsE (e : Ex) : List AVal := [.v (.int .i64 e.op), .v (.string (str e.name)), .v (.int .i64 e.n), .list 1 (e.bits.map encB), .v (.int .i64 e.val.kind), .v (.int .i64 e.val.n), .list 1 (e.val.bits.map encB), .list 4 (e.val.list.map encVa), .list 16 (e.kids.map encE), .v (.int .i64 e.type.kind), .v (.int .i64 e.type.len), .v (.string (str e.type.name)), .list 1 (e.type.names.map encBs), .list 5 (e.type.elem.map encTy), .v (.int .i64 e.line), .v (.int .i64 e.col)]
def cellsR (r : Tr) : List AVal := [.v (.string (str r.name)), .list 16 (r.len.map encE), .list 5 (r.elem.map encR), .v (.int .i64 r.line), .v (.int .i64 r.col)]
theorem encVa_cells (v : Va) : encVa v = cellsV v := by
  cases v; simp [encVa, cellsV, encVas_map, Va.kind, Va.n, Va.bits, Va.list]
theorem encTy_cells (t : Ty) : encTy t = cellsT t := by
  cases t; simp [encTy, cellsT, encTys_map, Ty.kind, Ty.len, Ty.name, Ty.names, Ty.elem]
theorem encE_cells (e : Ex) : encE e = cellsE e := by
  cases e; simp [encE, cellsE, encVa_cells, encTy_cells, cellsV, cellsT, encEs_map, Ex.op, Ex.name, Ex.n, Ex.bits, Ex.val, Ex.kids, Ex.type, Ex.line, Ex.col]
theorem encR_cells (r : Tr) : encR r = cellsR r := by
  cases r; simp [encR, cellsR, encRs_map, Tr.name, Tr.len, Tr.elem, Tr.line, Tr.col]
theorem encE_fun : encE = cellsE := funext encE_cells
theorem encR_fun : encR = cellsR := funext encR_cells
theorem encE_clo (e : Ex) : (encE e).all AVal.clo1 = true := by rw [encE_cells]; rfl
/-- A list of a few, told by their cells. -/
theorem kids1 (a : Ex) : [cellsE a] = [a].map encE := by rw [encE_fun]; rfl
theorem kids2 (a b : Ex) : [cellsE a, cellsE b] = [a, b].map encE := by rw [encE_fun]; rfl
theorem kids3 (a b c : Ex) : [cellsE a, cellsE b, cellsE c] = [a, b, c].map encE := by rw [encE_fun]; rfl
end Go.Proofs.YtcgdlhkiecommaaGreatDoor
