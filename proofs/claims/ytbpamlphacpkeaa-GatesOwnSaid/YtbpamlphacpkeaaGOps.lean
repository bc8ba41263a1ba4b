/- What a maker is asked, and what nets are the same. -/
import Derived.Test.YtbpamlphacpkeaaGMk
set_option linter.unusedVariables false
set_option linter.unusedSimpArgs false
namespace Go.Proofs.Ytbpamlphacpkeaa
open Go

structure OpV where
  kind : Int
  made : Bool
  a : Int
  b : Int
  c : Int
  next : List Int
  outs : List (ByteArray × Int)
instance : Inhabited OpV := ⟨⟨0, false, 0, 0, 0, [], []⟩⟩
def encO (o : OpV) : List AVal := [.v (.int .u8 o.kind), .v (.bool o.made), .v (.int .i64 o.a), .v (.int .i64 o.b), .v (.int .i64 o.c), .list 1 (o.next.map encI), .list 2 (o.outs.map encP)]
structure OpV.Small (o : OpV) : Prop where
  kind : 0 ≤ o.kind ∧ o.kind ≤ 255
  a : -9223372036854775808 ≤ o.a ∧ o.a ≤ 9223372036854775807
  b : -9223372036854775808 ≤ o.b ∧ o.b ≤ 9223372036854775807
  c : -9223372036854775808 ≤ o.c ∧ o.c ≤ 9223372036854775807
  next : ∀ x ∈ o.next, x ≤ 9223372036854775807
  outs : ∀ p ∈ o.outs, p.1.size ≤ 140737488355328 ∧ p.2 ≤ 9223372036854775807

/-! ### Picked literals -/
def pickAt (made : List Int) (a : Int) : Int := made.getD ((a.tmod made.length + made.length) % made.length).toNat default
def pickedV (made : List Int) (is : Bool) (a : Int) : Int := if (!is || (made.length : Int) == 0) then a else if a < 0 then flip (pickAt made a) else pickAt made a
theorem tmod_bound (a : Int) {m : Int} (h : 0 < m) : -m < a.tmod m ∧ a.tmod m < m := ⟨Int.lt_tmod_of_pos a h, Int.tmod_lt_of_pos a h⟩
theorem pick_bound (made : List Int) (a : Int) (h : 0 < made.length) : 0 ≤ (a.tmod made.length + made.length) % made.length ∧ ((a.tmod made.length + made.length) % made.length).toNat < made.length := by
  have h1 := Int.emod_nonneg (a.tmod made.length + made.length) (b := (made.length : Int)) (by omega)
  have h2 := Int.emod_lt_of_pos (a.tmod made.length + made.length) (b := (made.length : Int)) (by omega)
  omega
theorem pickedV_plain {made : List Int} {is : Bool} {a : Int} (h : (!is || (made.length : Int) == 0) = true) : pickedV made is a = a := by rw [pickedV, if_pos h]
theorem pickedV_neg {made : List Int} {is : Bool} {a : Int} (h : (!is || (made.length : Int) == 0) = false) (h2 : a < 0) : pickedV made is a = flip (pickAt made a) := by rw [pickedV, if_neg (by rw [h]; decide), if_pos h2]
theorem pickedV_pos {made : List Int} {is : Bool} {a : Int} (h : (!is || (made.length : Int) == 0) = false) (h2 : ¬ a < 0) : pickedV made is a = pickAt made a := by rw [pickedV, if_neg (by rw [h]; decide), if_neg h2]
theorem pickedV_le {made : List Int} {is : Bool} {a : Int} (hm : ∀ x ∈ made, 0 ≤ x ∧ x ≤ 100000) (ha : a ≤ 9223372036854775807) : pickedV made is a ≤ 9223372036854775807 := by
  unfold pickedV
  split
  · exact ha
  · rename_i h
    have hl : 0 < made.length := by
      rcases Nat.eq_zero_or_pos made.length with e | e
      · rw [e] at h; simp at h
      · exact e
    have hb := hm _ (getD_mem (pick_bound made a hl).2)
    unfold pickAt
    split
    · rw [flip_eq]; split <;> omega
    · omega

/-! ### What was made so far -/
def madeTo (i : Nat) : List Int := (List.range (i + 1)).map fun (k : Nat) => 2 * (k : Int)
theorem madeTo_succ (i : Nat) : madeTo (i + 1) = madeTo i ++ [2 * ((i : Int) + 1)] := by
  simp [madeTo, List.range_succ]
theorem madeTo_length (i : Nat) : (madeTo i).length = i + 1 := by simp [madeTo]
theorem madeTo_range (i : Nat) (h : i ≤ 1000) : ∀ x ∈ madeTo i, 0 ≤ x ∧ x ≤ 100000 := by
  intro x hx
  obtain ⟨k, hk, rfl⟩ := List.mem_map.1 hx
  rw [List.mem_range] at hk
  omega
theorem made_snoc {made : List Int} {x : Int} (h : ∀ y ∈ made, 0 ≤ y ∧ y ≤ 100000) (hx : 0 ≤ x ∧ x ≤ 42003) : ∀ y ∈ made ++ [x], 0 ≤ y ∧ y ≤ 100000 := by
  intro y hy
  rcases List.mem_append.1 hy with hy | hy
  · exact h y hy
  · simp at hy; subst hy; omega
theorem lit_le {x : Int} (h : 0 ≤ x ∧ x ≤ 42002) : 0 ≤ x ∧ x ≤ 42003 := by omega
def nextM (made : List Int) (a : Int) (j : Nat) : List Int := (List.range j).map fun (k : Nat) => pickedV made true (IntKind.i64.wrap (a + (k : Int)))
theorem nextM_succ (made : List Int) (a : Int) (j : Nat) : nextM made a (j + 1) = nextM made a j ++ [pickedV made true (IntKind.i64.wrap (a + (j : Int)))] := by simp [nextM, List.range_succ]
theorem nextM_length (made : List Int) (a : Int) (j : Nat) : (nextM made a j).length = j := by simp [nextM]
theorem wrap_le (x : Int) : IntKind.i64.wrap x ≤ 9223372036854775807 := by
  simp only [IntKind.wrap, IntKind.bits, IntKind.signed, Bool.true_and]
  split <;> rename_i h <;> simp at h <;> omega
theorem nextM_le {made : List Int} (hm : ∀ x ∈ made, 0 ≤ x ∧ x ≤ 100000) (a : Int) (j : Nat) : ∀ x ∈ nextM made a j, x ≤ 9223372036854775807 := by
  intro x hx
  obtain ⟨k, hk, rfl⟩ := List.mem_map.1 hx
  exact pickedV_le hm (wrap_le _)

/-! ### Same nets -/
def insEq (n m : Net) (i : Nat) : Bool := (n.ins.getD i default).toList == (m.ins.getD i default).toList
def regEq (n m : Net) (i : Nat) : Bool := regB (n.regs.getD i default) (m.regs.getD i default)
def gateEq (n m : Net) (i : Nat) : Bool := gateB (n.gates.getD i default) (m.gates.getD i default)
def outEq (n m : Net) (i : Nat) : Bool := pinB (n.outs.getD i default) (m.outs.getD i default)
def lenNe (n m : Net) : Bool := (((n.ins.length : Int) != m.ins.length || (n.regs.length : Int) != m.regs.length) || (n.gates.length : Int) != m.gates.length) || (n.outs.length : Int) != m.outs.length
def sameN (n m : Net) : Bool := !lenNe n m && (allTo (insEq n m) n.ins.length && (allTo (regEq n m) n.regs.length && (allTo (gateEq n m) n.gates.length && allTo (outEq n m) n.outs.length)))
theorem sameN_len {n m : Net} (h : lenNe n m = true) : sameN n m = false := by rw [sameN, h]; rfl
theorem sameN_ins {n m : Net} (i : Nat) (hi : i < n.ins.length) (h : insEq n m i = false) : sameN n m = false := by rw [sameN, allTo_false i hi h]; simp
theorem sameN_reg {n m : Net} (i : Nat) (hi : i < n.regs.length) (h : regEq n m i = false) : sameN n m = false := by rw [sameN, allTo_false (p := regEq n m) i hi h]; simp
theorem sameN_gate {n m : Net} (i : Nat) (hi : i < n.gates.length) (h : gateEq n m i = false) : sameN n m = false := by rw [sameN, allTo_false (p := gateEq n m) i hi h]; simp
theorem sameN_out {n m : Net} (i : Nat) (hi : i < n.outs.length) (h : outEq n m i = false) : sameN n m = false := by rw [sameN, allTo_false (p := outEq n m) i hi h]; simp
theorem sameN_all {n m : Net} (h : lenNe n m = false) (h1 : allTo (insEq n m) n.ins.length = true) (h2 : allTo (regEq n m) n.regs.length = true) (h3 : allTo (gateEq n m) n.gates.length = true) (h4 : allTo (outEq n m) n.outs.length = true) : sameN n m = true := by rw [sameN, h, h1, h2, h3, h4]; rfl
theorem sameN_refl (n : Net) : sameN n n = true := by
  refine sameN_all (by simp [lenNe]) (allTo_iff.2 fun k _ => ?_) (allTo_iff.2 fun k _ => ?_) (allTo_iff.2 fun k _ => ?_) (allTo_iff.2 fun k _ => ?_)
  · simp [insEq]
  · simp [regEq, regB]
  · simp [gateEq, gateB]
  · simp [outEq, pinB]

/-! ### The law's store: both makers, and what was made -/
def LS (s sr : MS) (vm vg vt vr wm wg wr wi : Nat) (made : List Int) (ver : Nat) (tl : Store) : Store :=
  (51, vg, .row 2 (s.gates.map encG)) :: (52, vr, .row 3 (s.regs.map encR)) :: (21, vm, .row 6 [s.cells 51 19 52 vg vt vr]) :: (19, vt, .map (thEnts s.th)) :: (62, wg, .row 2 (sr.gates.map encG)) :: (61, wm, .row 4 [sr.rcells 62 63 64 wg wr wi]) :: (63, wr, .row 3 (sr.regs.map encR)) :: (64, wi, .row 1 (sr.ins.map encS)) :: (79, ver, .row 1 (made.map encI)) :: tl
theorem ls_below {s sr : MS} {vm vg vt vr wm wg wr wi : Nat} {made : List Int} {ver : Nat} {tl : Store} (hb : tl.below 1000 = true) : (LS s sr vm vg vt vr wm wg wr wi made ver tl).below 1000 = true := by
  simp only [LS, Store.below, hb]; rfl
theorem ls_m {P : Program} {f : FuncId} {s s' sr : MS} {vm vg vt vr wm wg wr wi : Nat} {made : List Int} {ver : Nat} {tl : Store} {bvs : List AVal} {a : AVal} (h : AC P f (.ptr 0 vm 0 0 :: bvs) (mk0 s vm vg vt vr) (fun x σ' => ∃ vg', x = .ret a ∧ σ' = mk0 s' vm vg' vt vr)) (hb : tl.below 1000 = true) (hc : bvs.all AVal.clo = true) (ha : a.clo = true) :
    AC P f (.ptr 21 vm 0 0 :: bvs) (LS s sr vm vg vt vr wm wg wr wi made ver tl) (fun x σ' => ∃ vg', x = .ret a ∧ σ' = LS s' sr vm vg' vt vr wm wg wr wi made ver tl) :=
  ac_mono (mk_at (m := 21) (g := 51) (t := 19) (r := 52) h rfl (ls_below hb) rfl rfl rfl rfl hc ha) (by rintro x σ' ⟨vg', rfl, rfl⟩; exact ⟨vg', rfl, rfl⟩)
theorem ls_r {P : Program} {f : FuncId} {s sr sr' : MS} {vm vg vt vr wm wg wr wi : Nat} {made : List Int} {ver : Nat} {tl : Store} {bvs : List AVal} {a : AVal} (h : AC P f (.ptr 0 wm 0 0 :: bvs) (rk0 sr wm wg wr wi) (fun x σ' => ∃ vg', x = .ret a ∧ σ' = rk0 sr' wm vg' wr wi)) (hb : tl.below 1000 = true) (hc : bvs.all AVal.clo = true) (ha : a.clo = true) :
    AC P f (.ptr 61 wm 0 0 :: bvs) (LS s sr vm vg vt vr wm wg wr wi made ver tl) (fun x σ' => ∃ vg', x = .ret a ∧ σ' = LS s sr' vm vg vt vr wm vg' wr wi made ver tl) :=
  ac_mono (rk_at (m := 61) (g := 62) (r := 63) (i := 64) h rfl (ls_below hb) rfl rfl rfl rfl hc ha) (by rintro x σ' ⟨vg', rfl, rfl⟩; exact ⟨vg', rfl, rfl⟩)
theorem ls_m_ro {P : Program} {f : FuncId} {s sr : MS} {vm vg vt vr wm wg wr wi : Nat} {made : List Int} {ver : Nat} {tl : Store} {bvs : List AVal} {a : AVal} (h : AC P f (.ptr 0 vm 0 0 :: bvs) (mk0 s vm vg vt vr) (fun x σ' => x = .ret a ∧ σ' = mk0 s vm vg vt vr)) (hb : tl.below 1000 = true) (hc : bvs.all AVal.clo = true) (ha : a.clo = true) :
    AC P f (.ptr 21 vm 0 0 :: bvs) (LS s sr vm vg vt vr wm wg wr wi made ver tl) (fun x σ' => x = .ret a ∧ σ' = LS s sr vm vg vt vr wm wg wr wi made ver tl) :=
  mk_ro (m := 21) (g := 51) (t := 19) (r := 52) h rfl (ls_below hb) rfl rfl rfl rfl hc ha
theorem ls_r_ro {P : Program} {f : FuncId} {s sr : MS} {vm vg vt vr wm wg wr wi : Nat} {made : List Int} {ver : Nat} {tl : Store} {bvs : List AVal} {a : AVal} (h : AC P f (.ptr 0 wm 0 0 :: bvs) (rk0 sr wm wg wr wi) (fun x σ' => x = .ret a ∧ σ' = rk0 sr wm wg wr wi)) (hb : tl.below 1000 = true) (hc : bvs.all AVal.clo = true) (ha : a.clo = true) :
    AC P f (.ptr 61 wm 0 0 :: bvs) (LS s sr vm vg vt vr wm wg wr wi made ver tl) (fun x σ' => x = .ret a ∧ σ' = LS s sr vm vg vt vr wm wg wr wi made ver tl) :=
  rk_ro (m := 61) (g := 62) (r := 63) (i := 64) h rfl (ls_below hb) rfl rfl rfl rfl hc ha
structure LQ where
  i : Nat
  ver : Nat
  vg : Nat
  wg : Nat
  s : MS
  made : List Int
end Go.Proofs.Ytbpamlphacpkeaa
