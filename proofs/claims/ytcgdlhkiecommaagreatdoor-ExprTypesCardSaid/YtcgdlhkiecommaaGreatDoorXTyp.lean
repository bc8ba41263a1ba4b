import Derived.Test.YtcgdlhkiecommaaGreatDoorXBld
import Derived.Test.YtcgdlhkiecommaaGreatDoorXTop
import Derived.Test.YtcgdlhkiecommaaGreatDoorShelfB
import Derived.RangeFuncNested
import Derived.RangeFuncBound
import Derived.RangeFuncCalls
import Derived.RangeFuncLeaves
import Derived.RangeFuncBox
import Derived.Shelf.Abstract
import Derived.Shelf.RegionOpen
import Derived.WalkKit
import Derived.OwnWalkIn
import Derived.TacticsInMore
import Derived.LoopNIn
import Derived.LoopIn


import Derived.Test.YtcgdlhkiecommaaGreatDoorXRef3



import Derived.Test.YtcgdlhkiecommaaGreatDoorLRef

import Derived.Test.YtcgdlhkiecommaaGreatDoorXDec
/- logic.Text: bits as a string. -/















set_option linter.unusedVariables false
set_option linter.all false
namespace Go.Proofs.YtcgdlhkiecommaaGreatDoor
open Go Go.RowKit Go.Shelf
attribute [local go_sem] Oper.semAt_some
def uptoB {α : Type} (f : Nat → α) (k : Nat) : List α := (List.range k).map f
theorem uptoB_succ {α : Type} (f : Nat → α) (k : Nat) : uptoB f (k + 1) = uptoB f k ++ [f k] := by simp [uptoB, List.range_succ]
theorem uptoB_length {α : Type} (f : Nat → α) (k : Nat) : (uptoB f k).length = k := by simp [uptoB]
abbrev Bit3 := { x : Int // 0 ≤ x ∧ x ≤ 3 }
def KpB (n₀ Bs : Nat) (A B : World) : Prop := Below n₀ A B ∧ B.heap[Bs]? = A.heap[Bs]?
theorem KpB.cell {n₀ Bs : Nat} {A B : World} (h : KpB n₀ Bs A B) {v : Value} (hc : A.cell? ⟨Bs, 0, none⟩ = some v) : B.cell? ⟨Bs, 0, none⟩ = some v := (World.cell?_of_block (w := A) (w' := B) (a := ⟨Bs, 0, none⟩) h.2).trans hc
def encBP (x : Nat × Bit3) : Array Value := #[.int .i64 (x.1 : Int), .int .u8 x.2.1]
def elB (zs : List Bit3) (k : Nat) : Nat × Bit3 := (zs.length - 1 - k, zs.getD (zs.length - 1 - k) ⟨0, by decide, by decide⟩)
set_option maxRecDepth 100000 in
set_option maxHeartbeats 2000000 in
theorem back1_in (F : Fence) (n : Nat) (h8 : F.fn 198) (hro : F.round = none) (hn : 1 ≤ n) (l Bs n₀ b off cap : Nat) (zs : List Bit3) (hreach : zs.length ≤ 64) (hb : b < n₀) (J Jx : List (Nat × Bit3) → World → Prop)
    (hY : ∀ pre x W, J pre W → pre.length < zs.length → YieldAt F (n - 1) Tryz.prog l #[.int .i64 (x.1 : Int), .int .u8 x.2.1] W fun e W' =>
      (e = .returned (.bool true) ∧ J (pre ++ [x]) W' ∧ KpB n₀ Bs W W') ∨ (e = .returned (.bool false) ∧ Jx (pre ++ [x]) W'))
    (W : World) (hBs : W.cell? ⟨Bs, 0, none⟩ = some (.slice (some ⟨b, off, none⟩) zs.length cap)) (hc : ∀ j, j < zs.length → W.cell? ⟨b, off + j, none⟩ = some (.int .u8 (zs.getD j ⟨0, by decide, by decide⟩).1)) (h0 : J [] W) :
    CallsIn F n Tryz.prog 198 #[.func (.yield l) #[] #[], .pointer (some ⟨Bs, 0, none⟩)] W fun e W' => (∃ v, e = .returned v) ∧
      ((∃ ys, ys = uptoB (elB zs) zs.length ∧ J ys W') ∨ (∃ pre, (∃ k, k ≤ zs.length ∧ pre = uptoB (elB zs) k) ∧ Jx pre W')) := by
  refine callsIn_of_wp Tryz.func198 rfl h8 ?_ hro
  simp only [Tryz.ntmps198, List.size_toArray, List.length_cons, List.length_nil, Nat.reduceAdd, Nat.reduceSub, Array.replicate_succ, Array.replicate_zero, List.push_toArray, List.append_toArray, List.nil_append, List.cons_append]
  gi_wp2
  gi_loopw [3] (fun i wr => ∃ k : Nat, k ≤ zs.length ∧ i = .int .i64 ((zs.length : Int) - 1 - k) ∧ J (uptoB (elB zs) k) wr ∧ KpB n₀ Bs W wr)
    (fun i _ => (intOf i + 1).toNat)
  case atStart => exact ⟨0, Nat.zero_le _, by simp, h0, Below.refl _ _, rfl⟩
  case round =>
    obtain ⟨k, hk, rfl, hJs, hnx⟩ := hrel
    by_cases hlt : k < zs.length
    · obtain ⟨q, hq⟩ : ∃ q : Nat, q = zs.length - 1 - k := ⟨_, rfl⟩
      have hql : q < zs.length := by omega
      have hqi : (zs.length : Int) - 1 - k = (q : Int) := by omega
      rw [hqi]
      have hcs : wr.cell? ⟨Bs, 0, none⟩ = some (.slice (some ⟨b, off, none⟩) zs.length cap) := hnx.cell hBs
      have hcx : wr.cell? ⟨b, off + q, none⟩ = some (.int .u8 (zs.getD q ⟨0, by decide, by decide⟩).1) := (hnx.1.cell (p := ⟨b, off + q, none⟩) hb).trans (hc q hql)
      have hel : elB zs k = (q, zs.getD q ⟨0, by decide, by decide⟩) := by rw [elB, ← hq]
      clear hq
      obtain ⟨fn, tmps, assign, body, hy, hR⟩ := hY _ (q, zs.getD q ⟨0, by decide, by decide⟩) wr hJs (by rw [uptoB_length]; exact hlt)
      dsimp only at hy
      generalize hxv : (zs.getD q ⟨0, by decide, by decide⟩).1 = xv at hy hR hcx
      gi_wp2
      refine hR.mono ?_
      rintro e W3 (⟨rfl, hJ3, hk3⟩ | ⟨rfl, hJx3⟩)
      · gi_wp2
        go_roundw
        case rel => exact ⟨k + 1, by omega, by first | (simp; done) | (simp; omega), by rw [uptoB_succ, hel]; exact hJ3, ⟨hnx.1.trans hk3.1, hk3.2.trans hnx.2⟩⟩
        case measure => first | (simp [intOf]; done) | (simp [intOf]; omega)
      · gi_wp2
        refine bodyPost_ret (results_none rfl _ _ _) rfl ?_
        exact ⟨⟨_, rfl⟩, .inr ⟨_, ⟨k + 1, by omega, by rw [uptoB_succ, hel]⟩, hJx3⟩⟩
    · obtain rfl : k = zs.length := by omega
      have hqi : (zs.length : Int) - 1 - (zs.length : Nat) = -1 := by omega
      rw [hqi]
      gi_wp2
      go_end0
      exact ⟨⟨_, rfl⟩, .inl ⟨_, rfl, hJs⟩⟩
set_option maxHeartbeats 1000000 in
theorem back_in (F : Fence) (n : Nat) (h6 : F.fn 178) (hro : F.round = none) (a : Option Addr) (len cap : Nat) (w : World) :
    CallsIn F n Tryz.prog 178 #[.slice a len cap] w fun e w' => e = .returned (.func (.func 198) #[] #[.pointer (some ⟨w.heap.size, 0, none⟩)]) ∧ w' = w.alloc (.cells #[.slice a len cap] 26) := by
  refine callsIn_of_wp Tryz.func178 rfl h6 ?_ hro
  simp only [Tryz.ntmps178, List.size_toArray, List.length_cons, List.length_nil, Nat.reduceAdd, Nat.reduceSub, Array.replicate_succ, Array.replicate_zero, List.push_toArray, List.append_toArray, List.nil_append, List.cons_append]
  gi_wp2
  go_ret
  exact ⟨rfl, rfl⟩
theorem back_stops (F : Fence) (n : Nat) (h8 : F.fn 198) (hro : F.round = none) (hn : 1 ≤ n) (Bs n₀ b off cap : Nat) (zs : List Bit3) (hreach : zs.length ≤ 64) (w : World) (hBs : Bs < w.heap.size) (hn₀ : n₀ ≤ w.heap.size) (hb : b < n₀)
    (hc0 : w.cell? ⟨Bs, 0, none⟩ = some (.slice (some ⟨b, off, none⟩) zs.length cap)) (hc : ∀ j, j < zs.length → w.cell? ⟨b, off + j, none⟩ = some (.int .u8 (zs.getD j ⟨0, by decide, by decide⟩).1)) :
    SeqStopsK F n Tryz.prog 198 #[.pointer (some ⟨Bs, 0, none⟩)] encBP (KpB n₀ Bs) (fun ys => ys = uptoB (elB zs) zs.length)
      (fun pre => ∃ k, k ≤ zs.length ∧ pre = uptoB (elB zs) k) zs.length w := fun l J Jx W hW _ _ hY h0 =>
  back1_in F n h8 hro hn l Bs n₀ b off cap zs hreach hb J Jx hY W ((hW.cell (p := ⟨Bs, 0, none⟩) hBs).trans hc0) (fun j hj => (hW.cell (p := ⟨b, off + j, none⟩) (by show b < w.heap.size; omega)).trans (hc j hj)) h0
theorem bld_kept {T e B b : Nat} {bs : List Value} {W W' : World} {row : Option Nat} (h : Lib.IsBuilderF T e B b bs W) (hg : W.grownBy W' row) (hr : ∀ r, row = some r → ∃ o : Obj, W.heap[r]? = some o ∧ o.isCells = false) : Lib.IsBuilderF T e B b bs W' := by
  have key : ∀ p, Lib.BuilderAtF T e B b p bs W → Lib.BuilderAtF T e B b p bs W' := by
    rintro p ⟨hB, v, hb, hown, hne⟩
    refine ⟨hB, v, (grownBy_keeps_cells hg hr hb rfl).trans hb, hown.kept hg ?_, hne⟩
    cases hv : v.ownBlock with
    | none => exact .inl rfl
    | some k =>
      refine .inr fun e1 => ?_
      obtain ⟨o, h1, h2⟩ := hr k e1.symm
      obtain ⟨c, fz, h3⟩ := Lib.ownsRowF_kind hown k hv
      rw [h3] at h1; cases h1; cases h2
  exact h.elim (fun h => .inl (key _ h)) (fun h => .inr (key _ h))
theorem others_keeps {e : Nat} {b : Option Nat} {w w' : World} (h : Lib.OthersKept e b w w') (hs : w.heap.size ≤ w'.heap.size) (hb : ∀ k o, some k = b → w.heap[k]? = some o → o.isCells = true) : KeepsOthers w w' := by
  refine ⟨hs, fun k o hk ho => h k o hk (fun e1 => ?_) (fun c fz e1 => ?_)⟩
  · rw [hb k o e1 hk] at ho; cases ho
  · subst e1; cases ho
theorem bld_heap {T e B b : Nat} {bs : List Value} {W : World} (h : Lib.IsBuilderF T e B b bs W) : ∀ k o, some k = some b → W.heap[k]? = some o → o.isCells = true := by
  intro k o e1 hk
  cases e1
  rcases h with ⟨_, v, hb, _⟩ | ⟨_, v, hb, _⟩ <;> (rw [hb] at hk; cases hk; rfl)
def letB (x : Nat × Bit3) : UInt8 := bitC x.2.1
theorem bytes_snoc (pre : List (Nat × Bit3)) (x : Nat × Bit3) : Lib.byteCells ((pre ++ [x]).map letB) = Lib.byteCells (pre.map letB) ++ [.int .u8 ((letB x).toNat : Int)] := by simp [Lib.byteCells]
theorem upto_text (zs : List Bit3) : (uptoB (elB zs) zs.length).map letB = bitsT (zs.map (·.1)) := by
  apply List.ext_getElem
  · simp [uptoB, bitsT]
  · intro i h1 h2
    have hi : i < zs.length := by simpa [uptoB] using h1
    simp only [uptoB, bitsT, List.getElem_map, List.getElem_range, List.getElem_reverse, List.length_map]
    rw [letB, elB]
    simp only
    rw [List.getD_eq_getElem?_getD, List.getElem?_eq_getElem (by omega)]
    rfl
set_option maxRecDepth 100000 in
set_option maxHeartbeats 4000000 in
theorem text_calls (b off cap : Nat) (zs : List Bit3) (hreach : zs.length ≤ 64) (w : World) (hb : b < w.heap.size) (hc : ∀ j, j < zs.length → w.cell? ⟨b, off + j, none⟩ = some (.int .u8 (zs.getD j ⟨0, by decide, by decide⟩).1))
    (his : Calls Tryz.prog 164 #[.slice (some ⟨b, off, none⟩) zs.length cap] w fun e w' => e = .returned (.bool true) ∧ Below w.heap.size w w') :
    Calls Tryz.prog 143 #[.slice (some ⟨b, off, none⟩) zs.length cap] w fun e W' => e = .returned (.tuple #[.string (str (bitsT (zs.map (·.1)))), .int .i64 0]) ∧ Below w.heap.size w W' := by
  refine (callsIn_wide (n := 6)).1 ?_
  have hro : Fence.wide.round = none := rfl
  have h1 : 1 ≤ 6 := by decide
  refine callsIn_of_wp_marks Tryz.func143 rfl trivial ?_ hro
  simp only [Tryz.ntmps143, List.size_toArray, List.length_cons, List.length_nil, Nat.reduceAdd, Nat.reduceSub, Array.replicate_succ, Array.replicate_zero, List.push_toArray, List.append_toArray, List.nil_append, List.cons_append]
  gi_wp2_with (refine ⟨trivial, ?_⟩; gi_at_call 164; refine (callsIn_wide.2 his).mono ?_; rintro e w1 ⟨rfl, hB1⟩)
  gi_wp2_with (refine ⟨trivial, ?_⟩; gi_at_call 178; refine (back_in Fence.wide (6 - 1) trivial hro _ _ _ _).mono ?_; rintro e w' ⟨rfl, rfl⟩)
  have hB1s := hB1.size
  have hbox : ((w1.alloc (.cells #[.pointer none, .slice none 0 0] 163)).alloc (.cells #[.slice (some ⟨b, off, none⟩) zs.length cap] 26)).heap[w1.heap.size + 1]? = some (.cells #[.slice (some ⟨b, off, none⟩) zs.length cap] 26) := by
    have := World.alloc_heap_new (w1.alloc (.cells #[.pointer none, .slice none 0 0] 163)) (.cells #[.slice (some ⟨b, off, none⟩) zs.length cap] 26)
    rwa [World.size_alloc] at this
  have hBld0 : Lib.IsBuilderF 163 5 w1.heap.size w1.heap.size [] (w1.alloc (.cells #[.pointer none, .slice none 0 0] 163)) := .inl ⟨Nat.le_refl _, .slice none 0 0, World.alloc_heap_new _ _, World.ownsRowF_nil _ _ _ _, by simp [Value.ownBlock]⟩
  have hB2 : Below w1.heap.size w1 ((w1.alloc (.cells #[.pointer none, .slice none 0 0] 163)).alloc (.cells #[.slice (some ⟨b, off, none⟩) zs.length cap] 26)) := ((Below.refl _ w1).alloc (Nat.le_refl _) _).alloc (by simp) _
  refine wpIn_rangeFunc_ownF hro h1 (gf := 198) (lb := #[.pointer (some ⟨w1.heap.size + 1, 0, none⟩)]) rfl trivial (enters_of Tryz.func198 (by kernel_rfl) rfl)
    (back_stops Fence.wide (6 - 1) trivial hro (by omega) (w1.heap.size + 1) w1.heap.size b off cap zs hreach _ (by simp) (by simp; omega) (by omega) (by simp only [World.cell?, hbox]; rfl) (fun j hj => (hB2.cell (p := ⟨b, off + j, none⟩) (by show b < w1.heap.size; omega)).trans ((hB1.cell (p := ⟨b, off + j, none⟩) hb).trans (hc j hj))))
    (fun h k => ⟨h.1.trans k.1, k.2.trans h.2⟩)
    (fun W l o o' h1 h2 h3 h4 => ⟨belowK_b (by simp; omega) W l o o' h1 h2 h3 h4, World.putObj_heap_other (by simp at h1; omega)⟩)
    (Below.refl _ _) (fun _ => rfl)
    (fun pre W => (Lib.IsBuilderF 163 5 w1.heap.size w1.heap.size (Lib.byteCells (pre.map letB)) W ∧ W.heap[w1.heap.size + 1]? = some (.cells #[.slice (some ⟨b, off, none⟩) zs.length cap] 26)) ∧ Below w1.heap.size w1 W)
    (fun _ _ _ => False)
    (OwnFrom.and (Own.from (fun s A B row hs hg hr => ⟨bld_kept hs.1 hg hr, (grownBy_keeps_cells hg hr hs.2 rfl).trans hs.2⟩) _) (ownFrom_below (Nat.le_refl _) (by simp; omega)))
    (fun _ _ _ _ _ hs _ _ => hs)
    ⟨⟨hBld0.alloc _, hbox⟩, hB2⟩
    (fun x => { tmps := #[.slice (some ⟨b, off, none⟩) zs.length cap, undef, .string ⟨#[]⟩, .int .i64 0, .pointer (some ⟨w1.heap.size, 0, none⟩), undef, .int .u8 x.2.1, .slice (some ⟨b, off, none⟩) zs.length cap, .bool true, .bool false, .slice (some ⟨b, off, none⟩) zs.length cap, .func (.func 198) #[] #[.pointer (some ⟨w1.heap.size + 1, 0, none⟩)], .int .i64 (x.1 : Int), .int .u8 x.2.1, undef, undef, undef, undef], defers := [] }) ?assign ?body ?done ?stop
  case assign =>
    intro l x W K hK
    simp only [encBP]
    gi_wp2
    exact hK
  case body =>
    rintro l pre ⟨xi, xv, hv0, hv3⟩ W ⟨⟨hbl, hbx⟩, hB⟩ hlen
    have hsz := hB.size
    have hpl : (Lib.byteCells (pre.map letB)).length + 1 ≤ 140737488355328 := by simp [Lib.byteCells]; omega
    have fin : ∀ (c : Int) (W3 : World), bitC xv = UInt8.ofNat c.toNat → ((bitC xv).toNat : Int) = c → Lib.BuilderAtF 163 5 w1.heap.size w1.heap.size (.pointer (some ⟨w1.heap.size, 0, none⟩)) (Lib.byteCells (pre.map letB) ++ [.int .u8 c]) W3 → Below w1.heap.size W W3 → Lib.OthersKept 5 (some w1.heap.size) W W3 →
        KeepsOthers W W3 ∧ KpB w1.heap.size (w1.heap.size + 1) W W3 ∧ ((Lib.IsBuilderF 163 5 w1.heap.size w1.heap.size (Lib.byteCells (List.map letB (pre ++ [(xi, (⟨xv, hv0, hv3⟩ : Bit3))]))) W3 ∧ W3.heap[w1.heap.size + 1]? = some (.cells #[.slice (some ⟨b, off, none⟩) zs.length cap] 26)) ∧ Below w1.heap.size w1 W3) := by
      intro c W3 _ hc2 k1 k2 k3
      have hb3 : W3.heap[w1.heap.size + 1]? = some (.cells #[.slice (some ⟨b, off, none⟩) zs.length cap] 26) := k3 _ _ hbx (by intro e; have := Option.some.inj e; omega) (by intro c fz e; cases e)
      refine ⟨others_keeps k3 k2.size (bld_heap hbl), ⟨k2, hb3.trans hbx.symm⟩, ⟨?_, hb3⟩, hB.trans k2⟩
      rw [bytes_snoc]
      refine .inr ?_
      rw [show ((letB (xi, ⟨xv, hv0, hv3⟩)).toNat : Int) = c from hc2]
      exact k1
    have hx : xv = 0 ∨ xv = 1 ∨ xv = 2 ∨ xv = 3 := by omega
    rcases hx with rfl | rfl | rfl | rfl
    · gi_wp2_with (refine ⟨trivial, ?_⟩; gi_at_call 179; refine (CallsIn.inRound l (callsIn_wide.2 (bld_writeByte _ _ _ _ _ hbl hpl hsz))).mono ?_; rintro e W3 ⟨rfl, k1, k2, k3⟩)
      exact fin _ W3 rfl rfl k1 k2 k3
    · gi_wp2_with (refine ⟨trivial, ?_⟩; gi_at_call 179; refine (CallsIn.inRound l (callsIn_wide.2 (bld_writeByte _ _ _ _ _ hbl hpl hsz))).mono ?_; rintro e W3 ⟨rfl, k1, k2, k3⟩)
      exact fin _ W3 rfl rfl k1 k2 k3
    · gi_wp2_with (refine ⟨trivial, ?_⟩; gi_at_call 179; refine (CallsIn.inRound l (callsIn_wide.2 (bld_writeByte _ _ _ _ _ hbl hpl hsz))).mono ?_; rintro e W3 ⟨rfl, k1, k2, k3⟩)
      exact fin _ W3 rfl rfl k1 k2 k3
    · gi_wp2_with (refine ⟨trivial, ?_⟩; gi_at_call 179; refine (CallsIn.inRound l (callsIn_wide.2 (bld_writeByte _ _ _ _ _ hbl hpl hsz))).mono ?_; rintro e W3 ⟨rfl, k1, k2, k3⟩)
      exact fin _ W3 rfl rfl k1 k2 k3
  case done =>
    rintro D ys W hD rfl ⟨⟨hbl, hbx⟩, hB⟩ hK
    have hsz := hB.size
    gi_wp2_with (refine ⟨trivial, ?_⟩; gi_at_call 158; refine (callsIn_wide.2 (shelf_Builder_String_any_k _ _ _ _ hbl hsz)).mono ?_; rintro e W5 ⟨rfl, hbl5, hB5, hk5⟩)
    have hK5 := hk5 D _ hK (by intro e; have := Option.some.inj e; simp at hD; omega) (by intro c fz e; cases e)
    refine ⟨by simp, .inl ⟨_, _, rfl, run_takeDeferred hK5, ?_⟩⟩
    refine ⟨.tuple #[.string (str (bitsT (zs.map (·.1)))), .int .i64 0], ?_, rfl, hB1.trans (((hB.trans hB5).trans (belowK_b (w := w1) (Nat.le_refl _) _ D _ _ (by simp at hD; omega) hK5 rfl rfl)).mono hB1s)⟩
    rw [upto_text]
    simp [results, Tryz.f143, go_sem]
    rfl
  case stop =>
    rintro D c pre W _ _ h _
    exact h.elim
theorem bits_form {ok : Nat → Prop} {w : World} {l : List Int} {v : Value} (h : RepC ok w (.list 1 (l.map encB)) v) : ∃ a c, v = .slice a l.length c ∧ l.length ≤ c ∧ (l = [] ∨ ∃ b o, a = some ⟨b, o, none⟩ ∧ ok b ∧ ∀ j x, l[j]? = some x → w.cell? ⟨b, o + j, none⟩ = some (.int .u8 x)) := by
  obtain ⟨a, c, rfl, h1, h2⟩ := h.list_form
  refine ⟨a, c, by simp, by simpa using h1, ?_⟩
  rcases h2 with e | ⟨b, o, vs, rfl, hb, _, h3, h4, _⟩
  · exact .inl (by simpa using e)
  · refine .inr ⟨b, o, rfl, hb, fun j x hx => ?_⟩
    have hx2 : (l.map encB)[j]? = some (encB x) := by rw [List.getElem?_map, hx]; rfl
    have := h3 j _ 0 (.v (.int .u8 x)) hx2 rfl
    have h5 := h4 j _ 0 (.v (.int .u8 x)) hx2 rfl
    rw [repc_v h5] at this
    simpa using this
theorem bits3 (l : List Int) (h : ∀ x ∈ l, 0 ≤ x ∧ x ≤ 3) : ∃ zs : List Bit3, zs.map (·.1) = l := by
  induction l with
  | nil => exact ⟨[], rfl⟩
  | cons a l ih =>
    obtain ⟨zs, e⟩ := ih (fun x hx => h x (by simp [hx]))
    exact ⟨⟨a, h a (by simp)⟩ :: zs, by rw [List.map_cons, e]⟩
theorem bt_all (his : ∀ l : List Int, l.length ≤ 1000000000 → ACp Tryz.prog 164 [.list 1 (l.map encB)] (.v (.bool (isBits l)))) : BT Tryz.prog := by
  intro l hl h0
  have hl2 := hl
  simp only [isBits, Bool.and_eq_true, decide_eq_true_eq, Bool.not_eq_true', List.any_eq_false, decide_eq_false_iff_not] at hl2
  obtain ⟨⟨g1, g2⟩, g3⟩ := hl2
  obtain ⟨zs, e⟩ := bits3 l (fun x hx => ⟨h0 x hx, by have := g3 x hx; simpa using this⟩)
  subst e
  rw [List.length_map] at g1 g2
  refine acp_new fun ok L w vs hvs hok hg => ?_
  match vs, hvs with
  | [v1], ⟨a1, _⟩ =>
    have a1' : RepC ok w (.list 1 ((zs.map (·.1)).map encB)) v1 := a1
    have hd := ac_door (w := w) (a := .bool true) (vs := [v1]) (hg.mono hok (fun _ _ => rfl)) (his (zs.map (·.1)) (by rw [List.length_map]; omega) []) (fun L2 => ⟨show Rep (fun b => b < w.heap.size) L2 w (.list 1 ((zs.map (·.1)).map encB)) v1 from a1'.okmono hok, trivial⟩) (by rintro r σ' ⟨rfl, _⟩; rw [hl])
    obtain ⟨a, c, rfl, hc, h⟩ := bits_form a1'
    rcases h with h | ⟨b, o, rfl, hb, hcell⟩
    · have : zs.length = 0 := by simpa using congrArg List.length h
      omega
    · rw [List.length_map] at hd ⊢
      refine (text_calls b o c zs (by omega) w (hok b hb) (fun j hj => ?_) hd).mono ?_
      · refine hcell j _ ?_
        rw [List.getElem?_map, List.getElem?_eq_getElem hj, List.getD_eq_getElem?_getD, List.getElem?_eq_getElem hj]; rfl
      · rintro e w' ⟨rfl, h2⟩
        refine ⟨_, rfl, h2, fun _ => False, fun _ h => h.elim, ?_⟩
        exact ⟨[_, _], rfl, RepC.v _, RepC.v _, trivial⟩
end Go.Proofs.YtcgdlhkiecommaaGreatDoor
/- A fault has a code. -/

namespace Go.Proofs.YtcgdlhkiecommaaGreatDoor
open Go
section
variable {l : List Tk}
end
end Go.Proofs.YtcgdlhkiecommaaGreatDoor
/- What few parts are, for what is written: tokens, depth, names; the reference's answers are the program's. -/


namespace Go.Proofs.YtcgdlhkiecommaaGreatDoor
open Go
def sumL : List Nat → Nat
  | [] => 0
  | a :: r => a + sumL r
theorem inBr_len (t : List Tk) : (inBr t).length = t.length + 2 := by simp [inBr]
theorem kidT_len (ks : List Ex) (ts : List (List Tk)) (i : Nat) (n : Int) : (kidT ks ts i n).length ≤ (ts.getD i []).length + 2 := by
  rw [kidT]; split
  · rw [inBr_len]; omega
  · omega
theorem sepT_len (s : Bs) (ts : List (List Tk)) : (sepT s ts).length ≤ sumL (ts.map fun t => t.length + 1) := by
  induction ts with
  | nil => simp [sepT]
  | cons a r ih =>
    cases r with
    | nil => simp [sepT, sumL]
    | cons b r => simp only [sepT, List.length_append, List.length_cons, List.map_cons, sumL] at ih ⊢; omega
theorem toksOf_len (e : Ex) (ts : List (List Tk)) : (toksOf e ts).length + 1 ≤ sumL (ts.map fun t => t.length + 1) + 6 := by
  have h0 : (ts.getD 0 []).length ≤ sumL (ts.map fun t => t.length + 1) ∧ (ts.getD 0 []).length + (ts.getD 1 []).length ≤ sumL (ts.map fun t => t.length + 1) ∧ (ts.getD 0 []).length + 1 + sumL ((ts.drop 1).map fun t => t.length + 1) ≤ sumL (ts.map fun t => t.length + 1) + 1 := by
    match ts with
    | [] => simp [sumL]
    | [a] => simp [sumL]
    | a :: b :: r => simp [sumL]; omega
  have k0 := fun n => kidT_len e.kids ts 0 n
  have k1 := fun n => kidT_len e.kids ts 1 n
  have s1 := sepT_len sDownto (ts.drop 1)
  have s2 := sepT_len sComma ts
  have h2 : (ts.getD 0 []).length + 2 + 1 + ((ts.getD 1 []).length + 2) + 1 ≤ sumL (ts.map fun t => t.length + 1) + 6 := by omega
  unfold toksOf
  cases e.op == 1 <;> cases e.op == 2 <;> cases e.op == 3 <;> cases e.op == 4 <;> cases e.op == 6 <;> cases e.op == 7 <;> cases bindsP e == 5 <;> cases bindsP e == 4 <;>
    simp only [cond_true, cond_false, List.length_append, List.length_cons, List.length_nil, inBr_len] <;>
    first | omega | (have := k0 5; omega) | (have := k0 4; omega) | (have := k0 (leftP (bindsP e)); have := k1 (bindsP e + 1); omega)
theorem toks_len (e : Ex) : (toks e).length + 1 ≤ 6 * nodes e := by
  induction e using Ex.ind with
  | h e ih =>
    have hs : ∀ l : List Ex, (∀ k ∈ l, (toks k).length + 1 ≤ 6 * nodes k) → sumL ((l.map toks).map fun t => t.length + 1) ≤ 6 * nodesL l := by
      intro l
      induction l with
      | nil => intro _; exact Nat.le_refl _
      | cons a l ih => intro h; have := h a (by simp); have := ih fun k hk => h k (by simp [hk]); simp only [List.map_cons, sumL, nodesL]; omega
    rw [toks_eq, nodes_eq]
    have := toksOf_len e (e.kids.map toks)
    have := hs e.kids ih
    omega
theorem getD_maxL (ds : List Nat) (i : Nat) : ds.getD i 0 ≤ maxL ds := by
  rcases Nat.lt_or_ge i ds.length with h | h
  · exact maxL_le h
  · rw [List.getD_eq_getElem?_getD, List.getElem?_eq_none h]; exact Nat.zero_le _
theorem maxL_drop (ds : List Nat) : maxL (ds.drop 1) ≤ maxL ds := by cases ds <;> simp [maxL]; omega
theorem depOf_le (e : Ex) (ds : List Nat) : depOf e ds ≤ maxL ds + 2 := by
  have k := fun i n => (show kidD e.kids ds i n ≤ maxL ds + 1 by rw [kidD]; have := getD_maxL ds i; split <;> omega)
  have g := getD_maxL ds 1
  have m := maxL_drop ds
  unfold depOf
  cases e.op == 1 <;> cases e.op == 2 <;> cases e.op == 3 <;> cases e.op == 4 <;> cases e.op == 6 <;> cases e.op == 7 <;> cases bindsP e == 5 <;> cases bindsP e == 4 <;>
    simp only [cond_true, cond_false] <;>
    first | omega | (have := k 0 5; omega) | (have := k 0 4; omega) | (have := k 0 (leftP (bindsP e)); have := k 1 (bindsP e + 1); omega)
theorem dep_le (e : Ex) : dep e ≤ 2 * height e + 2 := by
  induction e using Ex.ind with
  | h e ih =>
    have hs : ∀ l : List Ex, (∀ k ∈ l, dep k ≤ 2 * height k + 2) → maxL (l.map dep) ≤ 2 * heights l := by
      intro l
      induction l with
      | nil => intro _; exact Nat.le_refl _
      | cons a l ih => intro h; have := h a (by simp); have := ih fun k hk => h k (by simp [hk]); simp only [List.map_cons, maxL, heights]; omega
    have h1 := hs e.kids ih
    have h2 := depOf_le e (e.kids.map dep)
    rw [← dep_eq] at h2
    rw [height_eq]; omega
theorem depQ_le (e : Ex) : depQ e ≤ 2 * height e := by
  induction e using Ex.ind with
  | h e ih =>
    rw [depQ_eq, height_eq]
    have : ∀ n, n ≤ e.kids.length → mostR e (e.kids.map depQ) n ≤ 2 * heights e.kids := by
      intro n
      induction n with
      | zero => intro _; exact Nat.zero_le _
      | succ n ihn =>
        intro hn
        have h1 := ihn (by omega)
        have hm : e.kids.getD n default ∈ e.kids := getD_mem (by omega)
        have h2 := ih _ hm
        have h3 := heights_mem hm
        have h4 : (e.kids.map depQ).getD n 0 = depQ (e.kids.getD n default) := by
          rw [List.getD_eq_getElem?_getD, List.getD_eq_getElem?_getD, List.getElem?_map, List.getElem?_eq_getElem (show n < e.kids.length by omega)]; rfl
        rw [mostR, h4, addR]
        split <;> split <;> omega
    exact this _ (Nat.le_refl _)
theorem toksOf_all {p : Tk → Prop} {e : Ex} {ts : List (List Tk)} (hO : p tkO) (hC : p tkC) (hn : ∀ o, p ⟨o, e.name, 0, 0, 0⟩) (hi : p ⟨3, [], e.n, 0, 0⟩) (hb : ∀ o, p ⟨o, bitsT e.bits, 0, 0, 0⟩) (hs : ∀ s : Bs, s.length ≤ 6 → p (tkS s)) (h : ∀ t ∈ ts, ∀ x ∈ t, p x) : ∀ x ∈ toksOf e ts, p x := by
  have hg : ∀ i, ∀ x ∈ ts.getD i [], p x := by
    intro i x hx
    rcases Nat.lt_or_ge i ts.length with h1 | h1
    · exact h _ (by rw [List.getD_eq_getElem?_getD, List.getElem?_eq_getElem h1]; exact List.getElem_mem h1) x hx
    · rw [List.getD_eq_getElem?_getD, List.getElem?_eq_none h1] at hx; cases hx
  have hk : ∀ i n, ∀ x ∈ kidT e.kids ts i n, p x := by
    intro i n x hx
    rw [kidT] at hx
    split at hx
    · exact inBr_all hO hC (hg i) x hx
    · exact hg i x hx
  have hS : p (tkS e.name) := by rw [tkS]; exact hn _
  have one : ∀ {t : Tk}, p t → ∀ x ∈ [t], p x := fun h x hx => by rw [List.mem_singleton.1 hx]; exact h
  have app : ∀ {a b : List Tk}, (∀ x ∈ a, p x) → (∀ x ∈ b, p x) → ∀ x ∈ a ++ b, p x := fun h1 h2 x hx => (List.mem_append.1 hx).elim (h1 x) (h2 x)
  have con : ∀ {t : Tk} {b : List Tk}, p t → (∀ x ∈ b, p x) → ∀ x ∈ t :: b, p x := fun h1 h2 x hx => (List.mem_cons.1 hx).elim (fun e => e ▸ h1) (h2 x)
  unfold toksOf
  cases e.op == 1
  case true => exact one hi
  cases e.op == 2
  case true => exact one (hb _)
  cases e.op == 3
  case true => exact one (hb _)
  cases e.op == 4
  case true => exact one (hn _)
  cases e.op == 6
  case true => exact app (hk _ _) (inBr_all hO hC (hg 1))
  cases e.op == 7
  case true => exact app (hk _ _) (inBr_all hO hC (sepT_all (hs _ (by decide)) fun t ht => h t (List.mem_of_mem_drop ht)))
  cases bindsP e == 5
  case true => exact con (hn _) (inBr_all hO hC (sepT_all (hs _ (by decide)) h))
  cases bindsP e == 4
  case true => exact con hS (hk _ _)
  exact app (hk _ _) (con hS (hk _ _))
theorem nuE_facts {e : Ex} (h : nuE e = true) : (-9223372036854775808 ≤ e.n ∧ e.n ≤ 9223372036854775807) ∧ ∀ k ∈ e.kids, nuE k = true := by
  have hn : ∀ l : List Ex, nuEs l = true → ∀ k ∈ l, nuE k = true := by
    intro l
    induction l with
    | nil => intro _ k hk; cases hk
    | cons a l ih =>
      intro h k hk
      rw [nuEs, Bool.and_eq_true] at h
      cases hk with
      | head => exact h.1
      | tail _ hk => exact ih h.2 k hk
  cases e with
  | mk o s n b v k t l c =>
    rw [nuE] at h
    simp only [Bool.and_eq_true] at h
    have h1 := h.1.1.2.1
    rw [w64, Bool.and_eq_true, decide_eq_true_eq, decide_eq_true_eq] at h1
    exact ⟨h1, hn k h.2⟩
theorem okt0 {o : Int} {s : Bs} (h : s.length ≤ 1000000) : OKT ⟨o, s, 0, 0, 0⟩ := ⟨Nat.le_trans h (by decide), (by decide : (-9223372036854775808 : Int) ≤ 0), (by decide : (0 : Int) ≤ 9223372036854775807)⟩
theorem toks_small (e : Ex) : smE e = true → nuE e = true → OKTs (toks e) := by
  induction e using Ex.ind with
  | h e ih =>
    intro hm hn
    obtain ⟨m1, m2, m3⟩ := smE_facts hm
    obtain ⟨n1, n2⟩ := nuE_facts hn
    rw [toks_eq]
    refine toksOf_all (p := OKT) ⟨by decide, by decide, by decide⟩ ⟨by decide, by decide, by decide⟩ (fun o => okt0 (by omega)) ⟨(by decide : (0 : Nat) ≤ 140737488355328), n1.1, n1.2⟩ (fun o => okt0 (by rw [bitsT_len]; omega)) (fun s hs => by rw [tkS]; exact okt0 (by omega)) (fun t ht x hx => ?_)
    obtain ⟨k, hk, rfl⟩ := List.mem_map.1 ht
    exact ih k hk (m3 k hk) (n2 k hk) x hx
theorem namesQ_le (e : Ex) : ∀ out, (namesQ out e).length ≤ out.length + nodes e := by
  induction e using Ex.ind with
  | h e ih =>
    intro out
    have key : ∀ (l : List Ex), (∀ k ∈ l, ∀ out : List Bs, (namesQ out k).length ≤ out.length + nodes k) → ∀ out : List Bs, (l.foldl namesQ out).length ≤ out.length + nodesL l := by
      intro l
      induction l with
      | nil => intro _ out; exact Nat.le_refl _
      | cons a l ihl => intro h out; have h1 := h a (by simp) out; have h2 := ihl (fun k hk => h k (by simp [hk])) (namesQ out a); rw [List.foldl_cons, nodesL]; omega
    rw [namesQ_eq, nodes_eq]
    have h1 := key _ ih (addN out e)
    have h2 : (addN out e).length ≤ out.length + 1 := by rw [addN]; cases (isNm e && !(out.contains e.name)) <;> simp
    omega
def namesRQ (e : Ex) : List Bs × Int := bif validQ e then (namesQ [] e, 0) else ([], 2)
structure WF (P : Program) (e : Ex) : Prop where
  z : szE e = true
  m : smE e = true
  nd : nodes e ≤ 3000
  ht : height e ≤ 300
  tl : (toks e).length ≤ 18000
  dp : dep e ≤ 602
  dq : depQ e ≤ 600
  w : OKW P e
  tk : OKTs (toks e)
  v : validQ e = validP e
  tx : textQ e = textE e
  nm : namesRQ e = namesE e
  nl : (namesQ [] e).length ≤ 3000
end Go.Proofs.YtcgdlhkiecommaaGreatDoor
/- What is read of the first tokens alone is the same. -/

namespace Go.Proofs.YtcgdlhkiecommaaGreatDoor
open Go
section
variable {l : List Tk} {n : Nat}
end
end Go.Proofs.YtcgdlhkiecommaaGreatDoor
/- What is read is valid, and is written with tokens that were read. -/


namespace Go.Proofs.YtcgdlhkiecommaaGreatDoor
open Go
section
variable {l : List Tk}
end
end Go.Proofs.YtcgdlhkiecommaaGreatDoor
/- What is read is valid: all ways to read. -/

namespace Go.Proofs.YtcgdlhkiecommaaGreatDoor
open Go
section
variable {l : List Tk}
end
end Go.Proofs.YtcgdlhkiecommaaGreatDoor
/- What the laws without the reference ask, of trees and tokens alone. -/



namespace Go.Proofs.YtcgdlhkiecommaaGreatDoor
open Go
section
variable {l : List Tk}
end
section
variable {l : List Tk} {i : Nat}
end
end Go.Proofs.YtcgdlhkiecommaaGreatDoor
/- What ExprShort and ExprBrackets ask. -/


namespace Go.Proofs.YtcgdlhkiecommaaGreatDoor
open Go
end Go.Proofs.YtcgdlhkiecommaaGreatDoor
/- One byte is sought in a string of any length. -/


namespace Go.Proofs.YtcgdlhkiecommaaGreatDoor
open Go Go.RowKit
theorem q_lindexByte (s : Bs) (c : UInt8) : ACp Tryz.prog 201 [.v (.string (str s)), .v (.int .u8 (c.toNat : Int))] (.v (.int .i64 (Lib.indexByte s c))) :=
  acp_below (vs := [.string (str s), .int .u8 (c.toNat : Int)]) rfl fun ok w hg => (shelf_stringslite_IndexByte (str s) c.toNat w).mono fun e w' ⟨h1, h2⟩ => by
    subst h2
    refine ⟨?_, Below.refl _ _⟩
    rw [h1]
    have e1 : ((c.toNat : Int)).toNat.toUInt8 = c := by simp
    rw [e1]; rfl
theorem index_self {s : Bs} {c : UInt8} (h : ((([c] : Bs).length : Int) == 0 || ([c] == s)) = true) : (0 : Int) = Lib.indexByte s c := by
  have h1 : [c] = s := by simpa using h
  rw [← h1, indexByte_eq]; simp
theorem contains_index (s : Bs) (c : UInt8) : decide (Lib.indexByte s c ≥ 0) = Lib.contains s [c] := by
  rw [contains_one, indexByte_eq]
  cases s.contains c <;> simp
end Go.Proofs.YtcgdlhkiecommaaGreatDoor
/- Sameness, as the reference asks it. -/

namespace Go.Proofs.YtcgdlhkiecommaaGreatDoor
open Go
end Go.Proofs.YtcgdlhkiecommaaGreatDoor
/- Types as they are written: two levels are enough. -/


namespace Go.Proofs.YtcgdlhkiecommaaGreatDoor
open Go
theorem wf_of3 {P : Program} {e : Ex} (hb : BT P) (h1 : nodes e ≤ 3000) (h2 : smE e = true) (h3 : height e ≤ 300) (hn : nuE e = true) : WF P e := by
  have hz := szE_few e h2 hn h1
  have t1 := toks_len e
  have d1 := dep_le e
  have d2 := depQ_le e
  have n1 := namesQ_le e []
  have hv := validQ_P e (by omega)
  refine ⟨hz, h2, h1, h3, by omega, by omega, by omega, ⟨hz, .inr hb, by omega, by omega⟩, toks_small e h2 hn, hv, ?_, ?_, by simpa using Nat.le_trans n1 (by simpa using h1)⟩
  · rw [textQ, textE, hv]
    cases hvp : validP e with
    | false => rfl
    | true =>
      have hf := validQ_form (hv.trans hvp)
      exact (textP_T (fun t ht => (toks_ok e hf hz h2 t ht).poss) (by omega)).symm
  · rw [namesRQ, namesE, hv]
    cases hvp : validP e with
    | false => rfl
    | true =>
      have hf := validQ_form (hv.trans hvp)
      show (namesQ [] e, (0 : Int)) = (namesT (toks e), 0)
      rw [names_toks e hf []]; rfl
theorem few_all {P : Program} (hb : BT P) : ∀ {l : List Ex} {n : Int}, 0 ≤ n → n ≤ 3000 → fewP l n = true → (∀ x ∈ l, nuE x = true) → ∀ x ∈ l, WF P x
  | [], _, _, _, _, _ => fun x hx => by cases hx
  | e :: r, n, h0, hn, h, hu => by
    rw [fewP] at h
    split at h
    · cases h
    · rename_i h2
      have hp : 0 ≤ partsE e n 0 := by
        rcases Int.lt_or_le (partsE e n 0) 0 with h3 | h3
        · rw [decide_eq_true h3] at h2; simp at h2
        · exact h3
      obtain ⟨g1, g2, g3⟩ := partsE_few e n 0 h0 hn hp
      intro x hx
      rcases List.mem_cons.1 hx with rfl | hx
      · exact wf_of3 hb (by omega) g2 (by omega) (hu x (by simp))
      · exact few_all hb hp (by omega) h (fun y hy => hu y (by simp [hy])) x hx
theorem sepT_one (s : Bs) : ∀ {ts : List (List Tk)}, ts ≠ [] → (sepT s ts).length + 1 ≤ sumL (ts.map fun t => t.length + 1)
  | [], h => absurd rfl h
  | [t], _ => by simp [sepT, sumL]
  | t :: u :: r, _ => by
    have := sepT_one s (ts := u :: r) (by simp)
    simp only [sepT, List.length_append, List.length_cons, List.map_cons, sumL] at this ⊢; omega
theorem kidTk_len (k : Ex) (n : Int) : (kidTk k n).length ≤ (toks k).length + 2 := by
  rw [kidTk]; split
  · rw [inBr_len]; omega
  · omega
theorem toks_three (e : Ex) : formP e = true → (toks e).length + 2 ≤ 3 * nodes e := by
  induction e using Ex.ind with
  | h e ih =>
    intro hf
    rw [nodes_eq]
    have hk : ∀ k ∈ e.kids, (toks k).length + 2 ≤ 3 * nodes k := fun k hk => ih k hk (form_kid hf k hk)
    rcases kind_of hf with ⟨h1, hk0⟩ | ⟨h1, hk0⟩ | ⟨h1, hk0⟩ | ⟨h1, hn, hk0⟩ | ⟨h1, hn, hk0, hs⟩ | ⟨h1, hn, hk0, hs⟩
    · rcases h1 with h1 | h1 | h1 | h1
      · rw [(toks_int (by rw [h1]; rfl)).1]; simp only [List.length_cons, List.length_nil]; omega
      · rw [(toks_bit (by rw [h1]; rfl) (by rw [h1]; rfl)).1]; simp only [List.length_cons, List.length_nil]; omega
      · rw [(toks_vec (by rw [h1]; rfl) (by rw [h1]; rfl) (by rw [h1]; rfl)).1]; simp only [List.length_cons, List.length_nil]; omega
      · rw [(toks_name (by rw [h1]; rfl) (by rw [h1]; rfl) (by rw [h1]; rfl) (by rw [h1]; rfl)).1]; simp only [List.length_cons, List.length_nil]; omega
    · obtain ⟨o1, o2, o3, o4, o6⟩ := ops6 h1
      rw [(toks_index o1 o2 o3 o4 o6 hk0).1]
      match hkk : e.kids, hk0 with
      | [a, b], _ =>
        rw [hkk] at hk
        have ha := hk a (by simp); have hb := hk b (by simp); have := kidTk_len a 5
        simp only [List.getD_cons_zero, List.getD_cons_succ, List.length_append, inBr_len, nodesL]; omega
    · obtain ⟨o1, o2, o3, o4, o6, o7⟩ := ops7 h1
      rw [(toks_slice o1 o2 o3 o4 o6 o7 hk0).1]
      match hkk : e.kids, hk0 with
      | [a, b, c], _ =>
        rw [hkk] at hk
        have ha := hk a (by simp); have hb := hk b (by simp); have hc := hk c (by simp); have := kidTk_len a 5
        simp only [List.getD_cons_zero, List.length_append, inBr_len, nodesL, List.drop_succ_cons, List.drop_zero, List.map_cons, List.map_nil, sepT, List.length_cons]; omega
    · obtain ⟨o1, o2, o3, o4, o6, o7⟩ := ops5 h1
      rw [(toks_call o1 o2 o3 o4 o6 o7 (by rw [binds_call h1 hn]; rfl)).1]
      have hne : e.kids.map toks ≠ [] := by intro e0; have := congrArg List.length e0; rw [List.length_map] at this; simp at this; rw [this] at hk0; simp at hk0
      have h2 := sepT_one sComma hne
      have h3 : ∀ l : List Ex, (∀ k ∈ l, (toks k).length + 2 ≤ 3 * nodes k) → sumL ((l.map toks).map fun t => t.length + 1) + l.length ≤ 3 * nodesL l := by
        intro l
        induction l with
        | nil => intro _; exact Nat.le_refl _
        | cons a l ih => intro h; have := h a (by simp); have := ih fun k hk => h k (by simp [hk]); simp only [List.map_cons, sumL, nodesL, List.length_cons]; omega
      have h4 := h3 e.kids hk
      simp only [List.length_cons, inBr_len]; omega
    · obtain ⟨o1, o2, o3, o4, o6, o7⟩ := ops5 h1
      have hb := binds_unary h1 hn hk0
      rw [(toks_one o1 o2 o3 o4 o6 o7 (by rw [hb]; rfl) (by rw [hb]; rfl) hk0).1]
      match hkk : e.kids, hk0 with
      | [a], _ =>
        rw [hkk] at hk
        have ha := hk a (by simp); have := kidTk_len a 4
        simp only [List.getD_cons_zero, List.length_cons, nodesL]; omega
    · obtain ⟨o1, o2, o3, o4, o6, o7⟩ := ops5 h1
      have hb := binds_binary h1 hn hk0
      have hr := str_range e.name
      rw [(toks_two o1 o2 o3 o4 o6 o7 (by rw [hb]; simp; omega) (by rw [hb]; simp; omega) hk0).1]
      match hkk : e.kids, hk0 with
      | [a, b], _ =>
        rw [hkk] at hk
        have ha := hk a (by simp); have hbb := hk b (by simp); have := kidTk_len a (leftP (bindsP e)); have := kidTk_len b (bindsP e + 1)
        simp only [List.getD_cons_zero, List.getD_cons_succ, List.length_append, List.length_cons, nodesL]; omega
structure OK1 (P : Program) (r : Tr) : Prop where
  n : r.name.length ≤ 200000
  ln : r.len.length ≤ 5
  en : r.elem.length ≤ 5
  w : ∀ x ∈ r.len, WF P x
structure OK2 (P : Program) (r : Tr) : Prop where
  o : OK1 P r
  u : ∀ u ∈ r.elem, OK1 P u
theorem sumL_le {l : List Nat} {n : Nat} (h : ∀ x ∈ l, x ≤ n) : sumL l ≤ l.length * n := by
  induction l with
  | nil => exact Nat.zero_le _
  | cons a l ih =>
    have := h a (by simp)
    have := ih fun x hx => h x (by simp [hx])
    simp only [sumL, List.length_cons, Nat.succ_mul]; omega
theorem maxL_le' {ds : List Nat} {n : Nat} (h : ∀ x ∈ ds, x ≤ n) : maxL ds ≤ n := by
  induction ds with
  | nil => exact Nat.zero_le _
  | cons a r ih => exact Nat.max_le.2 ⟨h a (by simp), ih fun x hx => h x (by simp [hx])⟩
section
variable {P : Program} {r : Tr}
theorem len_toks (h : OK1 P r) : (sepT [] (r.len.map toks)).length ≤ 90010 := by
  have h1 := sepT_len [] (r.len.map toks)
  have h2 : sumL ((r.len.map toks).map fun t => t.length + 1) ≤ ((r.len.map toks).map fun t => t.length + 1).length * 18001 := sumL_le fun x hx => by
    obtain ⟨t, ht, rfl⟩ := List.mem_map.1 hx
    obtain ⟨e, he, rfl⟩ := List.mem_map.1 ht
    have := (h.w e he).tl; omega
  rw [List.length_map, List.length_map] at h2
  have := h.ln
  have : r.len.length * 18001 ≤ 5 * 18001 := Nat.mul_le_mul_right _ this
  omega
theorem len_dep (h : OK1 P r) : maxL (r.len.map dep) ≤ 602 := maxL_le' fun x hx => by
  obtain ⟨e, he, rfl⟩ := List.mem_map.1 hx
  exact (h.w e he).dp
theorem okr_flat (h : OK1 P r) (he : r.elem.length = 0) : OKR P r ∧ (toksR r).length ≤ 90013 ∧ depR r ≤ 603 := by
  have h1 := len_toks h
  have h2 := len_dep h
  have hn := h.n
  have hl := h.ln
  have e0 : r.elem = [] := List.length_eq_zero_iff.1 he
  have ht : (toksR r).length ≤ 90013 := by
    rw [toksR_eq, e0]
    cases (r.len.length : Int) == 0 <;> simp [toksRs, inBr] <;> omega
  have hd : depR r ≤ 603 := by
    rw [depR_eq, e0]
    cases (r.len.length : Int) == 0 <;> simp [depRs] <;> omega
  refine ⟨?_, ht, hd⟩
  cases r with
  | mk s l e i c =>
    have e0 : e = [] := e0
    subst e0
    have hn : s.length ≤ 200000 := hn
    have hl : l.length ≤ 5 := hl
    refine ⟨⟨by omega, by omega, by simp, fun x hx => (h.w x hx).w, by omega, by omega⟩, trivial⟩
theorem okr_arr (h : OK2 P r) (he : r.elem.length = 1) (hu : (r.elem.getD 0 default).elem.length = 0) : OKR P r ∧ (toksR r).length ≤ 300000 ∧ depR r ≤ 603 := by
  have h1 := len_toks h.o
  have h2 := len_dep h.o
  have hn := h.o.n
  have hl := h.o.ln
  obtain ⟨u, e0⟩ : ∃ u, r.elem = [u] := List.length_eq_one_iff.1 he
  rw [e0] at hu
  obtain ⟨g1, g2, g3⟩ := okr_flat (h.u u (by rw [e0]; simp)) hu
  have ht : (toksR r).length ≤ 300000 := by
    rw [toksR_eq, e0]
    cases (r.len.length : Int) == 0 <;> simp [toksRs, inBr] <;> omega
  have hd : depR r ≤ 603 := by
    rw [depR_eq, e0]
    cases (r.len.length : Int) == 0 <;> simp [depRs] <;> omega
  refine ⟨?_, ht, hd⟩
  cases r with
  | mk s l e i c =>
    have e0 : e = [u] := e0
    subst e0
    have hn : s.length ≤ 200000 := hn
    have hl : l.length ≤ 5 := hl
    exact ⟨⟨by omega, by omega, by simp, fun x hx => (h.o.w x hx).w, by omega, by omega⟩, g1, trivial⟩
theorem valid_flat (hv : validR r = true) (hn : (r.name == sArray) = false) : r.elem.length = 0 := by
  rw [validR_eq, hn] at hv
  cases h : (r.name == sVec) with
  | true => rw [h] at hv; simp only [cond_true, Bool.and_eq_true, beq_iff_eq] at hv; omega
  | false => rw [h] at hv; simp only [cond_false, Bool.and_eq_true, beq_iff_eq] at hv; omega
theorem vec_okr (h : OK1 P r) (hc : ((((r.len.length : Int) == 1) && ((r.elem.length : Int) == 0)) && validP (r.len.getD 0 default)) = true) : OKR P r := by
  simp only [Bool.and_eq_true, beq_iff_eq] at hc
  exact (okr_flat h (by omega)).1
theorem arr_okr (h : OK2 P r) (hc : (((((((r.len.length : Int) == 1) && ((r.elem.length : Int) == 1)) && validP (r.len.getD 0 default)) && ((r.elem.getD 0 default).name != sArray))) && validR (r.elem.getD 0 default)) = true) : OKR P r := by
  simp only [Bool.and_eq_true, beq_iff_eq, bne_iff_ne] at hc
  obtain ⟨⟨⟨⟨h1, h2⟩, h3⟩, h4⟩, h5⟩ := hc
  exact (okr_arr h (by omega) (valid_flat h5 (by simpa using h4))).1
theorem valid_okr (h : OK2 P r) (hv : validR r = true) : OKR P r ∧ (toksR r).length ≤ 300000 ∧ depR r ≤ 603 := by
  cases hn : (r.name == sArray) with
  | false => obtain ⟨g1, g2, g3⟩ := okr_flat h.o (valid_flat hv hn); exact ⟨g1, by omega, g3⟩
  | true =>
    have hvec : (r.name == sVec) = false := by rw [beq_iff_eq] at hn; rw [hn]; decide
    rw [validR_arr hvec hn] at hv
    simp only [Bool.and_eq_true, beq_iff_eq, bne_iff_ne] at hv
    obtain ⟨⟨⟨⟨⟨h1, h2⟩, h3⟩, h4⟩, h5⟩, h6⟩ := hv
    exact okr_arr h (by omega) (valid_flat h5 (by simpa using h4))
def gR (r : Tr) : Bool := (decide ((r.len.length : Int) > 1) || !(formP (r.len.getD 0 default))) || decide (((depQ (r.len.getD 0 default) : Nat) : Int) + 1 > 40)
theorem vr_name (h : ((r.len.length : Int) == 0) = true) : validR r = (isNameL r.name && ((r.elem.length : Int) == 0)) := by
  have h1 : ((r.len.length : Int) == 1) = false := by rw [beq_iff_eq] at h; rw [h]; rfl
  rw [validR_eq, h1, h]
  cases hv : (r.name == sVec) with
  | true => rw [beq_iff_eq] at hv; rw [hv, show isNameL sVec = false from by decide +kernel]; rfl
  | false =>
    cases ha : (r.name == sArray) with
    | true => rw [beq_iff_eq] at ha; rw [ha, show isNameL sArray = false from by decide +kernel]; rfl
    | false => simp
theorem vp_g (h : OK1 P r) (hl : ((r.len.length : Int) == 0) = false) (hg : gR r = false) : (r.len.length : Int) = 1 ∧ validP (r.len.getD 0 default) = true ∧ dep (r.len.getD 0 default) + 1 ≤ 40 := by
  simp only [gR, Bool.or_eq_false_iff, decide_eq_false_iff_not, Bool.not_eq_false'] at hg
  obtain ⟨⟨h1, h2⟩, h3⟩ := hg
  have hl2 : r.len.length ≠ 0 := by intro e; rw [e] at hl; cases hl
  have hw := h.w (r.len.getD 0 default) (getD_mem (by omega))
  have hd := depQ_dep _ h2
  refine ⟨by omega, ?_, by omega⟩
  rw [← hw.v, validQ, h2, Bool.true_and, decide_eq_true_eq]; omega
theorem vp_n (h : OK1 P r) (hl : ((r.len.length : Int) == 0) = false) (hg : gR r = true) : ¬ ((r.len.length : Int) = 1 ∧ validP (r.len.getD 0 default) = true ∧ dep (r.len.getD 0 default) + 1 ≤ 40) := by
  rintro ⟨h1, h2, h3⟩
  have hw := h.w (r.len.getD 0 default) (getD_mem (by omega))
  rw [← hw.v, validQ, Bool.and_eq_true, decide_eq_true_eq] at h2
  have hd := depQ_dep _ h2.1
  simp only [gR, h2.1, Bool.not_true, Bool.or_false, Bool.or_eq_true, decide_eq_true_eq] at hg
  omega
theorem depR_le (hl : (r.len.length : Int) = 1) : depR r = max (dep (r.len.getD 0 default) + 1) (depRs r.elem) := by
  obtain ⟨a, ha⟩ : ∃ a, r.len = [a] := List.length_eq_one_iff.1 (by omega)
  rw [depR_eq, ha]; simp [maxL]
theorem vr_no (h : OK1 P r) (hl : ((r.len.length : Int) == 0) = false) (hg : gR r = true) : validR r = false := by
  have hn := vp_n h hl hg
  cases hv : validR r with
  | false => rfl
  | true =>
    exfalso
    rw [validR_eq] at hv
    cases h1 : (r.name == sVec) with
    | true =>
      rw [h1, cond_true] at hv
      simp only [Bool.and_eq_true, beq_iff_eq, okR, decide_eq_true_eq] at hv
      obtain ⟨⟨⟨h2, h3⟩, h4⟩, h5⟩ := hv
      rw [depR_le h2] at h5
      exact hn ⟨h2, h4, by omega⟩
    | false =>
      cases h2 : (r.name == sArray) with
      | true =>
        rw [h1, h2, cond_false, cond_true] at hv
        simp only [Bool.and_eq_true, beq_iff_eq, okR, decide_eq_true_eq] at hv
        obtain ⟨⟨⟨⟨⟨g2, g3⟩, g4⟩, g5⟩, g6⟩, g7⟩ := hv
        rw [depR_le g2] at g7
        exact hn ⟨g2, g4, by omega⟩
      | false =>
        rw [h1, h2, cond_false, cond_false] at hv
        simp only [Bool.and_eq_true, beq_iff_eq] at hv
        rw [beq_eq_false_iff_ne] at hl
        exact hl hv.1.2
theorem vr_vec (h : OK1 P r) (hl : ((r.len.length : Int) == 0) = false) (hg : gR r = false) (hv : (r.name == sVec) = true) : validR r = ((r.elem.length : Int) == 0) := by
  obtain ⟨h1, h2, h3⟩ := vp_g h hl hg
  rw [validR_eq, hv, cond_true, h2, okR, depR_le h1, show ((r.len.length : Int) == 1) = true by simpa using h1]
  cases he : ((r.elem.length : Int) == 0) with
  | false => rfl
  | true =>
    have e0 : r.elem = [] := List.length_eq_zero_iff.1 (by rw [beq_iff_eq] at he; omega)
    rw [e0, depRs, decide_eq_true (by omega)]; rfl
theorem vr_other (hl : ((r.len.length : Int) == 0) = false) (hv : (r.name == sVec) = false) (hne : (r.name == sArray) = false) : validR r = false := by
  rw [validR_eq, hv, hne, cond_false, cond_false, hl]; simp
theorem vr_arr (h : OK2 P r) (hl : ((r.len.length : Int) == 0) = false) (hg : gR r = false) (hv : (r.name == sVec) = false) : validR r = ((((r.name == sArray) && ((r.elem.length : Int) == 1)) && ((r.elem.getD 0 default).name != sArray)) && validR (r.elem.getD 0 default)) := by
  obtain ⟨h1, h2, h3⟩ := vp_g h.o hl hg
  cases ha : (r.name == sArray) with
  | false =>
    rw [validR_eq, hv, ha, cond_false, cond_false, hl]; simp
  | true =>
    rw [validR_arr hv ha, h2, show ((r.len.length : Int) == 1) = true by simpa using h1]
    cases he : ((r.elem.length : Int) == 1) with
    | false => rfl
    | true =>
      obtain ⟨u, hu⟩ : ∃ u, r.elem = [u] := List.length_eq_one_iff.1 (by rw [beq_iff_eq] at he; omega)
      cases hn : ((r.elem.getD 0 default).name != sArray) with
      | false => rfl
      | true =>
        cases hvu : validR (r.elem.getD 0 default) with
        | false => rfl
        | true =>
          have hok : okR r = true := by
            rw [okR, decide_eq_true_eq, depR_le h1, hu]
            rw [hu] at hvu hn
            have hvu : validR u = true := hvu
            have hn : (u.name != sArray) = true := hn
            have hdu : depR u ≤ 40 := by
              have hf := valid_flat hvu (by simpa using hn)
              rw [validR_eq] at hvu
              cases g1 : (u.name == sVec) with
              | true =>
                rw [g1, cond_true] at hvu
                simp only [Bool.and_eq_true, okR, decide_eq_true_eq] at hvu
                omega
              | false =>
                rw [g1, show (u.name == sArray) = false by simpa using hn, cond_false, cond_false] at hvu
                simp only [Bool.and_eq_true, beq_iff_eq] at hvu
                rw [depR_eq, show ((u.len.length : Int) == 0) = true by simpa using hvu.1.2]; simp
            simp only [depRs]
            omega
          rw [hok]; rfl
theorem arr_ne (hc : (((((r.len.length : Int) == 1) && ((r.elem.length : Int) == 1)) && validP (r.len.getD 0 default)) && ((r.elem.getD 0 default).name != sArray)) = true) : ((r.elem.getD 0 default).name == sArray) = false := by
  rw [Bool.and_eq_true] at hc; simpa using hc.2
theorem arr_ne2 (hc : (((r.name == sArray) && ((r.elem.length : Int) == 1)) && ((r.elem.getD 0 default).name != sArray)) = true) : ((r.elem.getD 0 default).name == sArray) = false := by
  rw [Bool.and_eq_true] at hc; simpa using hc.2
theorem tokR_name (h : ((r.len.length : Int) == 0) = true) : [tkN r.name] = toksR r := by rw [toksR_eq, h]; rfl
theorem tokR_flat (hl : (r.len.length : Int) = 1) (he : r.elem.length = 0) : (([tkS r.name, tkO] ++ toks (r.len.getD 0 default)) ++ [tkC]) = toksR r := by
  obtain ⟨a, ha⟩ : ∃ a, r.len = [a] := List.length_eq_one_iff.1 (by omega)
  have e0 : r.elem = [] := List.length_eq_zero_iff.1 he
  rw [toksR_eq, ha, e0, inBr_eq]; simp [sepT, toksRs]
theorem tokR_arr (hl : (r.len.length : Int) = 1) (he : r.elem.length = 1) : (((([tkS r.name, tkO] ++ toks (r.len.getD 0 default)) ++ [tkC]) ++ [tkS sOf]) ++ toksR (r.elem.getD 0 default)) = toksR r := by
  obtain ⟨a, ha⟩ : ∃ a, r.len = [a] := List.length_eq_one_iff.1 (by omega)
  obtain ⟨u, hu⟩ : ∃ u, r.elem = [u] := List.length_eq_one_iff.1 he
  rw [toksR_eq r, ha, hu, inBr_eq]; simp [sepT, toksRs]
theorem valid_len (hv : validR r = true) (hl : ((r.len.length : Int) == 0) = false) : (r.len.length : Int) = 1 ∧ validP (r.len.getD 0 default) = true ∧ (r.name = sVec ∨ r.name = sArray) := by
  rw [validR_eq] at hv
  cases h1 : (r.name == sVec) with
  | true =>
    rw [h1, cond_true] at hv
    simp only [Bool.and_eq_true, beq_iff_eq] at hv
    exact ⟨hv.1.1.1, hv.1.2, .inl (by simpa using h1)⟩
  | false =>
    cases h2 : (r.name == sArray) with
    | true =>
      rw [h1, h2, cond_false, cond_true] at hv
      simp only [Bool.and_eq_true, beq_iff_eq] at hv
      exact ⟨hv.1.1.1.1.1, hv.1.1.1.2, .inr (by simpa using h2)⟩
    | false =>
      rw [h1, h2, cond_false, cond_false, hl] at hv
      simp at hv
theorem valid_elem (hv : validR r = true) (he : decide ((r.elem.length : Int) > 0) = true) : r.elem.length = 1 ∧ (r.elem.getD 0 default).name ≠ sArray ∧ validR (r.elem.getD 0 default) = true := by
  rw [decide_eq_true_eq] at he
  cases hn : (r.name == sArray) with
  | false => have := valid_flat hv hn; omega
  | true =>
    have hvec : (r.name == sVec) = false := by rw [beq_iff_eq] at hn; rw [hn]; decide
    rw [validR_arr hvec hn] at hv
    simp only [Bool.and_eq_true, beq_iff_eq, bne_iff_ne] at hv
    exact ⟨by omega, hv.1.1.2, hv.1.2⟩
theorem flat_short (h : OK1 P r) (hv : validR r = true) (he : r.elem.length = 0) : (toksR r).length ≤ 9100 := by
  cases hl : ((r.len.length : Int) == 0) with
  | true => rw [← tokR_name hl]; simp
  | false =>
    obtain ⟨h1, h2, h3⟩ := valid_len hv hl
    have hw := h.w (r.len.getD 0 default) (getD_mem (by omega))
    have ht := toks_three _ (validQ_form (hw.v.trans h2))
    have hn := hw.nd
    rw [← tokR_flat h1 he]
    simp only [List.length_append, List.length_cons, List.length_nil]; omega
theorem toksR_short (h : OK2 P r) (hv : validR r = true) : (toksR r).length ≤ 20000 := by
  cases he : decide ((r.elem.length : Int) > 0) with
  | false => rw [decide_eq_false_iff_not] at he; have := flat_short h.o hv (by omega); omega
  | true =>
    obtain ⟨e1, e2, e3⟩ := valid_elem hv he
    have hl : ((r.len.length : Int) == 0) = false := by
      cases hl : ((r.len.length : Int) == 0) with
      | false => rfl
      | true => rw [vr_name hl] at hv; simp only [Bool.and_eq_true, beq_iff_eq] at hv; omega
    obtain ⟨h1, h2, h3⟩ := valid_len hv hl
    have hw := h.o.w (r.len.getD 0 default) (getD_mem (by omega))
    have ht := toks_three _ (validQ_form (hw.v.trans h2))
    have hn := hw.nd
    have hu := flat_short (h.u (r.elem.getD 0 default) (getD_mem (by omega))) e3 (valid_flat e3 (by simpa using e2))
    rw [← tokR_arr h1 e1]
    simp only [List.length_append, List.length_cons, List.length_nil]; omega
theorem okk_flat (h : OK1 P r) (hv : validR r = true) (he : r.elem.length = 0) : ∀ t ∈ toksR r, OKk t := by
  cases hl : ((r.len.length : Int) == 0) with
  | true =>
    rw [← tokR_name hl]
    intro t ht
    obtain rfl := List.mem_singleton.1 ht
    rw [vr_name hl, Bool.and_eq_true] at hv
    exact ⟨by rw [possT]; simp [tkN, hv.1], h.n, (by intro h; cases h), by simp [tkN], by simp [tkN]⟩
  | false =>
    obtain ⟨h1, h2, h3⟩ := valid_len hv hl
    have hw := h.w (r.len.getD 0 default) (getD_mem (by omega))
    rw [← tokR_flat h1 he]
    intro t ht
    simp only [List.mem_append, List.mem_cons, List.not_mem_nil, or_false] at ht
    rcases ht with ((rfl | rfl) | ht) | rfl
    · exact tkS_ok (by rcases h3 with h3 | h3 <;> rw [h3] <;> decide +kernel) h.n
    · exact tkO_ok
    · exact toks_ok _ (validQ_form (hw.v.trans h2)) hw.z hw.m t ht
    · exact tkC_ok
theorem okk_all (h : OK2 P r) (hv : validR r = true) : ∀ t ∈ toksR r, OKk t := by
  cases he : decide ((r.elem.length : Int) > 0) with
  | false => rw [decide_eq_false_iff_not] at he; exact okk_flat h.o hv (by omega)
  | true =>
    obtain ⟨e1, e2, e3⟩ := valid_elem hv he
    have hl : ((r.len.length : Int) == 0) = false := by
      cases hl : ((r.len.length : Int) == 0) with
      | false => rfl
      | true => rw [vr_name hl] at hv; simp only [Bool.and_eq_true, beq_iff_eq] at hv; omega
    obtain ⟨h1, h2, h3⟩ := valid_len hv hl
    have hw := h.o.w (r.len.getD 0 default) (getD_mem (by omega))
    have hu := h.u (r.elem.getD 0 default) (getD_mem (by omega))
    rw [← tokR_arr h1 e1]
    intro t ht
    simp only [List.mem_append, List.mem_cons, List.not_mem_nil, or_false] at ht
    rcases ht with ((((rfl | rfl) | ht) | rfl) | rfl) | ht
    · exact tkS_ok (by rcases h3 with h3 | h3 <;> rw [h3] <;> decide +kernel) h.o.n
    · exact tkO_ok
    · exact toks_ok _ (validQ_form (hw.v.trans h2)) hw.z hw.m t ht
    · exact tkC_ok
    · exact tkS_ok (by decide +kernel) (by decide)
    · exact okk_flat hu e3 (valid_flat e3 (by simpa using e2)) t ht
theorem text_all (h : OK2 P r) (hv : validR r = true) : textR r = (joinT (toksR r), 0) := by
  have hl := toksR_short h hv
  rw [textR, hv]
  exact textP_T (fun t ht => (okk_all h hv t ht).poss) hl
end
theorem szW_facts {r : Tr} (h : szW r = true) : r.name.length ≤ 140737488355328 ∧ r.len.length ≤ 140737488355328 ∧ r.elem.length ≤ 140737488355328 ∧ (∀ e ∈ r.len, szX e = true) ∧ (∀ e ∈ r.len, nuE e = true) ∧ ∀ u ∈ r.elem, szW u = true := by
  have hl : ∀ l : List Tr, szWs l = true → ∀ k ∈ l, szW k = true := by
    intro l
    induction l with
    | nil => intro _ k hk; cases hk
    | cons a l ih =>
      intro h k hk
      rw [szWs, Bool.and_eq_true] at h
      cases hk with
      | head => exact h.1
      | tail _ hk => exact ih h.2 k hk
  cases r with
  | mk s l e i c =>
    rw [szW] at h
    simp only [Bool.and_eq_true, decide_eq_true_eq, List.all_eq_true] at h
    exact ⟨h.1.1, h.1.2.1, h.1.2.2, h.2.1.1, h.2.1.2, hl e h.2.2.2⟩
def tyOK (u : Tr) : Bool := ((decide (u.name.length ≤ 200) && decide (u.len.length ≤ 5)) && decide (u.elem.length ≤ 5)) && fewP u.len 3000
theorem ty_guard1 {u : Tr} (h : ((((decide ((u.name.length : Int) > 200) || decide ((u.len.length : Int) > 5)) || decide ((u.elem.length : Int) > 5))) || !(fewP u.len 3000)) = false) : tyOK u = true := by
  simp only [Bool.or_eq_false_iff, decide_eq_false_iff_not, Bool.not_eq_false'] at h
  obtain ⟨⟨⟨h1, h2⟩, h3⟩, h4⟩ := h
  rw [tyOK, h4, decide_eq_true (by omega), decide_eq_true (by omega), decide_eq_true (by omega)]; rfl
theorem ty_guard {r : Tr} {n : Nat} (h : ((((decide ((n : Int) > 5) || decide ((r.name.length : Int) > 200)) || decide ((r.len.length : Int) > 5)) || decide ((r.elem.length : Int) > 5)) || !(fewP r.len 3000)) = false) : r.name.length ≤ 200 ∧ r.len.length ≤ 5 ∧ r.elem.length ≤ 5 ∧ fewP r.len 3000 = true := by
  simp only [Bool.or_eq_false_iff, decide_eq_false_iff_not, Bool.not_eq_false'] at h
  obtain ⟨⟨⟨⟨_, h1⟩, h2⟩, h3⟩, h4⟩ := h
  exact ⟨by omega, by omega, by omega, h4⟩
theorem ty_more {r : Tr} {i : Nat} (h : ∀ k, k < i → tyOK (r.elem.getD k default) = true) (h1 : tyOK (r.elem.getD i default) = true) : ∀ k, k < i + 1 → tyOK (r.elem.getD k default) = true := by
  intro k hk
  rcases Nat.lt_or_ge k i with h2 | h2
  · exact h k h2
  · rw [show k = i by omega]; exact h1
theorem ok2_of {P : Program} {r : Tr} (hb : BT P) (hr : szW r = true) (q1 : r.name.length ≤ 200) (q2 : r.len.length ≤ 5) (q3 : r.elem.length ≤ 5) (q4 : fewP r.len 3000 = true) (h : ∀ k, k < r.elem.length → tyOK (r.elem.getD k default) = true) : OK2 P r := by
  obtain ⟨s1, s2, s3, s4, s5, s6⟩ := szW_facts hr
  refine ⟨⟨by omega, q2, q3, few_all hb (by omega) (Int.le_refl _) q4 s5⟩, fun u hu => ?_⟩
  obtain ⟨i, hi, rfl⟩ := List.getElem_of_mem hu
  have hk := h i hi
  rw [List.getD_eq_getElem?_getD, List.getElem?_eq_getElem hi, Option.getD_some, tyOK] at hk
  simp only [Bool.and_eq_true, decide_eq_true_eq] at hk
  obtain ⟨⟨⟨h1, h2⟩, h3⟩, h4⟩ := hk
  exact ⟨by omega, h2, h3, few_all hb (by omega) (Int.le_refl _) h4 (szW_facts (s6 _ hu)).2.2.2.2.1⟩
def tokRQ (r : Tr) : List Tk := bif validR r then toksR r else []
end Go.Proofs.YtcgdlhkiecommaaGreatDoor
