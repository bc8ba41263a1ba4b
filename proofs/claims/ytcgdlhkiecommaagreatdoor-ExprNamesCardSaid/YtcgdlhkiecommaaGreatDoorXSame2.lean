import Derived.Test.YtcgdlhkiecommaaGreatDoorXBld
import Derived.Test.YtcgdlhkiecommaaGreatDoorXRef3
import Derived.Test.YtcgdlhkiecommaaGreatDoorShelfB
import Derived.RangeFuncNested
import Derived.RangeFuncBound
import Derived.RangeFuncCalls
import Derived.RangeFuncLeaves
import Derived.RangeFuncBox
import Derived.Shelf.Abstract
import Derived.Shelf.RegionOpen
import Derived.WalkKit
import Derived.OwnWalkIn
import Derived.TacticsInMore
import Derived.LoopNIn
import Derived.LoopIn


import Derived.Test.YtcgdlhkiecommaaGreatDoorXWr



import Derived.Test.YtcgdlhkiecommaaGreatDoorLRef

/- logic.Text: bits as a string. -/















set_option linter.unusedVariables false
set_option linter.all false
namespace Go.Proofs.YtcgdlhkiecommaaGreatDoor
open Go Go.RowKit Go.Shelf
attribute [local go_sem] Oper.semAt_some
def uptoB {α : Type} (f : Nat → α) (k : Nat) : List α := (List.range k).map f
theorem uptoB_succ {α : Type} (f : Nat → α) (k : Nat) : uptoB f (k + 1) = uptoB f k ++ [f k] := by simp [uptoB, List.range_succ]
theorem uptoB_length {α : Type} (f : Nat → α) (k : Nat) : (uptoB f k).length = k := by simp [uptoB]
abbrev Bit3 := { x : Int // 0 ≤ x ∧ x ≤ 3 }
def KpB (n₀ Bs : Nat) (A B : World) : Prop := Below n₀ A B ∧ B.heap[Bs]? = A.heap[Bs]?
theorem KpB.cell {n₀ Bs : Nat} {A B : World} (h : KpB n₀ Bs A B) {v : Value} (hc : A.cell? ⟨Bs, 0, none⟩ = some v) : B.cell? ⟨Bs, 0, none⟩ = some v := (World.cell?_of_block (w := A) (w' := B) (a := ⟨Bs, 0, none⟩) h.2).trans hc
def encBP (x : Nat × Bit3) : Array Value := #[.int .i64 (x.1 : Int), .int .u8 x.2.1]
def elB (zs : List Bit3) (k : Nat) : Nat × Bit3 := (zs.length - 1 - k, zs.getD (zs.length - 1 - k) ⟨0, by decide, by decide⟩)
set_option maxRecDepth 100000 in
set_option maxHeartbeats 2000000 in
theorem back1_in (F : Fence) (n : Nat) (h8 : F.fn 198) (hro : F.round = none) (hn : 1 ≤ n) (l Bs n₀ b off cap : Nat) (zs : List Bit3) (hreach : zs.length ≤ 64) (hb : b < n₀) (J Jx : List (Nat × Bit3) → World → Prop)
    (hY : ∀ pre x W, J pre W → pre.length < zs.length → YieldAt F (n - 1) Tryz.prog l #[.int .i64 (x.1 : Int), .int .u8 x.2.1] W fun e W' =>
      (e = .returned (.bool true) ∧ J (pre ++ [x]) W' ∧ KpB n₀ Bs W W') ∨ (e = .returned (.bool false) ∧ Jx (pre ++ [x]) W'))
    (W : World) (hBs : W.cell? ⟨Bs, 0, none⟩ = some (.slice (some ⟨b, off, none⟩) zs.length cap)) (hc : ∀ j, j < zs.length → W.cell? ⟨b, off + j, none⟩ = some (.int .u8 (zs.getD j ⟨0, by decide, by decide⟩).1)) (h0 : J [] W) :
    CallsIn F n Tryz.prog 198 #[.func (.yield l) #[] #[], .pointer (some ⟨Bs, 0, none⟩)] W fun e W' => (∃ v, e = .returned v) ∧
      ((∃ ys, ys = uptoB (elB zs) zs.length ∧ J ys W') ∨ (∃ pre, (∃ k, k ≤ zs.length ∧ pre = uptoB (elB zs) k) ∧ Jx pre W')) := by
  refine callsIn_of_wp Tryz.func198 rfl h8 ?_ hro
  simp only [Tryz.ntmps198, List.size_toArray, List.length_cons, List.length_nil, Nat.reduceAdd, Nat.reduceSub, Array.replicate_succ, Array.replicate_zero, List.push_toArray, List.append_toArray, List.nil_append, List.cons_append]
  gi_wp2
  gi_loopw [3] (fun i wr => ∃ k : Nat, k ≤ zs.length ∧ i = .int .i64 ((zs.length : Int) - 1 - k) ∧ J (uptoB (elB zs) k) wr ∧ KpB n₀ Bs W wr)
    (fun i _ => (intOf i + 1).toNat)
  case atStart => exact ⟨0, Nat.zero_le _, by simp, h0, Below.refl _ _, rfl⟩
  case round =>
    obtain ⟨k, hk, rfl, hJs, hnx⟩ := hrel
    by_cases hlt : k < zs.length
    · obtain ⟨q, hq⟩ : ∃ q : Nat, q = zs.length - 1 - k := ⟨_, rfl⟩
      have hql : q < zs.length := by omega
      have hqi : (zs.length : Int) - 1 - k = (q : Int) := by omega
      rw [hqi]
      have hcs : wr.cell? ⟨Bs, 0, none⟩ = some (.slice (some ⟨b, off, none⟩) zs.length cap) := hnx.cell hBs
      have hcx : wr.cell? ⟨b, off + q, none⟩ = some (.int .u8 (zs.getD q ⟨0, by decide, by decide⟩).1) := (hnx.1.cell (p := ⟨b, off + q, none⟩) hb).trans (hc q hql)
      have hel : elB zs k = (q, zs.getD q ⟨0, by decide, by decide⟩) := by rw [elB, ← hq]
      clear hq
      obtain ⟨fn, tmps, assign, body, hy, hR⟩ := hY _ (q, zs.getD q ⟨0, by decide, by decide⟩) wr hJs (by rw [uptoB_length]; exact hlt)
      dsimp only at hy
      generalize hxv : (zs.getD q ⟨0, by decide, by decide⟩).1 = xv at hy hR hcx
      gi_wp2
      refine hR.mono ?_
      rintro e W3 (⟨rfl, hJ3, hk3⟩ | ⟨rfl, hJx3⟩)
      · gi_wp2
        go_roundw
        case rel => exact ⟨k + 1, by omega, by first | (simp; done) | (simp; omega), by rw [uptoB_succ, hel]; exact hJ3, ⟨hnx.1.trans hk3.1, hk3.2.trans hnx.2⟩⟩
        case measure => first | (simp [intOf]; done) | (simp [intOf]; omega)
      · gi_wp2
        refine bodyPost_ret (results_none rfl _ _ _) rfl ?_
        exact ⟨⟨_, rfl⟩, .inr ⟨_, ⟨k + 1, by omega, by rw [uptoB_succ, hel]⟩, hJx3⟩⟩
    · obtain rfl : k = zs.length := by omega
      have hqi : (zs.length : Int) - 1 - (zs.length : Nat) = -1 := by omega
      rw [hqi]
      gi_wp2
      go_end0
      exact ⟨⟨_, rfl⟩, .inl ⟨_, rfl, hJs⟩⟩
set_option maxHeartbeats 1000000 in
theorem back_in (F : Fence) (n : Nat) (h6 : F.fn 178) (hro : F.round = none) (a : Option Addr) (len cap : Nat) (w : World) :
    CallsIn F n Tryz.prog 178 #[.slice a len cap] w fun e w' => e = .returned (.func (.func 198) #[] #[.pointer (some ⟨w.heap.size, 0, none⟩)]) ∧ w' = w.alloc (.cells #[.slice a len cap] 26) := by
  refine callsIn_of_wp Tryz.func178 rfl h6 ?_ hro
  simp only [Tryz.ntmps178, List.size_toArray, List.length_cons, List.length_nil, Nat.reduceAdd, Nat.reduceSub, Array.replicate_succ, Array.replicate_zero, List.push_toArray, List.append_toArray, List.nil_append, List.cons_append]
  gi_wp2
  go_ret
  exact ⟨rfl, rfl⟩
theorem back_stops (F : Fence) (n : Nat) (h8 : F.fn 198) (hro : F.round = none) (hn : 1 ≤ n) (Bs n₀ b off cap : Nat) (zs : List Bit3) (hreach : zs.length ≤ 64) (w : World) (hBs : Bs < w.heap.size) (hn₀ : n₀ ≤ w.heap.size) (hb : b < n₀)
    (hc0 : w.cell? ⟨Bs, 0, none⟩ = some (.slice (some ⟨b, off, none⟩) zs.length cap)) (hc : ∀ j, j < zs.length → w.cell? ⟨b, off + j, none⟩ = some (.int .u8 (zs.getD j ⟨0, by decide, by decide⟩).1)) :
    SeqStopsK F n Tryz.prog 198 #[.pointer (some ⟨Bs, 0, none⟩)] encBP (KpB n₀ Bs) (fun ys => ys = uptoB (elB zs) zs.length)
      (fun pre => ∃ k, k ≤ zs.length ∧ pre = uptoB (elB zs) k) zs.length w := fun l J Jx W hW _ _ hY h0 =>
  back1_in F n h8 hro hn l Bs n₀ b off cap zs hreach hb J Jx hY W ((hW.cell (p := ⟨Bs, 0, none⟩) hBs).trans hc0) (fun j hj => (hW.cell (p := ⟨b, off + j, none⟩) (by show b < w.heap.size; omega)).trans (hc j hj)) h0
theorem bld_kept {T e B b : Nat} {bs : List Value} {W W' : World} {row : Option Nat} (h : Lib.IsBuilderF T e B b bs W) (hg : W.grownBy W' row) (hr : ∀ r, row = some r → ∃ o : Obj, W.heap[r]? = some o ∧ o.isCells = false) : Lib.IsBuilderF T e B b bs W' := by
  have key : ∀ p, Lib.BuilderAtF T e B b p bs W → Lib.BuilderAtF T e B b p bs W' := by
    rintro p ⟨hB, v, hb, hown, hne⟩
    refine ⟨hB, v, (grownBy_keeps_cells hg hr hb rfl).trans hb, hown.kept hg ?_, hne⟩
    cases hv : v.ownBlock with
    | none => exact .inl rfl
    | some k =>
      refine .inr fun e1 => ?_
      obtain ⟨o, h1, h2⟩ := hr k e1.symm
      obtain ⟨c, fz, h3⟩ := Lib.ownsRowF_kind hown k hv
      rw [h3] at h1; cases h1; cases h2
  exact h.elim (fun h => .inl (key _ h)) (fun h => .inr (key _ h))
theorem others_keeps {e : Nat} {b : Option Nat} {w w' : World} (h : Lib.OthersKept e b w w') (hs : w.heap.size ≤ w'.heap.size) (hb : ∀ k o, some k = b → w.heap[k]? = some o → o.isCells = true) : KeepsOthers w w' := by
  refine ⟨hs, fun k o hk ho => h k o hk (fun e1 => ?_) (fun c fz e1 => ?_)⟩
  · rw [hb k o e1 hk] at ho; cases ho
  · subst e1; cases ho
theorem bld_heap {T e B b : Nat} {bs : List Value} {W : World} (h : Lib.IsBuilderF T e B b bs W) : ∀ k o, some k = some b → W.heap[k]? = some o → o.isCells = true := by
  intro k o e1 hk
  cases e1
  rcases h with ⟨_, v, hb, _⟩ | ⟨_, v, hb, _⟩ <;> (rw [hb] at hk; cases hk; rfl)
def letB (x : Nat × Bit3) : UInt8 := bitC x.2.1
theorem bytes_snoc (pre : List (Nat × Bit3)) (x : Nat × Bit3) : Lib.byteCells ((pre ++ [x]).map letB) = Lib.byteCells (pre.map letB) ++ [.int .u8 ((letB x).toNat : Int)] := by simp [Lib.byteCells]
theorem upto_text (zs : List Bit3) : (uptoB (elB zs) zs.length).map letB = bitsT (zs.map (·.1)) := by
  apply List.ext_getElem
  · simp [uptoB, bitsT]
  · intro i h1 h2
    have hi : i < zs.length := by simpa [uptoB] using h1
    simp only [uptoB, bitsT, List.getElem_map, List.getElem_range, List.getElem_reverse, List.length_map]
    rw [letB, elB]
    simp only
    rw [List.getD_eq_getElem?_getD, List.getElem?_eq_getElem (by omega)]
    rfl
set_option maxRecDepth 100000 in
set_option maxHeartbeats 4000000 in
theorem text_calls (b off cap : Nat) (zs : List Bit3) (hreach : zs.length ≤ 64) (w : World) (hb : b < w.heap.size) (hc : ∀ j, j < zs.length → w.cell? ⟨b, off + j, none⟩ = some (.int .u8 (zs.getD j ⟨0, by decide, by decide⟩).1))
    (his : Calls Tryz.prog 164 #[.slice (some ⟨b, off, none⟩) zs.length cap] w fun e w' => e = .returned (.bool true) ∧ Below w.heap.size w w') :
    Calls Tryz.prog 143 #[.slice (some ⟨b, off, none⟩) zs.length cap] w fun e W' => e = .returned (.tuple #[.string (str (bitsT (zs.map (·.1)))), .int .i64 0]) ∧ Below w.heap.size w W' := by
  refine (callsIn_wide (n := 6)).1 ?_
  have hro : Fence.wide.round = none := rfl
  have h1 : 1 ≤ 6 := by decide
  refine callsIn_of_wp_marks Tryz.func143 rfl trivial ?_ hro
  simp only [Tryz.ntmps143, List.size_toArray, List.length_cons, List.length_nil, Nat.reduceAdd, Nat.reduceSub, Array.replicate_succ, Array.replicate_zero, List.push_toArray, List.append_toArray, List.nil_append, List.cons_append]
  gi_wp2_with (refine ⟨trivial, ?_⟩; gi_at_call 164; refine (callsIn_wide.2 his).mono ?_; rintro e w1 ⟨rfl, hB1⟩)
  gi_wp2_with (refine ⟨trivial, ?_⟩; gi_at_call 178; refine (back_in Fence.wide (6 - 1) trivial hro _ _ _ _).mono ?_; rintro e w' ⟨rfl, rfl⟩)
  have hB1s := hB1.size
  have hbox : ((w1.alloc (.cells #[.pointer none, .slice none 0 0] 163)).alloc (.cells #[.slice (some ⟨b, off, none⟩) zs.length cap] 26)).heap[w1.heap.size + 1]? = some (.cells #[.slice (some ⟨b, off, none⟩) zs.length cap] 26) := by
    have := World.alloc_heap_new (w1.alloc (.cells #[.pointer none, .slice none 0 0] 163)) (.cells #[.slice (some ⟨b, off, none⟩) zs.length cap] 26)
    rwa [World.size_alloc] at this
  have hBld0 : Lib.IsBuilderF 163 5 w1.heap.size w1.heap.size [] (w1.alloc (.cells #[.pointer none, .slice none 0 0] 163)) := .inl ⟨Nat.le_refl _, .slice none 0 0, World.alloc_heap_new _ _, World.ownsRowF_nil _ _ _ _, by simp [Value.ownBlock]⟩
  have hB2 : Below w1.heap.size w1 ((w1.alloc (.cells #[.pointer none, .slice none 0 0] 163)).alloc (.cells #[.slice (some ⟨b, off, none⟩) zs.length cap] 26)) := ((Below.refl _ w1).alloc (Nat.le_refl _) _).alloc (by simp) _
  refine wpIn_rangeFunc_ownF hro h1 (gf := 198) (lb := #[.pointer (some ⟨w1.heap.size + 1, 0, none⟩)]) rfl trivial (enters_of Tryz.func198 (by kernel_rfl) rfl)
    (back_stops Fence.wide (6 - 1) trivial hro (by omega) (w1.heap.size + 1) w1.heap.size b off cap zs hreach _ (by simp) (by simp; omega) (by omega) (by simp only [World.cell?, hbox]; rfl) (fun j hj => (hB2.cell (p := ⟨b, off + j, none⟩) (by show b < w1.heap.size; omega)).trans ((hB1.cell (p := ⟨b, off + j, none⟩) hb).trans (hc j hj))))
    (fun h k => ⟨h.1.trans k.1, k.2.trans h.2⟩)
    (fun W l o o' h1 h2 h3 h4 => ⟨belowK_b (by simp; omega) W l o o' h1 h2 h3 h4, World.putObj_heap_other (by simp at h1; omega)⟩)
    (Below.refl _ _) (fun _ => rfl)
    (fun pre W => (Lib.IsBuilderF 163 5 w1.heap.size w1.heap.size (Lib.byteCells (pre.map letB)) W ∧ W.heap[w1.heap.size + 1]? = some (.cells #[.slice (some ⟨b, off, none⟩) zs.length cap] 26)) ∧ Below w1.heap.size w1 W)
    (fun _ _ _ => False)
    (OwnFrom.and (Own.from (fun s A B row hs hg hr => ⟨bld_kept hs.1 hg hr, (grownBy_keeps_cells hg hr hs.2 rfl).trans hs.2⟩) _) (ownFrom_below (Nat.le_refl _) (by simp; omega)))
    (fun _ _ _ _ _ hs _ _ => hs)
    ⟨⟨hBld0.alloc _, hbox⟩, hB2⟩
    (fun x => { tmps := #[.slice (some ⟨b, off, none⟩) zs.length cap, undef, .string ⟨#[]⟩, .int .i64 0, .pointer (some ⟨w1.heap.size, 0, none⟩), undef, .int .u8 x.2.1, .slice (some ⟨b, off, none⟩) zs.length cap, .bool true, .bool false, .slice (some ⟨b, off, none⟩) zs.length cap, .func (.func 198) #[] #[.pointer (some ⟨w1.heap.size + 1, 0, none⟩)], .int .i64 (x.1 : Int), .int .u8 x.2.1, undef, undef, undef, undef], defers := [] }) ?assign ?body ?done ?stop
  case assign =>
    intro l x W K hK
    simp only [encBP]
    gi_wp2
    exact hK
  case body =>
    rintro l pre ⟨xi, xv, hv0, hv3⟩ W ⟨⟨hbl, hbx⟩, hB⟩ hlen
    have hsz := hB.size
    have hpl : (Lib.byteCells (pre.map letB)).length + 1 ≤ 140737488355328 := by simp [Lib.byteCells]; omega
    have fin : ∀ (c : Int) (W3 : World), bitC xv = UInt8.ofNat c.toNat → ((bitC xv).toNat : Int) = c → Lib.BuilderAtF 163 5 w1.heap.size w1.heap.size (.pointer (some ⟨w1.heap.size, 0, none⟩)) (Lib.byteCells (pre.map letB) ++ [.int .u8 c]) W3 → Below w1.heap.size W W3 → Lib.OthersKept 5 (some w1.heap.size) W W3 →
        KeepsOthers W W3 ∧ KpB w1.heap.size (w1.heap.size + 1) W W3 ∧ ((Lib.IsBuilderF 163 5 w1.heap.size w1.heap.size (Lib.byteCells (List.map letB (pre ++ [(xi, (⟨xv, hv0, hv3⟩ : Bit3))]))) W3 ∧ W3.heap[w1.heap.size + 1]? = some (.cells #[.slice (some ⟨b, off, none⟩) zs.length cap] 26)) ∧ Below w1.heap.size w1 W3) := by
      intro c W3 _ hc2 k1 k2 k3
      have hb3 : W3.heap[w1.heap.size + 1]? = some (.cells #[.slice (some ⟨b, off, none⟩) zs.length cap] 26) := k3 _ _ hbx (by intro e; have := Option.some.inj e; omega) (by intro c fz e; cases e)
      refine ⟨others_keeps k3 k2.size (bld_heap hbl), ⟨k2, hb3.trans hbx.symm⟩, ⟨?_, hb3⟩, hB.trans k2⟩
      rw [bytes_snoc]
      refine .inr ?_
      rw [show ((letB (xi, ⟨xv, hv0, hv3⟩)).toNat : Int) = c from hc2]
      exact k1
    have hx : xv = 0 ∨ xv = 1 ∨ xv = 2 ∨ xv = 3 := by omega
    rcases hx with rfl | rfl | rfl | rfl
    · gi_wp2_with (refine ⟨trivial, ?_⟩; gi_at_call 179; refine (CallsIn.inRound l (callsIn_wide.2 (bld_writeByte _ _ _ _ _ hbl hpl hsz))).mono ?_; rintro e W3 ⟨rfl, k1, k2, k3⟩)
      exact fin _ W3 rfl rfl k1 k2 k3
    · gi_wp2_with (refine ⟨trivial, ?_⟩; gi_at_call 179; refine (CallsIn.inRound l (callsIn_wide.2 (bld_writeByte _ _ _ _ _ hbl hpl hsz))).mono ?_; rintro e W3 ⟨rfl, k1, k2, k3⟩)
      exact fin _ W3 rfl rfl k1 k2 k3
    · gi_wp2_with (refine ⟨trivial, ?_⟩; gi_at_call 179; refine (CallsIn.inRound l (callsIn_wide.2 (bld_writeByte _ _ _ _ _ hbl hpl hsz))).mono ?_; rintro e W3 ⟨rfl, k1, k2, k3⟩)
      exact fin _ W3 rfl rfl k1 k2 k3
    · gi_wp2_with (refine ⟨trivial, ?_⟩; gi_at_call 179; refine (CallsIn.inRound l (callsIn_wide.2 (bld_writeByte _ _ _ _ _ hbl hpl hsz))).mono ?_; rintro e W3 ⟨rfl, k1, k2, k3⟩)
      exact fin _ W3 rfl rfl k1 k2 k3
  case done =>
    rintro D ys W hD rfl ⟨⟨hbl, hbx⟩, hB⟩ hK
    have hsz := hB.size
    gi_wp2_with (refine ⟨trivial, ?_⟩; gi_at_call 158; refine (callsIn_wide.2 (shelf_Builder_String_any_k _ _ _ _ hbl hsz)).mono ?_; rintro e W5 ⟨rfl, hbl5, hB5, hk5⟩)
    have hK5 := hk5 D _ hK (by intro e; have := Option.some.inj e; simp at hD; omega) (by intro c fz e; cases e)
    refine ⟨by simp, .inl ⟨_, _, rfl, run_takeDeferred hK5, ?_⟩⟩
    refine ⟨.tuple #[.string (str (bitsT (zs.map (·.1)))), .int .i64 0], ?_, rfl, hB1.trans (((hB.trans hB5).trans (belowK_b (w := w1) (Nat.le_refl _) _ D _ _ (by simp at hD; omega) hK5 rfl rfl)).mono hB1s)⟩
    rw [upto_text]
    simp [results, Tryz.f143, go_sem]
    rfl
  case stop =>
    rintro D c pre W _ _ h _
    exact h.elim
theorem bits_form {ok : Nat → Prop} {w : World} {l : List Int} {v : Value} (h : RepC ok w (.list 1 (l.map encB)) v) : ∃ a c, v = .slice a l.length c ∧ l.length ≤ c ∧ (l = [] ∨ ∃ b o, a = some ⟨b, o, none⟩ ∧ ok b ∧ ∀ j x, l[j]? = some x → w.cell? ⟨b, o + j, none⟩ = some (.int .u8 x)) := by
  obtain ⟨a, c, rfl, h1, h2⟩ := h.list_form
  refine ⟨a, c, by simp, by simpa using h1, ?_⟩
  rcases h2 with e | ⟨b, o, vs, rfl, hb, _, h3, h4, _⟩
  · exact .inl (by simpa using e)
  · refine .inr ⟨b, o, rfl, hb, fun j x hx => ?_⟩
    have hx2 : (l.map encB)[j]? = some (encB x) := by rw [List.getElem?_map, hx]; rfl
    have := h3 j _ 0 (.v (.int .u8 x)) hx2 rfl
    have h5 := h4 j _ 0 (.v (.int .u8 x)) hx2 rfl
    rw [repc_v h5] at this
    simpa using this
theorem bits3 (l : List Int) (h : ∀ x ∈ l, 0 ≤ x ∧ x ≤ 3) : ∃ zs : List Bit3, zs.map (·.1) = l := by
  induction l with
  | nil => exact ⟨[], rfl⟩
  | cons a l ih =>
    obtain ⟨zs, e⟩ := ih (fun x hx => h x (by simp [hx]))
    exact ⟨⟨a, h a (by simp)⟩ :: zs, by rw [List.map_cons, e]⟩
theorem bt_all (his : ∀ l : List Int, l.length ≤ 1000000000 → ACp Tryz.prog 164 [.list 1 (l.map encB)] (.v (.bool (isBits l)))) : BT Tryz.prog := by
  intro l hl h0
  have hl2 := hl
  simp only [isBits, Bool.and_eq_true, decide_eq_true_eq, Bool.not_eq_true', List.any_eq_false, decide_eq_false_iff_not] at hl2
  obtain ⟨⟨g1, g2⟩, g3⟩ := hl2
  obtain ⟨zs, e⟩ := bits3 l (fun x hx => ⟨h0 x hx, by have := g3 x hx; simpa using this⟩)
  subst e
  rw [List.length_map] at g1 g2
  refine acp_new fun ok L w vs hvs hok hg => ?_
  match vs, hvs with
  | [v1], ⟨a1, _⟩ =>
    have a1' : RepC ok w (.list 1 ((zs.map (·.1)).map encB)) v1 := a1
    have hd := ac_door (w := w) (a := .bool true) (vs := [v1]) (hg.mono hok (fun _ _ => rfl)) (his (zs.map (·.1)) (by rw [List.length_map]; omega) []) (fun L2 => ⟨show Rep (fun b => b < w.heap.size) L2 w (.list 1 ((zs.map (·.1)).map encB)) v1 from a1'.okmono hok, trivial⟩) (by rintro r σ' ⟨rfl, _⟩; rw [hl])
    obtain ⟨a, c, rfl, hc, h⟩ := bits_form a1'
    rcases h with h | ⟨b, o, rfl, hb, hcell⟩
    · have : zs.length = 0 := by simpa using congrArg List.length h
      omega
    · rw [List.length_map] at hd ⊢
      refine (text_calls b o c zs (by omega) w (hok b hb) (fun j hj => ?_) hd).mono ?_
      · refine hcell j _ ?_
        rw [List.getElem?_map, List.getElem?_eq_getElem hj, List.getD_eq_getElem?_getD, List.getElem?_eq_getElem hj]; rfl
      · rintro e w' ⟨rfl, h2⟩
        refine ⟨_, rfl, h2, fun _ => False, fun _ h => h.elim, ?_⟩
        exact ⟨[_, _], rfl, RepC.v _, RepC.v _, trivial⟩
end Go.Proofs.YtcgdlhkiecommaaGreatDoor
/- What few parts are, for what is written: tokens, depth, names; the reference's answers are the program's. -/


namespace Go.Proofs.YtcgdlhkiecommaaGreatDoor
open Go
def sumL : List Nat → Nat
  | [] => 0
  | a :: r => a + sumL r
theorem inBr_len (t : List Tk) : (inBr t).length = t.length + 2 := by simp [inBr]
theorem kidT_len (ks : List Ex) (ts : List (List Tk)) (i : Nat) (n : Int) : (kidT ks ts i n).length ≤ (ts.getD i []).length + 2 := by
  rw [kidT]; split
  · rw [inBr_len]; omega
  · omega
theorem sepT_len (s : Bs) (ts : List (List Tk)) : (sepT s ts).length ≤ sumL (ts.map fun t => t.length + 1) := by
  induction ts with
  | nil => simp [sepT]
  | cons a r ih =>
    cases r with
    | nil => simp [sepT, sumL]
    | cons b r => simp only [sepT, List.length_append, List.length_cons, List.map_cons, sumL] at ih ⊢; omega
theorem toksOf_len (e : Ex) (ts : List (List Tk)) : (toksOf e ts).length + 1 ≤ sumL (ts.map fun t => t.length + 1) + 6 := by
  have h0 : (ts.getD 0 []).length ≤ sumL (ts.map fun t => t.length + 1) ∧ (ts.getD 0 []).length + (ts.getD 1 []).length ≤ sumL (ts.map fun t => t.length + 1) ∧ (ts.getD 0 []).length + 1 + sumL ((ts.drop 1).map fun t => t.length + 1) ≤ sumL (ts.map fun t => t.length + 1) + 1 := by
    match ts with
    | [] => simp [sumL]
    | [a] => simp [sumL]
    | a :: b :: r => simp [sumL]; omega
  have k0 := fun n => kidT_len e.kids ts 0 n
  have k1 := fun n => kidT_len e.kids ts 1 n
  have s1 := sepT_len sDownto (ts.drop 1)
  have s2 := sepT_len sComma ts
  have h2 : (ts.getD 0 []).length + 2 + 1 + ((ts.getD 1 []).length + 2) + 1 ≤ sumL (ts.map fun t => t.length + 1) + 6 := by omega
  unfold toksOf
  cases e.op == 1 <;> cases e.op == 2 <;> cases e.op == 3 <;> cases e.op == 4 <;> cases e.op == 6 <;> cases e.op == 7 <;> cases bindsP e == 5 <;> cases bindsP e == 4 <;>
    simp only [cond_true, cond_false, List.length_append, List.length_cons, List.length_nil, inBr_len] <;>
    first | omega | (have := k0 5; omega) | (have := k0 4; omega) | (have := k0 (leftP (bindsP e)); have := k1 (bindsP e + 1); omega)
theorem toks_len (e : Ex) : (toks e).length + 1 ≤ 6 * nodes e := by
  induction e using Ex.ind with
  | h e ih =>
    have hs : ∀ l : List Ex, (∀ k ∈ l, (toks k).length + 1 ≤ 6 * nodes k) → sumL ((l.map toks).map fun t => t.length + 1) ≤ 6 * nodesL l := by
      intro l
      induction l with
      | nil => intro _; exact Nat.le_refl _
      | cons a l ih => intro h; have := h a (by simp); have := ih fun k hk => h k (by simp [hk]); simp only [List.map_cons, sumL, nodesL]; omega
    rw [toks_eq, nodes_eq]
    have := toksOf_len e (e.kids.map toks)
    have := hs e.kids ih
    omega
theorem getD_maxL (ds : List Nat) (i : Nat) : ds.getD i 0 ≤ maxL ds := by
  rcases Nat.lt_or_ge i ds.length with h | h
  · exact maxL_le h
  · rw [List.getD_eq_getElem?_getD, List.getElem?_eq_none h]; exact Nat.zero_le _
theorem maxL_drop (ds : List Nat) : maxL (ds.drop 1) ≤ maxL ds := by cases ds <;> simp [maxL]; omega
theorem depOf_le (e : Ex) (ds : List Nat) : depOf e ds ≤ maxL ds + 2 := by
  have k := fun i n => (show kidD e.kids ds i n ≤ maxL ds + 1 by rw [kidD]; have := getD_maxL ds i; split <;> omega)
  have g := getD_maxL ds 1
  have m := maxL_drop ds
  unfold depOf
  cases e.op == 1 <;> cases e.op == 2 <;> cases e.op == 3 <;> cases e.op == 4 <;> cases e.op == 6 <;> cases e.op == 7 <;> cases bindsP e == 5 <;> cases bindsP e == 4 <;>
    simp only [cond_true, cond_false] <;>
    first | omega | (have := k 0 5; omega) | (have := k 0 4; omega) | (have := k 0 (leftP (bindsP e)); have := k 1 (bindsP e + 1); omega)
theorem dep_le (e : Ex) : dep e ≤ 2 * height e + 2 := by
  induction e using Ex.ind with
  | h e ih =>
    have hs : ∀ l : List Ex, (∀ k ∈ l, dep k ≤ 2 * height k + 2) → maxL (l.map dep) ≤ 2 * heights l := by
      intro l
      induction l with
      | nil => intro _; exact Nat.le_refl _
      | cons a l ih => intro h; have := h a (by simp); have := ih fun k hk => h k (by simp [hk]); simp only [List.map_cons, maxL, heights]; omega
    have h1 := hs e.kids ih
    have h2 := depOf_le e (e.kids.map dep)
    rw [← dep_eq] at h2
    rw [height_eq]; omega
theorem depQ_le (e : Ex) : depQ e ≤ 2 * height e := by
  induction e using Ex.ind with
  | h e ih =>
    rw [depQ_eq, height_eq]
    have : ∀ n, n ≤ e.kids.length → mostR e (e.kids.map depQ) n ≤ 2 * heights e.kids := by
      intro n
      induction n with
      | zero => intro _; exact Nat.zero_le _
      | succ n ihn =>
        intro hn
        have h1 := ihn (by omega)
        have hm : e.kids.getD n default ∈ e.kids := getD_mem (by omega)
        have h2 := ih _ hm
        have h3 := heights_mem hm
        have h4 : (e.kids.map depQ).getD n 0 = depQ (e.kids.getD n default) := by
          rw [List.getD_eq_getElem?_getD, List.getD_eq_getElem?_getD, List.getElem?_map, List.getElem?_eq_getElem (show n < e.kids.length by omega)]; rfl
        rw [mostR, h4, addR]
        split <;> split <;> omega
    exact this _ (Nat.le_refl _)
theorem toksOf_all {p : Tk → Prop} {e : Ex} {ts : List (List Tk)} (hO : p tkO) (hC : p tkC) (hn : ∀ o, p ⟨o, e.name, 0, 0, 0⟩) (hi : p ⟨3, [], e.n, 0, 0⟩) (hb : ∀ o, p ⟨o, bitsT e.bits, 0, 0, 0⟩) (hs : ∀ s : Bs, s.length ≤ 6 → p (tkS s)) (h : ∀ t ∈ ts, ∀ x ∈ t, p x) : ∀ x ∈ toksOf e ts, p x := by
  have hg : ∀ i, ∀ x ∈ ts.getD i [], p x := by
    intro i x hx
    rcases Nat.lt_or_ge i ts.length with h1 | h1
    · exact h _ (by rw [List.getD_eq_getElem?_getD, List.getElem?_eq_getElem h1]; exact List.getElem_mem h1) x hx
    · rw [List.getD_eq_getElem?_getD, List.getElem?_eq_none h1] at hx; cases hx
  have hk : ∀ i n, ∀ x ∈ kidT e.kids ts i n, p x := by
    intro i n x hx
    rw [kidT] at hx
    split at hx
    · exact inBr_all hO hC (hg i) x hx
    · exact hg i x hx
  have hS : p (tkS e.name) := by rw [tkS]; exact hn _
  have one : ∀ {t : Tk}, p t → ∀ x ∈ [t], p x := fun h x hx => by rw [List.mem_singleton.1 hx]; exact h
  have app : ∀ {a b : List Tk}, (∀ x ∈ a, p x) → (∀ x ∈ b, p x) → ∀ x ∈ a ++ b, p x := fun h1 h2 x hx => (List.mem_append.1 hx).elim (h1 x) (h2 x)
  have con : ∀ {t : Tk} {b : List Tk}, p t → (∀ x ∈ b, p x) → ∀ x ∈ t :: b, p x := fun h1 h2 x hx => (List.mem_cons.1 hx).elim (fun e => e ▸ h1) (h2 x)
  unfold toksOf
  cases e.op == 1
  case true => exact one hi
  cases e.op == 2
  case true => exact one (hb _)
  cases e.op == 3
  case true => exact one (hb _)
  cases e.op == 4
  case true => exact one (hn _)
  cases e.op == 6
  case true => exact app (hk _ _) (inBr_all hO hC (hg 1))
  cases e.op == 7
  case true => exact app (hk _ _) (inBr_all hO hC (sepT_all (hs _ (by decide)) fun t ht => h t (List.mem_of_mem_drop ht)))
  cases bindsP e == 5
  case true => exact con (hn _) (inBr_all hO hC (sepT_all (hs _ (by decide)) h))
  cases bindsP e == 4
  case true => exact con hS (hk _ _)
  exact app (hk _ _) (con hS (hk _ _))
theorem nuE_facts {e : Ex} (h : nuE e = true) : (-9223372036854775808 ≤ e.n ∧ e.n ≤ 9223372036854775807) ∧ ∀ k ∈ e.kids, nuE k = true := by
  have hn : ∀ l : List Ex, nuEs l = true → ∀ k ∈ l, nuE k = true := by
    intro l
    induction l with
    | nil => intro _ k hk; cases hk
    | cons a l ih =>
      intro h k hk
      rw [nuEs, Bool.and_eq_true] at h
      cases hk with
      | head => exact h.1
      | tail _ hk => exact ih h.2 k hk
  cases e with
  | mk o s n b v k t l c =>
    rw [nuE] at h
    simp only [Bool.and_eq_true] at h
    have h1 := h.1.1.2.1
    rw [w64, Bool.and_eq_true, decide_eq_true_eq, decide_eq_true_eq] at h1
    exact ⟨h1, hn k h.2⟩
theorem okt0 {o : Int} {s : Bs} (h : s.length ≤ 1000000) : OKT ⟨o, s, 0, 0, 0⟩ := ⟨Nat.le_trans h (by decide), (by decide : (-9223372036854775808 : Int) ≤ 0), (by decide : (0 : Int) ≤ 9223372036854775807)⟩
theorem toks_small (e : Ex) : smE e = true → nuE e = true → OKTs (toks e) := by
  induction e using Ex.ind with
  | h e ih =>
    intro hm hn
    obtain ⟨m1, m2, m3⟩ := smE_facts hm
    obtain ⟨n1, n2⟩ := nuE_facts hn
    rw [toks_eq]
    refine toksOf_all (p := OKT) ⟨by decide, by decide, by decide⟩ ⟨by decide, by decide, by decide⟩ (fun o => okt0 (by omega)) ⟨(by decide : (0 : Nat) ≤ 140737488355328), n1.1, n1.2⟩ (fun o => okt0 (by rw [bitsT_len]; omega)) (fun s hs => by rw [tkS]; exact okt0 (by omega)) (fun t ht x hx => ?_)
    obtain ⟨k, hk, rfl⟩ := List.mem_map.1 ht
    exact ih k hk (m3 k hk) (n2 k hk) x hx
theorem namesQ_le (e : Ex) : ∀ out, (namesQ out e).length ≤ out.length + nodes e := by
  induction e using Ex.ind with
  | h e ih =>
    intro out
    have key : ∀ (l : List Ex), (∀ k ∈ l, ∀ out : List Bs, (namesQ out k).length ≤ out.length + nodes k) → ∀ out : List Bs, (l.foldl namesQ out).length ≤ out.length + nodesL l := by
      intro l
      induction l with
      | nil => intro _ out; exact Nat.le_refl _
      | cons a l ihl => intro h out; have h1 := h a (by simp) out; have h2 := ihl (fun k hk => h k (by simp [hk])) (namesQ out a); rw [List.foldl_cons, nodesL]; omega
    rw [namesQ_eq, nodes_eq]
    have h1 := key _ ih (addN out e)
    have h2 : (addN out e).length ≤ out.length + 1 := by rw [addN]; cases (isNm e && !(out.contains e.name)) <;> simp
    omega
theorem namesE_len (e : Ex) : (namesE e).1.length ≤ (toks e).length := by
  rw [namesE]; cases validP e
  · exact Nat.zero_le _
  · exact namesT_len _
def namesRQ (e : Ex) : List Bs × Int := bif validQ e then (namesQ [] e, 0) else ([], 2)
structure WF (P : Program) (e : Ex) : Prop where
  z : szE e = true
  m : smE e = true
  nd : nodes e ≤ 3000
  ht : height e ≤ 300
  tl : (toks e).length ≤ 18000
  dp : dep e ≤ 602
  dq : depQ e ≤ 600
  w : OKW P e
  tk : OKTs (toks e)
  v : validQ e = validP e
  tx : textQ e = textE e
  nm : namesRQ e = namesE e
  nl : (namesQ [] e).length ≤ 3000
theorem wf_of {P : Program} {e : Ex} (hb : BT P) (h : fewP [e] 3000 = true) (hn : nuE e = true) : WF P e := by
  obtain ⟨h1, h2, h3⟩ := few_one h
  have hz := szE_few e h2 hn h1
  have t1 := toks_len e
  have d1 := dep_le e
  have d2 := depQ_le e
  have n1 := namesQ_le e []
  have hv := validQ_P e (by omega)
  refine ⟨hz, h2, h1, h3, by omega, by omega, by omega, ⟨hz, .inr hb, by omega, by omega⟩, toks_small e h2 hn, hv, ?_, ?_, by simpa using Nat.le_trans n1 (by simpa using h1)⟩
  · rw [textQ, textE, hv]
    cases hvp : validP e with
    | false => rfl
    | true =>
      have hf := validQ_form (hv.trans hvp)
      exact (textP_T (fun t ht => (toks_ok e hf hz h2 t ht).poss) (by omega)).symm
  · rw [namesRQ, namesE, hv]
    cases hvp : validP e with
    | false => rfl
    | true =>
      have hf := validQ_form (hv.trans hvp)
      show (namesQ [] e, (0 : Int)) = (namesT (toks e), 0)
      rw [names_toks e hf []]; rfl
end Go.Proofs.YtcgdlhkiecommaaGreatDoor
/- What is read of the first tokens alone is the same. -/

namespace Go.Proofs.YtcgdlhkiecommaaGreatDoor
open Go
section
variable {l : List Tk} {n : Nat}
end
end Go.Proofs.YtcgdlhkiecommaaGreatDoor
/- What is read is valid, and is written with tokens that were read. -/


namespace Go.Proofs.YtcgdlhkiecommaaGreatDoor
open Go
def seg (l : List Tk) (i j : Nat) : List (Int × Bs × Int) := ((l.map tkey).drop i).take (j - i)
theorem seg_app {l : List Tk} {i j k : Nat} (h1 : i ≤ j) (h2 : j ≤ k) : seg l i j ++ seg l j k = seg l i k := by
  have e : k - i = (j - i) + (k - j) := by omega
  rw [seg, seg, seg, e, List.take_add, List.drop_drop, show i + (j - i) = j by omega]
theorem seg_one {l : List Tk} {i : Nat} (h : i < l.length) : seg l i (i + 1) = [tkey (tokAt l i)] := by
  have e : l.drop i = tokAt l i :: l.drop (i + 1) := by
    rw [List.drop_eq_getElem_cons h, tokAt, List.getD_eq_getElem?_getD, List.getElem?_eq_getElem h]; rfl
  rw [seg, show i + 1 - i = 1 by omega, ← List.map_drop, e]; rfl
def Sb (l : List Tk) (ts : List Tk) (i j : Nat) : Prop := i ≤ j ∧ (ts.map tkey).Sublist (seg l i j)
section
variable {l : List Tk}
theorem sb_app {a b : List Tk} {i j k : Nat} (h1 : Sb l a i j) (h2 : Sb l b j k) : Sb l (a ++ b) i k :=
  ⟨Nat.le_trans h1.1 h2.1, by rw [List.map_append, ← seg_app h1.1 h2.1]; exact h1.2.append h2.2⟩
theorem sb_one {t : Tk} {i : Nat} (h : i < l.length) (hk : tkey t = tkey (tokAt l i)) : Sb l [t] i (i + 1) :=
  ⟨by omega, by rw [seg_one h, List.map_cons, List.map_nil, hk]; exact List.Sublist.refl _⟩
theorem sb_cons {t : Tk} {b : List Tk} {i k : Nat} (h : i < l.length) (hk : tkey t = tkey (tokAt l i)) (h2 : Sb l b (i + 1) k) : Sb l (t :: b) i k := sb_app (sb_one h hk) h2
theorem sb_nil {i j : Nat} (h : i ≤ j) : Sb l [] i j := ⟨h, by simp⟩
theorem sb_skip {b : List Tk} {i j k : Nat} (h : i ≤ j) (h2 : Sb l b j k) : Sb l b i k := sb_app (sb_nil h) h2
theorem sb_more {b : List Tk} {i j k : Nat} (h : j ≤ k) (h2 : Sb l b i j) : Sb l b i k := by
  have := sb_app h2 (sb_nil (l := l) h)
  rwa [List.append_nil] at this
theorem sb_sub {a b : List Tk} {i j : Nat} (h : a.Sublist b) (h2 : Sb l b i j) : Sb l a i j := ⟨h2.1, (h.map tkey).trans h2.2⟩
def Wr (l : List Tk) : Prop := ∀ i, i < l.length → possT (tokAt l i) = true
theorem key_S {t : Tk} (h : possT t = true) (ho : t.op = 2 ∨ t.op = 7) : tkey (tkS t.text) = tkey t := by
  have key : (signsL.all fun x => !(isWordL x)) = true := by decide +kernel
  rcases ho with ho | ho
  · rw [possT, ho] at h
    simp only [show ((2 : Int) == 1) = false from rfl, show ((2 : Int) == 2) = true from rfl, cond_true, cond_false, Bool.and_eq_true, beq_iff_eq] at h
    rw [tkey, tkey, ho, h.1, tkS, h.2]; rfl
  · rw [possT, ho] at h
    simp only [show ((7 : Int) == 1) = false from rfl, show ((7 : Int) == 2) = false from rfl, show ((7 : Int) == 3) = false from rfl, show ((7 : Int) == 4) = false from rfl, show ((7 : Int) == 5) = false from rfl, show ((7 : Int) == 6) = false from rfl, show ((7 : Int) == 7) = true from rfl, cond_true, cond_false, Bool.and_eq_true, beq_iff_eq] at h
    have hw := List.all_eq_true.1 key _ (List.contains_iff_mem.1 h.2)
    rw [Bool.not_eq_true'] at hw
    rw [tkey, tkey, ho, h.1, tkS, hw]; rfl
theorem isAt_key (hw : Wr l) {ts : List Bs} {i : Nat} (h : isAt l ts i = true) : i < l.length ∧ tkey (tkS (tokAt l i).text) = tkey (tokAt l i) ∧ ts.contains (tokAt l i).text = true := by
  have hi := isAt_lt h
  rw [isAt, Bool.and_eq_true, Bool.or_eq_true, beq_iff_eq, beq_iff_eq] at h
  exact ⟨hi, key_S (hw i hi) h.1, h.2⟩
theorem isAt_one (hw : Wr l) {s : Bs} {i : Nat} (h : isAt l [s] i = true) : i < l.length ∧ tkey (tkS s) = tkey (tokAt l i) := by
  obtain ⟨h1, h2, h3⟩ := isAt_key hw h
  have : (tokAt l i).text = s := by simpa using h3
  rw [← this]; exact ⟨h1, h2⟩
theorem szE_of {e : Ex} (h1 : e.name.length ≤ 1000000000) (h2 : e.bits.length ≤ 1000000000) (h3 : e.kids.length ≤ 1000000000) (h4 : ∀ x ∈ e.bits, 0 ≤ x) (h5 : ∀ k ∈ e.kids, szE k = true) : szE e = true := by
  have hl : ∀ l : List Ex, (∀ k ∈ l, szE k = true) → szEs l = true := by
    intro l
    induction l with
    | nil => intro _; rfl
    | cons a l ih => intro h; rw [szEs, h a (by simp), ih fun k hk => h k (by simp [hk])]; rfl
  cases e with
  | mk o s n b v k t l c =>
    rw [szE, hl k h5]
    have h1 : s.length ≤ 1000000000 := h1
    have h2 : b.length ≤ 1000000000 := h2
    have h3 : k.length ≤ 1000000000 := h3
    have h4 : b.all (fun x => decide (0 ≤ x)) = true := List.all_eq_true.2 (fun x hx => decide_eq_true (h4 x hx))
    rw [decide_eq_true h1, decide_eq_true h2, decide_eq_true h3, h4]; rfl
structure Gd (l : List Tk) (d k : Nat) (e : Ex) (i j : Nat) : Prop where
  f : formP e = true
  z : szE e = true
  m : smE e = true
  dp : kidDp e (k : Int) ≤ d
  sb : Sb l (kidTk e (k : Int)) i j
  h : height e + 1 ≤ j - i
theorem sub_br (t : List Tk) : t.Sublist (inBr t) := (List.sublist_append_left t _).trans (List.sublist_cons_self _ _)
theorem Gd.down {d k k' i j : Nat} {e : Ex} (g : Gd l d k' e i j) (hk : k ≤ k') : Gd l d k e i j := by
  refine ⟨g.f, g.z, g.m, ?_, ?_, g.h⟩
  · have := g.dp
    rw [kidDp] at this ⊢
    split <;> split at this <;> omega
  · have := g.sb
    rw [kidTk] at this ⊢
    split
    · rw [if_pos (by omega)] at this; exact this
    · split at this
      · exact sb_sub (sub_br _) this
      · exact this
theorem Gd.tk0 {d i j : Nat} {e : Ex} (g : Gd l d 0 e i j) : Sb l (toks e) i j ∧ dep e ≤ d := by
  have h1 := g.sb
  have h2 := g.dp
  have := tight g.f
  rw [show ((0 : Nat) : Int) = 0 from rfl, this.1] at h1
  rw [show ((0 : Nat) : Int) = 0 from rfl, this.2] at h2
  exact ⟨h1, h2⟩
theorem sb_br (hw : Wr l) {t : List Tk} {i j : Nat} (ho : isAt l [sOpen] i = true) (h : Sb l t (i + 1) j) (hs : isAt l [sShut] j = true) : Sb l (inBr t) i (j + 1) := by
  obtain ⟨a1, a2⟩ := isAt_one hw ho
  obtain ⟨b1, b2⟩ := isAt_one hw hs
  exact sb_cons a1 a2 (sb_app h (sb_one b1 b2))
theorem Gd.br (hw : Wr l) {d i j : Nat} {e : Ex} (ho : isAt l [sOpen] i = true) (hd : d ≠ 0) (g : Gd l (d - 1) 0 e (i + 1) j) (hs : isAt l [sShut] j = true) : Gd l d 5 e i (j + 1) := by
  obtain ⟨t1, t2⟩ := g.tk0
  refine ⟨g.f, g.z, g.m, ?_, ?_, by have := g.h; omega⟩
  · rw [kidDp]; split <;> omega
  · rw [kidTk]; split
    · exact sb_br hw ho t1 hs
    · exact sb_skip (Nat.le_succ i) (sb_more (Nat.le_succ j) t1)
theorem gd_leaf {d k i : Nat} {e : Ex} {t : Tk} (hf : formP e = true) (hz : szE e = true) (hm : smE e = true) (hb : bindsP e = 5) (ht : toks e = [t]) (hd : dep e = 0) (hi : i < l.length) (hk : tkey t = tkey (tokAt l i)) (hh : e.kids = []) (hk5 : k ≤ 5) : Gd l d k e i (i + 1) := by
  refine ⟨hf, hz, hm, ?_, ?_, by rw [height_eq, hh]; simp [heights]⟩
  · rw [kidDp, if_neg (by omega), hd]; omega
  · rw [kidTk, if_neg (by omega), ht]; exact sb_one hi hk
theorem name_len {s : Bs} (h : isNameL s = true) : s.length ≤ 40 := by
  simp only [isNameL, Bool.and_eq_true, decide_eq_true_eq] at h; exact h.2.1
theorem lev_str {s : Bs} {k : Nat} (hk : k < 4) (h : (levelL k).contains s = true) : strengthI s = (k : Int) ∧ isNameL s = false ∧ s.length ≤ 40 := by
  have key : (levelsL.flatten.all fun x => (decide (x.length ≤ 40) && !(isNameL x)) && (List.range 4).all fun q => (levelL q).contains x == (strengthI x == (q : Int))) = true := by decide +kernel
  have hm : s ∈ levelsL.flatten := by
    rw [List.contains_iff_mem] at h
    refine List.mem_flatten.2 ⟨levelL k, ?_, h⟩
    have : k = 0 ∨ k = 1 ∨ k = 2 ∨ k = 3 := by omega
    rcases this with rfl | rfl | rfl | rfl <;> simp [levelL, levelsL]
  have h1 := List.all_eq_true.1 key s hm
  rw [Bool.and_eq_true, Bool.and_eq_true, Bool.not_eq_true', decide_eq_true_eq, List.all_eq_true] at h1
  have := h1.2 k (List.mem_range.2 hk)
  rw [h, beq_iff_eq] at this
  exact ⟨by simpa using this.symm, h1.1.2, h1.1.1⟩
theorem all2 {p : Ex → Prop} {a b : Ex} (h1 : p a) (h2 : p b) : ∀ k ∈ [a, b], p k := by
  intro k hk; simp only [List.mem_cons, List.not_mem_nil, or_false] at hk; rcases hk with rfl | rfl <;> assumption
theorem all3 {p : Ex → Prop} {a b c : Ex} (h1 : p a) (h2 : p b) (h3 : p c) : ∀ k ∈ [a, b, c], p k := by
  intro k hk; simp only [List.mem_cons, List.not_mem_nil, or_false] at hk; rcases hk with rfl | rfl | rfl <;> assumption
theorem form_of {e : Ex} (h1 : headR e = false) (h2 : ∀ k ∈ e.kids, formP k = true) (h3 : tailR e = true) : formP e = true := by
  rw [formH, h1, List.all_eq_true.2 h2, h3]; rfl
theorem gd_bin (hw : Wr l) {d k i j m : Nat} {a b : Ex} {t : Tk} (hk : k < 4) (ga : Gd l d (if k = 1 then 2 else k) a i j) (hat : isAt l (levelL k) j = true) (gb : Gd l d (k + 1) b (j + 1) m) :
    Gd l d k (mkE 5 (tokAt l j).text 0 [] [a, b] t) i m := by
  obtain ⟨a1, a2, a3⟩ := isAt_key hw hat
  obtain ⟨s1, s2, s3⟩ := lev_str hk a3
  have hb : bindsP (mkE 5 (tokAt l j).text 0 [] [a, b] t) = (k : Int) := (binds_binary (e := mkE 5 (tokAt l j).text 0 [] [a, b] t) rfl s2 rfl).trans s1
  have hlf : leftP (k : Int) = ((if k = 1 then 2 else k : Nat) : Int) := by
    by_cases h : k = 1
    · rw [h]; rfl
    · rw [leftP, show ((k : Int) == 1) = false by simp; omega, if_neg h]; rfl
  obtain ⟨t1, t2⟩ := toks_two (e := mkE 5 (tokAt l j).text 0 [] [a, b] t) rfl rfl rfl rfl rfl rfl (by rw [hb]; simp; omega) (by rw [hb]; simp; omega) rfl
  rw [hb, hlf] at t1 t2
  have ga1 := ga.h
  have gb1 := gb.h
  refine ⟨form_of rfl (all2 ga.f gb.f) ?_, szE_of (by show (tokAt l j).text.length ≤ _; omega) (by simp [mkE, Ex.bits]) (by simp [mkE, Ex.kids]) (by intro x hx; simp [mkE, Ex.bits] at hx) (all2 ga.z gb.z), smE_of (by show (tokAt l j).text.length ≤ _; omega) (by simp [mkE, Ex.bits]) (all2 ga.m gb.m), ?_, ?_, ?_⟩
  · show (operR (tokAt l j).text 2 || _) = true
    rw [operR, strR_pos, s1, decide_eq_true (show (k : Int) ≥ 0 by omega)]; rfl
  · rw [kidDp, if_neg (by omega), t2]
    exact Nat.max_le.2 ⟨ga.dp, gb.dp⟩
  · rw [kidTk, if_neg (by omega), t1]
    exact sb_app ga.sb (sb_cons a1 a2 gb.sb)
  · rw [height_eq]
    show max (height a + 1) (max (height b + 1) 0) + 1 ≤ m - i
    have g1 := ga.sb.1
    have g2 := gb.sb.1
    omega
theorem gd_un (hw : Wr l) {d i j : Nat} {a : Ex} {t : Tk} (hat : isAt l [sNot, sMinus] i = true) (hd : d ≠ 0) (ga : Gd l (d - 1) 4 a (i + 1) j) : Gd l d 4 (mkE 5 (tokAt l i).text 0 [] [a] t) i j := by
  obtain ⟨a1, a2, a3⟩ := isAt_key hw hat
  have hs : (tokAt l i).text = sNot ∨ (tokAt l i).text = sMinus := by simpa using a3
  have s2 : isNameL (tokAt l i).text = false := by rcases hs with h | h <;> rw [h] <;> decide +kernel
  have s3 : (tokAt l i).text.length ≤ 40 := by rcases hs with h | h <;> rw [h] <;> decide
  have hb : bindsP (mkE 5 (tokAt l i).text 0 [] [a] t) = 4 := binds_unary (e := mkE 5 (tokAt l i).text 0 [] [a] t) rfl s2 rfl
  obtain ⟨t1, t2⟩ := toks_one (e := mkE 5 (tokAt l i).text 0 [] [a] t) rfl rfl rfl rfl rfl rfl (by rw [hb]; rfl) (by rw [hb]; rfl) rfl
  have ga1 := ga.h
  have h1 : ∀ {p : Ex → Prop}, p a → ∀ k ∈ [a], p k := fun h k hk => by rw [List.mem_singleton.1 hk]; exact h
  refine ⟨form_of rfl (h1 ga.f) ?_, szE_of (by show (tokAt l i).text.length ≤ _; omega) (by simp [mkE, Ex.bits]) (by simp [mkE, Ex.kids]) (by intro x hx; simp [mkE, Ex.bits] at hx) (h1 ga.z), smE_of (by show (tokAt l i).text.length ≤ _; omega) (by simp [mkE, Ex.bits]) (h1 ga.m), ?_, ?_, ?_⟩
  · show (operR (tokAt l i).text 1 || _) = true
    rw [operR]
    rcases hs with h | h <;> rw [h] <;> simp
  · rw [kidDp, if_neg (by rw [hb]; decide), t2]
    have : kidDp a ((4 : Nat) : Int) ≤ d - 1 := ga.dp
    have e4 : kidDp ((mkE 5 (tokAt l i).text 0 [] [a] t).kids.getD 0 default) 4 = kidDp a ((4 : Nat) : Int) := rfl
    rw [e4]; omega
  · rw [kidTk, if_neg (by rw [hb]; decide), t1]
    exact sb_cons a1 a2 ga.sb
  · rw [height_eq]
    show max (height a + 1) 0 + 1 ≤ j - i
    have g1 := ga.sb.1
    omega
theorem gd_idx (hw : Wr l) {d i j m : Nat} {e x : Ex} {t : Tk} (ge : Gd l d 5 e i j) (h4 : e.op ≠ 4) (ho : isAt l [sOpen] j = true) (hd : d ≠ 0) (gx : Gd l (d - 1) 0 x (j + 1) m) (hs : isAt l [sShut] m = true) : Gd l d 5 (mkE 6 [] 0 [] [e, x] t) i (m + 1) := by
  have hb : bindsP (mkE 6 [] 0 [] [e, x] t) = 5 := binds_not5 (by simp [mkE, Ex.op])
  obtain ⟨t1, t2⟩ := toks_index (e := mkE 6 [] 0 [] [e, x] t) rfl rfl rfl rfl rfl rfl
  obtain ⟨x1, x2⟩ := gx.tk0
  have g1 := ge.h
  have g2 := gx.h
  refine ⟨form_of rfl (all2 ge.f gx.f) ?_, szE_of (by simp [mkE, Ex.name]) (by simp [mkE, Ex.bits]) (by simp [mkE, Ex.kids]) (by intro x hx; simp [mkE, Ex.bits] at hx) (all2 ge.z gx.z), smE_of (by simp [mkE, Ex.name]) (by simp [mkE, Ex.bits]) (all2 ge.m gx.m), ?_, ?_, ?_⟩
  · show (((2 : Int) == 2) && (e.op != 4)) = true
    simpa using h4
  · rw [kidDp, if_neg (by rw [hb]; decide), t2]
    have := ge.dp
    exact Nat.max_le.2 ⟨this, by show dep x + 1 ≤ d; omega⟩
  · rw [kidTk, if_neg (by rw [hb]; decide), t1]
    exact sb_app ge.sb (sb_br hw ho x1 hs)
  · rw [height_eq]
    show max (height e + 1) (max (height x + 1) 0) + 1 ≤ m + 1 - i
    have := ge.sb.1
    have := gx.sb.1
    omega
theorem gd_slc (hw : Wr l) {d i j m q : Nat} {e hi lo : Ex} {t : Tk} (ge : Gd l d 5 e i j) (ho : isAt l [sOpen] j = true) (hd : d ≠ 0) (gh : Gd l (d - 1) 0 hi (j + 1) m) (hdn : isAt l [sDownto] m = true) (gl : Gd l (d - 1) 0 lo (m + 1) q) (hs : isAt l [sShut] q = true) : Gd l d 5 (mkE 7 [] 0 [] [e, hi, lo] t) i (q + 1) := by
  have hb : bindsP (mkE 7 [] 0 [] [e, hi, lo] t) = 5 := binds_not5 (by simp [mkE, Ex.op])
  obtain ⟨t1, t2⟩ := toks_slice (e := mkE 7 [] 0 [] [e, hi, lo] t) rfl rfl rfl rfl rfl rfl rfl
  obtain ⟨x1, x2⟩ := gh.tk0
  obtain ⟨y1, y2⟩ := gl.tk0
  obtain ⟨d1, d2⟩ := isAt_one hw hdn
  have g1 := ge.h
  have g2 := gh.h
  have g3 := gl.h
  refine ⟨form_of rfl (all3 ge.f gh.f gl.f) rfl, szE_of (by simp [mkE, Ex.name]) (by simp [mkE, Ex.bits]) (by simp [mkE, Ex.kids]) (by intro x hx; simp [mkE, Ex.bits] at hx) (all3 ge.z gh.z gl.z), smE_of (by simp [mkE, Ex.name]) (by simp [mkE, Ex.bits]) (all3 ge.m gh.m gl.m), ?_, ?_, ?_⟩
  · rw [kidDp, if_neg (by rw [hb]; decide), t2]
    have := ge.dp
    exact Nat.max_le.2 ⟨this, by show max (dep hi) (max (dep lo) 0) + 1 ≤ d; omega⟩
  · rw [kidTk, if_neg (by rw [hb]; decide), t1]
    exact sb_app ge.sb (sb_br hw ho (t := toks hi ++ (tkS sDownto :: toks lo)) (sb_app x1 (sb_cons d1 d2 y1)) hs)
  · rw [height_eq]
    show max (height e + 1) (max (height hi + 1) (max (height lo + 1) 0)) + 1 ≤ q + 1 - i
    have := ge.sb.1
    have := gh.sb.1
    have := gl.sb.1
    omega
structure Ga (l : List Tk) (d : Nat) (kids : List Ex) (i j : Nat) : Prop where
  n : kids ≠ []
  sb : Sb l (sepT sComma (kids.map toks)) i j
  k : ∀ k ∈ kids, formP k = true ∧ szE k = true ∧ smE k = true ∧ dep k ≤ d ∧ height k + 1 ≤ j - i
theorem ga_one {d i j : Nat} {e : Ex} (g : Gd l d 0 e i j) : Ga l d [e] i j :=
  ⟨by simp, g.tk0.1, fun k hk => by rw [List.mem_singleton.1 hk]; exact ⟨g.f, g.z, g.m, g.tk0.2, g.h⟩⟩
theorem ga_more (hw : Wr l) {d i j m : Nat} {kids : List Ex} {e : Ex} (h : Ga l d kids i j) (hc : isAt l [sComma] j = true) (g : Gd l d 0 e (j + 1) m) : Ga l d (kids ++ [e]) i m := by
  obtain ⟨c1, c2⟩ := isAt_one hw hc
  have g1 := g.sb.1
  have g2 := h.sb.1
  have g3 := g.h
  refine ⟨by simp, ?_, fun k hk => ?_⟩
  · rw [List.map_append, List.map_cons, List.map_nil, sep_snoc _ _ _ (by have := h.n; simpa using this)]
    exact sb_app h.sb (sb_cons c1 c2 g.tk0.1)
  · rcases List.mem_append.1 hk with hk | hk
    · obtain ⟨k1, k2, k3, k4, k5⟩ := h.k k hk
      exact ⟨k1, k2, k3, k4, by omega⟩
    · rw [List.mem_singleton.1 hk]; exact ⟨g.f, g.z, g.m, g.tk0.2, by omega⟩
theorem maxL_bound {ds : List Nat} {n : Nat} (h : ∀ x ∈ ds, x ≤ n) : maxL ds ≤ n := by
  induction ds with
  | nil => exact Nat.zero_le _
  | cons a r ih => exact Nat.max_le.2 ⟨h a (by simp), ih fun x hx => h x (by simp [hx])⟩
theorem gd_call (hw : Wr l) {d i j m : Nat} {s : Bs} {kids : List Ex} {li co : Int} (hs : Sb l [tkN s] i j) (hn : isNameL s = true) (hij : i < j) (ho : isAt l [sOpen] j = true) (hd : d ≠ 0) (ga : Ga l (d - 1) kids (j + 1) m) (hl : kids.length ≤ 20) (hsh : isAt l [sShut] m = true) :
    Gd l d 5 (.mk 5 s 0 [] va0 kids ty0 li co) i (m + 1) := by
  have hb : bindsP (.mk 5 s 0 [] va0 kids ty0 li co) = 5 := binds_call (e := .mk 5 s 0 [] va0 kids ty0 li co) rfl hn
  obtain ⟨t1, t2⟩ := toks_call (e := .mk 5 s 0 [] va0 kids ty0 li co) rfl rfl rfl rfl rfl rfl (by rw [hb]; rfl)
  have hkl : 1 ≤ kids.length := List.length_pos_iff.2 ga.n
  have hlen := name_len hn
  have gsb := ga.sb.1
  refine ⟨form_of rfl (fun k hk => (ga.k k hk).1) ?_, szE_of (by show s.length ≤ _; omega) (by simp [Ex.bits]) (by show kids.length ≤ _; omega) (by intro x hx; simp [Ex.bits] at hx) (fun k hk => (ga.k k hk).2.1), smE_of (by show s.length ≤ _; omega) (by simp [Ex.bits]) (fun k hk => (ga.k k hk).2.2.1), ?_, ?_, ?_⟩
  · show (operR s (kids.length : Int) || ((isNameL s && decide ((kids.length : Int) ≥ 1)) && decide ((kids.length : Int) ≤ 20))) = true
    rw [hn, decide_eq_true (by omega), decide_eq_true (by omega)]; simp
  · rw [kidDp, if_neg (by rw [hb]; decide), t2]
    have : maxL (kids.map dep) ≤ d - 1 := maxL_bound fun x hx => by
      obtain ⟨k, hk, rfl⟩ := List.mem_map.1 hx
      exact (ga.k k hk).2.2.2.1
    show maxL (kids.map dep) + 1 ≤ d
    omega
  · rw [kidTk, if_neg (by rw [hb]; decide), t1]
    exact sb_app hs (sb_br hw ho ga.sb hsh)
  · rw [height_eq]
    have : heights kids ≤ m - (j + 1) := heights_le fun k hk => (ga.k k hk).2.2.2.2
    show heights kids + 1 ≤ m + 1 - i
    omega
end
end Go.Proofs.YtcgdlhkiecommaaGreatDoor
/- What is read is valid: all ways to read. -/

namespace Go.Proofs.YtcgdlhkiecommaaGreatDoor
open Go
section
variable {l : List Tk}
theorem row_none {m i j : Nat} {g : Flt} {e : Ex} : rowP l (fun _ => .bad g) m i ≠ .ok e j := by
  induction m generalizing e j with
  | zero => intro h; cases h
  | succ m ih =>
    intro h
    rw [rowP] at h
    cases hx : rowP l (fun _ => .bad g) m i with
    | bad g => rw [hx] at h; cases h
    | ok e2 j2 => exact ih hx
def In (l : List Tk) (d : Nat) (inner : Nat → Rd Ex) : Prop := ∀ i e j, inner i = .ok e j → d ≠ 0 ∧ Gd l (d - 1) 0 e i j
theorem gd_loop (hw : Wr l) {nxt : Nat → Rd Ex} (hn : ∀ i, (nxt i).gt i l.length) {d k : Nat} (hk : k < 4) (hx : ∀ i e j, nxt i = .ok e j → Gd l d (k + 1) e i j) {i0 : Nat} : ∀ (f : Nat) (e0 : Ex) (i : Nat) (e : Ex) (j : Nat), i ≤ l.length → Gd l d (if k = 1 then 2 else k) e0 i0 i → rowLoop l nxt k f e0 i = .ok e j → Gd l d k e i0 j := by
  have hdn : ∀ {e i}, Gd l d (if k = 1 then 2 else k) e i0 i → Gd l d k e i0 i := fun g => g.down (by split <;> omega)
  intro f
  induction f with
  | zero => intro e0 i e j _ g h; rw [rowLoop] at h; cases h; exact hdn g
  | succ f ih =>
    intro e0 i e j hi g h
    rw [rowLoop] at h
    split at h
    · rename_i hat
      cases hy : nxt (i + 1) with
      | bad g => rw [hy] at h; cases h
      | ok e2 j2 =>
        rw [hy] at h
        simp only at h
        have g2 := gd_bin (t := tokAt l i) hw hk g hat (hx _ _ _ hy)
        split at h
        · cases h; exact g2
        · rename_i hk1
          exact ih _ j2 e j (hn _ _ _ hy).2 (by rw [if_neg hk1]; exact g2) h
    · cases h; exact hdn g
theorem gd_row (hw : Wr l) {fac : Nat → Rd Ex} (hn : ∀ i, (fac i).gt i l.length) {d : Nat} (hx : ∀ i e j, fac i = .ok e j → Gd l d 4 e i j) : ∀ m, m ≤ 4 → ∀ i e j, rowP l fac m i = .ok e j → Gd l d (4 - m) e i j := by
  intro m
  induction m with
  | zero => intro _; exact hx
  | succ m ih =>
    intro hm i e j h
    rw [rowP] at h
    cases hy : rowP l fac m i with
    | bad g => rw [hy] at h; cases h
    | ok e2 j2 =>
      rw [hy] at h
      simp only at h
      have g := ih (by omega) _ _ _ hy
      rw [show 4 - (m + 1) = 3 - m by omega]
      refine gd_loop hw (row_gt hn m) (k := 3 - m) (by omega) (fun i e j h => by rw [show 3 - m + 1 = 4 - m by omega]; exact ih (by omega) i e j h) _ e2 j2 e j (row_gt hn m _ _ _ hy).2 (g.down (by split <;> omega)) h
theorem gd_slice (hw : Wr l) {d : Nat} {inner : Nat → Rd Ex} (hin : In l d inner) {e hi : Ex} {t : Tk} {i j m q : Nat} {x : Ex} (ge : Gd l d 5 e i j) (ho : isAt l [sOpen] j = true) (gh : Gd l (d - 1) 0 hi (j + 1) m) (h : sliceP l inner e hi t m = .ok x q) : Gd l d 5 x i q := by
  rw [sliceP] at h
  cases h1 : wantP l sDownto m with
  | bad g => rw [h1] at h; cases h
  | ok u j1 =>
    rw [h1] at h; simp only at h
    obtain ⟨rfl, a1⟩ := want_ok h1
    cases h2 : inner (m + 1) with
    | bad g => rw [h2] at h; cases h
    | ok lo k =>
      rw [h2] at h; simp only at h
      obtain ⟨hd, gl⟩ := hin _ _ _ h2
      cases h3 : wantP l sShut k with
      | bad g => rw [h3] at h; cases h
      | ok u j3 =>
        rw [h3] at h; simp only at h
        obtain ⟨rfl, a3⟩ := want_ok h3
        cases h
        exact gd_slc hw ge ho hd gh a1 gl a3
theorem gd_part (hw : Wr l) {d : Nat} {inner : Nat → Rd Ex} (hin : In l d inner) {e : Ex} {i j m : Nat} {x : Ex} (ge : Gd l d 5 e i j) (h : partP l d inner e j = .ok x m) : Gd l d 5 x i m := by
  rw [partP] at h
  cases h1 : openP l d j with
  | bad g => rw [h1] at h; cases h
  | ok u j1 =>
    rw [h1] at h; simp only at h
    obtain ⟨hd, rfl, ho⟩ := open_ok h1
    cases h2 : inner (j + 1) with
    | bad g => rw [h2] at h; cases h
    | ok first k =>
      rw [h2] at h; simp only at h
      obtain ⟨_, gf⟩ := hin _ _ _ h2
      split at h
      · exact gd_slice hw hin ge ho gf h
      · cases h3 : wantP l sShut k with
        | bad g => rw [h3] at h; cases h
        | ok u j3 =>
          rw [h3] at h; simp only at h
          obtain ⟨rfl, a3⟩ := want_ok h3
          cases h
          rw [partE]
          split
          · rename_i h4
            have h4' : e.op = 4 := by simpa using h4
            have hT := form_op ge.f
            rw [tailR, h4'] at hT
            simp only [show ((4 : Int) == 1) = false from rfl, show ((4 : Int) == 2) = false from rfl, show ((4 : Int) == 3) = false from rfl, show ((4 : Int) == 4) = true from rfl, cond_true, cond_false, Bool.and_eq_true] at hT
            have hs := ge.sb
            rw [kidTk, if_neg (by rw [binds_not5 (by omega)]; decide), (toks_name (by rw [h4']; rfl) (by rw [h4']; rfl) (by rw [h4']; rfl) (by rw [h4']; rfl)).1] at hs
            have := ge.h
            exact gd_call hw hs hT.1 (by omega) ho hd (ga_one gf) (by simp) a3
          · rename_i h4
            exact gd_idx hw ge (by simpa using h4) ho hd gf a3
theorem gd_parts (hw : Wr l) {d : Nat} {inner : Nat → Rd Ex} (hin : In l d inner) {i : Nat} : ∀ (f : Nat) (e0 : Ex) (j : Nat) (e : Ex) (m : Nat), Gd l d 5 e0 i j → partsP l d inner f e0 j = .ok e m → Gd l d 5 e i m := by
  intro f
  induction f with
  | zero => intro e0 j e m g h; rw [partsP] at h; cases h; exact g
  | succ f ih =>
    intro e0 j e m g h
    rw [partsP] at h
    split at h
    · cases hy : partP l d inner e0 j with
      | bad g => rw [hy] at h; cases h
      | ok e2 j2 =>
        rw [hy] at h; simp only at h
        exact ih _ _ _ _ (gd_part hw hin g hy) h
    · cases h; exact g
theorem ga_args (hw : Wr l) {d : Nat} {inner : Nat → Rd Ex} (hin : In l d inner) {i : Nat} : ∀ (f : Nat) (ks : List Ex) (j : Nat) (x : List Ex) (m : Nat), Ga l (d - 1) ks i j → argsP l inner f ks j = .ok x m → Ga l (d - 1) x i m ∧ x.length ≤ ks.length + f := by
  intro f
  induction f with
  | zero =>
    intro ks j x m g h
    rw [argsP] at h
    split at h
    · cases h
    · cases h; exact ⟨g, Nat.le_refl _⟩
  | succ f ih =>
    intro ks j x m g h
    rw [argsP] at h
    split at h
    · rename_i hc
      cases hy : inner (j + 1) with
      | bad g => rw [hy] at h; cases h
      | ok e2 j2 =>
        rw [hy] at h; simp only at h
        obtain ⟨g1, g2⟩ := ih _ _ _ _ (ga_more hw g hc (hin _ _ _ hy).2) h
        refine ⟨g1, ?_⟩
        rw [List.length_append] at g2; simp only [List.length_cons, List.length_nil] at g2; omega
    · cases h; exact ⟨g, by omega⟩
theorem name_at (hw : Wr l) {i : Nat} (h : ((tokAt l i).op == 1) = true) : i < l.length ∧ isNameL (tokAt l i).text = true ∧ tkey (tkN (tokAt l i).text) = tkey (tokAt l i) := by
  have hi := op_lt (l := l) (i := i) (k := 1) (by simpa using h) (by decide)
  have hp := hw i hi
  rw [possT, h, cond_true, Bool.and_eq_true, beq_iff_eq] at hp
  rw [beq_iff_eq] at h
  exact ⟨hi, hp.2, by rw [tkey, tkey, h, hp.1]; rfl⟩
theorem gd_name (hw : Wr l) {d k i : Nat} {t : Tk} (h : ((tokAt l i).op == 1) = true) (hk : k ≤ 5) : Gd l d k (mkE 4 (tokAt l i).text 0 [] [] t) i (i + 1) := by
  obtain ⟨a1, a2, a3⟩ := name_at hw h
  have hl := name_len a2
  have := toks_name (e := mkE 4 (tokAt l i).text 0 [] [] t) rfl rfl rfl rfl
  refine gd_leaf (t := tkN (tokAt l i).text) (form_of rfl (by intro k hk; cases hk) ?_) (szE_of (by show (tokAt l i).text.length ≤ _; omega) (by simp [mkE, Ex.bits]) (by simp [mkE, Ex.kids]) (by intro x hx; simp [mkE, Ex.bits] at hx) (by intro k hk; cases hk)) (smE_of (by show (tokAt l i).text.length ≤ _; omega) (by simp [mkE, Ex.bits]) (by intro k hk; cases hk)) (binds_not5 (by simp [mkE, Ex.op])) this.1 this.2 a1 a3 rfl hk
  show (isNameL (tokAt l i).text && ((0 : Int) == 0)) = true
  rw [a2]; rfl
theorem gd_named (hw : Wr l) {d : Nat} {inner : Nat → Rd Ex} (hin : In l d inner) {i m : Nat} {x : Ex} (h : namedP l d inner i = .ok x m) : Gd l d 5 x i m := by
  rw [namedP] at h
  split at h
  · rename_i h1
    obtain ⟨a1, a2, a3⟩ := name_at hw h1
    split at h
    · rename_i ho
      cases hp : openP l d (i + 1) with
      | bad g => rw [hp] at h; cases h
      | ok u j1 =>
        rw [hp] at h; simp only at h
        obtain ⟨hd, rfl, _⟩ := open_ok hp
        cases h2 : inner (i + 1 + 1) with
        | bad g => rw [h2] at h; cases h
        | ok first k =>
          rw [h2] at h; simp only at h
          obtain ⟨_, gf⟩ := hin _ _ _ h2
          split at h
          · exact gd_slice hw hin (gd_name hw h1 (Nat.le_refl 5)) ho gf h
          · cases h5 : argsP l inner 19 [first] k with
            | bad g => rw [h5] at h; cases h
            | ok ks m2 =>
              rw [h5] at h; simp only at h
              obtain ⟨g1, g2⟩ := ga_args hw hin _ _ _ _ _ (ga_one gf) h5
              cases h3 : wantP l sShut m2 with
              | bad g => rw [h3] at h; cases h
              | ok u j3 =>
                rw [h3] at h; simp only at h
                obtain ⟨rfl, a5⟩ := want_ok h3
                cases h
                exact gd_call hw (sb_one a1 a3) a2 (by omega) ho hd g1 (by simpa using g2) a5
    · cases h; exact gd_name hw h1 (Nat.le_refl 5)
  · cases h
theorem vec_bits {s : Bs} (h : isVecL s = true) : isBits (parseBits s) = true ∧ (∀ x ∈ parseBits s, 0 ≤ x) ∧ bitsT (parseBits s) = s ∧ (parseBits s).length = s.length ∧ s.length ≤ 64 := by
  have hp : parseBits s = (s.map bitCode).reverse := by rw [parseBits, h]; rfl
  have h0 := h
  simp only [isVecL, Bool.and_eq_true, decide_eq_true_eq, Bool.not_eq_true'] at h
  obtain ⟨h1, h2, h3⟩ := h
  have hb : ∀ c ∈ s, 0 ≤ bitCode c ∧ bitCode c ≤ 3 ∧ bitC (bitCode c) = c := by
    intro c hc
    have := List.all_eq_true.1 h3 c hc
    simp only [isBitC, Bool.or_eq_true, beq_iff_eq] at this
    rcases this with rfl | rfl | rfl | rfl <;> decide +kernel
  have hl : (parseBits s).length = s.length := by rw [hp]; simp
  have hx : ∀ x ∈ parseBits s, 0 ≤ x ∧ x ≤ 3 := by
    intro x hx
    rw [hp, List.mem_reverse, List.mem_map] at hx
    obtain ⟨c, hc, rfl⟩ := hx
    exact ⟨(hb c hc).1, (hb c hc).2.1⟩
  refine ⟨?_, fun x h => (hx x h).1, ?_, hl, h2⟩
  · have hne : s ≠ [] := by intro e; rw [e] at h1; cases h1
    have := List.length_pos_iff.2 hne
    have h4 : ((parseBits s).any fun x => !(decide (x ≤ 3))) = false := by
      rw [List.any_eq_false]
      intro x h
      simpa using (hx x h).2
    rw [isBits, h4, hl, decide_eq_true (by omega), decide_eq_true (by omega)]; rfl
  · rw [bitsT, hp, List.map_reverse, List.reverse_reverse, List.map_map]
    have : s.map (bitC ∘ bitCode) = s.map id := List.map_congr_left fun c hc => (hb c hc).2.2
    rw [this, List.map_id]
theorem tw_len {p : UInt8 → Bool} {s : Bs} (h : (((s.drop 0).takeWhile p).length : Int) = (s.length : Int)) : s.all p = true := by
  rw [List.drop_zero] at h
  induction s with
  | nil => rfl
  | cons a r ih =>
    rw [List.takeWhile_cons] at h
    cases ha : p a with
    | false => rw [ha] at h; simp at h; omega
    | true =>
      rw [ha] at h
      simp only [if_true, List.length_cons] at h
      rw [List.all_cons, ha, ih (by omega)]; rfl
theorem vec_at (hw : Wr l) {i : Nat} (h : (tokAt l i).op = 4 ∨ (tokAt l i).op = 5) : i < l.length ∧ isVecL (tokAt l i).text = true ∧ (tokAt l i).n = 0 ∧ ((tokAt l i).op = 4 → (tokAt l i).text.length = 1) := by
  have hi : i < l.length := by rcases h with h | h; exact op_lt h (by decide); exact op_lt h (by decide)
  have hp := hw i hi
  rcases h with h | h
  · rw [possT, h] at hp
    simp only [show ((4 : Int) == 1) = false from rfl, show ((4 : Int) == 2) = false from rfl, show ((4 : Int) == 3) = false from rfl, show ((4 : Int) == 4) = true from rfl, cond_true, cond_false, Bool.and_eq_true, beq_iff_eq] at hp
    obtain ⟨⟨h1, h2⟩, h3⟩ := hp
    obtain ⟨c, hc⟩ : ∃ c, (tokAt l i).text = [c] := List.length_eq_one_iff.1 (by omega)
    rw [hc] at h3
    refine ⟨hi, ?_, h1, fun _ => by omega⟩
    rw [hc, isVecL]
    have : isBitC c = true := h3
    simp [this]
  · rw [possT, h] at hp
    simp only [show ((5 : Int) == 1) = false from rfl, show ((5 : Int) == 2) = false from rfl, show ((5 : Int) == 3) = false from rfl, show ((5 : Int) == 4) = false from rfl, show ((5 : Int) == 5) = true from rfl, cond_true, cond_false, Bool.and_eq_true, beq_iff_eq, decide_eq_true_eq] at hp
    obtain ⟨⟨⟨h1, h2⟩, h3⟩, h4⟩ := hp
    refine ⟨hi, ?_, h1, fun e => by omega⟩
    have ha : (tokAt l i).text.all isBitC = true := tw_len (p := fun c => ofK c 2) h4
    have hne : (tokAt l i).text.isEmpty = false := by
      cases hx : (tokAt l i).text with
      | nil => rw [hx] at h2; simp at h2
      | cons a r => rfl
    rw [isVecL, ha, hne, decide_eq_true (by omega)]; rfl
theorem gd_int (hw : Wr l) {d k i : Nat} {t : Tk} (h : (tokAt l i).op = 3) (hk : k ≤ 5) : Gd l d k (mkE 1 [] (tokAt l i).n [] [] t) i (i + 1) := by
  have hi : i < l.length := op_lt h (by decide)
  have hp := hw i hi
  rw [possT, h] at hp
  simp only [show ((3 : Int) == 1) = false from rfl, show ((3 : Int) == 2) = false from rfl, show ((3 : Int) == 3) = true from rfl, cond_true, cond_false, Bool.and_eq_true, beq_iff_eq, decide_eq_true_eq] at hp
  obtain ⟨⟨h1, h2⟩, h3⟩ := hp
  have := toks_int (e := mkE 1 [] (tokAt l i).n [] [] t) rfl
  refine gd_leaf (t := ⟨3, [], (tokAt l i).n, 0, 0⟩) (form_of rfl (by intro k hk; cases hk) ?_) (szE_of (by simp [mkE, Ex.name]) (by simp [mkE, Ex.bits]) (by simp [mkE, Ex.kids]) (by intro x hx; simp [mkE, Ex.bits] at hx) (by intro k hk; cases hk)) (smE_of (by simp [mkE, Ex.name]) (by simp [mkE, Ex.bits]) (by intro k hk; cases hk)) (binds_not5 (by simp [mkE, Ex.op])) this.1 this.2 hi ?_ rfl hk
  · show ((decide ((tokAt l i).n ≥ 0) && decide ((tokAt l i).n ≤ 2147483647)) && ((0 : Int) == 0)) = true
    rw [decide_eq_true (by omega), decide_eq_true (by omega)]; rfl
  · rw [tkey, tkey, h, h1]
theorem gd_bit (hw : Wr l) {d k i : Nat} {t : Tk} (h : (tokAt l i).op = 4) (hk : k ≤ 5) : Gd l d k (mkE 2 [] 0 (parseBits (tokAt l i).text) [] t) i (i + 1) := by
  obtain ⟨hi, hv, hn, h1⟩ := vec_at hw (.inl h)
  obtain ⟨b1, b2, b3, b4, b5⟩ := vec_bits hv
  have := toks_bit (e := mkE 2 [] 0 (parseBits (tokAt l i).text) [] t) rfl rfl
  refine gd_leaf (t := ⟨4, bitsT (parseBits (tokAt l i).text), 0, 0, 0⟩) (form_of rfl (by intro k hk; cases hk) ?_) (szE_of (by simp [mkE, Ex.name]) (by show (parseBits (tokAt l i).text).length ≤ _; omega) (by simp [mkE, Ex.kids]) b2 (by intro k hk; cases hk)) (smE_of (by simp [mkE, Ex.name]) (by show (parseBits (tokAt l i).text).length ≤ _; omega) (by intro k hk; cases hk)) (binds_not5 (by simp [mkE, Ex.op])) this.1 this.2 hi ?_ rfl hk
  · show ((((parseBits (tokAt l i).text).length : Int) == 1) && isBits (parseBits (tokAt l i).text)) && ((0 : Int) == 0) = true
    rw [b1, b4, h1 h]; rfl
  · rw [b3, tkey, tkey, h, hn]
theorem gd_vec (hw : Wr l) {d k i : Nat} {t : Tk} (h : (tokAt l i).op = 5) (hk : k ≤ 5) : Gd l d k (mkE 3 [] 0 (parseBits (tokAt l i).text) [] t) i (i + 1) := by
  obtain ⟨hi, hv, hn, h1⟩ := vec_at hw (.inr h)
  obtain ⟨b1, b2, b3, b4, b5⟩ := vec_bits hv
  have := toks_vec (e := mkE 3 [] 0 (parseBits (tokAt l i).text) [] t) rfl rfl rfl
  refine gd_leaf (t := ⟨5, bitsT (parseBits (tokAt l i).text), 0, 0, 0⟩) (form_of rfl (by intro k hk; cases hk) ?_) (szE_of (by simp [mkE, Ex.name]) (by show (parseBits (tokAt l i).text).length ≤ _; omega) (by simp [mkE, Ex.kids]) b2 (by intro k hk; cases hk)) (smE_of (by simp [mkE, Ex.name]) (by show (parseBits (tokAt l i).text).length ≤ _; omega) (by intro k hk; cases hk)) (binds_not5 (by simp [mkE, Ex.op])) this.1 this.2 hi ?_ rfl hk
  · show isBits (parseBits (tokAt l i).text) && ((0 : Int) == 0) = true
    rw [b1]; rfl
  · rw [b3, tkey, tkey, h, hn]
theorem gd_prim (hw : Wr l) {d : Nat} {inner : Nat → Rd Ex} (hin : In l d inner) {i m : Nat} {x : Ex} (h : primP l d inner i = .ok x m) : Gd l d 5 x i m := by
  rw [primP] at h
  split at h
  · rename_i h1; exact gd_parts hw hin _ _ _ _ _ (gd_int hw (by simpa using h1) (Nat.le_refl 5)) h
  · split at h
    · rename_i h1; exact gd_parts hw hin _ _ _ _ _ (gd_bit hw (by simpa using h1) (Nat.le_refl 5)) h
    · split at h
      · rename_i h1; exact gd_parts hw hin _ _ _ _ _ (gd_vec hw (by simpa using h1) (Nat.le_refl 5)) h
      · split at h
        · cases h2 : namedP l d inner i with
          | bad g => rw [h2] at h; cases h
          | ok e j => rw [h2] at h; simp only at h; exact gd_parts hw hin _ _ _ _ _ (gd_named hw hin h2) h
        · cases hp : openP l d i with
          | bad g => rw [hp] at h; cases h
          | ok u j1 =>
            rw [hp] at h; simp only at h
            obtain ⟨hd, rfl, ho⟩ := open_ok hp
            cases h2 : inner (i + 1) with
            | bad g => rw [h2] at h; cases h
            | ok e j =>
              rw [h2] at h; simp only at h
              cases h3 : wantP l sShut j with
              | bad g => rw [h3] at h; cases h
              | ok u j3 =>
                rw [h3] at h; simp only at h
                obtain ⟨rfl, a3⟩ := want_ok h3
                exact gd_parts hw hin _ _ _ _ _ (Gd.br hw ho hd (hin _ _ _ h2).2 a3) h
theorem gd_factor (hw : Wr l) : ∀ d i e j, factor l d i = .ok e j → Gd l d 4 e i j := by
  intro d
  induction d with
  | zero =>
    intro i e j h
    rw [factor, facP] at h
    split at h
    · rw [intoP] at h; cases h
    · exact (gd_prim hw (fun i e j h => absurd h row_none) h).down (by omega)
  | succ d ih =>
    intro i e j h
    rw [factor, facP] at h
    split at h
    · rename_i hat
      cases h1 : intoP l (d + 1) i with
      | bad g => rw [h1] at h; cases h
      | ok u j1 =>
        rw [h1] at h; simp only at h
        obtain ⟨hd, rfl⟩ := into_ok h1
        cases h2 : factor l d (i + 1) with
        | bad g => rw [h2] at h; cases h
        | ok e2 k =>
          rw [h2] at h; simp only at h
          cases h
          exact gd_un hw hat hd (ih _ _ _ h2)
    · exact (gd_prim hw (fun i e j h => ⟨Nat.succ_ne_zero d, gd_row hw (factor_gt d) ih 4 (Nat.le_refl 4) i e j h⟩) h).down (by omega)
theorem gd_all (hw : Wr l) {d i j : Nat} {e : Ex} (h : rowD l d 4 i = .ok e j) : Gd l d 0 e i j := gd_row hw (factor_gt d) (gd_factor hw d) 4 (Nat.le_refl 4) i e j h
end
end Go.Proofs.YtcgdlhkiecommaaGreatDoor
/- What the laws without the reference ask, of trees and tokens alone. -/



namespace Go.Proofs.YtcgdlhkiecommaaGreatDoor
open Go
theorem szX_of {e : Ex} (h1 : e.name.length ≤ 140737488355328) (h2 : e.bits.length ≤ 140737488355328) (h3 : e.kids.length ≤ 140737488355328) (h4 : szV e.val = true) (h5 : szT e.type = true) (h6 : ∀ k ∈ e.kids, szX k = true) : szX e = true := by
  have hl : ∀ l : List Ex, (∀ k ∈ l, szX k = true) → szXs l = true := by
    intro l
    induction l with
    | nil => intro _; rfl
    | cons a l ih => intro h; rw [szXs, h a (by simp), ih fun k hk => h k (by simp [hk])]; rfl
  cases e with
  | mk o s n b v k t l c =>
    rw [szX, hl k h6]
    have h1 : s.length ≤ 140737488355328 := h1
    have h2 : b.length ≤ 140737488355328 := h2
    have h3 : k.length ≤ 140737488355328 := h3
    have h4 : szV v = true := h4
    have h5 : szT t = true := h5
    rw [decide_eq_true h1, decide_eq_true h2, decide_eq_true h3, h4, h5]; rfl
theorem szX_form (e : Ex) : formP e = true → szE e = true → szX e = true := by
  induction e using Ex.ind with
  | h e ih =>
    intro hf hz
    obtain ⟨z1, z2, z3, z4, z5⟩ := szE_facts hz
    have hf1 := hf
    rw [formH, Bool.and_eq_true, Bool.not_eq_true'] at hf1
    have hb := hf1.1
    rw [headR, bareR] at hb
    rw [Bool.or_eq_false_iff, Bool.or_eq_false_iff, Bool.or_eq_false_iff, Bool.not_eq_false', Bool.and_eq_true] at hb
    obtain ⟨⟨⟨⟨hu, hn⟩, _⟩, _⟩, _⟩ := hb
    refine szX_of (by omega) (by omega) (by omega) ?_ ?_ (fun k hk => ih k hk (form_kid hf k hk) (z5 k hk))
    · simp only [noneV, Bool.and_eq_true, beq_iff_eq] at hn
      have h3 : e.val.bits = [] := List.length_eq_zero_iff.1 (by omega)
      have h4 : e.val.list = [] := List.length_eq_zero_iff.1 (by omega)
      cases hv : e.val with
      | mk k n b l =>
        rw [hv] at h3 h4
        have h3 : b = [] := h3
        have h4 : l = [] := h4
        rw [h3, h4]; rfl
    · simp only [untyped, Bool.and_eq_true, beq_iff_eq] at hu
      have h2 : e.type.name = [] := hu.1.1.2
      have h3 : e.type.names = [] := List.length_eq_zero_iff.1 (by omega)
      have h4 : e.type.elem = [] := List.length_eq_zero_iff.1 (by omega)
      cases hv : e.type with
      | mk k n s b l =>
        rw [hv] at h2 h3 h4
        have h2 : s = [] := h2
        have h3 : b = [] := h3
        have h4 : l = [] := h4
        rw [h2, h3, h4]; rfl
theorem poss_key (t : Tk) : possT t = possT ⟨(tkey t).1, (tkey t).2.1, (tkey t).2.2, 0, 0⟩ := rfl
theorem poss_of_key {s t : Tk} (h : tkey s = tkey t) (hp : possT t = true) : possT s = true := by rw [poss_key, h, ← poss_key]; exact hp
theorem wr_alike {a l : List Tk} (h : alikeL a l = true) (hp : ∀ t ∈ a, possT t = true) : Wr l := by
  intro i hi
  have hl := alike_length h
  rw [alikeL, beq_iff_eq] at h
  have e := congrArg (fun x => x[i]?) h
  simp only [List.getElem?_map, List.getElem?_eq_getElem hi, List.getElem?_eq_getElem (show i < a.length by omega), Option.map_some, Option.some.injEq] at e
  have hg : tokAt l i = l[i] := by rw [tokAt, List.getD_eq_getElem?_getD, List.getElem?_eq_getElem hi]; rfl
  rw [hg]
  exact poss_of_key e.symm (hp _ (List.getElem_mem _))
section
variable {l : List Tk}
theorem inner_in (hw : Wr l) (d : Nat) : In l d (innerD l d) := by
  intro i e j h
  cases d with
  | zero => exact absurd h row_none
  | succ d => exact ⟨Nat.succ_ne_zero d, gd_row hw (factor_gt d) (gd_factor hw d) 4 (Nat.le_refl 4) i e j h⟩
theorem gd_targ (hw : Wr l) {i j : Nat} {e : Ex} (h : targetP l i = .ok e j) : Gd l 40 5 e i j := by
  rw [targetP] at h
  split at h
  · rename_i h1; exact gd_parts hw (inner_in hw 40) _ _ _ _ _ (gd_name hw h1 (Nat.le_refl 5)) h
  · cases h
end
structure BK (e : Ex) (l : List Tk) : Prop where
  ok : OKTs l
  n : l.length ≤ 20000
  al : alikeL (toks e) l = true
  rd : ∃ a, sameE a e = true ∧ szX a = true ∧ readP ex0 l 0 (fun i => rowD l 40 4 i) = (a, (l.length : Int), okF)
  tg : isTargP e = true → ∃ a, sameE a e = true ∧ szX a = true ∧ readP ex0 l 0 (fun i => targetP l i) = (a, (l.length : Int), okF)
theorem valid_form {P : Program} {e : Ex} (wf : WF P e) (hv : validP e = true) : formP e = true := validQ_form (wf.v.trans hv)
theorem valid_dep {e : Ex} (hv : validP e = true) : dep e ≤ 40 := by
  rw [validP, Bool.and_eq_true, decide_eq_true_eq] at hv; omega
theorem text_valid {P : Program} {e : Ex} (wf : WF P e) (hv : validP e = true) : textE e = (joinT (toks e), 0) := by
  rw [← wf.tx, textQ, wf.v, hv]; rfl
theorem poss_valid {P : Program} {e : Ex} (wf : WF P e) (hv : validP e = true) : ∀ t ∈ toks e, possT t = true := fun t ht => (toks_ok e (valid_form wf hv) wf.z wf.m t ht).poss
theorem bk_of {P : Program} {e : Ex} (wf : WF P e) (hv : validP e = true) (hs : (joinT (toks e)).length ≤ 20000) : (lexP (joinT (toks e))).2 = okF ∧ BK e (lexP (joinT (toks e))).1 := by
  have hf := valid_form wf hv
  have hp := poss_valid wf hv
  obtain ⟨h1, h2⟩ := back_lex hp hs
  have hl := alike_length h2
  have htl := wf.tl
  have hw := wr_alike h2 hp
  have htx : textP (lexP (joinT (toks e))).1 = (joinT (toks e), 0) := by rw [alike_text h2]; exact textP_T hp (by omega)
  have hc : (((textP (lexP (joinT (toks e))).1).2 != 0 || decide (((0 : Nat) : Int) < 0)) || decide (((0 : Nat) : Int) > ((lexP (joinT (toks e))).1.length : Int))) = false := by
    rw [htx]; simp
  refine ⟨h1, alike_oks h2 wf.tk, by omega, h2, ?_, fun hT => ?_⟩
  · obtain ⟨a, ea, fa⟩ := back_read (l := (lexP (joinT (toks e))).1) hf wf.z (valid_dep hv) h2
    have g := gd_all hw fa
    exact ⟨a, ea, szX_form a g.f g.z, readP_ok hc fa⟩
  · obtain ⟨a, ea, fa⟩ := back_targ (l := (lexP (joinT (toks e))).1) hf wf.z hT (valid_dep hv) h2
    have g := gd_targ hw fa
    exact ⟨a, ea, szX_form a g.f g.z, readP_ok hc fa⟩
theorem wtot_len {l : List Tk} (h : ∀ t ∈ l, possT t = true) : wtot l ≤ 76 * l.length := by
  induction l with
  | nil => exact Nat.le_refl _
  | cons a l ih =>
    have h1 := poss_small (h a (by simp))
    have h2 := ih fun t ht => h t (by simp [ht])
    simp only [wtot, List.map_cons, List.sum_cons, List.length_cons] at h2 ⊢
    omega
theorem wtot_big {P : Program} {e : Ex} (wf : WF P e) (hv : validP e = true) : wtot (toks e) ≤ 1400000 := by
  have := wtot_len (poss_valid wf hv)
  have := wf.tl
  omega
theorem lex_fault {s : Bs} (h : ((lexP s).2.code != 0) = false) : s.length ≤ 20000 := by
  rcases Nat.lt_or_ge 20000 s.length with h1 | h1
  · rw [lexP, if_pos h1] at h; cases h
  · exact h1
theorem names_alike {a l : List Tk} (h : alikeL a l = true) : namesT l = namesT a := by
  rw [alikeL, beq_iff_eq] at h
  have key : ∀ (a l : List Tk) (out : List Bs), a.map tkey = l.map tkey → l.foldl addName out = a.foldl addName out := by
    intro a
    induction a with
    | nil => intro l out h; cases l with
      | nil => rfl
      | cons t l => simp at h
    | cons s a ih =>
      intro l out h
      cases l with
      | nil => simp at h
      | cons t l =>
        rw [List.map_cons, List.map_cons, List.cons.injEq] at h
        rw [List.foldl_cons, List.foldl_cons, ih l _ h.2]
        obtain ⟨h1, h2, _⟩ := tkey_parts h.1
        rw [addName, addName, h1, h2]
  exact key a l [] h
theorem fold_pre (l : List Tk) : ∀ out : List Bs, ∃ r, l.foldl addName out = out ++ r := by
  induction l with
  | nil => intro out; exact ⟨[], by simp⟩
  | cons t l ih =>
    intro out
    obtain ⟨r, hr⟩ := ih (addName out t)
    rw [List.foldl_cons, hr, addName]
    split
    · exact ⟨[t.text] ++ r, by simp⟩
    · exact ⟨r, rfl⟩
theorem names_pre (l : List Tk) (i : Nat) : ∃ r, namesT l = namesT (l.take i) ++ r := by
  obtain ⟨r, hr⟩ := fold_pre (l.drop i) (namesT (l.take i))
  refine ⟨r, ?_⟩
  rw [← hr]
  show l.foldl addName [] = _
  conv => lhs; rw [← List.take_append_drop i l]
  rw [List.foldl_append]; rfl
section
variable {l : List Tk} {i : Nat}
abbrev nxT (l : List Tk) (i : Nat) : Nat := (namesT (l.take i)).length
theorem nx_le : nxT l i ≤ (namesT l).length := by
  obtain ⟨r, hr⟩ := names_pre l i
  have := congrArg List.length hr
  rw [List.length_append] at this
  show (namesT (l.take i)).length ≤ _
  omega
theorem nx_skip (hi : i < l.length) (h : ((l.getD i default).op != 1) = true) : nxT l (i + 1) = nxT l i := by
  rw [nxT, names_skip hi (by rw [bne, Bool.not_eq_true'] at h; rw [h]; rfl)]
theorem nx_at (hi : i < l.length) (h : ((l.getD i default).op != 1) = false) :
    (∃ k, k < nxT l i ∧ nxT l (i + 1) = nxT l i ∧ (namesT l).getD k default = (l.getD i default).text) ∨ (nxT l (i + 1) = nxT l i + 1 ∧ nxT l i < (namesT l).length ∧ (namesT l).getD (nxT l i) default = (l.getD i default).text ∧ ∀ k, k < nxT l i → (namesT l).getD k default ≠ (l.getD i default).text) := by
  have h1 : ((l.getD i default).op == 1) = true := by rw [bne, Bool.not_eq_false'] at h; exact h
  have hin : ∀ k, k < nxT l i → (namesT l).getD k default ∈ namesT (l.take i) := by
    intro k hk
    obtain ⟨r, hr⟩ := names_pre l i
    rw [hr, List.getD_eq_getElem?_getD, List.getElem?_append_left hk, List.getElem?_eq_getElem hk]
    exact List.getElem_mem hk
  cases hc : (namesT (l.take i)).contains (l.getD i default).text with
  | true =>
    left
    obtain ⟨k, hk, e⟩ := List.getElem_of_mem (List.contains_iff_mem.1 hc)
    refine ⟨k, hk, by rw [nxT, names_skip hi (by rw [h1, hc]; rfl)], ?_⟩
    obtain ⟨r, hr⟩ := names_pre l i
    rw [hr, List.getD_eq_getElem?_getD, List.getElem?_append_left hk, List.getElem?_eq_getElem hk]; exact e
  | false =>
    right
    have h2 := names_add hi (by rw [h1, hc]; rfl)
    obtain ⟨r, hr⟩ := names_pre l (i + 1)
    rw [h2] at hr
    have h3 := congrArg List.length hr
    simp only [List.length_append, List.length_cons, List.length_nil] at h3
    refine ⟨by rw [nxT, h2, List.length_append]; rfl, by show (namesT (l.take i)).length < _; omega, ?_, fun k hk e => ?_⟩
    · rw [hr, List.getD_eq_getElem?_getD, List.append_assoc, List.getElem?_append_right (Nat.le_refl _)]
      simp
    · have := hin k hk
      rw [e] at this
      rw [List.contains_iff_mem.2 this] at hc
      cases hc
theorem nx_none {N : List Bs} {s : Bs} {k j : Nat} (h : ∀ k, k < j → (N.getD k default == s) = false) (hk : N.getD k default = s) : j ≤ k := by
  rcases Nat.lt_or_ge k j with h1 | h1
  · have := h k h1; rw [hk] at this; simp at this
  · exact h1
theorem nm_in (hi : i < l.length) (h : ((l.getD i default).op != 1) = false) : ∃ k, k < (namesT l).length ∧ (namesT l).getD k default = (l.getD i default).text ∧ k ≤ nxT l i := by
  have := nx_le (l := l) (i := i)
  rcases nx_at hi h with ⟨k, h1, _, h2⟩ | ⟨_, h1, h2, _⟩
  · exact ⟨k, by omega, h2, by omega⟩
  · exact ⟨_, h1, h2, Nat.le_refl _⟩
theorem nm_hit {j : Nat} (hi : i < l.length) (h : ((l.getD i default).op != 1) = false) (hn : ∀ k, k < j → ((namesT l).getD k default == (l.getD i default).text) = false) (hj : j = nxT l i) : nxT l (i + 1) = nxT l i + 1 := by
  rcases nx_at hi h with ⟨k, h1, _, h2⟩ | ⟨h1, _, _, _⟩
  · have := nx_none hn h2; omega
  · exact h1
theorem nm_miss {j : Nat} (hi : i < l.length) (h : ((l.getD i default).op != 1) = false) (hj : (namesT l).getD j default = (l.getD i default).text) (hj2 : j < nxT l i) : nxT l (i + 1) = nxT l i := by
  rcases nx_at hi h with ⟨k, _, h1, _⟩ | ⟨_, _, _, h3⟩
  · exact h1
  · exact absurd hj (h3 j hj2)
theorem names_len (hl : l.length ≤ 20000) : (namesT l).length ≤ 20000 := Nat.le_trans (namesT_len l) hl
end
end Go.Proofs.YtcgdlhkiecommaaGreatDoor
/- One byte is sought in a string of any length. -/


namespace Go.Proofs.YtcgdlhkiecommaaGreatDoor
open Go Go.RowKit
theorem q_lindexByte (s : Bs) (c : UInt8) : ACp Tryz.prog 201 [.v (.string (str s)), .v (.int .u8 (c.toNat : Int))] (.v (.int .i64 (Lib.indexByte s c))) :=
  acp_below (vs := [.string (str s), .int .u8 (c.toNat : Int)]) rfl fun ok w hg => (shelf_stringslite_IndexByte (str s) c.toNat w).mono fun e w' ⟨h1, h2⟩ => by
    subst h2
    refine ⟨?_, Below.refl _ _⟩
    rw [h1]
    have e1 : ((c.toNat : Int)).toNat.toUInt8 = c := by simp
    rw [e1]; rfl
theorem index_self {s : Bs} {c : UInt8} (h : ((([c] : Bs).length : Int) == 0 || ([c] == s)) = true) : (0 : Int) = Lib.indexByte s c := by
  have h1 : [c] = s := by simpa using h
  rw [← h1, indexByte_eq]; simp
theorem contains_index (s : Bs) (c : UInt8) : decide (Lib.indexByte s c ≥ 0) = Lib.contains s [c] := by
  rw [contains_one, indexByte_eq]
  cases s.contains c <;> simp
end Go.Proofs.YtcgdlhkiecommaaGreatDoor
/- Sameness, as the reference asks it. -/

namespace Go.Proofs.YtcgdlhkiecommaaGreatDoor
open Go
end Go.Proofs.YtcgdlhkiecommaaGreatDoor
