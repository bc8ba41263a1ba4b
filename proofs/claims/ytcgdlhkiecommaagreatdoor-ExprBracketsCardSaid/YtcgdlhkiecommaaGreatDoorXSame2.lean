import Derived.Test.YtcgdlhkiecommaaGreatDoorXLaws2
import Derived.Test.YtcgdlhkiecommaaGreatDoorXRef3
import Derived.Test.YtcgdlhkiecommaaGreatDoorShelfB
import Derived.RangeFuncNested
import Derived.RangeFuncBound
import Derived.RangeFuncCalls
import Derived.RangeFuncLeaves
import Derived.RangeFuncBox
import Derived.Shelf.Abstract
import Derived.Shelf.RegionOpen
import Derived.WalkKit
import Derived.OwnWalkIn
import Derived.TacticsInMore
import Derived.LoopNIn
import Derived.LoopIn
import Derived.Test.YtcgdlhkiecommaaGreatDoorXWr
import Derived.Test.YtcgdlhkiecommaaGreatDoorLRef

/- logic.Text: bits as a string. -/















set_option linter.unusedVariables false
set_option linter.all false
namespace Go.Proofs.YtcgdlhkiecommaaGreatDoor
open Go Go.RowKit Go.Shelf
attribute [local go_sem] Oper.semAt_some
def uptoB {α : Type} (f : Nat → α) (k : Nat) : List α := (List.range k).map f
theorem uptoB_succ {α : Type} (f : Nat → α) (k : Nat) : uptoB f (k + 1) = uptoB f k ++ [f k] := by simp [uptoB, List.range_succ]
theorem uptoB_length {α : Type} (f : Nat → α) (k : Nat) : (uptoB f k).length = k := by simp [uptoB]
abbrev Bit3 := { x : Int // 0 ≤ x ∧ x ≤ 3 }
def KpB (n₀ Bs : Nat) (A B : World) : Prop := Below n₀ A B ∧ B.heap[Bs]? = A.heap[Bs]?
theorem KpB.cell {n₀ Bs : Nat} {A B : World} (h : KpB n₀ Bs A B) {v : Value} (hc : A.cell? ⟨Bs, 0, none⟩ = some v) : B.cell? ⟨Bs, 0, none⟩ = some v := (World.cell?_of_block (w := A) (w' := B) (a := ⟨Bs, 0, none⟩) h.2).trans hc
def encBP (x : Nat × Bit3) : Array Value := #[.int .i64 (x.1 : Int), .int .u8 x.2.1]
def elB (zs : List Bit3) (k : Nat) : Nat × Bit3 := (zs.length - 1 - k, zs.getD (zs.length - 1 - k) ⟨0, by decide, by decide⟩)
set_option maxRecDepth 100000 in
set_option maxHeartbeats 2000000 in
theorem back1_in (F : Fence) (n : Nat) (h8 : F.fn 198) (hro : F.round = none) (hn : 1 ≤ n) (l Bs n₀ b off cap : Nat) (zs : List Bit3) (hreach : zs.length ≤ 64) (hb : b < n₀) (J Jx : List (Nat × Bit3) → World → Prop)
    (hY : ∀ pre x W, J pre W → pre.length < zs.length → YieldAt F (n - 1) Tryz.prog l #[.int .i64 (x.1 : Int), .int .u8 x.2.1] W fun e W' =>
      (e = .returned (.bool true) ∧ J (pre ++ [x]) W' ∧ KpB n₀ Bs W W') ∨ (e = .returned (.bool false) ∧ Jx (pre ++ [x]) W'))
    (W : World) (hBs : W.cell? ⟨Bs, 0, none⟩ = some (.slice (some ⟨b, off, none⟩) zs.length cap)) (hc : ∀ j, j < zs.length → W.cell? ⟨b, off + j, none⟩ = some (.int .u8 (zs.getD j ⟨0, by decide, by decide⟩).1)) (h0 : J [] W) :
    CallsIn F n Tryz.prog 198 #[.func (.yield l) #[] #[], .pointer (some ⟨Bs, 0, none⟩)] W fun e W' => (∃ v, e = .returned v) ∧
      ((∃ ys, ys = uptoB (elB zs) zs.length ∧ J ys W') ∨ (∃ pre, (∃ k, k ≤ zs.length ∧ pre = uptoB (elB zs) k) ∧ Jx pre W')) := by
  refine callsIn_of_wp Tryz.func198 rfl h8 ?_ hro
  simp only [Tryz.ntmps198, List.size_toArray, List.length_cons, List.length_nil, Nat.reduceAdd, Nat.reduceSub, Array.replicate_succ, Array.replicate_zero, List.push_toArray, List.append_toArray, List.nil_append, List.cons_append]
  gi_wp2
  gi_loopw [3] (fun i wr => ∃ k : Nat, k ≤ zs.length ∧ i = .int .i64 ((zs.length : Int) - 1 - k) ∧ J (uptoB (elB zs) k) wr ∧ KpB n₀ Bs W wr)
    (fun i _ => (intOf i + 1).toNat)
  case atStart => exact ⟨0, Nat.zero_le _, by simp, h0, Below.refl _ _, rfl⟩
  case round =>
    obtain ⟨k, hk, rfl, hJs, hnx⟩ := hrel
    by_cases hlt : k < zs.length
    · obtain ⟨q, hq⟩ : ∃ q : Nat, q = zs.length - 1 - k := ⟨_, rfl⟩
      have hql : q < zs.length := by omega
      have hqi : (zs.length : Int) - 1 - k = (q : Int) := by omega
      rw [hqi]
      have hcs : wr.cell? ⟨Bs, 0, none⟩ = some (.slice (some ⟨b, off, none⟩) zs.length cap) := hnx.cell hBs
      have hcx : wr.cell? ⟨b, off + q, none⟩ = some (.int .u8 (zs.getD q ⟨0, by decide, by decide⟩).1) := (hnx.1.cell (p := ⟨b, off + q, none⟩) hb).trans (hc q hql)
      have hel : elB zs k = (q, zs.getD q ⟨0, by decide, by decide⟩) := by rw [elB, ← hq]
      clear hq
      obtain ⟨fn, tmps, assign, body, hy, hR⟩ := hY _ (q, zs.getD q ⟨0, by decide, by decide⟩) wr hJs (by rw [uptoB_length]; exact hlt)
      dsimp only at hy
      generalize hxv : (zs.getD q ⟨0, by decide, by decide⟩).1 = xv at hy hR hcx
      gi_wp2
      refine hR.mono ?_
      rintro e W3 (⟨rfl, hJ3, hk3⟩ | ⟨rfl, hJx3⟩)
      · gi_wp2
        go_roundw
        case rel => exact ⟨k + 1, by omega, by first | (simp; done) | (simp; omega), by rw [uptoB_succ, hel]; exact hJ3, ⟨hnx.1.trans hk3.1, hk3.2.trans hnx.2⟩⟩
        case measure => first | (simp [intOf]; done) | (simp [intOf]; omega)
      · gi_wp2
        refine bodyPost_ret (results_none rfl _ _ _) rfl ?_
        exact ⟨⟨_, rfl⟩, .inr ⟨_, ⟨k + 1, by omega, by rw [uptoB_succ, hel]⟩, hJx3⟩⟩
    · obtain rfl : k = zs.length := by omega
      have hqi : (zs.length : Int) - 1 - (zs.length : Nat) = -1 := by omega
      rw [hqi]
      gi_wp2
      go_end0
      exact ⟨⟨_, rfl⟩, .inl ⟨_, rfl, hJs⟩⟩
set_option maxHeartbeats 1000000 in
theorem back_in (F : Fence) (n : Nat) (h6 : F.fn 178) (hro : F.round = none) (a : Option Addr) (len cap : Nat) (w : World) :
    CallsIn F n Tryz.prog 178 #[.slice a len cap] w fun e w' => e = .returned (.func (.func 198) #[] #[.pointer (some ⟨w.heap.size, 0, none⟩)]) ∧ w' = w.alloc (.cells #[.slice a len cap] 26) := by
  refine callsIn_of_wp Tryz.func178 rfl h6 ?_ hro
  simp only [Tryz.ntmps178, List.size_toArray, List.length_cons, List.length_nil, Nat.reduceAdd, Nat.reduceSub, Array.replicate_succ, Array.replicate_zero, List.push_toArray, List.append_toArray, List.nil_append, List.cons_append]
  gi_wp2
  go_ret
  exact ⟨rfl, rfl⟩
theorem back_stops (F : Fence) (n : Nat) (h8 : F.fn 198) (hro : F.round = none) (hn : 1 ≤ n) (Bs n₀ b off cap : Nat) (zs : List Bit3) (hreach : zs.length ≤ 64) (w : World) (hBs : Bs < w.heap.size) (hn₀ : n₀ ≤ w.heap.size) (hb : b < n₀)
    (hc0 : w.cell? ⟨Bs, 0, none⟩ = some (.slice (some ⟨b, off, none⟩) zs.length cap)) (hc : ∀ j, j < zs.length → w.cell? ⟨b, off + j, none⟩ = some (.int .u8 (zs.getD j ⟨0, by decide, by decide⟩).1)) :
    SeqStopsK F n Tryz.prog 198 #[.pointer (some ⟨Bs, 0, none⟩)] encBP (KpB n₀ Bs) (fun ys => ys = uptoB (elB zs) zs.length)
      (fun pre => ∃ k, k ≤ zs.length ∧ pre = uptoB (elB zs) k) zs.length w := fun l J Jx W hW _ _ hY h0 =>
  back1_in F n h8 hro hn l Bs n₀ b off cap zs hreach hb J Jx hY W ((hW.cell (p := ⟨Bs, 0, none⟩) hBs).trans hc0) (fun j hj => (hW.cell (p := ⟨b, off + j, none⟩) (by show b < w.heap.size; omega)).trans (hc j hj)) h0
theorem bld_kept {T e B b : Nat} {bs : List Value} {W W' : World} {row : Option Nat} (h : Lib.IsBuilderF T e B b bs W) (hg : W.grownBy W' row) (hr : ∀ r, row = some r → ∃ o : Obj, W.heap[r]? = some o ∧ o.isCells = false) : Lib.IsBuilderF T e B b bs W' := by
  have key : ∀ p, Lib.BuilderAtF T e B b p bs W → Lib.BuilderAtF T e B b p bs W' := by
    rintro p ⟨hB, v, hb, hown, hne⟩
    refine ⟨hB, v, (grownBy_keeps_cells hg hr hb rfl).trans hb, hown.kept hg ?_, hne⟩
    cases hv : v.ownBlock with
    | none => exact .inl rfl
    | some k =>
      refine .inr fun e1 => ?_
      obtain ⟨o, h1, h2⟩ := hr k e1.symm
      obtain ⟨c, fz, h3⟩ := Lib.ownsRowF_kind hown k hv
      rw [h3] at h1; cases h1; cases h2
  exact h.elim (fun h => .inl (key _ h)) (fun h => .inr (key _ h))
theorem others_keeps {e : Nat} {b : Option Nat} {w w' : World} (h : Lib.OthersKept e b w w') (hs : w.heap.size ≤ w'.heap.size) (hb : ∀ k o, some k = b → w.heap[k]? = some o → o.isCells = true) : KeepsOthers w w' := by
  refine ⟨hs, fun k o hk ho => h k o hk (fun e1 => ?_) (fun c fz e1 => ?_)⟩
  · rw [hb k o e1 hk] at ho; cases ho
  · subst e1; cases ho
theorem bld_heap {T e B b : Nat} {bs : List Value} {W : World} (h : Lib.IsBuilderF T e B b bs W) : ∀ k o, some k = some b → W.heap[k]? = some o → o.isCells = true := by
  intro k o e1 hk
  cases e1
  rcases h with ⟨_, v, hb, _⟩ | ⟨_, v, hb, _⟩ <;> (rw [hb] at hk; cases hk; rfl)
def letB (x : Nat × Bit3) : UInt8 := bitC x.2.1
theorem bytes_snoc (pre : List (Nat × Bit3)) (x : Nat × Bit3) : Lib.byteCells ((pre ++ [x]).map letB) = Lib.byteCells (pre.map letB) ++ [.int .u8 ((letB x).toNat : Int)] := by simp [Lib.byteCells]
theorem upto_text (zs : List Bit3) : (uptoB (elB zs) zs.length).map letB = bitsT (zs.map (·.1)) := by
  apply List.ext_getElem
  · simp [uptoB, bitsT]
  · intro i h1 h2
    have hi : i < zs.length := by simpa [uptoB] using h1
    simp only [uptoB, bitsT, List.getElem_map, List.getElem_range, List.getElem_reverse, List.length_map]
    rw [letB, elB]
    simp only
    rw [List.getD_eq_getElem?_getD, List.getElem?_eq_getElem (by omega)]
    rfl
set_option maxRecDepth 100000 in
set_option maxHeartbeats 4000000 in
theorem text_calls (b off cap : Nat) (zs : List Bit3) (hreach : zs.length ≤ 64) (w : World) (hb : b < w.heap.size) (hc : ∀ j, j < zs.length → w.cell? ⟨b, off + j, none⟩ = some (.int .u8 (zs.getD j ⟨0, by decide, by decide⟩).1))
    (his : Calls Tryz.prog 164 #[.slice (some ⟨b, off, none⟩) zs.length cap] w fun e w' => e = .returned (.bool true) ∧ Below w.heap.size w w') :
    Calls Tryz.prog 143 #[.slice (some ⟨b, off, none⟩) zs.length cap] w fun e W' => e = .returned (.tuple #[.string (str (bitsT (zs.map (·.1)))), .int .i64 0]) ∧ Below w.heap.size w W' := by
  refine (callsIn_wide (n := 6)).1 ?_
  have hro : Fence.wide.round = none := rfl
  have h1 : 1 ≤ 6 := by decide
  refine callsIn_of_wp_marks Tryz.func143 rfl trivial ?_ hro
  simp only [Tryz.ntmps143, List.size_toArray, List.length_cons, List.length_nil, Nat.reduceAdd, Nat.reduceSub, Array.replicate_succ, Array.replicate_zero, List.push_toArray, List.append_toArray, List.nil_append, List.cons_append]
  gi_wp2_with (refine ⟨trivial, ?_⟩; gi_at_call 164; refine (callsIn_wide.2 his).mono ?_; rintro e w1 ⟨rfl, hB1⟩)
  gi_wp2_with (refine ⟨trivial, ?_⟩; gi_at_call 178; refine (back_in Fence.wide (6 - 1) trivial hro _ _ _ _).mono ?_; rintro e w' ⟨rfl, rfl⟩)
  have hB1s := hB1.size
  have hbox : ((w1.alloc (.cells #[.pointer none, .slice none 0 0] 163)).alloc (.cells #[.slice (some ⟨b, off, none⟩) zs.length cap] 26)).heap[w1.heap.size + 1]? = some (.cells #[.slice (some ⟨b, off, none⟩) zs.length cap] 26) := by
    have := World.alloc_heap_new (w1.alloc (.cells #[.pointer none, .slice none 0 0] 163)) (.cells #[.slice (some ⟨b, off, none⟩) zs.length cap] 26)
    rwa [World.size_alloc] at this
  have hBld0 : Lib.IsBuilderF 163 5 w1.heap.size w1.heap.size [] (w1.alloc (.cells #[.pointer none, .slice none 0 0] 163)) := .inl ⟨Nat.le_refl _, .slice none 0 0, World.alloc_heap_new _ _, World.ownsRowF_nil _ _ _ _, by simp [Value.ownBlock]⟩
  have hB2 : Below w1.heap.size w1 ((w1.alloc (.cells #[.pointer none, .slice none 0 0] 163)).alloc (.cells #[.slice (some ⟨b, off, none⟩) zs.length cap] 26)) := ((Below.refl _ w1).alloc (Nat.le_refl _) _).alloc (by simp) _
  refine wpIn_rangeFunc_ownF hro h1 (gf := 198) (lb := #[.pointer (some ⟨w1.heap.size + 1, 0, none⟩)]) rfl trivial (enters_of Tryz.func198 (by kernel_rfl) rfl)
    (back_stops Fence.wide (6 - 1) trivial hro (by omega) (w1.heap.size + 1) w1.heap.size b off cap zs hreach _ (by simp) (by simp; omega) (by omega) (by simp only [World.cell?, hbox]; rfl) (fun j hj => (hB2.cell (p := ⟨b, off + j, none⟩) (by show b < w1.heap.size; omega)).trans ((hB1.cell (p := ⟨b, off + j, none⟩) hb).trans (hc j hj))))
    (fun h k => ⟨h.1.trans k.1, k.2.trans h.2⟩)
    (fun W l o o' h1 h2 h3 h4 => ⟨belowK_b (by simp; omega) W l o o' h1 h2 h3 h4, World.putObj_heap_other (by simp at h1; omega)⟩)
    (Below.refl _ _) (fun _ => rfl)
    (fun pre W => (Lib.IsBuilderF 163 5 w1.heap.size w1.heap.size (Lib.byteCells (pre.map letB)) W ∧ W.heap[w1.heap.size + 1]? = some (.cells #[.slice (some ⟨b, off, none⟩) zs.length cap] 26)) ∧ Below w1.heap.size w1 W)
    (fun _ _ _ => False)
    (OwnFrom.and (Own.from (fun s A B row hs hg hr => ⟨bld_kept hs.1 hg hr, (grownBy_keeps_cells hg hr hs.2 rfl).trans hs.2⟩) _) (ownFrom_below (Nat.le_refl _) (by simp; omega)))
    (fun _ _ _ _ _ hs _ _ => hs)
    ⟨⟨hBld0.alloc _, hbox⟩, hB2⟩
    (fun x => { tmps := #[.slice (some ⟨b, off, none⟩) zs.length cap, undef, .string ⟨#[]⟩, .int .i64 0, .pointer (some ⟨w1.heap.size, 0, none⟩), undef, .int .u8 x.2.1, .slice (some ⟨b, off, none⟩) zs.length cap, .bool true, .bool false, .slice (some ⟨b, off, none⟩) zs.length cap, .func (.func 198) #[] #[.pointer (some ⟨w1.heap.size + 1, 0, none⟩)], .int .i64 (x.1 : Int), .int .u8 x.2.1, undef, undef, undef, undef], defers := [] }) ?assign ?body ?done ?stop
  case assign =>
    intro l x W K hK
    simp only [encBP]
    gi_wp2
    exact hK
  case body =>
    rintro l pre ⟨xi, xv, hv0, hv3⟩ W ⟨⟨hbl, hbx⟩, hB⟩ hlen
    have hsz := hB.size
    have hpl : (Lib.byteCells (pre.map letB)).length + 1 ≤ 140737488355328 := by simp [Lib.byteCells]; omega
    have fin : ∀ (c : Int) (W3 : World), bitC xv = UInt8.ofNat c.toNat → ((bitC xv).toNat : Int) = c → Lib.BuilderAtF 163 5 w1.heap.size w1.heap.size (.pointer (some ⟨w1.heap.size, 0, none⟩)) (Lib.byteCells (pre.map letB) ++ [.int .u8 c]) W3 → Below w1.heap.size W W3 → Lib.OthersKept 5 (some w1.heap.size) W W3 →
        KeepsOthers W W3 ∧ KpB w1.heap.size (w1.heap.size + 1) W W3 ∧ ((Lib.IsBuilderF 163 5 w1.heap.size w1.heap.size (Lib.byteCells (List.map letB (pre ++ [(xi, (⟨xv, hv0, hv3⟩ : Bit3))]))) W3 ∧ W3.heap[w1.heap.size + 1]? = some (.cells #[.slice (some ⟨b, off, none⟩) zs.length cap] 26)) ∧ Below w1.heap.size w1 W3) := by
      intro c W3 _ hc2 k1 k2 k3
      have hb3 : W3.heap[w1.heap.size + 1]? = some (.cells #[.slice (some ⟨b, off, none⟩) zs.length cap] 26) := k3 _ _ hbx (by intro e; have := Option.some.inj e; omega) (by intro c fz e; cases e)
      refine ⟨others_keeps k3 k2.size (bld_heap hbl), ⟨k2, hb3.trans hbx.symm⟩, ⟨?_, hb3⟩, hB.trans k2⟩
      rw [bytes_snoc]
      refine .inr ?_
      rw [show ((letB (xi, ⟨xv, hv0, hv3⟩)).toNat : Int) = c from hc2]
      exact k1
    have hx : xv = 0 ∨ xv = 1 ∨ xv = 2 ∨ xv = 3 := by omega
    rcases hx with rfl | rfl | rfl | rfl
    · gi_wp2_with (refine ⟨trivial, ?_⟩; gi_at_call 179; refine (CallsIn.inRound l (callsIn_wide.2 (bld_writeByte _ _ _ _ _ hbl hpl hsz))).mono ?_; rintro e W3 ⟨rfl, k1, k2, k3⟩)
      exact fin _ W3 rfl rfl k1 k2 k3
    · gi_wp2_with (refine ⟨trivial, ?_⟩; gi_at_call 179; refine (CallsIn.inRound l (callsIn_wide.2 (bld_writeByte _ _ _ _ _ hbl hpl hsz))).mono ?_; rintro e W3 ⟨rfl, k1, k2, k3⟩)
      exact fin _ W3 rfl rfl k1 k2 k3
    · gi_wp2_with (refine ⟨trivial, ?_⟩; gi_at_call 179; refine (CallsIn.inRound l (callsIn_wide.2 (bld_writeByte _ _ _ _ _ hbl hpl hsz))).mono ?_; rintro e W3 ⟨rfl, k1, k2, k3⟩)
      exact fin _ W3 rfl rfl k1 k2 k3
    · gi_wp2_with (refine ⟨trivial, ?_⟩; gi_at_call 179; refine (CallsIn.inRound l (callsIn_wide.2 (bld_writeByte _ _ _ _ _ hbl hpl hsz))).mono ?_; rintro e W3 ⟨rfl, k1, k2, k3⟩)
      exact fin _ W3 rfl rfl k1 k2 k3
  case done =>
    rintro D ys W hD rfl ⟨⟨hbl, hbx⟩, hB⟩ hK
    have hsz := hB.size
    gi_wp2_with (refine ⟨trivial, ?_⟩; gi_at_call 158; refine (callsIn_wide.2 (shelf_Builder_String_any_k _ _ _ _ hbl hsz)).mono ?_; rintro e W5 ⟨rfl, hbl5, hB5, hk5⟩)
    have hK5 := hk5 D _ hK (by intro e; have := Option.some.inj e; simp at hD; omega) (by intro c fz e; cases e)
    refine ⟨by simp, .inl ⟨_, _, rfl, run_takeDeferred hK5, ?_⟩⟩
    refine ⟨.tuple #[.string (str (bitsT (zs.map (·.1)))), .int .i64 0], ?_, rfl, hB1.trans (((hB.trans hB5).trans (belowK_b (w := w1) (Nat.le_refl _) _ D _ _ (by simp at hD; omega) hK5 rfl rfl)).mono hB1s)⟩
    rw [upto_text]
    simp [results, Tryz.f143, go_sem]
    rfl
  case stop =>
    rintro D c pre W _ _ h _
    exact h.elim
theorem bits_form {ok : Nat → Prop} {w : World} {l : List Int} {v : Value} (h : RepC ok w (.list 1 (l.map encB)) v) : ∃ a c, v = .slice a l.length c ∧ l.length ≤ c ∧ (l = [] ∨ ∃ b o, a = some ⟨b, o, none⟩ ∧ ok b ∧ ∀ j x, l[j]? = some x → w.cell? ⟨b, o + j, none⟩ = some (.int .u8 x)) := by
  obtain ⟨a, c, rfl, h1, h2⟩ := h.list_form
  refine ⟨a, c, by simp, by simpa using h1, ?_⟩
  rcases h2 with e | ⟨b, o, vs, rfl, hb, _, h3, h4, _⟩
  · exact .inl (by simpa using e)
  · refine .inr ⟨b, o, rfl, hb, fun j x hx => ?_⟩
    have hx2 : (l.map encB)[j]? = some (encB x) := by rw [List.getElem?_map, hx]; rfl
    have := h3 j _ 0 (.v (.int .u8 x)) hx2 rfl
    have h5 := h4 j _ 0 (.v (.int .u8 x)) hx2 rfl
    rw [repc_v h5] at this
    simpa using this
theorem bits3 (l : List Int) (h : ∀ x ∈ l, 0 ≤ x ∧ x ≤ 3) : ∃ zs : List Bit3, zs.map (·.1) = l := by
  induction l with
  | nil => exact ⟨[], rfl⟩
  | cons a l ih =>
    obtain ⟨zs, e⟩ := ih (fun x hx => h x (by simp [hx]))
    exact ⟨⟨a, h a (by simp)⟩ :: zs, by rw [List.map_cons, e]⟩
theorem bt_all (his : ∀ l : List Int, l.length ≤ 1000000000 → ACp Tryz.prog 164 [.list 1 (l.map encB)] (.v (.bool (isBits l)))) : BT Tryz.prog := by
  intro l hl h0
  have hl2 := hl
  simp only [isBits, Bool.and_eq_true, decide_eq_true_eq, Bool.not_eq_true', List.any_eq_false, decide_eq_false_iff_not] at hl2
  obtain ⟨⟨g1, g2⟩, g3⟩ := hl2
  obtain ⟨zs, e⟩ := bits3 l (fun x hx => ⟨h0 x hx, by have := g3 x hx; simpa using this⟩)
  subst e
  rw [List.length_map] at g1 g2
  refine acp_new fun ok L w vs hvs hok hg => ?_
  match vs, hvs with
  | [v1], ⟨a1, _⟩ =>
    have a1' : RepC ok w (.list 1 ((zs.map (·.1)).map encB)) v1 := a1
    have hd := ac_door (w := w) (a := .bool true) (vs := [v1]) (hg.mono hok (fun _ _ => rfl)) (his (zs.map (·.1)) (by rw [List.length_map]; omega) []) (fun L2 => ⟨show Rep (fun b => b < w.heap.size) L2 w (.list 1 ((zs.map (·.1)).map encB)) v1 from a1'.okmono hok, trivial⟩) (by rintro r σ' ⟨rfl, _⟩; rw [hl])
    obtain ⟨a, c, rfl, hc, h⟩ := bits_form a1'
    rcases h with h | ⟨b, o, rfl, hb, hcell⟩
    · have : zs.length = 0 := by simpa using congrArg List.length h
      omega
    · rw [List.length_map] at hd ⊢
      refine (text_calls b o c zs (by omega) w (hok b hb) (fun j hj => ?_) hd).mono ?_
      · refine hcell j _ ?_
        rw [List.getElem?_map, List.getElem?_eq_getElem hj, List.getD_eq_getElem?_getD, List.getElem?_eq_getElem hj]; rfl
      · rintro e w' ⟨rfl, h2⟩
        refine ⟨_, rfl, h2, fun _ => False, fun _ h => h.elim, ?_⟩
        exact ⟨[_, _], rfl, RepC.v _, RepC.v _, trivial⟩
end Go.Proofs.YtcgdlhkiecommaaGreatDoor
/- One byte is sought in a string of any length. -/


namespace Go.Proofs.YtcgdlhkiecommaaGreatDoor
open Go Go.RowKit
theorem q_lindexByte (s : Bs) (c : UInt8) : ACp Tryz.prog 201 [.v (.string (str s)), .v (.int .u8 (c.toNat : Int))] (.v (.int .i64 (Lib.indexByte s c))) :=
  acp_below (vs := [.string (str s), .int .u8 (c.toNat : Int)]) rfl fun ok w hg => (shelf_stringslite_IndexByte (str s) c.toNat w).mono fun e w' ⟨h1, h2⟩ => by
    subst h2
    refine ⟨?_, Below.refl _ _⟩
    rw [h1]
    have e1 : ((c.toNat : Int)).toNat.toUInt8 = c := by simp
    rw [e1]; rfl
theorem index_self {s : Bs} {c : UInt8} (h : ((([c] : Bs).length : Int) == 0 || ([c] == s)) = true) : (0 : Int) = Lib.indexByte s c := by
  have h1 : [c] = s := by simpa using h
  rw [← h1, indexByte_eq]; simp
theorem contains_index (s : Bs) (c : UInt8) : decide (Lib.indexByte s c ≥ 0) = Lib.contains s [c] := by
  rw [contains_one, indexByte_eq]
  cases s.contains c <;> simp
end Go.Proofs.YtcgdlhkiecommaaGreatDoor
/- Sameness, as the reference asks it. -/

namespace Go.Proofs.YtcgdlhkiecommaaGreatDoor
open Go
end Go.Proofs.YtcgdlhkiecommaaGreatDoor
