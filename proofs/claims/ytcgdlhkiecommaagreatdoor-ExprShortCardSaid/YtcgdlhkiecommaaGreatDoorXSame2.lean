import Derived.Test.YtcgdlhkiecommaaGreatDoorXBld
import Derived.Test.YtcgdlhkiecommaaGreatDoorXRef3
import Derived.Test.YtcgdlhkiecommaaGreatDoorShelfB
import Derived.RangeFuncNested
import Derived.RangeFuncBound
import Derived.RangeFuncCalls
import Derived.RangeFuncLeaves
import Derived.RangeFuncBox
import Derived.Shelf.Abstract
import Derived.Shelf.RegionOpen
import Derived.WalkKit
import Derived.OwnWalkIn
import Derived.TacticsInMore
import Derived.LoopNIn
import Derived.LoopIn
import Derived.Test.YtcgdlhkiecommaaGreatDoorXWr





import Derived.Test.YtcgdlhkiecommaaGreatDoorLRef

/- logic.Text: bits as a string. -/















set_option linter.unusedVariables false
set_option linter.all false
namespace Go.Proofs.YtcgdlhkiecommaaGreatDoor
open Go Go.RowKit Go.Shelf
attribute [local go_sem] Oper.semAt_some
def uptoB {α : Type} (f : Nat → α) (k : Nat) : List α := (List.range k).map f
theorem uptoB_succ {α : Type} (f : Nat → α) (k : Nat) : uptoB f (k + 1) = uptoB f k ++ [f k] := by simp [uptoB, List.range_succ]
theorem uptoB_length {α : Type} (f : Nat → α) (k : Nat) : (uptoB f k).length = k := by simp [uptoB]
abbrev Bit3 := { x : Int // 0 ≤ x ∧ x ≤ 3 }
def KpB (n₀ Bs : Nat) (A B : World) : Prop := Below n₀ A B ∧ B.heap[Bs]? = A.heap[Bs]?
theorem KpB.cell {n₀ Bs : Nat} {A B : World} (h : KpB n₀ Bs A B) {v : Value} (hc : A.cell? ⟨Bs, 0, none⟩ = some v) : B.cell? ⟨Bs, 0, none⟩ = some v := (World.cell?_of_block (w := A) (w' := B) (a := ⟨Bs, 0, none⟩) h.2).trans hc
def encBP (x : Nat × Bit3) : Array Value := #[.int .i64 (x.1 : Int), .int .u8 x.2.1]
def elB (zs : List Bit3) (k : Nat) : Nat × Bit3 := (zs.length - 1 - k, zs.getD (zs.length - 1 - k) ⟨0, by decide, by decide⟩)
set_option maxRecDepth 100000 in
set_option maxHeartbeats 2000000 in
theorem back1_in (F : Fence) (n : Nat) (h8 : F.fn 198) (hro : F.round = none) (hn : 1 ≤ n) (l Bs n₀ b off cap : Nat) (zs : List Bit3) (hreach : zs.length ≤ 64) (hb : b < n₀) (J Jx : List (Nat × Bit3) → World → Prop)
    (hY : ∀ pre x W, J pre W → pre.length < zs.length → YieldAt F (n - 1) Tryz.prog l #[.int .i64 (x.1 : Int), .int .u8 x.2.1] W fun e W' =>
      (e = .returned (.bool true) ∧ J (pre ++ [x]) W' ∧ KpB n₀ Bs W W') ∨ (e = .returned (.bool false) ∧ Jx (pre ++ [x]) W'))
    (W : World) (hBs : W.cell? ⟨Bs, 0, none⟩ = some (.slice (some ⟨b, off, none⟩) zs.length cap)) (hc : ∀ j, j < zs.length → W.cell? ⟨b, off + j, none⟩ = some (.int .u8 (zs.getD j ⟨0, by decide, by decide⟩).1)) (h0 : J [] W) :
    CallsIn F n Tryz.prog 198 #[.func (.yield l) #[] #[], .pointer (some ⟨Bs, 0, none⟩)] W fun e W' => (∃ v, e = .returned v) ∧
      ((∃ ys, ys = uptoB (elB zs) zs.length ∧ J ys W') ∨ (∃ pre, (∃ k, k ≤ zs.length ∧ pre = uptoB (elB zs) k) ∧ Jx pre W')) := by
  refine callsIn_of_wp Tryz.func198 rfl h8 ?_ hro
  simp only [Tryz.ntmps198, List.size_toArray, List.length_cons, List.length_nil, Nat.reduceAdd, Nat.reduceSub, Array.replicate_succ, Array.replicate_zero, List.push_toArray, List.append_toArray, List.nil_append, List.cons_append]
  gi_wp2
  gi_loopw [3] (fun i wr => ∃ k : Nat, k ≤ zs.length ∧ i = .int .i64 ((zs.length : Int) - 1 - k) ∧ J (uptoB (elB zs) k) wr ∧ KpB n₀ Bs W wr)
    (fun i _ => (intOf i + 1).toNat)
  case atStart => exact ⟨0, Nat.zero_le _, by simp, h0, Below.refl _ _, rfl⟩
  case round =>
    obtain ⟨k, hk, rfl, hJs, hnx⟩ := hrel
    by_cases hlt : k < zs.length
    · obtain ⟨q, hq⟩ : ∃ q : Nat, q = zs.length - 1 - k := ⟨_, rfl⟩
      have hql : q < zs.length := by omega
      have hqi : (zs.length : Int) - 1 - k = (q : Int) := by omega
      rw [hqi]
      have hcs : wr.cell? ⟨Bs, 0, none⟩ = some (.slice (some ⟨b, off, none⟩) zs.length cap) := hnx.cell hBs
      have hcx : wr.cell? ⟨b, off + q, none⟩ = some (.int .u8 (zs.getD q ⟨0, by decide, by decide⟩).1) := (hnx.1.cell (p := ⟨b, off + q, none⟩) hb).trans (hc q hql)
      have hel : elB zs k = (q, zs.getD q ⟨0, by decide, by decide⟩) := by rw [elB, ← hq]
      clear hq
      obtain ⟨fn, tmps, assign, body, hy, hR⟩ := hY _ (q, zs.getD q ⟨0, by decide, by decide⟩) wr hJs (by rw [uptoB_length]; exact hlt)
      dsimp only at hy
      generalize hxv : (zs.getD q ⟨0, by decide, by decide⟩).1 = xv at hy hR hcx
      gi_wp2
      refine hR.mono ?_
      rintro e W3 (⟨rfl, hJ3, hk3⟩ | ⟨rfl, hJx3⟩)
      · gi_wp2
        go_roundw
        case rel => exact ⟨k + 1, by omega, by first | (simp; done) | (simp; omega), by rw [uptoB_succ, hel]; exact hJ3, ⟨hnx.1.trans hk3.1, hk3.2.trans hnx.2⟩⟩
        case measure => first | (simp [intOf]; done) | (simp [intOf]; omega)
      · gi_wp2
        refine bodyPost_ret (results_none rfl _ _ _) rfl ?_
        exact ⟨⟨_, rfl⟩, .inr ⟨_, ⟨k + 1, by omega, by rw [uptoB_succ, hel]⟩, hJx3⟩⟩
    · obtain rfl : k = zs.length := by omega
      have hqi : (zs.length : Int) - 1 - (zs.length : Nat) = -1 := by omega
      rw [hqi]
      gi_wp2
      go_end0
      exact ⟨⟨_, rfl⟩, .inl ⟨_, rfl, hJs⟩⟩
set_option maxHeartbeats 1000000 in
theorem back_in (F : Fence) (n : Nat) (h6 : F.fn 178) (hro : F.round = none) (a : Option Addr) (len cap : Nat) (w : World) :
    CallsIn F n Tryz.prog 178 #[.slice a len cap] w fun e w' => e = .returned (.func (.func 198) #[] #[.pointer (some ⟨w.heap.size, 0, none⟩)]) ∧ w' = w.alloc (.cells #[.slice a len cap] 26) := by
  refine callsIn_of_wp Tryz.func178 rfl h6 ?_ hro
  simp only [Tryz.ntmps178, List.size_toArray, List.length_cons, List.length_nil, Nat.reduceAdd, Nat.reduceSub, Array.replicate_succ, Array.replicate_zero, List.push_toArray, List.append_toArray, List.nil_append, List.cons_append]
  gi_wp2
  go_ret
  exact ⟨rfl, rfl⟩
theorem back_stops (F : Fence) (n : Nat) (h8 : F.fn 198) (hro : F.round = none) (hn : 1 ≤ n) (Bs n₀ b off cap : Nat) (zs : List Bit3) (hreach : zs.length ≤ 64) (w : World) (hBs : Bs < w.heap.size) (hn₀ : n₀ ≤ w.heap.size) (hb : b < n₀)
    (hc0 : w.cell? ⟨Bs, 0, none⟩ = some (.slice (some ⟨b, off, none⟩) zs.length cap)) (hc : ∀ j, j < zs.length → w.cell? ⟨b, off + j, none⟩ = some (.int .u8 (zs.getD j ⟨0, by decide, by decide⟩).1)) :
    SeqStopsK F n Tryz.prog 198 #[.pointer (some ⟨Bs, 0, none⟩)] encBP (KpB n₀ Bs) (fun ys => ys = uptoB (elB zs) zs.length)
      (fun pre => ∃ k, k ≤ zs.length ∧ pre = uptoB (elB zs) k) zs.length w := fun l J Jx W hW _ _ hY h0 =>
  back1_in F n h8 hro hn l Bs n₀ b off cap zs hreach hb J Jx hY W ((hW.cell (p := ⟨Bs, 0, none⟩) hBs).trans hc0) (fun j hj => (hW.cell (p := ⟨b, off + j, none⟩) (by show b < w.heap.size; omega)).trans (hc j hj)) h0
theorem bld_kept {T e B b : Nat} {bs : List Value} {W W' : World} {row : Option Nat} (h : Lib.IsBuilderF T e B b bs W) (hg : W.grownBy W' row) (hr : ∀ r, row = some r → ∃ o : Obj, W.heap[r]? = some o ∧ o.isCells = false) : Lib.IsBuilderF T e B b bs W' := by
  have key : ∀ p, Lib.BuilderAtF T e B b p bs W → Lib.BuilderAtF T e B b p bs W' := by
    rintro p ⟨hB, v, hb, hown, hne⟩
    refine ⟨hB, v, (grownBy_keeps_cells hg hr hb rfl).trans hb, hown.kept hg ?_, hne⟩
    cases hv : v.ownBlock with
    | none => exact .inl rfl
    | some k =>
      refine .inr fun e1 => ?_
      obtain ⟨o, h1, h2⟩ := hr k e1.symm
      obtain ⟨c, fz, h3⟩ := Lib.ownsRowF_kind hown k hv
      rw [h3] at h1; cases h1; cases h2
  exact h.elim (fun h => .inl (key _ h)) (fun h => .inr (key _ h))
theorem others_keeps {e : Nat} {b : Option Nat} {w w' : World} (h : Lib.OthersKept e b w w') (hs : w.heap.size ≤ w'.heap.size) (hb : ∀ k o, some k = b → w.heap[k]? = some o → o.isCells = true) : KeepsOthers w w' := by
  refine ⟨hs, fun k o hk ho => h k o hk (fun e1 => ?_) (fun c fz e1 => ?_)⟩
  · rw [hb k o e1 hk] at ho; cases ho
  · subst e1; cases ho
theorem bld_heap {T e B b : Nat} {bs : List Value} {W : World} (h : Lib.IsBuilderF T e B b bs W) : ∀ k o, some k = some b → W.heap[k]? = some o → o.isCells = true := by
  intro k o e1 hk
  cases e1
  rcases h with ⟨_, v, hb, _⟩ | ⟨_, v, hb, _⟩ <;> (rw [hb] at hk; cases hk; rfl)
def letB (x : Nat × Bit3) : UInt8 := bitC x.2.1
theorem bytes_snoc (pre : List (Nat × Bit3)) (x : Nat × Bit3) : Lib.byteCells ((pre ++ [x]).map letB) = Lib.byteCells (pre.map letB) ++ [.int .u8 ((letB x).toNat : Int)] := by simp [Lib.byteCells]
theorem upto_text (zs : List Bit3) : (uptoB (elB zs) zs.length).map letB = bitsT (zs.map (·.1)) := by
  apply List.ext_getElem
  · simp [uptoB, bitsT]
  · intro i h1 h2
    have hi : i < zs.length := by simpa [uptoB] using h1
    simp only [uptoB, bitsT, List.getElem_map, List.getElem_range, List.getElem_reverse, List.length_map]
    rw [letB, elB]
    simp only
    rw [List.getD_eq_getElem?_getD, List.getElem?_eq_getElem (by omega)]
    rfl
set_option maxRecDepth 100000 in
set_option maxHeartbeats 4000000 in
theorem text_calls (b off cap : Nat) (zs : List Bit3) (hreach : zs.length ≤ 64) (w : World) (hb : b < w.heap.size) (hc : ∀ j, j < zs.length → w.cell? ⟨b, off + j, none⟩ = some (.int .u8 (zs.getD j ⟨0, by decide, by decide⟩).1))
    (his : Calls Tryz.prog 164 #[.slice (some ⟨b, off, none⟩) zs.length cap] w fun e w' => e = .returned (.bool true) ∧ Below w.heap.size w w') :
    Calls Tryz.prog 143 #[.slice (some ⟨b, off, none⟩) zs.length cap] w fun e W' => e = .returned (.tuple #[.string (str (bitsT (zs.map (·.1)))), .int .i64 0]) ∧ Below w.heap.size w W' := by
  refine (callsIn_wide (n := 6)).1 ?_
  have hro : Fence.wide.round = none := rfl
  have h1 : 1 ≤ 6 := by decide
  refine callsIn_of_wp_marks Tryz.func143 rfl trivial ?_ hro
  simp only [Tryz.ntmps143, List.size_toArray, List.length_cons, List.length_nil, Nat.reduceAdd, Nat.reduceSub, Array.replicate_succ, Array.replicate_zero, List.push_toArray, List.append_toArray, List.nil_append, List.cons_append]
  gi_wp2_with (refine ⟨trivial, ?_⟩; gi_at_call 164; refine (callsIn_wide.2 his).mono ?_; rintro e w1 ⟨rfl, hB1⟩)
  gi_wp2_with (refine ⟨trivial, ?_⟩; gi_at_call 178; refine (back_in Fence.wide (6 - 1) trivial hro _ _ _ _).mono ?_; rintro e w' ⟨rfl, rfl⟩)
  have hB1s := hB1.size
  have hbox : ((w1.alloc (.cells #[.pointer none, .slice none 0 0] 163)).alloc (.cells #[.slice (some ⟨b, off, none⟩) zs.length cap] 26)).heap[w1.heap.size + 1]? = some (.cells #[.slice (some ⟨b, off, none⟩) zs.length cap] 26) := by
    have := World.alloc_heap_new (w1.alloc (.cells #[.pointer none, .slice none 0 0] 163)) (.cells #[.slice (some ⟨b, off, none⟩) zs.length cap] 26)
    rwa [World.size_alloc] at this
  have hBld0 : Lib.IsBuilderF 163 5 w1.heap.size w1.heap.size [] (w1.alloc (.cells #[.pointer none, .slice none 0 0] 163)) := .inl ⟨Nat.le_refl _, .slice none 0 0, World.alloc_heap_new _ _, World.ownsRowF_nil _ _ _ _, by simp [Value.ownBlock]⟩
  have hB2 : Below w1.heap.size w1 ((w1.alloc (.cells #[.pointer none, .slice none 0 0] 163)).alloc (.cells #[.slice (some ⟨b, off, none⟩) zs.length cap] 26)) := ((Below.refl _ w1).alloc (Nat.le_refl _) _).alloc (by simp) _
  refine wpIn_rangeFunc_ownF hro h1 (gf := 198) (lb := #[.pointer (some ⟨w1.heap.size + 1, 0, none⟩)]) rfl trivial (enters_of Tryz.func198 (by kernel_rfl) rfl)
    (back_stops Fence.wide (6 - 1) trivial hro (by omega) (w1.heap.size + 1) w1.heap.size b off cap zs hreach _ (by simp) (by simp; omega) (by omega) (by simp only [World.cell?, hbox]; rfl) (fun j hj => (hB2.cell (p := ⟨b, off + j, none⟩) (by show b < w1.heap.size; omega)).trans ((hB1.cell (p := ⟨b, off + j, none⟩) hb).trans (hc j hj))))
    (fun h k => ⟨h.1.trans k.1, k.2.trans h.2⟩)
    (fun W l o o' h1 h2 h3 h4 => ⟨belowK_b (by simp; omega) W l o o' h1 h2 h3 h4, World.putObj_heap_other (by simp at h1; omega)⟩)
    (Below.refl _ _) (fun _ => rfl)
    (fun pre W => (Lib.IsBuilderF 163 5 w1.heap.size w1.heap.size (Lib.byteCells (pre.map letB)) W ∧ W.heap[w1.heap.size + 1]? = some (.cells #[.slice (some ⟨b, off, none⟩) zs.length cap] 26)) ∧ Below w1.heap.size w1 W)
    (fun _ _ _ => False)
    (OwnFrom.and (Own.from (fun s A B row hs hg hr => ⟨bld_kept hs.1 hg hr, (grownBy_keeps_cells hg hr hs.2 rfl).trans hs.2⟩) _) (ownFrom_below (Nat.le_refl _) (by simp; omega)))
    (fun _ _ _ _ _ hs _ _ => hs)
    ⟨⟨hBld0.alloc _, hbox⟩, hB2⟩
    (fun x => { tmps := #[.slice (some ⟨b, off, none⟩) zs.length cap, undef, .string ⟨#[]⟩, .int .i64 0, .pointer (some ⟨w1.heap.size, 0, none⟩), undef, .int .u8 x.2.1, .slice (some ⟨b, off, none⟩) zs.length cap, .bool true, .bool false, .slice (some ⟨b, off, none⟩) zs.length cap, .func (.func 198) #[] #[.pointer (some ⟨w1.heap.size + 1, 0, none⟩)], .int .i64 (x.1 : Int), .int .u8 x.2.1, undef, undef, undef, undef], defers := [] }) ?assign ?body ?done ?stop
  case assign =>
    intro l x W K hK
    simp only [encBP]
    gi_wp2
    exact hK
  case body =>
    rintro l pre ⟨xi, xv, hv0, hv3⟩ W ⟨⟨hbl, hbx⟩, hB⟩ hlen
    have hsz := hB.size
    have hpl : (Lib.byteCells (pre.map letB)).length + 1 ≤ 140737488355328 := by simp [Lib.byteCells]; omega
    have fin : ∀ (c : Int) (W3 : World), bitC xv = UInt8.ofNat c.toNat → ((bitC xv).toNat : Int) = c → Lib.BuilderAtF 163 5 w1.heap.size w1.heap.size (.pointer (some ⟨w1.heap.size, 0, none⟩)) (Lib.byteCells (pre.map letB) ++ [.int .u8 c]) W3 → Below w1.heap.size W W3 → Lib.OthersKept 5 (some w1.heap.size) W W3 →
        KeepsOthers W W3 ∧ KpB w1.heap.size (w1.heap.size + 1) W W3 ∧ ((Lib.IsBuilderF 163 5 w1.heap.size w1.heap.size (Lib.byteCells (List.map letB (pre ++ [(xi, (⟨xv, hv0, hv3⟩ : Bit3))]))) W3 ∧ W3.heap[w1.heap.size + 1]? = some (.cells #[.slice (some ⟨b, off, none⟩) zs.length cap] 26)) ∧ Below w1.heap.size w1 W3) := by
      intro c W3 _ hc2 k1 k2 k3
      have hb3 : W3.heap[w1.heap.size + 1]? = some (.cells #[.slice (some ⟨b, off, none⟩) zs.length cap] 26) := k3 _ _ hbx (by intro e; have := Option.some.inj e; omega) (by intro c fz e; cases e)
      refine ⟨others_keeps k3 k2.size (bld_heap hbl), ⟨k2, hb3.trans hbx.symm⟩, ⟨?_, hb3⟩, hB.trans k2⟩
      rw [bytes_snoc]
      refine .inr ?_
      rw [show ((letB (xi, ⟨xv, hv0, hv3⟩)).toNat : Int) = c from hc2]
      exact k1
    have hx : xv = 0 ∨ xv = 1 ∨ xv = 2 ∨ xv = 3 := by omega
    rcases hx with rfl | rfl | rfl | rfl
    · gi_wp2_with (refine ⟨trivial, ?_⟩; gi_at_call 179; refine (CallsIn.inRound l (callsIn_wide.2 (bld_writeByte _ _ _ _ _ hbl hpl hsz))).mono ?_; rintro e W3 ⟨rfl, k1, k2, k3⟩)
      exact fin _ W3 rfl rfl k1 k2 k3
    · gi_wp2_with (refine ⟨trivial, ?_⟩; gi_at_call 179; refine (CallsIn.inRound l (callsIn_wide.2 (bld_writeByte _ _ _ _ _ hbl hpl hsz))).mono ?_; rintro e W3 ⟨rfl, k1, k2, k3⟩)
      exact fin _ W3 rfl rfl k1 k2 k3
    · gi_wp2_with (refine ⟨trivial, ?_⟩; gi_at_call 179; refine (CallsIn.inRound l (callsIn_wide.2 (bld_writeByte _ _ _ _ _ hbl hpl hsz))).mono ?_; rintro e W3 ⟨rfl, k1, k2, k3⟩)
      exact fin _ W3 rfl rfl k1 k2 k3
    · gi_wp2_with (refine ⟨trivial, ?_⟩; gi_at_call 179; refine (CallsIn.inRound l (callsIn_wide.2 (bld_writeByte _ _ _ _ _ hbl hpl hsz))).mono ?_; rintro e W3 ⟨rfl, k1, k2, k3⟩)
      exact fin _ W3 rfl rfl k1 k2 k3
  case done =>
    rintro D ys W hD rfl ⟨⟨hbl, hbx⟩, hB⟩ hK
    have hsz := hB.size
    gi_wp2_with (refine ⟨trivial, ?_⟩; gi_at_call 158; refine (callsIn_wide.2 (shelf_Builder_String_any_k _ _ _ _ hbl hsz)).mono ?_; rintro e W5 ⟨rfl, hbl5, hB5, hk5⟩)
    have hK5 := hk5 D _ hK (by intro e; have := Option.some.inj e; simp at hD; omega) (by intro c fz e; cases e)
    refine ⟨by simp, .inl ⟨_, _, rfl, run_takeDeferred hK5, ?_⟩⟩
    refine ⟨.tuple #[.string (str (bitsT (zs.map (·.1)))), .int .i64 0], ?_, rfl, hB1.trans (((hB.trans hB5).trans (belowK_b (w := w1) (Nat.le_refl _) _ D _ _ (by simp at hD; omega) hK5 rfl rfl)).mono hB1s)⟩
    rw [upto_text]
    simp [results, Tryz.f143, go_sem]
    rfl
  case stop =>
    rintro D c pre W _ _ h _
    exact h.elim
theorem bits_form {ok : Nat → Prop} {w : World} {l : List Int} {v : Value} (h : RepC ok w (.list 1 (l.map encB)) v) : ∃ a c, v = .slice a l.length c ∧ l.length ≤ c ∧ (l = [] ∨ ∃ b o, a = some ⟨b, o, none⟩ ∧ ok b ∧ ∀ j x, l[j]? = some x → w.cell? ⟨b, o + j, none⟩ = some (.int .u8 x)) := by
  obtain ⟨a, c, rfl, h1, h2⟩ := h.list_form
  refine ⟨a, c, by simp, by simpa using h1, ?_⟩
  rcases h2 with e | ⟨b, o, vs, rfl, hb, _, h3, h4, _⟩
  · exact .inl (by simpa using e)
  · refine .inr ⟨b, o, rfl, hb, fun j x hx => ?_⟩
    have hx2 : (l.map encB)[j]? = some (encB x) := by rw [List.getElem?_map, hx]; rfl
    have := h3 j _ 0 (.v (.int .u8 x)) hx2 rfl
    have h5 := h4 j _ 0 (.v (.int .u8 x)) hx2 rfl
    rw [repc_v h5] at this
    simpa using this
theorem bits3 (l : List Int) (h : ∀ x ∈ l, 0 ≤ x ∧ x ≤ 3) : ∃ zs : List Bit3, zs.map (·.1) = l := by
  induction l with
  | nil => exact ⟨[], rfl⟩
  | cons a l ih =>
    obtain ⟨zs, e⟩ := ih (fun x hx => h x (by simp [hx]))
    exact ⟨⟨a, h a (by simp)⟩ :: zs, by rw [List.map_cons, e]⟩
theorem bt_all (his : ∀ l : List Int, l.length ≤ 1000000000 → ACp Tryz.prog 164 [.list 1 (l.map encB)] (.v (.bool (isBits l)))) : BT Tryz.prog := by
  intro l hl h0
  have hl2 := hl
  simp only [isBits, Bool.and_eq_true, decide_eq_true_eq, Bool.not_eq_true', List.any_eq_false, decide_eq_false_iff_not] at hl2
  obtain ⟨⟨g1, g2⟩, g3⟩ := hl2
  obtain ⟨zs, e⟩ := bits3 l (fun x hx => ⟨h0 x hx, by have := g3 x hx; simpa using this⟩)
  subst e
  rw [List.length_map] at g1 g2
  refine acp_new fun ok L w vs hvs hok hg => ?_
  match vs, hvs with
  | [v1], ⟨a1, _⟩ =>
    have a1' : RepC ok w (.list 1 ((zs.map (·.1)).map encB)) v1 := a1
    have hd := ac_door (w := w) (a := .bool true) (vs := [v1]) (hg.mono hok (fun _ _ => rfl)) (his (zs.map (·.1)) (by rw [List.length_map]; omega) []) (fun L2 => ⟨show Rep (fun b => b < w.heap.size) L2 w (.list 1 ((zs.map (·.1)).map encB)) v1 from a1'.okmono hok, trivial⟩) (by rintro r σ' ⟨rfl, _⟩; rw [hl])
    obtain ⟨a, c, rfl, hc, h⟩ := bits_form a1'
    rcases h with h | ⟨b, o, rfl, hb, hcell⟩
    · have : zs.length = 0 := by simpa using congrArg List.length h
      omega
    · rw [List.length_map] at hd ⊢
      refine (text_calls b o c zs (by omega) w (hok b hb) (fun j hj => ?_) hd).mono ?_
      · refine hcell j _ ?_
        rw [List.getElem?_map, List.getElem?_eq_getElem hj, List.getD_eq_getElem?_getD, List.getElem?_eq_getElem hj]; rfl
      · rintro e w' ⟨rfl, h2⟩
        refine ⟨_, rfl, h2, fun _ => False, fun _ h => h.elim, ?_⟩
        exact ⟨[_, _], rfl, RepC.v _, RepC.v _, trivial⟩
end Go.Proofs.YtcgdlhkiecommaaGreatDoor
/- A fault has a code. -/

namespace Go.Proofs.YtcgdlhkiecommaaGreatDoor
open Go
def Nz {α : Type} (f : Nat → Rd α) : Prop := ∀ i g, f i = .bad g → (g.code != 0) = true
section
variable {l : List Tk}
theorem flt_nz {c : Int} {i : Nat} (hc : (c != 0) = true) : ((fltAt l c i).code != 0) = true := by
  rw [fltAt]; split
  · rfl
  · exact hc
theorem want_nz {s : Bs} : Nz (wantP l s) := by
  intro i g h
  rw [wantP] at h
  split at h
  · cases h
  · cases h; exact flt_nz rfl
theorem into_nz {d : Nat} : Nz (intoP l d) := by
  intro i g h
  rw [intoP] at h
  split at h
  · cases h; exact flt_nz rfl
  · cases h
theorem open_nz {d : Nat} : Nz (openP l d) := by
  intro i g h
  rw [openP] at h
  split at h
  · exact into_nz i g h
  · cases h; exact flt_nz rfl
theorem loop_nz {nxt : Nat → Rd Ex} (hn : Nz nxt) {k : Nat} : ∀ (f : Nat) (e : Ex) (i : Nat) (g : Flt), rowLoop l nxt k f e i = .bad g → (g.code != 0) = true := by
  intro f
  induction f with
  | zero => intro e i g h; cases h
  | succ f ih =>
    intro e i g h
    rw [rowLoop] at h
    split at h
    · cases hy : nxt (i + 1) with
      | bad g2 => rw [hy] at h; cases h; exact hn _ _ hy
      | ok e2 j2 =>
        rw [hy] at h; simp only at h
        split at h
        · cases h
        · exact ih _ _ _ h
    · cases h
theorem row_nz {fac : Nat → Rd Ex} (hn : Nz fac) (m : Nat) : Nz (rowP l fac m) := by
  induction m with
  | zero => exact hn
  | succ m ih =>
    intro i g h
    rw [rowP] at h
    cases hy : rowP l fac m i with
    | bad g2 => rw [hy] at h; cases h; exact ih _ _ hy
    | ok e2 j2 => rw [hy] at h; simp only at h; exact loop_nz ih _ _ _ _ h
theorem slice_nz {inner : Nat → Rd Ex} (hn : Nz inner) {e h : Ex} {t : Tk} : Nz (sliceP l inner e h t) := by
  intro i g h1
  rw [sliceP] at h1
  cases h2 : wantP l sDownto i with
  | bad g2 => rw [h2] at h1; cases h1; exact want_nz _ _ h2
  | ok u j1 =>
    rw [h2] at h1; simp only at h1
    cases h3 : inner j1 with
    | bad g2 => rw [h3] at h1; cases h1; exact hn _ _ h3
    | ok low k =>
      rw [h3] at h1; simp only at h1
      cases h4 : wantP l sShut k with
      | bad g2 => rw [h4] at h1; cases h1; exact want_nz _ _ h4
      | ok u m => rw [h4] at h1; cases h1
theorem args_nz {inner : Nat → Rd Ex} (hn : Nz inner) : ∀ (f : Nat) (kids : List Ex) (i : Nat) (g : Flt), argsP l inner f kids i = .bad g → (g.code != 0) = true := by
  intro f
  induction f with
  | zero =>
    intro kids i g h
    rw [argsP] at h
    split at h
    · cases h; exact flt_nz rfl
    · cases h
  | succ f ih =>
    intro kids i g h
    rw [argsP] at h
    split at h
    · cases hy : inner (i + 1) with
      | bad g2 => rw [hy] at h; cases h; exact hn _ _ hy
      | ok e2 j2 => rw [hy] at h; simp only at h; exact ih _ _ _ h
    · cases h
theorem part_nz {d : Nat} {inner : Nat → Rd Ex} (hn : Nz inner) {e : Ex} : Nz (partP l d inner e) := by
  intro i g h1
  rw [partP] at h1
  cases h2 : openP l d i with
  | bad g2 => rw [h2] at h1; cases h1; exact open_nz _ _ h2
  | ok u j1 =>
    rw [h2] at h1; simp only at h1
    cases h3 : inner j1 with
    | bad g2 => rw [h3] at h1; cases h1; exact hn _ _ h3
    | ok first k =>
      rw [h3] at h1; simp only at h1
      split at h1
      · exact slice_nz hn _ _ h1
      · cases h4 : wantP l sShut k with
        | bad g2 => rw [h4] at h1; cases h1; exact want_nz _ _ h4
        | ok u m => rw [h4] at h1; cases h1
theorem parts_nz {d : Nat} {inner : Nat → Rd Ex} (hn : Nz inner) : ∀ (f : Nat) (e : Ex) (i : Nat) (g : Flt), partsP l d inner f e i = .bad g → (g.code != 0) = true := by
  intro f
  induction f with
  | zero => intro e i g h; cases h
  | succ f ih =>
    intro e i g h
    rw [partsP] at h
    split at h
    · cases hy : partP l d inner e i with
      | bad g2 => rw [hy] at h; cases h; exact part_nz hn _ _ hy
      | ok e2 j2 => rw [hy] at h; simp only at h; exact ih _ _ _ h
    · cases h
theorem named_nz {d : Nat} {inner : Nat → Rd Ex} (hn : Nz inner) : Nz (namedP l d inner) := by
  intro i g h1
  rw [namedP] at h1
  split at h1
  · split at h1
    · cases h2 : openP l d (i + 1) with
      | bad g2 => rw [h2] at h1; cases h1; exact open_nz _ _ h2
      | ok u j1 =>
        rw [h2] at h1; simp only at h1
        cases h3 : inner j1 with
        | bad g2 => rw [h3] at h1; cases h1; exact hn _ _ h3
        | ok first k =>
          rw [h3] at h1; simp only at h1
          split at h1
          · exact slice_nz hn _ _ h1
          · cases h5 : argsP l inner 19 [first] k with
            | bad g2 => rw [h5] at h1; cases h1; exact args_nz hn _ _ _ _ h5
            | ok ks m =>
              rw [h5] at h1; simp only at h1
              cases h4 : wantP l sShut m with
              | bad g2 => rw [h4] at h1; cases h1; exact want_nz _ _ h4
              | ok u q => rw [h4] at h1; cases h1
    · cases h1
  · cases h1; exact flt_nz rfl
theorem prim_nz {d : Nat} {inner : Nat → Rd Ex} (hn : Nz inner) : Nz (primP l d inner) := by
  intro i g h1
  rw [primP] at h1
  split at h1
  · exact parts_nz hn _ _ _ _ h1
  · split at h1
    · exact parts_nz hn _ _ _ _ h1
    · split at h1
      · exact parts_nz hn _ _ _ _ h1
      · split at h1
        · cases h2 : namedP l d inner i with
          | bad g2 => rw [h2] at h1; cases h1; exact named_nz hn _ _ h2
          | ok e j => rw [h2] at h1; simp only at h1; exact parts_nz hn _ _ _ _ h1
        · cases h2 : openP l d i with
          | bad g2 => rw [h2] at h1; cases h1; exact open_nz _ _ h2
          | ok u j1 =>
            rw [h2] at h1; simp only at h1
            cases h3 : inner j1 with
            | bad g2 => rw [h3] at h1; cases h1; exact hn _ _ h3
            | ok e k =>
              rw [h3] at h1; simp only at h1
              cases h4 : wantP l sShut k with
              | bad g2 => rw [h4] at h1; cases h1; exact want_nz _ _ h4
              | ok u m => rw [h4] at h1; simp only at h1; exact parts_nz hn _ _ _ _ h1
theorem fac_nz {d : Nat} {sub : Nat → Rd Ex} (hn : Nz sub) : Nz (facP l d sub) := by
  intro i g h1
  rw [facP] at h1
  split at h1
  · cases h2 : intoP l d i with
    | bad g2 => rw [h2] at h1; cases h1; exact into_nz _ _ h2
    | ok u j1 =>
      rw [h2] at h1; simp only at h1
      cases h3 : sub j1 with
      | bad g2 => rw [h3] at h1; cases h1; exact hn _ _ h3
      | ok e2 k => rw [h3] at h1; cases h1
  · exact prim_nz (row_nz hn 4) _ _ h1
theorem factor_nz (d : Nat) : Nz (factor l d) := by
  induction d with
  | zero => exact fac_nz (l := l) (sub := fun _ => .bad eofF) (fun i g h => by cases h; rfl)
  | succ d ih => exact fac_nz ih
theorem rowD_nz (d m : Nat) : Nz (rowD l d m) := row_nz (factor_nz d) m
end
end Go.Proofs.YtcgdlhkiecommaaGreatDoor
/- What few parts are, for what is written: tokens, depth, names; the reference's answers are the program's. -/


namespace Go.Proofs.YtcgdlhkiecommaaGreatDoor
open Go
end Go.Proofs.YtcgdlhkiecommaaGreatDoor
/- What is read of the first tokens alone is the same. -/

namespace Go.Proofs.YtcgdlhkiecommaaGreatDoor
open Go
section
variable {l : List Tk} {n : Nat}
theorem tok_pre {i : Nat} (h : i < n) : tokAt (l.take n) i = tokAt l i := by
  rw [tokAt, tokAt, List.getD_eq_getElem?_getD, List.getD_eq_getElem?_getD, List.getElem?_take_of_lt h]
theorem at_pre {ts : List Bs} {i : Nat} (h : i < n) : isAt (l.take n) ts i = isAt l ts i := by rw [isAt, isAt, tok_pre h]
theorem at_pre_no {ts : List Bs} {i : Nat} (h : isAt l ts i = false) : isAt (l.take n) ts i = false := by
  rcases Nat.lt_or_ge i n with h1 | h1
  · rw [at_pre h1]; exact h
  · cases h2 : isAt (l.take n) ts i with
    | false => rfl
    | true => have := isAt_lt h2; rw [List.length_take] at this; omega
def Pre {α : Type} (n : Nat) (f g : Nat → Rd α) : Prop := ∀ i e j, f i = .ok e j → j ≤ n → g i = .ok e j
theorem want_pre {s : Bs} {i j : Nat} {u : Unit} (h : wantP l s i = .ok u j) (hj : j ≤ n) : wantP (l.take n) s i = .ok u j := by
  obtain ⟨rfl, h1⟩ := want_ok h
  rw [want_yes (by rw [at_pre (by omega)]; exact h1)]
theorem into_pre {d i j : Nat} {u : Unit} (h : intoP l d i = .ok u j) : intoP (l.take n) d i = .ok u j := by
  obtain ⟨h1, rfl⟩ := into_ok h
  rw [intoP, if_neg h1]
theorem open_pre {d i j : Nat} {u : Unit} (h : openP l d i = .ok u j) (hj : j ≤ n) : openP (l.take n) d i = .ok u j := by
  obtain ⟨h1, rfl, h2⟩ := open_ok h
  rw [openP, if_pos (by rw [at_pre (by omega)]; exact h2), intoP, if_neg h1]
theorem loop_pre {nxt nxt' : Nat → Rd Ex} (hn : ∀ i, (nxt i).gt i l.length) (hx : Pre n nxt nxt') {k : Nat} : ∀ (f f' : Nat) (e0 : Ex) (i : Nat) (e : Ex) (j : Nat), i ≤ l.length → l.length - i ≤ f → n - i ≤ f' → rowLoop l nxt k f e0 i = .ok e j → j ≤ n → rowLoop (l.take n) nxt' k f' e0 i = .ok e j := by
  intro f
  induction f with
  | zero =>
    intro f' e0 i e j hil hf hf' h hj
    have hat : isAt l (levelL k) i = false := by
      cases hat : isAt l (levelL k) i with
      | false => rfl
      | true => have := isAt_lt hat; omega
    rw [loop_stop hat] at h
    cases h
    exact loop_stop (at_pre_no hat)
  | succ f ih =>
    intro f' e0 i e j hil hf hf' h hj
    cases hat : isAt l (levelL k) i with
    | false =>
      rw [loop_stop hat] at h
      cases h
      exact loop_stop (at_pre_no hat)
    | true =>
      rw [rowLoop, if_pos hat] at h
      cases hy : nxt (i + 1) with
      | bad g => rw [hy] at h; cases h
      | ok e2 j2 =>
        rw [hy] at h
        simp only at h
        have hg := hn _ _ _ hy
        have hjj : j2 ≤ j := by
          split at h
          · cases h; omega
          · exact (rowLoop_ge hn hg.2 _ _ h).1
        obtain ⟨f', rfl⟩ : ∃ q, f' = q + 1 := ⟨f' - 1, by omega⟩
        rw [rowLoop, if_pos (by rw [at_pre (by omega)]; exact hat), hx _ _ _ hy (by omega)]
        simp only
        rw [tok_pre (by omega)]
        split at h
        · rename_i hk; rw [if_pos hk]; exact h
        · rename_i hk; rw [if_neg hk]; exact ih f' _ j2 e j hg.2 (by omega) (by omega) h hj
theorem row_pre {fac fac' : Nat → Rd Ex} (hn : ∀ i, (fac i).gt i l.length) (hx : Pre n fac fac') (hl : n ≤ l.length) (m : Nat) : Pre n (rowP l fac m) (rowP (l.take n) fac' m) := by
  induction m with
  | zero => exact hx
  | succ m ih =>
    intro i e j h hj
    rw [rowP] at h
    cases hy : rowP l fac m i with
    | bad g => rw [hy] at h; cases h
    | ok e2 j2 =>
      rw [hy] at h
      simp only at h
      have hg := row_gt hn m _ _ _ hy
      have := (rowLoop_ge (row_gt hn m) hg.2 _ _ h).1
      rw [rowP, ih _ _ _ hy (by omega)]
      simp only
      exact loop_pre (row_gt hn m) ih _ _ _ _ _ _ hg.2 (Nat.le_refl _) (by rw [List.length_take]; omega) h hj
theorem slice_pre {inner inner' : Nat → Rd Ex} (hn : ∀ i, (inner i).gt i l.length) (hx : Pre n inner inner') {e h : Ex} {t : Tk} {i : Nat} {x : Ex} {j : Nat} (h1 : sliceP l inner e h t i = .ok x j) (hj : j ≤ n) : sliceP (l.take n) inner' e h t i = .ok x j := by
  rw [sliceP] at h1
  cases h2 : wantP l sDownto i with
  | bad g => rw [h2] at h1; cases h1
  | ok u j1 =>
    rw [h2] at h1; simp only at h1
    cases h3 : inner j1 with
    | bad g => rw [h3] at h1; cases h1
    | ok low k =>
      rw [h3] at h1; simp only at h1
      cases h4 : wantP l sShut k with
      | bad g => rw [h4] at h1; cases h1
      | ok u m =>
        rw [h4] at h1; simp only at h1
        cases h1
        have g3 := hn _ _ _ h3
        have g4 := want_gt _ _ h4
        rw [sliceP, want_pre h2 (by omega)]
        simp only
        rw [hx _ _ _ h3 (by omega)]
        simp only
        rw [want_pre h4 (by omega)]
theorem args_pre {inner inner' : Nat → Rd Ex} (hn : ∀ i, (inner i).gt i l.length) (hx : Pre n inner inner') : ∀ (f : Nat) (kids : List Ex) (i : Nat) (x : List Ex) (j : Nat), i ≤ l.length → argsP l inner f kids i = .ok x j → j ≤ n → argsP (l.take n) inner' f kids i = .ok x j := by
  intro f
  induction f with
  | zero =>
    intro kids i x j hil h hj
    rw [argsP] at h
    split at h
    · cases h
    · rename_i hat
      cases h
      exact args_stop (at_pre_no (by simpa using hat))
  | succ f ih =>
    intro kids i x j hil h hj
    rw [argsP] at h
    split at h
    · rename_i hat
      cases hy : inner (i + 1) with
      | bad g => rw [hy] at h; cases h
      | ok e2 j2 =>
        rw [hy] at h; simp only at h
        have hg := hn _ _ _ hy
        have := (args_ge hn hg.2 _ _ h).1
        rw [argsP, if_pos (by rw [at_pre (by omega)]; exact hat), hx _ _ _ hy (by omega)]
        exact ih _ _ _ _ hg.2 h hj
    · rename_i hat
      cases h
      exact args_stop (at_pre_no (by simpa using hat))
theorem part_pre {d : Nat} {inner inner' : Nat → Rd Ex} (hn : ∀ i, (inner i).gt i l.length) (hx : Pre n inner inner') {e : Ex} {i : Nat} {x : Ex} {j : Nat} (h1 : partP l d inner e i = .ok x j) (hj : j ≤ n) : partP (l.take n) d inner' e i = .ok x j := by
  have hgt := part_gt hn _ _ h1
  rw [partP] at h1
  cases h2 : openP l d i with
  | bad g => rw [h2] at h1; cases h1
  | ok u j1 =>
    rw [h2] at h1; simp only at h1
    cases h3 : inner j1 with
    | bad g => rw [h3] at h1; cases h1
    | ok first k =>
      rw [h3] at h1; simp only at h1
      have g2 := open_gt _ _ h2
      have g3 := hn _ _ _ h3
      split at h1
      · rename_i hat
        have g4 := slice_gt hn _ _ h1
        rw [partP, open_pre h2 (by omega)]
        simp only
        rw [hx _ _ _ h3 (by omega)]
        simp only
        rw [if_pos (by rw [at_pre (by omega)]; exact hat), tok_pre (by omega)]
        exact slice_pre hn hx h1 hj
      · rename_i hat
        cases h4 : wantP l sShut k with
        | bad g => rw [h4] at h1; cases h1
        | ok u m =>
          rw [h4] at h1; simp only at h1
          cases h1
          have g4 := want_gt _ _ h4
          rw [partP, open_pre h2 (by omega)]
          simp only
          rw [hx _ _ _ h3 (by omega)]
          simp only
          rw [if_neg (by rw [at_pre (by omega)]; exact hat), want_pre h4 (by omega), tok_pre (by omega)]
theorem parts_pre {d : Nat} {inner inner' : Nat → Rd Ex} (hn : ∀ i, (inner i).gt i l.length) (hx : Pre n inner inner') : ∀ (f f' : Nat) (e0 : Ex) (i : Nat) (e : Ex) (j : Nat), i ≤ l.length → l.length - i ≤ f → n - i ≤ f' → partsP l d inner f e0 i = .ok e j → j ≤ n → partsP (l.take n) d inner' f' e0 i = .ok e j := by
  intro f
  induction f with
  | zero =>
    intro f' e0 i e j hil hf hf' h hj
    have hat : isAt l [sOpen] i = false := by
      cases hat : isAt l [sOpen] i with
      | false => rfl
      | true => have := isAt_lt hat; omega
    rw [parts_stop hat] at h
    cases h
    exact parts_stop (at_pre_no hat)
  | succ f ih =>
    intro f' e0 i e j hil hf hf' h hj
    cases hat : isAt l [sOpen] i with
    | false =>
      rw [parts_stop hat] at h
      cases h
      exact parts_stop (at_pre_no hat)
    | true =>
      rw [partsP, if_pos hat] at h
      cases hy : partP l d inner e0 i with
      | bad g => rw [hy] at h; cases h
      | ok e2 j2 =>
        rw [hy] at h
        simp only at h
        have hg := part_gt hn _ _ hy
        have hjj := (parts_ge hn hg.2 _ _ h).1
        obtain ⟨f', rfl⟩ : ∃ q, f' = q + 1 := ⟨f' - 1, by omega⟩
        rw [partsP, if_pos (by rw [at_pre (by omega)]; exact hat), part_pre hn hx hy (by omega)]
        simp only
        exact ih f' _ j2 e j hg.2 (by omega) (by omega) h hj
theorem named_pre {d : Nat} {inner inner' : Nat → Rd Ex} (hn : ∀ i, (inner i).gt i l.length) (hx : Pre n inner inner') {i : Nat} {x : Ex} {j : Nat} (h1 : namedP l d inner i = .ok x j) (hj : j ≤ n) : namedP (l.take n) d inner' i = .ok x j := by
  have hgt := named_gt hn _ _ h1
  rw [namedP] at h1
  rw [namedP, tok_pre (by omega)]
  split at h1
  · rename_i ho
    rw [if_pos ho]
    split at h1
    · rename_i hat
      cases h2 : openP l d (i + 1) with
      | bad g => rw [h2] at h1; cases h1
      | ok u j1 =>
        rw [h2] at h1; simp only at h1
        cases h3 : inner j1 with
        | bad g => rw [h3] at h1; cases h1
        | ok first k =>
          rw [h3] at h1; simp only at h1
          have g2 := open_gt _ _ h2
          have g3 := hn _ _ _ h3
          split at h1
          · rename_i had
            have g4 := slice_gt hn _ _ h1
            rw [if_pos (by rw [at_pre (by omega)]; exact hat), open_pre h2 (by omega)]
            simp only
            rw [hx _ _ _ h3 (by omega)]
            simp only
            rw [if_pos (by rw [at_pre (by omega)]; exact had), tok_pre (by omega)]
            exact slice_pre hn hx h1 hj
          · rename_i had
            cases h5 : argsP l inner 19 [first] k with
            | bad g => rw [h5] at h1; cases h1
            | ok ks m =>
              rw [h5] at h1; simp only at h1
              have g5 := args_ge hn g3.2 _ _ h5
              cases h4 : wantP l sShut m with
              | bad g => rw [h4] at h1; cases h1
              | ok u q =>
                rw [h4] at h1; simp only at h1
                cases h1
                have g4 := want_gt _ _ h4
                rw [if_pos (by rw [at_pre (by omega)]; exact hat), open_pre h2 (by omega)]
                simp only
                rw [hx _ _ _ h3 (by omega)]
                simp only
                rw [if_neg (by rw [at_pre (by omega)]; exact had), args_pre hn hx _ _ _ _ _ g3.2 h5 (by omega)]
                simp only
                rw [want_pre h4 (by omega)]
    · rename_i hat
      cases h1
      rw [if_neg (by rw [at_pre_no (by simpa using hat)]; exact Bool.false_ne_true)]
  · cases h1
theorem prim_pre {d : Nat} {inner inner' : Nat → Rd Ex} (hn : ∀ i, (inner i).gt i l.length) (hx : Pre n inner inner') (hl : n ≤ l.length) {i : Nat} {x : Ex} {j : Nat} (h1 : primP l d inner i = .ok x j) (hj : j ≤ n) : primP (l.take n) d inner' i = .ok x j := by
  have hgt := prim_gt hn _ _ h1
  have hlen : (l.take n).length = n := by rw [List.length_take]; omega
  rw [primP] at h1
  rw [primP, tok_pre (by omega)]
  split at h1
  · rename_i ho; rw [if_pos ho]; exact parts_pre hn hx _ _ _ _ _ _ (by omega) (Nat.le_refl _) (by omega) h1 hj
  · rename_i ho; rw [if_neg ho]
    split at h1
    · rename_i ho; rw [if_pos ho]; exact parts_pre hn hx _ _ _ _ _ _ (by omega) (Nat.le_refl _) (by omega) h1 hj
    · rename_i ho; rw [if_neg ho]
      split at h1
      · rename_i ho; rw [if_pos ho]; exact parts_pre hn hx _ _ _ _ _ _ (by omega) (Nat.le_refl _) (by omega) h1 hj
      · rename_i ho; rw [if_neg ho]
        split at h1
        · rename_i ho; rw [if_pos ho]
          cases h2 : namedP l d inner i with
          | bad g => rw [h2] at h1; cases h1
          | ok e j1 =>
            rw [h2] at h1; simp only at h1
            have g2 := named_gt hn _ _ h2
            have g3 := (parts_ge hn g2.2 _ _ h1).1
            rw [named_pre hn hx h2 (by omega)]
            exact parts_pre hn hx _ _ _ _ _ _ g2.2 (Nat.le_refl _) (by omega) h1 hj
        · rename_i ho; rw [if_neg ho]
          cases h2 : openP l d i with
          | bad g => rw [h2] at h1; cases h1
          | ok u j1 =>
            rw [h2] at h1; simp only at h1
            cases h3 : inner j1 with
            | bad g => rw [h3] at h1; cases h1
            | ok e k =>
              rw [h3] at h1; simp only at h1
              cases h4 : wantP l sShut k with
              | bad g => rw [h4] at h1; cases h1
              | ok u m =>
                rw [h4] at h1; simp only at h1
                have g2 := open_gt _ _ h2
                have g3 := hn _ _ _ h3
                have g4 := want_gt _ _ h4
                have g5 := (parts_ge hn g4.2 _ _ h1).1
                rw [open_pre h2 (by omega)]
                simp only
                rw [hx _ _ _ h3 (by omega)]
                simp only
                rw [want_pre h4 (by omega)]
                exact parts_pre hn hx _ _ _ _ _ _ g4.2 (Nat.le_refl _) (by omega) h1 hj
theorem fac_pre {d : Nat} {sub sub' : Nat → Rd Ex} (hn : ∀ i, (sub i).gt i l.length) (hx : Pre n sub sub') (hl : n ≤ l.length) : Pre n (facP l d sub) (facP (l.take n) d sub') := by
  intro i e j h1 hj
  have hgt := fac_gt (d := d) hn i _ _ h1
  rw [facP] at h1
  rw [facP, at_pre (by omega)]
  split at h1
  · rename_i hat
    rw [if_pos hat]
    cases h2 : intoP l d i with
    | bad g => rw [h2] at h1; cases h1
    | ok u j1 =>
      rw [h2] at h1; simp only at h1
      cases h3 : sub j1 with
      | bad g => rw [h3] at h1; cases h1
      | ok e2 k =>
        rw [h3] at h1; simp only at h1
        cases h1
        rw [into_pre h2]
        simp only
        rw [hx _ _ _ h3 (by omega), tok_pre (by omega)]
  · rename_i hat
    rw [if_neg hat]
    exact prim_pre (row_gt hn 4) (row_pre hn hx hl 4) hl h1 hj
theorem factor_pre (hl : n ≤ l.length) (d : Nat) : Pre n (factor l d) (factor (l.take n) d) := by
  induction d with
  | zero => exact fac_pre (fun _ => bad_gt) (fun _ _ _ h => by cases h) hl
  | succ d ih => exact fac_pre (factor_gt d) ih hl
theorem rowD_pre (hl : n ≤ l.length) (d m : Nat) : Pre n (rowD l d m) (rowD (l.take n) d m) := row_pre (factor_gt d) (factor_pre hl d) hl m
end
end Go.Proofs.YtcgdlhkiecommaaGreatDoor
/- What is read is valid, and is written with tokens that were read. -/


namespace Go.Proofs.YtcgdlhkiecommaaGreatDoor
open Go
def seg (l : List Tk) (i j : Nat) : List (Int × Bs × Int) := ((l.map tkey).drop i).take (j - i)
theorem seg_app {l : List Tk} {i j k : Nat} (h1 : i ≤ j) (h2 : j ≤ k) : seg l i j ++ seg l j k = seg l i k := by
  have e : k - i = (j - i) + (k - j) := by omega
  rw [seg, seg, seg, e, List.take_add, List.drop_drop, show i + (j - i) = j by omega]
theorem seg_one {l : List Tk} {i : Nat} (h : i < l.length) : seg l i (i + 1) = [tkey (tokAt l i)] := by
  have e : l.drop i = tokAt l i :: l.drop (i + 1) := by
    rw [List.drop_eq_getElem_cons h, tokAt, List.getD_eq_getElem?_getD, List.getElem?_eq_getElem h]; rfl
  rw [seg, show i + 1 - i = 1 by omega, ← List.map_drop, e]; rfl
def Sb (l : List Tk) (ts : List Tk) (i j : Nat) : Prop := i ≤ j ∧ (ts.map tkey).Sublist (seg l i j)
section
variable {l : List Tk}
theorem sb_app {a b : List Tk} {i j k : Nat} (h1 : Sb l a i j) (h2 : Sb l b j k) : Sb l (a ++ b) i k :=
  ⟨Nat.le_trans h1.1 h2.1, by rw [List.map_append, ← seg_app h1.1 h2.1]; exact h1.2.append h2.2⟩
theorem sb_one {t : Tk} {i : Nat} (h : i < l.length) (hk : tkey t = tkey (tokAt l i)) : Sb l [t] i (i + 1) :=
  ⟨by omega, by rw [seg_one h, List.map_cons, List.map_nil, hk]; exact List.Sublist.refl _⟩
theorem sb_cons {t : Tk} {b : List Tk} {i k : Nat} (h : i < l.length) (hk : tkey t = tkey (tokAt l i)) (h2 : Sb l b (i + 1) k) : Sb l (t :: b) i k := sb_app (sb_one h hk) h2
theorem sb_nil {i j : Nat} (h : i ≤ j) : Sb l [] i j := ⟨h, by simp⟩
theorem sb_skip {b : List Tk} {i j k : Nat} (h : i ≤ j) (h2 : Sb l b j k) : Sb l b i k := sb_app (sb_nil h) h2
theorem sb_more {b : List Tk} {i j k : Nat} (h : j ≤ k) (h2 : Sb l b i j) : Sb l b i k := by
  have := sb_app h2 (sb_nil (l := l) h)
  rwa [List.append_nil] at this
theorem sb_sub {a b : List Tk} {i j : Nat} (h : a.Sublist b) (h2 : Sb l b i j) : Sb l a i j := ⟨h2.1, (h.map tkey).trans h2.2⟩
def Wr (l : List Tk) : Prop := ∀ i, i < l.length → possT (tokAt l i) = true
theorem key_S {t : Tk} (h : possT t = true) (ho : t.op = 2 ∨ t.op = 7) : tkey (tkS t.text) = tkey t := by
  have key : (signsL.all fun x => !(isWordL x)) = true := by decide +kernel
  rcases ho with ho | ho
  · rw [possT, ho] at h
    simp only [show ((2 : Int) == 1) = false from rfl, show ((2 : Int) == 2) = true from rfl, cond_true, cond_false, Bool.and_eq_true, beq_iff_eq] at h
    rw [tkey, tkey, ho, h.1, tkS, h.2]; rfl
  · rw [possT, ho] at h
    simp only [show ((7 : Int) == 1) = false from rfl, show ((7 : Int) == 2) = false from rfl, show ((7 : Int) == 3) = false from rfl, show ((7 : Int) == 4) = false from rfl, show ((7 : Int) == 5) = false from rfl, show ((7 : Int) == 6) = false from rfl, show ((7 : Int) == 7) = true from rfl, cond_true, cond_false, Bool.and_eq_true, beq_iff_eq] at h
    have hw := List.all_eq_true.1 key _ (List.contains_iff_mem.1 h.2)
    rw [Bool.not_eq_true'] at hw
    rw [tkey, tkey, ho, h.1, tkS, hw]; rfl
theorem isAt_key (hw : Wr l) {ts : List Bs} {i : Nat} (h : isAt l ts i = true) : i < l.length ∧ tkey (tkS (tokAt l i).text) = tkey (tokAt l i) ∧ ts.contains (tokAt l i).text = true := by
  have hi := isAt_lt h
  rw [isAt, Bool.and_eq_true, Bool.or_eq_true, beq_iff_eq, beq_iff_eq] at h
  exact ⟨hi, key_S (hw i hi) h.1, h.2⟩
theorem isAt_one (hw : Wr l) {s : Bs} {i : Nat} (h : isAt l [s] i = true) : i < l.length ∧ tkey (tkS s) = tkey (tokAt l i) := by
  obtain ⟨h1, h2, h3⟩ := isAt_key hw h
  have : (tokAt l i).text = s := by simpa using h3
  rw [← this]; exact ⟨h1, h2⟩
theorem szE_of {e : Ex} (h1 : e.name.length ≤ 1000000000) (h2 : e.bits.length ≤ 1000000000) (h3 : e.kids.length ≤ 1000000000) (h4 : ∀ x ∈ e.bits, 0 ≤ x) (h5 : ∀ k ∈ e.kids, szE k = true) : szE e = true := by
  have hl : ∀ l : List Ex, (∀ k ∈ l, szE k = true) → szEs l = true := by
    intro l
    induction l with
    | nil => intro _; rfl
    | cons a l ih => intro h; rw [szEs, h a (by simp), ih fun k hk => h k (by simp [hk])]; rfl
  cases e with
  | mk o s n b v k t l c =>
    rw [szE, hl k h5]
    have h1 : s.length ≤ 1000000000 := h1
    have h2 : b.length ≤ 1000000000 := h2
    have h3 : k.length ≤ 1000000000 := h3
    have h4 : b.all (fun x => decide (0 ≤ x)) = true := List.all_eq_true.2 (fun x hx => decide_eq_true (h4 x hx))
    rw [decide_eq_true h1, decide_eq_true h2, decide_eq_true h3, h4]; rfl
structure Gd (l : List Tk) (d k : Nat) (e : Ex) (i j : Nat) : Prop where
  f : formP e = true
  z : szE e = true
  m : smE e = true
  dp : kidDp e (k : Int) ≤ d
  sb : Sb l (kidTk e (k : Int)) i j
  h : height e + 1 ≤ j - i
theorem sub_br (t : List Tk) : t.Sublist (inBr t) := (List.sublist_append_left t _).trans (List.sublist_cons_self _ _)
theorem Gd.down {d k k' i j : Nat} {e : Ex} (g : Gd l d k' e i j) (hk : k ≤ k') : Gd l d k e i j := by
  refine ⟨g.f, g.z, g.m, ?_, ?_, g.h⟩
  · have := g.dp
    rw [kidDp] at this ⊢
    split <;> split at this <;> omega
  · have := g.sb
    rw [kidTk] at this ⊢
    split
    · rw [if_pos (by omega)] at this; exact this
    · split at this
      · exact sb_sub (sub_br _) this
      · exact this
theorem Gd.tk0 {d i j : Nat} {e : Ex} (g : Gd l d 0 e i j) : Sb l (toks e) i j ∧ dep e ≤ d := by
  have h1 := g.sb
  have h2 := g.dp
  have := tight g.f
  rw [show ((0 : Nat) : Int) = 0 from rfl, this.1] at h1
  rw [show ((0 : Nat) : Int) = 0 from rfl, this.2] at h2
  exact ⟨h1, h2⟩
theorem sb_br (hw : Wr l) {t : List Tk} {i j : Nat} (ho : isAt l [sOpen] i = true) (h : Sb l t (i + 1) j) (hs : isAt l [sShut] j = true) : Sb l (inBr t) i (j + 1) := by
  obtain ⟨a1, a2⟩ := isAt_one hw ho
  obtain ⟨b1, b2⟩ := isAt_one hw hs
  exact sb_cons a1 a2 (sb_app h (sb_one b1 b2))
theorem Gd.br (hw : Wr l) {d i j : Nat} {e : Ex} (ho : isAt l [sOpen] i = true) (hd : d ≠ 0) (g : Gd l (d - 1) 0 e (i + 1) j) (hs : isAt l [sShut] j = true) : Gd l d 5 e i (j + 1) := by
  obtain ⟨t1, t2⟩ := g.tk0
  refine ⟨g.f, g.z, g.m, ?_, ?_, by have := g.h; omega⟩
  · rw [kidDp]; split <;> omega
  · rw [kidTk]; split
    · exact sb_br hw ho t1 hs
    · exact sb_skip (Nat.le_succ i) (sb_more (Nat.le_succ j) t1)
theorem gd_leaf {d k i : Nat} {e : Ex} {t : Tk} (hf : formP e = true) (hz : szE e = true) (hm : smE e = true) (hb : bindsP e = 5) (ht : toks e = [t]) (hd : dep e = 0) (hi : i < l.length) (hk : tkey t = tkey (tokAt l i)) (hh : e.kids = []) (hk5 : k ≤ 5) : Gd l d k e i (i + 1) := by
  refine ⟨hf, hz, hm, ?_, ?_, by rw [height_eq, hh]; simp [heights]⟩
  · rw [kidDp, if_neg (by omega), hd]; omega
  · rw [kidTk, if_neg (by omega), ht]; exact sb_one hi hk
theorem name_len {s : Bs} (h : isNameL s = true) : s.length ≤ 40 := by
  simp only [isNameL, Bool.and_eq_true, decide_eq_true_eq] at h; exact h.2.1
theorem lev_str {s : Bs} {k : Nat} (hk : k < 4) (h : (levelL k).contains s = true) : strengthI s = (k : Int) ∧ isNameL s = false ∧ s.length ≤ 40 := by
  have key : (levelsL.flatten.all fun x => (decide (x.length ≤ 40) && !(isNameL x)) && (List.range 4).all fun q => (levelL q).contains x == (strengthI x == (q : Int))) = true := by decide +kernel
  have hm : s ∈ levelsL.flatten := by
    rw [List.contains_iff_mem] at h
    refine List.mem_flatten.2 ⟨levelL k, ?_, h⟩
    have : k = 0 ∨ k = 1 ∨ k = 2 ∨ k = 3 := by omega
    rcases this with rfl | rfl | rfl | rfl <;> simp [levelL, levelsL]
  have h1 := List.all_eq_true.1 key s hm
  rw [Bool.and_eq_true, Bool.and_eq_true, Bool.not_eq_true', decide_eq_true_eq, List.all_eq_true] at h1
  have := h1.2 k (List.mem_range.2 hk)
  rw [h, beq_iff_eq] at this
  exact ⟨by simpa using this.symm, h1.1.2, h1.1.1⟩
theorem all2 {p : Ex → Prop} {a b : Ex} (h1 : p a) (h2 : p b) : ∀ k ∈ [a, b], p k := by
  intro k hk; simp only [List.mem_cons, List.not_mem_nil, or_false] at hk; rcases hk with rfl | rfl <;> assumption
theorem all3 {p : Ex → Prop} {a b c : Ex} (h1 : p a) (h2 : p b) (h3 : p c) : ∀ k ∈ [a, b, c], p k := by
  intro k hk; simp only [List.mem_cons, List.not_mem_nil, or_false] at hk; rcases hk with rfl | rfl | rfl <;> assumption
theorem form_of {e : Ex} (h1 : headR e = false) (h2 : ∀ k ∈ e.kids, formP k = true) (h3 : tailR e = true) : formP e = true := by
  rw [formH, h1, List.all_eq_true.2 h2, h3]; rfl
theorem gd_bin (hw : Wr l) {d k i j m : Nat} {a b : Ex} {t : Tk} (hk : k < 4) (ga : Gd l d (if k = 1 then 2 else k) a i j) (hat : isAt l (levelL k) j = true) (gb : Gd l d (k + 1) b (j + 1) m) :
    Gd l d k (mkE 5 (tokAt l j).text 0 [] [a, b] t) i m := by
  obtain ⟨a1, a2, a3⟩ := isAt_key hw hat
  obtain ⟨s1, s2, s3⟩ := lev_str hk a3
  have hb : bindsP (mkE 5 (tokAt l j).text 0 [] [a, b] t) = (k : Int) := (binds_binary (e := mkE 5 (tokAt l j).text 0 [] [a, b] t) rfl s2 rfl).trans s1
  have hlf : leftP (k : Int) = ((if k = 1 then 2 else k : Nat) : Int) := by
    by_cases h : k = 1
    · rw [h]; rfl
    · rw [leftP, show ((k : Int) == 1) = false by simp; omega, if_neg h]; rfl
  obtain ⟨t1, t2⟩ := toks_two (e := mkE 5 (tokAt l j).text 0 [] [a, b] t) rfl rfl rfl rfl rfl rfl (by rw [hb]; simp; omega) (by rw [hb]; simp; omega) rfl
  rw [hb, hlf] at t1 t2
  have ga1 := ga.h
  have gb1 := gb.h
  refine ⟨form_of rfl (all2 ga.f gb.f) ?_, szE_of (by show (tokAt l j).text.length ≤ _; omega) (by simp [mkE, Ex.bits]) (by simp [mkE, Ex.kids]) (by intro x hx; simp [mkE, Ex.bits] at hx) (all2 ga.z gb.z), smE_of (by show (tokAt l j).text.length ≤ _; omega) (by simp [mkE, Ex.bits]) (all2 ga.m gb.m), ?_, ?_, ?_⟩
  · show (operR (tokAt l j).text 2 || _) = true
    rw [operR, strR_pos, s1, decide_eq_true (show (k : Int) ≥ 0 by omega)]; rfl
  · rw [kidDp, if_neg (by omega), t2]
    exact Nat.max_le.2 ⟨ga.dp, gb.dp⟩
  · rw [kidTk, if_neg (by omega), t1]
    exact sb_app ga.sb (sb_cons a1 a2 gb.sb)
  · rw [height_eq]
    show max (height a + 1) (max (height b + 1) 0) + 1 ≤ m - i
    have g1 := ga.sb.1
    have g2 := gb.sb.1
    omega
theorem gd_un (hw : Wr l) {d i j : Nat} {a : Ex} {t : Tk} (hat : isAt l [sNot, sMinus] i = true) (hd : d ≠ 0) (ga : Gd l (d - 1) 4 a (i + 1) j) : Gd l d 4 (mkE 5 (tokAt l i).text 0 [] [a] t) i j := by
  obtain ⟨a1, a2, a3⟩ := isAt_key hw hat
  have hs : (tokAt l i).text = sNot ∨ (tokAt l i).text = sMinus := by simpa using a3
  have s2 : isNameL (tokAt l i).text = false := by rcases hs with h | h <;> rw [h] <;> decide +kernel
  have s3 : (tokAt l i).text.length ≤ 40 := by rcases hs with h | h <;> rw [h] <;> decide
  have hb : bindsP (mkE 5 (tokAt l i).text 0 [] [a] t) = 4 := binds_unary (e := mkE 5 (tokAt l i).text 0 [] [a] t) rfl s2 rfl
  obtain ⟨t1, t2⟩ := toks_one (e := mkE 5 (tokAt l i).text 0 [] [a] t) rfl rfl rfl rfl rfl rfl (by rw [hb]; rfl) (by rw [hb]; rfl) rfl
  have ga1 := ga.h
  have h1 : ∀ {p : Ex → Prop}, p a → ∀ k ∈ [a], p k := fun h k hk => by rw [List.mem_singleton.1 hk]; exact h
  refine ⟨form_of rfl (h1 ga.f) ?_, szE_of (by show (tokAt l i).text.length ≤ _; omega) (by simp [mkE, Ex.bits]) (by simp [mkE, Ex.kids]) (by intro x hx; simp [mkE, Ex.bits] at hx) (h1 ga.z), smE_of (by show (tokAt l i).text.length ≤ _; omega) (by simp [mkE, Ex.bits]) (h1 ga.m), ?_, ?_, ?_⟩
  · show (operR (tokAt l i).text 1 || _) = true
    rw [operR]
    rcases hs with h | h <;> rw [h] <;> simp
  · rw [kidDp, if_neg (by rw [hb]; decide), t2]
    have : kidDp a ((4 : Nat) : Int) ≤ d - 1 := ga.dp
    have e4 : kidDp ((mkE 5 (tokAt l i).text 0 [] [a] t).kids.getD 0 default) 4 = kidDp a ((4 : Nat) : Int) := rfl
    rw [e4]; omega
  · rw [kidTk, if_neg (by rw [hb]; decide), t1]
    exact sb_cons a1 a2 ga.sb
  · rw [height_eq]
    show max (height a + 1) 0 + 1 ≤ j - i
    have g1 := ga.sb.1
    omega
theorem gd_idx (hw : Wr l) {d i j m : Nat} {e x : Ex} {t : Tk} (ge : Gd l d 5 e i j) (h4 : e.op ≠ 4) (ho : isAt l [sOpen] j = true) (hd : d ≠ 0) (gx : Gd l (d - 1) 0 x (j + 1) m) (hs : isAt l [sShut] m = true) : Gd l d 5 (mkE 6 [] 0 [] [e, x] t) i (m + 1) := by
  have hb : bindsP (mkE 6 [] 0 [] [e, x] t) = 5 := binds_not5 (by simp [mkE, Ex.op])
  obtain ⟨t1, t2⟩ := toks_index (e := mkE 6 [] 0 [] [e, x] t) rfl rfl rfl rfl rfl rfl
  obtain ⟨x1, x2⟩ := gx.tk0
  have g1 := ge.h
  have g2 := gx.h
  refine ⟨form_of rfl (all2 ge.f gx.f) ?_, szE_of (by simp [mkE, Ex.name]) (by simp [mkE, Ex.bits]) (by simp [mkE, Ex.kids]) (by intro x hx; simp [mkE, Ex.bits] at hx) (all2 ge.z gx.z), smE_of (by simp [mkE, Ex.name]) (by simp [mkE, Ex.bits]) (all2 ge.m gx.m), ?_, ?_, ?_⟩
  · show (((2 : Int) == 2) && (e.op != 4)) = true
    simpa using h4
  · rw [kidDp, if_neg (by rw [hb]; decide), t2]
    have := ge.dp
    exact Nat.max_le.2 ⟨this, by show dep x + 1 ≤ d; omega⟩
  · rw [kidTk, if_neg (by rw [hb]; decide), t1]
    exact sb_app ge.sb (sb_br hw ho x1 hs)
  · rw [height_eq]
    show max (height e + 1) (max (height x + 1) 0) + 1 ≤ m + 1 - i
    have := ge.sb.1
    have := gx.sb.1
    omega
theorem gd_slc (hw : Wr l) {d i j m q : Nat} {e hi lo : Ex} {t : Tk} (ge : Gd l d 5 e i j) (ho : isAt l [sOpen] j = true) (hd : d ≠ 0) (gh : Gd l (d - 1) 0 hi (j + 1) m) (hdn : isAt l [sDownto] m = true) (gl : Gd l (d - 1) 0 lo (m + 1) q) (hs : isAt l [sShut] q = true) : Gd l d 5 (mkE 7 [] 0 [] [e, hi, lo] t) i (q + 1) := by
  have hb : bindsP (mkE 7 [] 0 [] [e, hi, lo] t) = 5 := binds_not5 (by simp [mkE, Ex.op])
  obtain ⟨t1, t2⟩ := toks_slice (e := mkE 7 [] 0 [] [e, hi, lo] t) rfl rfl rfl rfl rfl rfl rfl
  obtain ⟨x1, x2⟩ := gh.tk0
  obtain ⟨y1, y2⟩ := gl.tk0
  obtain ⟨d1, d2⟩ := isAt_one hw hdn
  have g1 := ge.h
  have g2 := gh.h
  have g3 := gl.h
  refine ⟨form_of rfl (all3 ge.f gh.f gl.f) rfl, szE_of (by simp [mkE, Ex.name]) (by simp [mkE, Ex.bits]) (by simp [mkE, Ex.kids]) (by intro x hx; simp [mkE, Ex.bits] at hx) (all3 ge.z gh.z gl.z), smE_of (by simp [mkE, Ex.name]) (by simp [mkE, Ex.bits]) (all3 ge.m gh.m gl.m), ?_, ?_, ?_⟩
  · rw [kidDp, if_neg (by rw [hb]; decide), t2]
    have := ge.dp
    exact Nat.max_le.2 ⟨this, by show max (dep hi) (max (dep lo) 0) + 1 ≤ d; omega⟩
  · rw [kidTk, if_neg (by rw [hb]; decide), t1]
    exact sb_app ge.sb (sb_br hw ho (t := toks hi ++ (tkS sDownto :: toks lo)) (sb_app x1 (sb_cons d1 d2 y1)) hs)
  · rw [height_eq]
    show max (height e + 1) (max (height hi + 1) (max (height lo + 1) 0)) + 1 ≤ q + 1 - i
    have := ge.sb.1
    have := gh.sb.1
    have := gl.sb.1
    omega
structure Ga (l : List Tk) (d : Nat) (kids : List Ex) (i j : Nat) : Prop where
  n : kids ≠ []
  sb : Sb l (sepT sComma (kids.map toks)) i j
  k : ∀ k ∈ kids, formP k = true ∧ szE k = true ∧ smE k = true ∧ dep k ≤ d ∧ height k + 1 ≤ j - i
theorem ga_one {d i j : Nat} {e : Ex} (g : Gd l d 0 e i j) : Ga l d [e] i j :=
  ⟨by simp, g.tk0.1, fun k hk => by rw [List.mem_singleton.1 hk]; exact ⟨g.f, g.z, g.m, g.tk0.2, g.h⟩⟩
theorem ga_more (hw : Wr l) {d i j m : Nat} {kids : List Ex} {e : Ex} (h : Ga l d kids i j) (hc : isAt l [sComma] j = true) (g : Gd l d 0 e (j + 1) m) : Ga l d (kids ++ [e]) i m := by
  obtain ⟨c1, c2⟩ := isAt_one hw hc
  have g1 := g.sb.1
  have g2 := h.sb.1
  have g3 := g.h
  refine ⟨by simp, ?_, fun k hk => ?_⟩
  · rw [List.map_append, List.map_cons, List.map_nil, sep_snoc _ _ _ (by have := h.n; simpa using this)]
    exact sb_app h.sb (sb_cons c1 c2 g.tk0.1)
  · rcases List.mem_append.1 hk with hk | hk
    · obtain ⟨k1, k2, k3, k4, k5⟩ := h.k k hk
      exact ⟨k1, k2, k3, k4, by omega⟩
    · rw [List.mem_singleton.1 hk]; exact ⟨g.f, g.z, g.m, g.tk0.2, by omega⟩
theorem maxL_bound {ds : List Nat} {n : Nat} (h : ∀ x ∈ ds, x ≤ n) : maxL ds ≤ n := by
  induction ds with
  | nil => exact Nat.zero_le _
  | cons a r ih => exact Nat.max_le.2 ⟨h a (by simp), ih fun x hx => h x (by simp [hx])⟩
theorem gd_call (hw : Wr l) {d i j m : Nat} {s : Bs} {kids : List Ex} {li co : Int} (hs : Sb l [tkN s] i j) (hn : isNameL s = true) (hij : i < j) (ho : isAt l [sOpen] j = true) (hd : d ≠ 0) (ga : Ga l (d - 1) kids (j + 1) m) (hl : kids.length ≤ 20) (hsh : isAt l [sShut] m = true) :
    Gd l d 5 (.mk 5 s 0 [] va0 kids ty0 li co) i (m + 1) := by
  have hb : bindsP (.mk 5 s 0 [] va0 kids ty0 li co) = 5 := binds_call (e := .mk 5 s 0 [] va0 kids ty0 li co) rfl hn
  obtain ⟨t1, t2⟩ := toks_call (e := .mk 5 s 0 [] va0 kids ty0 li co) rfl rfl rfl rfl rfl rfl (by rw [hb]; rfl)
  have hkl : 1 ≤ kids.length := List.length_pos_iff.2 ga.n
  have hlen := name_len hn
  have gsb := ga.sb.1
  refine ⟨form_of rfl (fun k hk => (ga.k k hk).1) ?_, szE_of (by show s.length ≤ _; omega) (by simp [Ex.bits]) (by show kids.length ≤ _; omega) (by intro x hx; simp [Ex.bits] at hx) (fun k hk => (ga.k k hk).2.1), smE_of (by show s.length ≤ _; omega) (by simp [Ex.bits]) (fun k hk => (ga.k k hk).2.2.1), ?_, ?_, ?_⟩
  · show (operR s (kids.length : Int) || ((isNameL s && decide ((kids.length : Int) ≥ 1)) && decide ((kids.length : Int) ≤ 20))) = true
    rw [hn, decide_eq_true (by omega), decide_eq_true (by omega)]; simp
  · rw [kidDp, if_neg (by rw [hb]; decide), t2]
    have : maxL (kids.map dep) ≤ d - 1 := maxL_bound fun x hx => by
      obtain ⟨k, hk, rfl⟩ := List.mem_map.1 hx
      exact (ga.k k hk).2.2.2.1
    show maxL (kids.map dep) + 1 ≤ d
    omega
  · rw [kidTk, if_neg (by rw [hb]; decide), t1]
    exact sb_app hs (sb_br hw ho ga.sb hsh)
  · rw [height_eq]
    have : heights kids ≤ m - (j + 1) := heights_le fun k hk => (ga.k k hk).2.2.2.2
    show heights kids + 1 ≤ m + 1 - i
    omega
end
end Go.Proofs.YtcgdlhkiecommaaGreatDoor
/- What is read is valid: all ways to read. -/

namespace Go.Proofs.YtcgdlhkiecommaaGreatDoor
open Go
section
variable {l : List Tk}
theorem row_none {m i j : Nat} {g : Flt} {e : Ex} : rowP l (fun _ => .bad g) m i ≠ .ok e j := by
  induction m generalizing e j with
  | zero => intro h; cases h
  | succ m ih =>
    intro h
    rw [rowP] at h
    cases hx : rowP l (fun _ => .bad g) m i with
    | bad g => rw [hx] at h; cases h
    | ok e2 j2 => exact ih hx
def In (l : List Tk) (d : Nat) (inner : Nat → Rd Ex) : Prop := ∀ i e j, inner i = .ok e j → d ≠ 0 ∧ Gd l (d - 1) 0 e i j
theorem gd_loop (hw : Wr l) {nxt : Nat → Rd Ex} (hn : ∀ i, (nxt i).gt i l.length) {d k : Nat} (hk : k < 4) (hx : ∀ i e j, nxt i = .ok e j → Gd l d (k + 1) e i j) {i0 : Nat} : ∀ (f : Nat) (e0 : Ex) (i : Nat) (e : Ex) (j : Nat), i ≤ l.length → Gd l d (if k = 1 then 2 else k) e0 i0 i → rowLoop l nxt k f e0 i = .ok e j → Gd l d k e i0 j := by
  have hdn : ∀ {e i}, Gd l d (if k = 1 then 2 else k) e i0 i → Gd l d k e i0 i := fun g => g.down (by split <;> omega)
  intro f
  induction f with
  | zero => intro e0 i e j _ g h; rw [rowLoop] at h; cases h; exact hdn g
  | succ f ih =>
    intro e0 i e j hi g h
    rw [rowLoop] at h
    split at h
    · rename_i hat
      cases hy : nxt (i + 1) with
      | bad g => rw [hy] at h; cases h
      | ok e2 j2 =>
        rw [hy] at h
        simp only at h
        have g2 := gd_bin (t := tokAt l i) hw hk g hat (hx _ _ _ hy)
        split at h
        · cases h; exact g2
        · rename_i hk1
          exact ih _ j2 e j (hn _ _ _ hy).2 (by rw [if_neg hk1]; exact g2) h
    · cases h; exact hdn g
theorem gd_row (hw : Wr l) {fac : Nat → Rd Ex} (hn : ∀ i, (fac i).gt i l.length) {d : Nat} (hx : ∀ i e j, fac i = .ok e j → Gd l d 4 e i j) : ∀ m, m ≤ 4 → ∀ i e j, rowP l fac m i = .ok e j → Gd l d (4 - m) e i j := by
  intro m
  induction m with
  | zero => intro _; exact hx
  | succ m ih =>
    intro hm i e j h
    rw [rowP] at h
    cases hy : rowP l fac m i with
    | bad g => rw [hy] at h; cases h
    | ok e2 j2 =>
      rw [hy] at h
      simp only at h
      have g := ih (by omega) _ _ _ hy
      rw [show 4 - (m + 1) = 3 - m by omega]
      refine gd_loop hw (row_gt hn m) (k := 3 - m) (by omega) (fun i e j h => by rw [show 3 - m + 1 = 4 - m by omega]; exact ih (by omega) i e j h) _ e2 j2 e j (row_gt hn m _ _ _ hy).2 (g.down (by split <;> omega)) h
theorem gd_slice (hw : Wr l) {d : Nat} {inner : Nat → Rd Ex} (hin : In l d inner) {e hi : Ex} {t : Tk} {i j m q : Nat} {x : Ex} (ge : Gd l d 5 e i j) (ho : isAt l [sOpen] j = true) (gh : Gd l (d - 1) 0 hi (j + 1) m) (h : sliceP l inner e hi t m = .ok x q) : Gd l d 5 x i q := by
  rw [sliceP] at h
  cases h1 : wantP l sDownto m with
  | bad g => rw [h1] at h; cases h
  | ok u j1 =>
    rw [h1] at h; simp only at h
    obtain ⟨rfl, a1⟩ := want_ok h1
    cases h2 : inner (m + 1) with
    | bad g => rw [h2] at h; cases h
    | ok lo k =>
      rw [h2] at h; simp only at h
      obtain ⟨hd, gl⟩ := hin _ _ _ h2
      cases h3 : wantP l sShut k with
      | bad g => rw [h3] at h; cases h
      | ok u j3 =>
        rw [h3] at h; simp only at h
        obtain ⟨rfl, a3⟩ := want_ok h3
        cases h
        exact gd_slc hw ge ho hd gh a1 gl a3
theorem gd_part (hw : Wr l) {d : Nat} {inner : Nat → Rd Ex} (hin : In l d inner) {e : Ex} {i j m : Nat} {x : Ex} (ge : Gd l d 5 e i j) (h : partP l d inner e j = .ok x m) : Gd l d 5 x i m := by
  rw [partP] at h
  cases h1 : openP l d j with
  | bad g => rw [h1] at h; cases h
  | ok u j1 =>
    rw [h1] at h; simp only at h
    obtain ⟨hd, rfl, ho⟩ := open_ok h1
    cases h2 : inner (j + 1) with
    | bad g => rw [h2] at h; cases h
    | ok first k =>
      rw [h2] at h; simp only at h
      obtain ⟨_, gf⟩ := hin _ _ _ h2
      split at h
      · exact gd_slice hw hin ge ho gf h
      · cases h3 : wantP l sShut k with
        | bad g => rw [h3] at h; cases h
        | ok u j3 =>
          rw [h3] at h; simp only at h
          obtain ⟨rfl, a3⟩ := want_ok h3
          cases h
          rw [partE]
          split
          · rename_i h4
            have h4' : e.op = 4 := by simpa using h4
            have hT := form_op ge.f
            rw [tailR, h4'] at hT
            simp only [show ((4 : Int) == 1) = false from rfl, show ((4 : Int) == 2) = false from rfl, show ((4 : Int) == 3) = false from rfl, show ((4 : Int) == 4) = true from rfl, cond_true, cond_false, Bool.and_eq_true] at hT
            have hs := ge.sb
            rw [kidTk, if_neg (by rw [binds_not5 (by omega)]; decide), (toks_name (by rw [h4']; rfl) (by rw [h4']; rfl) (by rw [h4']; rfl) (by rw [h4']; rfl)).1] at hs
            have := ge.h
            exact gd_call hw hs hT.1 (by omega) ho hd (ga_one gf) (by simp) a3
          · rename_i h4
            exact gd_idx hw ge (by simpa using h4) ho hd gf a3
theorem gd_parts (hw : Wr l) {d : Nat} {inner : Nat → Rd Ex} (hin : In l d inner) {i : Nat} : ∀ (f : Nat) (e0 : Ex) (j : Nat) (e : Ex) (m : Nat), Gd l d 5 e0 i j → partsP l d inner f e0 j = .ok e m → Gd l d 5 e i m := by
  intro f
  induction f with
  | zero => intro e0 j e m g h; rw [partsP] at h; cases h; exact g
  | succ f ih =>
    intro e0 j e m g h
    rw [partsP] at h
    split at h
    · cases hy : partP l d inner e0 j with
      | bad g => rw [hy] at h; cases h
      | ok e2 j2 =>
        rw [hy] at h; simp only at h
        exact ih _ _ _ _ (gd_part hw hin g hy) h
    · cases h; exact g
theorem ga_args (hw : Wr l) {d : Nat} {inner : Nat → Rd Ex} (hin : In l d inner) {i : Nat} : ∀ (f : Nat) (ks : List Ex) (j : Nat) (x : List Ex) (m : Nat), Ga l (d - 1) ks i j → argsP l inner f ks j = .ok x m → Ga l (d - 1) x i m ∧ x.length ≤ ks.length + f := by
  intro f
  induction f with
  | zero =>
    intro ks j x m g h
    rw [argsP] at h
    split at h
    · cases h
    · cases h; exact ⟨g, Nat.le_refl _⟩
  | succ f ih =>
    intro ks j x m g h
    rw [argsP] at h
    split at h
    · rename_i hc
      cases hy : inner (j + 1) with
      | bad g => rw [hy] at h; cases h
      | ok e2 j2 =>
        rw [hy] at h; simp only at h
        obtain ⟨g1, g2⟩ := ih _ _ _ _ (ga_more hw g hc (hin _ _ _ hy).2) h
        refine ⟨g1, ?_⟩
        rw [List.length_append] at g2; simp only [List.length_cons, List.length_nil] at g2; omega
    · cases h; exact ⟨g, by omega⟩
theorem name_at (hw : Wr l) {i : Nat} (h : ((tokAt l i).op == 1) = true) : i < l.length ∧ isNameL (tokAt l i).text = true ∧ tkey (tkN (tokAt l i).text) = tkey (tokAt l i) := by
  have hi := op_lt (l := l) (i := i) (k := 1) (by simpa using h) (by decide)
  have hp := hw i hi
  rw [possT, h, cond_true, Bool.and_eq_true, beq_iff_eq] at hp
  rw [beq_iff_eq] at h
  exact ⟨hi, hp.2, by rw [tkey, tkey, h, hp.1]; rfl⟩
theorem gd_name (hw : Wr l) {d k i : Nat} {t : Tk} (h : ((tokAt l i).op == 1) = true) (hk : k ≤ 5) : Gd l d k (mkE 4 (tokAt l i).text 0 [] [] t) i (i + 1) := by
  obtain ⟨a1, a2, a3⟩ := name_at hw h
  have hl := name_len a2
  have := toks_name (e := mkE 4 (tokAt l i).text 0 [] [] t) rfl rfl rfl rfl
  refine gd_leaf (t := tkN (tokAt l i).text) (form_of rfl (by intro k hk; cases hk) ?_) (szE_of (by show (tokAt l i).text.length ≤ _; omega) (by simp [mkE, Ex.bits]) (by simp [mkE, Ex.kids]) (by intro x hx; simp [mkE, Ex.bits] at hx) (by intro k hk; cases hk)) (smE_of (by show (tokAt l i).text.length ≤ _; omega) (by simp [mkE, Ex.bits]) (by intro k hk; cases hk)) (binds_not5 (by simp [mkE, Ex.op])) this.1 this.2 a1 a3 rfl hk
  show (isNameL (tokAt l i).text && ((0 : Int) == 0)) = true
  rw [a2]; rfl
theorem gd_named (hw : Wr l) {d : Nat} {inner : Nat → Rd Ex} (hin : In l d inner) {i m : Nat} {x : Ex} (h : namedP l d inner i = .ok x m) : Gd l d 5 x i m := by
  rw [namedP] at h
  split at h
  · rename_i h1
    obtain ⟨a1, a2, a3⟩ := name_at hw h1
    split at h
    · rename_i ho
      cases hp : openP l d (i + 1) with
      | bad g => rw [hp] at h; cases h
      | ok u j1 =>
        rw [hp] at h; simp only at h
        obtain ⟨hd, rfl, _⟩ := open_ok hp
        cases h2 : inner (i + 1 + 1) with
        | bad g => rw [h2] at h; cases h
        | ok first k =>
          rw [h2] at h; simp only at h
          obtain ⟨_, gf⟩ := hin _ _ _ h2
          split at h
          · exact gd_slice hw hin (gd_name hw h1 (Nat.le_refl 5)) ho gf h
          · cases h5 : argsP l inner 19 [first] k with
            | bad g => rw [h5] at h; cases h
            | ok ks m2 =>
              rw [h5] at h; simp only at h
              obtain ⟨g1, g2⟩ := ga_args hw hin _ _ _ _ _ (ga_one gf) h5
              cases h3 : wantP l sShut m2 with
              | bad g => rw [h3] at h; cases h
              | ok u j3 =>
                rw [h3] at h; simp only at h
                obtain ⟨rfl, a5⟩ := want_ok h3
                cases h
                exact gd_call hw (sb_one a1 a3) a2 (by omega) ho hd g1 (by simpa using g2) a5
    · cases h; exact gd_name hw h1 (Nat.le_refl 5)
  · cases h
theorem vec_bits {s : Bs} (h : isVecL s = true) : isBits (parseBits s) = true ∧ (∀ x ∈ parseBits s, 0 ≤ x) ∧ bitsT (parseBits s) = s ∧ (parseBits s).length = s.length ∧ s.length ≤ 64 := by
  have hp : parseBits s = (s.map bitCode).reverse := by rw [parseBits, h]; rfl
  have h0 := h
  simp only [isVecL, Bool.and_eq_true, decide_eq_true_eq, Bool.not_eq_true'] at h
  obtain ⟨h1, h2, h3⟩ := h
  have hb : ∀ c ∈ s, 0 ≤ bitCode c ∧ bitCode c ≤ 3 ∧ bitC (bitCode c) = c := by
    intro c hc
    have := List.all_eq_true.1 h3 c hc
    simp only [isBitC, Bool.or_eq_true, beq_iff_eq] at this
    rcases this with rfl | rfl | rfl | rfl <;> decide +kernel
  have hl : (parseBits s).length = s.length := by rw [hp]; simp
  have hx : ∀ x ∈ parseBits s, 0 ≤ x ∧ x ≤ 3 := by
    intro x hx
    rw [hp, List.mem_reverse, List.mem_map] at hx
    obtain ⟨c, hc, rfl⟩ := hx
    exact ⟨(hb c hc).1, (hb c hc).2.1⟩
  refine ⟨?_, fun x h => (hx x h).1, ?_, hl, h2⟩
  · have hne : s ≠ [] := by intro e; rw [e] at h1; cases h1
    have := List.length_pos_iff.2 hne
    have h4 : ((parseBits s).any fun x => !(decide (x ≤ 3))) = false := by
      rw [List.any_eq_false]
      intro x h
      simpa using (hx x h).2
    rw [isBits, h4, hl, decide_eq_true (by omega), decide_eq_true (by omega)]; rfl
  · rw [bitsT, hp, List.map_reverse, List.reverse_reverse, List.map_map]
    have : s.map (bitC ∘ bitCode) = s.map id := List.map_congr_left fun c hc => (hb c hc).2.2
    rw [this, List.map_id]
theorem tw_len {p : UInt8 → Bool} {s : Bs} (h : (((s.drop 0).takeWhile p).length : Int) = (s.length : Int)) : s.all p = true := by
  rw [List.drop_zero] at h
  induction s with
  | nil => rfl
  | cons a r ih =>
    rw [List.takeWhile_cons] at h
    cases ha : p a with
    | false => rw [ha] at h; simp at h; omega
    | true =>
      rw [ha] at h
      simp only [if_true, List.length_cons] at h
      rw [List.all_cons, ha, ih (by omega)]; rfl
theorem vec_at (hw : Wr l) {i : Nat} (h : (tokAt l i).op = 4 ∨ (tokAt l i).op = 5) : i < l.length ∧ isVecL (tokAt l i).text = true ∧ (tokAt l i).n = 0 ∧ ((tokAt l i).op = 4 → (tokAt l i).text.length = 1) := by
  have hi : i < l.length := by rcases h with h | h; exact op_lt h (by decide); exact op_lt h (by decide)
  have hp := hw i hi
  rcases h with h | h
  · rw [possT, h] at hp
    simp only [show ((4 : Int) == 1) = false from rfl, show ((4 : Int) == 2) = false from rfl, show ((4 : Int) == 3) = false from rfl, show ((4 : Int) == 4) = true from rfl, cond_true, cond_false, Bool.and_eq_true, beq_iff_eq] at hp
    obtain ⟨⟨h1, h2⟩, h3⟩ := hp
    obtain ⟨c, hc⟩ : ∃ c, (tokAt l i).text = [c] := List.length_eq_one_iff.1 (by omega)
    rw [hc] at h3
    refine ⟨hi, ?_, h1, fun _ => by omega⟩
    rw [hc, isVecL]
    have : isBitC c = true := h3
    simp [this]
  · rw [possT, h] at hp
    simp only [show ((5 : Int) == 1) = false from rfl, show ((5 : Int) == 2) = false from rfl, show ((5 : Int) == 3) = false from rfl, show ((5 : Int) == 4) = false from rfl, show ((5 : Int) == 5) = true from rfl, cond_true, cond_false, Bool.and_eq_true, beq_iff_eq, decide_eq_true_eq] at hp
    obtain ⟨⟨⟨h1, h2⟩, h3⟩, h4⟩ := hp
    refine ⟨hi, ?_, h1, fun e => by omega⟩
    have ha : (tokAt l i).text.all isBitC = true := tw_len (p := fun c => ofK c 2) h4
    have hne : (tokAt l i).text.isEmpty = false := by
      cases hx : (tokAt l i).text with
      | nil => rw [hx] at h2; simp at h2
      | cons a r => rfl
    rw [isVecL, ha, hne, decide_eq_true (by omega)]; rfl
theorem gd_int (hw : Wr l) {d k i : Nat} {t : Tk} (h : (tokAt l i).op = 3) (hk : k ≤ 5) : Gd l d k (mkE 1 [] (tokAt l i).n [] [] t) i (i + 1) := by
  have hi : i < l.length := op_lt h (by decide)
  have hp := hw i hi
  rw [possT, h] at hp
  simp only [show ((3 : Int) == 1) = false from rfl, show ((3 : Int) == 2) = false from rfl, show ((3 : Int) == 3) = true from rfl, cond_true, cond_false, Bool.and_eq_true, beq_iff_eq, decide_eq_true_eq] at hp
  obtain ⟨⟨h1, h2⟩, h3⟩ := hp
  have := toks_int (e := mkE 1 [] (tokAt l i).n [] [] t) rfl
  refine gd_leaf (t := ⟨3, [], (tokAt l i).n, 0, 0⟩) (form_of rfl (by intro k hk; cases hk) ?_) (szE_of (by simp [mkE, Ex.name]) (by simp [mkE, Ex.bits]) (by simp [mkE, Ex.kids]) (by intro x hx; simp [mkE, Ex.bits] at hx) (by intro k hk; cases hk)) (smE_of (by simp [mkE, Ex.name]) (by simp [mkE, Ex.bits]) (by intro k hk; cases hk)) (binds_not5 (by simp [mkE, Ex.op])) this.1 this.2 hi ?_ rfl hk
  · show ((decide ((tokAt l i).n ≥ 0) && decide ((tokAt l i).n ≤ 2147483647)) && ((0 : Int) == 0)) = true
    rw [decide_eq_true (by omega), decide_eq_true (by omega)]; rfl
  · rw [tkey, tkey, h, h1]
theorem gd_bit (hw : Wr l) {d k i : Nat} {t : Tk} (h : (tokAt l i).op = 4) (hk : k ≤ 5) : Gd l d k (mkE 2 [] 0 (parseBits (tokAt l i).text) [] t) i (i + 1) := by
  obtain ⟨hi, hv, hn, h1⟩ := vec_at hw (.inl h)
  obtain ⟨b1, b2, b3, b4, b5⟩ := vec_bits hv
  have := toks_bit (e := mkE 2 [] 0 (parseBits (tokAt l i).text) [] t) rfl rfl
  refine gd_leaf (t := ⟨4, bitsT (parseBits (tokAt l i).text), 0, 0, 0⟩) (form_of rfl (by intro k hk; cases hk) ?_) (szE_of (by simp [mkE, Ex.name]) (by show (parseBits (tokAt l i).text).length ≤ _; omega) (by simp [mkE, Ex.kids]) b2 (by intro k hk; cases hk)) (smE_of (by simp [mkE, Ex.name]) (by show (parseBits (tokAt l i).text).length ≤ _; omega) (by intro k hk; cases hk)) (binds_not5 (by simp [mkE, Ex.op])) this.1 this.2 hi ?_ rfl hk
  · show ((((parseBits (tokAt l i).text).length : Int) == 1) && isBits (parseBits (tokAt l i).text)) && ((0 : Int) == 0) = true
    rw [b1, b4, h1 h]; rfl
  · rw [b3, tkey, tkey, h, hn]
theorem gd_vec (hw : Wr l) {d k i : Nat} {t : Tk} (h : (tokAt l i).op = 5) (hk : k ≤ 5) : Gd l d k (mkE 3 [] 0 (parseBits (tokAt l i).text) [] t) i (i + 1) := by
  obtain ⟨hi, hv, hn, h1⟩ := vec_at hw (.inr h)
  obtain ⟨b1, b2, b3, b4, b5⟩ := vec_bits hv
  have := toks_vec (e := mkE 3 [] 0 (parseBits (tokAt l i).text) [] t) rfl rfl rfl
  refine gd_leaf (t := ⟨5, bitsT (parseBits (tokAt l i).text), 0, 0, 0⟩) (form_of rfl (by intro k hk; cases hk) ?_) (szE_of (by simp [mkE, Ex.name]) (by show (parseBits (tokAt l i).text).length ≤ _; omega) (by simp [mkE, Ex.kids]) b2 (by intro k hk; cases hk)) (smE_of (by simp [mkE, Ex.name]) (by show (parseBits (tokAt l i).text).length ≤ _; omega) (by intro k hk; cases hk)) (binds_not5 (by simp [mkE, Ex.op])) this.1 this.2 hi ?_ rfl hk
  · show isBits (parseBits (tokAt l i).text) && ((0 : Int) == 0) = true
    rw [b1]; rfl
  · rw [b3, tkey, tkey, h, hn]
theorem gd_prim (hw : Wr l) {d : Nat} {inner : Nat → Rd Ex} (hin : In l d inner) {i m : Nat} {x : Ex} (h : primP l d inner i = .ok x m) : Gd l d 5 x i m := by
  rw [primP] at h
  split at h
  · rename_i h1; exact gd_parts hw hin _ _ _ _ _ (gd_int hw (by simpa using h1) (Nat.le_refl 5)) h
  · split at h
    · rename_i h1; exact gd_parts hw hin _ _ _ _ _ (gd_bit hw (by simpa using h1) (Nat.le_refl 5)) h
    · split at h
      · rename_i h1; exact gd_parts hw hin _ _ _ _ _ (gd_vec hw (by simpa using h1) (Nat.le_refl 5)) h
      · split at h
        · cases h2 : namedP l d inner i with
          | bad g => rw [h2] at h; cases h
          | ok e j => rw [h2] at h; simp only at h; exact gd_parts hw hin _ _ _ _ _ (gd_named hw hin h2) h
        · cases hp : openP l d i with
          | bad g => rw [hp] at h; cases h
          | ok u j1 =>
            rw [hp] at h; simp only at h
            obtain ⟨hd, rfl, ho⟩ := open_ok hp
            cases h2 : inner (i + 1) with
            | bad g => rw [h2] at h; cases h
            | ok e j =>
              rw [h2] at h; simp only at h
              cases h3 : wantP l sShut j with
              | bad g => rw [h3] at h; cases h
              | ok u j3 =>
                rw [h3] at h; simp only at h
                obtain ⟨rfl, a3⟩ := want_ok h3
                exact gd_parts hw hin _ _ _ _ _ (Gd.br hw ho hd (hin _ _ _ h2).2 a3) h
theorem gd_factor (hw : Wr l) : ∀ d i e j, factor l d i = .ok e j → Gd l d 4 e i j := by
  intro d
  induction d with
  | zero =>
    intro i e j h
    rw [factor, facP] at h
    split at h
    · rw [intoP] at h; cases h
    · exact (gd_prim hw (fun i e j h => absurd h row_none) h).down (by omega)
  | succ d ih =>
    intro i e j h
    rw [factor, facP] at h
    split at h
    · rename_i hat
      cases h1 : intoP l (d + 1) i with
      | bad g => rw [h1] at h; cases h
      | ok u j1 =>
        rw [h1] at h; simp only at h
        obtain ⟨hd, rfl⟩ := into_ok h1
        cases h2 : factor l d (i + 1) with
        | bad g => rw [h2] at h; cases h
        | ok e2 k =>
          rw [h2] at h; simp only at h
          cases h
          exact gd_un hw hat hd (ih _ _ _ h2)
    · exact (gd_prim hw (fun i e j h => ⟨Nat.succ_ne_zero d, gd_row hw (factor_gt d) ih 4 (Nat.le_refl 4) i e j h⟩) h).down (by omega)
theorem gd_all (hw : Wr l) {d i j : Nat} {e : Ex} (h : rowD l d 4 i = .ok e j) : Gd l d 0 e i j := gd_row hw (factor_gt d) (gd_factor hw d) 4 (Nat.le_refl 4) i e j h
end
end Go.Proofs.YtcgdlhkiecommaaGreatDoor
/- What the laws without the reference ask, of trees and tokens alone. -/



namespace Go.Proofs.YtcgdlhkiecommaaGreatDoor
open Go
theorem szX_of {e : Ex} (h1 : e.name.length ≤ 140737488355328) (h2 : e.bits.length ≤ 140737488355328) (h3 : e.kids.length ≤ 140737488355328) (h4 : szV e.val = true) (h5 : szT e.type = true) (h6 : ∀ k ∈ e.kids, szX k = true) : szX e = true := by
  have hl : ∀ l : List Ex, (∀ k ∈ l, szX k = true) → szXs l = true := by
    intro l
    induction l with
    | nil => intro _; rfl
    | cons a l ih => intro h; rw [szXs, h a (by simp), ih fun k hk => h k (by simp [hk])]; rfl
  cases e with
  | mk o s n b v k t l c =>
    rw [szX, hl k h6]
    have h1 : s.length ≤ 140737488355328 := h1
    have h2 : b.length ≤ 140737488355328 := h2
    have h3 : k.length ≤ 140737488355328 := h3
    have h4 : szV v = true := h4
    have h5 : szT t = true := h5
    rw [decide_eq_true h1, decide_eq_true h2, decide_eq_true h3, h4, h5]; rfl
theorem szX_form (e : Ex) : formP e = true → szE e = true → szX e = true := by
  induction e using Ex.ind with
  | h e ih =>
    intro hf hz
    obtain ⟨z1, z2, z3, z4, z5⟩ := szE_facts hz
    have hf1 := hf
    rw [formH, Bool.and_eq_true, Bool.not_eq_true'] at hf1
    have hb := hf1.1
    rw [headR, bareR] at hb
    rw [Bool.or_eq_false_iff, Bool.or_eq_false_iff, Bool.or_eq_false_iff, Bool.not_eq_false', Bool.and_eq_true] at hb
    obtain ⟨⟨⟨⟨hu, hn⟩, _⟩, _⟩, _⟩ := hb
    refine szX_of (by omega) (by omega) (by omega) ?_ ?_ (fun k hk => ih k hk (form_kid hf k hk) (z5 k hk))
    · simp only [noneV, Bool.and_eq_true, beq_iff_eq] at hn
      have h3 : e.val.bits = [] := List.length_eq_zero_iff.1 (by omega)
      have h4 : e.val.list = [] := List.length_eq_zero_iff.1 (by omega)
      cases hv : e.val with
      | mk k n b l =>
        rw [hv] at h3 h4
        have h3 : b = [] := h3
        have h4 : l = [] := h4
        rw [h3, h4]; rfl
    · simp only [untyped, Bool.and_eq_true, beq_iff_eq] at hu
      have h2 : e.type.name = [] := hu.1.1.2
      have h3 : e.type.names = [] := List.length_eq_zero_iff.1 (by omega)
      have h4 : e.type.elem = [] := List.length_eq_zero_iff.1 (by omega)
      cases hv : e.type with
      | mk k n s b l =>
        rw [hv] at h2 h3 h4
        have h2 : s = [] := h2
        have h3 : b = [] := h3
        have h4 : l = [] := h4
        rw [h2, h3, h4]; rfl
theorem poss_key (t : Tk) : possT t = possT ⟨(tkey t).1, (tkey t).2.1, (tkey t).2.2, 0, 0⟩ := rfl
theorem poss_of_key {s t : Tk} (h : tkey s = tkey t) (hp : possT t = true) : possT s = true := by rw [poss_key, h, ← poss_key]; exact hp
theorem wr_of {l : List Tk} (h : ∀ t ∈ l, possT t = true) : Wr l := fun i hi => h _ (getD_mem hi)
section
variable {l : List Tk}
end
section
variable {l : List Tk} {i : Nat}
end
def long5 (l : List Tk) : Bool := if decide ((l.length : Int) > 400) = true then true else decide ((sumT [] l l.length : Int) > 5000)
theorem sum_succ (l : List Tk) (i : Nat) : ((sumT [] l (i + 1) : Nat) : Int) = (sumT [] l i : Int) + min ((l.getD i default).text.length : Int) 5000 := by
  simp only [sumT]; omega
theorem long5_facts {l : List Tk} (h : long5 l = false) : l.length ≤ 400 ∧ sumT [] l l.length ≤ 5000 := by
  rw [long5] at h
  split at h
  · cases h
  · rename_i h1
    rw [decide_eq_true_eq] at h1
    rw [decide_eq_false_iff_not] at h
    exact ⟨by omega, by omega⟩
theorem oks_in {l : List Tk} (h : TksIn l) : OKTs l := fun t ht => ⟨(h.1 t ht).len, (h.1 t ht).n0, (h.1 t ht).n1⟩
theorem wtot5 {l : List Tk} (hp : ∀ t ∈ l, possT t = true) (h : long5 l = false) : wtot l ≤ 9400 := by
  obtain ⟨h1, h2⟩ := long5_facts h
  have h3 := wtot_sum hp
  rw [sumT_take l l.length (Nat.le_refl _), List.take_length] at h2
  omega
mutual
def placE : Ex → Ex → Bool
  | .mk o s n b v k t l c, u => (sameE (.mk o s n b v k t l c) u && (l == u.line && c == u.col)) && placEs k u.kids
def placEs : List Ex → List Ex → Bool
  | [], [] => true
  | v :: r, w :: s => placE v w && placEs r s
  | _, _ => false
end
theorem placEs_all : placEs = allSame placE := by
  funext a
  induction a with
  | nil => funext b; cases b <;> simp [placEs, allSame]
  | cons x a ih => funext b; cases b <;> simp [placEs, allSame, ih]
theorem placE_eq (a b : Ex) : placE a b = ((sameE a b && (a.line == b.line && a.col == b.col)) && allSame placE a.kids b.kids) := by rw [← placEs_all]; cases a; rfl
theorem placE_no {a b : Ex} (h : ((!(sameE a b) || (a.line != b.line)) || (a.col != b.col)) = true) : placE a b = false := by
  rw [placE_eq]
  simp only [Bool.or_eq_true, Bool.not_eq_true', bne_iff_ne] at h
  rcases h with (h | h) | h
  · rw [h]; rfl
  · rw [show (a.line == b.line) = false by simpa using h]; simp
  · rw [show (a.col == b.col) = false by simpa using h]; simp
theorem placE_yes {a b : Ex} (h : ((!(sameE a b) || (a.line != b.line)) || (a.col != b.col)) = false) : ((a.kids.length : Int) != (b.kids.length : Int)) = false ∧ placE a b = allSame placE a.kids b.kids := by
  simp only [Bool.or_eq_false_iff, Bool.not_eq_false', bne_eq_false_iff_eq] at h
  obtain ⟨⟨h1, h2⟩, h3⟩ := h
  have hk := h1
  rw [sameE_eq, sameEs_all] at hk
  simp only [Bool.and_eq_true] at hk
  have := allSame_len hk.2.2.2.2.2.2
  refine ⟨by rw [bne_eq_false_iff_eq]; omega, ?_⟩
  rw [placE_eq, h1, h2, h3]; simp
theorem placE_self (v : Ex) : placE v v = true := by
  induction v using Ex.ind with
  | h v ih => rw [placE_eq, sameE_self, allSame_self ih]; simp
theorem readP_no {α : Type} {z : α} {l : List Tk} {p : Int} {x : Nat → Rd α} (hx : ∀ i g, x i = .bad g → (g.code != 0) = true) (h : ((readP z l p x).2.2.code != 0) = true) : (readP z l p x).1 = z ∧ (readP z l p x).2.1 = 0 := by
  unfold readP at *
  split at h
  · rename_i h1; rw [if_pos h1]; exact ⟨rfl, rfl⟩
  · rename_i h1
    rw [if_neg h1]
    cases hy : x p.toNat with
    | bad g => exact ⟨rfl, rfl⟩
    | ok e j => rw [hy] at h; cases h
theorem readP_yes {α : Type} {z : α} {l : List Tk} {p : Int} {x : Nat → Rd α} (hx : ∀ i g, x i = .bad g → (g.code != 0) = true) (h : ((readP z l p x).2.2.code != 0) = false) : (textP l).2 = 0 ∧ ∃ i j : Nat, ∃ e, p = (i : Int) ∧ i ≤ l.length ∧ x i = .ok e j ∧ readP z l p x = (e, (j : Int), okF) := by
  cases hc : (((textP l).2 != 0 || decide (p < 0)) || decide (p > (l.length : Int))) with
  | true => rw [readP_arg hc] at h; cases h
  | false =>
    have hc2 := hc
    simp only [Bool.or_eq_false_iff, bne_eq_false_iff_eq, decide_eq_false_iff_not] at hc2
    obtain ⟨⟨h1, h2⟩, h3⟩ := hc2
    obtain ⟨i, rfl⟩ := Int.eq_ofNat_of_zero_le (show 0 ≤ p by omega)
    refine ⟨h1, i, ?_⟩
    cases hy : x i with
    | bad g =>
      rw [readP_bad hc hy] at h
      rw [hx i g hy] at h; cases h
    | ok e j => exact ⟨j, e, rfl, by omega, rfl, readP_ok hc hy⟩
end Go.Proofs.YtcgdlhkiecommaaGreatDoor
/- What ExprShort and ExprBrackets ask. -/


namespace Go.Proofs.YtcgdlhkiecommaaGreatDoor
open Go
structure SH (P : Program) (l : List Tk) (i j : Nat) (e : Ex) : Prop where
  gt : i < j
  le : j ≤ l.length
  w : OKW P e
  v : validP e = true
  tk : OKTs (toks e)
  x : szX e = true
  tx : textE e = (joinT (toks e), 0)
  jl : (joinT (toks e)).length ≤ 20000
  lx : ∃ m, lexP (joinT (toks e)) = (m, okF) ∧ m.length ≤ j - i
  ag : readP ex0 (l.take j) i (fun i => rowD (l.take j) 40 4 i) = (e, (j : Int), okF)
theorem seg_len (l : List Tk) (i j : Nat) : (seg l i j).length ≤ j - i := by rw [seg, List.length_take]; omega
theorem seg_sub (l : List Tk) (i j : Nat) : (seg l i j).Sublist (l.map tkey) := (List.take_sublist _ _).trans (List.drop_sublist _ _)
theorem wtot_key (a : List Tk) : wtot a = ((a.map tkey).map fun k => (wri ⟨k.1, k.2.1, k.2.2, 0, 0⟩).length + 1).sum := by rw [List.map_map]; rfl
theorem sum_sub {a b : List Nat} (h : a.Sublist b) : a.sum ≤ b.sum := by
  induction h with
  | slnil => exact Nat.le_refl _
  | cons x _ ih => rw [List.sum_cons]; omega
  | cons_cons x _ ih => rw [List.sum_cons, List.sum_cons]; omega
theorem wtot_sub {a b : List Tk} (h : (a.map tkey).Sublist (b.map tkey)) : wtot a ≤ wtot b := by
  rw [wtot_key, wtot_key]
  exact sum_sub (h.map _)
theorem sub_poss {a b : List Tk} (h : (a.map tkey).Sublist (b.map tkey)) (hp : ∀ t ∈ b, possT t = true) : ∀ t ∈ a, possT t = true := by
  intro t ht
  have h1 : tkey t ∈ b.map tkey := h.subset (List.mem_map_of_mem ht)
  obtain ⟨s, hs, e⟩ := List.mem_map.1 h1
  exact poss_of_key e.symm (hp s hs)
theorem text_poss {l : List Tk} (h : (textP l).2 = 0) : l.length ≤ 20000 ∧ ∀ t ∈ l, possT t = true := by
  obtain ⟨h1, h2⟩ := textP_wr h
  exact ⟨h1, fun t ht => by rw [← wr_poss]; exact h2 t ht⟩
theorem sh_of {P : Program} (hb : BT P) {l : List Tk} {i j : Nat} {e : Ex} (ht : (textP l).2 = 0) (hi : i ≤ l.length) (hw5 : wtot l ≤ 9400) (h : rowD l 40 4 i = .ok e j) : SH P l i j e := by
  obtain ⟨h1, hp⟩ := text_poss ht
  have g := gd_all (wr_of hp) h
  have hgt := rowD_gt 40 4 i _ _ h
  obtain ⟨t1, t2⟩ := g.tk0
  have hsub : ((toks e).map tkey).Sublist (l.map tkey) := t1.2.trans (seg_sub l i j)
  have hlen : (toks e).length ≤ j - i := by
    have := t1.2.length_le
    rw [List.length_map] at this
    have := seg_len l i j
    omega
  have hpe := sub_poss hsub hp
  have hwt := wtot_sub hsub
  have hjl := joinT_len (toks e)
  have hh := g.h
  have hv : validP e = true := by
    rw [validP, shapes_form e 0 (by omega), g.f, Bool.true_and, decide_eq_true_eq]; omega
  have htx : textE e = (joinT (toks e), 0) := by
    rw [textE, hv]; exact textP_T hpe (by omega)
  obtain ⟨b1, b2⟩ := back_lex hpe (by omega)
  have hal := alike_length b2
  have htp : textP (l.take j) = (joinT (l.take j), 0) := textP_T (fun t ht => hp t (List.mem_of_mem_take ht)) (by rw [List.length_take]; omega)
  refine ⟨hgt.1, hgt.2, ⟨g.z, .inr hb, by omega, by omega⟩, hv, fun t ht => poss_ok (hpe t ht), szX_form e g.f g.z, htx, by omega, ⟨_, by rw [← b1], by omega⟩, ?_⟩
  refine readP_ok ?_ (rowD_pre hgt.2 40 4 i e j h (Nat.le_refl j))
  rw [htp, List.length_take]
  simp only [Bool.or_eq_false_iff, bne_eq_false_iff_eq, decide_eq_false_iff_not]
  exact ⟨⟨trivial, by omega⟩, by omega⟩
theorem long_guard {l : List Tk} {p : Int} (h : ((long5 l || decide (p < 0)) || decide (p > (l.length : Int))) = false) : long5 l = false ∧ 0 ≤ p ∧ p ≤ (l.length : Int) := by
  simp only [Bool.or_eq_false_iff, decide_eq_false_iff_not] at h
  exact ⟨h.1.1, by omega, by omega⟩
end Go.Proofs.YtcgdlhkiecommaaGreatDoor
/- One byte is sought in a string of any length. -/


namespace Go.Proofs.YtcgdlhkiecommaaGreatDoor
open Go Go.RowKit
theorem q_lindexByte (s : Bs) (c : UInt8) : ACp Tryz.prog 201 [.v (.string (str s)), .v (.int .u8 (c.toNat : Int))] (.v (.int .i64 (Lib.indexByte s c))) :=
  acp_below (vs := [.string (str s), .int .u8 (c.toNat : Int)]) rfl fun ok w hg => (shelf_stringslite_IndexByte (str s) c.toNat w).mono fun e w' ⟨h1, h2⟩ => by
    subst h2
    refine ⟨?_, Below.refl _ _⟩
    rw [h1]
    have e1 : ((c.toNat : Int)).toNat.toUInt8 = c := by simp
    rw [e1]; rfl
theorem index_self {s : Bs} {c : UInt8} (h : ((([c] : Bs).length : Int) == 0 || ([c] == s)) = true) : (0 : Int) = Lib.indexByte s c := by
  have h1 : [c] = s := by simpa using h
  rw [← h1, indexByte_eq]; simp
theorem contains_index (s : Bs) (c : UInt8) : decide (Lib.indexByte s c ≥ 0) = Lib.contains s [c] := by
  rw [contains_one, indexByte_eq]
  cases s.contains c <;> simp
end Go.Proofs.YtcgdlhkiecommaaGreatDoor
/- Sameness, as the reference asks it. -/

namespace Go.Proofs.YtcgdlhkiecommaaGreatDoor
open Go
theorem sameV_no {a b : Va} (h : ((((a.kind != b.kind) || (a.n != b.n)) || !(a.bits == b.bits)) || ((a.list.length : Int) != (b.list.length : Int))) = true) : sameV a b = false := by
  rw [sameV_eq, sameVs_all]
  simp only [Bool.or_eq_true, Bool.not_eq_true'] at h
  rcases h with ((h | h) | h) | h
  · have : (a.kind == b.kind) = false := by simpa using h
    rw [this]; rfl
  · have : (a.n == b.n) = false := by simpa using h
    rw [this]; simp
  · rw [h]; simp
  · rw [alls_len h]; simp
theorem sameV_yes {a b : Va} (h : ((((a.kind != b.kind) || (a.n != b.n)) || !(a.bits == b.bits)) || ((a.list.length : Int) != (b.list.length : Int))) = false) : ((a.list.length : Int) != (b.list.length : Int)) = false ∧ sameV a b = allSame sameV a.list b.list := by
  rw [sameV_eq, sameVs_all]
  simp only [Bool.or_eq_false_iff, Bool.not_eq_false', bne_eq_false_iff_eq] at h
  obtain ⟨⟨⟨h1, h2⟩, h3⟩, h4⟩ := h
  refine ⟨bne_eq_false_iff_eq.2 h4, ?_⟩
  rw [h1, h2, h3]; simp
theorem sameT_no {a b : Ty} (h : (((((a.kind != b.kind) || (a.len != b.len)) || (a.name != b.name)) || ((a.names.length : Int) != (b.names.length : Int))) || ((a.elem.length : Int) != (b.elem.length : Int))) = true) : sameT a b = false := by
  rw [sameT_eq, sameTs_all]
  simp only [Bool.or_eq_true] at h
  rcases h with (((h | h) | h) | h) | h
  · have : (a.kind == b.kind) = false := by simpa using h
    rw [this]; rfl
  · have : (a.len == b.len) = false := by simpa using h
    rw [this]; simp
  · have : (a.name == b.name) = false := by simpa using h
    rw [this]; simp
  · rw [leq_len h]; simp
  · rw [alls_len h]; simp
theorem sameT_yes {a b : Ty} (h : (((((a.kind != b.kind) || (a.len != b.len)) || (a.name != b.name)) || ((a.names.length : Int) != (b.names.length : Int))) || ((a.elem.length : Int) != (b.elem.length : Int))) = false) : ((a.names.length : Int) != (b.names.length : Int)) = false ∧ ((a.elem.length : Int) != (b.elem.length : Int)) = false ∧ sameT a b = ((a.names == b.names) && allSame sameT a.elem b.elem) := by
  rw [sameT_eq, sameTs_all]
  simp only [Bool.or_eq_false_iff, bne_eq_false_iff_eq] at h
  obtain ⟨⟨⟨⟨h1, h2⟩, h3⟩, h4⟩, h5⟩ := h
  refine ⟨bne_eq_false_iff_eq.2 h4, bne_eq_false_iff_eq.2 h5, ?_⟩
  rw [h1, h2, h3]; simp
theorem sameE_and (a b : Ex) : (((((((a.op == b.op) && (a.name == b.name)) && (a.n == b.n)) && (a.bits == b.bits)) && sameV a.val b.val) && sameT a.type b.type) && allSame sameE a.kids b.kids) = sameE a b := by
  rw [sameE_eq, sameEs_all]; simp only [Bool.and_assoc]
end Go.Proofs.YtcgdlhkiecommaaGreatDoor
