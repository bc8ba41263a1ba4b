/- The library's functions that chapter 3 calls, told as the engine tells calls. -/
import Derived.Test.YtcgdlhkiecommaaGreatDoorShelf
import Derived.Test.YtcgdlhkiecommaaGreatDoorFacts
import Derived.Test.YtcgdlhkiecommaaGreatDoorLNames
import Derived.Lib.ParseIntB
set_option linter.unusedVariables false
set_option linter.unusedSimpArgs false
namespace Go.Proofs.YtcgdlhkiecommaaGreatDoor
open Go Go.RowKit
def encBs (s : Bs) : List AVal := [.v (.string (str s))]
/-! ### Package variables -/
theorem glob_max {ok : Nat → Prop} {w : World} (h : GlobOK ok w) : ∃ m, w.cell? ⟨2, 0, none⟩ = some (.int .i64 m) := by
  obtain ⟨_, o, h1, cs, t, r, m, rfl, h2⟩ := h (2, intObj) (by simp [globs])
  exact ⟨m, by simp only [World.cell?, h1, h2]; rfl⟩
theorem glob_space {ok : Nat → Prop} {w : World} (h : GlobOK ok w) : Lib.TabIs Tryz.prog w "strings.asciiSpace" .u8 Lib.asciiSpaceTab := by
  obtain ⟨_, o, h1, t, r, rfl⟩ := h (0, tabObj .u8 Lib.asciiSpaceTab) (by simp [globs])
  have e : Tryz.prog.globalNamed "strings.asciiSpace" = some 0 := by kernel_rfl
  simp only [Lib.TabIs, World.var?, e, Option.bind_some, h1]
theorem glob_pow {ok : Nat → Prop} {w : World} (h : GlobOK ok w) : Lib.TabIs Tryz.prog w "internal/strconv.uint64pow10" .u64 Lib.pow10Tab := by
  obtain ⟨_, o, h1, t, r, rfl⟩ := h (3, tabObj .u64 Lib.pow10Tab) (by simp [globs])
  have e : Tryz.prog.globalNamed "internal/strconv.uint64pow10" = some 3 := by kernel_rfl
  simp only [Lib.TabIs, World.var?, e, Option.bind_some, h1]
theorem below_grow (w : World) (k : Nat) (os : Array Obj) : Below w.heap.size w (Go.Sort.grow (w.drewN k) os) :=
  ⟨rfl, rfl, rfl, by simp [Go.Sort.grow, World.drewN], fun i hi => by
    simp only [Go.Sort.grow, World.drewN]
    rw [Array.getElem?_append_left hi]⟩
theorem repc_v {ok : Nat → Prop} {w : World} {x v : Value} (h : RepC ok w (.v x) v) : v = x := by cases h; rfl
/-! ### Strings -/
theorem q_indexByte (s : Bs) (c : UInt8) : ACp Tryz.prog 183 [.v (.string (str s)), .v (.int .u8 (c.toNat : Int))] (.v (.int .i64 (Lib.indexByte s c))) :=
  acp_below (vs := [.string (str s), .int .u8 (c.toNat : Int)]) rfl fun ok w hg => (shelf_strings_IndexByte (str s) c.toNat w).mono fun e w' ⟨h1, h2⟩ => by
    subst h2
    refine ⟨?_, Below.refl _ _⟩
    rw [h1]
    have e1 : ((c.toNat : Int)).toNat.toUInt8 = c := by simp
    rw [e1]; rfl
theorem q_contains (s p : Bs) (hs : s.length ≤ 4294967280) : ACp Tryz.prog 152 [.v (.string (str s)), .v (.string (str p))] (.v (.bool (Lib.contains s p))) :=
  acp_below (vs := [.string (str s), .string (str p)]) rfl fun ok w hg => by
    obtain ⟨m, hm⟩ := glob_max hg
    refine (shelf_strings_Contains (str s) (str p) m w (by rw [str_size]; omega) hm).mono fun e w' ⟨h1, h2⟩ => ?_
    subst h2; exact ⟨h1, Below.refl _ _⟩
theorem q_itoa (n : Int) (h0 : -9223372036854775808 ≤ n) (h1 : n ≤ 9223372036854775807) : ACp Tryz.prog 151 [.v (.int .i64 n)] (.v (.string (str (Lib.itoa n)))) :=
  acp_below (vs := [.int .i64 n]) rfl fun ok w hg => (shelf_strconv_Itoa n h0 h1 w (glob_pow hg)).mono fun e w' ⟨h1, k, os, h2⟩ => by
    subst h2; exact ⟨h1, below_grow w k os⟩
/-- New memory alone is made; the result is told. -/
theorem acp_new {f : FuncId} {avs : List AVal} {a : AVal} (h : ∀ ok L w vs, All2 (Rep ok L w) avs vs → (∀ b, ok b → b < w.heap.size) → GlobOK ok w → Calls Tryz.prog f vs.toArray w fun e w' => ∃ v, e = .returned v ∧ Below w.heap.size w w' ∧ ∃ ok2 : Nat → Prop, (∀ b, ok2 b → w.heap.size ≤ b ∧ b < w'.heap.size) ∧ Rep (fun b => ok b ∨ ok2 b) L w' a v) : ACp Tryz.prog f avs a := by
  intro σ ok L w vs hs hvs
  refine (h ok L w vs hvs (fun b hb => (hs.okd b hb).1) hs.glob).mono ?_
  rintro e w' ⟨v, rfl, hb, ok2, h2, hr⟩
  obtain ⟨he, hs'⟩ := sim_below hs hb ok2 h2
  exact ⟨.ret a, σ, _, L, ⟨rfl, rfl⟩, he, hs', hr⟩
theorem strs_form {ok : Nat → Prop} {w : World} {l : List Bs} {v : Value} (h : RepC ok w (.list 1 (l.map encBs)) v) : ∃ a c, v = .slice a l.length c ∧ l.length ≤ c ∧ (l = [] ∨ ∃ b o, a = some ⟨b, o, none⟩ ∧ ok b ∧ ∀ (j : Nat) x, l[j]? = some x → w.cell? ⟨b, o + j, none⟩ = some (.string (str x))) := by
  obtain ⟨a, c, rfl, h1, h2⟩ := h.list_form
  refine ⟨a, c, by simp, by simpa using h1, ?_⟩
  rcases h2 with e | ⟨b, o, vs, rfl, hb, _, h3, h4, _⟩
  · exact .inl (by simpa using e)
  · refine .inr ⟨b, o, rfl, hb, fun j x hx => ?_⟩
    have hx2 : (l.map encBs)[j]? = some (encBs x) := by rw [List.getElem?_map, hx]; rfl
    have := h3 j _ 0 (.v (.string (str x))) hx2 rfl
    have h5 := h4 j _ 0 (.v (.string (str x))) hx2 rfl
    rw [repc_v h5] at this
    simpa using this
theorem list_strs {ok : Nat → Prop} {w : World} {l : List Bs} {b : Nat} {et : TypeId} (hb : ok b) (h : w.heap[b]? = some (.cells (l.map fun x => Value.string (str x)).toArray et (0, 0))) : RepC ok w (.list 1 (l.map encBs)) (.slice (some ⟨b, 0, none⟩) l.length l.length) := by
  have key := RepC.list (ok := ok) (w := w) 1 (l.map encBs) b 0 l.length (fun i _ => ((l[i]?).map fun x => Value.string (str x)).getD undef) hb (by simp) (fun e he => by obtain ⟨x, _, rfl⟩ := List.mem_map.1 he; rfl)
    (fun i e j av hi hj => by
      rw [List.getElem?_map, Option.map_eq_some_iff] at hi
      obtain ⟨x, hx, rfl⟩ := hi
      match j, hj with
      | 0, hj =>
        simp only [World.cell?, h, Nat.zero_add, Nat.mul_one, Nat.add_zero, hx, Option.map_some, Option.getD_some]
        simp [hx])
    (fun i e j av hi hj => by
      rw [List.getElem?_map, Option.map_eq_some_iff] at hi
      obtain ⟨x, hx, rfl⟩ := hi
      simp only [hx, Option.map_some, Option.getD_some]; rfl)
    (fun i e j av hi hj => by
      rw [List.getElem?_map, Option.map_eq_some_iff] at hi
      obtain ⟨x, hx, rfl⟩ := hi
      match j, hj with
      | 0, hj =>
        simp only [encBs, List.getElem?_cons_zero, Option.some.injEq] at hj
        subst hj
        simp only [hx, Option.map_some, Option.getD_some]
        exact RepC.v _)
  simpa using key
theorem fields_signs : Lib.fields signText = signsL := by decide +kernel
theorem q_fields : ACp Tryz.prog 155 [.v (.string (str signText))] (.list 1 (signsL.map encBs)) :=
  acp_new fun ok L w vs hvs _ hg => by
    match vs, hvs with
    | [v1], ⟨a1, _⟩ =>
      rw [rep_bool a1]
      have hasc : ∀ (j : Nat) (b : UInt8), (str signText).data.toList[j]? = some b → b.toNat < 128 := fun j b hb => by
        have : ∀ b ∈ signText, b.toNat < 128 := by decide +kernel
        exact this b (List.mem_of_getElem? hb)
      refine (shelf_strings_Fields (str signText) w (by decide +kernel) hasc (glob_space hg)).mono fun e w' ⟨h1, h2⟩ => ?_
      subst h2
      have e1 : (str signText).data.toList = signText := rfl
      rw [e1, fields_signs] at h1
      refine ⟨_, h1, Below.alloc (Below.refl _ _) (Nat.le_refl _) _, fun b => b = w.heap.size, fun b hb => ⟨Nat.le_of_eq hb.symm, by subst hb; simp⟩, ?_⟩
      rw [e1, fields_signs]
      exact list_strs (ok := fun b => ok b ∨ b = w.heap.size) (.inr rfl) (heap_alloc_new w _)
theorem q_member (l : List Bs) (x : Bs) (hl : l.length ≤ 1000000) : ACp Tryz.prog 61 [.list 1 (l.map encBs), .v (.string (str x))] (.v (.bool (l.contains x))) :=
  acp_new fun ok L w vs hvs _ hg => by
    match vs, hvs with
    | [v1, v2], ⟨a1, a2, _⟩ =>
      rw [rep_bool a2]
      obtain ⟨a, c, rfl, hc, h⟩ := strs_form (show RepC ok w _ v1 from a1)
      rcases h with rfl | ⟨b, o, rfl, hb, hcell⟩
      · refine (shelf_slices_Contains_string_empty a c (str x) w).mono fun e w' ⟨h1, h2⟩ => ?_
        subst h2
        exact ⟨_, h1, Below.refl _ _, fun _ => False, fun _ h => h.elim, RepC.v _⟩
      · refine (shelf_slices_Contains_string b o l.length c (l.map str) (str x) w (by simp) (by omega) (fun j hj => ?_)).mono fun e w' ⟨h1, h2⟩ => ?_
        · rw [List.length_map] at hj
          rw [hcell j l[j] (List.getElem?_eq_getElem hj), List.getD_eq_getElem?_getD, List.getElem?_map, List.getElem?_eq_getElem hj]
          rfl
        · subst h2
          refine ⟨_, h1, Below.refl _ _, fun _ => False, fun _ h => h.elim, ?_⟩
          have e : Lib.containsS ((l.map str).take l.length) (str x) = l.contains x := by
            rw [Bool.eq_iff_iff, Lib.containsS_iff, List.take_of_length_le (by simp), List.contains_iff_mem, List.mem_map]
            constructor
            · rintro ⟨y, hy, e⟩; rw [← str_inj e]; exact hy
            · intro h; exact ⟨x, h, rfl⟩
          rw [e]; exact RepC.v _
theorem join_map (l : List Bs) : (l.map str).map (fun s : ByteArray => s.data.toList) = l := by
  rw [List.map_map]; exact (List.map_congr_left (fun x _ => rfl)).trans (List.map_id l)
theorem q_join (l : List Bs) (p : Bs) (hl : l.length ≤ 1000000) (hj : (Lib.join l p).length ≤ 140737488355328) : ACp Tryz.prog 103 [.list 1 (l.map encBs), .v (.string (str p))] (.v (.string (str (Lib.join l p)))) :=
  acp_new fun ok L w vs hvs hok hg => by
    match vs, hvs with
    | [v1, v2], ⟨a1, a2, _⟩ =>
      rw [rep_bool a2]
      obtain ⟨a, c, rfl, hc, h⟩ := strs_form (show RepC ok w _ v1 from a1)
      rcases h with rfl | ⟨b, o, rfl, hb, hcell⟩
      · refine (shelf_strings_Join_none a c (str p) w).mono fun e w' ⟨h1, h2⟩ => ?_
        subst h2
        exact ⟨_, h1, Below.refl _ _, fun _ => False, fun _ h => h.elim, RepC.v _⟩
      · have hx := shelf_strings_Join b o c (l.map str) (str p) w (fun j x hx => by
          rw [List.getElem?_map, Option.map_eq_some_iff] at hx
          obtain ⟨y, hy, rfl⟩ := hx
          exact hcell j y hy) (hok b hb) (by simp; omega) (by simpa using hc) (by rw [join_map]; exact hj)
        rw [List.length_map] at hx
        refine hx.mono fun e w' ⟨h1, h2⟩ => ?_
        rw [join_map] at h1
        exact ⟨_, h1, h2, fun _ => False, fun _ h => h.elim, RepC.v _⟩
/-! ### strconv.ParseInt(s, 10, 32) -/
end Go.Proofs.YtcgdlhkiecommaaGreatDoor
