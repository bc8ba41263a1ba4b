/- The engine, part 22: shifts; numbers of 64 bits; appending behind an offset. -/
import Derived.Test.YtnnklpmgncbgnaaGreatEngU
import Derived.Laws.Shifts
set_option linter.unusedVariables false
set_option linter.unusedSimpArgs false
namespace Go.Proofs.YtnnklpmgncbgnaaGreat
open Go

section
variable {P : Program} {σ σ' : Store} {E : Operand → Option AVal} {d : Option Tmp} {ty : TypeId} {pos : String} {after : Array Edge} {guard : Option (Nat × Bool)}
variable {x y : Operand} {t u : TypeId} {k k' : IntKind} {a b c : Int}
theorem op_shl (hx : E x = some (.v (.int k a))) (hy : E y = some (.v (.int k' b))) (h0 : 0 ≤ b) (hw : k.wrap (a * 2 ^ min b.toNat k.bits) = c) : OpTo P ⟨d, .binOp .shl t x y u, ty, pos, after, guard⟩ E σ (.v (.int k c)) σ :=
  op_two (by simp [Op.operands]) (by simp [Op.operands]) hx hy fun ρ w h1 h2 => by simp [execOp, eqGuard, binOp, h1, h2, shift_shl_any _ _ _ _ h0, hw]
theorem op_shr (hx : E x = some (.v (.int k a))) (hy : E y = some (.v (.int k' b))) (h0 : 0 ≤ b) (hw : a / 2 ^ min b.toNat k.bits = c) : OpTo P ⟨d, .binOp .shr t x y u, ty, pos, after, guard⟩ E σ (.v (.int k c)) σ :=
  op_two (by simp [Op.operands]) (by simp [Op.operands]) hx hy fun ρ w h1 h2 => by simp [execOp, eqGuard, binOp, h1, h2, shift_shr_any _ _ _ _ h0, hw]
end
/-- A number of 64 bits. -/
def encU (x : Nat) : List AVal := [.v (.int .u64 (x : Int))]
theorem wrap_u64 {x : Int} (h0 : 0 ≤ x) (h1 : x ≤ 18446744073709551615) : IntKind.u64.wrap x = x := by
  simp [IntKind.wrap, IntKind.bits, IntKind.signed]; omega
theorem u64_and {a b : Nat} (ha : a < 2 ^ 64) (hb : b < 2 ^ 64) : IntKind.u64.wrap (BitVec.ofInt 64 (a : Int) &&& BitVec.ofInt 64 (b : Int)).toNat = ((a &&& b : Nat) : Int) := by
  have h1 : (BitVec.ofInt 64 (a : Int)).toNat = a := by rw [BitVec.toNat_ofInt]; omega
  have h2 : (BitVec.ofInt 64 (b : Int)).toNat = b := by rw [BitVec.toNat_ofInt]; omega
  rw [BitVec.toNat_and, h1, h2]
  have h3 : a &&& b < 2 ^ 64 := Nat.and_lt_two_pow _ hb
  exact wrap_u64 (by omega) (by omega)
theorem u64_or {a b : Nat} (ha : a < 2 ^ 64) (hb : b < 2 ^ 64) : IntKind.u64.wrap (BitVec.ofInt 64 (a : Int) ||| BitVec.ofInt 64 (b : Int)).toNat = ((a ||| b : Nat) : Int) := by
  have h1 : (BitVec.ofInt 64 (a : Int)).toNat = a := by rw [BitVec.toNat_ofInt]; omega
  have h2 : (BitVec.ofInt 64 (b : Int)).toNat = b := by rw [BitVec.toNat_ofInt]; omega
  rw [BitVec.toNat_or, h1, h2]
  have h3 : a ||| b < 2 ^ 64 := Nat.or_lt_two_pow ha hb
  exact wrap_u64 (by omega) (by omega)
theorem u64_xor {a b : Nat} (ha : a < 2 ^ 64) (hb : b < 2 ^ 64) : IntKind.u64.wrap (BitVec.ofInt 64 (a : Int) ^^^ BitVec.ofInt 64 (b : Int)).toNat = ((a ^^^ b : Nat) : Int) := by
  have h1 : (BitVec.ofInt 64 (a : Int)).toNat = a := by rw [BitVec.toNat_ofInt]; omega
  have h2 : (BitVec.ofInt 64 (b : Int)).toNat = b := by rw [BitVec.toNat_ofInt]; omega
  rw [BitVec.toNat_xor, h1, h2]
  have h3 : a ^^^ b < 2 ^ 64 := Nat.xor_lt_two_pow ha hb
  exact wrap_u64 (by omega) (by omega)
theorem i64_or {a b : Nat} (ha : a < 2 ^ 62) (hb : b < 2 ^ 62) : IntKind.i64.wrap (BitVec.ofInt 64 (a : Int) ||| BitVec.ofInt 64 (b : Int)).toNat = ((a ||| b : Nat) : Int) := by
  have h1 : (BitVec.ofInt 64 (a : Int)).toNat = a := by rw [BitVec.toNat_ofInt]; omega
  have h2 : (BitVec.ofInt 64 (b : Int)).toNat = b := by rw [BitVec.toNat_ofInt]; omega
  rw [BitVec.toNat_or, h1, h2]
  have h3 : a ||| b < 2 ^ 62 := Nat.or_lt_two_pow ha hb
  exact wrap_i64 (by omega) (by omega)

/-! ### Appending to a slice that begins further on -/
section
variable {P : Program} {σ : Store} {w : World}
theorem append_off {ok : Nat → Prop} {L : Loc} {t u ty e sz id ver off m : Nat} {ud : TypeDesc} {inf : TypeInfo} {z : Value} {v x : Value} {els news : List (List AVal)} (ht : P.underlying t = some (.slice e)) (hu : P.underlying u = some ud) (hn : notInt ud = true) (hi : P.info? e = some inf) (hz : inf.zero = some z)
    (hsz : inf.size = sz) (h0 : 0 < sz) (hzs : z.cells.toList.length = sz) (hs : Sim ok L σ w) (hid : σ.get id = some (ver, .row sz els)) (hm : off + m = els.length) (hpos : 0 < m) (hv : RepL ok L w (.slice id ver off m) v) (hsrc : Src P ok L w sz x news)
    (h63 : m + news.length ≤ 9223372036854775807) (hby : (m + news.length) * inf.bytes ≤ 140737488355328) :
    ∃ v' w' L' ver' pre, (Builtin.append_ #[t, u] ty #[v, x]).run P w = .ok v' w' ∧ Evo ok L σ w ok L' (σ.put id ver' (.row sz (pre ++ els.drop off ++ news))) w' ∧ Sim ok L' (σ.put id ver' (.row sz (pre ++ els.drop off ++ news))) w' ∧ RepL ok L' w' (.slice id ver' pre.length (m + news.length)) v' ∧ (pre = els.take off ∨ pre = []) := by
  obtain ⟨hns, vals, hvl, hlen, hf, hf', hrep⟩ := hsrc
  obtain ⟨b, c, rfl, h2, h3, h4⟩ := hv.2 (hs.ver hid)
  obtain ⟨o1, o2, hos, o4, o5⟩ := hs.objs id ver _ hid
  have hcap : L.cap id ≠ 0 := by omega
  have hb := h4 (.inl hpos)
  subst hb
  obtain ⟨conc, et, g1, g2, g3⟩ := o5 hcap
  rw [o2] at h4 ⊢
  have hlt : ∀ {l : List (List AVal)} {i : Nat} {el : List AVal}, l[i]? = some el → i < l.length := by
    intro l i el hi
    rcases Nat.lt_or_ge i l.length with h | h
    · exact h
    · simp [List.getElem?_eq_none h] at hi
  have hltj : ∀ {el : List AVal} {j : Nat} {av : AVal}, el.length = sz → el[j]? = some av → j < sz := by
    intro el j av hl hj
    rcases Nat.lt_or_ge j el.length with h | h
    · omega
    · simp [List.getElem?_eq_none h] at hj
  have hdl : (els.drop off).length = m := by simp; omega
  by_cases hfit : m + news.length ≤ c
  · have hall : ∀ el ∈ els ++ news, el.length = sz := fun el hm => (List.mem_append.1 hm).elim (hos el) (hns el)
    have epre : els.take off ++ els.drop off ++ news = els ++ news := by rw [List.take_append_drop]
    have elen : (els.take off).length = off := by simp; omega
    have h1 : ∀ v ∈ vals, v.oneCell' = true := by
      intro v hv
      obtain ⟨k, hk⟩ := List.getElem?_of_mem hv
      have hkl : k < news.length * sz := by
        rw [← hvl]
        rcases Nat.lt_or_ge k vals.length with h | h
        · exact h
        · simp [List.getElem?_eq_none h] at hk
      have hi' : k / sz < news.length := by rw [Nat.div_lt_iff_lt_mul h0]; exact hkl
      have hj' : k % sz < sz := Nat.mod_lt _ h0
      have hel := hns _ (List.getElem_mem hi')
      obtain ⟨u, u1, _, u3⟩ := hrep (k / sz) _ (k % sz) _ (List.getElem?_eq_getElem hi') (List.getElem?_eq_getElem (by omega))
      have e : k / sz * sz + k % sz = k := by have := Nat.div_add_mod k sz; rw [Nat.mul_comm] at this; omega
      rw [e, hk] at u1
      cases u1
      exact u3
    have hfit2 : els.length + news.length ≤ L.cap id := by omega
    have hbound : els.length * sz + vals.length ≤ conc.size := by
      rw [hvl, g2, ← Nat.add_mul]
      exact Nat.mul_le_mul_right _ hfit2
    have hst := run_storeCells_at P (L.blk id) (els.length * sz) et vals 0 conc w g1 (by simpa using hbound) h1
    simp only [Nat.add_zero] at hst
    generalize hcs : (conc.toList.take (els.length * sz) ++ vals ++ conc.toList.drop (els.length * sz + vals.length)).toArray = cs at hst
    have hrun := run_append_fit (ty := ty) ht hu hn hi (some ⟨L.blk id, off * sz, none⟩) m c news.length x vals hlen (by rw [hsz]; exact hf) hfit
    have hrun' : (Builtin.append_ #[t, u] ty #[.slice (some ⟨L.blk id, off * sz, none⟩) m c, x]).run P w = .ok (.slice (some ⟨L.blk id, off * sz, none⟩) (m + news.length) c) (w.setRow (L.blk id) cs) := by
      rw [hrun]
      have ea : (⟨L.blk id, off * sz, none⟩ : Addr).add (m * sz) = ⟨L.blk id, els.length * sz, none⟩ := by rw [addr_add0, ← Nat.add_mul, hm]
      simp only [hsz, ea, hst, Result.andThen_ok]
    have hget : ∀ k, cs[k]? = if k < els.length * sz then conc[k]? else if k < els.length * sz + vals.length then vals[k - els.length * sz]? else conc[k]? := by
      intro k
      rw [← hcs]
      simp only [List.getElem?_toArray, List.append_assoc]
      by_cases h1 : k < els.length * sz
      · rw [if_pos h1, List.getElem?_append_left (by simp; omega), List.getElem?_take, if_pos h1]; simp
      · rw [if_neg h1, List.getElem?_append_right (by simp; omega)]
        have hl1 : (conc.toList.take (els.length * sz)).length = els.length * sz := by simp; omega
        rw [hl1]
        by_cases h2 : k < els.length * sz + vals.length
        · rw [if_pos h2, List.getElem?_append_left (by omega)]
        · rw [if_neg h2, List.getElem?_append_right (by omega), List.getElem?_drop]
          rw [show els.length * sz + vals.length + (k - els.length * sz - vals.length) = k from by omega]
          simp
    have hcsz : cs.size = conc.size := by
      rw [← hcs]
      simp
      omega
    obtain ⟨he, hs'⟩ := sim_upd (w' := w.setRow (L.blk id) cs) hs id (L.blk id) (L.cap id) sz (L.ver id + 1) (.row sz (els ++ news)) (by omega) rfl rfl rfl (by simp [World.setRow]) (fun k hk hne => setRow_other w _ k _ hne) (.inr ⟨rfl, hcap, _, _, hid⟩) (fun _ => by
        have := hs.lt (L.blk id) ⟨id, _, _, hid, hcap, rfl⟩
        simpa [World.setRow] using this)
      (fun he => by
        refine ⟨by simp [Loc.upd], by simp [Loc.upd], hall, by simpa [Loc.upd] using hfit2, fun _ => ⟨cs, et, by simpa [Loc.upd] using setRow_heap w _ conc cs et _ g1, by simp only [Loc.upd, if_pos]; rw [hcsz]; exact g2, fun i el j av hi hj => ?_⟩⟩
        have hj' := hltj (hall el (List.mem_of_getElem? hi)) hj
        rw [List.getElem?_append] at hi
        rw [hget]
        split at hi
        · rename_i hlo
          have hpl := place_lt hlo hj'
          rw [if_pos hpl]
          obtain ⟨v, k1, k2, k3⟩ := g3 i el j av hi hj
          exact ⟨v, k1, k2.evo hs he, k3⟩
        · rename_i hlo
          have hge : els.length * sz ≤ i * sz := Nat.mul_le_mul_right _ (by omega)
          rw [if_neg (by omega)]
          obtain ⟨v, k1, k2, k3⟩ := hrep _ el j av hi hj
          have e : i * sz + j - els.length * sz = (i - els.length) * sz + j := by rw [Nat.sub_mul]; omega
          have hpl := place_lt (hlt hi) hj'
          rw [if_pos (by rw [hvl]; omega), e]
          exact ⟨v, k1, k2.evo hs he, k3⟩)
    refine ⟨_, _, _, L.ver id + 1, els.take off, hrun', by rw [epre]; exact he, by rw [epre]; exact hs', ⟨by simp [Loc.upd], fun _ => ⟨_, _, rfl, hfit, by simp [Loc.upd]; omega, fun _ => by simp [Loc.upd]; rw [Nat.min_eq_left (by omega)]⟩⟩, .inl rfl⟩
  · have hall : ∀ el ∈ els.drop off ++ news, el.length = sz := fun el hm => (List.mem_append.1 hm).elim (fun h => hos el (List.mem_of_mem_drop h)) (hns el)
    have hle : els.length * sz ≤ conc.size := by rw [g2]; exact Nat.mul_le_mul_right _ o4
    obtain ⟨ovals, hol, hfo, hog⟩ : ∃ ovals : List Value, ovals.length = m * sz ∧ (Builtin.firstCells sz m (.slice (some ⟨L.blk id, off * sz, none⟩) m c)).run P w.drew = .ok ovals.toArray w.drew ∧
        ∀ i el j av, (els.drop off)[i]? = some el → el[j]? = some av → ∃ v, ovals[i * sz + j]? = some v ∧ RepL ok L w av v ∧ v.oneCell' = true := by
      have hlen2 : ((conc.toList.drop (off * sz)).take (m * sz)).length = m * sz := by
        have : off * sz + m * sz = els.length * sz := by rw [← Nat.add_mul, hm]
        simp; omega
      refine ⟨(conc.toList.drop (off * sz)).take (m * sz), hlen2, ?_, fun i el j av hi hj => ?_⟩
      · refine firstCells_at (w := w.drew) hlen2 (fun k u hk => ?_) _
        rw [List.getElem?_take] at hk
        split at hk
        · rw [List.getElem?_drop] at hk
          have : conc[off * sz + k]? = some u := by simpa using hk
          have g1' : w.drew.heap[L.blk id]? = some (.cells conc et (0, 0)) := g1
          simp [World.cell?, g1', this]
        · cases hk
      · have hi2 := hi
        rw [List.getElem?_drop] at hi2
        obtain ⟨v, k1, k2, k3⟩ := g3 (off + i) el j av hi2 hj
        refine ⟨v, ?_, k2, k3⟩
        have hil := hlt hi
        rw [hdl] at hil
        rw [List.getElem?_take, if_pos (place_lt hil (hltj (hos el (List.mem_of_getElem? hi2)) hj)), List.getElem?_drop]
        rw [show off * sz + (i * sz + j) = (off + i) * sz + j from by rw [Nat.add_mul]; omega]
        simpa using k1
    have hrun := run_append_new (ty := ty) ht hu hn hi hz (some ⟨L.blk id, off * sz, none⟩) m c news.length x ovals vals hlen (by rw [hsz]; exact hfo) (by rw [hsz]; exact hf') (by omega) (by omega) hby
    generalize hcap' : grownCap w (m + news.length) c e = cap' at hrun
    have hge : m + news.length ≤ cap' := by rw [← hcap']; exact grownCap_ge w _ _ _
    rw [← Array.append_assoc] at hrun
    generalize hconc : ovals.toArray ++ vals.toArray ++ Builtin.zeroCells z.cells (cap' - (m + news.length)) = conc' at hrun
    have hcz : conc'.size = cap' * sz := by
      rw [← hconc]
      simp only [Array.size_append, List.size_toArray, size_zeroCells, hol, hvl, ← Nat.add_mul]
      rw [show z.cells.size = sz from by simpa using hzs, ← Nat.add_mul]
      congr 1
      omega
    have hget : ∀ k, k < (m + news.length) * sz → conc'[k]? = if k < m * sz then ovals[k]? else vals[k - m * sz]? := by
      intro k hk
      rw [← hconc]
      rw [Nat.add_mul] at hk
      rw [Array.getElem?_append_left (by simp; omega)]
      by_cases h1 : k < m * sz
      · rw [if_pos h1, Array.getElem?_append_left (by simp; omega)]; simp
      · rw [if_neg h1, Array.getElem?_append_right (by simp; omega)]; simp [hol]
    obtain ⟨he, hs'⟩ := sim_upd (w' := w.drew.alloc (.cells conc' e)) hs id w.heap.size cap' sz (L.ver id + 1) (.row sz (els.drop off ++ news)) (by omega) rfl rfl rfl (by simp) (fun k hk _ => Go.RowKit.Below.heap_alloc w.drew _ k hk) (.inl (Nat.le_refl _)) (fun _ => by simp)
      (fun he => objrep_new hs he (heap_alloc_new w.drew _) hall (by simpa [hdl] using hge) hcz (fun i el j av hi hj => by
        have hj' := hltj (hall el (List.mem_of_getElem? hi)) hj
        have hi' := hlt hi
        rw [List.length_append, hdl] at hi'
        rw [hget _ (place_lt hi' hj')]
        rw [List.getElem?_append] at hi
        split at hi
        · rename_i hlo
          rw [hdl] at hlo
          rw [if_pos (place_lt hlo hj')]
          exact hog i el j av hi hj
        · rename_i hlo
          rw [hdl] at hlo hi
          have hge' : m * sz ≤ i * sz := Nat.mul_le_mul_right _ (by omega)
          rw [if_neg (by omega), show i * sz + j - m * sz = (i - m) * sz + j from by rw [Nat.sub_mul]; omega]
          exact hrep _ el j av hi hj))
    refine ⟨_, _, _, L.ver id + 1, [], hrun, he, hs', ⟨by simp [Loc.upd], fun _ => ⟨_, _, rfl, hge, by simp [Loc.upd], fun _ => by simp [Loc.upd]⟩⟩, .inr rfl⟩

variable {E : Operand → Option AVal} {d : Option Tmp} {ty : TypeId} {pos : String} {after : Array Edge} {guard : Option (Nat × Bool)}
/-- append(q, x) where q begins further on: a queue. -/
theorem op_append_q {α : Type} {f : α → List AVal} {pre q : List α} {x y : Operand} {t u e sz id ver off m : Nat} {ud : TypeDesc} {inf : TypeInfo} {z : Value} {b : AVal} {news : List (List AVal)} (a : α) (ht : P.underlying t = some (.slice e)) (hu : P.underlying u = some ud) (hn : notInt ud = true) (hi : P.info? e = some inf) (hz : inf.zero = some z)
    (hsz : inf.size = sz) (h0 : 0 < sz) (hzs : z.cells.toList.length = sz) (hx : E x = some (.slice id ver off m)) (hid : σ.get id = some (ver, .row sz ((pre ++ q).map f))) (ho : off = pre.length) (hm : m = q.length) (hpos : 0 < q.length) (hy : E y = some b) (hb : SrcIs σ sz b news) (hk : news = [f a])
    (h63 : q.length + 1 ≤ 9223372036854775807) (hby : (q.length + 1) * inf.bytes ≤ 140737488355328) :
    OpR P ⟨d, .call { callee := .builtin .append, args := #[x, y], argTypes := #[t, u] }, ty, pos, after, guard⟩ E σ (fun r σ' => ∃ (ver' : Nat) (pre' : List α), r = .slice id ver' pre'.length (q ++ [a]).length ∧ σ' = σ.put id ver' (.row sz ((pre' ++ (q ++ [a])).map f))) := by
  subst hk ho hm
  intro ok L w ρ hs hr
  have hv : RepL ok L w (.slice id ver pre.length q.length) (ρ x) := hr x (by simp [Op.operands, Call.operands]) _ hx
  have hy' : Src P ok L w sz (ρ y) [f a] := hb.src h0 ok L w _ hs (hr y (by simp [Op.operands, Call.operands]) _ hy)
  obtain ⟨v', w', L', ver', p, h1, h2, h3, h4, h5⟩ := append_off (ty := ty) ht hu hn hi hz hsz h0 hzs hs hid (by simp) hpos hv hy' (by simpa using h63) (by simpa using hby)
  have hd : ((pre ++ q).map f).drop pre.length = q.map f := by rw [← List.map_drop, List.drop_left]
  obtain ⟨pre', e⟩ : ∃ pre' : List α, p = pre'.map f := by
    rcases h5 with rfl | rfl
    · exact ⟨pre, by rw [← List.map_take, List.take_left]⟩
    · exact ⟨[], rfl⟩
  subst e
  rw [hd] at h2 h3
  have e2 : pre'.map f ++ q.map f ++ [f a] = (pre' ++ (q ++ [a])).map f := by simp
  rw [e2] at h2 h3
  refine ⟨_, _, v', w', ok, L', ⟨ver', pre', rfl, rfl⟩, .inl ?_, h2, h3, (show RepL ok L' w' (.slice id ver' pre'.length (q ++ [a]).length) v' from by simpa using h4)⟩
  simp [execOp, resolve, invoke, builtin, h1]
end
end Go.Proofs.YtnnklpmgncbgnaaGreat
