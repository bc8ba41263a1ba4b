/- A cut with a bound on the room: 's[l:h:h]' of a closed list. -/
import Derived.Test.YtnnklpmgncbgnaaGreatEngX
set_option linter.unusedVariables false
set_option linter.unusedSimpArgs false
namespace Go.Proofs.YtnnklpmgncbgnaaGreat
open Go
section
variable {P : Program} {n : Nat} {Q : APost} {env : Env} {σ σ' : Store} {ops : Array Oper} {rest : List Oper}
variable {E : Operand → Option AVal} {d : Option Tmp} {ty : TypeId} {pos : String} {after : Array Edge} {guard : Option (Nat × Bool)}
/-- A value is told by an equal word. -/
theorem al_as {l : List Oper} (t : Nat) {a : AVal} (b : AVal) (h : env.get t = some a) (e : a = b) (k : AL P n ops l Q ((t, b) :: env) σ) : AL P n ops l Q env σ := by
  refine al_weaken _ (fun u c hu => ?_) k
  rw [Env.get_cons] at hu
  split at hu
  · rename_i e2; subst e2; cases hu; rw [h, e]
  · exact hu
/-- What an object holds is told by an equal word. -/
theorem al_obj {l : List Oper} {id ver : Nat} {o : AObj} (o' : AObj) (h : σ.get id = some (ver, o)) (e : o = o') (hp : σ.put id ver o = σ) (k : AL P n ops l Q env (σ.put id ver o')) : AL P n ops l Q env σ := by
  subst e; rw [hp] at k; exact k
theorem aw_obj {c : Code} {id ver : Nat} {o : AObj} (o' : AObj) (h : σ.get id = some (ver, o)) (e : o = o') (hp : σ.put id ver o = σ) (k : AW P n c Q env (σ.put id ver o')) : AW P n c Q env σ := by
  subst e; rw [hp] at k; exact k
/-- A guarded operation with an effect, carried out. -/
theorem al_takeR {o : Oper} {R : AVal → Store → Prop} {g d : Nat} {og : Oper} {b : Bool} (hop : OpR P o (aval env) σ R) (hg : o.guard = some (g, b)) (hog : ops[g]? = some og) (hdst : og.dst = some d) (hb : env.get d = some (.v (.bool b))) (hd : ∀ d, o.dst = some d → d < n)
    (k : ∀ a σ', R a σ' → AL P n ops rest Q (env.putd o.dst a) σ') : AL P n ops (o :: rest) Q env σ := by
  intro ok L w act h1 h2 h3 h4
  refine wpList_step fun K hK => ?_
  rw [if_pos (by simp [Region.wanted, hg, yielded_of h2 hog hdst hb])]
  obtain ⟨a, σ', v, w', ok', L', hR, hr, he, hs, hv⟩ := hop ok L w act.eval h1 (fun x _ b hx => h2.aval hx)
  have go : K (act.put o.dst v) w' := by
    refine hK _ _ (wpList_after (fun _ _ _ h => Post.after he h) _ _ _ (k a σ' hR ok' L' w' (act.put o.dst v) hs ?_ ?_ ?_))
    · exact (h2.evo h1 he).put hv (fun d hd' => h4 ▸ hd d hd')
    · rw [put_defers]; exact h3
    · rw [put_size]; exact h4
  unfold Oper.wp
  rcases hr with hr | ⟨hr, rfl⟩
  · rw [hr]; exact go
  · rw [hr]; exact go
theorem run_bounds3 {w : World} {isSlice : Bool} {len cap l h : Nat} {ρ : Operand → Value} {lo hi mx : Option Operand} (hlo : (lo = none ∧ l = 0) ∨ ∃ x k, lo = some x ∧ ρ x = .int k (l : Int)) (hhi : ∃ x k, hi = some x ∧ ρ x = .int k (h : Int)) (hmx : ∃ x k, mx = some x ∧ ρ x = .int k (h : Int)) (hlh : l ≤ h) (hhc : h ≤ cap) :
    (Instr.sliceBounds isSlice len cap (lo.map ρ) (hi.map ρ) (mx.map ρ)).run P w = .ok (l, h, h) w := by
  obtain ⟨y, k2, rfl, h2⟩ := hhi
  obtain ⟨z, k3, rfl, h3⟩ := hmx
  rcases hlo with ⟨rfl, rfl⟩ | ⟨x, k, rfl, h1⟩ <;>
    (simp only [Option.map_some, Option.map_none, Instr.sliceBounds, Instr.sliceBound, asIntOf, *]; simp [hlh, hhc, *])
theorem op_cut_list3 {x : Operand} {t e sz : Nat} {inf : TypeInfo} {lo : Option Operand} {y z : Operand} {ky kz : IntKind} {els : List (List AVal)} {l h : Nat} (ht : P.underlying t = some (.slice e)) (hi' : P.info? e = some inf) (hsz : inf.size = sz) (hx : E x = some (.list sz els)) (hlo : OptI E lo 0 l) (hy : E y = some (.v (.int ky (h : Int)))) (hz : E z = some (.v (.int kz (h : Int)))) (hlh : l ≤ h) (hhs : h ≤ els.length) :
    OpTo P ⟨d, .slice t x lo (some y) (some z), ty, pos, after, guard⟩ E σ (.list sz ((els.drop l).take (h - l))) σ :=
  op_value fun ok L w ρ hs hr => by
    obtain ⟨a, c, h1, hc, hh⟩ := RepC.list_form (hr x (by simp [Op.operands]) _ hx)
    have h2 := optI_mem hlo (ρ := ρ) (ok := ok) (L := L) (w := w) (fun y hy => hr y (by simp [Op.operands, hy]))
    have e1 := rep_bool (hr y (by simp [Op.operands]) _ hy)
    have e2 := rep_bool (hr z (by simp [Op.operands]) _ hz)
    have h4 := run_bounds3 (P := P) (w := w) (isSlice := true) (len := els.length) (cap := c) (ρ := ρ) h2 ⟨y, ky, rfl, e1⟩ ⟨z, kz, rfl, e2⟩ hlh (Nat.le_trans hhs hc)
    have hlen : ((els.drop l).take (h - l)).length = h - l := by simp; omega
    refine ⟨.slice (if h = l then a else a.map (·.add (l * sz))) (h - l) (h - l), by simp only [Option.map_some] at h4; simp [execOp, Instr.sliceAt, run_underlying ht, Instr.slice, h1, h4, sizeOf, typeInfo, hi', hsz], ?_⟩
    by_cases hne : h - l = 0
    · have : (els.drop l).take (h - l) = [] := List.eq_nil_of_length_eq_zero (by omega)
      rw [this, hne]
      exact RepC.empty _ _ _
    · rcases hh with rfl | ⟨b, o, vs, rfl, hok, hs1, hcell, hrep, h1'⟩
      · simp at hhs; omega
      · rw [if_neg (by omega)]
        simp only [Option.map_some, addr_add0]
        have hg : ∀ i e, ((els.drop l).take (h - l))[i]? = some e → els[l + i]? = some e := by
          intro i e hi
          rw [List.getElem?_take] at hi
          split at hi
          · rwa [List.getElem?_drop] at hi
          · cases hi
        have key := RepC.list (ok := ok) (w := w) sz ((els.drop l).take (h - l)) b (o + l * sz) (h - l) (fun i j => vs (l + i) j) hok (by rw [hlen]; omega) (fun e he => hs1 e (List.mem_of_mem_drop (List.mem_of_mem_take he))) (fun i e j av hi hj => by
          have := hcell _ _ _ _ (hg i e hi) hj
          rw [show o + l * sz + i * sz + j = o + (l + i) * sz + j from by rw [Nat.add_mul]; omega]
          exact this) (fun i e j av hi hj => h1' _ _ _ _ (hg i e hi) hj) (fun i e j av hi hj => hrep _ _ _ _ (hg i e hi) hj)
        rw [hlen] at key
        exact key
/-- The same of a list of one's own words. -/
theorem op_cut_map {α : Type} {f : α → List AVal} {v : List α} {x : Operand} {t e sz : Nat} {inf : TypeInfo} {lo hi : Option Operand} {l h : Nat} (ht : P.underlying t = some (.slice e)) (hi' : P.info? e = some inf) (hsz : inf.size = sz) (hx : E x = some (.list sz (v.map f))) (hlo : OptI E lo 0 l) (hhi : OptI E hi v.length h) (hlh : l ≤ h) (hhs : h ≤ v.length) :
    OpTo P ⟨d, .slice t x lo hi none, ty, pos, after, guard⟩ E σ (.list sz (((v.drop l).take (h - l)).map f)) σ := by
  rw [List.map_take, List.map_drop]
  exact op_cut_list ht hi' hsz hx hlo (by rw [List.length_map]; exact hhi) hlh (by rw [List.length_map]; exact hhs)
theorem op_cut_map3 {α : Type} {f : α → List AVal} {v : List α} {x : Operand} {t e sz : Nat} {inf : TypeInfo} {lo : Option Operand} {y z : Operand} {ky kz : IntKind} {l h : Nat} (ht : P.underlying t = some (.slice e)) (hi' : P.info? e = some inf) (hsz : inf.size = sz) (hx : E x = some (.list sz (v.map f))) (hlo : OptI E lo 0 l) (hy : E y = some (.v (.int ky (h : Int)))) (hz : E z = some (.v (.int kz (h : Int)))) (hlh : l ≤ h) (hhs : h ≤ v.length) :
    OpTo P ⟨d, .slice t x lo (some y) (some z), ty, pos, after, guard⟩ E σ (.list sz (((v.drop l).take (h - l)).map f)) σ := by
  rw [List.map_take, List.map_drop]
  exact op_cut_list3 ht hi' hsz hx hlo hy hz hlh (by rw [List.length_map]; exact hhs)
end
end Go.Proofs.YtnnklpmgncbgnaaGreat
