/- Two cells in the midst of a row: loaded, stored. -/
import Derived.Test.YtcjfidfealifhaaSr0
namespace Go.Proofs.Ytcjfidfealifhaa.Vm
open Go
set_option linter.unusedVariables false
section
variable {α : Type} (R : Rw α) {P : Program} {τ : Nat → Option TI} {env : List (Nat × Value)} {V : Heap} {n : Nat}
theorem ev_load2 {t b p j q : Nat} {x : Operand} {ti : TI} {xs : List α} {a : α} {v w : Value} (hx : rd env x = some (.pointer (some ⟨b, p, none⟩))) (hp : p = 0 + j * R.sz + q) (ht : τ t = some ti) (ha : isAggB ti.desc = true) (hs : ti.size = 2)
    (hV : (V b).bind cellsOf = some (R.cells xs)) (hj : xs[j]? = some a) (hq : q + 2 ≤ R.sz) (hk : ((R.f a).drop q).take 2 = [v, w]) : evOp τ env V n (.load t x) = some ⟨.agg #[v, w], [], 0, [b]⟩ := by
  subst hp
  have hlt := (List.getElem?_eq_some_iff.1 hj).1
  have hle : 0 + j * R.sz + q + 2 ≤ (R.cells xs).length := by
    have := Nat.mul_le_mul_right R.sz hlt
    rw [R.length]; rw [Nat.succ_mul] at this; omega
  have hrow := R.row hj
  have hpart : ((R.cells xs).drop (0 + j * R.sz + q)).take 2 = [v, w] := by
    rw [← hk, ← hrow, Nat.zero_add, ← List.drop_drop, List.drop_take, List.take_take, Nat.min_eq_left (by omega)]
  simp only [evOp, hx, Option.bind_some, evLoad, ht, hV, ha, if_true, hs]
  rw [if_pos hle, hpart]; rfl
theorem ev_store2 {t b p j q : Nat} {x y : Operand} {ti : TI} {xs : List α} {a a1 a2 : α} {v w : Value} {e : TypeId} (hx : rd env x = some (.pointer (some ⟨b, p, none⟩))) (hy : rd env y = some (.agg #[v, w])) (hp : p = 0 + j * R.sz + q) (ht : τ t = some ti) (hs : ti.size = 2) (hV : V b = some (.opn (R.cells xs) e R.sz))
    (hj : xs[j]? = some a) (hv : [v, w].all Value.oneCell' = true) (h1 : (R.f a).set q v = R.f a1) (h2 : (R.f a1).set (q + 1) w = R.f a2) (hq : q + 2 ≤ R.sz) : evOp τ env V n (.store t x y) = some ⟨undef, [(b, some (.opn (R.cells (xs.set j a2)) e R.sz))], 0, [b]⟩ := by
  subst hp
  have hlt := (List.getElem?_eq_some_iff.1 hj).1
  have hle : 0 + j * R.sz + q + 2 ≤ (R.cells xs).length := by
    have := Nat.mul_le_mul_right R.sz hlt
    rw [R.length]; rw [Nat.succ_mul] at this; omega
  have hset : setCells (R.cells xs) (0 + j * R.sz + q) [v, w] = R.cells (xs.set j a2) := by
    rw [setCells_eq _ _ _ hle, splice_cons _ _ _ _ (by omega), splice_cons _ _ _ _ (by rw [List.length_set]; omega), splice_nil, Nat.zero_add, R.set_cell hj h1 (by omega)]
    have hj1 : (xs.set j a1)[j]? = some a1 := by rw [List.getElem?_set_self hlt]
    rw [show j * R.sz + q + 1 = j * R.sz + (q + 1) by omega, R.set_cell hj1 h2 (by omega), List.set_set]
  have hc : (#[v, w] : Array Value).size = 2 ∧ 0 + j * R.sz + q + 2 ≤ (R.cells xs).length ∧ [v, w].all Value.oneCell' = true := ⟨rfl, hle, hv⟩
  simp only [evOp, hx, hy, evStore, ht, hV, hs, Value.cells]
  rw [if_pos hc, hset]
end
end Go.Proofs.Ytcjfidfealifhaa.Vm
