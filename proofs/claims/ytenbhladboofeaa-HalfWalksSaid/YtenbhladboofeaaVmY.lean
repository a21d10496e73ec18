/- More on rows: a cell that is a whole row. -/
import Derived.Test.YtenbhladboofeaaVmFn
namespace Go.Proofs.Ytenbhladboofeaa.Vm
open Go
section
variable {α : Type} (R : Rw α) {P : Program} {τ : Nat → Option TI} {env : List (Nat × Value)} {V : Heap} {n : Nat}
theorem ev_val {t b p j : Nat} {x : Operand} {ti : TI} {xs : List α} {a : α} {v : Value} (hx : rd env x = some (.pointer (some ⟨b, p, none⟩))) (hp : p = 0 + j * R.sz) (ht : τ t = some ti) (ha : isAggB ti.desc = false)
    (hV : (V b).bind cellsOf = some (R.cells xs)) (hj : xs[j]? = some a) (hv : (R.f a)[0]? = some v) : evOp τ env V n (.load t x) = some ⟨v, [], 0, [b]⟩ :=
  ev_loadcell R (q := 0) hx hp ht ha hV hj hv
end
end Go.Proofs.Ytenbhladboofeaa.Vm
