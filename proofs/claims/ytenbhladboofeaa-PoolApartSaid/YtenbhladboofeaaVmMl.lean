/- Scalar elements of arrays and of open slices are written. No program in it. -/
import Derived.Test.YtenbhladboofeaaVmMk
set_option linter.unusedVariables false
set_option linter.unusedSimpArgs false
namespace Go.Proofs.Ytenbhladboofeaa.Vm
open Go
section
variable {α : Type} (R : Rw α) {P : Program} {τ : Nat → Option TI} {env : List (Nat × Value)} {V : Heap} {n : Nat}
theorem ev_setc {t b p j : Nat} {x y : Operand} {ti : TI} {xs : List α} {a a' : α} {v : Value} {e : TypeId} (hx : rd env x = some (.pointer (some ⟨b, p, none⟩))) (hy : rd env y = some v) (hp : p = 0 + j * R.sz) (ht : τ t = some ti) (hs : ti.size = 1) (hV : V b = some (.cells (R.cells xs) e (0, 0)))
    (hj : xs[j]? = some a) (hf : flatB v = true) (hb : (R.f a).set 0 v = R.f a') : evOp τ env V n (.store t x y) = some ⟨undef, [(b, some (.cells (R.cells (xs.set j a')) e (0, 0)))], 0, [b]⟩ :=
  ev_storec R (q := 0) hx hy hp ht hs hV hj hf hb R.pos
theorem ev_setv {t b p j : Nat} {x y : Operand} {ti : TI} {xs : List α} {a a' : α} {v : Value} {e : TypeId} (hx : rd env x = some (.pointer (some ⟨b, p, none⟩))) (hy : rd env y = some v) (hp : p = 0 + j * R.sz) (ht : τ t = some ti) (hs : ti.size = 1) (hV : V b = some (.opn (R.cells xs) e R.sz))
    (hj : xs[j]? = some a) (hf : flatB v = true) (hb : (R.f a).set 0 v = R.f a') : evOp τ env V n (.store t x y) = some ⟨undef, [(b, some (.opn (R.cells (xs.set j a')) e R.sz))], 0, [b]⟩ :=
  ev_storecell R (q := 0) hx hy hp ht hs hV hj hf hb R.pos
end
end Go.Proofs.Ytenbhladboofeaa.Vm
