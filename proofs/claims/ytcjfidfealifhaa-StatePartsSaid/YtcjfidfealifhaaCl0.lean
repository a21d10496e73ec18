/- For the laws of what is written. -/
import Derived.Test.YtcjfidfealifhaaFp
import Derived.Test.YtcjfidfealifhaaBy0
import Derived.Test.YtcjfidfealifhaaFd0
namespace Go.Proofs.Ytcjfidfealifhaa
open Go Vm
set_option linter.unusedVariables false
set_option linter.unusedSimpArgs false
theorem B_nil : B ⟨#[]⟩ = [] := rfl
theorem numR_B {x : Int} (h : okN x = true) : B (numR x).1 = numL x := by rw [numR_ok h]; rfl
theorem ba_self (x : ByteArray) : (x == x) = true := by rw [ba_beq]; exact decide_eq_true rfl
theorem numsL_len (l : List Int) : (numsL l).length ≤ 5 * l.length := by
  unfold numsL
  induction l with
  | nil => simp
  | cons a l ih => rw [List.flatMap_cons, List.length_append, List.length_cons]; have := (numL_len a).1; omega
theorem rem_ev {τ : Nat → Option TI} {env : List (Nat × Value)} {V : Heap} {n t u : Nat} {x y : Operand} {k : IntKind} {a b : Int} (hx : rd env x = some (.int k a)) (hy : rd env y = some (.int k b)) (hb : b ≠ 0) : evOp τ env V n (.binOp .rem t x y u) = some ⟨.int k (a.tmod b), [], 0, []⟩ := by
  have h : evBin τ .rem t (isLit x || isLit y) (.int k a) (.int k b) = some (.int k (a.tmod b)) := by
    show (if k = k then evInt .rem k a b else none) = _
    rw [if_pos rfl]; show (if b = 0 then none else _) = _; rw [if_neg hb]
  simp only [evOp, hx, hy, h]; rfl
end Go.Proofs.Ytcjfidfealifhaa
