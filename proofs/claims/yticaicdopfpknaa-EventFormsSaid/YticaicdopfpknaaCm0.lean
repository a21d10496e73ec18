/- An error's number. -/
import Derived.Test.YticaicdopfpknaaVmSh
import Derived.Test.YticaicdopfpknaaVmFn
import Derived.Test.YticaicdopfpknaaVmV
import Derived.Test.YticaicdopfpknaaVmT
import Derived.Test.YticaicdopfpknaaVmC0
import Derived.IntWalk
namespace Go.Proofs.Yticaicdopfpknaa
open Go Vm IntWalk
set_option linter.unusedVariables false
set_option linter.unusedSimpArgs false
theorem num_fun (x : Int) : Fun Try.prog 23 [.int .i64 x] (.int .i64 x) := by
  refine fun_of_vw tab Try.func23 rfl rfl (by simp [Try.f23]) (lrel_cons (.int _ _) lrel_nil) (.int _ _) ?_
  refine w1 (w2 (vQ tab rfl (w4 (w3 (w1 (w2 (vQ tab rfl (vQ tab rfl (w4 (w3 (vw_ret ?_)))))))))))
  exact ⟨.inr rfl, rfl⟩
end Go.Proofs.Yticaicdopfpknaa
