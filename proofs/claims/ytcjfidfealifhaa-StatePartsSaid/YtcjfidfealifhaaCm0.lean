/- An error's number. -/
import Derived.Test.YtcjfidfealifhaaVg1
import Derived.Test.YtcjfidfealifhaaVmT
import Derived.Test.YtcjfidfealifhaaVmC0
import Derived.IntWalk
namespace Go.Proofs.Ytcjfidfealifhaa
open Go Vm IntWalk
set_option linter.unusedVariables false
set_option linter.unusedSimpArgs false
theorem num_fun (x : Int) : Fun Try.prog 11 [.int .i64 x] (.int .i64 x) := by
  refine fun_of_vw tab Try.func11 rfl rfl (by simp [Try.f11]) (lrel_cons (.int _ _) lrel_nil) (.int _ _) ?_
  refine wsq (wrg (vQ tab rfl (vnl (qth (wsq (wrg (vQ tab rfl (vQ tab rfl (vnl (qth (vw_ret ?_)))))))))))
  exact ⟨.inr rfl, rfl⟩
end Go.Proofs.Ytcjfidfealifhaa
