/- An error's number. -/
import Derived.Test.YtkfkdhjelncfhaaDoorVg1
import Derived.Test.YtkfkdhjelncfhaaDoorVmT
import Derived.Test.YtkfkdhjelncfhaaDoorVmC0
import Derived.IntWalk
namespace Go.Proofs.YtkfkdhjelncfhaaDoor
open Go Vm IntWalk
set_option linter.unusedVariables false
set_option linter.unusedSimpArgs false
theorem num_fun (x : Int) : Fun Tryd.prog 10 [.int .i64 x] (.int .i64 x) := by
  refine fun_of_vw tab Tryd.func10 rfl rfl (by simp [Tryd.f10]) (lrel_cons (.int _ _) lrel_nil) (.int _ _) ?_
  refine wsq (wrg (vQ tab rfl (vnl (qth (wsq (wrg (vQ tab rfl (vQ tab rfl (vnl (qth (vw_ret ?_)))))))))))
  exact ⟨.inr rfl, rfl⟩
end Go.Proofs.YtkfkdhjelncfhaaDoor
