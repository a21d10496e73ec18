/- An error's number. -/
import Derived.Test.YtjkidjplbddmmaaVg1
import Derived.Test.YtjkidjplbddmmaaVmT
import Derived.Test.YtjkidjplbddmmaaVmC0
import Derived.IntWalk
namespace Go.Proofs.Ytjkidjplbddmmaa
open Go Vm IntWalk
set_option linter.unusedVariables false
set_option linter.unusedSimpArgs false
theorem num_fun (x : Int) : Fun Try.prog 16 [.int .i64 x] (.int .i64 x) := by
  refine fun_of_vw tab Try.func16 rfl rfl (by simp [Try.f16]) (lrel_cons (.int _ _) lrel_nil) (.int _ _) ?_
  refine wsq (wrg (vQ tab rfl (vnl (qth (wsq (wrg (vQ tab rfl (vQ tab rfl (vnl (qth (vw_ret ?_)))))))))))
  exact ⟨.inr rfl, rfl⟩
end Go.Proofs.Ytjkidjplbddmmaa
