/- Readers: numbers; done. -/
import Derived.Test.YtkfkdhjelncfhaaDoorVg1
import Derived.Test.YtkfkdhjelncfhaaDoorFd3
namespace Go.Proofs.YtkfkdhjelncfhaaDoor
open Go Vm IntWalk
set_option linter.unusedVariables false
set_option linter.unusedSimpArgs false
theorem sz0 : (⟨#[]⟩ : ByteArray).size = 0 := rfl
theorem ov_fault {σ : Ren} {p e : Int} : OV σ (faultO p e) (faultO p e) := .cells _ _ (lrel_cons (.int _ _) (lrel_cons (.iface _ (.int _ _)) lrel_nil))
theorem getnum_as {s : ByteArray} {a x t e p : Int} (h : getN (B s) a = (x, t, e, p)) (hs : s.size ≤ 9223372036854775807) : Fun Tryd.prog 12 [.string s, .int .i64 a] (.tuple #[.int .i64 x, .int .i64 t, .int .i64 e]) := by
  rw [← getR_eq h]; exact getnum_fun s a hs
end Go.Proofs.YtkfkdhjelncfhaaDoor
