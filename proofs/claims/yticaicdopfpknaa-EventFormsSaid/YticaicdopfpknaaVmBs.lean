/- A slice that is built, its row told. No program in it. -/
import Derived.Test.YticaicdopfpknaaVmFn
import Derived.KernelRfl
set_option linter.unusedVariables false
set_option linter.unusedSimpArgs false
namespace Go.Proofs.Yticaicdopfpknaa.Vm
open Go
section
variable {P : Program} {τ : Nat → Option TI} {m g : Nat} {Q : Exit → St → Prop} {ops : Array Oper} {l : List Oper} {o : Oper} {env : List (Nat × Value)} {V : Heap} {n : Nat}
theorem vb_op (hτ : Tab P τ) {d len : Nat} {ob : VObj} (hw : Want ops env o true) (hd : o.dst = some d) (hm : fitsT m (some d) = true) (h : evOp τ env V n o.op = some ⟨.slice (some ⟨n, 0, none⟩) len 0, [(n, some ob)], 1, []⟩)
    (K : VL P m g ops Q l ⟨(d, .slice (some ⟨n, 0, none⟩) len 0) :: env, upd V n (some ob), n + 1⟩) : VL P m g ops Q (o :: l) ⟨env, V, n⟩ := vn_op hτ hw hd hm h K
end
end Go.Proofs.Yticaicdopfpknaa.Vm
