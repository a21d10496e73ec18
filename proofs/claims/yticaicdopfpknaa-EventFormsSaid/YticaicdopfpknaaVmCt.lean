/- Regions entered with just the temporaries that are looked at later. No program in it. -/
import Derived.Test.YticaicdopfpknaaVmFn
set_option linter.unusedVariables false
set_option linter.unusedSimpArgs false
namespace Go.Proofs.Yticaicdopfpknaa.Vm
open Go
section
variable {P : Program} {m g : Nat} {Q : Exit → St → Prop} {ops : Array Oper} {env env0 : List (Nat × Value)} {V : Heap} {n : Nat}
theorem is_vl {l : List Oper} {s : St} (h : VL P m g ops Q l s) : VL P m g ops Q l s := h
theorem is_vd {done : List Item} {l : List Oper} {s s0 : St} (h : VD P m g ops Q s0 done l s) : VD P m g ops Q s0 done l s := h
theorem is_vw {c : Code} {s : St} (h : VW P m g c Q s) : VW P m g c Q s := h
theorem vw_region_cut (id : Nat) (h : SubEnv env0 env) (K : VL P m g ops Q ops.toList ⟨env0, V, n⟩) : VW P m g (.region id ops false) Q ⟨env, V, n⟩ :=
  vw_weaken (env' := env0) (V' := V) (s := ⟨env, V, n⟩) h (fun _ _ h => h) (vw_region K)
theorem vw_draw_cut (id : Nat) (hmx : P.follows .mixedOrders = true) (h : SubEnv env0 env) (K : VD P m g ops Q ⟨env0, V, n⟩ [] ops.toList ⟨env0, V, n⟩) : VW P m g (.region id ops true) Q ⟨env, V, n⟩ :=
  vw_weaken (env' := env0) (V' := V) (s := ⟨env, V, n⟩) h (fun _ _ h => h) (vw_draw hmx K)
end
end Go.Proofs.Yticaicdopfpknaa.Vm
