/- StateSessions: for every input the call returns true and leaves what it was handed as it was.
   Conditions: none beside those that the given row states. -/
import Derived.Test.YtcjfidfealifhaaRows
import Derived.Test.YtcjfidfealifhaaSb7
import Derived.Test.YtcjfidfealifhaaVg1
import Derived.WalkKit
import Derived.ProofKit
import Derived.OpenShut
import Derived.ShutString
import Derived.ChangeOld
import Derived.Below
import Derived.SizedLaws
namespace Go.Proofs.Ytcjfidfealifhaa.stateSessions
open Go.ChangeShapes Go.WideShapes Go.ChangeAt Go.RowKit
open Go.ChangeMaps (open_string shut_string)
open Go.Proofs.Ytcjfidfealifhaa Go.Proofs.Ytcjfidfealifhaa.Vm
set_option linter.unusedVariables false
theorem own : ownKnob Try.prog.godebug = none := by kernel_rfl
theorem laidOut : laidOutB Try.prog = true := by kernel_rfl
set_option maxRecDepth 100000 in
theorem lifted (os : Os) (started : os.Started) (H : Type) (enc : TypeId × Value → H) :
    ReturnsInHanded {} Try.checked os 6 .any (Rows.stateSessionsSpec.pre6 enc Try.prog Try.f6 Rows.stateSessionsRow.domain false) (Rows.stateSessionsSpec.post enc Try.prog Try.f6 false true false false) := by
  refine returnsInHanded_of_change_sized (C := Try.checked) own started (by kernel_rfl) Try.func6
    (ChangeSpec.witness6 (enc := enc) (C := Try.checked) false ⟨#[], #[.slice none 0 0], []⟩ 8 (by kernel_rfl) (by kernel_rfl) (by kernel_rfl) (by kernel_rfl)) ?_
  intro W base args ds gs before hval0 hW hcnd hsz0 _
  have hsz : (DataW.weightsEach Try.prog (Try.f6.params.toList ++ Rows.stateSessionsSpec.plain.varTypes Try.prog) (ds ++ gs)).all (· ≤ reachBytes) = true := hsz0
  have hval : ∀ (j : Nat) t v, Try.f6.params[j]? = some t → args[j]? = some v → Value.okWide Try.prog W .any base t v := hval0
  have hW' := hW
  obtain ⟨p, q, hA0, hV, rfl, hfz, hnd⟩ := hW
  have hA : DataW.TrodAll enc Try.prog W 0 (fun _ => true) true Try.f6.params.toList args.toList ds p := hA0
  rw [Try.params6] at hA hval hsz
  obtain ⟨v0, vs0, d0, ds0, p0, q0, hargs, rfl, rfl, h0, r0⟩ := trodAll_cons hA
  obtain ⟨rfl, rfl, rfl⟩ := trodAll_nil r0
  obtain rfl : args = #[v0] := by cases args; simp_all
  obtain ⟨rfl, rfl⟩ := trodVars_none hV
  have k0 := h0
  have lt0 : ∀ x ∈ p0, x.block < W.heap.size := by obtain ⟨m, hm⟩ := k0; exact DataW.trod_lt m _ _ _ hm
  clear hA0 hval0 hsz0
  rcases slice_arg (d := 6) tab (t := 30) (e := 3) (te := ti3) (ls := [.int .i64]) Try.underlying30 rfl rfl rfl (hval 0 30 v0 rfl rfl) h0 with rfl | ⟨bl0, of0, ln0, cp0, cs0, c0, el0, fr0, rfl, hl0, hm0, hb0, hw0, hr0, es0, rr0, rfl, hes0⟩
  ·
    have bb0 : ([] : List Int).length * 8 ≤ 140737488351232 := by decide
    refine (law_calls (StateSessions_law ([] : List Int) bb0) (w := W) (L := [⟨none, (intR .i64).cells ([] : List Int), 1⟩]) (win_cons (win_none (by decide)) win_nil) ⟨trivial, fun b h => absurd h (Nat.not_lt_zero b)⟩ (lrel_cons (rel_none rfl) lrel_nil) rel_bool).mono fun e W' ⟨he, bel⟩ => ?_
    subst he
    exact ⟨_, rfl, _, _, _, [], _, [], hW', trodAll_mk1 (shut_bool Try.underlying4 _), (trodAll_cons_mk (Below.trod laidOut (by kernel_rfl) (of_decide_eq_true (by kernel_rfl)) k0 bel lt0) trodAll_mk0), rfl, bel.frame _, fun h => by cases h⟩
  ·
    have bb0 := slice_bound (j := 0) (by_ := 8) hsz rfl rfl Try.underlying30 hes0 (by kernel_rfl)
    obtain ⟨a0, rfl, rfl, ww0⟩ := rows_list (intR .i64) (Q := fun x => (Lit.int .i64 x).wf = true) rfl (fun c h => by obtain ⟨x, rfl⟩ := len1 h.1; obtain ⟨n, rfl, hn⟩ := h.2 0 _ _ rfl rfl; exact ⟨n, rfl, hn⟩) hr0
    refine (law_calls (StateSessions_law a0 bb0) (w := W) (L := [⟨some (bl0, of0, cp0), (intR .i64).cells a0, 1⟩]) (win_cons (win_at (by decide) hb0 hw0 ((intR .i64).flat_cells a0)) win_nil) ⟨trivial, fun b h => absurd h (Nat.not_lt_zero b)⟩ (lrel_cons (rel_at rfl (by decide) hl0) lrel_nil) rel_bool).mono fun e W' ⟨he, bel⟩ => ?_
    subst he
    exact ⟨_, rfl, _, _, _, [], _, [], hW', trodAll_mk1 (shut_bool Try.underlying4 _), (trodAll_cons_mk (Below.trod laidOut (by kernel_rfl) (of_decide_eq_true (by kernel_rfl)) k0 bel lt0) trodAll_mk0), rfl, bel.frame _, fun h => by cases h⟩
theorem over : Rows.stateSessionsRow.holds Try.pinned (OpenSpec.ofChange Rows.stateSessionsSpec) :=
  OpenClaim.holds_of_wide 6 Try.f6 rfl rfl rfl rfl rfl rfl rfl ⟨rfl, rfl, rfl, rfl, rfl⟩ rfl rfl rfl rfl rfl (by kernel_rfl) Try.func6 (by kernel_rfl)
    (of_decide_eq_true (by kernel_rfl)) (by unfold Func.isWrapper; first | (rw [if_pos (by decide +kernel)]; kernel_rfl) | (rw [if_neg (by decide +kernel)]; exact ⟨rfl, rfl⟩))
    (fun os started H enc _ => lifted os started H enc)
end Go.Proofs.Ytcjfidfealifhaa.stateSessions
namespace Go.Proofs.Ytcjfidfealifhaa
theorem stateSessions_holds : Rows.StateSessionsSaid := stateSessions.over
#print axioms stateSessions_holds
end Go.Proofs.Ytcjfidfealifhaa
