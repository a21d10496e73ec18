/- EventUnlike: for every input the call returns true and leaves what it was handed as it was.
   Conditions: none beside those that the given row states. -/
import Derived.Test.YticaicdopfpknaaRows
import Derived.Test.YticaicdopfpknaaEv4
import Derived.Test.YticaicdopfpknaaVmV
import Derived.WalkKit
import Derived.ProofKit
import Derived.OpenShut
import Derived.ShutString
import Derived.ChangeOld
import Derived.Below
import Derived.SizedLaws
namespace Go.Proofs.Yticaicdopfpknaa.eventUnlike
open Go.ChangeShapes Go.WideShapes Go.ChangeAt Go.RowKit
open Go.ChangeMaps (open_string shut_string)
open Go.Proofs.Yticaicdopfpknaa Go.Proofs.Yticaicdopfpknaa.Vm
set_option linter.unusedVariables false
theorem own : ownKnob Try.prog.godebug = none := by kernel_rfl
theorem laidOut : laidOutB Try.prog = true := by kernel_rfl
set_option maxRecDepth 100000 in
theorem lifted (os : Os) (started : os.Started) (H : Type) (enc : TypeId × Value → H) :
    ReturnsInHanded {} Try.checked os 9 .any (Rows.eventUnlikeSpec.pre6 enc Try.prog Try.f9 Rows.eventUnlikeRow.domain false) (Rows.eventUnlikeSpec.post enc Try.prog Try.f9 false true false false) := by
  refine returnsInHanded_of_change_sized (C := Try.checked) own started (by kernel_rfl) Try.func9
    (ChangeSpec.witness6 (enc := enc) (C := Try.checked) false ⟨#[], #[.agg #[.int .i64 0, .int .i64 0, .int .i64 0, .int .i64 0, .int .i64 0, .int .i64 0, .int .i64 0, .int .i64 0], .agg #[.int .i64 0, .int .i64 0, .int .i64 0, .int .i64 0, .int .i64 0, .int .i64 0, .int .i64 0, .int .i64 0]], []⟩ 8 (by kernel_rfl) (by kernel_rfl) (by kernel_rfl) (by kernel_rfl)) ?_
  intro W base args ds gs before hval0 hW hcnd hsz0 _
  have hsz : (DataW.weightsEach Try.prog (Try.f9.params.toList ++ Rows.eventUnlikeSpec.plain.varTypes Try.prog) (ds ++ gs)).all (· ≤ reachBytes) = true := hsz0
  have hval : ∀ (j : Nat) t v, Try.f9.params[j]? = some t → args[j]? = some v → Value.okWide Try.prog W .any base t v := hval0
  have hW' := hW
  obtain ⟨p, q, hA0, hV, rfl, hfz, hnd⟩ := hW
  have hA : DataW.TrodAll enc Try.prog W 0 (fun _ => true) true Try.f9.params.toList args.toList ds p := hA0
  rw [Try.params9] at hA hval hsz
  obtain ⟨v0, vs0, d0, ds0, p0, q0, hargs, rfl, rfl, h0, r0⟩ := trodAll_cons hA
  obtain ⟨v1, vs1, d1, ds1, p1, q1, rfl, rfl, rfl, h1, r1⟩ := trodAll_cons r0
  obtain ⟨rfl, rfl, rfl⟩ := trodAll_nil r1
  obtain rfl : args = #[v0, v1] := by cases args; simp_all
  obtain ⟨rfl, rfl⟩ := trodVars_none hV
  have k0 := h0
  have lt0 : ∀ x ∈ p0, x.block < W.heap.size := by obtain ⟨m, hm⟩ := k0; exact DataW.trod_lt m _ _ _ hm
  obtain ⟨c0, rfl⟩ := okWide_agg (tab.ok.under 43 _ rfl) (hval 0 43 v0 rfl rfl)
  obtain ⟨fu0, hf0⟩ := h0
  have ro0 := flat_of_trod tab 6 43 _ fu0 _ _ rfl hf0
  have rl0 := ro0.1
  obtain ⟨x0_0, x0_1, x0_2, x0_3, x0_4, x0_5, x0_6, x0_7, rfl⟩ := len8 rl0
  obtain ⟨a0_0, rfl, w0_0⟩ : ∃ n, x0_0 = .int .i64 n ∧ (Lit.int .i64 n).wf = true := ro0.2 0 _ _ rfl rfl
  obtain ⟨a0_1, rfl, w0_1⟩ : ∃ n, x0_1 = .int .i64 n ∧ (Lit.int .i64 n).wf = true := ro0.2 1 _ _ rfl rfl
  obtain ⟨a0_2, rfl, w0_2⟩ : ∃ n, x0_2 = .int .i64 n ∧ (Lit.int .i64 n).wf = true := ro0.2 2 _ _ rfl rfl
  obtain ⟨a0_3, rfl, w0_3⟩ : ∃ n, x0_3 = .int .i64 n ∧ (Lit.int .i64 n).wf = true := ro0.2 3 _ _ rfl rfl
  obtain ⟨a0_4, rfl, w0_4⟩ : ∃ n, x0_4 = .int .i64 n ∧ (Lit.int .i64 n).wf = true := ro0.2 4 _ _ rfl rfl
  obtain ⟨a0_5, rfl, w0_5⟩ : ∃ n, x0_5 = .int .i64 n ∧ (Lit.int .i64 n).wf = true := ro0.2 5 _ _ rfl rfl
  obtain ⟨a0_6, rfl, w0_6⟩ : ∃ n, x0_6 = .int .i64 n ∧ (Lit.int .i64 n).wf = true := ro0.2 6 _ _ rfl rfl
  obtain ⟨a0_7, rfl, w0_7⟩ : ∃ n, x0_7 = .int .i64 n ∧ (Lit.int .i64 n).wf = true := ro0.2 7 _ _ rfl rfl
  have k1 := h1
  have lt1 : ∀ x ∈ p1, x.block < W.heap.size := by obtain ⟨m, hm⟩ := k1; exact DataW.trod_lt m _ _ _ hm
  obtain ⟨c1, rfl⟩ := okWide_agg (tab.ok.under 43 _ rfl) (hval 1 43 v1 rfl rfl)
  obtain ⟨fu1, hf1⟩ := h1
  have ro1 := flat_of_trod tab 6 43 _ fu1 _ _ rfl hf1
  have rl1 := ro1.1
  obtain ⟨x1_0, x1_1, x1_2, x1_3, x1_4, x1_5, x1_6, x1_7, rfl⟩ := len8 rl1
  obtain ⟨a1_0, rfl, w1_0⟩ : ∃ n, x1_0 = .int .i64 n ∧ (Lit.int .i64 n).wf = true := ro1.2 0 _ _ rfl rfl
  obtain ⟨a1_1, rfl, w1_1⟩ : ∃ n, x1_1 = .int .i64 n ∧ (Lit.int .i64 n).wf = true := ro1.2 1 _ _ rfl rfl
  obtain ⟨a1_2, rfl, w1_2⟩ : ∃ n, x1_2 = .int .i64 n ∧ (Lit.int .i64 n).wf = true := ro1.2 2 _ _ rfl rfl
  obtain ⟨a1_3, rfl, w1_3⟩ : ∃ n, x1_3 = .int .i64 n ∧ (Lit.int .i64 n).wf = true := ro1.2 3 _ _ rfl rfl
  obtain ⟨a1_4, rfl, w1_4⟩ : ∃ n, x1_4 = .int .i64 n ∧ (Lit.int .i64 n).wf = true := ro1.2 4 _ _ rfl rfl
  obtain ⟨a1_5, rfl, w1_5⟩ : ∃ n, x1_5 = .int .i64 n ∧ (Lit.int .i64 n).wf = true := ro1.2 5 _ _ rfl rfl
  obtain ⟨a1_6, rfl, w1_6⟩ : ∃ n, x1_6 = .int .i64 n ∧ (Lit.int .i64 n).wf = true := ro1.2 6 _ _ rfl rfl
  obtain ⟨a1_7, rfl, w1_7⟩ : ∃ n, x1_7 = .int .i64 n ∧ (Lit.int .i64 n).wf = true := ro1.2 7 _ _ rfl rfl
  clear hA0 hval0 hsz0
  refine (fun_calls (EventUnlike_law ⟨a0_0, a0_1, a0_2, a0_3, a0_4, a0_5, a0_6, a0_7⟩ ⟨a1_0, a1_1, a1_2, a1_3, a1_4, a1_5, a1_6, a1_7⟩) (w := W) (lrel_cons (vrel_agg (lrel_cons (.int _ _) (lrel_cons (.int _ _) (lrel_cons (.int _ _) (lrel_cons (.int _ _) (lrel_cons (.int _ _) (lrel_cons (.int _ _) (lrel_cons (.int _ _) (lrel_cons (.int _ _) lrel_nil))))))))) (lrel_cons (vrel_agg (lrel_cons (.int _ _) (lrel_cons (.int _ _) (lrel_cons (.int _ _) (lrel_cons (.int _ _) (lrel_cons (.int _ _) (lrel_cons (.int _ _) (lrel_cons (.int _ _) (lrel_cons (.int _ _) lrel_nil))))))))) lrel_nil)) rel_bool).mono fun e W' ⟨he, bel⟩ => ?_
  subst he
  exact ⟨_, rfl, _, _, _, [], _, [], hW', trodAll_mk1 (shut_bool Try.underlying4 _), (trodAll_cons_mk (Below.trod laidOut (by kernel_rfl) (of_decide_eq_true (by kernel_rfl)) k0 bel lt0) (trodAll_cons_mk (Below.trod laidOut (by kernel_rfl) (of_decide_eq_true (by kernel_rfl)) k1 bel lt1) trodAll_mk0)), rfl, bel.frame _, fun h => by cases h⟩
theorem over : Rows.eventUnlikeRow.holds Try.pinned (OpenSpec.ofChange Rows.eventUnlikeSpec) :=
  OpenClaim.holds_of_wide 9 Try.f9 rfl rfl rfl rfl rfl rfl rfl ⟨rfl, rfl, rfl, rfl, rfl⟩ rfl rfl rfl rfl rfl (by kernel_rfl) Try.func9 (by kernel_rfl)
    (of_decide_eq_true (by kernel_rfl)) (by unfold Func.isWrapper; first | (rw [if_pos (by decide +kernel)]; kernel_rfl) | (rw [if_neg (by decide +kernel)]; exact ⟨rfl, rfl⟩))
    (fun os started H enc _ => lifted os started H enc)
end Go.Proofs.Yticaicdopfpknaa.eventUnlike
namespace Go.Proofs.Yticaicdopfpknaa
theorem eventUnlike_holds : Rows.EventUnlikeSaid := eventUnlike.over
#print axioms eventUnlike_holds
end Go.Proofs.Yticaicdopfpknaa
