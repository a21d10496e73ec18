/- StateParts: for every input the call returns true and leaves what it was handed as it was.
   Conditions: none beside those that the given row states. -/
import Derived.Test.YtcjfidfealifhaaRows
import Derived.Test.YtcjfidfealifhaaSb8
import Derived.Test.YtcjfidfealifhaaVg1
import Derived.WalkKit
import Derived.ProofKit
import Derived.OpenShut
import Derived.ShutString
import Derived.ChangeOld
import Derived.Below
import Derived.SizedLaws
namespace Go.Proofs.Ytcjfidfealifhaa.stateParts
open Go.ChangeShapes Go.WideShapes Go.ChangeAt Go.RowKit
open Go.ChangeMaps (open_string shut_string)
open Go.Proofs.Ytcjfidfealifhaa Go.Proofs.Ytcjfidfealifhaa.Vm
set_option linter.unusedVariables false
theorem own : ownKnob Try.prog.godebug = none := by kernel_rfl
theorem laidOut : laidOutB Try.prog = true := by kernel_rfl
set_option maxRecDepth 100000 in
theorem lifted (os : Os) (started : os.Started) (H : Type) (enc : TypeId × Value → H) :
    ReturnsInHanded {} Try.checked os 3 .any (Rows.statePartsSpec.pre6 enc Try.prog Try.f3 Rows.statePartsRow.domain false) (Rows.statePartsSpec.post enc Try.prog Try.f3 false true false false) := by
  refine returnsInHanded_of_change_sized (C := Try.checked) own started (by kernel_rfl) Try.func3
    (ChangeSpec.witness6 (enc := enc) (C := Try.checked) false ⟨#[], #[.agg #[.int .i64 0, .int .i64 0, .int .i64 0, .int .i64 0, .int .i64 0, .int .i64 0, .int .i64 0, .int .i64 0, .int .i64 0, .int .i64 0, .int .i64 0, .int .i64 0], .slice none 0 0, .int .i64 0], []⟩ 8 (by kernel_rfl) (by kernel_rfl) (by kernel_rfl) (by kernel_rfl)) ?_
  intro W base args ds gs before hval0 hW hcnd hsz0 _
  have hsz : (DataW.weightsEach Try.prog (Try.f3.params.toList ++ Rows.statePartsSpec.plain.varTypes Try.prog) (ds ++ gs)).all (· ≤ reachBytes) = true := hsz0
  have hval : ∀ (j : Nat) t v, Try.f3.params[j]? = some t → args[j]? = some v → Value.okWide Try.prog W .any base t v := hval0
  have hW' := hW
  obtain ⟨p, q, hA0, hV, rfl, hfz, hnd⟩ := hW
  have hA : DataW.TrodAll enc Try.prog W 0 (fun _ => true) true Try.f3.params.toList args.toList ds p := hA0
  rw [Try.params3] at hA hval hsz
  obtain ⟨v0, vs0, d0, ds0, p0, q0, hargs, rfl, rfl, h0, r0⟩ := trodAll_cons hA
  obtain ⟨v1, vs1, d1, ds1, p1, q1, rfl, rfl, rfl, h1, r1⟩ := trodAll_cons r0
  obtain ⟨v2, vs2, d2, ds2, p2, q2, rfl, rfl, rfl, h2, r2⟩ := trodAll_cons r1
  obtain ⟨rfl, rfl, rfl⟩ := trodAll_nil r2
  obtain rfl : args = #[v0, v1, v2] := by cases args; simp_all
  obtain ⟨rfl, rfl⟩ := trodVars_none hV
  have k0 := h0
  have lt0 : ∀ x ∈ p0, x.block < W.heap.size := by obtain ⟨m, hm⟩ := k0; exact DataW.trod_lt m _ _ _ hm
  obtain ⟨c0, rfl⟩ := okWide_agg (tab.ok.under 23 _ rfl) (hval 0 23 v0 rfl rfl)
  obtain ⟨fu0, hf0⟩ := h0
  have ro0 := flat_of_trod tab 6 23 _ fu0 _ _ rfl hf0
  have rl0 := ro0.1
  obtain ⟨x0_0, x0_1, x0_2, x0_3, x0_4, x0_5, x0_6, x0_7, x0_8, x0_9, x0_10, x0_11, rfl⟩ := len12 rl0
  obtain ⟨a0_0, rfl, w0_0⟩ : ∃ n, x0_0 = .int .i64 n ∧ (Lit.int .i64 n).wf = true := ro0.2 0 _ _ rfl rfl
  obtain ⟨a0_1, rfl, w0_1⟩ : ∃ n, x0_1 = .int .i64 n ∧ (Lit.int .i64 n).wf = true := ro0.2 1 _ _ rfl rfl
  obtain ⟨a0_2, rfl, w0_2⟩ : ∃ n, x0_2 = .int .i64 n ∧ (Lit.int .i64 n).wf = true := ro0.2 2 _ _ rfl rfl
  obtain ⟨a0_3, rfl, w0_3⟩ : ∃ n, x0_3 = .int .i64 n ∧ (Lit.int .i64 n).wf = true := ro0.2 3 _ _ rfl rfl
  obtain ⟨a0_4, rfl, w0_4⟩ : ∃ n, x0_4 = .int .i64 n ∧ (Lit.int .i64 n).wf = true := ro0.2 4 _ _ rfl rfl
  obtain ⟨a0_5, rfl, w0_5⟩ : ∃ n, x0_5 = .int .i64 n ∧ (Lit.int .i64 n).wf = true := ro0.2 5 _ _ rfl rfl
  obtain ⟨a0_6, rfl, w0_6⟩ : ∃ n, x0_6 = .int .i64 n ∧ (Lit.int .i64 n).wf = true := ro0.2 6 _ _ rfl rfl
  obtain ⟨a0_7, rfl, w0_7⟩ : ∃ n, x0_7 = .int .i64 n ∧ (Lit.int .i64 n).wf = true := ro0.2 7 _ _ rfl rfl
  obtain ⟨a0_8, rfl, w0_8⟩ : ∃ n, x0_8 = .int .i64 n ∧ (Lit.int .i64 n).wf = true := ro0.2 8 _ _ rfl rfl
  obtain ⟨a0_9, rfl, w0_9⟩ : ∃ n, x0_9 = .int .i64 n ∧ (Lit.int .i64 n).wf = true := ro0.2 9 _ _ rfl rfl
  obtain ⟨a0_10, rfl, w0_10⟩ : ∃ n, x0_10 = .int .i64 n ∧ (Lit.int .i64 n).wf = true := ro0.2 10 _ _ rfl rfl
  obtain ⟨a0_11, rfl, w0_11⟩ : ∃ n, x0_11 = .int .i64 n ∧ (Lit.int .i64 n).wf = true := ro0.2 11 _ _ rfl rfl
  have k1 := h1
  have lt1 : ∀ x ∈ p1, x.block < W.heap.size := by obtain ⟨m, hm⟩ := k1; exact DataW.trod_lt m _ _ _ hm
  have k2 := h2
  have lt2 : ∀ x ∈ p2, x.block < W.heap.size := by obtain ⟨m, hm⟩ := k2; exact DataW.trod_lt m _ _ _ hm
  obtain ⟨a2, rfl, _, _, w2⟩ := open_int Try.underlying3 (hval 2 3 v2 rfl rfl) h2
  clear hA0 hval0 hsz0
  rcases slice_arg (d := 6) tab (t := 24) (e := 40) (te := ti40) (ls := [.int .i64, .int .i64, .int .i64, .int .i64, .int .i64, .int .i64, .int .i64, .int .i64]) Try.underlying24 rfl rfl rfl (hval 1 24 v1 rfl rfl) h1 with rfl | ⟨bl1, of1, ln1, cp1, cs1, c1, el1, fr1, rfl, hl1, hm1, hb1, hw1, hr1, es1, rr1, rfl, hes1⟩
  ·
    have bb1 : ([] : List EventV).length * 64 ≤ 140737488351232 := by decide
    refine (law_calls (StateParts_law ⟨a0_0, a0_1, a0_2, a0_3, a0_4, a0_5, a0_6, a0_7, a0_8, a0_9, a0_10, a0_11⟩ ([] : List EventV) a2 bb1) (w := W) (L := [⟨none, evtR.cells ([] : List EventV), 8⟩]) (win_cons (win_none (by decide)) win_nil) ⟨trivial, fun b h => absurd h (Nat.not_lt_zero b)⟩ (lrel_cons (vrel_agg (lrel_cons (.int _ _) (lrel_cons (.int _ _) (lrel_cons (.int _ _) (lrel_cons (.int _ _) (lrel_cons (.int _ _) (lrel_cons (.int _ _) (lrel_cons (.int _ _) (lrel_cons (.int _ _) (lrel_cons (.int _ _) (lrel_cons (.int _ _) (lrel_cons (.int _ _) (lrel_cons (.int _ _) lrel_nil))))))))))))) (lrel_cons (rel_none rfl) (lrel_cons (.int _ _) lrel_nil))) rel_bool).mono fun e W' ⟨he, bel⟩ => ?_
    subst he
    exact ⟨_, rfl, _, _, _, [], _, [], hW', trodAll_mk1 (shut_bool Try.underlying4 _), (trodAll_cons_mk (Below.trod laidOut (by kernel_rfl) (of_decide_eq_true (by kernel_rfl)) k0 bel lt0) (trodAll_cons_mk (Below.trod laidOut (by kernel_rfl) (of_decide_eq_true (by kernel_rfl)) k1 bel lt1) (trodAll_cons_mk (Below.trod laidOut (by kernel_rfl) (of_decide_eq_true (by kernel_rfl)) k2 bel lt2) trodAll_mk0))), rfl, bel.frame _, fun h => by cases h⟩
  ·
    have bb1 := slice_bound (j := 1) (by_ := 64) hsz rfl rfl Try.underlying24 hes1 (by kernel_rfl)
    obtain ⟨a1, rfl, rfl, ww1⟩ := rows_list evtR (Q := fun _ => True) rfl (fun c h => by obtain ⟨x0, x1, x2, x3, x4, x5, x6, x7, rfl⟩ := len8 h.1; obtain ⟨n0, rfl, hn0⟩ := h.2 0 _ _ rfl rfl; obtain ⟨n1, rfl, hn1⟩ := h.2 1 _ _ rfl rfl; obtain ⟨n2, rfl, hn2⟩ := h.2 2 _ _ rfl rfl; obtain ⟨n3, rfl, hn3⟩ := h.2 3 _ _ rfl rfl; obtain ⟨n4, rfl, hn4⟩ := h.2 4 _ _ rfl rfl; obtain ⟨n5, rfl, hn5⟩ := h.2 5 _ _ rfl rfl; obtain ⟨n6, rfl, hn6⟩ := h.2 6 _ _ rfl rfl; obtain ⟨n7, rfl, hn7⟩ := h.2 7 _ _ rfl rfl; exact ⟨⟨n0, n1, n2, n3, n4, n5, n6, n7⟩, rfl, trivial⟩) hr1
    refine (law_calls (StateParts_law ⟨a0_0, a0_1, a0_2, a0_3, a0_4, a0_5, a0_6, a0_7, a0_8, a0_9, a0_10, a0_11⟩ a1 a2 bb1) (w := W) (L := [⟨some (bl1, of1, cp1), evtR.cells a1, 8⟩]) (win_cons (win_at (by decide) hb1 hw1 (evtR.flat_cells a1)) win_nil) ⟨trivial, fun b h => absurd h (Nat.not_lt_zero b)⟩ (lrel_cons (vrel_agg (lrel_cons (.int _ _) (lrel_cons (.int _ _) (lrel_cons (.int _ _) (lrel_cons (.int _ _) (lrel_cons (.int _ _) (lrel_cons (.int _ _) (lrel_cons (.int _ _) (lrel_cons (.int _ _) (lrel_cons (.int _ _) (lrel_cons (.int _ _) (lrel_cons (.int _ _) (lrel_cons (.int _ _) lrel_nil))))))))))))) (lrel_cons (rel_at rfl (by decide) hl1) (lrel_cons (.int _ _) lrel_nil))) rel_bool).mono fun e W' ⟨he, bel⟩ => ?_
    subst he
    exact ⟨_, rfl, _, _, _, [], _, [], hW', trodAll_mk1 (shut_bool Try.underlying4 _), (trodAll_cons_mk (Below.trod laidOut (by kernel_rfl) (of_decide_eq_true (by kernel_rfl)) k0 bel lt0) (trodAll_cons_mk (Below.trod laidOut (by kernel_rfl) (of_decide_eq_true (by kernel_rfl)) k1 bel lt1) (trodAll_cons_mk (Below.trod laidOut (by kernel_rfl) (of_decide_eq_true (by kernel_rfl)) k2 bel lt2) trodAll_mk0))), rfl, bel.frame _, fun h => by cases h⟩
theorem over : Rows.statePartsRow.holds Try.pinned (OpenSpec.ofChange Rows.statePartsSpec) :=
  OpenClaim.holds_of_wide 3 Try.f3 rfl rfl rfl rfl rfl rfl rfl ⟨rfl, rfl, rfl, rfl, rfl⟩ rfl rfl rfl rfl rfl (by kernel_rfl) Try.func3 (by kernel_rfl)
    (of_decide_eq_true (by kernel_rfl)) (by unfold Func.isWrapper; first | (rw [if_pos (by decide +kernel)]; kernel_rfl) | (rw [if_neg (by decide +kernel)]; exact ⟨rfl, rfl⟩))
    (fun os started H enc _ => lifted os started H enc)
end Go.Proofs.Ytcjfidfealifhaa.stateParts
namespace Go.Proofs.Ytcjfidfealifhaa
theorem stateParts_holds : Rows.StatePartsSaid := stateParts.over
#print axioms stateParts_holds
end Go.Proofs.Ytcjfidfealifhaa
