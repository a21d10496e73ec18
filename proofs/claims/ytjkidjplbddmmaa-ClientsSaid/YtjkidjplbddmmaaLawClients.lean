/- Clients: for every input the call returns true and leaves what it was handed as it was.
   Conditions: none beside those that the given row states. -/
import Derived.Test.YtjkidjplbddmmaaRows
import Derived.Test.YtjkidjplbddmmaaCw1
import Derived.Test.YtjkidjplbddmmaaVg1
import Derived.WalkKit
import Derived.ProofKit
import Derived.OpenShut
import Derived.ShutString
import Derived.ChangeOld
import Derived.Below
import Derived.SizedLaws
namespace Go.Proofs.Ytjkidjplbddmmaa.clients
open Go.ChangeShapes Go.WideShapes Go.ChangeAt Go.RowKit
open Go.ChangeMaps (open_string shut_string)
open Go.Proofs.Ytjkidjplbddmmaa Go.Proofs.Ytjkidjplbddmmaa.Vm
set_option linter.unusedVariables false
theorem own : ownKnob Try.prog.godebug = none := by kernel_rfl
theorem laidOut : laidOutB Try.prog = true := by kernel_rfl
set_option maxRecDepth 100000 in
theorem lifted (os : Os) (started : os.Started) (H : Type) (enc : TypeId × Value → H) :
    ReturnsInHanded {} Try.checked os 6 .any (Rows.clientsSpec.pre6 enc Try.prog Try.f6 Rows.clientsRow.domain false) (Rows.clientsSpec.post enc Try.prog Try.f6 false true false false) := by
  refine returnsInHanded_of_change_sized (C := Try.checked) own started (by kernel_rfl) Try.func6
    (ChangeSpec.witness6 (enc := enc) (C := Try.checked) false ⟨#[], #[.int .i64 0, .int .i64 0, .int .i64 0, .agg #[.int .i64 0, .int .i64 0, .int .i64 0, .int .i64 0, .int .i64 0, .int .i64 0, .int .i64 0, .int .i64 0, .string ⟨#[]⟩], .agg #[.int .i64 0, .int .i64 0, .int .i64 0, .int .i64 0, .int .i64 0, .int .i64 0, .int .i64 0, .int .i64 0, .string ⟨#[]⟩], .int .i64 0, .int .i64 0, .int .i64 0, .string ⟨#[]⟩], []⟩ 8 (by kernel_rfl) (by kernel_rfl) (by kernel_rfl) (by kernel_rfl)) ?_
  intro W base args ds gs before hval0 hW hcnd hsz0 _
  have hsz : (DataW.weightsEach Try.prog (Try.f6.params.toList ++ Rows.clientsSpec.plain.varTypes Try.prog) (ds ++ gs)).all (· ≤ reachBytes) = true := hsz0
  have hval : ∀ (j : Nat) t v, Try.f6.params[j]? = some t → args[j]? = some v → Value.okWide Try.prog W .any base t v := hval0
  have hW' := hW
  obtain ⟨p, q, hA0, hV, rfl, hfz, hnd⟩ := hW
  have hA : DataW.TrodAll enc Try.prog W 0 (fun _ => true) true Try.f6.params.toList args.toList ds p := hA0
  rw [Try.params6] at hA hval hsz
  obtain ⟨v0, vs0, d0, ds0, p0, q0, hargs, rfl, rfl, h0, r0⟩ := trodAll_cons hA
  obtain ⟨v1, vs1, d1, ds1, p1, q1, rfl, rfl, rfl, h1, r1⟩ := trodAll_cons r0
  obtain ⟨v2, vs2, d2, ds2, p2, q2, rfl, rfl, rfl, h2, r2⟩ := trodAll_cons r1
  obtain ⟨v3, vs3, d3, ds3, p3, q3, rfl, rfl, rfl, h3, r3⟩ := trodAll_cons r2
  obtain ⟨v4, vs4, d4, ds4, p4, q4, rfl, rfl, rfl, h4, r4⟩ := trodAll_cons r3
  obtain ⟨v5, vs5, d5, ds5, p5, q5, rfl, rfl, rfl, h5, r5⟩ := trodAll_cons r4
  obtain ⟨v6, vs6, d6, ds6, p6, q6, rfl, rfl, rfl, h6, r6⟩ := trodAll_cons r5
  obtain ⟨v7, vs7, d7, ds7, p7, q7, rfl, rfl, rfl, h7, r7⟩ := trodAll_cons r6
  obtain ⟨v8, vs8, d8, ds8, p8, q8, rfl, rfl, rfl, h8, r8⟩ := trodAll_cons r7
  obtain ⟨rfl, rfl, rfl⟩ := trodAll_nil r8
  obtain rfl : args = #[v0, v1, v2, v3, v4, v5, v6, v7, v8] := by cases args; simp_all
  obtain ⟨rfl, rfl⟩ := trodVars_none hV
  have k0 := h0
  have lt0 : ∀ x ∈ p0, x.block < W.heap.size := by obtain ⟨m, hm⟩ := k0; exact DataW.trod_lt m _ _ _ hm
  obtain ⟨a0, rfl, _, _, w0⟩ := open_int Try.underlying3 (hval 0 3 v0 rfl rfl) h0
  have k1 := h1
  have lt1 : ∀ x ∈ p1, x.block < W.heap.size := by obtain ⟨m, hm⟩ := k1; exact DataW.trod_lt m _ _ _ hm
  obtain ⟨a1, rfl, _, _, w1⟩ := open_int Try.underlying3 (hval 1 3 v1 rfl rfl) h1
  have k2 := h2
  have lt2 : ∀ x ∈ p2, x.block < W.heap.size := by obtain ⟨m, hm⟩ := k2; exact DataW.trod_lt m _ _ _ hm
  obtain ⟨a2, rfl, _, _, w2⟩ := open_int Try.underlying3 (hval 2 3 v2 rfl rfl) h2
  have k3 := h3
  have lt3 : ∀ x ∈ p3, x.block < W.heap.size := by obtain ⟨m, hm⟩ := k3; exact DataW.trod_lt m _ _ _ hm
  obtain ⟨c3, rfl⟩ := okWide_agg (tab.ok.under 28 _ rfl) (hval 3 28 v3 rfl rfl)
  obtain ⟨fu3, hf3⟩ := h3
  have ro3 := flat_of_trod tab 6 28 _ fu3 _ _ rfl hf3
  have rl3 := ro3.1
  obtain ⟨x3_0, x3_1, x3_2, x3_3, x3_4, x3_5, x3_6, x3_7, x3_8, rfl⟩ := len9 rl3
  obtain ⟨a3_0, rfl, w3_0⟩ : ∃ n, x3_0 = .int .i64 n ∧ (Lit.int .i64 n).wf = true := ro3.2 0 _ _ rfl rfl
  obtain ⟨a3_1, rfl, w3_1⟩ : ∃ n, x3_1 = .int .i64 n ∧ (Lit.int .i64 n).wf = true := ro3.2 1 _ _ rfl rfl
  obtain ⟨a3_2, rfl, w3_2⟩ : ∃ n, x3_2 = .int .i64 n ∧ (Lit.int .i64 n).wf = true := ro3.2 2 _ _ rfl rfl
  obtain ⟨a3_3, rfl, w3_3⟩ : ∃ n, x3_3 = .int .i64 n ∧ (Lit.int .i64 n).wf = true := ro3.2 3 _ _ rfl rfl
  obtain ⟨a3_4, rfl, w3_4⟩ : ∃ n, x3_4 = .int .i64 n ∧ (Lit.int .i64 n).wf = true := ro3.2 4 _ _ rfl rfl
  obtain ⟨a3_5, rfl, w3_5⟩ : ∃ n, x3_5 = .int .i64 n ∧ (Lit.int .i64 n).wf = true := ro3.2 5 _ _ rfl rfl
  obtain ⟨a3_6, rfl, w3_6⟩ : ∃ n, x3_6 = .int .i64 n ∧ (Lit.int .i64 n).wf = true := ro3.2 6 _ _ rfl rfl
  obtain ⟨a3_7, rfl, w3_7⟩ : ∃ n, x3_7 = .int .i64 n ∧ (Lit.int .i64 n).wf = true := ro3.2 7 _ _ rfl rfl
  obtain ⟨a3_8, rfl, w3_8⟩ : ∃ s, x3_8 = .string s ∧ s.size ≤ maxLen := ro3.2 8 _ _ rfl rfl
  have k4 := h4
  have lt4 : ∀ x ∈ p4, x.block < W.heap.size := by obtain ⟨m, hm⟩ := k4; exact DataW.trod_lt m _ _ _ hm
  obtain ⟨c4, rfl⟩ := okWide_agg (tab.ok.under 30 _ rfl) (hval 4 30 v4 rfl rfl)
  obtain ⟨fu4, hf4⟩ := h4
  have ro4 := flat_of_trod tab 6 30 _ fu4 _ _ rfl hf4
  have rl4 := ro4.1
  obtain ⟨x4_0, x4_1, x4_2, x4_3, x4_4, x4_5, x4_6, x4_7, x4_8, rfl⟩ := len9 rl4
  obtain ⟨a4_0, rfl, w4_0⟩ : ∃ n, x4_0 = .int .i64 n ∧ (Lit.int .i64 n).wf = true := ro4.2 0 _ _ rfl rfl
  obtain ⟨a4_1, rfl, w4_1⟩ : ∃ n, x4_1 = .int .i64 n ∧ (Lit.int .i64 n).wf = true := ro4.2 1 _ _ rfl rfl
  obtain ⟨a4_2, rfl, w4_2⟩ : ∃ n, x4_2 = .int .i64 n ∧ (Lit.int .i64 n).wf = true := ro4.2 2 _ _ rfl rfl
  obtain ⟨a4_3, rfl, w4_3⟩ : ∃ n, x4_3 = .int .i64 n ∧ (Lit.int .i64 n).wf = true := ro4.2 3 _ _ rfl rfl
  obtain ⟨a4_4, rfl, w4_4⟩ : ∃ n, x4_4 = .int .i64 n ∧ (Lit.int .i64 n).wf = true := ro4.2 4 _ _ rfl rfl
  obtain ⟨a4_5, rfl, w4_5⟩ : ∃ n, x4_5 = .int .i64 n ∧ (Lit.int .i64 n).wf = true := ro4.2 5 _ _ rfl rfl
  obtain ⟨a4_6, rfl, w4_6⟩ : ∃ n, x4_6 = .int .i64 n ∧ (Lit.int .i64 n).wf = true := ro4.2 6 _ _ rfl rfl
  obtain ⟨a4_7, rfl, w4_7⟩ : ∃ n, x4_7 = .int .i64 n ∧ (Lit.int .i64 n).wf = true := ro4.2 7 _ _ rfl rfl
  obtain ⟨a4_8, rfl, w4_8⟩ : ∃ s, x4_8 = .string s ∧ s.size ≤ maxLen := ro4.2 8 _ _ rfl rfl
  have k5 := h5
  have lt5 : ∀ x ∈ p5, x.block < W.heap.size := by obtain ⟨m, hm⟩ := k5; exact DataW.trod_lt m _ _ _ hm
  obtain ⟨a5, rfl, _, _, w5⟩ := open_int Try.underlying3 (hval 5 3 v5 rfl rfl) h5
  have k6 := h6
  have lt6 : ∀ x ∈ p6, x.block < W.heap.size := by obtain ⟨m, hm⟩ := k6; exact DataW.trod_lt m _ _ _ hm
  obtain ⟨a6, rfl, _, _, w6⟩ := open_int Try.underlying3 (hval 6 3 v6 rfl rfl) h6
  have k7 := h7
  have lt7 : ∀ x ∈ p7, x.block < W.heap.size := by obtain ⟨m, hm⟩ := k7; exact DataW.trod_lt m _ _ _ hm
  obtain ⟨a7, rfl, _, _, w7⟩ := open_int Try.underlying3 (hval 7 3 v7 rfl rfl) h7
  have k8 := h8
  have lt8 : ∀ x ∈ p8, x.block < W.heap.size := by obtain ⟨m, hm⟩ := k8; exact DataW.trod_lt m _ _ _ hm
  obtain ⟨a8, rfl, _, _, w8⟩ := open_string Try.underlying9 (hval 8 9 v8 rfl rfl) h8
  clear hA0 hval0 hsz0
  refine (fun_calls (Clients_law a0 a1 a2 ⟨a3_0, a3_1, a3_2, a3_3, a3_4, a3_5, a3_6, a3_7, a3_8⟩ ⟨a4_0, a4_1, a4_2, a4_3, a4_4, a4_5, a4_6, a4_7, a4_8⟩ a5 a6 a7 a8 w8) (w := W) ⟨trivial, fun b h => absurd h (Nat.not_lt_zero b)⟩ (lrel_cons (.int _ _) (lrel_cons (.int _ _) (lrel_cons (.int _ _) (lrel_cons (vrel_agg (lrel_cons (.int _ _) (lrel_cons (.int _ _) (lrel_cons (.int _ _) (lrel_cons (.int _ _) (lrel_cons (.int _ _) (lrel_cons (.int _ _) (lrel_cons (.int _ _) (lrel_cons (.int _ _) (lrel_cons (.string _) lrel_nil)))))))))) (lrel_cons (vrel_agg (lrel_cons (.int _ _) (lrel_cons (.int _ _) (lrel_cons (.int _ _) (lrel_cons (.int _ _) (lrel_cons (.int _ _) (lrel_cons (.int _ _) (lrel_cons (.int _ _) (lrel_cons (.int _ _) (lrel_cons (.string _) lrel_nil)))))))))) (lrel_cons (.int _ _) (lrel_cons (.int _ _) (lrel_cons (.int _ _) (lrel_cons (.string _) lrel_nil))))))))) rel_bool).mono fun e W' ⟨he, bel⟩ => ?_
  subst he
  exact ⟨_, rfl, _, _, _, [], _, [], hW', trodAll_mk1 (shut_bool Try.underlying4 _), (trodAll_cons_mk (Below.trod laidOut (by kernel_rfl) (of_decide_eq_true (by kernel_rfl)) k0 bel lt0) (trodAll_cons_mk (Below.trod laidOut (by kernel_rfl) (of_decide_eq_true (by kernel_rfl)) k1 bel lt1) (trodAll_cons_mk (Below.trod laidOut (by kernel_rfl) (of_decide_eq_true (by kernel_rfl)) k2 bel lt2) (trodAll_cons_mk (Below.trod laidOut (by kernel_rfl) (of_decide_eq_true (by kernel_rfl)) k3 bel lt3) (trodAll_cons_mk (Below.trod laidOut (by kernel_rfl) (of_decide_eq_true (by kernel_rfl)) k4 bel lt4) (trodAll_cons_mk (Below.trod laidOut (by kernel_rfl) (of_decide_eq_true (by kernel_rfl)) k5 bel lt5) (trodAll_cons_mk (Below.trod laidOut (by kernel_rfl) (of_decide_eq_true (by kernel_rfl)) k6 bel lt6) (trodAll_cons_mk (Below.trod laidOut (by kernel_rfl) (of_decide_eq_true (by kernel_rfl)) k7 bel lt7) (trodAll_cons_mk (Below.trod laidOut (by kernel_rfl) (of_decide_eq_true (by kernel_rfl)) k8 bel lt8) trodAll_mk0))))))))), rfl, bel.frame _, fun h => by cases h⟩
theorem over : Rows.clientsRow.holds Try.pinned (OpenSpec.ofChange Rows.clientsSpec) :=
  OpenClaim.holds_of_wide 6 Try.f6 rfl rfl rfl rfl rfl rfl rfl ⟨rfl, rfl, rfl, rfl, rfl⟩ rfl rfl rfl rfl rfl (by kernel_rfl) Try.func6 (by kernel_rfl)
    (of_decide_eq_true (by kernel_rfl)) (by unfold Func.isWrapper; first | (rw [if_pos (by decide +kernel)]; kernel_rfl) | (rw [if_neg (by decide +kernel)]; exact ⟨rfl, rfl⟩))
    (fun os started H enc _ => lifted os started H enc)
end Go.Proofs.Ytjkidjplbddmmaa.clients
namespace Go.Proofs.Ytjkidjplbddmmaa
theorem clients_holds : Rows.ClientsSaid := clients.over
#print axioms clients_holds
end Go.Proofs.Ytjkidjplbddmmaa
