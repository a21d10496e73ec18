/- ClientAgree: for every input the call returns true and leaves what it was handed as it was.
   Conditions: none beside those that the given row states. -/
import Derived.Test.YtjkidjplbddmmaaRows
import Derived.Test.YtjkidjplbddmmaaCw4
import Derived.Test.YtjkidjplbddmmaaVg1
import Derived.WalkKit
import Derived.ProofKit
import Derived.OpenShut
import Derived.ShutString
import Derived.ChangeOld
import Derived.Below
import Derived.SizedLaws
namespace Go.Proofs.Ytjkidjplbddmmaa.clientAgree
open Go.ChangeShapes Go.WideShapes Go.ChangeAt Go.RowKit
open Go.ChangeMaps (open_string shut_string)
open Go.Proofs.Ytjkidjplbddmmaa Go.Proofs.Ytjkidjplbddmmaa.Vm
set_option linter.unusedVariables false
theorem own : ownKnob Try.prog.godebug = none := by kernel_rfl
theorem laidOut : laidOutB Try.prog = true := by kernel_rfl
set_option maxRecDepth 100000 in
theorem lifted (os : Os) (started : os.Started) (H : Type) (enc : TypeId × Value → H) :
    ReturnsInHanded {} Try.checked os 4 .any (Rows.clientAgreeSpec.pre6 enc Try.prog Try.f4 Rows.clientAgreeRow.domain false) (Rows.clientAgreeSpec.post enc Try.prog Try.f4 false true false false) := by
  refine returnsInHanded_of_change_sized (C := Try.checked) own started (by kernel_rfl) Try.func4
    (ChangeSpec.witness6 (enc := enc) (C := Try.checked) false ⟨#[], #[.int .i64 0, .int .i64 0, .slice none 0 0], []⟩ 8 (by kernel_rfl) (by kernel_rfl) (by kernel_rfl) (by kernel_rfl)) ?_
  intro W base args ds gs before hval0 hW hcnd hsz0 _
  have hsz : (DataW.weightsEach Try.prog (Try.f4.params.toList ++ Rows.clientAgreeSpec.plain.varTypes Try.prog) (ds ++ gs)).all (· ≤ reachBytes) = true := hsz0
  have hval : ∀ (j : Nat) t v, Try.f4.params[j]? = some t → args[j]? = some v → Value.okWide Try.prog W .any base t v := hval0
  have hW' := hW
  obtain ⟨p, q, hA0, hV, rfl, hfz, hnd⟩ := hW
  have hA : DataW.TrodAll enc Try.prog W 0 (fun _ => true) true Try.f4.params.toList args.toList ds p := hA0
  rw [Try.params4] at hA hval hsz
  obtain ⟨v0, vs0, d0, ds0, p0, q0, hargs, rfl, rfl, h0, r0⟩ := trodAll_cons hA
  obtain ⟨v1, vs1, d1, ds1, p1, q1, rfl, rfl, rfl, h1, r1⟩ := trodAll_cons r0
  obtain ⟨v2, vs2, d2, ds2, p2, q2, rfl, rfl, rfl, h2, r2⟩ := trodAll_cons r1
  obtain ⟨rfl, rfl, rfl⟩ := trodAll_nil r2
  obtain rfl : args = #[v0, v1, v2] := by cases args; simp_all
  obtain ⟨rfl, rfl⟩ := trodVars_none hV
  have k0 := h0
  have lt0 : ∀ x ∈ p0, x.block < W.heap.size := by obtain ⟨m, hm⟩ := k0; exact DataW.trod_lt m _ _ _ hm
  obtain ⟨a0, rfl, _, _, w0⟩ := open_int Try.underlying3 (hval 0 3 v0 rfl rfl) h0
  have k1 := h1
  have lt1 : ∀ x ∈ p1, x.block < W.heap.size := by obtain ⟨m, hm⟩ := k1; exact DataW.trod_lt m _ _ _ hm
  obtain ⟨a1, rfl, _, _, w1⟩ := open_int Try.underlying3 (hval 1 3 v1 rfl rfl) h1
  have k2 := h2
  have lt2 : ∀ x ∈ p2, x.block < W.heap.size := by obtain ⟨m, hm⟩ := k2; exact DataW.trod_lt m _ _ _ hm
  clear hA0 hval0 hsz0
  rcases slice_arg (d := 6) tab (t := 42) (e := 3) (te := ti3) (ls := [.int .i64]) Try.underlying42 rfl rfl rfl (hval 2 42 v2 rfl rfl) h2 with rfl | ⟨bl2, of2, ln2, cp2, cs2, c2, el2, fr2, rfl, hl2, hm2, hb2, hw2, hr2, es2, rr2, rfl, hes2⟩
  ·
    have bb2 : ([] : List Int).length * 8 ≤ 140737488351232 := by decide
    refine (law_calls (ClientAgree_law a0 a1 ([] : List Int) bb2) (w := W) (L := [⟨none, (intR .i64).cells ([] : List Int), 1⟩]) (win_cons (win_none (by decide)) win_nil) ⟨trivial, fun b h => absurd h (Nat.not_lt_zero b)⟩ (lrel_cons (.int _ _) (lrel_cons (.int _ _) (lrel_cons (rel_none rfl) lrel_nil))) rel_bool).mono fun e W' ⟨he, bel⟩ => ?_
    subst he
    exact ⟨_, rfl, _, _, _, [], _, [], hW', trodAll_mk1 (shut_bool Try.underlying4 _), (trodAll_cons_mk (Below.trod laidOut (by kernel_rfl) (of_decide_eq_true (by kernel_rfl)) k0 bel lt0) (trodAll_cons_mk (Below.trod laidOut (by kernel_rfl) (of_decide_eq_true (by kernel_rfl)) k1 bel lt1) (trodAll_cons_mk (Below.trod laidOut (by kernel_rfl) (of_decide_eq_true (by kernel_rfl)) k2 bel lt2) trodAll_mk0))), rfl, bel.frame _, fun h => by cases h⟩
  ·
    have bb2 := slice_bound (j := 2) (by_ := 8) hsz rfl rfl Try.underlying42 hes2 (by kernel_rfl)
    obtain ⟨a2, rfl, rfl, ww2⟩ := rows_list (intR .i64) (Q := fun x => (Lit.int .i64 x).wf = true) rfl (fun c h => by obtain ⟨x, rfl⟩ := len1 h.1; obtain ⟨n, rfl, hn⟩ := h.2 0 _ _ rfl rfl; exact ⟨n, rfl, hn⟩) hr2
    refine (law_calls (ClientAgree_law a0 a1 a2 bb2) (w := W) (L := [⟨some (bl2, of2, cp2), (intR .i64).cells a2, 1⟩]) (win_cons (win_at (by decide) hb2 hw2 ((intR .i64).flat_cells a2)) win_nil) ⟨trivial, fun b h => absurd h (Nat.not_lt_zero b)⟩ (lrel_cons (.int _ _) (lrel_cons (.int _ _) (lrel_cons (rel_at rfl (by decide) hl2) lrel_nil))) rel_bool).mono fun e W' ⟨he, bel⟩ => ?_
    subst he
    exact ⟨_, rfl, _, _, _, [], _, [], hW', trodAll_mk1 (shut_bool Try.underlying4 _), (trodAll_cons_mk (Below.trod laidOut (by kernel_rfl) (of_decide_eq_true (by kernel_rfl)) k0 bel lt0) (trodAll_cons_mk (Below.trod laidOut (by kernel_rfl) (of_decide_eq_true (by kernel_rfl)) k1 bel lt1) (trodAll_cons_mk (Below.trod laidOut (by kernel_rfl) (of_decide_eq_true (by kernel_rfl)) k2 bel lt2) trodAll_mk0))), rfl, bel.frame _, fun h => by cases h⟩
theorem over : Rows.clientAgreeRow.holds Try.pinned (OpenSpec.ofChange Rows.clientAgreeSpec) :=
  OpenClaim.holds_of_wide 4 Try.f4 rfl rfl rfl rfl rfl rfl rfl ⟨rfl, rfl, rfl, rfl, rfl⟩ rfl rfl rfl rfl rfl (by kernel_rfl) Try.func4 (by kernel_rfl)
    (of_decide_eq_true (by kernel_rfl)) (by unfold Func.isWrapper; first | (rw [if_pos (by decide +kernel)]; kernel_rfl) | (rw [if_neg (by decide +kernel)]; exact ⟨rfl, rfl⟩))
    (fun os started H enc _ => lifted os started H enc)
end Go.Proofs.Ytjkidjplbddmmaa.clientAgree
namespace Go.Proofs.Ytjkidjplbddmmaa
theorem clientAgree_holds : Rows.ClientAgreeSaid := clientAgree.over
#print axioms clientAgree_holds
end Go.Proofs.Ytjkidjplbddmmaa
