/- ClientFrames: for every input the call returns true and leaves what it was handed as it was.
   Conditions: none beside those that the given row states. -/
import Derived.Test.YtjkidjplbddmmaaRows
import Derived.Test.YtjkidjplbddmmaaCw3
import Derived.Test.YtjkidjplbddmmaaVg1
import Derived.WalkKit
import Derived.ProofKit
import Derived.OpenShut
import Derived.ShutString
import Derived.ChangeOld
import Derived.Below
import Derived.SizedLaws
namespace Go.Proofs.Ytjkidjplbddmmaa.clientFrames
open Go.ChangeShapes Go.WideShapes Go.ChangeAt Go.RowKit
open Go.ChangeMaps (open_string shut_string)
open Go.Proofs.Ytjkidjplbddmmaa Go.Proofs.Ytjkidjplbddmmaa.Vm
set_option linter.unusedVariables false
theorem own : ownKnob Try.prog.godebug = none := by kernel_rfl
theorem laidOut : laidOutB Try.prog = true := by kernel_rfl
set_option maxRecDepth 100000 in
theorem lifted (os : Os) (started : os.Started) (H : Type) (enc : TypeId × Value → H) :
    ReturnsInHanded {} Try.checked os 5 .any (Rows.clientFramesSpec.pre6 enc Try.prog Try.f5 Rows.clientFramesRow.domain false) (Rows.clientFramesSpec.post enc Try.prog Try.f5 false true false false) := by
  refine returnsInHanded_of_change_sized (C := Try.checked) own started (by kernel_rfl) Try.func5
    (ChangeSpec.witness6 (enc := enc) (C := Try.checked) false ⟨#[], #[.int .i64 0, .slice none 0 0, .slice none 0 0], []⟩ 8 (by kernel_rfl) (by kernel_rfl) (by kernel_rfl) (by kernel_rfl)) ?_
  intro W base args ds gs before hval0 hW hcnd hsz0 _
  have hsz : (DataW.weightsEach Try.prog (Try.f5.params.toList ++ Rows.clientFramesSpec.plain.varTypes Try.prog) (ds ++ gs)).all (· ≤ reachBytes) = true := hsz0
  have hval : ∀ (j : Nat) t v, Try.f5.params[j]? = some t → args[j]? = some v → Value.okWide Try.prog W .any base t v := hval0
  have hW' := hW
  obtain ⟨p, q, hA0, hV, rfl, hfz, hnd⟩ := hW
  have hA : DataW.TrodAll enc Try.prog W 0 (fun _ => true) true Try.f5.params.toList args.toList ds p := hA0
  rw [Try.params5] at hA hval hsz
  obtain ⟨v0, vs0, d0, ds0, p0, q0, hargs, rfl, rfl, h0, r0⟩ := trodAll_cons hA
  obtain ⟨v1, vs1, d1, ds1, p1, q1, rfl, rfl, rfl, h1, r1⟩ := trodAll_cons r0
  obtain ⟨v2, vs2, d2, ds2, p2, q2, rfl, rfl, rfl, h2, r2⟩ := trodAll_cons r1
  obtain ⟨rfl, rfl, rfl⟩ := trodAll_nil r2
  obtain rfl : args = #[v0, v1, v2] := by cases args; simp_all
  obtain ⟨rfl, rfl⟩ := trodVars_none hV
  have k0 := h0
  have lt0 : ∀ x ∈ p0, x.block < W.heap.size := by obtain ⟨m, hm⟩ := k0; exact DataW.trod_lt m _ _ _ hm
  obtain ⟨a0, rfl, _, _, w0⟩ := open_int Try.underlying3 (hval 0 3 v0 rfl rfl) h0
  have k1 := h1
  have lt1 : ∀ x ∈ p1, x.block < W.heap.size := by obtain ⟨m, hm⟩ := k1; exact DataW.trod_lt m _ _ _ hm
  have k2 := h2
  have lt2 : ∀ x ∈ p2, x.block < W.heap.size := by obtain ⟨m, hm⟩ := k2; exact DataW.trod_lt m _ _ _ hm
  clear hA0 hval0 hsz0
  rcases slice_arg (d := 6) tab (t := 42) (e := 3) (te := ti3) (ls := [.int .i64]) Try.underlying42 rfl rfl rfl (hval 1 42 v1 rfl rfl) h1 with rfl | ⟨bl1, of1, ln1, cp1, cs1, c1, el1, fr1, rfl, hl1, hm1, hb1, hw1, hr1, es1, rr1, rfl, hes1⟩
  ·
    have bb1 : ([] : List Int).length * 8 ≤ 140737488351232 := by decide
    rcases slice_arg (d := 6) tab (t := 47) (e := 9) (te := ti9) (ls := [.str]) Try.underlying47 rfl rfl rfl (hval 2 47 v2 rfl rfl) h2 with rfl | ⟨bl2, of2, ln2, cp2, cs2, c2, el2, fr2, rfl, hl2, hm2, hb2, hw2, hr2, es2, rr2, rfl, hes2⟩
    ·
      have bb2 : ([] : List ByteArray).length * 16 ≤ 140737488351232 := by decide
      have ww2 : ∀ x ∈ ([] : List ByteArray), x.size ≤ maxLen := fun x h => by cases h
      refine (law_calls (ClientFrames_law a0 ([] : List Int) ([] : List ByteArray) bb1 bb2 ww2) (w := W) (L := [⟨none, (intR .i64).cells ([] : List Int), 1⟩, ⟨none, strR.cells ([] : List ByteArray), 1⟩]) (win_cons (win_none (by decide)) (win_cons (win_none (by decide)) win_nil)) ⟨trivial, fun b h => absurd h (Nat.not_lt_zero b)⟩ (lrel_cons (.int _ _) (lrel_cons (rel_none rfl) (lrel_cons (rel_none rfl) lrel_nil))) rel_bool).mono fun e W' ⟨he, bel⟩ => ?_
      subst he
      exact ⟨_, rfl, _, _, _, [], _, [], hW', trodAll_mk1 (shut_bool Try.underlying4 _), (trodAll_cons_mk (Below.trod laidOut (by kernel_rfl) (of_decide_eq_true (by kernel_rfl)) k0 bel lt0) (trodAll_cons_mk (Below.trod laidOut (by kernel_rfl) (of_decide_eq_true (by kernel_rfl)) k1 bel lt1) (trodAll_cons_mk (Below.trod laidOut (by kernel_rfl) (of_decide_eq_true (by kernel_rfl)) k2 bel lt2) trodAll_mk0))), rfl, bel.frame _, fun h => by cases h⟩
    ·
      have bb2 := slice_bound (j := 2) (by_ := 16) hsz rfl rfl Try.underlying47 hes2 (by kernel_rfl)
      obtain ⟨a2, rfl, rfl, ww2⟩ := rows_list strR (Q := fun x => x.size ≤ maxLen) rfl (fun c h => by obtain ⟨x, rfl⟩ := len1 h.1; obtain ⟨n, rfl, hn⟩ := h.2 0 _ _ rfl rfl; exact ⟨n, rfl, hn⟩) hr2
      refine (law_calls (ClientFrames_law a0 ([] : List Int) a2 bb1 bb2 ww2) (w := W) (L := [⟨none, (intR .i64).cells ([] : List Int), 1⟩, ⟨some (bl2, of2, cp2), strR.cells a2, 1⟩]) (win_cons (win_none (by decide)) (win_cons (win_at (by decide) hb2 hw2 (strR.flat_cells a2)) win_nil)) ⟨trivial, fun b h => absurd h (Nat.not_lt_zero b)⟩ (lrel_cons (.int _ _) (lrel_cons (rel_none rfl) (lrel_cons (rel_at rfl (by decide) hl2) lrel_nil))) rel_bool).mono fun e W' ⟨he, bel⟩ => ?_
      subst he
      exact ⟨_, rfl, _, _, _, [], _, [], hW', trodAll_mk1 (shut_bool Try.underlying4 _), (trodAll_cons_mk (Below.trod laidOut (by kernel_rfl) (of_decide_eq_true (by kernel_rfl)) k0 bel lt0) (trodAll_cons_mk (Below.trod laidOut (by kernel_rfl) (of_decide_eq_true (by kernel_rfl)) k1 bel lt1) (trodAll_cons_mk (Below.trod laidOut (by kernel_rfl) (of_decide_eq_true (by kernel_rfl)) k2 bel lt2) trodAll_mk0))), rfl, bel.frame _, fun h => by cases h⟩
  ·
    have bb1 := slice_bound (j := 1) (by_ := 8) hsz rfl rfl Try.underlying42 hes1 (by kernel_rfl)
    obtain ⟨a1, rfl, rfl, ww1⟩ := rows_list (intR .i64) (Q := fun x => (Lit.int .i64 x).wf = true) rfl (fun c h => by obtain ⟨x, rfl⟩ := len1 h.1; obtain ⟨n, rfl, hn⟩ := h.2 0 _ _ rfl rfl; exact ⟨n, rfl, hn⟩) hr1
    rcases slice_arg (d := 6) tab (t := 47) (e := 9) (te := ti9) (ls := [.str]) Try.underlying47 rfl rfl rfl (hval 2 47 v2 rfl rfl) h2 with rfl | ⟨bl2, of2, ln2, cp2, cs2, c2, el2, fr2, rfl, hl2, hm2, hb2, hw2, hr2, es2, rr2, rfl, hes2⟩
    ·
      have bb2 : ([] : List ByteArray).length * 16 ≤ 140737488351232 := by decide
      have ww2 : ∀ x ∈ ([] : List ByteArray), x.size ≤ maxLen := fun x h => by cases h
      refine (law_calls (ClientFrames_law a0 a1 ([] : List ByteArray) bb1 bb2 ww2) (w := W) (L := [⟨some (bl1, of1, cp1), (intR .i64).cells a1, 1⟩, ⟨none, strR.cells ([] : List ByteArray), 1⟩]) (win_cons (win_at (by decide) hb1 hw1 ((intR .i64).flat_cells a1)) (win_cons (win_none (by decide)) win_nil)) ⟨trivial, fun b h => absurd h (Nat.not_lt_zero b)⟩ (lrel_cons (.int _ _) (lrel_cons (rel_at rfl (by decide) hl1) (lrel_cons (rel_none rfl) lrel_nil))) rel_bool).mono fun e W' ⟨he, bel⟩ => ?_
      subst he
      exact ⟨_, rfl, _, _, _, [], _, [], hW', trodAll_mk1 (shut_bool Try.underlying4 _), (trodAll_cons_mk (Below.trod laidOut (by kernel_rfl) (of_decide_eq_true (by kernel_rfl)) k0 bel lt0) (trodAll_cons_mk (Below.trod laidOut (by kernel_rfl) (of_decide_eq_true (by kernel_rfl)) k1 bel lt1) (trodAll_cons_mk (Below.trod laidOut (by kernel_rfl) (of_decide_eq_true (by kernel_rfl)) k2 bel lt2) trodAll_mk0))), rfl, bel.frame _, fun h => by cases h⟩
    ·
      have bb2 := slice_bound (j := 2) (by_ := 16) hsz rfl rfl Try.underlying47 hes2 (by kernel_rfl)
      obtain ⟨a2, rfl, rfl, ww2⟩ := rows_list strR (Q := fun x => x.size ≤ maxLen) rfl (fun c h => by obtain ⟨x, rfl⟩ := len1 h.1; obtain ⟨n, rfl, hn⟩ := h.2 0 _ _ rfl rfl; exact ⟨n, rfl, hn⟩) hr2
      refine (law_calls (ClientFrames_law a0 a1 a2 bb1 bb2 ww2) (w := W) (L := [⟨some (bl1, of1, cp1), (intR .i64).cells a1, 1⟩, ⟨some (bl2, of2, cp2), strR.cells a2, 1⟩]) (win_cons (win_at (by decide) hb1 hw1 ((intR .i64).flat_cells a1)) (win_cons (win_at (by decide) hb2 hw2 (strR.flat_cells a2)) win_nil)) ⟨trivial, fun b h => absurd h (Nat.not_lt_zero b)⟩ (lrel_cons (.int _ _) (lrel_cons (rel_at rfl (by decide) hl1) (lrel_cons (rel_at rfl (by decide) hl2) lrel_nil))) rel_bool).mono fun e W' ⟨he, bel⟩ => ?_
      subst he
      exact ⟨_, rfl, _, _, _, [], _, [], hW', trodAll_mk1 (shut_bool Try.underlying4 _), (trodAll_cons_mk (Below.trod laidOut (by kernel_rfl) (of_decide_eq_true (by kernel_rfl)) k0 bel lt0) (trodAll_cons_mk (Below.trod laidOut (by kernel_rfl) (of_decide_eq_true (by kernel_rfl)) k1 bel lt1) (trodAll_cons_mk (Below.trod laidOut (by kernel_rfl) (of_decide_eq_true (by kernel_rfl)) k2 bel lt2) trodAll_mk0))), rfl, bel.frame _, fun h => by cases h⟩
theorem over : Rows.clientFramesRow.holds Try.pinned (OpenSpec.ofChange Rows.clientFramesSpec) :=
  OpenClaim.holds_of_wide 5 Try.f5 rfl rfl rfl rfl rfl rfl rfl ⟨rfl, rfl, rfl, rfl, rfl⟩ rfl rfl rfl rfl rfl (by kernel_rfl) Try.func5 (by kernel_rfl)
    (of_decide_eq_true (by kernel_rfl)) (by unfold Func.isWrapper; first | (rw [if_pos (by decide +kernel)]; kernel_rfl) | (rw [if_neg (by decide +kernel)]; exact ⟨rfl, rfl⟩))
    (fun os started H enc _ => lifted os started H enc)
end Go.Proofs.Ytjkidjplbddmmaa.clientFrames
namespace Go.Proofs.Ytjkidjplbddmmaa
theorem clientFrames_holds : Rows.ClientFramesSaid := clientFrames.over
#print axioms clientFrames_holds
end Go.Proofs.Ytjkidjplbddmmaa
