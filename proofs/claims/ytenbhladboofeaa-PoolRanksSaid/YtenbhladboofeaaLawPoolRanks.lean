/- PoolRanks: for every input the call returns true and leaves what it was handed as it was.
   Conditions: none beside those that the given row states. -/
import Derived.Test.YtenbhladboofeaaRows
import Derived.Test.YtenbhladboofeaaPl8
import Derived.Test.YtenbhladboofeaaVmV
import Derived.WalkKit
import Derived.ProofKit
import Derived.OpenShut
import Derived.ShutString
import Derived.ChangeOld
import Derived.Below
import Derived.SizedLaws
namespace Go.Proofs.Ytenbhladboofeaa.poolRanks
open Go.ChangeShapes Go.WideShapes Go.ChangeAt Go.RowKit
open Go.ChangeMaps (open_string shut_string)
open Go.Proofs.Ytenbhladboofeaa Go.Proofs.Ytenbhladboofeaa.Vm
set_option linter.unusedVariables false
theorem own : ownKnob Try.prog.godebug = none := by kernel_rfl
theorem laidOut : laidOutB Try.prog = true := by kernel_rfl
set_option maxRecDepth 100000 in
theorem lifted (os : Os) (started : os.Started) (H : Type) (enc : TypeId × Value → H) :
    ReturnsInHanded {} Try.checked os 14 .any (Rows.poolRanksSpec.pre6 enc Try.prog Try.f14 Rows.poolRanksRow.domain false) (Rows.poolRanksSpec.post enc Try.prog Try.f14 false true false false) := by
  refine returnsInHanded_of_change_sized (C := Try.checked) own started (by kernel_rfl) Try.func14
    (ChangeSpec.witness6 (enc := enc) (C := Try.checked) false ⟨#[], #[.slice none 0 0, .int .i64 0, .int .i64 0], []⟩ 8 (by kernel_rfl) (by kernel_rfl) (by kernel_rfl) (by kernel_rfl)) ?_
  intro W base args ds gs before hval0 hW hcnd hsz0 _
  have hsz : (DataW.weightsEach Try.prog (Try.f14.params.toList ++ Rows.poolRanksSpec.plain.varTypes Try.prog) (ds ++ gs)).all (· ≤ reachBytes) = true := hsz0
  have hval : ∀ (j : Nat) t v, Try.f14.params[j]? = some t → args[j]? = some v → Value.okWide Try.prog W .any base t v := hval0
  have hW' := hW
  obtain ⟨p, q, hA0, hV, rfl, hfz, hnd⟩ := hW
  have hA : DataW.TrodAll enc Try.prog W 0 (fun _ => true) true Try.f14.params.toList args.toList ds p := hA0
  rw [Try.params14] at hA hval hsz
  obtain ⟨v0, vs0, d0, ds0, p0, q0, hargs, rfl, rfl, h0, r0⟩ := trodAll_cons hA
  obtain ⟨v1, vs1, d1, ds1, p1, q1, rfl, rfl, rfl, h1, r1⟩ := trodAll_cons r0
  obtain ⟨v2, vs2, d2, ds2, p2, q2, rfl, rfl, rfl, h2, r2⟩ := trodAll_cons r1
  obtain ⟨rfl, rfl, rfl⟩ := trodAll_nil r2
  obtain rfl : args = #[v0, v1, v2] := by cases args; simp_all
  obtain ⟨rfl, rfl⟩ := trodVars_none hV
  have k0 := h0
  have lt0 : ∀ x ∈ p0, x.block < W.heap.size := by obtain ⟨m, hm⟩ := k0; exact DataW.trod_lt m _ _ _ hm
  have k1 := h1
  have lt1 : ∀ x ∈ p1, x.block < W.heap.size := by obtain ⟨m, hm⟩ := k1; exact DataW.trod_lt m _ _ _ hm
  obtain ⟨a1, rfl, _, _, w1⟩ := open_int Try.underlying3 (hval 1 3 v1 rfl rfl) h1
  have k2 := h2
  have lt2 : ∀ x ∈ p2, x.block < W.heap.size := by obtain ⟨m, hm⟩ := k2; exact DataW.trod_lt m _ _ _ hm
  obtain ⟨a2, rfl, _, _, w2⟩ := open_int Try.underlying3 (hval 2 3 v2 rfl rfl) h2
  clear hA0 hval0 hsz0
  rcases slice_arg (d := 6) tab (t := 69) (e := 85) (te := ti85) (ls := [.bool, .int .i64, .int .i64]) Try.underlying69 rfl rfl rfl (hval 0 69 v0 rfl rfl) h0 with rfl | ⟨bl0, of0, ln0, cp0, cs0, c0, el0, fr0, rfl, hl0, hm0, hb0, hw0, hr0, es0, rr0, rfl, hes0⟩
  ·
    have bb0 : ([] : List AddrV).length * 24 ≤ 140737488351232 := by decide
    refine (law_calls (PoolRanks_law ([] : List AddrV) a1 a2 bb0) (w := W) (L := [⟨none, addrR.cells ([] : List AddrV), 3⟩]) (win_cons (win_none (by decide)) win_nil) (lrel_cons (rel_none rfl) (lrel_cons (.int _ _) (lrel_cons (.int _ _) lrel_nil))) rel_bool).mono fun e W' ⟨he, bel⟩ => ?_
    subst he
    exact ⟨_, rfl, _, _, _, [], _, [], hW', trodAll_mk1 (shut_bool Try.underlying4 _), (trodAll_cons_mk (Below.trod laidOut (by kernel_rfl) (of_decide_eq_true (by kernel_rfl)) k0 bel lt0) (trodAll_cons_mk (Below.trod laidOut (by kernel_rfl) (of_decide_eq_true (by kernel_rfl)) k1 bel lt1) (trodAll_cons_mk (Below.trod laidOut (by kernel_rfl) (of_decide_eq_true (by kernel_rfl)) k2 bel lt2) trodAll_mk0))), rfl, bel.frame _, fun h => by cases h⟩
  ·
    have bb0 := slice_bound (j := 0) (by_ := 24) hsz rfl rfl Try.underlying69 hes0 (by kernel_rfl)
    obtain ⟨a0, rfl, rfl, ww0⟩ := rows_list addrR (Q := fun _ => True) rfl (fun c h => by obtain ⟨x0, x1, x2, rfl⟩ := len3 h.1; obtain ⟨n0, rfl⟩ := h.2 0 _ _ rfl rfl; obtain ⟨n1, rfl, hn1⟩ := h.2 1 _ _ rfl rfl; obtain ⟨n2, rfl, hn2⟩ := h.2 2 _ _ rfl rfl; exact ⟨⟨n0, n1, n2⟩, rfl, trivial⟩) hr0
    refine (law_calls (PoolRanks_law a0 a1 a2 bb0) (w := W) (L := [⟨some (bl0, of0, cp0), addrR.cells a0, 3⟩]) (win_cons (win_at (by decide) hb0 hw0 (addrR.flat_cells a0)) win_nil) (lrel_cons (rel_at rfl (by decide) hl0) (lrel_cons (.int _ _) (lrel_cons (.int _ _) lrel_nil))) rel_bool).mono fun e W' ⟨he, bel⟩ => ?_
    subst he
    exact ⟨_, rfl, _, _, _, [], _, [], hW', trodAll_mk1 (shut_bool Try.underlying4 _), (trodAll_cons_mk (Below.trod laidOut (by kernel_rfl) (of_decide_eq_true (by kernel_rfl)) k0 bel lt0) (trodAll_cons_mk (Below.trod laidOut (by kernel_rfl) (of_decide_eq_true (by kernel_rfl)) k1 bel lt1) (trodAll_cons_mk (Below.trod laidOut (by kernel_rfl) (of_decide_eq_true (by kernel_rfl)) k2 bel lt2) trodAll_mk0))), rfl, bel.frame _, fun h => by cases h⟩
theorem over : Rows.poolRanksRow.holds Try.pinned (OpenSpec.ofChange Rows.poolRanksSpec) :=
  OpenClaim.holds_of_wide 14 Try.f14 rfl rfl rfl rfl rfl rfl rfl ⟨rfl, rfl, rfl, rfl, rfl⟩ rfl rfl rfl rfl rfl (by kernel_rfl) Try.func14 (by kernel_rfl)
    (of_decide_eq_true (by kernel_rfl)) (by unfold Func.isWrapper; first | (rw [if_pos (by decide +kernel)]; kernel_rfl) | (rw [if_neg (by decide +kernel)]; exact ⟨rfl, rfl⟩))
    (fun os started H enc _ => lifted os started H enc)
end Go.Proofs.Ytenbhladboofeaa.poolRanks
namespace Go.Proofs.Ytenbhladboofeaa
theorem poolRanks_holds : Rows.PoolRanksSaid := poolRanks.over
#print axioms poolRanks_holds
end Go.Proofs.Ytenbhladboofeaa
