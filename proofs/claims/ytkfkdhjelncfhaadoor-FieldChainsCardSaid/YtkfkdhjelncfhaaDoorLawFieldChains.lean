/- FieldChains: for every input the call returns true and leaves what it was handed as it was.
   Conditions: none beside those that the given row states. -/
import Derived.Test.YtkfkdhjelncfhaaDoorRows
import Derived.Test.YtkfkdhjelncfhaaDoorFw4
import Derived.Test.YtkfkdhjelncfhaaDoorVg1
import Derived.Test.YtkfkdhjelncfhaaDoorDr0
import Derived.Test.YtkfkdhjelncfhaaDoorCards
import Derived.Test.YtkfkdhjelncfhaaDoorTie
import Derived.WalkKit
import Derived.ProofKit
import Derived.OpenShut
import Derived.ShutString
import Derived.ChangeOld
import Derived.Below
import Derived.SizedLaws
import Derived.SevenTiedAt
import Derived.LaidLaws
namespace Go.Proofs.YtkfkdhjelncfhaaDoor.fieldChains
open Go.ChangeShapes Go.WideShapes Go.ChangeAt Go.RowKit
open Go.ChangeMaps (open_string shut_string)
open Go.Proofs.YtkfkdhjelncfhaaDoor Go.Proofs.YtkfkdhjelncfhaaDoor.Vm
set_option linter.unusedVariables false
theorem own : ownKnob Tryd.prog.godebug = none := by kernel_rfl
theorem laidOut : laidOutB Tryd.prog = true := by kernel_rfl
set_option maxRecDepth 100000 in
theorem lifted (os : Os) (started : os.Started) (H : Type) (enc : TypeId × Value → H) :
    ReturnsInHanded {} Tryd.checked os 6 .any (fun w args => (Rows.fieldChainsSpec.pre enc Tryd.prog Tryd.f6 [] false w args ∧ laidMetH Tryd.prog laidE w) ∧ sizedMet enc Tryd.prog Tryd.f6 (OpenSpec.ofChange Rows.fieldChainsSpec) false w args) (Rows.fieldChainsSpec.post enc Tryd.prog Tryd.f6 false true false false) := by
  refine returnsInHanded_of_change_and (C := Tryd.checked) (X := fun w _ => laidMetH Tryd.prog laidE w) (fun _ _ _ hh h => h.of_heap hh) own started (by kernel_rfl) Tryd.func6
    (ChangeSpec.witness_at (enc := enc) (C := Tryd.checked) (os := os) (X := fun w _ => laidMetH Tryd.prog laidE w) false (laidWorld os) #[.slice none 0 0, .slice none 0 0] 8 rfl (by kernel_rfl) (by kernel_rfl) (by kernel_rfl) (by kernel_rfl) (by kernel_rfl) (laidWorld_met os _)) ?_
  intro W base args ds gs before hval0 hW hcnd hsz0 hL _
  have hsz : (DataW.weightsEach Tryd.prog (Tryd.f6.params.toList ++ Rows.fieldChainsSpec.plain.varTypes Tryd.prog) (ds ++ gs)).all (· ≤ reachBytes) = true := hsz0
  have hval : ∀ (j : Nat) t v, Tryd.f6.params[j]? = some t → args[j]? = some v → Value.okWide Tryd.prog W .any base t v := hval0
  have hW' := hW
  obtain ⟨p, q, hA0, hV, rfl, hfz, hnd⟩ := hW
  have hA : DataW.TrodAll enc Tryd.prog W 0 (fun _ => true) true Tryd.f6.params.toList args.toList ds p := hA0
  rw [Tryd.params6] at hA hval hsz
  obtain ⟨v0, vs0, d0, ds0, p0, q0, hargs, rfl, rfl, h0, r0⟩ := trodAll_cons hA
  obtain ⟨v1, vs1, d1, ds1, p1, q1, rfl, rfl, rfl, h1, r1⟩ := trodAll_cons r0
  obtain ⟨rfl, rfl, rfl⟩ := trodAll_nil r1
  obtain rfl : args = #[v0, v1] := by cases args; simp_all
  obtain ⟨rfl, rfl⟩ := trodVars_none hV
  have k0 := h0
  have lt0 : ∀ x ∈ p0, x.block < W.heap.size := by obtain ⟨m, hm⟩ := k0; exact DataW.trod_lt m _ _ _ hm
  have k1 := h1
  have lt1 : ∀ x ∈ p1, x.block < W.heap.size := by obtain ⟨m, hm⟩ := k1; exact DataW.trod_lt m _ _ _ hm
  clear hA0 hval0 hsz0
  rcases slice_arg (d := 6) tab (t := 42) (e := 3) (te := ti3) (ls := [.int .i64]) Tryd.underlying42 rfl rfl rfl (hval 0 42 v0 rfl rfl) h0 with rfl | ⟨bl0, of0, ln0, cp0, cs0, c0, el0, fr0, rfl, hl0, hm0, hb0, hw0, hr0, es0, rr0, rfl, hes0⟩
  ·
    have bb0 : ([] : List Int).length * 8 ≤ 140737488351232 := by decide
    rcases slice_arg (d := 6) tab (t := 43) (e := 9) (te := ti9) (ls := [.str]) Tryd.underlying43 rfl rfl rfl (hval 1 43 v1 rfl rfl) h1 with rfl | ⟨bl1, of1, ln1, cp1, cs1, c1, el1, fr1, rfl, hl1, hm1, hb1, hw1, hr1, es1, rr1, rfl, hes1⟩
    ·
      have bb1 : ([] : List ByteArray).length * 16 ≤ 140737488351232 := by decide
      refine (law_calls (FieldChains_law ([] : List Int) ([] : List ByteArray) bb0 bb1) (w := W) (L := [⟨none, (intR .i64).cells ([] : List Int), 1⟩, ⟨none, strR.cells ([] : List ByteArray), 1⟩]) (win_cons (win_none (by decide)) (win_cons (win_none (by decide)) win_nil)) (base_laid hL) (lrel_cons (rel_none rfl) (lrel_cons (rel_none rfl) lrel_nil)) rel_bool).mono fun e W' ⟨he, bel⟩ => ?_
      subst he
      exact ⟨_, rfl, _, _, _, [], _, [], hW', trodAll_mk1 (shut_bool Tryd.underlying4 _), (trodAll_cons_mk (Below.trod laidOut (by kernel_rfl) (of_decide_eq_true (by kernel_rfl)) k0 bel lt0) (trodAll_cons_mk (Below.trod laidOut (by kernel_rfl) (of_decide_eq_true (by kernel_rfl)) k1 bel lt1) trodAll_mk0)), rfl, bel.frame _, fun h => by cases h⟩
    ·
      have bb1 := slice_bound (j := 1) (by_ := 16) hsz rfl rfl Tryd.underlying43 hes1 (by kernel_rfl)
      obtain ⟨a1, rfl, rfl, ww1⟩ := rows_list strR (Q := fun x => x.size ≤ maxLen) rfl (fun c h => by obtain ⟨x, rfl⟩ := len1 h.1; obtain ⟨n, rfl, hn⟩ := h.2 0 _ _ rfl rfl; exact ⟨n, rfl, hn⟩) hr1
      refine (law_calls (FieldChains_law ([] : List Int) a1 bb0 bb1) (w := W) (L := [⟨none, (intR .i64).cells ([] : List Int), 1⟩, ⟨some (bl1, of1, cp1), strR.cells a1, 1⟩]) (win_cons (win_none (by decide)) (win_cons (win_at (by decide) hb1 hw1 (strR.flat_cells a1)) win_nil)) (base_laid hL) (lrel_cons (rel_none rfl) (lrel_cons (rel_at rfl (by decide) hl1) lrel_nil)) rel_bool).mono fun e W' ⟨he, bel⟩ => ?_
      subst he
      exact ⟨_, rfl, _, _, _, [], _, [], hW', trodAll_mk1 (shut_bool Tryd.underlying4 _), (trodAll_cons_mk (Below.trod laidOut (by kernel_rfl) (of_decide_eq_true (by kernel_rfl)) k0 bel lt0) (trodAll_cons_mk (Below.trod laidOut (by kernel_rfl) (of_decide_eq_true (by kernel_rfl)) k1 bel lt1) trodAll_mk0)), rfl, bel.frame _, fun h => by cases h⟩
  ·
    have bb0 := slice_bound (j := 0) (by_ := 8) hsz rfl rfl Tryd.underlying42 hes0 (by kernel_rfl)
    obtain ⟨a0, rfl, rfl, ww0⟩ := rows_list (intR .i64) (Q := fun x => (Lit.int .i64 x).wf = true) rfl (fun c h => by obtain ⟨x, rfl⟩ := len1 h.1; obtain ⟨n, rfl, hn⟩ := h.2 0 _ _ rfl rfl; exact ⟨n, rfl, hn⟩) hr0
    rcases slice_arg (d := 6) tab (t := 43) (e := 9) (te := ti9) (ls := [.str]) Tryd.underlying43 rfl rfl rfl (hval 1 43 v1 rfl rfl) h1 with rfl | ⟨bl1, of1, ln1, cp1, cs1, c1, el1, fr1, rfl, hl1, hm1, hb1, hw1, hr1, es1, rr1, rfl, hes1⟩
    ·
      have bb1 : ([] : List ByteArray).length * 16 ≤ 140737488351232 := by decide
      refine (law_calls (FieldChains_law a0 ([] : List ByteArray) bb0 bb1) (w := W) (L := [⟨some (bl0, of0, cp0), (intR .i64).cells a0, 1⟩, ⟨none, strR.cells ([] : List ByteArray), 1⟩]) (win_cons (win_at (by decide) hb0 hw0 ((intR .i64).flat_cells a0)) (win_cons (win_none (by decide)) win_nil)) (base_laid hL) (lrel_cons (rel_at rfl (by decide) hl0) (lrel_cons (rel_none rfl) lrel_nil)) rel_bool).mono fun e W' ⟨he, bel⟩ => ?_
      subst he
      exact ⟨_, rfl, _, _, _, [], _, [], hW', trodAll_mk1 (shut_bool Tryd.underlying4 _), (trodAll_cons_mk (Below.trod laidOut (by kernel_rfl) (of_decide_eq_true (by kernel_rfl)) k0 bel lt0) (trodAll_cons_mk (Below.trod laidOut (by kernel_rfl) (of_decide_eq_true (by kernel_rfl)) k1 bel lt1) trodAll_mk0)), rfl, bel.frame _, fun h => by cases h⟩
    ·
      have bb1 := slice_bound (j := 1) (by_ := 16) hsz rfl rfl Tryd.underlying43 hes1 (by kernel_rfl)
      obtain ⟨a1, rfl, rfl, ww1⟩ := rows_list strR (Q := fun x => x.size ≤ maxLen) rfl (fun c h => by obtain ⟨x, rfl⟩ := len1 h.1; obtain ⟨n, rfl, hn⟩ := h.2 0 _ _ rfl rfl; exact ⟨n, rfl, hn⟩) hr1
      refine (law_calls (FieldChains_law a0 a1 bb0 bb1) (w := W) (L := [⟨some (bl0, of0, cp0), (intR .i64).cells a0, 1⟩, ⟨some (bl1, of1, cp1), strR.cells a1, 1⟩]) (win_cons (win_at (by decide) hb0 hw0 ((intR .i64).flat_cells a0)) (win_cons (win_at (by decide) hb1 hw1 (strR.flat_cells a1)) win_nil)) (base_laid hL) (lrel_cons (rel_at rfl (by decide) hl0) (lrel_cons (rel_at rfl (by decide) hl1) lrel_nil)) rel_bool).mono fun e W' ⟨he, bel⟩ => ?_
      subst he
      exact ⟨_, rfl, _, _, _, [], _, [], hW', trodAll_mk1 (shut_bool Tryd.underlying4 _), (trodAll_cons_mk (Below.trod laidOut (by kernel_rfl) (of_decide_eq_true (by kernel_rfl)) k0 bel lt0) (trodAll_cons_mk (Below.trod laidOut (by kernel_rfl) (of_decide_eq_true (by kernel_rfl)) k1 bel lt1) trodAll_mk0)), rfl, bel.frame _, fun h => by cases h⟩
theorem over : Rows.fieldChainsRow.holds Tryd.pinned (OpenSpec.ofChange Rows.fieldChainsSpec) :=
  OpenClaim.holds_of_wide 6 Tryd.f6 rfl rfl rfl rfl rfl rfl rfl ⟨rfl, rfl, rfl, rfl, rfl⟩ rfl rfl rfl rfl rfl (by kernel_rfl) Tryd.func6 (by kernel_rfl)
    (of_decide_eq_true (by kernel_rfl)) (by unfold Func.isWrapper; first | (rw [if_pos (by decide +kernel)]; kernel_rfl) | (rw [if_neg (by decide +kernel)]; exact ⟨rfl, rfl⟩))
    (fun os started H enc _ => lifted os started H enc)
end Go.Proofs.YtkfkdhjelncfhaaDoor.fieldChains
namespace Go.Proofs.YtkfkdhjelncfhaaDoor
theorem fieldChains_holds : Rows.FieldChainsCardSaid :=
  Claim7.holds_tied_plain_at .later [] [.handle] true (true, "730f67eb91a13320ed98f8778ce8747e603d7ab705d207121d4199029fc61b45") true
    fieldChains.over (fun _ h => by cases h) (by kernel_rfl) (fun _ h => by cases h) fieldChains_row_tie rfl ⟨rfl, rfl⟩ (by kernel_rfl) rfl
    (fun f fn hf hfn => by
      obtain rfl : f = 6 := (Option.some.inj ((show Tryd.prog.funcNamed "bastion/bastionlaw1.FieldChains" = some 6 by kernel_rfl).symm.trans hf)).symm
      obtain rfl : fn = Tryd.f6 := (Option.some.inj (Tryd.func6.symm.trans hfn)).symm
      exact ⟨by kernel_rfl, fun j t ht => by
        rw [Tryd.params6] at ht
        rcases j with _ | _ | j
        · obtain rfl : 42 = t := by simpa using ht
          exact (show Tryd.prog.wantsStandIn 42 = false by kernel_rfl)
        · obtain rfl : 43 = t := by simpa using ht
          exact (show Tryd.prog.wantsStandIn 43 = false by kernel_rfl)
        · simp at ht⟩)
    (by kernel_rfl)
#print axioms fieldChains_holds
end Go.Proofs.YtkfkdhjelncfhaaDoor
