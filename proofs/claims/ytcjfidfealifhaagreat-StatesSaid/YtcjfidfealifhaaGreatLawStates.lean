/- States: for every input the call returns true and leaves what it was handed as it was.
   Conditions: none beside those that the given row states. -/
import Derived.Test.YtcjfidfealifhaaGreatRows
import Derived.Test.YtcjfidfealifhaaGreatPa6
import Derived.WalkKit
import Derived.ProofKit
import Derived.OpenShut
import Derived.ShutString
import Derived.ChangeOld
import Derived.Below
import Derived.SizedLaws
namespace Go.Proofs.YtcjfidfealifhaaGreat.states
open Go.ChangeShapes Go.WideShapes Go.ChangeAt Go.RowKit
open Go.ChangeMaps (open_string shut_string)
open Go.Proofs.YtcjfidfealifhaaGreat Go.Proofs.YtcjfidfealifhaaGreat.Vm
set_option linter.unusedVariables false
theorem own : ownKnob Tryz.prog.godebug = none := by kernel_rfl
theorem laidOut : laidOutB Tryz.prog = true := by kernel_rfl
set_option maxRecDepth 100000 in
theorem lifted (os : Os) (started : os.Started) (H : Type) (enc : TypeId × Value → H) :
    ReturnsInHanded {} Tryz.checked os 3 .any (Rows.statesSpec.pre6 enc Tryz.prog Tryz.f3 Rows.statesRow.domain false) (Rows.statesSpec.post enc Tryz.prog Tryz.f3 false true false false) := by
  refine returnsInHanded_of_change_sized (C := Tryz.checked) own started (by kernel_rfl) Tryz.func3
    (ChangeSpec.witness6 (enc := enc) (C := Tryz.checked) false ⟨#[], #[.agg #[.int .i64 0, .int .i64 0, .int .i64 0, .int .i64 0, .int .i64 0, .int .i64 0, .int .i64 0, .int .i64 0, .int .i64 0, .int .i64 0, .int .i64 0, .int .i64 0], .agg #[.int .i64 0, .int .i64 0, .int .i64 0, .slice none 0 0, .slice none 0 0, .slice none 0 0, .slice none 0 0], .slice none 0 0, .int .i64 0], []⟩ 8 (by kernel_rfl) (by kernel_rfl) (by kernel_rfl) (by kernel_rfl)) ?_
  intro W base args ds gs before hval0 hW hcnd hsz0 _
  have hsz : (DataW.weightsEach Tryz.prog (Tryz.f3.params.toList ++ Rows.statesSpec.plain.varTypes Tryz.prog) (ds ++ gs)).all (· ≤ reachBytes) = true := hsz0
  have hval : ∀ (j : Nat) t v, Tryz.f3.params[j]? = some t → args[j]? = some v → Value.okWide Tryz.prog W .any base t v := hval0
  have hW' := hW
  obtain ⟨p, q, hA0, hV, rfl, hfz, hnd⟩ := hW
  have hA : DataW.TrodAll enc Tryz.prog W 0 (fun _ => true) true Tryz.f3.params.toList args.toList ds p := hA0
  rw [Tryz.params3] at hA hval hsz
  obtain ⟨v0, vs0, d0, ds0, p0, q0, hargs, rfl, rfl, h0, r0⟩ := trodAll_cons hA
  obtain ⟨v1, vs1, d1, ds1, p1, q1, rfl, rfl, rfl, h1, r1⟩ := trodAll_cons r0
  obtain ⟨v2, vs2, d2, ds2, p2, q2, rfl, rfl, rfl, h2, r2⟩ := trodAll_cons r1
  obtain ⟨v3, vs3, d3, ds3, p3, q3, rfl, rfl, rfl, h3, r3⟩ := trodAll_cons r2
  obtain ⟨rfl, rfl, rfl⟩ := trodAll_nil r3
  obtain rfl : args = #[v0, v1, v2, v3] := by cases args; simp_all
  obtain ⟨rfl, rfl⟩ := trodVars_none hV
  have k0 := h0
  have lt0 : ∀ x ∈ p0, x.block < W.heap.size := by obtain ⟨m, hm⟩ := k0; exact DataW.trod_lt m _ _ _ hm
  obtain ⟨c0, rfl⟩ := okWide_agg (tab.ok.under 23 _ rfl) (hval 0 23 v0 rfl rfl)
  obtain ⟨fu0, hf0⟩ := h0
  have ro0 := flat_of_trod tab 6 23 _ fu0 _ _ rfl hf0
  have rl0 := ro0.1
  obtain ⟨x0_0, x0_1, x0_2, x0_3, x0_4, x0_5, x0_6, x0_7, x0_8, x0_9, x0_10, x0_11, rfl⟩ := len12 rl0
  obtain ⟨a0_0, rfl, w0_0⟩ : ∃ n, x0_0 = .int .i64 n ∧ (Lit.int .i64 n).wf = true := ro0.2 0 _ _ rfl rfl
  obtain ⟨a0_1, rfl, w0_1⟩ : ∃ n, x0_1 = .int .i64 n ∧ (Lit.int .i64 n).wf = true := ro0.2 1 _ _ rfl rfl
  obtain ⟨a0_2, rfl, w0_2⟩ : ∃ n, x0_2 = .int .i64 n ∧ (Lit.int .i64 n).wf = true := ro0.2 2 _ _ rfl rfl
  obtain ⟨a0_3, rfl, w0_3⟩ : ∃ n, x0_3 = .int .i64 n ∧ (Lit.int .i64 n).wf = true := ro0.2 3 _ _ rfl rfl
  obtain ⟨a0_4, rfl, w0_4⟩ : ∃ n, x0_4 = .int .i64 n ∧ (Lit.int .i64 n).wf = true := ro0.2 4 _ _ rfl rfl
  obtain ⟨a0_5, rfl, w0_5⟩ : ∃ n, x0_5 = .int .i64 n ∧ (Lit.int .i64 n).wf = true := ro0.2 5 _ _ rfl rfl
  obtain ⟨a0_6, rfl, w0_6⟩ : ∃ n, x0_6 = .int .i64 n ∧ (Lit.int .i64 n).wf = true := ro0.2 6 _ _ rfl rfl
  obtain ⟨a0_7, rfl, w0_7⟩ : ∃ n, x0_7 = .int .i64 n ∧ (Lit.int .i64 n).wf = true := ro0.2 7 _ _ rfl rfl
  obtain ⟨a0_8, rfl, w0_8⟩ : ∃ n, x0_8 = .int .i64 n ∧ (Lit.int .i64 n).wf = true := ro0.2 8 _ _ rfl rfl
  obtain ⟨a0_9, rfl, w0_9⟩ : ∃ n, x0_9 = .int .i64 n ∧ (Lit.int .i64 n).wf = true := ro0.2 9 _ _ rfl rfl
  obtain ⟨a0_10, rfl, w0_10⟩ : ∃ n, x0_10 = .int .i64 n ∧ (Lit.int .i64 n).wf = true := ro0.2 10 _ _ rfl rfl
  obtain ⟨a0_11, rfl, w0_11⟩ : ∃ n, x0_11 = .int .i64 n ∧ (Lit.int .i64 n).wf = true := ro0.2 11 _ _ rfl rfl
  have k1 := h1
  have lt1 : ∀ x ∈ p1, x.block < W.heap.size := by obtain ⟨m, hm⟩ := k1; exact DataW.trod_lt m _ _ _ hm
  have vw1 := hval 1 29 v1 rfl rfl
  obtain ⟨c1, rfl⟩ := okWide_agg (tab.ok.under 29 _ rfl) vw1
  obtain ⟨fu1, hf1⟩ := h1
  obtain ⟨X1, n1, _, hx1, hl1, hxl1, hfd1⟩ := DataW.trod_struct (tab.ok.under 29 _ rfl) hf1
  have hl1 : c1.length = 7 := hl1.trans (by kernel_rfl)
  have hxl1 : X1.length = 7 := hxl1
  obtain ⟨x1_0, x1_1, x1_2, x1_3, x1_4, x1_5, x1_6, rfl⟩ := len7 hl1
  obtain ⟨D1_0, D1_1, D1_2, D1_3, D1_4, D1_5, D1_6, rfl⟩ := len7 hxl1
  obtain ⟨rfl, rfl⟩ := Prod.mk.inj hx1
  have e1_0 : DataW.trod enc Tryz.prog W 0 (fun _ => true) true n1 3 ([x1_0].take (Tryz.prog.cellsOf 3)) = some D1_0 := hfd1 0 _ rfl
  rw [show Tryz.prog.cellsOf 3 = 1 by kernel_rfl] at e1_0
  replace e1_0 : DataW.trod enc Tryz.prog W 0 (fun _ => true) true n1 3 [x1_0] = some D1_0 := e1_0
  obtain ⟨a1_0, hq1_0, _, w1_0⟩ := DataW.trod_int Tryz.underlying3 e1_0
  obtain rfl : x1_0 = .int .i64 a1_0 := (List.cons.inj hq1_0).1
  have e1_1 : DataW.trod enc Tryz.prog W 0 (fun _ => true) true n1 3 ([x1_1].take (Tryz.prog.cellsOf 3)) = some D1_1 := hfd1 1 _ rfl
  rw [show Tryz.prog.cellsOf 3 = 1 by kernel_rfl] at e1_1
  replace e1_1 : DataW.trod enc Tryz.prog W 0 (fun _ => true) true n1 3 [x1_1] = some D1_1 := e1_1
  obtain ⟨a1_1, hq1_1, _, w1_1⟩ := DataW.trod_int Tryz.underlying3 e1_1
  obtain rfl : x1_1 = .int .i64 a1_1 := (List.cons.inj hq1_1).1
  have e1_2 : DataW.trod enc Tryz.prog W 0 (fun _ => true) true n1 3 ([x1_2].take (Tryz.prog.cellsOf 3)) = some D1_2 := hfd1 2 _ rfl
  rw [show Tryz.prog.cellsOf 3 = 1 by kernel_rfl] at e1_2
  replace e1_2 : DataW.trod enc Tryz.prog W 0 (fun _ => true) true n1 3 [x1_2] = some D1_2 := e1_2
  obtain ⟨a1_2, hq1_2, _, w1_2⟩ := DataW.trod_int Tryz.underlying3 e1_2
  obtain rfl : x1_2 = .int .i64 a1_2 := (List.cons.inj hq1_2).1
  have e1_3 : DataW.trod enc Tryz.prog W 0 (fun _ => true) true n1 24 ([x1_3].take (Tryz.prog.cellsOf 24)) = some D1_3 := hfd1 3 _ rfl
  rw [show Tryz.prog.cellsOf 24 = 1 by kernel_rfl] at e1_3
  replace e1_3 : DataW.trod enc Tryz.prog W 0 (fun _ => true) true n1 24 [x1_3] = some D1_3 := e1_3
  have hv1_3 := okWide_at (i := 3) (u := 24) (tab.ok.under 29 _ rfl) vw1 (ts := [3, 3, 3, 24, 25, 26, 27]) (by kernel_rfl) rfl rfl rfl Tryz.underlying24
  have hsz1_3 := weights_part (j := 1) hsz rfl rfl (tab.ok.under 29 _ rfl)
  have e1_4 : DataW.trod enc Tryz.prog W 0 (fun _ => true) true n1 25 ([x1_4].take (Tryz.prog.cellsOf 25)) = some D1_4 := hfd1 4 _ rfl
  rw [show Tryz.prog.cellsOf 25 = 1 by kernel_rfl] at e1_4
  replace e1_4 : DataW.trod enc Tryz.prog W 0 (fun _ => true) true n1 25 [x1_4] = some D1_4 := e1_4
  have hv1_4 := okWide_at (i := 4) (u := 25) (tab.ok.under 29 _ rfl) vw1 (ts := [3, 3, 3, 24, 25, 26, 27]) (by kernel_rfl) rfl rfl rfl Tryz.underlying25
  have hsz1_4 := weights_part (j := 1) hsz rfl rfl (tab.ok.under 29 _ rfl)
  have e1_5 : DataW.trod enc Tryz.prog W 0 (fun _ => true) true n1 26 ([x1_5].take (Tryz.prog.cellsOf 26)) = some D1_5 := hfd1 5 _ rfl
  rw [show Tryz.prog.cellsOf 26 = 1 by kernel_rfl] at e1_5
  replace e1_5 : DataW.trod enc Tryz.prog W 0 (fun _ => true) true n1 26 [x1_5] = some D1_5 := e1_5
  have hv1_5 := okWide_at (i := 5) (u := 26) (tab.ok.under 29 _ rfl) vw1 (ts := [3, 3, 3, 24, 25, 26, 27]) (by kernel_rfl) rfl rfl rfl Tryz.underlying26
  have hsz1_5 := weights_part (j := 1) hsz rfl rfl (tab.ok.under 29 _ rfl)
  have e1_6 : DataW.trod enc Tryz.prog W 0 (fun _ => true) true n1 27 ([x1_6].take (Tryz.prog.cellsOf 27)) = some D1_6 := hfd1 6 _ rfl
  rw [show Tryz.prog.cellsOf 27 = 1 by kernel_rfl] at e1_6
  replace e1_6 : DataW.trod enc Tryz.prog W 0 (fun _ => true) true n1 27 [x1_6] = some D1_6 := e1_6
  have hv1_6 := okWide_at (i := 6) (u := 27) (tab.ok.under 29 _ rfl) vw1 (ts := [3, 3, 3, 24, 25, 26, 27]) (by kernel_rfl) rfl rfl rfl Tryz.underlying27
  have hsz1_6 := weights_part (j := 1) hsz rfl rfl (tab.ok.under 29 _ rfl)
  have k2 := h2
  have lt2 : ∀ x ∈ p2, x.block < W.heap.size := by obtain ⟨m, hm⟩ := k2; exact DataW.trod_lt m _ _ _ hm
  have hv2 := hval 2 30 v2 rfl rfl
  obtain ⟨fu2, hf2⟩ := h2
  obtain ⟨sa2, sl2, sc2, hq2⟩ := WideShapes.okWide_slice Tryz.underlying30 hv2
  have e2 : DataW.trod enc Tryz.prog W 0 (fun _ => true) true fu2 30 [v2] = some (d2, p2) := by subst hq2; exact hf2
  have k3 := h3
  have lt3 : ∀ x ∈ p3, x.block < W.heap.size := by obtain ⟨m, hm⟩ := k3; exact DataW.trod_lt m _ _ _ hm
  obtain ⟨a3, rfl, _, _, w3⟩ := open_int Tryz.underlying3 (hval 3 3 v3 rfl rfl) h3
  clear hA0 hval0 hsz0
  obtain ⟨at1_3, ln1_3, cs1_3, hw1_3, hr1_3, ro1_3, bd1_3⟩ := slice_win (d := 6) (sz := 9) tab (t := 24) (e := 76) (te := ti76) (ls := [.int .i64, .int .i64, .int .i64, .int .i64, .int .i64, .int .i64, .int .i64, .int .i64, .int .i64]) Tryz.underlying24 rfl rfl rfl rfl (by decide) hv1_3 e1_3
  obtain ⟨a1_3, rfl, rfl, _⟩ := rows_list userR (Q := fun _ => True) rfl (fun c h => by obtain ⟨x0, x1, x2, x3, x4, x5, x6, x7, x8, rfl⟩ := len9 h.1; obtain ⟨n0, rfl, hn0⟩ := h.2 0 _ _ rfl rfl; obtain ⟨n1, rfl, hn1⟩ := h.2 1 _ _ rfl rfl; obtain ⟨n2, rfl, hn2⟩ := h.2 2 _ _ rfl rfl; obtain ⟨n3, rfl, hn3⟩ := h.2 3 _ _ rfl rfl; obtain ⟨n4, rfl, hn4⟩ := h.2 4 _ _ rfl rfl; obtain ⟨n5, rfl, hn5⟩ := h.2 5 _ _ rfl rfl; obtain ⟨n6, rfl, hn6⟩ := h.2 6 _ _ rfl rfl; obtain ⟨n7, rfl, hn7⟩ := h.2 7 _ _ rfl rfl; obtain ⟨n8, rfl, hn8⟩ := h.2 8 _ _ rfl rfl; exact ⟨⟨n0, n1, n2, n3, n4, n5, n6, n7, n8⟩, rfl, trivial⟩) ro1_3
  have bb1_3 := bound_of (j := 3) (by_ := 72) hsz1_3 rfl rfl Tryz.underlying24 (by kernel_rfl) bd1_3
  obtain ⟨at1_4, ln1_4, cs1_4, hw1_4, hr1_4, ro1_4, bd1_4⟩ := slice_win (d := 6) (sz := 4) tab (t := 25) (e := 78) (te := ti78) (ls := [.int .i64, .int .i64, .int .i64, .int .i64]) Tryz.underlying25 rfl rfl rfl rfl (by decide) hv1_4 e1_4
  obtain ⟨a1_4, rfl, rfl, _⟩ := rows_list sessR (Q := fun _ => True) rfl (fun c h => by obtain ⟨x0, x1, x2, x3, rfl⟩ := len4 h.1; obtain ⟨n0, rfl, hn0⟩ := h.2 0 _ _ rfl rfl; obtain ⟨n1, rfl, hn1⟩ := h.2 1 _ _ rfl rfl; obtain ⟨n2, rfl, hn2⟩ := h.2 2 _ _ rfl rfl; obtain ⟨n3, rfl, hn3⟩ := h.2 3 _ _ rfl rfl; exact ⟨⟨n0, n1, n2, n3⟩, rfl, trivial⟩) ro1_4
  have bb1_4 := bound_of (j := 4) (by_ := 32) hsz1_4 rfl rfl Tryz.underlying25 (by kernel_rfl) bd1_4
  obtain ⟨at1_5, ln1_5, cs1_5, hw1_5, hr1_5, ro1_5, bd1_5⟩ := slice_win (d := 6) (sz := 3) tab (t := 26) (e := 80) (te := ti80) (ls := [.bool, .int .i64, .int .i64]) Tryz.underlying26 rfl rfl rfl rfl (by decide) hv1_5 e1_5
  obtain ⟨a1_5, rfl, rfl, _⟩ := rows_list addrR (Q := fun _ => True) rfl (fun c h => by obtain ⟨x0, x1, x2, rfl⟩ := len3 h.1; obtain ⟨n0, rfl⟩ := h.2 0 _ _ rfl rfl; obtain ⟨n1, rfl, hn1⟩ := h.2 1 _ _ rfl rfl; obtain ⟨n2, rfl, hn2⟩ := h.2 2 _ _ rfl rfl; exact ⟨⟨n0, n1, n2⟩, rfl, trivial⟩) ro1_5
  have bb1_5 := bound_of (j := 5) (by_ := 24) hsz1_5 rfl rfl Tryz.underlying26 (by kernel_rfl) bd1_5
  obtain ⟨at1_6, ln1_6, cs1_6, hw1_6, hr1_6, ro1_6, bd1_6⟩ := slice_win (d := 6) (sz := 1) tab (t := 27) (e := 3) (te := ti3) (ls := [.int .i64]) Tryz.underlying27 rfl rfl rfl rfl (by decide) hv1_6 e1_6
  obtain ⟨a1_6, rfl, rfl, _⟩ := rows_list (intR .i64) (Q := fun _ => True) rfl (fun c h => by obtain ⟨x, rfl⟩ := len1 h.1; obtain ⟨n, rfl, hn⟩ := h.2 0 _ _ rfl rfl; exact ⟨n, rfl, trivial⟩) ro1_6
  have bb1_6 := bound_of (j := 6) (by_ := 8) hsz1_6 rfl rfl Tryz.underlying27 (by kernel_rfl) bd1_6
  obtain ⟨at2, ln2, cs2, hw2, hr2, ro2, bd2⟩ := slice_win (d := 6) (sz := 8) tab (t := 30) (e := 45) (te := ti45) (ls := [.int .i64, .int .i64, .int .i64, .int .i64, .int .i64, .int .i64, .int .i64, .int .i64]) Tryz.underlying30 rfl rfl rfl rfl (by decide) hv2 e2
  obtain ⟨a2, rfl, rfl, _⟩ := rows_list evtR (Q := fun _ => True) rfl (fun c h => by obtain ⟨x0, x1, x2, x3, x4, x5, x6, x7, rfl⟩ := len8 h.1; obtain ⟨n0, rfl, hn0⟩ := h.2 0 _ _ rfl rfl; obtain ⟨n1, rfl, hn1⟩ := h.2 1 _ _ rfl rfl; obtain ⟨n2, rfl, hn2⟩ := h.2 2 _ _ rfl rfl; obtain ⟨n3, rfl, hn3⟩ := h.2 3 _ _ rfl rfl; obtain ⟨n4, rfl, hn4⟩ := h.2 4 _ _ rfl rfl; obtain ⟨n5, rfl, hn5⟩ := h.2 5 _ _ rfl rfl; obtain ⟨n6, rfl, hn6⟩ := h.2 6 _ _ rfl rfl; obtain ⟨n7, rfl, hn7⟩ := h.2 7 _ _ rfl rfl; exact ⟨⟨n0, n1, n2, n3, n4, n5, n6, n7⟩, rfl, trivial⟩) ro2
  have bb2 := bound_of (j := 2) (by_ := 64) hsz rfl rfl Tryz.underlying30 (by kernel_rfl) bd2
  refine (law_calls (States_law ⟨a0_0, a0_1, a0_2, a0_3, a0_4, a0_5, a0_6, a0_7, a0_8, a0_9, a0_10, a0_11⟩ ⟨a1_0, a1_1, a1_2, a1_3, a1_4, a1_5, a1_6⟩ a2 a3 bb1_3 bb1_4 bb1_5 bb1_6 bb2) (w := W) (L := [⟨at1_3, userR.cells a1_3, 9⟩, ⟨at1_4, sessR.cells a1_4, 4⟩, ⟨at1_5, addrR.cells a1_5, 3⟩, ⟨at1_6, (intR .i64).cells a1_6, 1⟩, ⟨at2, evtR.cells a2, 8⟩]) (win_cons (hw1_3 (userR.flat_cells a1_3)) (win_cons (hw1_4 (sessR.flat_cells a1_4)) (win_cons (hw1_5 (addrR.flat_cells a1_5)) (win_cons (hw1_6 ((intR .i64).flat_cells a1_6)) (win_cons (hw2 (evtR.flat_cells a2)) win_nil))))) ⟨trivial, fun b h => absurd h (Nat.not_lt_zero b)⟩ (lrel_cons (vrel_agg (lrel_cons (.int _ _) (lrel_cons (.int _ _) (lrel_cons (.int _ _) (lrel_cons (.int _ _) (lrel_cons (.int _ _) (lrel_cons (.int _ _) (lrel_cons (.int _ _) (lrel_cons (.int _ _) (lrel_cons (.int _ _) (lrel_cons (.int _ _) (lrel_cons (.int _ _) (lrel_cons (.int _ _) lrel_nil))))))))))))) (lrel_cons (vrel_agg (lrel_cons (.int _ _) (lrel_cons (.int _ _) (lrel_cons (.int _ _) (lrel_cons (hr1_3 rfl) (lrel_cons (hr1_4 rfl) (lrel_cons (hr1_5 rfl) (lrel_cons (hr1_6 rfl) lrel_nil)))))))) (lrel_cons (hr2 rfl) (lrel_cons (.int _ _) lrel_nil)))) rel_bool).mono fun e W' ⟨he, bel⟩ => ?_
  subst he
  exact ⟨_, rfl, _, _, _, [], _, [], hW', trodAll_mk1 (shut_bool Tryz.underlying4 _), (trodAll_cons_mk (Below.trod laidOut (by kernel_rfl) (of_decide_eq_true (by kernel_rfl)) k0 bel lt0) (trodAll_cons_mk (Below.trod laidOut (by kernel_rfl) (of_decide_eq_true (by kernel_rfl)) k1 bel lt1) (trodAll_cons_mk (Below.trod laidOut (by kernel_rfl) (of_decide_eq_true (by kernel_rfl)) k2 bel lt2) (trodAll_cons_mk (Below.trod laidOut (by kernel_rfl) (of_decide_eq_true (by kernel_rfl)) k3 bel lt3) trodAll_mk0)))), rfl, bel.frame _, fun h => by cases h⟩
theorem over : Rows.statesRow.holds Tryz.pinned (OpenSpec.ofChange Rows.statesSpec) :=
  OpenClaim.holds_of_wide 3 Tryz.f3 rfl rfl rfl rfl rfl rfl rfl ⟨rfl, rfl, rfl, rfl, rfl⟩ rfl rfl rfl rfl rfl (by kernel_rfl) Tryz.func3 (by kernel_rfl)
    (of_decide_eq_true (by kernel_rfl)) (by unfold Func.isWrapper; first | (rw [if_pos (by decide +kernel)]; kernel_rfl) | (rw [if_neg (by decide +kernel)]; exact ⟨rfl, rfl⟩))
    (fun os started H enc _ => lifted os started H enc)
end Go.Proofs.YtcjfidfealifhaaGreat.states
namespace Go.Proofs.YtcjfidfealifhaaGreat
theorem states_holds : Rows.StatesSaid := states.over
#print axioms states_holds
end Go.Proofs.YtcjfidfealifhaaGreat
