/- Law 7: EventForms. -/
import Derived.Test.YticaicdopfpknaaVmSh
import Derived.Test.YticaicdopfpknaaEv4
import Derived.Test.YticaicdopfpknaaVmBs
namespace Go.Proofs.Yticaicdopfpknaa
open Go Vm IntWalk
set_option linter.unusedVariables false
set_option linter.unusedSimpArgs false
def evtBads (d : Int) : List EventV := [⟨IntKind.i64.wrap (0 - d), 0, 0, 0, 0, 0, 0, 0⟩, ⟨IntKind.i64.wrap (9 + d), 0, 0, 0, 0, 0, 0, 0⟩, ⟨0, 0, 0, 0, 0, 0, 0, IntKind.i64.wrap (1048575 + d)⟩, ⟨0, 0, 0, 0, 0, 0, 0, IntKind.i64.wrap (0 - d)⟩, ⟨0, d, 0, 0, 0, 0, 0, 0⟩, ⟨1, IntKind.i64.wrap (7 + d), 0, 0, 0, 0, 0, 0⟩, ⟨1, 0, 0, 0, 0, 0, IntKind.i64.wrap (1048576 + d), 0⟩, ⟨1, 0, 0, 0, 0, 0, 0, d⟩, ⟨2, 0, 0, 0, d, 0, 0, 0⟩, ⟨3, 0, 0, 0, IntKind.i64.wrap (1073741823 + d), 0, 0, 0⟩, ⟨3, 0, 0, 0, 0, d, 0, 0⟩, ⟨4, 0, 0, 0, 0, 0, 0, d⟩, ⟨5, 0, 0, IntKind.i64.wrap (15 + d), 0, 0, 0, 0⟩, ⟨5, 0, IntKind.i64.wrap (0 - d), 0, 0, 0, 0, 0⟩, ⟨6, 0, 0, 0, 0, IntKind.i64.wrap (4 + d), 0, 0⟩, ⟨6, 0, 0, 0, 0, IntKind.i64.wrap (0 - d), 0, 0⟩, ⟨6, d, 0, 0, 0, 0, 0, 0⟩, ⟨7, 0, d, 0, 0, 0, 0, 0⟩, ⟨8, 0, 0, 0, 0, 0, d, 0⟩, ⟨9, 0, 0, 0, d, 0, 0, 0⟩]
def evtGoods : List EventV := [⟨0, 0, 0, 0, 0, 0, 0, 1048575⟩, ⟨1, 7, 0, 0, 1073741823, 1073741823, 1048576, 0⟩, ⟨2, 1, 0, 0, 0, 0, 0, 2⟩, ⟨3, 1, 0, 0, 1073741823, 0, 0, 0⟩, ⟨4, 1, 0, 0, 0, 0, 0, 0⟩, ⟨5, 1, 1073741823, 15, 0, 0, 0, 1048575⟩, ⟨6, 0, 1073741823, 0, 1073741823, 4, 0, 1048575⟩, ⟨7, 1, 0, 0, 0, 0, 0, 0⟩, ⟨8, 0, 0, 0, 0, 0, 0, 0⟩, ⟨9, 0, 1073741823, 0, 0, 0, 0, 0⟩]
theorem evt_bads {d : Int} (h0 : 1 ≤ d) (h1 : d ≤ 1024) : ∀ r ∈ evtBads d, evtMay r = false := by
  intro r hr
  unfold evtBads at hr
  simp only [List.mem_cons, List.not_mem_nil, or_false] at hr
  rcases hr with rfl | rfl | rfl | rfl | rfl | rfl | rfl | rfl | rfl | rfl | rfl | rfl | rfl | rfl | rfl | rfl | rfl | rfl | rfl | rfl
  all_goals
    cases hq : evtMay _ with
    | false => rfl
    | true =>
      exfalso
      unfold evtMay evtPlain at hq
      simp [evtNums, evtMake, evtText, okN, IntKind.wrap_i64] at hq
      try omega
theorem evt_goods : ∀ g ∈ evtGoods, evtMay g = true := by decide
set_option maxRecDepth 8000 in
set_option maxHeartbeats 32000000 in
theorem EventForms_law (a b : Int) : Fun Try.prog 10 [.int .i64 a, .int .i64 b] (.bool true) := by
  refine fun_of_vw tab Try.func10 rfl rfl (by simp [Try.f10]) (lrel_cons (.int _ _) (lrel_cons (.int _ _) lrel_nil)) (.bool _) ?_
  refine w1 (w2 (vQ tab rfl (w4 (w3 (w1 (w1 (w2 (vF rfl callable_33 (evt_awake) (vQ tab rfl (w4 (w3 (vc_false rfl (vw_skip (w3 (w1 (w2 (vQ tab rfl (vQ tab rfl (vQ tab rfl (vQ tab rfl (w4 (w3 (w1 ?_)))))))))))))))))))))))
  refine w2 (vQ tab rfl (vQ tab rfl (vQ tab rfl (vQ tab rfl (vQ tab rfl (vQ tab rfl (vQ tab rfl (vQ tab rfl (vQ tab rfl (vQ tab rfl (vQ tab rfl (vQ tab rfl (vQ tab rfl (vQ tab rfl (vQ tab rfl (vQ tab rfl (vQ tab rfl (vQ tab rfl (vQ tab rfl (vQ tab rfl (vQ tab rfl (vQ tab rfl (vQ tab rfl ?_)))))))))))))))))))))))
  refine vQ tab rfl (vQ tab rfl (vQ tab rfl (vQ tab rfl (vQ tab rfl (vQ tab rfl (vQ tab rfl (vQ tab rfl (vQ tab rfl (vQ tab rfl (vQ tab rfl (vQ tab rfl (vQ tab rfl (vQ tab rfl (vQ tab rfl (vQ tab rfl (vQ tab rfl (vQ tab rfl (vQ tab rfl (vQ tab rfl (vQ tab rfl (vQ tab rfl (vQ tab rfl (vQ tab rfl ?_)))))))))))))))))))))))
  refine vQ tab rfl (vQ tab rfl (vQ tab rfl (vQ tab rfl (vb_op (ob := .opn (evtR.cells (evtBads (IntKind.i64.wrap (1 + bits .and .i64 b 1023)))) 43 8) (len := 20) tab rfl rfl rfl (by kernel_rfl) ?_))))
  refine vQ tab rfl (w4 (w3 (w1 (w2 (vQ tab rfl (vQ tab rfl (vQ tab rfl (vQ tab rfl (vQ tab rfl ?_)))))))))
  obtain ⟨d, hd⟩ : ∃ d, d = IntKind.i64.wrap (1 + bits .and .i64 b 1023) := ⟨_, rfl⟩
  have d1 : 1 ≤ d ∧ d ≤ 1024 := by rw [hd, and1023, i64_in _ (by omega)]; omega
  obtain ⟨I, hI⟩ : ∃ I, I = IntKind.i64.wrap ((IntKind.u64.wrap a).tmod 20) := ⟨_, rfl⟩
  have i1 : 0 ≤ I ∧ I < 20 := by rw [hI, wrapu, Int.tmod_eq_emod_of_nonneg (by omega), i64_in _ (by omega)]; omega
  have hlen : (evtBads d).length = 20 := rfl
  obtain ⟨r, hr⟩ := get_some (xs := evtBads d) i1.1 (by rw [hlen]; exact i1.2)
  have hmr := evt_bads d1.1 d1.2 r (List.mem_of_getElem? hr)
  have hpr := evtPut_no hmr
  rw [← hd, ← hI]
  refine vq_op tab rfl rfl rfl (ev_index rfl rfl rfl rfl rfl (by omega) (by omega)) ?_
  refine vq_op tab rfl rfl rfl (ev_loadrow evtR rfl rfl rfl rfl rfl rfl hr) (vN tab rfl (vS tab rfl (w4 (w3 (w1 (w2 (vQ tab rfl (vF rfl callable_27 (evt_put_as (a := r) (⟨#[]⟩, 700) hpr) (vQ tab rfl (vQ tab rfl (vQ tab rfl (vQ tab rfl (vQ tab rfl (w4 (w3 (w1 (w2 (vQ tab rfl (vQ tab rfl (vQ tab rfl (vQ tab rfl (vQ tab rfl (vQ tab rfl ?_)))))))))))))))))))))))
  refine vQ tab rfl (vQ tab rfl (vQ tab rfl (vQ tab rfl (vb_op (ob := .opn (evtR.cells evtGoods) 43 8) (len := 10) tab rfl rfl rfl (by kernel_rfl) ?_))))
  refine vQ tab rfl (w4 (w3 (w1 (w1 (w2 (vQ tab rfl (w4 (w3 (w5 ?_)))))))))
  refine vw_loop_sub (fun k s => ∃ j : Int, 0 ≤ j ∧ j ≤ 10 ∧ k = (10 - j).toNat ∧
      s = ⟨[(7, .pointer (some ⟨0, 0, none⟩)), (8, .string ⟨#[]⟩), (9, .int .i64 700), (10, .slice (some ⟨1, 0, none⟩) 10 0), (11, .int .i64 j)], lkp [(0, evtO r), (1, .opn (evtR.cells evtGoods) 43 8)], 2⟩) 10
    ⟨_, (sub_of (g := 0) [1, 2] (by decide) (by decide) (by repeat' first | exact ep_nil | exact ov_evt (a := r) (b := r) rfl | exact ov_opn evtR (xs := evtGoods) (ys := evtGoods) rfl | refine ep_cons rfl ?_ ?_ | exact .int _ _ | exact .bool _ | exact .string _ | exact rel_slice rfl rfl | exact rel_nil rfl rfl | exact rel_ptr rfl | exact .nilPtr | exact .nilIface | exact .nilSlice) (by repeat' first | exact hp_nil | exact ov_evt (a := r) (b := r) rfl | exact ov_opn evtR (xs := evtGoods) (ys := evtGoods) rfl | refine hp_cons rfl rfl ?_ ?_ | refine hp_void rfl rfl ?_ | exact ov_win _ | exact ov_opn _ rfl | exact ov_cells _ _ (by decide))), 0, by omega, by omega, by decide, rfl⟩ ?_
  rintro k s ⟨j, j0, j1, rfl, rfl⟩
  by_cases hj : j < 10
  · obtain ⟨g, hg⟩ := get_some (xs := evtGoods) j0 (by show j < 10; exact hj)
    have hmg := evt_goods g (List.mem_of_getElem? hg)
    have hpg := evtPut_ok hmg
    have hgg : evtGet (mkB (evtC.put g)) = (g, 0) := evtGet_ok (by rw [B_mk]; exact evtC.get_put hmg)
    have hsz : (mkB (evtC.put g)).size ≤ 9223372036854775807 := by rw [mkB_size]; have := evt_put_len hmg; omega
    have hi : IntKind.i64.wrap (j + 1) = j + 1 := i64_in _ (by omega)
    refine w1 (w1 (w2 (vQ tab rfl (vQ tab rfl (vQ tab rfl (vQ tab rfl (w4 (w3 (vcd_true rfl (by simp only [hi, hmg, eq_self, decide_true, decide_eq_true_eq, decide_eq_false_iff_not, Bool.not_eq_eq_eq_not, Bool.not_true, Bool.not_false, bne_iff_ne, bne_eq_false_iff_eq, beq_iff_eq, beq_eq_false_iff_ne, ne_eq, beq_self_eq_true, bne_self_eq_false, Bool.and_eq_true, Bool.and_eq_false_iff, Bool.or_eq_true, Bool.or_eq_false_iff, and_self, and_true, true_and, Bool.false_eq_true, Bool.true_eq_false, not_false_eq_true, not_true_eq_false]; first | done | omega) ?_)))))))))
    refine vw_skip (w3 (w1 (w5 (w1 (w2 (vQ tab rfl (vQ tab rfl (vq_op tab rfl rfl rfl (ev_index rfl rfl rfl rfl rfl (by omega) (by omega)) ?_))))))))
    refine vq_op tab rfl rfl rfl (ev_loadrow evtR rfl rfl rfl rfl rfl rfl hg) (vF rfl callable_27 (evt_put_as (a := g) _ hpg) (vQ tab rfl (vQ tab rfl (vQ tab rfl (vQ tab rfl (vQ tab rfl (w4 (w3 (w1 (w2 (vQ tab rfl (vF rfl callable_29 (evt_get_as (s := mkB (evtC.put g)) _ hgg hsz) (vQ tab rfl (vQ tab rfl (vQ tab rfl (vN tab rfl (vS tab rfl (vQ tab rfl (w4 (w3 (w1 (vw_draw mixed (dq_op tab rfl rfl rfl rfl ?_)))))))))))))))))))))))
    refine dq_op tab rfl rfl rfl rfl (dq_op tab rfl rfl (ev_index rfl rfl rfl rfl rfl (by omega) (by omega)) (ev_index rfl rfl rfl rfl rfl (by omega) (by omega)) ?_)
    refine dq_op tab rfl rfl (ev_loadrow evtR rfl rfl rfl rfl rfl rfl hg) (ev_loadrow evtR rfl rfl rfl rfl rfl rfl hg) (df_op rfl rfl rfl rfl rfl callable_31 (evt_may g) (dq_op tab rfl rfl rfl rfl (dq_op tab rfl rfl rfl rfl (dgd_op false rfl rfl rfl (by simp only [hi, hmg, eq_self, decide_true, decide_eq_true_eq, decide_eq_false_iff_not, Bool.not_eq_eq_eq_not, Bool.not_true, Bool.not_false, bne_iff_ne, bne_eq_false_iff_eq, beq_iff_eq, beq_eq_false_iff_ne, ne_eq, beq_self_eq_true, bne_self_eq_false, Bool.and_eq_true, Bool.and_eq_false_iff, Bool.or_eq_true, Bool.or_eq_false_iff, and_self, and_true, true_and, Bool.false_eq_true, Bool.true_eq_false, not_false_eq_true, not_true_eq_false]; first | done | omega) ?_))))
    refine dq_op tab ⟨_, _, rfl, rfl, rfl⟩ rfl rfl rfl (df_op ⟨_, _, rfl, rfl, rfl⟩ rfl rfl rfl rfl callable_23 (num_fun _) (dq_op tab ⟨_, _, rfl, rfl, rfl⟩ rfl rfl rfl (dq_op tab rfl rfl rfl rfl (dq_op tab rfl rfl rfl rfl (dq_op tab ⟨_, _, rfl, rfl, rfl⟩ rfl rfl rfl (df_op ⟨_, _, rfl, rfl, rfl⟩ rfl rfl rfl rfl callable_23 (num_fun _) (dq_op tab ⟨_, _, rfl, rfl, rfl⟩ rfl rfl rfl (dq_op tab rfl rfl rfl rfl (dq_op tab rfl rfl rfl rfl (dq_op tab ⟨_, _, rfl, rfl, rfl⟩ rfl rfl rfl (dq_op tab ⟨_, _, rfl, rfl, rfl⟩ rfl rfl rfl (dq_op tab ⟨_, _, rfl, rfl, rfl⟩ rfl rfl rfl (dq_op tab ⟨_, _, rfl, rfl, rfl⟩ rfl (ev_index rfl rfl rfl rfl rfl (by omega) (by omega)) (ev_index rfl rfl rfl rfl rfl (by omega) (by omega)) ?_)))))))))))))
    refine dq_op tab ⟨_, _, rfl, rfl, rfl⟩ rfl (ev_loadrow evtR rfl rfl rfl rfl rfl rfl hg) (ev_loadrow evtR rfl rfl rfl rfl rfl rfl hg) (dq_op tab ⟨_, _, rfl, rfl, rfl⟩ rfl (ev_neq rfl rfl rfl (evt_eq g g)) (ev_neq rfl rfl rfl (evt_eq g g)) (dq_op tab rfl rfl rfl rfl (vd_nil (by kernel_rfl) ?_)))
    refine w3 (vcd_false rfl (by simp only [hi, hmg, eq_self, decide_true, decide_eq_true_eq, decide_eq_false_iff_not, Bool.not_eq_eq_eq_not, Bool.not_true, Bool.not_false, bne_iff_ne, bne_eq_false_iff_eq, beq_iff_eq, beq_eq_false_iff_ne, ne_eq, beq_self_eq_true, bne_self_eq_false, Bool.and_eq_true, Bool.and_eq_false_iff, Bool.or_eq_true, Bool.or_eq_false_iff, and_self, and_true, true_and, Bool.false_eq_true, Bool.true_eq_false, not_false_eq_true, not_true_eq_false]; first | done | omega) ?_)
    refine vw_skip (q_norm (w3 (w2 (vQ tab rfl (vQ tab rfl (vQ tab rfl (w4 (w3 ?_))))))))
    exact ⟨(10 - (j + 1)).toNat, _, by omega, (sub_of (g := 0) [0, 1] (by decide) (by decide) (by repeat' first | exact ep_nil | exact ri hi.symm | exact ov_evt rfl | exact ov_opn evtR rfl | refine ep_cons rfl ?_ ?_ | exact .int _ _ | exact .bool _ | exact .string _ | exact rel_slice rfl rfl | exact rel_nil rfl rfl | exact rel_ptr rfl | exact .nilPtr | exact .nilIface | exact .nilSlice) (by repeat' first | exact hp_nil | exact ri hi.symm | exact ov_evt rfl | exact ov_opn evtR rfl | refine hp_cons rfl rfl ?_ ?_ | refine hp_void rfl rfl ?_ | exact ov_win _ | exact ov_opn _ rfl | exact ov_cells _ _ (by decide))), j + 1, by omega, by omega, rfl, rfl⟩
  refine w1 (w1 (w2 (vQ tab rfl (vQ tab rfl (vQ tab rfl (vQ tab rfl (w4 (w3 (vcd_false rfl (by simp only [hmr, ba_self, decide_eq_true_eq, decide_eq_false_iff_not, Bool.not_eq_eq_eq_not, Bool.not_true, Bool.not_false, bne_iff_ne, bne_eq_false_iff_eq, beq_iff_eq, beq_eq_false_iff_ne, ne_eq, beq_self_eq_true, bne_self_eq_false, Bool.and_eq_true, Bool.and_eq_false_iff, Bool.or_eq_true, Bool.or_eq_false_iff, and_self, and_true, true_and, Bool.false_eq_true, Bool.true_eq_false, not_false_eq_true, not_true_eq_false]; first | done | omega) ?_)))))))))
  refine vw_exit (q_thenx (q_thenx (q_here (w3 (w1 (w2 (vQ tab rfl (vF rfl callable_31 (evt_may_as (a := r) false hmr) (vQ tab rfl (vQ tab rfl (vQ tab rfl (vQ tab rfl (vQ tab rfl (vQ tab rfl (vQ tab rfl (vF rfl callable_23 (num_fun _) (vQ tab rfl (vQ tab rfl (vQ tab rfl (w4 (w3 (vw_ret ?_))))))))))))))))))))))
  exact ⟨.inr rfl, Eq.trans (b := some (.bool _)) rfl (congrArg (fun b => some (Value.bool b)) (by decide))⟩
end Go.Proofs.Yticaicdopfpknaa
