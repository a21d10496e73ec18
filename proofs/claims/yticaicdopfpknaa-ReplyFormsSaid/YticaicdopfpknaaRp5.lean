/- Law 5: ReplyForms. -/
import Derived.Test.YticaicdopfpknaaVmSh
import Derived.Test.YticaicdopfpknaaRp4
import Derived.Test.YticaicdopfpknaaFm0
import Derived.Test.YticaicdopfpknaaVmBs
namespace Go.Proofs.Yticaicdopfpknaa
open Go Vm IntWalk
set_option linter.unusedVariables false
set_option linter.unusedSimpArgs false
def rplBads (d : Int) : List ReplyV := [⟨IntKind.i64.wrap (0 - d), 0, 0, 0, 0, 0, 0, 0, ⟨#[]⟩⟩, ⟨IntKind.i64.wrap (5 + d), 0, 0, 0, 0, 0, 0, 0, ⟨#[]⟩⟩, ⟨0, IntKind.i64.wrap (0 - d), 0, 0, 0, 0, 0, 0, ⟨#[]⟩⟩, ⟨0, 0, 0, d, 0, 0, 0, 0, ⟨#[]⟩⟩, ⟨1, 0, 0, 0, IntKind.i64.wrap (15 + d), 0, 0, 0, ⟨#[]⟩⟩, ⟨1, 0, 0, 0, IntKind.i64.wrap (0 - d), 0, 0, 0, ⟨#[]⟩⟩, ⟨1, 0, d, 0, 0, 0, 0, 0, ⟨#[]⟩⟩, ⟨1, 0, 0, 0, 0, IntKind.i64.wrap (1073741823 + d), 0, 0, ⟨#[]⟩⟩, ⟨2, 0, 0, 0, 0, d, 0, 0, ⟨#[]⟩⟩, ⟨2, 0, 0, 0, 0, 0, IntKind.i64.wrap (1048575 + d), 0, ⟨#[]⟩⟩, ⟨2, 0, 0, 0, 0, 0, 0, 0, bytesL (List.replicate (IntKind.i64.wrap (64 + d)).toNat 0)⟩, ⟨3, 0, 0, 0, 0, 0, 0, IntKind.i64.wrap (11 + d), ⟨#[]⟩⟩, ⟨3, 0, 0, 0, 0, 0, 0, IntKind.i64.wrap (0 - d), ⟨#[]⟩⟩, ⟨3, 0, 0, d, 0, 0, 0, 0, ⟨#[]⟩⟩, ⟨4, 0, 0, 0, 0, 0, 0, IntKind.i64.wrap (4 + d), ⟨#[]⟩⟩, ⟨4, 0, 0, 0, 0, 0, 0, 0, ⟨#[120]⟩⟩, ⟨5, d, 0, 0, 0, 0, 0, 0, ⟨#[]⟩⟩]
def rplGoods : List ReplyV := [⟨0, 1, 2, 0, 0, 0, 0, 0, ⟨#[]⟩⟩, ⟨1, 0, 0, 1, 15, 2, 0, 0, ⟨#[]⟩⟩, ⟨2, 0, 0, 1, 0, 0, 1048575, 0, bytesL (List.replicate 64 0)⟩, ⟨3, 0, 0, 0, 0, 0, 0, 11, ⟨#[]⟩⟩, ⟨4, 0, 0, 1, 0, 0, 0, 4, ⟨#[]⟩⟩, ⟨5, 0, 0, 0, 0, 0, 0, 0, ⟨#[]⟩⟩]
theorem rpl_bads {d : Int} (h0 : 1 ≤ d) (h1 : d ≤ 1024) : ∀ r ∈ rplBads d, rplMay r = false := by
  intro r hr
  unfold rplBads at hr
  simp only [List.mem_cons, List.not_mem_nil, or_false] at hr
  rcases hr with rfl | rfl | rfl | rfl | rfl | rfl | rfl | rfl | rfl | rfl | rfl | rfl | rfl | rfl | rfl | rfl | rfl
  all_goals
    cases hq : rplMay _ with
    | false => rfl
    | true =>
      exfalso
      unfold rplMay rplPlain at hq
      simp [rplNums, rplMake, rplText, okN, IntKind.wrap_i64, zb_size] at hq
      try omega
theorem rpl_goods : ∀ g ∈ rplGoods, rplMay g = true := by
  intro g hg
  unfold rplGoods at hg
  simp only [List.mem_cons, List.not_mem_nil, or_false] at hg
  rcases hg with rfl | rfl | rfl | rfl | rfl | rfl
  all_goals first | decide | (unfold rplMay rplPlain; simp [rplNums, rplMake, rplText, okN, zb_size])
set_option maxRecDepth 8000 in
set_option maxHeartbeats 32000000 in
theorem ReplyForms_law (a b : Int) : Fun Try.prog 18 [.int .i64 a, .int .i64 b] (.bool true) := by
  refine fun_of_vw tab Try.func18 rfl rfl (by simp [Try.f18]) (lrel_cons (.int _ _) (lrel_cons (.int _ _) lrel_nil)) (.bool _) ?_
  refine w1 (w2 (vQ tab rfl (w4 (w3 (w1 (w1 (w2 (vF rfl callable_47 (rpl_awake) (vQ tab rfl (w4 (w3 (vc_false rfl (vw_skip (w3 (w1 (w2 (vQ tab rfl (vQ tab rfl (vQ tab rfl (vQ tab rfl (w4 (w3 (w1 ?_)))))))))))))))))))))))
  refine w2 (vQ tab rfl (vQ tab rfl (vQ tab rfl (vQ tab rfl (vQ tab rfl (vQ tab rfl (vQ tab rfl (vQ tab rfl (vQ tab rfl (vQ tab rfl (vQ tab rfl (vQ tab rfl (vQ tab rfl (vQ tab rfl (vQ tab rfl (vQ tab rfl (vQ tab rfl (vQ tab rfl (vQ tab rfl (vQ tab rfl (vQ tab rfl (vQ tab rfl (vQ tab rfl ?_)))))))))))))))))))))))
  refine vQ tab rfl (vQ tab rfl (vQ tab rfl (vQ tab rfl (vQ tab rfl (vQ tab rfl ?_)))))
  obtain ⟨d, hd⟩ : ∃ d, d = IntKind.i64.wrap (1 + bits .and .i64 b 1023) := ⟨_, rfl⟩
  have d1 : 1 ≤ d ∧ d ≤ 1024 := by rw [hd, and1023, i64_in _ (by omega)]; omega
  obtain ⟨I, hI⟩ : ∃ I, I = IntKind.i64.wrap ((IntKind.u64.wrap a).tmod 17) := ⟨_, rfl⟩
  have i1 : 0 ≤ I ∧ I < 17 := by rw [hI, wrapu, Int.tmod_eq_emod_of_nonneg (by omega), i64_in _ (by omega)]; omega
  have hlen : (rplBads d).length = 17 := rfl
  obtain ⟨r, hr⟩ := get_some (xs := rplBads d) i1.1 (by rw [hlen]; exact i1.2)
  have hmr := rpl_bads d1.1 d1.2 r (List.mem_of_getElem? hr)
  have hpr := rplPut_no hmr
  have z1 : 0 ≤ IntKind.i64.wrap (64 + d) ∧ IntKind.i64.wrap (64 + d) ≤ 140737488355328 := by rw [i64_in _ (by omega)]; omega
  have z2 : (0 : Int) ≤ 64 ∧ (64 : Int) ≤ 140737488355328 := by omega
  rw [← hd]
  refine vo_op rfl rfl rfl (opr_ev tab (ev_makeb rfl rfl rfl rfl rfl rfl rfl rfl z1.1 z1.2)) (vq_op tab rfl rfl rfl (ev_text rfl rfl rfl rfl rfl rfl rfl rfl (by simp)) ?_)
  refine vQ tab rfl (vQ tab rfl (vQ tab rfl (vQ tab rfl (vQ tab rfl (vQ tab rfl (vQ tab rfl (vQ tab rfl (vQ tab rfl (vQ tab rfl (vQ tab rfl (vQ tab rfl (vQ tab rfl (vQ tab rfl (vQ tab rfl (vb_op (ob := .opn (rplR.cells (rplBads d)) 70 9) (len := 17) tab rfl rfl rfl (by kernel_rfl) ?_)))))))))))))))
  refine vQ tab rfl (w4 (w3 (w1 (w2 (vQ tab rfl (vQ tab rfl (vQ tab rfl (vQ tab rfl (vQ tab rfl ?_)))))))))
  rw [← hI]
  refine vq_op tab rfl rfl rfl (ev_index rfl rfl rfl rfl rfl (by omega) (by omega)) ?_
  refine vq_op tab rfl rfl rfl (ev_loadrow rplR rfl rfl rfl rfl rfl rfl hr) (vN tab rfl (vS tab rfl (w4 (w3 (w1 (w2 (vQ tab rfl (vF rfl callable_41 (rpl_put_as (a := r) (⟨#[]⟩, 500) hpr) (vQ tab rfl (vQ tab rfl (vQ tab rfl (vQ tab rfl (vQ tab rfl (w4 (w3 (w1 (w2 (vQ tab rfl (vQ tab rfl (vN tab rfl (vQ tab rfl (vQ tab rfl (vQ tab rfl ?_)))))))))))))))))))))))
  refine vQ tab rfl (vQ tab rfl (vb_op (ob := .opn (rplR.cells rplGoods) 70 9) (len := 6) tab rfl rfl rfl (by kernel_rfl) ?_))
  refine vQ tab rfl (w4 (w3 (w1 (w1 (w2 (vQ tab rfl (w4 (w3 (w5 ?_)))))))))
  refine vw_loop_sub (fun k s => ∃ j : Int, 0 ≤ j ∧ j ≤ 6 ∧ k = (6 - j).toNat ∧
      s = ⟨[(7, .pointer (some ⟨0, 0, none⟩)), (8, .string ⟨#[]⟩), (9, .int .i64 500), (10, .slice (some ⟨1, 0, none⟩) 6 0), (11, .int .i64 j)], lkp [(0, rplO r), (1, .opn (rplR.cells rplGoods) 70 9)], 2⟩) 6
    ⟨_, (sub_of (g := 0) [2, 4] (by decide) (by decide) (by repeat' first | exact ep_nil | exact ov_rpl (a := r) (b := r) rfl | exact ov_opn rplR (xs := rplGoods) (ys := rplGoods) rfl | refine ep_cons rfl ?_ ?_ | exact .int _ _ | exact .bool _ | exact .string _ | exact rel_slice rfl rfl | exact rel_nil rfl rfl | exact rel_ptr rfl | exact .nilPtr | exact .nilIface | exact .nilSlice) (by repeat' first | exact hp_nil | exact ov_rpl (a := r) (b := r) rfl | exact ov_opn rplR (xs := rplGoods) (ys := rplGoods) rfl | refine hp_cons rfl rfl ?_ ?_ | refine hp_void rfl rfl ?_ | exact ov_win _ | exact ov_opn _ rfl | exact ov_cells _ _ (by decide))), 0, by omega, by omega, by decide, rfl⟩ ?_
  rintro k s ⟨j, j0, j1, rfl, rfl⟩
  by_cases hj : j < 6
  · obtain ⟨g, hg⟩ := get_some (xs := rplGoods) j0 (by show j < 6; exact hj)
    have hmg := rpl_goods g (List.mem_of_getElem? hg)
    have hpg := rplPut_ok hmg
    have hgg : rplGet (mkB (rplC.put g)) = (g, 0) := rplGet_ok (by rw [B_mk]; exact rplC.get_put hmg)
    have hsz : (mkB (rplC.put g)).size ≤ 9223372036854775807 := by rw [mkB_size]; have := rpl_put_len hmg; omega
    have hi : IntKind.i64.wrap (j + 1) = j + 1 := i64_in _ (by omega)
    refine w1 (w1 (w2 (vQ tab rfl (vQ tab rfl (vQ tab rfl (vQ tab rfl (w4 (w3 (vcd_true rfl (by simp only [hi, hmg, eq_self, decide_true, decide_eq_true_eq, decide_eq_false_iff_not, Bool.not_eq_eq_eq_not, Bool.not_true, Bool.not_false, bne_iff_ne, bne_eq_false_iff_eq, beq_iff_eq, beq_eq_false_iff_ne, ne_eq, beq_self_eq_true, bne_self_eq_false, Bool.and_eq_true, Bool.and_eq_false_iff, Bool.or_eq_true, Bool.or_eq_false_iff, and_self, and_true, true_and, Bool.false_eq_true, Bool.true_eq_false, not_false_eq_true, not_true_eq_false]; first | done | omega) ?_)))))))))
    refine vw_skip (w3 (w1 (w5 (w1 (w2 (vQ tab rfl (vQ tab rfl (vq_op tab rfl rfl rfl (ev_index rfl rfl rfl rfl rfl (by omega) (by omega)) ?_))))))))
    refine vq_op tab rfl rfl rfl (ev_loadrow rplR rfl rfl rfl rfl rfl rfl hg) (vF rfl callable_41 (rpl_put_as (a := g) _ hpg) (vQ tab rfl (vQ tab rfl (vQ tab rfl (vQ tab rfl (vQ tab rfl (w4 (w3 (w1 (w2 (vQ tab rfl (vF rfl callable_43 (rpl_get_as (s := mkB (rplC.put g)) _ hgg hsz) (vQ tab rfl (vQ tab rfl (vQ tab rfl (vN tab rfl (vS tab rfl (vQ tab rfl (w4 (w3 (w1 (vw_draw mixed (dq_op tab rfl rfl rfl rfl ?_)))))))))))))))))))))))
    refine dq_op tab rfl rfl rfl rfl (dq_op tab rfl rfl (ev_index rfl rfl rfl rfl rfl (by omega) (by omega)) (ev_index rfl rfl rfl rfl rfl (by omega) (by omega)) ?_)
    refine dq_op tab rfl rfl (ev_loadrow rplR rfl rfl rfl rfl rfl rfl hg) (ev_loadrow rplR rfl rfl rfl rfl rfl rfl hg) (df_op rfl rfl rfl rfl rfl callable_45 (rpl_may g) (dq_op tab rfl rfl rfl rfl (dq_op tab rfl rfl rfl rfl (dgd_op false rfl rfl rfl (by simp only [hi, hmg, eq_self, decide_true, decide_eq_true_eq, decide_eq_false_iff_not, Bool.not_eq_eq_eq_not, Bool.not_true, Bool.not_false, bne_iff_ne, bne_eq_false_iff_eq, beq_iff_eq, beq_eq_false_iff_ne, ne_eq, beq_self_eq_true, bne_self_eq_false, Bool.and_eq_true, Bool.and_eq_false_iff, Bool.or_eq_true, Bool.or_eq_false_iff, and_self, and_true, true_and, Bool.false_eq_true, Bool.true_eq_false, not_false_eq_true, not_true_eq_false]; first | done | omega) ?_))))
    refine dq_op tab ⟨_, _, rfl, rfl, rfl⟩ rfl rfl rfl (df_op ⟨_, _, rfl, rfl, rfl⟩ rfl rfl rfl rfl callable_23 (num_fun _) (dq_op tab ⟨_, _, rfl, rfl, rfl⟩ rfl rfl rfl (dq_op tab rfl rfl rfl rfl (dq_op tab rfl rfl rfl rfl (dq_op tab ⟨_, _, rfl, rfl, rfl⟩ rfl rfl rfl (df_op ⟨_, _, rfl, rfl, rfl⟩ rfl rfl rfl rfl callable_23 (num_fun _) (dq_op tab ⟨_, _, rfl, rfl, rfl⟩ rfl rfl rfl (dq_op tab rfl rfl rfl rfl (dq_op tab rfl rfl rfl rfl (dq_op tab ⟨_, _, rfl, rfl, rfl⟩ rfl rfl rfl (dq_op tab ⟨_, _, rfl, rfl, rfl⟩ rfl rfl rfl (dq_op tab ⟨_, _, rfl, rfl, rfl⟩ rfl rfl rfl (dq_op tab ⟨_, _, rfl, rfl, rfl⟩ rfl (ev_index rfl rfl rfl rfl rfl (by omega) (by omega)) (ev_index rfl rfl rfl rfl rfl (by omega) (by omega)) ?_)))))))))))))
    refine dq_op tab ⟨_, _, rfl, rfl, rfl⟩ rfl (ev_loadrow rplR rfl rfl rfl rfl rfl rfl hg) (ev_loadrow rplR rfl rfl rfl rfl rfl rfl hg) (dq_op tab ⟨_, _, rfl, rfl, rfl⟩ rfl (ev_neq rfl rfl rfl (rpl_eq g g)) (ev_neq rfl rfl rfl (rpl_eq g g)) (dq_op tab rfl rfl rfl rfl (vd_nil (by kernel_rfl) ?_)))
    refine w3 (vcd_false rfl (by simp only [hi, hmg, eq_self, decide_true, decide_eq_true_eq, decide_eq_false_iff_not, Bool.not_eq_eq_eq_not, Bool.not_true, Bool.not_false, bne_iff_ne, bne_eq_false_iff_eq, beq_iff_eq, beq_eq_false_iff_ne, ne_eq, beq_self_eq_true, bne_self_eq_false, Bool.and_eq_true, Bool.and_eq_false_iff, Bool.or_eq_true, Bool.or_eq_false_iff, and_self, and_true, true_and, Bool.false_eq_true, Bool.true_eq_false, not_false_eq_true, not_true_eq_false]; first | done | omega) ?_)
    refine vw_skip (q_norm (w3 (w2 (vQ tab rfl (vQ tab rfl (vQ tab rfl (w4 (w3 ?_))))))))
    exact ⟨(6 - (j + 1)).toNat, _, by omega, (sub_of (g := 0) [0, 1] (by decide) (by decide) (by repeat' first | exact ep_nil | exact ri hi.symm | exact ov_rpl rfl | exact ov_opn rplR rfl | refine ep_cons rfl ?_ ?_ | exact .int _ _ | exact .bool _ | exact .string _ | exact rel_slice rfl rfl | exact rel_nil rfl rfl | exact rel_ptr rfl | exact .nilPtr | exact .nilIface | exact .nilSlice) (by repeat' first | exact hp_nil | exact ri hi.symm | exact ov_rpl rfl | exact ov_opn rplR rfl | refine hp_cons rfl rfl ?_ ?_ | refine hp_void rfl rfl ?_ | exact ov_win _ | exact ov_opn _ rfl | exact ov_cells _ _ (by decide))), j + 1, by omega, by omega, rfl, rfl⟩
  refine w1 (w1 (w2 (vQ tab rfl (vQ tab rfl (vQ tab rfl (vQ tab rfl (w4 (w3 (vcd_false rfl (by simp only [hmr, ba_self, decide_eq_true_eq, decide_eq_false_iff_not, Bool.not_eq_eq_eq_not, Bool.not_true, Bool.not_false, bne_iff_ne, bne_eq_false_iff_eq, beq_iff_eq, beq_eq_false_iff_ne, ne_eq, beq_self_eq_true, bne_self_eq_false, Bool.and_eq_true, Bool.and_eq_false_iff, Bool.or_eq_true, Bool.or_eq_false_iff, and_self, and_true, true_and, Bool.false_eq_true, Bool.true_eq_false, not_false_eq_true, not_true_eq_false]; first | done | omega) ?_)))))))))
  refine vw_exit (q_thenx (q_thenx (q_here (w3 (w1 (w2 (vQ tab rfl (vF rfl callable_45 (rpl_may_as (a := r) false hmr) (vQ tab rfl (vQ tab rfl (vQ tab rfl (vQ tab rfl (vQ tab rfl (vQ tab rfl (vQ tab rfl (vF rfl callable_23 (num_fun _) (vQ tab rfl (vQ tab rfl (vQ tab rfl (w4 (w3 (vw_ret ?_))))))))))))))))))))))
  exact ⟨.inr rfl, Eq.trans (b := some (.bool _)) rfl (congrArg (fun b => some (Value.bool b)) (by decide))⟩
end Go.Proofs.Yticaicdopfpknaa
