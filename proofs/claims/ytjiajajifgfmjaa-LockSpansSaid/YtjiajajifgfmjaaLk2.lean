/- LockSpans: its loop. -/
import Derived.Test.YtjiajajifgfmjaaLk1
import Derived.Test.YtjiajajifgfmjaaVmO
namespace Go.Proofs.Ytjiajajifgfmjaa
open Go Vm IntWalk
set_option linter.unusedVariables false
set_option linter.unusedSimpArgs false
theorem open_true {f u t : Int} (h : u ≤ t) : Fun Try.prog 14 [.agg #[.int .i64 f, .int .i64 u], .int .i64 t] (.bool true) := by
  have := open_fun f u t
  rw [decide_eq_true h] at this; exact this
theorem open_false {f u t : Int} (h : t < u) : Fun Try.prog 14 [.agg #[.int .i64 f, .int .i64 u], .int .i64 t] (.bool false) := by
  have := open_fun f u t
  rw [decide_eq_false (by omega)] at this; exact this
theorem ri {σ : Ren} {k : IntKind} {a b : Int} (h : a = b) : VRel σ (.int k a) (.int k b) := by rw [h]; exact .int _ _
set_option maxHeartbeats 4000000 in
theorem LockSpans_law (a0 a1 a2 a3 : Int) (w0 : (Lit.int .i64 a0).wf = true) (w1 : (Lit.int .i64 a1).wf = true) (w2 : (Lit.int .i64 a2).wf = true) (w3 : (Lit.int .i64 a3).wf = true) :
    Fun Try.prog 6 [.int .i64 a0, .int .i64 a1, .int .i64 a2, .int .i64 a3] (.bool true) := by
  refine fun_of_vw tab Try.func6 rfl rfl (by simp [Try.f6]) (lrel_cons (.int _ _) (lrel_cons (.int _ _) (lrel_cons (.int _ _) (lrel_cons (.int _ _) lrel_nil)))) (.bool _) ?_
  obtain ⟨t, ht⟩ : ∃ t, t = a0 % 1024 := ⟨_, rfl⟩
  obtain ⟨m, hm⟩ : ∃ m, m = 1 + (a1 % 18446744073709551616) % 8 := ⟨_, rfl⟩
  obtain ⟨o, ho⟩ : ∃ o, o = 1 + a2 % 1024 := ⟨_, rfl⟩
  have hm' : IntKind.i64.wrap (1 + IntKind.i64.wrap ((IntKind.u64.wrap a1).tmod 8)) = m := by
    rw [wrapu, Int.tmod_eq_emod_of_nonneg (by omega), IntKind.wrap_i64, IntKind.wrap_i64]; omega
  have ho' : IntKind.i64.wrap (1 + bits .and .i64 a2 1023) = o := by rw [and1023, IntKind.wrap_i64]; omega
  have ht' : bits .and .i64 a0 1023 = t := by rw [and1023]; omega
  repeat' first
    | (refine vq_op tab rfl rfl rfl rfl ?_)
    | (refine vq_op tab ⟨_, _, rfl, rfl, rfl⟩ rfl rfl rfl ?_)
    | (refine vn_op tab rfl rfl rfl rfl ?_)
    | (refine vf_op rfl rfl rfl rfl rfl rfl callable_16 (awake_fun) ?_)
    | (refine vf_op ⟨_, _, rfl, rfl, rfl⟩ rfl rfl rfl rfl rfl callable_16 (awake_fun) ?_)
    | (refine vs_op tab rfl rfl rfl ?_)
    | (refine vk_op ⟨_, _, rfl, rfl, rfl⟩ rfl rfl ?_)
    | (refine vn_op tab ⟨_, _, rfl, rfl, rfl⟩ rfl rfl rfl ?_)
    | (refine vgd_op true rfl rfl rfl (by decide) ?_)
    | (refine vgd_op false rfl rfl rfl (by decide) ?_)
    | (refine vg_op rfl rfl rfl (fun _ => ?_) (fun _ => ?_))
    | (refine v_nil ?_)
    | (refine vw_seq ?_)
    | (refine vw_region ?_)
    | (refine vc_true rfl ?_)
    | (refine vc_false rfl ?_)
    | (refine vcd_true rfl (by decide) ?_)
    | (refine vcd_false rfl (by decide) ?_)
    | (refine vc_part rfl (fun _ => ?_) (fun _ => ?_))
    | (refine vw_block ?_)
    | (refine q_then ?_)
    | (refine q_norm ?_)
    | (refine q_here ?_)
    | (refine q_out rfl ?_)
    | (refine q_thenx ?_)
    | (refine q_thenr ?_)
    | (refine q_ret ?_)
    | (refine vw_skip ?_)
    | (refine vw_exit ?_)
    | (refine vw_ret ?_)
  refine vw_loop_sub (fun k s => ∃ i u : Int, 0 ≤ i ∧ i ≤ m ∧ (i < m → u = 0) ∧ (i = m → u = t + o) ∧ k = (m - i).toNat ∧ s = ⟨[(3, .int .i64 a3), (9, .int .i64 t), (10, .int .i64 m), (11, .int .i64 o), (12, .pointer (some ⟨0, 0, none⟩)), (13, .int .i64 i)],
      lkp [(0, .cells [.int .i64 i, .int .i64 u] 23 (0, 0))], 1⟩) (m - 0).toNat
    ⟨_, sub_of (g := 0) [0] (by decide) (by decide) (ep_cons rfl (.int _ _) (ep_cons rfl (ri ht'.symm) (ep_cons rfl (ri hm'.symm) (ep_cons rfl (ri ho'.symm) (ep_cons rfl (.ptr rfl) (ep_cons rfl (.int _ _) ep_nil))))))
      (hp_cons rfl rfl (.cells _ _ (lrel_cons (.int _ _) (lrel_cons (.int _ _) lrel_nil))) hp_nil), 0, 0, by omega, by omega, by omega, by omega, rfl, rfl⟩ ?_
  rintro k s ⟨i, u, h0, h1, hu0, hum, rfl, rfl⟩
  by_cases hi : i < m
  · obtain rfl := hu0 hi
    repeat' first
      | (refine vq_op tab rfl rfl rfl rfl ?_)
      | (refine vq_op tab ⟨_, _, rfl, rfl, rfl⟩ rfl rfl rfl ?_)
      | (refine vn_op tab rfl rfl rfl rfl ?_)
      | (refine vf_op rfl rfl rfl rfl rfl rfl callable_14 (open_true (by omega)) ?_)
      | (refine vf_op ⟨_, _, rfl, rfl, rfl⟩ rfl rfl rfl rfl rfl callable_14 (open_true (by omega)) ?_)
      | (refine vf_op rfl rfl rfl rfl rfl rfl callable_11 (fail_at (show failR i 0 t m o = (i + 1, if i + 1 = m then t + o else 0, 0) by rw [failR, if_neg (by unfold failBad; omega), failF, if_neg (by omega)])) ?_)
      | (refine vf_op ⟨_, _, rfl, rfl, rfl⟩ rfl rfl rfl rfl rfl callable_11 (fail_at (show failR i 0 t m o = (i + 1, if i + 1 = m then t + o else 0, 0) by rw [failR, if_neg (by unfold failBad; omega), failF, if_neg (by omega)])) ?_)
      | (refine vf_op rfl rfl rfl rfl rfl rfl callable_13 (num_fun _) ?_)
      | (refine vf_op ⟨_, _, rfl, rfl, rfl⟩ rfl rfl rfl rfl rfl callable_13 (num_fun _) ?_)
      | (refine vs_op tab rfl rfl rfl ?_)
      | (refine vk_op ⟨_, _, rfl, rfl, rfl⟩ rfl rfl ?_)
      | (refine vn_op tab ⟨_, _, rfl, rfl, rfl⟩ rfl rfl rfl ?_)
      | (refine vgd_op true rfl rfl rfl (by decide) ?_)
      | (refine vgd_op false rfl rfl rfl (by decide) ?_)
      | (refine vg_op rfl rfl rfl (fun _ => ?_) (fun _ => ?_))
      | (refine v_nil ?_)
      | (refine vw_seq ?_)
      | (refine vw_region ?_)
      | (refine vc_true rfl ?_)
      | (refine vc_false rfl ?_)
      | (refine vcd_true rfl (by decide) ?_)
      | (refine vcd_false rfl (by decide) ?_)
      | (refine vc_part rfl (fun _ => ?_) (fun _ => ?_))
      | (refine vw_block ?_)
      | (refine q_then ?_)
      | (refine q_norm ?_)
      | (refine q_here ?_)
      | (refine q_out rfl ?_)
      | (refine q_thenx ?_)
      | (refine q_thenr ?_)
      | (refine q_ret ?_)
      | (refine vw_skip ?_)
      | (refine vw_exit ?_)
      | (refine vw_ret ?_)
    all_goals try (exfalso; simp_all; done)
    all_goals try (exfalso; simp_all; omega)
    refine ⟨(m - (i + 1)).toNat, _, by omega, sub_of (g := 0) [0] (by decide) (by decide) (ep_cons rfl (.int _ _) (ep_cons rfl (.int _ _) (ep_cons rfl (.int _ _) (ep_cons rfl (.int _ _) (ep_cons rfl (.ptr rfl) (ep_cons rfl (ri (i64_in (i + 1) (by omega)).symm) ep_nil))))))
      (hp_cons rfl rfl (.cells _ _ (lrel_cons (.int _ _) (lrel_cons (.int _ _) lrel_nil))) hp_nil), i + 1, if i + 1 = m then t + o else 0, by omega, by omega, fun h => if_neg (by omega), fun h => if_pos h, rfl, rfl⟩
  · obtain rfl : i = m := by omega
    obtain rfl := hum rfl
    have hq : IntKind.i64.wrap (t + bits .and .i64 a3 2047) = t + a3 % 2048 := by rw [and2047 a3, IntKind.wrap_i64]; omega
    have hr : IntKind.i64.wrap (t + o) = t + o := i64_in _ (by omega)
    by_cases hb : t + a3 % 2048 < t + o
    ·
      repeat' first
        | (refine vq_op tab rfl rfl rfl rfl ?_)
        | (refine vq_op tab ⟨_, _, rfl, rfl, rfl⟩ rfl rfl rfl ?_)
        | (refine vn_op tab rfl rfl rfl rfl ?_)
        | (refine vf_op rfl rfl rfl rfl rfl rfl callable_14 (open_false (by rw [hq]; omega)) ?_)
        | (refine vf_op ⟨_, _, rfl, rfl, rfl⟩ rfl rfl rfl rfl rfl callable_14 (open_false (by rw [hq]; omega)) ?_)
        | (refine vf_op rfl rfl rfl rfl rfl rfl callable_11 (fail_bad (by unfold failBad; rw [hq]; omega)) ?_)
        | (refine vf_op ⟨_, _, rfl, rfl, rfl⟩ rfl rfl rfl rfl rfl callable_11 (fail_bad (by unfold failBad; rw [hq]; omega)) ?_)
        | (refine vf_op rfl rfl rfl rfl rfl rfl callable_13 (num_fun _) ?_)
        | (refine vf_op ⟨_, _, rfl, rfl, rfl⟩ rfl rfl rfl rfl rfl callable_13 (num_fun _) ?_)
        | (refine vs_op tab rfl rfl rfl ?_)
        | (refine vk_op ⟨_, _, rfl, rfl, rfl⟩ rfl rfl ?_)
        | (refine vn_op tab ⟨_, _, rfl, rfl, rfl⟩ rfl rfl rfl ?_)
        | (refine vgd_op true rfl rfl rfl (by decide) ?_)
        | (refine vgd_op false rfl rfl rfl (by decide) ?_)
        | (refine vgd_op true rfl rfl rfl (by simp only [hq, hr, decide_eq_true_eq, decide_eq_false_iff_not, Bool.not_eq_eq_eq_not, Bool.not_true, Bool.not_false, bne_iff_ne, bne_eq_false_iff_eq, beq_iff_eq, beq_eq_false_iff_ne, ne_eq]; omega) ?_)
        | (refine vgd_op false rfl rfl rfl (by simp only [hq, hr, decide_eq_true_eq, decide_eq_false_iff_not, Bool.not_eq_eq_eq_not, Bool.not_true, Bool.not_false, bne_iff_ne, bne_eq_false_iff_eq, beq_iff_eq, beq_eq_false_iff_ne, ne_eq]; omega) ?_)
        | (refine vg_op rfl rfl rfl (fun _ => ?_) (fun _ => ?_))
        | (refine v_nil ?_)
        | (refine vw_seq ?_)
        | (refine vw_region ?_)
        | (refine vc_true rfl ?_)
        | (refine vc_false rfl ?_)
        | (refine vcd_true rfl (by decide) ?_)
        | (refine vcd_false rfl (by decide) ?_)
        | (refine vcd_true rfl (by simp only [hq, hr, decide_eq_true_eq, decide_eq_false_iff_not, Bool.not_eq_eq_eq_not, Bool.not_true, Bool.not_false, bne_iff_ne, bne_eq_false_iff_eq, beq_iff_eq, beq_eq_false_iff_ne, ne_eq]; omega) ?_)
        | (refine vcd_false rfl (by simp only [hq, hr, decide_eq_true_eq, decide_eq_false_iff_not, Bool.not_eq_eq_eq_not, Bool.not_true, Bool.not_false, bne_iff_ne, bne_eq_false_iff_eq, beq_iff_eq, beq_eq_false_iff_ne, ne_eq]; omega) ?_)
        | (refine vc_part rfl (fun _ => ?_) (fun _ => ?_))
        | (refine vw_block ?_)
        | (refine q_then ?_)
        | (refine q_norm ?_)
        | (refine q_here ?_)
        | (refine q_out rfl ?_)
        | (refine q_thenx ?_)
        | (refine q_thenr ?_)
        | (refine q_ret ?_)
        | (refine vw_skip ?_)
        | (refine vw_exit ?_)
        | (refine vw_ret ?_)
      exact ⟨.inr rfl, rfl⟩
    · have hs : IntKind.i64.wrap (t + a3 % 2048 + o) = t + a3 % 2048 + o := i64_in _ (by omega)
      by_cases h1 : 1 = i
      · subst h1
        repeat' first
          | (refine vq_op tab rfl rfl rfl rfl ?_)
          | (refine vq_op tab ⟨_, _, rfl, rfl, rfl⟩ rfl rfl rfl ?_)
          | (refine vn_op tab rfl rfl rfl rfl ?_)
          | (refine vf_op rfl rfl rfl rfl rfl rfl callable_14 (open_true (by rw [hq]; omega)) ?_)
          | (refine vf_op ⟨_, _, rfl, rfl, rfl⟩ rfl rfl rfl rfl rfl callable_14 (open_true (by rw [hq]; omega)) ?_)
          | (refine vf_op rfl rfl rfl rfl rfl rfl callable_11 (fail_at (show failR 1 (t + o) (IntKind.i64.wrap (t + bits .and .i64 a3 2047)) 1 o = (1, t + a3 % 2048 + o, 0) by rw [hq, failR, if_neg (by unfold failBad; omega), failF, if_pos (by omega)]; rfl)) ?_)
          | (refine vf_op ⟨_, _, rfl, rfl, rfl⟩ rfl rfl rfl rfl rfl callable_11 (fail_at (show failR 1 (t + o) (IntKind.i64.wrap (t + bits .and .i64 a3 2047)) 1 o = (1, t + a3 % 2048 + o, 0) by rw [hq, failR, if_neg (by unfold failBad; omega), failF, if_pos (by omega)]; rfl)) ?_)
          | (refine vf_op rfl rfl rfl rfl rfl rfl callable_13 (num_fun _) ?_)
          | (refine vf_op ⟨_, _, rfl, rfl, rfl⟩ rfl rfl rfl rfl rfl callable_13 (num_fun _) ?_)
          | (refine vs_op tab rfl rfl rfl ?_)
          | (refine vk_op ⟨_, _, rfl, rfl, rfl⟩ rfl rfl ?_)
          | (refine vn_op tab ⟨_, _, rfl, rfl, rfl⟩ rfl rfl rfl ?_)
          | (refine vgd_op true rfl rfl rfl (by decide) ?_)
          | (refine vgd_op false rfl rfl rfl (by decide) ?_)
          | (refine vgd_op true rfl rfl rfl (by simp only [hq, hr, decide_eq_true_eq, decide_eq_false_iff_not, Bool.not_eq_eq_eq_not, Bool.not_true, Bool.not_false, bne_iff_ne, bne_eq_false_iff_eq, beq_iff_eq, beq_eq_false_iff_ne, ne_eq]; omega) ?_)
          | (refine vgd_op false rfl rfl rfl (by simp only [hq, hr, decide_eq_true_eq, decide_eq_false_iff_not, Bool.not_eq_eq_eq_not, Bool.not_true, Bool.not_false, bne_iff_ne, bne_eq_false_iff_eq, beq_iff_eq, beq_eq_false_iff_ne, ne_eq]; omega) ?_)
          | (refine vg_op rfl rfl rfl (fun _ => ?_) (fun _ => ?_))
          | (refine v_nil ?_)
          | (refine vw_seq ?_)
          | (refine vw_region ?_)
          | (refine vc_true rfl ?_)
          | (refine vc_false rfl ?_)
          | (refine vcd_true rfl (by decide) ?_)
          | (refine vcd_false rfl (by decide) ?_)
          | (refine vcd_true rfl (by simp only [hq, hr, decide_eq_true_eq, decide_eq_false_iff_not, Bool.not_eq_eq_eq_not, Bool.not_true, Bool.not_false, bne_iff_ne, bne_eq_false_iff_eq, beq_iff_eq, beq_eq_false_iff_ne, ne_eq]; omega) ?_)
          | (refine vcd_false rfl (by simp only [hq, hr, decide_eq_true_eq, decide_eq_false_iff_not, Bool.not_eq_eq_eq_not, Bool.not_true, Bool.not_false, bne_iff_ne, bne_eq_false_iff_eq, beq_iff_eq, beq_eq_false_iff_ne, ne_eq]; omega) ?_)
          | (refine vc_part rfl (fun _ => ?_) (fun _ => ?_))
          | (refine vw_block ?_)
          | (refine q_then ?_)
          | (refine q_norm ?_)
          | (refine q_here ?_)
          | (refine q_out rfl ?_)
          | (refine q_thenx ?_)
          | (refine q_thenr ?_)
          | (refine q_ret ?_)
          | (refine vw_skip ?_)
          | (refine vw_exit ?_)
          | (refine vw_ret ?_)
        all_goals
          refine ⟨.inr rfl, Eq.trans (b := some (.bool (1 == 1 && (t + a3 % 2048 + o == IntKind.i64.wrap (IntKind.i64.wrap (t + bits .and .i64 a3 2047) + o) && true)))) rfl (congrArg some ?_)⟩
          rw [hq, hs]; simp
      ·
        repeat' first
          | (refine vq_op tab rfl rfl rfl rfl ?_)
          | (refine vq_op tab ⟨_, _, rfl, rfl, rfl⟩ rfl rfl rfl ?_)
          | (refine vn_op tab rfl rfl rfl rfl ?_)
          | (refine vf_op rfl rfl rfl rfl rfl rfl callable_14 (open_true (by rw [hq]; omega)) ?_)
          | (refine vf_op ⟨_, _, rfl, rfl, rfl⟩ rfl rfl rfl rfl rfl callable_14 (open_true (by rw [hq]; omega)) ?_)
          | (refine vf_op rfl rfl rfl rfl rfl rfl callable_11 (fail_at (show failR i (t + o) (IntKind.i64.wrap (t + bits .and .i64 a3 2047)) i o = (1, t + o, 0) by rw [hq, failR, if_neg (by unfold failBad; omega), failF, if_pos (by omega), if_neg (by omega)]; rfl)) ?_)
          | (refine vf_op ⟨_, _, rfl, rfl, rfl⟩ rfl rfl rfl rfl rfl callable_11 (fail_at (show failR i (t + o) (IntKind.i64.wrap (t + bits .and .i64 a3 2047)) i o = (1, t + o, 0) by rw [hq, failR, if_neg (by unfold failBad; omega), failF, if_pos (by omega), if_neg (by omega)]; rfl)) ?_)
          | (refine vf_op rfl rfl rfl rfl rfl rfl callable_13 (num_fun _) ?_)
          | (refine vf_op ⟨_, _, rfl, rfl, rfl⟩ rfl rfl rfl rfl rfl callable_13 (num_fun _) ?_)
          | (refine vs_op tab rfl rfl rfl ?_)
          | (refine vk_op ⟨_, _, rfl, rfl, rfl⟩ rfl rfl ?_)
          | (refine vn_op tab ⟨_, _, rfl, rfl, rfl⟩ rfl rfl rfl ?_)
          | (refine vgd_op true rfl rfl rfl (by decide) ?_)
          | (refine vgd_op false rfl rfl rfl (by decide) ?_)
          | (refine vgd_op true rfl rfl rfl (by simp only [hq, hr, decide_eq_true_eq, decide_eq_false_iff_not, Bool.not_eq_eq_eq_not, Bool.not_true, Bool.not_false, bne_iff_ne, bne_eq_false_iff_eq, beq_iff_eq, beq_eq_false_iff_ne, ne_eq]; omega) ?_)
          | (refine vgd_op false rfl rfl rfl (by simp only [hq, hr, decide_eq_true_eq, decide_eq_false_iff_not, Bool.not_eq_eq_eq_not, Bool.not_true, Bool.not_false, bne_iff_ne, bne_eq_false_iff_eq, beq_iff_eq, beq_eq_false_iff_ne, ne_eq]; omega) ?_)
          | (refine vg_op rfl rfl rfl (fun _ => ?_) (fun _ => ?_))
          | (refine v_nil ?_)
          | (refine vw_seq ?_)
          | (refine vw_region ?_)
          | (refine vc_true rfl ?_)
          | (refine vc_false rfl ?_)
          | (refine vcd_true rfl (by decide) ?_)
          | (refine vcd_false rfl (by decide) ?_)
          | (refine vcd_true rfl (by simp only [hq, hr, decide_eq_true_eq, decide_eq_false_iff_not, Bool.not_eq_eq_eq_not, Bool.not_true, Bool.not_false, bne_iff_ne, bne_eq_false_iff_eq, beq_iff_eq, beq_eq_false_iff_ne, ne_eq]; omega) ?_)
          | (refine vcd_false rfl (by simp only [hq, hr, decide_eq_true_eq, decide_eq_false_iff_not, Bool.not_eq_eq_eq_not, Bool.not_true, Bool.not_false, bne_iff_ne, bne_eq_false_iff_eq, beq_iff_eq, beq_eq_false_iff_ne, ne_eq]; omega) ?_)
          | (refine vc_part rfl (fun _ => ?_) (fun _ => ?_))
          | (refine vw_block ?_)
          | (refine q_then ?_)
          | (refine q_norm ?_)
          | (refine q_here ?_)
          | (refine q_out rfl ?_)
          | (refine q_thenx ?_)
          | (refine q_thenr ?_)
          | (refine q_ret ?_)
          | (refine vw_skip ?_)
          | (refine vw_exit ?_)
          | (refine vw_ret ?_)
        all_goals
          refine ⟨.inr rfl, Eq.trans (b := some (.bool (1 == 1 && (t + o == IntKind.i64.wrap (t + o) && true)))) rfl (congrArg some ?_)⟩
          rw [hr]; simp
end Go.Proofs.Ytjiajajifgfmjaa
