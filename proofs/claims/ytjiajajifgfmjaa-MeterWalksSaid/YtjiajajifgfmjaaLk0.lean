/- The calls of package lock, what they give. -/
import Derived.Test.YtjiajajifgfmjaaVmN
import Derived.Test.YtjiajajifgfmjaaVmT
import Derived.Test.YtjiajajifgfmjaaVmC0
import Derived.IntWalk
namespace Go.Proofs.Ytjiajajifgfmjaa
open Go Vm IntWalk
set_option linter.unusedVariables false
set_option linter.unusedSimpArgs false
theorem open_fun (f u t : Int) : Fun Try.prog 14 [.agg #[.int .i64 f, .int .i64 u], .int .i64 t] (.bool (decide (u ≤ t))) := by
  refine fun_of_vw tab Try.func14 rfl rfl (by simp [Try.f14]) (lrel_cons (vrel_agg (lrel_cons (.int _ _) (lrel_cons (.int _ _) lrel_nil))) (lrel_cons (.int _ _) lrel_nil)) (.bool _) ?_
  repeat' first
    | (refine vq_op tab rfl rfl rfl rfl ?_)
    | (refine vq_op tab ⟨_, _, rfl, rfl, rfl⟩ rfl rfl rfl ?_)
    | (refine vn_op tab rfl rfl rfl rfl ?_)
    | (refine vs_op tab rfl rfl rfl ?_)
    | (refine vk_op ⟨_, _, rfl, rfl, rfl⟩ rfl rfl ?_)
    | (refine vku_op rfl rfl rfl rfl rfl ?_)
    | (refine vn_op tab ⟨_, _, rfl, rfl, rfl⟩ rfl rfl rfl ?_)
    | (refine vgd_op true rfl rfl rfl (by decide) ?_)
    | (refine vgd_op false rfl rfl rfl (by decide) ?_)
    | (refine vg_op rfl rfl rfl (fun _ => ?_) (fun _ => ?_))
    | (refine v_nil ?_)
    | (refine vw_seq ?_)
    | (refine vw_region ?_)
    | (refine vw_draw mixed ?_)
    | (refine dq_op tab rfl rfl rfl rfl ?_)
    | (refine dq_op tab ⟨_, _, rfl, rfl, rfl⟩ rfl rfl rfl ?_)
    | (refine dn_op tab rfl rfl rfl rfl ?_)
    | (refine ds_op tab rfl rfl rfl rfl ?_)
    | (refine dk_op ⟨_, _, rfl, rfl, rfl⟩ rfl ?_)
    | (refine dku_op rfl rfl rfl rfl ?_)
    | (refine dn_op tab ⟨_, _, rfl, rfl, rfl⟩ rfl rfl rfl ?_)
    | (refine ds_op tab ⟨_, _, rfl, rfl, rfl⟩ rfl rfl rfl ?_)
    | (refine dgd_op true rfl rfl rfl (by decide) ?_)
    | (refine dgd_op false rfl rfl rfl (by decide) ?_)
    | (refine dg_op rfl rfl rfl (fun _ => ?_) (fun _ => ?_))
    | (refine vd_nil (by kernel_rfl) ?_)
    | (refine vc_true rfl ?_)
    | (refine vc_false rfl ?_)
    | (refine vcd_true rfl (by decide) ?_)
    | (refine vcd_false rfl (by decide) ?_)
    | (refine vc_part rfl (fun _ => ?_) (fun _ => ?_))
    | (refine vw_block ?_)
    | (refine q_then ?_)
    | (refine q_norm ?_)
    | (refine q_here ?_)
    | (refine q_out rfl ?_)
    | (refine q_thenx ?_)
    | (refine q_thenr ?_)
    | (refine q_ret ?_)
    | (refine vw_skip ?_)
    | (refine vw_exit ?_)
    | (refine vw_ret ?_)
  exact ⟨.inr rfl, rfl⟩
theorem tickmay_fun (t : Int) : Fun Try.prog 22 [.int .i64 t] (.bool (decide (0 ≤ t ∧ t ≤ 1048575))) := by
  refine fun_of_vw tab Try.func22 rfl rfl (by simp [Try.f22]) (lrel_cons (.int _ _) lrel_nil) (.bool _) ?_
  repeat' first
    | (refine vq_op tab rfl rfl rfl rfl ?_)
    | (refine vq_op tab ⟨_, _, rfl, rfl, rfl⟩ rfl rfl rfl ?_)
    | (refine vn_op tab rfl rfl rfl rfl ?_)
    | (refine vs_op tab rfl rfl rfl ?_)
    | (refine vk_op ⟨_, _, rfl, rfl, rfl⟩ rfl rfl ?_)
    | (refine vku_op rfl rfl rfl rfl rfl ?_)
    | (refine vn_op tab ⟨_, _, rfl, rfl, rfl⟩ rfl rfl rfl ?_)
    | (refine vgd_op true rfl rfl rfl (by decide) ?_)
    | (refine vgd_op false rfl rfl rfl (by decide) ?_)
    | (refine vg_op rfl rfl rfl (fun _ => ?_) (fun _ => ?_))
    | (refine v_nil ?_)
    | (refine vw_seq ?_)
    | (refine vw_region ?_)
    | (refine vw_draw mixed ?_)
    | (refine dq_op tab rfl rfl rfl rfl ?_)
    | (refine dq_op tab ⟨_, _, rfl, rfl, rfl⟩ rfl rfl rfl ?_)
    | (refine dn_op tab rfl rfl rfl rfl ?_)
    | (refine ds_op tab rfl rfl rfl rfl ?_)
    | (refine dk_op ⟨_, _, rfl, rfl, rfl⟩ rfl ?_)
    | (refine dku_op rfl rfl rfl rfl ?_)
    | (refine dn_op tab ⟨_, _, rfl, rfl, rfl⟩ rfl rfl rfl ?_)
    | (refine ds_op tab ⟨_, _, rfl, rfl, rfl⟩ rfl rfl rfl ?_)
    | (refine dgd_op true rfl rfl rfl (by decide) ?_)
    | (refine dgd_op false rfl rfl rfl (by decide) ?_)
    | (refine dg_op rfl rfl rfl (fun _ => ?_) (fun _ => ?_))
    | (refine vd_nil (by kernel_rfl) ?_)
    | (refine vc_true rfl ?_)
    | (refine vc_false rfl ?_)
    | (refine vcd_true rfl (by decide) ?_)
    | (refine vcd_false rfl (by decide) ?_)
    | (refine vc_part rfl (fun _ => ?_) (fun _ => ?_))
    | (refine vw_block ?_)
    | (refine q_then ?_)
    | (refine q_norm ?_)
    | (refine q_here ?_)
    | (refine q_out rfl ?_)
    | (refine q_thenx ?_)
    | (refine q_thenr ?_)
    | (refine q_ret ?_)
    | (refine vw_skip ?_)
    | (refine vw_exit ?_)
    | (refine vw_ret ?_)
  all_goals
    refine ⟨.inr rfl, Eq.trans (b := some _) rfl (congrArg some ?_)⟩
    simp_all <;> omega
theorem num_fun (e : Int) : Fun Try.prog 13 [.int .i64 e] (.int .i64 e) := by
  refine fun_of_vw tab Try.func13 rfl rfl (by simp [Try.f13]) (lrel_cons (.int _ _) lrel_nil) (.int _ _) ?_
  repeat' first
    | (refine vq_op tab rfl rfl rfl rfl ?_)
    | (refine vq_op tab ⟨_, _, rfl, rfl, rfl⟩ rfl rfl rfl ?_)
    | (refine vn_op tab rfl rfl rfl rfl ?_)
    | (refine vs_op tab rfl rfl rfl ?_)
    | (refine vk_op ⟨_, _, rfl, rfl, rfl⟩ rfl rfl ?_)
    | (refine vku_op rfl rfl rfl rfl rfl ?_)
    | (refine vn_op tab ⟨_, _, rfl, rfl, rfl⟩ rfl rfl rfl ?_)
    | (refine vgd_op true rfl rfl rfl (by decide) ?_)
    | (refine vgd_op false rfl rfl rfl (by decide) ?_)
    | (refine vg_op rfl rfl rfl (fun _ => ?_) (fun _ => ?_))
    | (refine v_nil ?_)
    | (refine vw_seq ?_)
    | (refine vw_region ?_)
    | (refine vw_draw mixed ?_)
    | (refine dq_op tab rfl rfl rfl rfl ?_)
    | (refine dq_op tab ⟨_, _, rfl, rfl, rfl⟩ rfl rfl rfl ?_)
    | (refine dn_op tab rfl rfl rfl rfl ?_)
    | (refine ds_op tab rfl rfl rfl rfl ?_)
    | (refine dk_op ⟨_, _, rfl, rfl, rfl⟩ rfl ?_)
    | (refine dku_op rfl rfl rfl rfl ?_)
    | (refine dn_op tab ⟨_, _, rfl, rfl, rfl⟩ rfl rfl rfl ?_)
    | (refine ds_op tab ⟨_, _, rfl, rfl, rfl⟩ rfl rfl rfl ?_)
    | (refine dgd_op true rfl rfl rfl (by decide) ?_)
    | (refine dgd_op false rfl rfl rfl (by decide) ?_)
    | (refine dg_op rfl rfl rfl (fun _ => ?_) (fun _ => ?_))
    | (refine vd_nil (by kernel_rfl) ?_)
    | (refine vc_true rfl ?_)
    | (refine vc_false rfl ?_)
    | (refine vcd_true rfl (by decide) ?_)
    | (refine vcd_false rfl (by decide) ?_)
    | (refine vc_part rfl (fun _ => ?_) (fun _ => ?_))
    | (refine vw_block ?_)
    | (refine q_then ?_)
    | (refine q_norm ?_)
    | (refine q_here ?_)
    | (refine q_out rfl ?_)
    | (refine q_thenx ?_)
    | (refine q_thenr ?_)
    | (refine q_ret ?_)
    | (refine vw_skip ?_)
    | (refine vw_exit ?_)
    | (refine vw_ret ?_)
  all_goals
    refine ⟨.inr rfl, Eq.trans (b := some _) rfl (congrArg some ?_)⟩
    simp_all
def failBad (f u t m o : Int) : Prop := f < 0 ∨ 8 < f ∨ u < 0 ∨ 1114111 < u ∨ ¬ (0 ≤ t ∧ t ≤ 1048575) ∨ m < 1 ∨ 8 < m ∨ o < 1 ∨ 65536 < o ∨ t < u
instance (f u t m o : Int) : Decidable (failBad f u t m o) := by unfold failBad; infer_instance
def failF (f m : Int) : Int := (if m ≤ f then 0 else f) + 1
def failR (f u t m o : Int) : Int × Int × Int := if failBad f u t m o then (0, 0, 1300) else (failF f m, if failF f m = m then t + o else u, 0)
theorem failR_bad {f u t m o : Int} (h : failBad f u t m o) : failR f u t m o = (0, 0, 1300) := if_pos h
set_option maxHeartbeats 4000000 in
theorem fail_fun (f u t m o : Int) : Fun Try.prog 11 [.agg #[.int .i64 f, .int .i64 u], .int .i64 t, .int .i64 m, .int .i64 o]
    (.tuple #[.agg #[.int .i64 (failR f u t m o).1, .int .i64 (failR f u t m o).2.1], .int .i64 (failR f u t m o).2.2]) := by
  refine fun_of_vw tab Try.func11 rfl rfl (by simp [Try.f11])
    (lrel_cons (vrel_agg (lrel_cons (.int _ _) (lrel_cons (.int _ _) lrel_nil))) (lrel_cons (.int _ _) (lrel_cons (.int _ _) (lrel_cons (.int _ _) lrel_nil))))
    (vrel_tuple (lrel_cons (vrel_agg (lrel_cons (.int _ _) (lrel_cons (.int _ _) lrel_nil))) (lrel_cons (.int _ _) lrel_nil))) ?_
  repeat' first
    | (refine vq_op tab rfl rfl rfl rfl ?_)
    | (refine vq_op tab ⟨_, _, rfl, rfl, rfl⟩ rfl rfl rfl ?_)
    | (refine vn_op tab rfl rfl rfl rfl ?_)
    | (refine vf_op rfl rfl rfl rfl rfl rfl callable_14 (open_fun _ _ _) ?_)
    | (refine vf_op ⟨_, _, rfl, rfl, rfl⟩ rfl rfl rfl rfl rfl callable_14 (open_fun _ _ _) ?_)
    | (refine vf_op rfl rfl rfl rfl rfl rfl callable_22 (tickmay_fun _) ?_)
    | (refine vf_op ⟨_, _, rfl, rfl, rfl⟩ rfl rfl rfl rfl rfl callable_22 (tickmay_fun _) ?_)
    | (refine vs_op tab rfl rfl rfl ?_)
    | (refine vk_op ⟨_, _, rfl, rfl, rfl⟩ rfl rfl ?_)
    | (refine vku_op rfl rfl rfl rfl rfl ?_)
    | (refine vn_op tab ⟨_, _, rfl, rfl, rfl⟩ rfl rfl rfl ?_)
    | (refine vgd_op true rfl rfl rfl (by decide) ?_)
    | (refine vgd_op false rfl rfl rfl (by decide) ?_)
    | (refine vg_op rfl rfl rfl (fun _ => ?_) (fun _ => ?_))
    | (refine v_nil ?_)
    | (refine vw_seq ?_)
    | (refine vw_region ?_)
    | (refine vw_draw mixed ?_)
    | (refine dq_op tab rfl rfl rfl rfl ?_)
    | (refine dq_op tab ⟨_, _, rfl, rfl, rfl⟩ rfl rfl rfl ?_)
    | (refine df_op rfl rfl rfl rfl rfl callable_14 (open_fun _ _ _) ?_)
    | (refine df_op ⟨_, _, rfl, rfl, rfl⟩ rfl rfl rfl rfl callable_14 (open_fun _ _ _) ?_)
    | (refine df_op rfl rfl rfl rfl rfl callable_22 (tickmay_fun _) ?_)
    | (refine df_op ⟨_, _, rfl, rfl, rfl⟩ rfl rfl rfl rfl callable_22 (tickmay_fun _) ?_)
    | (refine dn_op tab rfl rfl rfl rfl ?_)
    | (refine ds_op tab rfl rfl rfl rfl ?_)
    | (refine dk_op ⟨_, _, rfl, rfl, rfl⟩ rfl ?_)
    | (refine dku_op rfl rfl rfl rfl ?_)
    | (refine dn_op tab ⟨_, _, rfl, rfl, rfl⟩ rfl rfl rfl ?_)
    | (refine ds_op tab ⟨_, _, rfl, rfl, rfl⟩ rfl rfl rfl ?_)
    | (refine dgd_op true rfl rfl rfl (by decide) ?_)
    | (refine dgd_op false rfl rfl rfl (by decide) ?_)
    | (refine dg_op rfl rfl rfl (fun _ => ?_) (fun _ => ?_))
    | (refine vd_nil (by kernel_rfl) ?_)
    | (refine vc_true rfl ?_)
    | (refine vc_false rfl ?_)
    | (refine vcd_true rfl (by decide) ?_)
    | (refine vcd_false rfl (by decide) ?_)
    | (refine vc_part rfl (fun _ => ?_) (fun _ => ?_))
    | (refine vw_block ?_)
    | (refine q_then ?_)
    | (refine q_norm ?_)
    | (refine q_here ?_)
    | (refine q_out rfl ?_)
    | (refine q_thenx ?_)
    | (refine q_thenr ?_)
    | (refine q_ret ?_)
    | (refine vw_skip ?_)
    | (refine vw_exit ?_)
    | (refine vw_ret ?_)
  all_goals
    refine ⟨.inr rfl, Eq.trans (b := some _) rfl (congrArg some ?_)⟩
  all_goals
    simp only [decide_eq_true_eq, decide_eq_false_iff_not, Bool.not_eq_eq_eq_not, Bool.not_true, Bool.not_false, beq_iff_eq, beq_eq_false_iff_ne, ne_eq, i64_in 1 (by omega), Int.zero_add] at *
    first
      | (rw [failR_bad (by unfold failBad; omega)]; rfl)
      | (have hw1 := i64_in (f + 1) (by omega)
         have hw2 := i64_in (t + o) (by omega)
         simp only [hw1, hw2] at *
         rw [failR, if_neg (by unfold failBad; omega), failF]
         simp [ti23, setCells, splice, Value.cells, *]
         done)
theorem fail_at {f u t m o a b c : Int} (h : failR f u t m o = (a, b, c)) : Fun Try.prog 11 [.agg #[.int .i64 f, .int .i64 u], .int .i64 t, .int .i64 m, .int .i64 o] (.tuple #[.agg #[.int .i64 a, .int .i64 b], .int .i64 c]) := by
  have := fail_fun f u t m o
  rw [h] at this
  exact this
theorem fail_bad {f u t m o : Int} (h : failBad f u t m o) : Fun Try.prog 11 [.agg #[.int .i64 f, .int .i64 u], .int .i64 t, .int .i64 m, .int .i64 o] (.tuple #[.agg #[.int .i64 0, .int .i64 0], .int .i64 1300]) :=
  fail_at (failR_bad h)
end Go.Proofs.Ytjiajajifgfmjaa
