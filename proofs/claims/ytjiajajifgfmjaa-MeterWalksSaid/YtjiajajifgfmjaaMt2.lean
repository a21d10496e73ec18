/- Package meter's Over and Deliver, and the document's. -/
import Derived.Test.YtjiajajifgfmjaaMt1
namespace Go.Proofs.Ytjiajajifgfmjaa
open Go Vm IntWalk
set_option linter.unusedVariables false
set_option linter.unusedSimpArgs false
def overBad (s l b t i a : Int) : Prop := meterBad s l b ∨ noNum t ∨ noNum i ∨ noNum a
instance (s l b t i a : Int) : Decidable (overBad s l b t i a) := by unfold overBad; infer_instance
def overR (s l b t i a : Int) : Int × Bool := if overBad s l b t i a then (0, false) else if a < t - s then (2, true) else if i < t - l then (1, true) else (0, false)
theorem over_bad {s l b t i a : Int} (h : overBad s l b t i a) : overR s l b t i a = (0, false) := if_pos h
theorem over_abs {s l b t i a : Int} (h : ¬ overBad s l b t i a ∧ a < t - s) : overR s l b t i a = (2, true) := by rw [overR, if_neg h.1, if_pos h.2]
theorem over_idle {s l b t i a : Int} (h : ¬ overBad s l b t i a ∧ ¬ a < t - s ∧ i < t - l) : overR s l b t i a = (1, true) := by rw [overR, if_neg h.1, if_neg h.2.1, if_pos h.2.2]
theorem over_not {s l b t i a : Int} (h : ¬ overBad s l b t i a ∧ ¬ a < t - s ∧ ¬ i < t - l) : overR s l b t i a = (0, false) := by rw [overR, if_neg h.1, if_neg h.2.1, if_neg h.2.2]
set_option maxHeartbeats 4000000 in
theorem over_fun (s l b t i a : Int) : Fun Try.prog 17 [.agg #[.int .i64 s, .int .i64 l, .int .i64 b], .int .i64 t, .int .i64 i, .int .i64 a] (.tuple #[.int .i64 (overR s l b t i a).1, .bool (overR s l b t i a).2]) := by
  refine fun_of_vw tab Try.func17 rfl rfl (by simp [Try.f17]) (lrel_cons (vrel_agg (lrel_cons (.int _ _) (lrel_cons (.int _ _) (lrel_cons (.int _ _) lrel_nil)))) (lrel_cons (.int _ _) (lrel_cons (.int _ _) (lrel_cons (.int _ _) lrel_nil))))
    (vrel_tuple (lrel_cons (.int _ _) (lrel_cons (.bool _) lrel_nil))) ?_
  repeat' first
    | (refine vq_op tab rfl rfl rfl rfl ?_)
    | (refine vq_op tab ⟨_, _, rfl, rfl, rfl⟩ rfl rfl rfl ?_)
    | (refine vn_op tab rfl rfl rfl rfl ?_)
    | (refine vr_op rfl rfl rfl rfl rfl rfl callable_25 (nums3_tri rfl) ?_)
    | (refine vr_op ⟨_, _, rfl, rfl, rfl⟩ rfl rfl rfl rfl rfl callable_25 (nums3_tri rfl) ?_)
    | (refine vf_op rfl rfl rfl rfl rfl rfl callable_24 (may_fun _ _ _) ?_)
    | (refine vf_op ⟨_, _, rfl, rfl, rfl⟩ rfl rfl rfl rfl rfl callable_24 (may_fun _ _ _) ?_)
    | (refine vs_op tab rfl rfl rfl ?_)
    | (refine vk_op ⟨_, _, rfl, rfl, rfl⟩ rfl rfl ?_)
    | (refine vku_op rfl rfl rfl rfl rfl ?_)
    | (refine vn_op tab ⟨_, _, rfl, rfl, rfl⟩ rfl rfl rfl ?_)
    | (refine vgd_op true rfl rfl rfl (by decide) ?_)
    | (refine vgd_op false rfl rfl rfl (by decide) ?_)
    | (refine vg_op rfl rfl rfl (fun _ => ?_) (fun _ => ?_))
    | (refine v_nil ?_)
    | (refine vw_seq ?_)
    | (refine vw_region ?_)
    | (refine vw_draw mixed ?_)
    | (refine dq_op tab rfl rfl rfl rfl ?_)
    | (refine dq_op tab ⟨_, _, rfl, rfl, rfl⟩ rfl rfl rfl ?_)
    | (refine dr_op rfl rfl rfl rfl rfl callable_25 (nums3_tri rfl) ?_)
    | (refine dr_op ⟨_, _, rfl, rfl, rfl⟩ rfl rfl rfl rfl callable_25 (nums3_tri rfl) ?_)
    | (refine df_op rfl rfl rfl rfl rfl callable_24 (may_fun _ _ _) ?_)
    | (refine df_op ⟨_, _, rfl, rfl, rfl⟩ rfl rfl rfl rfl callable_24 (may_fun _ _ _) ?_)
    | (refine dn_op tab rfl rfl rfl rfl ?_)
    | (refine ds_op tab rfl rfl rfl rfl ?_)
    | (refine dk_op ⟨_, _, rfl, rfl, rfl⟩ rfl ?_)
    | (refine dku_op rfl rfl rfl rfl ?_)
    | (refine dn_op tab ⟨_, _, rfl, rfl, rfl⟩ rfl rfl rfl ?_)
    | (refine ds_op tab ⟨_, _, rfl, rfl, rfl⟩ rfl rfl rfl ?_)
    | (refine dgd_op true rfl rfl rfl (by decide) ?_)
    | (refine dgd_op false rfl rfl rfl (by decide) ?_)
    | (refine dg_op rfl rfl rfl (fun _ => ?_) (fun _ => ?_))
    | (refine vd_nil (by kernel_rfl) ?_)
    | (refine vc_true rfl ?_)
    | (refine vc_false rfl ?_)
    | (refine vcd_true rfl (by decide) ?_)
    | (refine vcd_false rfl (by decide) ?_)
    | (refine vc_part rfl (fun _ => ?_) (fun _ => ?_))
    | (refine vw_block ?_)
    | (refine q_then ?_)
    | (refine q_norm ?_)
    | (refine q_here ?_)
    | (refine q_out rfl ?_)
    | (refine q_thenx ?_)
    | (refine q_thenr ?_)
    | (refine q_ret ?_)
    | (refine vw_skip ?_)
    | (refine vw_exit ?_)
    | (refine vw_ret ?_)
  all_goals
    refine ⟨.inr rfl, Eq.trans (b := some _) rfl (congrArg some ?_)⟩
    simp only [Bool.not_eq_eq_eq_not, Bool.not_true, Bool.not_false, decide_eq_true_eq, decide_eq_false_iff_not, Bool.false_eq_true, Bool.true_eq_false, false_iff, true_iff] at *
    try simp only [meterBad, noNum, IntKind.wrap_i64] at *
    first
      | (rw [over_bad (by simp only [overBad, meterBad, noNum]; omega)]; done)
      | (rw [over_abs (by simp only [overBad, meterBad, noNum]; omega)]; done)
      | (rw [over_idle (by simp only [overBad, meterBad, noNum]; omega)]; done)
      | (rw [over_not (by simp only [overBad, meterBad, noNum]; omega)]; done)
set_option maxHeartbeats 4000000 in
theorem refover_fun (s l b t i a : Int) : Fun Try.prog 18 [.agg #[.int .i64 s, .int .i64 l, .int .i64 b], .int .i64 t, .int .i64 i, .int .i64 a] (.tuple #[.int .i64 (overR s l b t i a).1, .bool (overR s l b t i a).2]) := by
  refine fun_of_vw tab Try.func18 rfl rfl (by simp [Try.f18]) (lrel_cons (vrel_agg (lrel_cons (.int _ _) (lrel_cons (.int _ _) (lrel_cons (.int _ _) lrel_nil)))) (lrel_cons (.int _ _) (lrel_cons (.int _ _) (lrel_cons (.int _ _) lrel_nil))))
    (vrel_tuple (lrel_cons (.int _ _) (lrel_cons (.bool _) lrel_nil))) ?_
  repeat' first
    | (refine vq_op tab rfl rfl rfl rfl ?_)
    | (refine vq_op tab ⟨_, _, rfl, rfl, rfl⟩ rfl rfl rfl ?_)
    | (refine vn_op tab rfl rfl rfl rfl ?_)
    | (refine vf_op rfl rfl rfl rfl rfl rfl callable_27 (refnum_is _) ?_)
    | (refine vf_op ⟨_, _, rfl, rfl, rfl⟩ rfl rfl rfl rfl rfl callable_27 (refnum_is _) ?_)
    | (refine vf_op rfl rfl rfl rfl rfl rfl callable_26 (refmay_fun _ _ _) ?_)
    | (refine vf_op ⟨_, _, rfl, rfl, rfl⟩ rfl rfl rfl rfl rfl callable_26 (refmay_fun _ _ _) ?_)
    | (refine vs_op tab rfl rfl rfl ?_)
    | (refine vk_op ⟨_, _, rfl, rfl, rfl⟩ rfl rfl ?_)
    | (refine vku_op rfl rfl rfl rfl rfl ?_)
    | (refine vn_op tab ⟨_, _, rfl, rfl, rfl⟩ rfl rfl rfl ?_)
    | (refine vgd_op true rfl rfl rfl (by decide) ?_)
    | (refine vgd_op false rfl rfl rfl (by decide) ?_)
    | (refine vg_op rfl rfl rfl (fun _ => ?_) (fun _ => ?_))
    | (refine v_nil ?_)
    | (refine vw_seq ?_)
    | (refine vw_region ?_)
    | (refine vw_draw mixed ?_)
    | (refine dq_op tab rfl rfl rfl rfl ?_)
    | (refine dq_op tab ⟨_, _, rfl, rfl, rfl⟩ rfl rfl rfl ?_)
    | (refine df_op rfl rfl rfl rfl rfl callable_27 (refnum_is _) ?_)
    | (refine df_op ⟨_, _, rfl, rfl, rfl⟩ rfl rfl rfl rfl callable_27 (refnum_is _) ?_)
    | (refine df_op rfl rfl rfl rfl rfl callable_26 (refmay_fun _ _ _) ?_)
    | (refine df_op ⟨_, _, rfl, rfl, rfl⟩ rfl rfl rfl rfl callable_26 (refmay_fun _ _ _) ?_)
    | (refine dn_op tab rfl rfl rfl rfl ?_)
    | (refine ds_op tab rfl rfl rfl rfl ?_)
    | (refine dk_op ⟨_, _, rfl, rfl, rfl⟩ rfl ?_)
    | (refine dku_op rfl rfl rfl rfl ?_)
    | (refine dn_op tab ⟨_, _, rfl, rfl, rfl⟩ rfl rfl rfl ?_)
    | (refine ds_op tab ⟨_, _, rfl, rfl, rfl⟩ rfl rfl rfl ?_)
    | (refine dgd_op true rfl rfl rfl (by decide) ?_)
    | (refine dgd_op false rfl rfl rfl (by decide) ?_)
    | (refine dg_op rfl rfl rfl (fun _ => ?_) (fun _ => ?_))
    | (refine vd_nil (by kernel_rfl) ?_)
    | (refine vc_true rfl ?_)
    | (refine vc_false rfl ?_)
    | (refine vcd_true rfl (by decide) ?_)
    | (refine vcd_false rfl (by decide) ?_)
    | (refine vc_part rfl (fun _ => ?_) (fun _ => ?_))
    | (refine vw_block ?_)
    | (refine q_then ?_)
    | (refine q_norm ?_)
    | (refine q_here ?_)
    | (refine q_out rfl ?_)
    | (refine q_thenx ?_)
    | (refine q_thenr ?_)
    | (refine q_ret ?_)
    | (refine vw_skip ?_)
    | (refine vw_exit ?_)
    | (refine vw_ret ?_)
  all_goals
    refine ⟨.inr rfl, Eq.trans (b := some _) rfl (congrArg some ?_)⟩
    simp only [Bool.not_eq_eq_eq_not, Bool.not_true, Bool.not_false, decide_eq_true_eq, decide_eq_false_iff_not, Bool.false_eq_true, Bool.true_eq_false, false_iff, true_iff] at *
    try simp only [meterBad, noNum, IntKind.wrap_i64] at *
    first
      | (rw [over_bad (by simp only [overBad, meterBad, noNum]; omega)]; done)
      | (rw [over_abs (by simp only [overBad, meterBad, noNum]; omega)]; done)
      | (rw [over_idle (by simp only [overBad, meterBad, noNum]; omega)]; done)
      | (rw [over_not (by simp only [overBad, meterBad, noNum]; omega)]; done)
def delBad (s l b t y u q : Int) : Prop := meterBad s l b ∨ noNum t ∨ noNum y ∨ noNum u ∨ noNum q ∨ t < l ∨ 64 < y
instance (s l b t y u q : Int) : Decidable (delBad s l b t y u q) := by unfold delBad; infer_instance
def delR (s l b t y u q : Int) : Int × Int × Int × Bool × Int := if delBad s l b t y u q then (0, 0, 0, false, 1900) else if q ≤ u ∨ 1073741823 - b < y then (0, 0, 0, false, 0) else (s, t, b + y, true, 0)
theorem del_bad {s l b t y u q : Int} (h : delBad s l b t y u q) : delR s l b t y u q = (0, 0, 0, false, 1900) := if_pos h
theorem del_no {s l b t y u q : Int} (h : ¬ delBad s l b t y u q ∧ (q ≤ u ∨ 1073741823 - b < y)) : delR s l b t y u q = (0, 0, 0, false, 0) := by rw [delR, if_neg h.1, if_pos h.2]
theorem del_yes {s l b t y u q : Int} (h : ¬ delBad s l b t y u q ∧ ¬ (q ≤ u ∨ 1073741823 - b < y)) : delR s l b t y u q = (s, t, b + y, true, 0) := by rw [delR, if_neg h.1, if_neg h.2]
def delV (r : Int × Int × Int × Bool × Int) : Value := .tuple #[.agg #[.int .i64 r.1, .int .i64 r.2.1, .int .i64 r.2.2.1], .bool r.2.2.2.1, .int .i64 r.2.2.2.2]
theorem vrel_delV (r : Int × Int × Int × Bool × Int) {ρ : Ren} : VRel ρ (delV r) (delV r) := vrel_tuple (lrel_cons (vrel_agg (lrel_cons (.int _ _) (lrel_cons (.int _ _) (lrel_cons (.int _ _) lrel_nil)))) (lrel_cons (.bool _) (lrel_cons (.int _ _) lrel_nil)))
set_option maxHeartbeats 8000000 in
theorem del_fun (s l b t y u q : Int) : Fun Try.prog 19 [.agg #[.int .i64 s, .int .i64 l, .int .i64 b], .int .i64 t, .int .i64 y, .int .i64 u, .int .i64 q] (delV (delR s l b t y u q)) := by
  refine fun_of_vw tab Try.func19 rfl rfl (by simp [Try.f19]) (lrel_cons (vrel_agg (lrel_cons (.int _ _) (lrel_cons (.int _ _) (lrel_cons (.int _ _) lrel_nil)))) (lrel_cons (.int _ _) (lrel_cons (.int _ _) (lrel_cons (.int _ _) (lrel_cons (.int _ _) lrel_nil)))))
    (vrel_delV _) ?_
  repeat' first
    | (refine vq_op tab rfl rfl rfl rfl ?_)
    | (refine vq_op tab ⟨_, _, rfl, rfl, rfl⟩ rfl rfl rfl ?_)
    | (refine vn_op tab rfl rfl rfl rfl ?_)
    | (refine vr_op rfl rfl rfl rfl rfl rfl callable_25 (nums4_tri rfl) ?_)
    | (refine vr_op ⟨_, _, rfl, rfl, rfl⟩ rfl rfl rfl rfl rfl callable_25 (nums4_tri rfl) ?_)
    | (refine vf_op rfl rfl rfl rfl rfl rfl callable_24 (may_fun _ _ _) ?_)
    | (refine vf_op ⟨_, _, rfl, rfl, rfl⟩ rfl rfl rfl rfl rfl callable_24 (may_fun _ _ _) ?_)
    | (refine vs_op tab rfl rfl rfl ?_)
    | (refine vk_op ⟨_, _, rfl, rfl, rfl⟩ rfl rfl ?_)
    | (refine vku_op rfl rfl rfl rfl rfl ?_)
    | (refine vn_op tab ⟨_, _, rfl, rfl, rfl⟩ rfl rfl rfl ?_)
    | (refine vgd_op true rfl rfl rfl (by decide) ?_)
    | (refine vgd_op false rfl rfl rfl (by decide) ?_)
    | (refine vg_op rfl rfl rfl (fun _ => ?_) (fun _ => ?_))
    | (refine v_nil ?_)
    | (refine vw_seq ?_)
    | (refine vw_region ?_)
    | (refine vw_draw mixed ?_)
    | (refine dq_op tab rfl rfl rfl rfl ?_)
    | (refine dq_op tab ⟨_, _, rfl, rfl, rfl⟩ rfl rfl rfl ?_)
    | (refine dr_op rfl rfl rfl rfl rfl callable_25 (nums4_tri rfl) ?_)
    | (refine dr_op ⟨_, _, rfl, rfl, rfl⟩ rfl rfl rfl rfl callable_25 (nums4_tri rfl) ?_)
    | (refine df_op rfl rfl rfl rfl rfl callable_24 (may_fun _ _ _) ?_)
    | (refine df_op ⟨_, _, rfl, rfl, rfl⟩ rfl rfl rfl rfl callable_24 (may_fun _ _ _) ?_)
    | (refine dn_op tab rfl rfl rfl rfl ?_)
    | (refine ds_op tab rfl rfl rfl rfl ?_)
    | (refine dk_op ⟨_, _, rfl, rfl, rfl⟩ rfl ?_)
    | (refine dku_op rfl rfl rfl rfl ?_)
    | (refine dn_op tab ⟨_, _, rfl, rfl, rfl⟩ rfl rfl rfl ?_)
    | (refine ds_op tab ⟨_, _, rfl, rfl, rfl⟩ rfl rfl rfl ?_)
    | (refine dgd_op true rfl rfl rfl (by decide) ?_)
    | (refine dgd_op false rfl rfl rfl (by decide) ?_)
    | (refine dg_op rfl rfl rfl (fun _ => ?_) (fun _ => ?_))
    | (refine vd_nil (by kernel_rfl) ?_)
    | (refine vc_true rfl ?_)
    | (refine vc_false rfl ?_)
    | (refine vcd_true rfl (by decide) ?_)
    | (refine vcd_false rfl (by decide) ?_)
    | (refine vc_part rfl (fun _ => ?_) (fun _ => ?_))
    | (refine vw_block ?_)
    | (refine q_then ?_)
    | (refine q_norm ?_)
    | (refine q_here ?_)
    | (refine q_out rfl ?_)
    | (refine q_thenx ?_)
    | (refine q_thenr ?_)
    | (refine q_ret ?_)
    | (refine vw_skip ?_)
    | (refine vw_exit ?_)
    | (refine vw_ret ?_)
  all_goals
    refine ⟨.inr rfl, Eq.trans (b := some _) rfl (congrArg some ?_)⟩
    simp only [Bool.not_eq_eq_eq_not, Bool.not_true, Bool.not_false, decide_eq_true_eq, decide_eq_false_iff_not, Bool.false_eq_true, Bool.true_eq_false, false_iff, true_iff] at *
    try simp only [meterBad, noNum] at *
    first
      | (rw [del_bad (by simp only [delBad, meterBad, noNum]; omega)]; rfl)
      | (rw [i64_in (1073741823 - y) (by omega)] at *; rw [del_no (by simp only [delBad, meterBad, noNum]; omega)]; rfl)
      | (rw [del_no (by simp only [delBad, meterBad, noNum]; omega)]; rfl)
      | (rw [i64_in (1073741823 - y) (by omega)] at *; rw [del_yes (by simp only [delBad, meterBad, noNum]; omega), i64_in (b + y) (by omega)]; rfl)
set_option maxHeartbeats 8000000 in
theorem refdel_fun (s l b t y u q : Int) : Fun Try.prog 20 [.agg #[.int .i64 s, .int .i64 l, .int .i64 b], .int .i64 t, .int .i64 y, .int .i64 u, .int .i64 q] (delV (delR s l b t y u q)) := by
  refine fun_of_vw tab Try.func20 rfl rfl (by simp [Try.f20]) (lrel_cons (vrel_agg (lrel_cons (.int _ _) (lrel_cons (.int _ _) (lrel_cons (.int _ _) lrel_nil)))) (lrel_cons (.int _ _) (lrel_cons (.int _ _) (lrel_cons (.int _ _) (lrel_cons (.int _ _) lrel_nil)))))
    (vrel_delV _) ?_
  repeat' first
    | (refine vq_op tab rfl rfl rfl rfl ?_)
    | (refine vq_op tab ⟨_, _, rfl, rfl, rfl⟩ rfl rfl rfl ?_)
    | (refine vn_op tab rfl rfl rfl rfl ?_)
    | (refine vf_op rfl rfl rfl rfl rfl rfl callable_27 (refnum_is _) ?_)
    | (refine vf_op ⟨_, _, rfl, rfl, rfl⟩ rfl rfl rfl rfl rfl callable_27 (refnum_is _) ?_)
    | (refine vf_op rfl rfl rfl rfl rfl rfl callable_26 (refmay_fun _ _ _) ?_)
    | (refine vf_op ⟨_, _, rfl, rfl, rfl⟩ rfl rfl rfl rfl rfl callable_26 (refmay_fun _ _ _) ?_)
    | (refine vs_op tab rfl rfl rfl ?_)
    | (refine vk_op ⟨_, _, rfl, rfl, rfl⟩ rfl rfl ?_)
    | (refine vku_op rfl rfl rfl rfl rfl ?_)
    | (refine vn_op tab ⟨_, _, rfl, rfl, rfl⟩ rfl rfl rfl ?_)
    | (refine vgd_op true rfl rfl rfl (by decide) ?_)
    | (refine vgd_op false rfl rfl rfl (by decide) ?_)
    | (refine vg_op rfl rfl rfl (fun _ => ?_) (fun _ => ?_))
    | (refine v_nil ?_)
    | (refine vw_seq ?_)
    | (refine vw_region ?_)
    | (refine vw_draw mixed ?_)
    | (refine dq_op tab rfl rfl rfl rfl ?_)
    | (refine dq_op tab ⟨_, _, rfl, rfl, rfl⟩ rfl rfl rfl ?_)
    | (refine df_op rfl rfl rfl rfl rfl callable_27 (refnum_is _) ?_)
    | (refine df_op ⟨_, _, rfl, rfl, rfl⟩ rfl rfl rfl rfl callable_27 (refnum_is _) ?_)
    | (refine df_op rfl rfl rfl rfl rfl callable_26 (refmay_fun _ _ _) ?_)
    | (refine df_op ⟨_, _, rfl, rfl, rfl⟩ rfl rfl rfl rfl callable_26 (refmay_fun _ _ _) ?_)
    | (refine dn_op tab rfl rfl rfl rfl ?_)
    | (refine ds_op tab rfl rfl rfl rfl ?_)
    | (refine dk_op ⟨_, _, rfl, rfl, rfl⟩ rfl ?_)
    | (refine dku_op rfl rfl rfl rfl ?_)
    | (refine dn_op tab ⟨_, _, rfl, rfl, rfl⟩ rfl rfl rfl ?_)
    | (refine ds_op tab ⟨_, _, rfl, rfl, rfl⟩ rfl rfl rfl ?_)
    | (refine dgd_op true rfl rfl rfl (by decide) ?_)
    | (refine dgd_op false rfl rfl rfl (by decide) ?_)
    | (refine dg_op rfl rfl rfl (fun _ => ?_) (fun _ => ?_))
    | (refine vd_nil (by kernel_rfl) ?_)
    | (refine vc_true rfl ?_)
    | (refine vc_false rfl ?_)
    | (refine vcd_true rfl (by decide) ?_)
    | (refine vcd_false rfl (by decide) ?_)
    | (refine vc_part rfl (fun _ => ?_) (fun _ => ?_))
    | (refine vw_block ?_)
    | (refine q_then ?_)
    | (refine q_norm ?_)
    | (refine q_here ?_)
    | (refine q_out rfl ?_)
    | (refine q_thenx ?_)
    | (refine q_thenr ?_)
    | (refine q_ret ?_)
    | (refine vw_skip ?_)
    | (refine vw_exit ?_)
    | (refine vw_ret ?_)
  all_goals
    refine ⟨.inr rfl, Eq.trans (b := some _) rfl (congrArg some ?_)⟩
    simp only [Bool.not_eq_eq_eq_not, Bool.not_true, Bool.not_false, decide_eq_true_eq, decide_eq_false_iff_not, Bool.false_eq_true, Bool.true_eq_false, false_iff, true_iff] at *
    try simp only [meterBad, noNum] at *
    first
      | (rw [del_bad (by simp only [delBad, meterBad, noNum]; omega)]; rfl)
      | (rw [i64_in (1073741823 - b) (by omega)] at *; rw [del_no (by simp only [delBad, meterBad, noNum]; omega)]; rfl)
      | (rw [del_no (by simp only [delBad, meterBad, noNum]; omega)]; rfl)
      | (rw [i64_in (1073741823 - b) (by omega)] at *; rw [del_yes (by simp only [delBad, meterBad, noNum]; omega), i64_in (b + y) (by omega)]; rfl)
end Go.Proofs.Ytjiajajifgfmjaa
