/- The calls of package meter, what they give: whole. -/
import Derived.Test.YtjiajajifgfmjaaMt0
namespace Go.Proofs.Ytjiajajifgfmjaa
open Go Vm IntWalk
set_option linter.unusedVariables false
set_option linter.unusedSimpArgs false
def noNum (x : Int) : Prop := x < 0 ∨ 1073741823 < x
instance (x : Int) : Decidable (noNum x) := by unfold noNum; infer_instance
def meterBad (s l b : Int) : Prop := noNum s ∨ noNum l ∨ noNum b ∨ l < s
instance (s l b : Int) : Decidable (meterBad s l b) := by unfold meterBad; infer_instance
theorem mayN_is (x : Int) : mayN x = !decide (noNum x) := by rw [Bool.eq_iff_iff]; simp only [mayN, decide_eq_true_eq, Bool.not_eq_eq_eq_not, Bool.not_true, decide_eq_false_iff_not]; unfold noNum; exact ⟨fun h => by omega, fun h => by omega⟩
theorem all3 (a b c : Int) : [a, b, c].all mayN = !decide (noNum a ∨ noNum b ∨ noNum c) := by
  simp only [List.all_cons, List.all_nil, mayN_is, Bool.and_true, Bool.decide_or, Bool.not_or]
theorem all4 (a b c d : Int) : [a, b, c, d].all mayN = !decide (noNum a ∨ noNum b ∨ noNum c ∨ noNum d) := by
  simp only [List.all_cons, List.all_nil, mayN_is, Bool.and_true, Bool.decide_or, Bool.not_or]
theorem nums3_tri {i n cap : Nat} {V : Heap} {a b c : Int} (h : V i = some (.cells [.int .i64 a, .int .i64 b, .int .i64 c] 3 (0, 0))) :
    Tri Try.prog 25 [.slice (some ⟨i, 0, none⟩) 3 cap] n 0 V (fun u L => u = .bool (!decide (noNum a ∨ noNum b ∨ noNum c)) ∧ L = []) := by
  rw [← all3]; exact nums_tri (l := [a, b, c]) (by simp) h
theorem nums4_tri {i n cap : Nat} {V : Heap} {a b c d : Int} (h : V i = some (.cells [.int .i64 a, .int .i64 b, .int .i64 c, .int .i64 d] 3 (0, 0))) :
    Tri Try.prog 25 [.slice (some ⟨i, 0, none⟩) 4 cap] n 0 V (fun u L => u = .bool (!decide (noNum a ∨ noNum b ∨ noNum c ∨ noNum d)) ∧ L = []) := by
  rw [← all4]; exact nums_tri (l := [a, b, c, d]) (by simp) h
theorem refnum_is (t : Int) : Fun Try.prog 27 [.int .i64 t] (.bool (!decide (noNum t))) := by rw [← mayN_is]; exact refnum_fun t
set_option maxHeartbeats 4000000 in
theorem may_fun (s l b : Int) : Fun Try.prog 24 [.agg #[.int .i64 s, .int .i64 l, .int .i64 b]] (.bool (!decide (meterBad s l b))) := by
  refine fun_of_vw tab Try.func24 rfl rfl (by simp [Try.f24]) (lrel_cons (vrel_agg (lrel_cons (.int _ _) (lrel_cons (.int _ _) (lrel_cons (.int _ _) lrel_nil)))) lrel_nil) (.bool _) ?_
  repeat' first
    | (refine vq_op tab rfl rfl rfl rfl ?_)
    | (refine vq_op tab ⟨_, _, rfl, rfl, rfl⟩ rfl rfl rfl ?_)
    | (refine vn_op tab rfl rfl rfl rfl ?_)
    | (refine vr_op rfl rfl rfl rfl rfl rfl callable_25 (nums3_tri rfl) ?_)
    | (refine vr_op ⟨_, _, rfl, rfl, rfl⟩ rfl rfl rfl rfl rfl callable_25 (nums3_tri rfl) ?_)
    | (refine vs_op tab rfl rfl rfl ?_)
    | (refine vk_op ⟨_, _, rfl, rfl, rfl⟩ rfl rfl ?_)
    | (refine vku_op rfl rfl rfl rfl rfl ?_)
    | (refine vn_op tab ⟨_, _, rfl, rfl, rfl⟩ rfl rfl rfl ?_)
    | (refine vgd_op true rfl rfl rfl (by decide) ?_)
    | (refine vgd_op false rfl rfl rfl (by decide) ?_)
    | (refine vg_op rfl rfl rfl (fun _ => ?_) (fun _ => ?_))
    | (refine v_nil ?_)
    | (refine vw_seq ?_)
    | (refine vw_region ?_)
    | (refine vw_draw mixed ?_)
    | (refine dq_op tab rfl rfl rfl rfl ?_)
    | (refine dq_op tab ⟨_, _, rfl, rfl, rfl⟩ rfl rfl rfl ?_)
    | (refine dr_op rfl rfl rfl rfl rfl callable_25 (nums3_tri rfl) ?_)
    | (refine dr_op ⟨_, _, rfl, rfl, rfl⟩ rfl rfl rfl rfl callable_25 (nums3_tri rfl) ?_)
    | (refine dn_op tab rfl rfl rfl rfl ?_)
    | (refine ds_op tab rfl rfl rfl rfl ?_)
    | (refine dk_op ⟨_, _, rfl, rfl, rfl⟩ rfl ?_)
    | (refine dku_op rfl rfl rfl rfl ?_)
    | (refine dn_op tab ⟨_, _, rfl, rfl, rfl⟩ rfl rfl rfl ?_)
    | (refine ds_op tab ⟨_, _, rfl, rfl, rfl⟩ rfl rfl rfl ?_)
    | (refine dgd_op true rfl rfl rfl (by decide) ?_)
    | (refine dgd_op false rfl rfl rfl (by decide) ?_)
    | (refine dg_op rfl rfl rfl (fun _ => ?_) (fun _ => ?_))
    | (refine vd_nil (by kernel_rfl) ?_)
    | (refine vc_true rfl ?_)
    | (refine vc_false rfl ?_)
    | (refine vcd_true rfl (by decide) ?_)
    | (refine vcd_false rfl (by decide) ?_)
    | (refine vc_part rfl (fun _ => ?_) (fun _ => ?_))
    | (refine vw_block ?_)
    | (refine q_then ?_)
    | (refine q_norm ?_)
    | (refine q_here ?_)
    | (refine q_out rfl ?_)
    | (refine q_thenx ?_)
    | (refine q_thenr ?_)
    | (refine q_ret ?_)
    | (refine vw_skip ?_)
    | (refine vw_exit ?_)
    | (refine vw_ret ?_)
  all_goals
    refine ⟨.inr rfl, Eq.trans (b := some _) rfl (congrArg some ?_)⟩
    refine congrArg Value.bool (Bool.eq_iff_iff.2 ?_)
    simp only [Bool.not_eq_eq_eq_not, Bool.not_true, Bool.not_false, decide_eq_true_eq, decide_eq_false_iff_not, Bool.false_eq_true, Bool.true_eq_false, false_iff, true_iff] at *
    try simp only [meterBad, noNum] at *
    first | omega | exact ⟨fun h => by omega, fun h => by omega⟩ | exact fun h => by omega
set_option maxHeartbeats 4000000 in
theorem refmay_fun (s l b : Int) : Fun Try.prog 26 [.agg #[.int .i64 s, .int .i64 l, .int .i64 b]] (.bool (!decide (meterBad s l b))) := by
  refine fun_of_vw tab Try.func26 rfl rfl (by simp [Try.f26]) (lrel_cons (vrel_agg (lrel_cons (.int _ _) (lrel_cons (.int _ _) (lrel_cons (.int _ _) lrel_nil)))) lrel_nil) (.bool _) ?_
  repeat' first
    | (refine vq_op tab rfl rfl rfl rfl ?_)
    | (refine vq_op tab ⟨_, _, rfl, rfl, rfl⟩ rfl rfl rfl ?_)
    | (refine vn_op tab rfl rfl rfl rfl ?_)
    | (refine vf_op rfl rfl rfl rfl rfl rfl callable_27 (refnum_is _) ?_)
    | (refine vf_op ⟨_, _, rfl, rfl, rfl⟩ rfl rfl rfl rfl rfl callable_27 (refnum_is _) ?_)
    | (refine vs_op tab rfl rfl rfl ?_)
    | (refine vk_op ⟨_, _, rfl, rfl, rfl⟩ rfl rfl ?_)
    | (refine vku_op rfl rfl rfl rfl rfl ?_)
    | (refine vn_op tab ⟨_, _, rfl, rfl, rfl⟩ rfl rfl rfl ?_)
    | (refine vgd_op true rfl rfl rfl (by decide) ?_)
    | (refine vgd_op false rfl rfl rfl (by decide) ?_)
    | (refine vg_op rfl rfl rfl (fun _ => ?_) (fun _ => ?_))
    | (refine v_nil ?_)
    | (refine vw_seq ?_)
    | (refine vw_region ?_)
    | (refine vw_draw mixed ?_)
    | (refine dq_op tab rfl rfl rfl rfl ?_)
    | (refine dq_op tab ⟨_, _, rfl, rfl, rfl⟩ rfl rfl rfl ?_)
    | (refine df_op rfl rfl rfl rfl rfl callable_27 (refnum_is _) ?_)
    | (refine df_op ⟨_, _, rfl, rfl, rfl⟩ rfl rfl rfl rfl callable_27 (refnum_is _) ?_)
    | (refine dn_op tab rfl rfl rfl rfl ?_)
    | (refine ds_op tab rfl rfl rfl rfl ?_)
    | (refine dk_op ⟨_, _, rfl, rfl, rfl⟩ rfl ?_)
    | (refine dku_op rfl rfl rfl rfl ?_)
    | (refine dn_op tab ⟨_, _, rfl, rfl, rfl⟩ rfl rfl rfl ?_)
    | (refine ds_op tab ⟨_, _, rfl, rfl, rfl⟩ rfl rfl rfl ?_)
    | (refine dgd_op true rfl rfl rfl (by decide) ?_)
    | (refine dgd_op false rfl rfl rfl (by decide) ?_)
    | (refine dg_op rfl rfl rfl (fun _ => ?_) (fun _ => ?_))
    | (refine vd_nil (by kernel_rfl) ?_)
    | (refine vc_true rfl ?_)
    | (refine vc_false rfl ?_)
    | (refine vcd_true rfl (by decide) ?_)
    | (refine vcd_false rfl (by decide) ?_)
    | (refine vc_part rfl (fun _ => ?_) (fun _ => ?_))
    | (refine vw_block ?_)
    | (refine q_then ?_)
    | (refine q_norm ?_)
    | (refine q_here ?_)
    | (refine q_out rfl ?_)
    | (refine q_thenx ?_)
    | (refine q_thenr ?_)
    | (refine q_ret ?_)
    | (refine vw_skip ?_)
    | (refine vw_exit ?_)
    | (refine vw_ret ?_)
  all_goals
    refine ⟨.inr rfl, Eq.trans (b := some _) rfl (congrArg some ?_)⟩
    refine congrArg Value.bool (Bool.eq_iff_iff.2 ?_)
    simp only [Bool.not_eq_eq_eq_not, Bool.not_true, Bool.not_false, decide_eq_true_eq, decide_eq_false_iff_not, Bool.false_eq_true, Bool.true_eq_false, false_iff, true_iff] at *
    try simp only [meterBad, noNum] at *
    first | omega | exact ⟨fun h => by omega, fun h => by omega⟩ | exact fun h => by omega
end Go.Proofs.Ytjiajajifgfmjaa
