/- MeterLater. -/
import Derived.Test.YtjiajajifgfmjaaMt3
namespace Go.Proofs.Ytjiajajifgfmjaa
open Go Vm IntWalk
set_option linter.unusedVariables false
set_option linter.unusedSimpArgs false
theorem over_cases (s l b t i a : Int) : overR s l b t i a = (0, false) ∨ overR s l b t i a = (1, true) ∨ overR s l b t i a = (2, true) := by
  unfold overR
  split
  · exact .inl rfl
  · split
    · exact .inr (.inr rfl)
    · split
      · exact .inr (.inl rfl)
      · exact .inl rfl
theorem over_true {s l b t i a : Int} : (overR s l b t i a).2 = true ↔ ¬ overBad s l b t i a ∧ (a < t - s ∨ i < t - l) := by
  unfold overR
  split
  · rename_i h; simp [h]
  · rename_i h; split
    · rename_i h2; simp [h, h2]
    · rename_i h2; split
      · rename_i h3; simp [h, h2, h3]
      · rename_i h3; simp [h, h2, h3]
theorem over_some {s l b t i a : Int} (h : (overR s l b t i a).2 = true) : overR s l b t i a = ((overR s l b t i a).1, true) := by rw [← h]
theorem over_later {s l b t i a d : Int} (h : (overR s l b t i a).2 = true) (h0 : 0 ≤ d) (h1 : t + d ≤ 1073741823) : (overR s l b (t + d) i a).2 = true := by
  rw [over_true] at h ⊢
  simp only [overBad, meterBad, noNum] at h ⊢
  omega
theorem over_less {s l b t i a i' a' : Int} (h : (overR s l b t i a).2 = true) (h0 : 0 ≤ i') (h1 : i' ≤ i) (h2 : 0 ≤ a') (h3 : a' ≤ a) : (overR s l b t i' a').2 = true := by
  rw [over_true] at h ⊢
  simp only [overBad, meterBad, noNum] at h ⊢
  omega
set_option maxHeartbeats 8000000 in
theorem MeterLater_law (s l b a1 a2 a3 a4 : Int) (w0 : (Lit.int .i64 s).wf = true) (w1 : (Lit.int .i64 l).wf = true) (w2 : (Lit.int .i64 b).wf = true) (w3 : (Lit.int .i64 a1).wf = true) (w4 : (Lit.int .i64 a2).wf = true) (w5 : (Lit.int .i64 a3).wf = true) (w6 : (Lit.int .i64 a4).wf = true) :
    Fun Try.prog 10 [.agg #[.int .i64 s, .int .i64 l, .int .i64 b], .int .i64 a1, .int .i64 a2, .int .i64 a3, .int .i64 a4] (.bool true) := by
  refine fun_of_vw tab Try.func10 rfl rfl (by simp [Try.f10])
    (lrel_cons (vrel_agg (lrel_cons (.int _ _) (lrel_cons (.int _ _) (lrel_cons (.int _ _) lrel_nil)))) (lrel_cons (.int _ _) (lrel_cons (.int _ _) (lrel_cons (.int _ _) (lrel_cons (.int _ _) lrel_nil))))) (.bool _) ?_
  have ht : bits .and .i64 a1 65535 = a1 % 65536 := and65535 a1
  have hd : bits .and .i64 a2 1023 = a2 % 1024 := and1023 a2
  have hi : bits .and .i64 a3 1023 = a3 % 1024 := and1023 a3
  have ha : bits .and .i64 a4 4095 = a4 % 4096 := and4095 a4
  have hw : IntKind.i64.wrap (bits .and .i64 a1 65535 + bits .and .i64 a2 1023) = a1 % 65536 + a2 % 1024 := by rw [ht, hd]; exact i64_in _ (by omega)
  have hi2 : IntKind.i64.wrap ((bits .and .i64 a3 1023).tdiv 2) = a3 % 1024 / 2 := by rw [hi, Int.tdiv_eq_ediv_of_nonneg (by omega)]; exact i64_in _ (by omega)
  have ha2 : IntKind.i64.wrap ((bits .and .i64 a4 4095).tdiv 2) = a4 % 4096 / 2 := by rw [ha, Int.tdiv_eq_ediv_of_nonneg (by omega)]; exact i64_in _ (by omega)
  cases hz : (overR s l b (a1 % 65536) (a3 % 1024) (a4 % 4096)).2 with
  | false =>
    have h0 : overR s l b (bits .and .i64 a1 65535) (bits .and .i64 a3 1023) (bits .and .i64 a4 4095) = (0, false) := by
      rw [ht, hi, ha]; rcases over_cases s l b (a1 % 65536) (a3 % 1024) (a4 % 4096) with h | h | h
      · exact h
      · rw [h] at hz; cases hz
      · rw [h] at hz; cases hz
    repeat' first
      | (refine vq_op tab rfl rfl rfl rfl ?_)
      | (refine vq_op tab ⟨_, _, rfl, rfl, rfl⟩ rfl rfl rfl ?_)
      | (refine vn_op tab rfl rfl rfl rfl ?_)
      | (refine vf_op rfl rfl rfl rfl rfl rfl callable_21 (mawake_fun) ?_)
      | (refine vf_op ⟨_, _, rfl, rfl, rfl⟩ rfl rfl rfl rfl rfl callable_21 (mawake_fun) ?_)
      | (refine vf_op rfl rfl rfl rfl rfl rfl callable_17 (over_at h0) ?_)
      | (refine vf_op ⟨_, _, rfl, rfl, rfl⟩ rfl rfl rfl rfl rfl callable_17 (over_at h0) ?_)
      | (refine vf_op rfl rfl rfl rfl rfl rfl callable_17 (over_fun _ _ _ _ _ _) ?_)
      | (refine vf_op ⟨_, _, rfl, rfl, rfl⟩ rfl rfl rfl rfl rfl callable_17 (over_fun _ _ _ _ _ _) ?_)
      | (refine vs_op tab rfl rfl rfl ?_)
      | (refine vk_op ⟨_, _, rfl, rfl, rfl⟩ rfl rfl ?_)
      | (refine vku_op rfl rfl rfl rfl rfl ?_)
      | (refine vn_op tab ⟨_, _, rfl, rfl, rfl⟩ rfl rfl rfl ?_)
      | (refine vgd_op true rfl rfl rfl (by decide) ?_)
      | (refine vgd_op false rfl rfl rfl (by decide) ?_)
      | (refine vgd_op true rfl rfl rfl (by simp only [decide_eq_true_eq, decide_eq_false_iff_not, Bool.not_eq_eq_eq_not, Bool.not_true, Bool.not_false, bne_iff_ne, bne_eq_false_iff_eq, beq_iff_eq, beq_eq_false_iff_ne, ne_eq, beq_self_eq_true, bne_self_eq_false, Bool.and_eq_true, Bool.and_eq_false_iff, Bool.or_eq_true, Bool.or_eq_false_iff, and_self, and_true, true_and, Bool.false_eq_true, Bool.true_eq_false, not_false_eq_true, not_true_eq_false]; first | done | omega) ?_)
      | (refine vgd_op false rfl rfl rfl (by simp only [decide_eq_true_eq, decide_eq_false_iff_not, Bool.not_eq_eq_eq_not, Bool.not_true, Bool.not_false, bne_iff_ne, bne_eq_false_iff_eq, beq_iff_eq, beq_eq_false_iff_ne, ne_eq, beq_self_eq_true, bne_self_eq_false, Bool.and_eq_true, Bool.and_eq_false_iff, Bool.or_eq_true, Bool.or_eq_false_iff, and_self, and_true, true_and, Bool.false_eq_true, Bool.true_eq_false, not_false_eq_true, not_true_eq_false]; first | done | omega) ?_)
      | (refine vg_op rfl rfl rfl (fun _ => ?_) (fun _ => ?_))
      | (refine v_nil ?_)
      | (refine vw_seq ?_)
      | (refine vw_region ?_)
      | (refine vw_draw mixed ?_)
      | (refine dq_op tab rfl rfl rfl rfl ?_)
      | (refine dq_op tab ⟨_, _, rfl, rfl, rfl⟩ rfl rfl rfl ?_)
      | (refine df_op rfl rfl rfl rfl rfl callable_21 (mawake_fun) ?_)
      | (refine df_op ⟨_, _, rfl, rfl, rfl⟩ rfl rfl rfl rfl callable_21 (mawake_fun) ?_)
      | (refine df_op rfl rfl rfl rfl rfl callable_17 (over_at h0) ?_)
      | (refine df_op ⟨_, _, rfl, rfl, rfl⟩ rfl rfl rfl rfl callable_17 (over_at h0) ?_)
      | (refine df_op rfl rfl rfl rfl rfl callable_17 (over_fun _ _ _ _ _ _) ?_)
      | (refine df_op ⟨_, _, rfl, rfl, rfl⟩ rfl rfl rfl rfl callable_17 (over_fun _ _ _ _ _ _) ?_)
      | (refine dn_op tab rfl rfl rfl rfl ?_)
      | (refine ds_op tab rfl rfl rfl rfl ?_)
      | (refine dk_op ⟨_, _, rfl, rfl, rfl⟩ rfl ?_)
      | (refine dku_op rfl rfl rfl rfl ?_)
      | (refine dn_op tab ⟨_, _, rfl, rfl, rfl⟩ rfl rfl rfl ?_)
      | (refine ds_op tab ⟨_, _, rfl, rfl, rfl⟩ rfl rfl rfl ?_)
      | (refine dgd_op true rfl rfl rfl (by decide) ?_)
      | (refine dgd_op false rfl rfl rfl (by decide) ?_)
      | (refine dgd_op true rfl rfl rfl (by simp only [decide_eq_true_eq, decide_eq_false_iff_not, Bool.not_eq_eq_eq_not, Bool.not_true, Bool.not_false, bne_iff_ne, bne_eq_false_iff_eq, beq_iff_eq, beq_eq_false_iff_ne, ne_eq, beq_self_eq_true, bne_self_eq_false, Bool.and_eq_true, Bool.and_eq_false_iff, Bool.or_eq_true, Bool.or_eq_false_iff, and_self, and_true, true_and, Bool.false_eq_true, Bool.true_eq_false, not_false_eq_true, not_true_eq_false]; first | done | omega) ?_)
      | (refine dgd_op false rfl rfl rfl (by simp only [decide_eq_true_eq, decide_eq_false_iff_not, Bool.not_eq_eq_eq_not, Bool.not_true, Bool.not_false, bne_iff_ne, bne_eq_false_iff_eq, beq_iff_eq, beq_eq_false_iff_ne, ne_eq, beq_self_eq_true, bne_self_eq_false, Bool.and_eq_true, Bool.and_eq_false_iff, Bool.or_eq_true, Bool.or_eq_false_iff, and_self, and_true, true_and, Bool.false_eq_true, Bool.true_eq_false, not_false_eq_true, not_true_eq_false]; first | done | omega) ?_)
      | (refine dg_op rfl rfl rfl (fun _ => ?_) (fun _ => ?_))
      | (refine vd_nil (by kernel_rfl) ?_)
      | (refine vc_true rfl ?_)
      | (refine vc_false rfl ?_)
      | (refine vcd_true rfl (by decide) ?_)
      | (refine vcd_false rfl (by decide) ?_)
      | (refine vcd_true rfl (by simp only [decide_eq_true_eq, decide_eq_false_iff_not, Bool.not_eq_eq_eq_not, Bool.not_true, Bool.not_false, bne_iff_ne, bne_eq_false_iff_eq, beq_iff_eq, beq_eq_false_iff_ne, ne_eq, beq_self_eq_true, bne_self_eq_false, Bool.and_eq_true, Bool.and_eq_false_iff, Bool.or_eq_true, Bool.or_eq_false_iff, and_self, and_true, true_and, Bool.false_eq_true, Bool.true_eq_false, not_false_eq_true, not_true_eq_false]; first | done | omega) ?_)
      | (refine vcd_false rfl (by simp only [decide_eq_true_eq, decide_eq_false_iff_not, Bool.not_eq_eq_eq_not, Bool.not_true, Bool.not_false, bne_iff_ne, bne_eq_false_iff_eq, beq_iff_eq, beq_eq_false_iff_ne, ne_eq, beq_self_eq_true, bne_self_eq_false, Bool.and_eq_true, Bool.and_eq_false_iff, Bool.or_eq_true, Bool.or_eq_false_iff, and_self, and_true, true_and, Bool.false_eq_true, Bool.true_eq_false, not_false_eq_true, not_true_eq_false]; first | done | omega) ?_)
      | (refine vc_part rfl (fun _ => ?_) (fun _ => ?_))
      | (refine vw_block ?_)
      | (refine q_then ?_)
      | (refine q_norm ?_)
      | (refine q_here ?_)
      | (refine q_out rfl ?_)
      | (refine q_thenx ?_)
      | (refine q_thenr ?_)
      | (refine q_ret ?_)
      | (refine vw_skip ?_)
      | (refine vw_exit ?_)
      | (refine vw_ret ?_)
    all_goals exact ⟨.inr rfl, rfl⟩
  | true =>
    obtain ⟨x1, hx1⟩ : ∃ x, x = (overR s l b (a1 % 65536) (a3 % 1024) (a4 % 4096)).1 := ⟨_, rfl⟩
    have h1 : overR s l b (bits .and .i64 a1 65535) (bits .and .i64 a3 1023) (bits .and .i64 a4 4095) = (x1, true) := by rw [ht, hi, ha, hx1]; exact over_some hz
    obtain ⟨x2, h2⟩ : ∃ x, overR s l b (IntKind.i64.wrap (bits .and .i64 a1 65535 + bits .and .i64 a2 1023)) (bits .and .i64 a3 1023) (bits .and .i64 a4 4095) = (x, true) := ⟨_, by rw [hw, hi, ha]; exact over_some (over_later hz (by omega) (by omega))⟩
    obtain ⟨x3, h3⟩ : ∃ x, overR s l b (bits .and .i64 a1 65535) (IntKind.i64.wrap ((bits .and .i64 a3 1023).tdiv 2)) (IntKind.i64.wrap ((bits .and .i64 a4 4095).tdiv 2)) = (x, true) := ⟨_, by rw [ht, hi2, ha2]; exact over_some (over_less hz (by omega) (by omega) (by omega) (by omega))⟩
    have h4 : x1 = 1 ∨ x1 = 2 := by
      rw [hx1]
      rcases over_cases s l b (a1 % 65536) (a3 % 1024) (a4 % 4096) with h | h | h
      · rw [h] at hz; cases hz
      · rw [h]; exact .inl rfl
      · rw [h]; exact .inr rfl
    rcases h4 with rfl | rfl
    ·
      repeat' first
        | (refine vq_op tab rfl rfl rfl rfl ?_)
        | (refine vq_op tab ⟨_, _, rfl, rfl, rfl⟩ rfl rfl rfl ?_)
        | (refine vn_op tab rfl rfl rfl rfl ?_)
        | (refine vf_op rfl rfl rfl rfl rfl rfl callable_21 (mawake_fun) ?_)
        | (refine vf_op ⟨_, _, rfl, rfl, rfl⟩ rfl rfl rfl rfl rfl callable_21 (mawake_fun) ?_)
        | (refine vf_op rfl rfl rfl rfl rfl rfl callable_17 (over_at h2) ?_)
        | (refine vf_op ⟨_, _, rfl, rfl, rfl⟩ rfl rfl rfl rfl rfl callable_17 (over_at h2) ?_)
        | (refine vf_op rfl rfl rfl rfl rfl rfl callable_17 (over_at h3) ?_)
        | (refine vf_op ⟨_, _, rfl, rfl, rfl⟩ rfl rfl rfl rfl rfl callable_17 (over_at h3) ?_)
        | (refine vf_op rfl rfl rfl rfl rfl rfl callable_17 (over_at h1) ?_)
        | (refine vf_op ⟨_, _, rfl, rfl, rfl⟩ rfl rfl rfl rfl rfl callable_17 (over_at h1) ?_)
        | (refine vs_op tab rfl rfl rfl ?_)
        | (refine vk_op ⟨_, _, rfl, rfl, rfl⟩ rfl rfl ?_)
        | (refine vku_op rfl rfl rfl rfl rfl ?_)
        | (refine vn_op tab ⟨_, _, rfl, rfl, rfl⟩ rfl rfl rfl ?_)
        | (refine vgd_op true rfl rfl rfl (by decide) ?_)
        | (refine vgd_op false rfl rfl rfl (by decide) ?_)
        | (refine vgd_op true rfl rfl rfl (by simp only [decide_eq_true_eq, decide_eq_false_iff_not, Bool.not_eq_eq_eq_not, Bool.not_true, Bool.not_false, bne_iff_ne, bne_eq_false_iff_eq, beq_iff_eq, beq_eq_false_iff_ne, ne_eq, beq_self_eq_true, bne_self_eq_false, Bool.and_eq_true, Bool.and_eq_false_iff, Bool.or_eq_true, Bool.or_eq_false_iff, and_self, and_true, true_and, Bool.false_eq_true, Bool.true_eq_false, not_false_eq_true, not_true_eq_false]; first | done | omega) ?_)
        | (refine vgd_op false rfl rfl rfl (by simp only [decide_eq_true_eq, decide_eq_false_iff_not, Bool.not_eq_eq_eq_not, Bool.not_true, Bool.not_false, bne_iff_ne, bne_eq_false_iff_eq, beq_iff_eq, beq_eq_false_iff_ne, ne_eq, beq_self_eq_true, bne_self_eq_false, Bool.and_eq_true, Bool.and_eq_false_iff, Bool.or_eq_true, Bool.or_eq_false_iff, and_self, and_true, true_and, Bool.false_eq_true, Bool.true_eq_false, not_false_eq_true, not_true_eq_false]; first | done | omega) ?_)
        | (refine vg_op rfl rfl rfl (fun _ => ?_) (fun _ => ?_))
        | (refine v_nil ?_)
        | (refine vw_seq ?_)
        | (refine vw_region ?_)
        | (refine vw_draw mixed ?_)
        | (refine dq_op tab rfl rfl rfl rfl ?_)
        | (refine dq_op tab ⟨_, _, rfl, rfl, rfl⟩ rfl rfl rfl ?_)
        | (refine df_op rfl rfl rfl rfl rfl callable_21 (mawake_fun) ?_)
        | (refine df_op ⟨_, _, rfl, rfl, rfl⟩ rfl rfl rfl rfl callable_21 (mawake_fun) ?_)
        | (refine df_op rfl rfl rfl rfl rfl callable_17 (over_at h2) ?_)
        | (refine df_op ⟨_, _, rfl, rfl, rfl⟩ rfl rfl rfl rfl callable_17 (over_at h2) ?_)
        | (refine df_op rfl rfl rfl rfl rfl callable_17 (over_at h3) ?_)
        | (refine df_op ⟨_, _, rfl, rfl, rfl⟩ rfl rfl rfl rfl callable_17 (over_at h3) ?_)
        | (refine df_op rfl rfl rfl rfl rfl callable_17 (over_at h1) ?_)
        | (refine df_op ⟨_, _, rfl, rfl, rfl⟩ rfl rfl rfl rfl callable_17 (over_at h1) ?_)
        | (refine dn_op tab rfl rfl rfl rfl ?_)
        | (refine ds_op tab rfl rfl rfl rfl ?_)
        | (refine dk_op ⟨_, _, rfl, rfl, rfl⟩ rfl ?_)
        | (refine dku_op rfl rfl rfl rfl ?_)
        | (refine dn_op tab ⟨_, _, rfl, rfl, rfl⟩ rfl rfl rfl ?_)
        | (refine ds_op tab ⟨_, _, rfl, rfl, rfl⟩ rfl rfl rfl ?_)
        | (refine dgd_op true rfl rfl rfl (by decide) ?_)
        | (refine dgd_op false rfl rfl rfl (by decide) ?_)
        | (refine dgd_op true rfl rfl rfl (by simp only [decide_eq_true_eq, decide_eq_false_iff_not, Bool.not_eq_eq_eq_not, Bool.not_true, Bool.not_false, bne_iff_ne, bne_eq_false_iff_eq, beq_iff_eq, beq_eq_false_iff_ne, ne_eq, beq_self_eq_true, bne_self_eq_false, Bool.and_eq_true, Bool.and_eq_false_iff, Bool.or_eq_true, Bool.or_eq_false_iff, and_self, and_true, true_and, Bool.false_eq_true, Bool.true_eq_false, not_false_eq_true, not_true_eq_false]; first | done | omega) ?_)
        | (refine dgd_op false rfl rfl rfl (by simp only [decide_eq_true_eq, decide_eq_false_iff_not, Bool.not_eq_eq_eq_not, Bool.not_true, Bool.not_false, bne_iff_ne, bne_eq_false_iff_eq, beq_iff_eq, beq_eq_false_iff_ne, ne_eq, beq_self_eq_true, bne_self_eq_false, Bool.and_eq_true, Bool.and_eq_false_iff, Bool.or_eq_true, Bool.or_eq_false_iff, and_self, and_true, true_and, Bool.false_eq_true, Bool.true_eq_false, not_false_eq_true, not_true_eq_false]; first | done | omega) ?_)
        | (refine dg_op rfl rfl rfl (fun _ => ?_) (fun _ => ?_))
        | (refine vd_nil (by kernel_rfl) ?_)
        | (refine vc_true rfl ?_)
        | (refine vc_false rfl ?_)
        | (refine vcd_true rfl (by decide) ?_)
        | (refine vcd_false rfl (by decide) ?_)
        | (refine vcd_true rfl (by simp only [decide_eq_true_eq, decide_eq_false_iff_not, Bool.not_eq_eq_eq_not, Bool.not_true, Bool.not_false, bne_iff_ne, bne_eq_false_iff_eq, beq_iff_eq, beq_eq_false_iff_ne, ne_eq, beq_self_eq_true, bne_self_eq_false, Bool.and_eq_true, Bool.and_eq_false_iff, Bool.or_eq_true, Bool.or_eq_false_iff, and_self, and_true, true_and, Bool.false_eq_true, Bool.true_eq_false, not_false_eq_true, not_true_eq_false]; first | done | omega) ?_)
        | (refine vcd_false rfl (by simp only [decide_eq_true_eq, decide_eq_false_iff_not, Bool.not_eq_eq_eq_not, Bool.not_true, Bool.not_false, bne_iff_ne, bne_eq_false_iff_eq, beq_iff_eq, beq_eq_false_iff_ne, ne_eq, beq_self_eq_true, bne_self_eq_false, Bool.and_eq_true, Bool.and_eq_false_iff, Bool.or_eq_true, Bool.or_eq_false_iff, and_self, and_true, true_and, Bool.false_eq_true, Bool.true_eq_false, not_false_eq_true, not_true_eq_false]; first | done | omega) ?_)
        | (refine vc_part rfl (fun _ => ?_) (fun _ => ?_))
        | (refine vw_block ?_)
        | (refine q_then ?_)
        | (refine q_norm ?_)
        | (refine q_here ?_)
        | (refine q_out rfl ?_)
        | (refine q_thenx ?_)
        | (refine q_thenr ?_)
        | (refine q_ret ?_)
        | (refine vw_skip ?_)
        | (refine vw_exit ?_)
        | (refine vw_ret ?_)
      exact ⟨.inr rfl, rfl⟩
    ·
      repeat' first
        | (refine vq_op tab rfl rfl rfl rfl ?_)
        | (refine vq_op tab ⟨_, _, rfl, rfl, rfl⟩ rfl rfl rfl ?_)
        | (refine vn_op tab rfl rfl rfl rfl ?_)
        | (refine vf_op rfl rfl rfl rfl rfl rfl callable_21 (mawake_fun) ?_)
        | (refine vf_op ⟨_, _, rfl, rfl, rfl⟩ rfl rfl rfl rfl rfl callable_21 (mawake_fun) ?_)
        | (refine vf_op rfl rfl rfl rfl rfl rfl callable_17 (over_at h2) ?_)
        | (refine vf_op ⟨_, _, rfl, rfl, rfl⟩ rfl rfl rfl rfl rfl callable_17 (over_at h2) ?_)
        | (refine vf_op rfl rfl rfl rfl rfl rfl callable_17 (over_at h3) ?_)
        | (refine vf_op ⟨_, _, rfl, rfl, rfl⟩ rfl rfl rfl rfl rfl callable_17 (over_at h3) ?_)
        | (refine vf_op rfl rfl rfl rfl rfl rfl callable_17 (over_at h1) ?_)
        | (refine vf_op ⟨_, _, rfl, rfl, rfl⟩ rfl rfl rfl rfl rfl callable_17 (over_at h1) ?_)
        | (refine vs_op tab rfl rfl rfl ?_)
        | (refine vk_op ⟨_, _, rfl, rfl, rfl⟩ rfl rfl ?_)
        | (refine vku_op rfl rfl rfl rfl rfl ?_)
        | (refine vn_op tab ⟨_, _, rfl, rfl, rfl⟩ rfl rfl rfl ?_)
        | (refine vgd_op true rfl rfl rfl (by decide) ?_)
        | (refine vgd_op false rfl rfl rfl (by decide) ?_)
        | (refine vgd_op true rfl rfl rfl (by simp only [decide_eq_true_eq, decide_eq_false_iff_not, Bool.not_eq_eq_eq_not, Bool.not_true, Bool.not_false, bne_iff_ne, bne_eq_false_iff_eq, beq_iff_eq, beq_eq_false_iff_ne, ne_eq, beq_self_eq_true, bne_self_eq_false, Bool.and_eq_true, Bool.and_eq_false_iff, Bool.or_eq_true, Bool.or_eq_false_iff, and_self, and_true, true_and, Bool.false_eq_true, Bool.true_eq_false, not_false_eq_true, not_true_eq_false]; first | done | omega) ?_)
        | (refine vgd_op false rfl rfl rfl (by simp only [decide_eq_true_eq, decide_eq_false_iff_not, Bool.not_eq_eq_eq_not, Bool.not_true, Bool.not_false, bne_iff_ne, bne_eq_false_iff_eq, beq_iff_eq, beq_eq_false_iff_ne, ne_eq, beq_self_eq_true, bne_self_eq_false, Bool.and_eq_true, Bool.and_eq_false_iff, Bool.or_eq_true, Bool.or_eq_false_iff, and_self, and_true, true_and, Bool.false_eq_true, Bool.true_eq_false, not_false_eq_true, not_true_eq_false]; first | done | omega) ?_)
        | (refine vg_op rfl rfl rfl (fun _ => ?_) (fun _ => ?_))
        | (refine v_nil ?_)
        | (refine vw_seq ?_)
        | (refine vw_region ?_)
        | (refine vw_draw mixed ?_)
        | (refine dq_op tab rfl rfl rfl rfl ?_)
        | (refine dq_op tab ⟨_, _, rfl, rfl, rfl⟩ rfl rfl rfl ?_)
        | (refine df_op rfl rfl rfl rfl rfl callable_21 (mawake_fun) ?_)
        | (refine df_op ⟨_, _, rfl, rfl, rfl⟩ rfl rfl rfl rfl callable_21 (mawake_fun) ?_)
        | (refine df_op rfl rfl rfl rfl rfl callable_17 (over_at h2) ?_)
        | (refine df_op ⟨_, _, rfl, rfl, rfl⟩ rfl rfl rfl rfl callable_17 (over_at h2) ?_)
        | (refine df_op rfl rfl rfl rfl rfl callable_17 (over_at h3) ?_)
        | (refine df_op ⟨_, _, rfl, rfl, rfl⟩ rfl rfl rfl rfl callable_17 (over_at h3) ?_)
        | (refine df_op rfl rfl rfl rfl rfl callable_17 (over_at h1) ?_)
        | (refine df_op ⟨_, _, rfl, rfl, rfl⟩ rfl rfl rfl rfl callable_17 (over_at h1) ?_)
        | (refine dn_op tab rfl rfl rfl rfl ?_)
        | (refine ds_op tab rfl rfl rfl rfl ?_)
        | (refine dk_op ⟨_, _, rfl, rfl, rfl⟩ rfl ?_)
        | (refine dku_op rfl rfl rfl rfl ?_)
        | (refine dn_op tab ⟨_, _, rfl, rfl, rfl⟩ rfl rfl rfl ?_)
        | (refine ds_op tab ⟨_, _, rfl, rfl, rfl⟩ rfl rfl rfl ?_)
        | (refine dgd_op true rfl rfl rfl (by decide) ?_)
        | (refine dgd_op false rfl rfl rfl (by decide) ?_)
        | (refine dgd_op true rfl rfl rfl (by simp only [decide_eq_true_eq, decide_eq_false_iff_not, Bool.not_eq_eq_eq_not, Bool.not_true, Bool.not_false, bne_iff_ne, bne_eq_false_iff_eq, beq_iff_eq, beq_eq_false_iff_ne, ne_eq, beq_self_eq_true, bne_self_eq_false, Bool.and_eq_true, Bool.and_eq_false_iff, Bool.or_eq_true, Bool.or_eq_false_iff, and_self, and_true, true_and, Bool.false_eq_true, Bool.true_eq_false, not_false_eq_true, not_true_eq_false]; first | done | omega) ?_)
        | (refine dgd_op false rfl rfl rfl (by simp only [decide_eq_true_eq, decide_eq_false_iff_not, Bool.not_eq_eq_eq_not, Bool.not_true, Bool.not_false, bne_iff_ne, bne_eq_false_iff_eq, beq_iff_eq, beq_eq_false_iff_ne, ne_eq, beq_self_eq_true, bne_self_eq_false, Bool.and_eq_true, Bool.and_eq_false_iff, Bool.or_eq_true, Bool.or_eq_false_iff, and_self, and_true, true_and, Bool.false_eq_true, Bool.true_eq_false, not_false_eq_true, not_true_eq_false]; first | done | omega) ?_)
        | (refine dg_op rfl rfl rfl (fun _ => ?_) (fun _ => ?_))
        | (refine vd_nil (by kernel_rfl) ?_)
        | (refine vc_true rfl ?_)
        | (refine vc_false rfl ?_)
        | (refine vcd_true rfl (by decide) ?_)
        | (refine vcd_false rfl (by decide) ?_)
        | (refine vcd_true rfl (by simp only [decide_eq_true_eq, decide_eq_false_iff_not, Bool.not_eq_eq_eq_not, Bool.not_true, Bool.not_false, bne_iff_ne, bne_eq_false_iff_eq, beq_iff_eq, beq_eq_false_iff_ne, ne_eq, beq_self_eq_true, bne_self_eq_false, Bool.and_eq_true, Bool.and_eq_false_iff, Bool.or_eq_true, Bool.or_eq_false_iff, and_self, and_true, true_and, Bool.false_eq_true, Bool.true_eq_false, not_false_eq_true, not_true_eq_false]; first | done | omega) ?_)
        | (refine vcd_false rfl (by simp only [decide_eq_true_eq, decide_eq_false_iff_not, Bool.not_eq_eq_eq_not, Bool.not_true, Bool.not_false, bne_iff_ne, bne_eq_false_iff_eq, beq_iff_eq, beq_eq_false_iff_ne, ne_eq, beq_self_eq_true, bne_self_eq_false, Bool.and_eq_true, Bool.and_eq_false_iff, Bool.or_eq_true, Bool.or_eq_false_iff, and_self, and_true, true_and, Bool.false_eq_true, Bool.true_eq_false, not_false_eq_true, not_true_eq_false]; first | done | omega) ?_)
        | (refine vc_part rfl (fun _ => ?_) (fun _ => ?_))
        | (refine vw_block ?_)
        | (refine q_then ?_)
        | (refine q_norm ?_)
        | (refine q_here ?_)
        | (refine q_out rfl ?_)
        | (refine q_thenx ?_)
        | (refine q_thenr ?_)
        | (refine q_ret ?_)
        | (refine vw_skip ?_)
        | (refine vw_exit ?_)
        | (refine vw_ret ?_)
      exact ⟨.inr rfl, rfl⟩
end Go.Proofs.Ytjiajajifgfmjaa
