/- Texts of this claim, one behind the other (6 of 7). -/
import Derived.Test.YtcjfidfealifhaaGreatPa4
namespace Go.Proofs.YtcjfidfealifhaaGreat
open Go Vm IntWalk
set_option linter.unusedVariables false
set_option linter.unusedSimpArgs false
set_option maxHeartbeats 32000000 in
theorem refevt_part (a : EventV) : Fun Tryz.prog 57 [evtV a] (.tuple #[evtV (evtPlain a), .bool (decide (0 ≤ a.kind) && decide (a.kind ≤ 9))]) := by
  refine fun_of_vw tab Tryz.func57 rfl rfl (by simp [Tryz.f57]) (lrel_cons (evtRel a) lrel_nil) (vrel_tuple (lrel_cons (evtRel _) (lrel_cons (.bool _) lrel_nil))) ?_
  obtain ⟨k, f1, f2, f3, f4, f5, f6, f7⟩ := a
  rcases (show k = 0 ∨ k = 1 ∨ k = 2 ∨ k = 3 ∨ k = 4 ∨ k = 5 ∨ k = 6 ∨ k = 7 ∨ k = 8 ∨ k = 9 ∨ (k ≠ 0 ∧ k ≠ 1 ∧ k ≠ 2 ∧ k ≠ 3 ∧ k ≠ 4 ∧ k ≠ 5 ∧ k ≠ 6 ∧ k ≠ 7 ∧ k ≠ 8 ∧ k ≠ 9) by omega) with rfl | rfl | rfl | rfl | rfl | rfl | rfl | rfl | rfl | rfl | hk
  iterate 10
    · first
        | refine wsq (wrg (vN tab rfl (vN tab rfl (vQ tab rfl (vnl (qth (wsq (wrg (vQ3 tab rfl rfl rfl (vN tab rfl (vS tab rfl (vnl (qth (wsq (wsq (wrg (vQ2 tab rfl rfl (vnl (qth (wbk ?_))))))))))))))))))))
          refine wsq (wrg (vQ2 tab rfl rfl (vnl (qth (vc_true rfl (wrg (vQ3 tab rfl rfl rfl (vS tab rfl (vnl (q_norm (qth (wsq (wrg (vQ tab rfl (vS tab rfl (vQ tab rfl (vnl (qth (vw_ret ?_)))))))))))))))))))
        | refine wsq (wrg (vN tab rfl (vN tab rfl (vQ tab rfl (vnl (qth (wsq (wrg (vQ3 tab rfl rfl rfl (vN tab rfl (vS tab rfl (vnl (qth (wsq (wsq (wrg (vQ2 tab rfl rfl (vnl (qth (wbk ?_))))))))))))))))))))
          refine wsq (wrg (vQ2 tab rfl rfl (vnl (qth (vc_false rfl (wsq (wrg (vQ2 tab rfl rfl (vnl (qth (vc_true rfl (wsq (wrg (vQ3 tab rfl rfl rfl (vS tab rfl (vnl (qth (wsq (wrg ?_)))))))))))))))))))
          refine vQ3 tab rfl rfl rfl (vS tab rfl (vnl (qth (wsq (wrg (vQ3 tab rfl rfl rfl (vS tab rfl (vnl (qth (wrg (vQ3 tab rfl rfl rfl (vS tab rfl (vnl (q_norm (qth (wsq (wrg ?_)))))))))))))))))
          refine vQ tab rfl (vS tab rfl (vQ tab rfl (vnl (qth (vw_ret ?_)))))
        | refine wsq (wrg (vN tab rfl (vN tab rfl (vQ tab rfl (vnl (qth (wsq (wrg (vQ3 tab rfl rfl rfl (vN tab rfl (vS tab rfl (vnl (qth (wsq (wsq (wrg (vQ2 tab rfl rfl (vnl (qth (wbk ?_))))))))))))))))))))
          refine wsq (wrg (vQ2 tab rfl rfl (vnl (qth (vc_false rfl (wsq (wrg (vQ2 tab rfl rfl (vnl (qth (vc_false rfl (wsq (wrg (vQ2 tab rfl rfl (vnl (qth (vc_true rfl (wsq (wrg (vQ tab rfl ?_))))))))))))))))))))
          refine vQ2 tab rfl rfl (vS tab rfl (vnl (qth (wrg (vQ3 tab rfl rfl rfl (vS tab rfl (vnl (q_norm (qth (wsq (wrg (vQ tab rfl (vS tab rfl (vQ tab rfl (vnl (qth (vw_ret ?_)))))))))))))))))
        | refine wsq (wrg (vN tab rfl (vN tab rfl (vQ tab rfl (vnl (qth (wsq (wrg (vQ3 tab rfl rfl rfl (vN tab rfl (vS tab rfl (vnl (qth (wsq (wsq (wrg (vQ2 tab rfl rfl (vnl (qth (wbk ?_))))))))))))))))))))
          refine wsq (wrg (vQ2 tab rfl rfl (vnl (qth (vc_false rfl (wsq (wrg (vQ2 tab rfl rfl (vnl (qth (vc_false rfl (wsq (wrg (vQ2 tab rfl rfl (vnl (qth (vc_false rfl (wsq (wrg (vQ tab rfl ?_))))))))))))))))))))
          refine vQ tab rfl (vnl (qth (vc_true rfl (wsq (wrg (vQ3 tab rfl rfl rfl (vS tab rfl (vnl (qth (wrg (vQ3 tab rfl rfl rfl (vS tab rfl (vnl (q_norm (qth (wsq (wrg (vQ tab rfl (vS tab rfl ?_)))))))))))))))))))
          refine vQ tab rfl (vnl (qth (vw_ret ?_)))
        | refine wsq (wrg (vN tab rfl (vN tab rfl (vQ tab rfl (vnl (qth (wsq (wrg (vQ3 tab rfl rfl rfl (vN tab rfl (vS tab rfl (vnl (qth (wsq (wsq (wrg (vQ2 tab rfl rfl (vnl (qth (wbk ?_))))))))))))))))))))
          refine wsq (wrg (vQ2 tab rfl rfl (vnl (qth (vc_false rfl (wsq (wrg (vQ2 tab rfl rfl (vnl (qth (vc_false rfl (wsq (wrg (vQ2 tab rfl rfl (vnl (qth (vc_false rfl (wsq (wrg (vQ tab rfl ?_))))))))))))))))))))
          refine vQ tab rfl (vnl (qth (vc_false rfl (wsq (wsq (wrg (vQ2 tab rfl rfl (vnl (qth (vc_true rfl (vw_skip (qth (vc_true rfl (wrg (vQ3 tab rfl rfl rfl (vS tab rfl (vnl (q_norm (qth (wsq ?_))))))))))))))))))))
          refine wrg (vQ tab rfl (vS tab rfl (vQ tab rfl (vnl (qth (vw_ret ?_))))))
        | refine wsq (wrg (vN tab rfl (vN tab rfl (vQ tab rfl (vnl (qth (wsq (wrg (vQ3 tab rfl rfl rfl (vN tab rfl (vS tab rfl (vnl (qth (wsq (wsq (wrg (vQ2 tab rfl rfl (vnl (qth (wbk ?_))))))))))))))))))))
          refine wsq (wrg (vQ2 tab rfl rfl (vnl (qth (vc_false rfl (wsq (wrg (vQ2 tab rfl rfl (vnl (qth (vc_false rfl (wsq (wrg (vQ2 tab rfl rfl (vnl (qth (vc_false rfl (wsq (wrg (vQ tab rfl ?_))))))))))))))))))))
          refine vQ tab rfl (vnl (qth (vc_false rfl (wsq (wsq (wrg (vQ2 tab rfl rfl (vnl (qth (vc_false rfl (wrg (vQ2 tab rfl rfl (vnl (qth (vc_false rfl (wsq (wrg (vQ2 tab rfl rfl (vnl (qth ?_))))))))))))))))))))
          refine vc_true rfl (wsq (wrg (vQ3 tab rfl rfl rfl (vS tab rfl (vnl (qth (wsq (wrg (vQ3 tab rfl rfl rfl (vS tab rfl (vnl (qth (wsq (wrg (vQ3 tab rfl rfl rfl (vS tab rfl (vnl ?_)))))))))))))))))
          refine qth (wrg (vQ3 tab rfl rfl rfl (vS tab rfl (vnl (q_norm (qth (wsq (wrg (vQ tab rfl (vS tab rfl (vQ tab rfl (vnl (qth (vw_ret ?_))))))))))))))
        | refine wsq (wrg (vN tab rfl (vN tab rfl (vQ tab rfl (vnl (qth (wsq (wrg (vQ3 tab rfl rfl rfl (vN tab rfl (vS tab rfl (vnl (qth (wsq (wsq (wrg (vQ2 tab rfl rfl (vnl (qth (wbk ?_))))))))))))))))))))
          refine wsq (wrg (vQ2 tab rfl rfl (vnl (qth (vc_false rfl (wsq (wrg (vQ2 tab rfl rfl (vnl (qth (vc_false rfl (wsq (wrg (vQ2 tab rfl rfl (vnl (qth (vc_false rfl (wsq (wrg (vQ tab rfl ?_))))))))))))))))))))
          refine vQ tab rfl (vnl (qth (vc_false rfl (wsq (wsq (wrg (vQ2 tab rfl rfl (vnl (qth (vc_false rfl (wrg (vQ2 tab rfl rfl (vnl (qth (vc_false rfl (wsq (wrg (vQ2 tab rfl rfl (vnl (qth ?_))))))))))))))))))))
          refine vc_false rfl (wsq (wrg (vQ2 tab rfl rfl (vnl (qth (vc_true rfl (wsq (wrg (vQ3 tab rfl rfl rfl (vS tab rfl (vnl (qth (wsq (wrg (vQ3 tab rfl rfl rfl (vS tab rfl (vnl (qth ?_))))))))))))))))))
          refine wsq (wrg (vQ3 tab rfl rfl rfl (vS tab rfl (vnl (qth (wrg (vQ3 tab rfl rfl rfl (vS tab rfl (vnl (q_norm (qth (wsq (wrg (vQ tab rfl (vS tab rfl (vQ tab rfl (vnl (qth (vw_ret ?_)))))))))))))))))))
        | refine wsq (wrg (vN tab rfl (vN tab rfl (vQ tab rfl (vnl (qth (wsq (wrg (vQ3 tab rfl rfl rfl (vN tab rfl (vS tab rfl (vnl (qth (wsq (wsq (wrg (vQ2 tab rfl rfl (vnl (qth (wbk ?_))))))))))))))))))))
          refine wsq (wrg (vQ2 tab rfl rfl (vnl (qth (vc_false rfl (wsq (wrg (vQ2 tab rfl rfl (vnl (qth (vc_false rfl (wsq (wrg (vQ2 tab rfl rfl (vnl (qth (vc_false rfl (wsq (wrg (vQ tab rfl ?_))))))))))))))))))))
          refine vQ tab rfl (vnl (qth (vc_false rfl (wsq (wsq (wrg (vQ2 tab rfl rfl (vnl (qth (vc_false rfl (wrg (vQ2 tab rfl rfl (vnl (qth (vc_true rfl (wrg (vQ3 tab rfl rfl rfl (vS tab rfl (vnl ?_)))))))))))))))))))
          refine q_norm (qth (wsq (wrg (vQ tab rfl (vS tab rfl (vQ tab rfl (vnl (qth (vw_ret ?_)))))))))
        | refine wsq (wrg (vN tab rfl (vN tab rfl (vQ tab rfl (vnl (qth (wsq (wrg (vQ3 tab rfl rfl rfl (vN tab rfl (vS tab rfl (vnl (qth (wsq (wsq (wrg (vQ2 tab rfl rfl (vnl (qth (wbk ?_))))))))))))))))))))
          refine wsq (wrg (vQ2 tab rfl rfl (vnl (qth (vc_false rfl (wsq (wrg (vQ2 tab rfl rfl (vnl (qth (vc_false rfl (wsq (wrg (vQ2 tab rfl rfl (vnl (qth (vc_false rfl (wsq (wrg (vQ tab rfl ?_))))))))))))))))))))
          refine vQ tab rfl (vnl (qth (vc_false rfl (wsq (wsq (wrg (vQ2 tab rfl rfl (vnl (qth (vc_false rfl (wrg (vQ2 tab rfl rfl (vnl (qth (vc_false rfl (wsq (wrg (vQ2 tab rfl rfl (vnl (qth ?_))))))))))))))))))))
          refine vc_false rfl (wsq (wrg (vQ2 tab rfl rfl (vnl (qth (vc_false rfl (wsq (wrg (vQ2 tab rfl rfl (vnl (qth (vc_true rfl (vw_skip (q_norm (qth (wsq (wrg (vQ tab rfl (vS tab rfl (vQ tab rfl (vnl ?_)))))))))))))))))))))
          refine qth (vw_ret ?_)
        | refine wsq (wrg (vN tab rfl (vN tab rfl (vQ tab rfl (vnl (qth (wsq (wrg (vQ3 tab rfl rfl rfl (vN tab rfl (vS tab rfl (vnl (qth (wsq (wsq (wrg (vQ2 tab rfl rfl (vnl (qth (wbk ?_))))))))))))))))))))
          refine wsq (wrg (vQ2 tab rfl rfl (vnl (qth (vc_false rfl (wsq (wrg (vQ2 tab rfl rfl (vnl (qth (vc_false rfl (wsq (wrg (vQ2 tab rfl rfl (vnl (qth (vc_false rfl (wsq (wrg (vQ tab rfl ?_))))))))))))))))))))
          refine vQ tab rfl (vnl (qth (vc_false rfl (wsq (wsq (wrg (vQ2 tab rfl rfl (vnl (qth (vc_false rfl (wrg (vQ2 tab rfl rfl (vnl (qth (vc_false rfl (wsq (wrg (vQ2 tab rfl rfl (vnl (qth ?_))))))))))))))))))))
          refine vc_false rfl (wsq (wrg (vQ2 tab rfl rfl (vnl (qth (vc_false rfl (wsq (wrg (vQ2 tab rfl rfl (vnl (qth (vc_false rfl (wsq (wrg (vQ2 tab rfl rfl (vnl (qth (vc_true rfl (wrg (vQ tab rfl ?_))))))))))))))))))))
          refine vQ2 tab rfl rfl (vS tab rfl (vnl (q_norm (qth (wsq (wrg (vQ tab rfl (vS tab rfl (vQ tab rfl (vnl (qth (vw_ret ?_))))))))))))
      exact ⟨.inr rfl, rfl⟩
  · have hkb : (decide (0 ≤ k) && decide (k ≤ 9)) = false := by rw [Bool.and_eq_false_iff, decide_eq_false_iff_not, decide_eq_false_iff_not]; omega
    have hp : evtPlain ⟨k, f1, f2, f3, f4, f5, f6, f7⟩ = ⟨k, 0, 0, 0, 0, 0, 0, 0⟩ := by simp [evtPlain, evtMake, evtNums, evtText, hk]
    show VW _ _ _ _ (fun e s => _ ∧ evResults tys s _ = some (.tuple #[evtV (evtPlain ⟨k, f1, f2, f3, f4, f5, f6, f7⟩), .bool (decide (0 ≤ k) && decide (k ≤ 9))])) _
    rw [hp, hkb]
    refine wsq (wrg (vN tab rfl (vN tab rfl (vQ tab rfl (vnl (qth (wsq (wrg (vQ3 tab rfl rfl rfl (vN tab rfl (vS tab rfl (vnl (qth (wsq (wsq (wrg (vQ2 tab rfl rfl (vnl (qth (wbk ?_))))))))))))))))))))
    refine wsq (wrg (vQ2 tab rfl rfl (vnl (qth (vcd_false rfl (by simp only [sl_]; first | done | omega) ?_)))))
    refine wsq (wrg (vQ2 tab rfl rfl (vnl (qth (vcd_false rfl (by simp only [sl_]; first | done | omega) ?_)))))
    refine wsq (wrg (vQ2 tab rfl rfl (vnl (qth (vcd_false rfl (by simp only [sl_]; first | done | omega) ?_)))))
    refine wsq (wrg (vQ2 tab rfl rfl (vnl (qth (vcd_false rfl (by simp only [sl_]; first | done | omega) ?_)))))
    refine wsq (wsq (wrg (vQ2 tab rfl rfl (vnl (qth (vcd_false rfl (by simp only [sl_]; first | done | omega) ?_))))))
    refine wrg (vQ2 tab rfl rfl (vnl (qth (vcd_false rfl (by simp only [sl_]; first | done | omega) ?_))))
    refine wsq (wrg (vQ2 tab rfl rfl (vnl (qth (vcd_false rfl (by simp only [sl_]; first | done | omega) ?_)))))
    refine wsq (wrg (vQ2 tab rfl rfl (vnl (qth (vcd_false rfl (by simp only [sl_]; first | done | omega) ?_)))))
    refine wsq (wrg (vQ2 tab rfl rfl (vnl (qth (vcd_false rfl (by simp only [sl_]; first | done | omega) ?_)))))
    refine wsq (wrg (vQ2 tab rfl rfl (vnl (qth (vcd_false rfl (by simp only [sl_]; first | done | omega) ?_)))))
    refine wsq (wrg (vQ tab rfl (vS tab rfl (vQ tab rfl (vnl (qth (vw_ret (q_ret (q_thenr ?_)))))))))
    exact ⟨.inr rfl, rfl⟩
set_option maxHeartbeats 32000000 in
theorem refevt_may (a : EventV) : Fun Tryz.prog 30 [evtV a] (.bool (evtMay a)) := by
  refine fun_of_vw tab Tryz.func30 rfl rfl (by simp [Tryz.f30]) (lrel_cons (evtRel a) lrel_nil) (.bool _) ?_
  obtain ⟨k, f1, f2, f3, f4, f5, f6, f7⟩ := a
  rcases (show k = 0 ∨ k = 1 ∨ k = 2 ∨ k = 3 ∨ k = 4 ∨ k = 5 ∨ k = 6 ∨ k = 7 ∨ k = 8 ∨ k = 9 ∨ (k ≠ 0 ∧ k ≠ 1 ∧ k ≠ 2 ∧ k ≠ 3 ∧ k ≠ 4 ∧ k ≠ 5 ∧ k ≠ 6 ∧ k ≠ 7 ∧ k ≠ 8 ∧ k ≠ 9) by omega) with rfl | rfl | rfl | rfl | rfl | rfl | rfl | rfl | rfl | rfl | hk
  · refine wsq (wrg (vN tab rfl (vQ tab rfl (vnl (qth (wsq (wrg (vQ tab rfl (vF rfl callable_57 (refevt_part ⟨0, f1, f2, f3, f4, f5, f6, f7⟩) (vQ3 tab rfl rfl rfl (vN tab rfl (vS tab rfl (vQ tab rfl (vnl (qth (wsq (wsq (wrg (vQ2 tab rfl rfl (vQ tab rfl ?_))))))))))))))))))))
    refine vQ2 tab rfl rfl (vq_op tab ⟨_, _, rfl, rfl, rfl⟩ rfl rfl (ev_neq rfl rfl rfl (evt_eq (evtPlain ⟨0, f1, f2, f3, f4, f5, f6, f7⟩) ⟨0, f1, f2, f3, f4, f5, f6, f7⟩)) (vQ tab rfl (vQ tab rfl ?_)))
    refine vg_op rfl rfl rfl (fun _ => ?_) (fun _ => ?_)
    refine vQ4 tab rfl rfl rfl rfl (vQ tab rfl ?_)
    refine vg_op rfl rfl rfl (fun _ => ?_) (fun _ => ?_)
    refine vQ4 tab rfl rfl rfl rfl (vQ tab rfl ?_)
    refine vg_op rfl rfl rfl (fun _ => ?_) (fun _ => ?_)
    refine vQ4 tab rfl rfl rfl rfl (vQ tab rfl ?_)
    refine vg_op rfl rfl rfl (fun _ => ?_) (fun _ => ?_)
    refine vQ4 tab rfl rfl rfl rfl (vQ tab rfl ?_)
    refine vg_op rfl rfl rfl (fun _ => ?_) (fun _ => ?_)
    refine vQ4 tab rfl rfl rfl rfl (vQ tab rfl ?_)
    refine vg_op rfl rfl rfl (fun _ => ?_) (fun _ => ?_)
    refine vQ4 tab rfl rfl rfl rfl (vQ tab rfl ?_)
    refine vg_op rfl rfl rfl (fun _ => ?_) (fun _ => ?_)
    refine vQ2 tab rfl rfl (vF rfl callable_58 (refnum_fun _) (vQ2 tab rfl rfl (vQ tab rfl ?_)))
    refine vg_op rfl rfl rfl (fun _ => ?_) (fun _ => ?_)
    refine vQ2 tab rfl rfl (vF rfl callable_58 (refnum_fun _) (vQ2 tab rfl rfl (vQ tab rfl ?_)))
    refine vg_op rfl rfl rfl (fun _ => ?_) (fun _ => ?_)
    refine vQ2 tab rfl rfl (vF rfl callable_58 (refnum_fun _) (vQ2 tab rfl rfl (vQ tab rfl ?_)))
    refine vg_op rfl rfl rfl (fun _ => ?_) (fun _ => ?_)
    refine vQ4 tab rfl rfl rfl rfl (vQ tab rfl ?_)
    refine vg_op rfl rfl rfl (fun _ => ?_) (fun _ => ?_)
    refine vQ4 tab rfl rfl rfl rfl (vnl (qth ?_))
    refine vc_part rfl (fun _ => ?_) (fun _ => ?_)
    refine wsq (wrg (vQ tab rfl (vnl (qth (vw_ret (q_thenr ?_))))))
    rotate_left
    refine vw_skip (qth (wsq (wrg (vQ4 tab rfl rfl rfl rfl (vK3 rfl rfl rfl (vQ2 tab rfl rfl (vnl (qth (vw_ret ?_)))))))))
    rotate_left
    refine vK3 rfl rfl rfl (vQ tab rfl (vnl (qth (vc_true rfl (wsq (wrg (vQ tab rfl (vnl (qth (vw_ret (q_thenr ?_)))))))))))
    rotate_left
    refine vK3 rfl rfl rfl (vQ2 tab rfl rfl (vK3 rfl rfl rfl (vQ tab rfl (vnl (qth (vc_true rfl (wsq (wrg (vQ tab rfl (vnl (qth (vw_ret (q_thenr ?_)))))))))))))
    rotate_left
    refine vK4 rfl rfl rfl rfl (vQ2 tab rfl rfl (vK3 rfl rfl rfl (vQ2 tab rfl rfl (vK3 rfl rfl rfl (vQ tab rfl (vnl (qth (vc_true rfl (wsq (wrg (vQ tab rfl (vnl (qth (vw_ret ?_))))))))))))))
    refine q_thenr ?_
    rotate_left
    refine vK4 rfl rfl rfl rfl (vQ2 tab rfl rfl (vK4 rfl rfl rfl rfl (vQ2 tab rfl rfl (vK3 rfl rfl rfl (vQ2 tab rfl rfl (vK3 rfl rfl rfl (vQ tab rfl (vnl (qth (vc_true rfl ?_))))))))))
    refine wsq (wrg (vQ tab rfl (vnl (qth (vw_ret (q_thenr ?_))))))
    rotate_left
    refine vK4 rfl rfl rfl rfl (vQ2 tab rfl rfl (vK4 rfl rfl rfl rfl (vQ2 tab rfl rfl (vK4 rfl rfl rfl rfl (vQ2 tab rfl rfl (vK3 rfl rfl rfl (vQ2 tab rfl rfl (vK rfl ?_))))))))
    refine vK2 rfl rfl (vQ tab rfl (vnl (qth (vc_true rfl (wsq (wrg (vQ tab rfl (vnl (qth (vw_ret (q_thenr ?_)))))))))))
    rotate_left
    refine vK3 rfl rfl rfl (vQ2 tab rfl rfl (vK4 rfl rfl rfl rfl (vQ2 tab rfl rfl (vK4 rfl rfl rfl rfl (vQ2 tab rfl rfl (vK4 rfl rfl rfl rfl (vQ2 tab rfl rfl (vK rfl ?_))))))))
    refine vK2 rfl rfl (vQ2 tab rfl rfl (vK3 rfl rfl rfl (vQ tab rfl (vnl (qth (vc_true rfl (wsq (wrg (vQ tab rfl (vnl (qth (vw_ret (q_thenr ?_)))))))))))))
    rotate_left
    refine vK3 rfl rfl rfl (vQ2 tab rfl rfl (vK3 rfl rfl rfl (vQ2 tab rfl rfl (vK4 rfl rfl rfl rfl (vQ2 tab rfl rfl (vK4 rfl rfl rfl rfl (vQ2 tab rfl rfl (vK rfl (vK rfl ?_)))))))))
    refine vK2 rfl rfl (vQ2 tab rfl rfl (vK3 rfl rfl rfl (vQ2 tab rfl rfl (vK3 rfl rfl rfl (vQ tab rfl (vnl (qth (vc_true rfl (wsq (wrg (vQ tab rfl (vnl (qth (vw_ret (q_thenr ?_)))))))))))))))
    rotate_left
    refine vK3 rfl rfl rfl (vQ2 tab rfl rfl (vK3 rfl rfl rfl (vQ2 tab rfl rfl (vK3 rfl rfl rfl (vQ2 tab rfl rfl (vK4 rfl rfl rfl rfl (vQ2 tab rfl rfl (vK2 rfl rfl (vK rfl ?_)))))))))
    refine vK rfl (vQ2 tab rfl rfl (vK4 rfl rfl rfl rfl (vQ2 tab rfl rfl (vK3 rfl rfl rfl (vQ2 tab rfl rfl (vK3 rfl rfl rfl (vQ tab rfl (vnl (qth (vc_true rfl (wsq (wrg (vQ tab rfl ?_)))))))))))))
    refine vnl (qth (vw_ret (q_thenr ?_)))
    rotate_left
    refine vK3 rfl rfl rfl (vQ2 tab rfl rfl (vK3 rfl rfl rfl (vQ2 tab rfl rfl (vK3 rfl rfl rfl (vQ2 tab rfl rfl (vK3 rfl rfl rfl (vQ2 tab rfl rfl (vK3 rfl rfl rfl (vK rfl ?_)))))))))
    refine vQ2 tab rfl rfl (vK4 rfl rfl rfl rfl (vQ2 tab rfl rfl (vK4 rfl rfl rfl rfl (vQ2 tab rfl rfl (vK3 rfl rfl rfl (vQ2 tab rfl rfl (vK3 rfl rfl rfl (vQ tab rfl (vnl ?_)))))))))
    refine qth (vc_true rfl (wsq (wrg (vQ tab rfl (vnl (qth (vw_ret (q_thenr ?_))))))))
    rotate_left
    refine vK3 rfl rfl rfl (vQ2 tab rfl rfl (vK3 rfl rfl rfl (vQ2 tab rfl rfl (vK3 rfl rfl rfl (vQ2 tab rfl rfl (vK3 rfl rfl rfl (vQ2 tab rfl rfl (vK3 rfl rfl rfl (vQ tab rfl ?_)))))))))
    refine vQ tab rfl (vK4 rfl rfl rfl rfl (vQ2 tab rfl rfl (vK4 rfl rfl rfl rfl (vQ2 tab rfl rfl (vK4 rfl rfl rfl rfl (vQ2 tab rfl rfl (vK3 rfl rfl rfl (vQ tab rfl (vQ tab rfl ?_)))))))))
    refine vK3 rfl rfl rfl (vQ tab rfl (vnl (qth (vc_true rfl (wsq (wrg (vQ tab rfl (vnl (qth (vw_ret (q_thenr ?_)))))))))))
    rotate_left
    refine vK3 rfl rfl rfl (vQ2 tab rfl rfl (vK3 rfl rfl rfl (vQ2 tab rfl rfl (vK3 rfl rfl rfl (vQ2 tab rfl rfl (vK3 rfl rfl rfl (vQ2 tab rfl rfl (vK3 rfl rfl rfl (vQ tab rfl ?_)))))))))
    refine vQ tab rfl (vK3 rfl rfl rfl (vQ2 tab rfl rfl (vK4 rfl rfl rfl rfl (vQ2 tab rfl rfl (vK4 rfl rfl rfl rfl (vQ2 tab rfl rfl (vK4 rfl rfl rfl rfl (vQ tab rfl (vQ tab rfl ?_)))))))))
    refine vK3 rfl rfl rfl (vQ2 tab rfl rfl (vK3 rfl rfl rfl (vQ tab rfl (vnl (qth (vc_true rfl (wsq (wrg (vQ tab rfl (vnl (qth (vw_ret (q_thenr ?_)))))))))))))
    rotate_left
    all_goals exact ⟨.inr rfl, Eq.trans (b := some (.bool _)) rfl (congrArg (fun b => some (Value.bool b)) (by unfold evtMay evtPlain; simp [evtPlain, evtNums, evtMake, evtText, okN] at * <;> first | omega | (rw [Bool.eq_iff_iff]; simp; omega)))⟩
  · refine wsq (wrg (vN tab rfl (vQ tab rfl (vnl (qth (wsq (wrg (vQ tab rfl (vF rfl callable_57 (refevt_part ⟨1, f1, f2, f3, f4, f5, f6, f7⟩) (vQ3 tab rfl rfl rfl (vN tab rfl (vS tab rfl (vQ tab rfl (vnl (qth (wsq (wsq (wrg (vQ2 tab rfl rfl (vQ tab rfl ?_))))))))))))))))))))
    refine vQ2 tab rfl rfl (vq_op tab ⟨_, _, rfl, rfl, rfl⟩ rfl rfl (ev_neq rfl rfl rfl (evt_eq (evtPlain ⟨1, f1, f2, f3, f4, f5, f6, f7⟩) ⟨1, f1, f2, f3, f4, f5, f6, f7⟩)) (vQ tab rfl (vQ tab rfl ?_)))
    refine vg_op rfl rfl rfl (fun _ => ?_) (fun _ => ?_)
    refine vQ4 tab rfl rfl rfl rfl (vQ tab rfl ?_)
    refine vg_op rfl rfl rfl (fun _ => ?_) (fun _ => ?_)
    refine vQ4 tab rfl rfl rfl rfl (vQ tab rfl ?_)
    refine vg_op rfl rfl rfl (fun _ => ?_) (fun _ => ?_)
    refine vQ4 tab rfl rfl rfl rfl (vQ tab rfl ?_)
    refine vg_op rfl rfl rfl (fun _ => ?_) (fun _ => ?_)
    refine vQ4 tab rfl rfl rfl rfl (vQ tab rfl ?_)
    refine vg_op rfl rfl rfl (fun _ => ?_) (fun _ => ?_)
    refine vQ4 tab rfl rfl rfl rfl (vQ tab rfl ?_)
    refine vg_op rfl rfl rfl (fun _ => ?_) (fun _ => ?_)
    refine vQ4 tab rfl rfl rfl rfl (vQ tab rfl ?_)
    refine vg_op rfl rfl rfl (fun _ => ?_) (fun _ => ?_)
    refine vQ2 tab rfl rfl (vF rfl callable_58 (refnum_fun _) (vQ2 tab rfl rfl (vQ tab rfl ?_)))
    refine vg_op rfl rfl rfl (fun _ => ?_) (fun _ => ?_)
    refine vQ2 tab rfl rfl (vF rfl callable_58 (refnum_fun _) (vQ2 tab rfl rfl (vQ tab rfl ?_)))
    refine vg_op rfl rfl rfl (fun _ => ?_) (fun _ => ?_)
    refine vQ2 tab rfl rfl (vF rfl callable_58 (refnum_fun _) (vQ2 tab rfl rfl (vQ tab rfl ?_)))
    refine vg_op rfl rfl rfl (fun _ => ?_) (fun _ => ?_)
    refine vQ4 tab rfl rfl rfl rfl (vQ tab rfl ?_)
    refine vg_op rfl rfl rfl (fun _ => ?_) (fun _ => ?_)
    refine vQ4 tab rfl rfl rfl rfl (vnl (qth ?_))
    refine vc_part rfl (fun _ => ?_) (fun _ => ?_)
    refine wsq (wrg (vQ tab rfl (vnl (qth (vw_ret (q_thenr ?_))))))
    rotate_left
    refine vw_skip (qth (wsq (wrg (vQ4 tab rfl rfl rfl rfl (vK3 rfl rfl rfl (vQ2 tab rfl rfl (vnl (qth (vw_ret ?_)))))))))
    rotate_left
    refine vK3 rfl rfl rfl (vQ tab rfl (vnl (qth (vc_true rfl (wsq (wrg (vQ tab rfl (vnl (qth (vw_ret (q_thenr ?_)))))))))))
    rotate_left
    refine vK3 rfl rfl rfl (vQ2 tab rfl rfl (vK3 rfl rfl rfl (vQ tab rfl (vnl (qth (vc_true rfl (wsq (wrg (vQ tab rfl (vnl (qth (vw_ret (q_thenr ?_)))))))))))))
    rotate_left
    refine vK4 rfl rfl rfl rfl (vQ2 tab rfl rfl (vK3 rfl rfl rfl (vQ2 tab rfl rfl (vK3 rfl rfl rfl (vQ tab rfl (vnl (qth (vc_true rfl (wsq (wrg (vQ tab rfl (vnl (qth (vw_ret ?_))))))))))))))
    refine q_thenr ?_
    rotate_left
    refine vK4 rfl rfl rfl rfl (vQ2 tab rfl rfl (vK4 rfl rfl rfl rfl (vQ2 tab rfl rfl (vK3 rfl rfl rfl (vQ2 tab rfl rfl (vK3 rfl rfl rfl (vQ tab rfl (vnl (qth (vc_true rfl ?_))))))))))
    refine wsq (wrg (vQ tab rfl (vnl (qth (vw_ret (q_thenr ?_))))))
    rotate_left
    refine vK4 rfl rfl rfl rfl (vQ2 tab rfl rfl (vK4 rfl rfl rfl rfl (vQ2 tab rfl rfl (vK4 rfl rfl rfl rfl (vQ2 tab rfl rfl (vK3 rfl rfl rfl (vQ2 tab rfl rfl (vK rfl ?_))))))))
    refine vK2 rfl rfl (vQ tab rfl (vnl (qth (vc_true rfl (wsq (wrg (vQ tab rfl (vnl (qth (vw_ret (q_thenr ?_)))))))))))
    rotate_left
    refine vK3 rfl rfl rfl (vQ2 tab rfl rfl (vK4 rfl rfl rfl rfl (vQ2 tab rfl rfl (vK4 rfl rfl rfl rfl (vQ2 tab rfl rfl (vK4 rfl rfl rfl rfl (vQ2 tab rfl rfl (vK rfl ?_))))))))
    refine vK2 rfl rfl (vQ2 tab rfl rfl (vK3 rfl rfl rfl (vQ tab rfl (vnl (qth (vc_true rfl (wsq (wrg (vQ tab rfl (vnl (qth (vw_ret (q_thenr ?_)))))))))))))
    rotate_left
    refine vK3 rfl rfl rfl (vQ2 tab rfl rfl (vK3 rfl rfl rfl (vQ2 tab rfl rfl (vK4 rfl rfl rfl rfl (vQ2 tab rfl rfl (vK4 rfl rfl rfl rfl (vQ2 tab rfl rfl (vK rfl (vK rfl ?_)))))))))
    refine vK2 rfl rfl (vQ2 tab rfl rfl (vK3 rfl rfl rfl (vQ2 tab rfl rfl (vK3 rfl rfl rfl (vQ tab rfl (vnl (qth (vc_true rfl (wsq (wrg (vQ tab rfl (vnl (qth (vw_ret (q_thenr ?_)))))))))))))))
    rotate_left
    refine vK3 rfl rfl rfl (vQ2 tab rfl rfl (vK3 rfl rfl rfl (vQ2 tab rfl rfl (vK3 rfl rfl rfl (vQ2 tab rfl rfl (vK4 rfl rfl rfl rfl (vQ2 tab rfl rfl (vK2 rfl rfl (vK rfl ?_)))))))))
    refine vK rfl (vQ2 tab rfl rfl (vK4 rfl rfl rfl rfl (vQ2 tab rfl rfl (vK3 rfl rfl rfl (vQ2 tab rfl rfl (vK3 rfl rfl rfl (vQ tab rfl (vnl (qth (vc_true rfl (wsq (wrg (vQ tab rfl ?_)))))))))))))
    refine vnl (qth (vw_ret (q_thenr ?_)))
    rotate_left
    refine vK3 rfl rfl rfl (vQ2 tab rfl rfl (vK3 rfl rfl rfl (vQ2 tab rfl rfl (vK3 rfl rfl rfl (vQ2 tab rfl rfl (vK3 rfl rfl rfl (vQ2 tab rfl rfl (vK3 rfl rfl rfl (vK rfl ?_)))))))))
    refine vQ2 tab rfl rfl (vK4 rfl rfl rfl rfl (vQ2 tab rfl rfl (vK4 rfl rfl rfl rfl (vQ2 tab rfl rfl (vK3 rfl rfl rfl (vQ2 tab rfl rfl (vK3 rfl rfl rfl (vQ tab rfl (vnl ?_)))))))))
    refine qth (vc_true rfl (wsq (wrg (vQ tab rfl (vnl (qth (vw_ret (q_thenr ?_))))))))
    rotate_left
    refine vK3 rfl rfl rfl (vQ2 tab rfl rfl (vK3 rfl rfl rfl (vQ2 tab rfl rfl (vK3 rfl rfl rfl (vQ2 tab rfl rfl (vK3 rfl rfl rfl (vQ2 tab rfl rfl (vK3 rfl rfl rfl (vQ tab rfl ?_)))))))))
    refine vQ tab rfl (vK4 rfl rfl rfl rfl (vQ2 tab rfl rfl (vK4 rfl rfl rfl rfl (vQ2 tab rfl rfl (vK4 rfl rfl rfl rfl (vQ2 tab rfl rfl (vK3 rfl rfl rfl (vQ tab rfl (vQ tab rfl ?_)))))))))
    refine vK3 rfl rfl rfl (vQ tab rfl (vnl (qth (vc_true rfl (wsq (wrg (vQ tab rfl (vnl (qth (vw_ret (q_thenr ?_)))))))))))
    rotate_left
    refine vK3 rfl rfl rfl (vQ2 tab rfl rfl (vK3 rfl rfl rfl (vQ2 tab rfl rfl (vK3 rfl rfl rfl (vQ2 tab rfl rfl (vK3 rfl rfl rfl (vQ2 tab rfl rfl (vK3 rfl rfl rfl (vQ tab rfl ?_)))))))))
    refine vQ tab rfl (vK3 rfl rfl rfl (vQ2 tab rfl rfl (vK4 rfl rfl rfl rfl (vQ2 tab rfl rfl (vK4 rfl rfl rfl rfl (vQ2 tab rfl rfl (vK4 rfl rfl rfl rfl (vQ tab rfl (vQ tab rfl ?_)))))))))
    refine vK3 rfl rfl rfl (vQ2 tab rfl rfl (vK3 rfl rfl rfl (vQ tab rfl (vnl (qth (vc_true rfl (wsq (wrg (vQ tab rfl (vnl (qth (vw_ret (q_thenr ?_)))))))))))))
    rotate_left
    all_goals exact ⟨.inr rfl, Eq.trans (b := some (.bool _)) rfl (congrArg (fun b => some (Value.bool b)) (by unfold evtMay evtPlain; simp [evtPlain, evtNums, evtMake, evtText, okN] at * <;> first | omega | (rw [Bool.eq_iff_iff]; simp; omega)))⟩
  · refine wsq (wrg (vN tab rfl (vQ tab rfl (vnl (qth (wsq (wrg (vQ tab rfl (vF rfl callable_57 (refevt_part ⟨2, f1, f2, f3, f4, f5, f6, f7⟩) (vQ3 tab rfl rfl rfl (vN tab rfl (vS tab rfl (vQ tab rfl (vnl (qth (wsq (wsq (wrg (vQ2 tab rfl rfl (vQ tab rfl ?_))))))))))))))))))))
    refine vQ2 tab rfl rfl (vq_op tab ⟨_, _, rfl, rfl, rfl⟩ rfl rfl (ev_neq rfl rfl rfl (evt_eq (evtPlain ⟨2, f1, f2, f3, f4, f5, f6, f7⟩) ⟨2, f1, f2, f3, f4, f5, f6, f7⟩)) (vQ tab rfl (vQ tab rfl ?_)))
    refine vg_op rfl rfl rfl (fun _ => ?_) (fun _ => ?_)
    refine vQ4 tab rfl rfl rfl rfl (vQ tab rfl ?_)
    refine vg_op rfl rfl rfl (fun _ => ?_) (fun _ => ?_)
    refine vQ4 tab rfl rfl rfl rfl (vQ tab rfl ?_)
    refine vg_op rfl rfl rfl (fun _ => ?_) (fun _ => ?_)
    refine vQ4 tab rfl rfl rfl rfl (vQ tab rfl ?_)
    refine vg_op rfl rfl rfl (fun _ => ?_) (fun _ => ?_)
    refine vQ4 tab rfl rfl rfl rfl (vQ tab rfl ?_)
    refine vg_op rfl rfl rfl (fun _ => ?_) (fun _ => ?_)
    refine vQ4 tab rfl rfl rfl rfl (vQ tab rfl ?_)
    refine vg_op rfl rfl rfl (fun _ => ?_) (fun _ => ?_)
    refine vQ4 tab rfl rfl rfl rfl (vQ tab rfl ?_)
    refine vg_op rfl rfl rfl (fun _ => ?_) (fun _ => ?_)
    refine vQ2 tab rfl rfl (vF rfl callable_58 (refnum_fun _) (vQ2 tab rfl rfl (vQ tab rfl ?_)))
    refine vg_op rfl rfl rfl (fun _ => ?_) (fun _ => ?_)
    refine vQ2 tab rfl rfl (vF rfl callable_58 (refnum_fun _) (vQ2 tab rfl rfl (vQ tab rfl ?_)))
    refine vg_op rfl rfl rfl (fun _ => ?_) (fun _ => ?_)
    refine vQ2 tab rfl rfl (vF rfl callable_58 (refnum_fun _) (vQ2 tab rfl rfl (vQ tab rfl ?_)))
    refine vg_op rfl rfl rfl (fun _ => ?_) (fun _ => ?_)
    refine vQ4 tab rfl rfl rfl rfl (vQ tab rfl ?_)
    refine vg_op rfl rfl rfl (fun _ => ?_) (fun _ => ?_)
    refine vQ4 tab rfl rfl rfl rfl (vnl (qth ?_))
    refine vc_part rfl (fun _ => ?_) (fun _ => ?_)
    refine wsq (wrg (vQ tab rfl (vnl (qth (vw_ret (q_thenr ?_))))))
    rotate_left
    refine vw_skip (qth (wsq (wrg (vQ4 tab rfl rfl rfl rfl (vK3 rfl rfl rfl (vQ2 tab rfl rfl (vnl (qth (vw_ret ?_)))))))))
    rotate_left
    refine vK3 rfl rfl rfl (vQ tab rfl (vnl (qth (vc_true rfl (wsq (wrg (vQ tab rfl (vnl (qth (vw_ret (q_thenr ?_)))))))))))
    rotate_left
    refine vK3 rfl rfl rfl (vQ2 tab rfl rfl (vK3 rfl rfl rfl (vQ tab rfl (vnl (qth (vc_true rfl (wsq (wrg (vQ tab rfl (vnl (qth (vw_ret (q_thenr ?_)))))))))))))
    rotate_left
    refine vK4 rfl rfl rfl rfl (vQ2 tab rfl rfl (vK3 rfl rfl rfl (vQ2 tab rfl rfl (vK3 rfl rfl rfl (vQ tab rfl (vnl (qth (vc_true rfl (wsq (wrg (vQ tab rfl (vnl (qth (vw_ret ?_))))))))))))))
    refine q_thenr ?_
    rotate_left
    refine vK4 rfl rfl rfl rfl (vQ2 tab rfl rfl (vK4 rfl rfl rfl rfl (vQ2 tab rfl rfl (vK3 rfl rfl rfl (vQ2 tab rfl rfl (vK3 rfl rfl rfl (vQ tab rfl (vnl (qth (vc_true rfl ?_))))))))))
    refine wsq (wrg (vQ tab rfl (vnl (qth (vw_ret (q_thenr ?_))))))
    rotate_left
    refine vK4 rfl rfl rfl rfl (vQ2 tab rfl rfl (vK4 rfl rfl rfl rfl (vQ2 tab rfl rfl (vK4 rfl rfl rfl rfl (vQ2 tab rfl rfl (vK3 rfl rfl rfl (vQ2 tab rfl rfl (vK rfl ?_))))))))
    refine vK2 rfl rfl (vQ tab rfl (vnl (qth (vc_true rfl (wsq (wrg (vQ tab rfl (vnl (qth (vw_ret (q_thenr ?_)))))))))))
    rotate_left
    refine vK3 rfl rfl rfl (vQ2 tab rfl rfl (vK4 rfl rfl rfl rfl (vQ2 tab rfl rfl (vK4 rfl rfl rfl rfl (vQ2 tab rfl rfl (vK4 rfl rfl rfl rfl (vQ2 tab rfl rfl (vK rfl ?_))))))))
    refine vK2 rfl rfl (vQ2 tab rfl rfl (vK3 rfl rfl rfl (vQ tab rfl (vnl (qth (vc_true rfl (wsq (wrg (vQ tab rfl (vnl (qth (vw_ret (q_thenr ?_)))))))))))))
    rotate_left
    refine vK3 rfl rfl rfl (vQ2 tab rfl rfl (vK3 rfl rfl rfl (vQ2 tab rfl rfl (vK4 rfl rfl rfl rfl (vQ2 tab rfl rfl (vK4 rfl rfl rfl rfl (vQ2 tab rfl rfl (vK rfl (vK rfl ?_)))))))))
    refine vK2 rfl rfl (vQ2 tab rfl rfl (vK3 rfl rfl rfl (vQ2 tab rfl rfl (vK3 rfl rfl rfl (vQ tab rfl (vnl (qth (vc_true rfl (wsq (wrg (vQ tab rfl (vnl (qth (vw_ret (q_thenr ?_)))))))))))))))
    rotate_left
    refine vK3 rfl rfl rfl (vQ2 tab rfl rfl (vK3 rfl rfl rfl (vQ2 tab rfl rfl (vK3 rfl rfl rfl (vQ2 tab rfl rfl (vK4 rfl rfl rfl rfl (vQ2 tab rfl rfl (vK2 rfl rfl (vK rfl ?_)))))))))
    refine vK rfl (vQ2 tab rfl rfl (vK4 rfl rfl rfl rfl (vQ2 tab rfl rfl (vK3 rfl rfl rfl (vQ2 tab rfl rfl (vK3 rfl rfl rfl (vQ tab rfl (vnl (qth (vc_true rfl (wsq (wrg (vQ tab rfl ?_)))))))))))))
    refine vnl (qth (vw_ret (q_thenr ?_)))
    rotate_left
    refine vK3 rfl rfl rfl (vQ2 tab rfl rfl (vK3 rfl rfl rfl (vQ2 tab rfl rfl (vK3 rfl rfl rfl (vQ2 tab rfl rfl (vK3 rfl rfl rfl (vQ2 tab rfl rfl (vK3 rfl rfl rfl (vK rfl ?_)))))))))
    refine vQ2 tab rfl rfl (vK4 rfl rfl rfl rfl (vQ2 tab rfl rfl (vK4 rfl rfl rfl rfl (vQ2 tab rfl rfl (vK3 rfl rfl rfl (vQ2 tab rfl rfl (vK3 rfl rfl rfl (vQ tab rfl (vnl ?_)))))))))
    refine qth (vc_true rfl (wsq (wrg (vQ tab rfl (vnl (qth (vw_ret (q_thenr ?_))))))))
    rotate_left
    refine vK3 rfl rfl rfl (vQ2 tab rfl rfl (vK3 rfl rfl rfl (vQ2 tab rfl rfl (vK3 rfl rfl rfl (vQ2 tab rfl rfl (vK3 rfl rfl rfl (vQ2 tab rfl rfl (vK3 rfl rfl rfl (vQ tab rfl ?_)))))))))
    refine vQ tab rfl (vK4 rfl rfl rfl rfl (vQ2 tab rfl rfl (vK4 rfl rfl rfl rfl (vQ2 tab rfl rfl (vK4 rfl rfl rfl rfl (vQ2 tab rfl rfl (vK3 rfl rfl rfl (vQ tab rfl (vQ tab rfl ?_)))))))))
    refine vK3 rfl rfl rfl (vQ tab rfl (vnl (qth (vc_true rfl (wsq (wrg (vQ tab rfl (vnl (qth (vw_ret (q_thenr ?_)))))))))))
    rotate_left
    refine vK3 rfl rfl rfl (vQ2 tab rfl rfl (vK3 rfl rfl rfl (vQ2 tab rfl rfl (vK3 rfl rfl rfl (vQ2 tab rfl rfl (vK3 rfl rfl rfl (vQ2 tab rfl rfl (vK3 rfl rfl rfl (vQ tab rfl ?_)))))))))
    refine vQ tab rfl (vK3 rfl rfl rfl (vQ2 tab rfl rfl (vK4 rfl rfl rfl rfl (vQ2 tab rfl rfl (vK4 rfl rfl rfl rfl (vQ2 tab rfl rfl (vK4 rfl rfl rfl rfl (vQ tab rfl (vQ tab rfl ?_)))))))))
    refine vK3 rfl rfl rfl (vQ2 tab rfl rfl (vK3 rfl rfl rfl (vQ tab rfl (vnl (qth (vc_true rfl (wsq (wrg (vQ tab rfl (vnl (qth (vw_ret (q_thenr ?_)))))))))))))
    rotate_left
    all_goals exact ⟨.inr rfl, Eq.trans (b := some (.bool _)) rfl (congrArg (fun b => some (Value.bool b)) (by unfold evtMay evtPlain; simp [evtPlain, evtNums, evtMake, evtText, okN] at * <;> first | omega | (rw [Bool.eq_iff_iff]; simp; omega)))⟩
  · refine wsq (wrg (vN tab rfl (vQ tab rfl (vnl (qth (wsq (wrg (vQ tab rfl (vF rfl callable_57 (refevt_part ⟨3, f1, f2, f3, f4, f5, f6, f7⟩) (vQ3 tab rfl rfl rfl (vN tab rfl (vS tab rfl (vQ tab rfl (vnl (qth (wsq (wsq (wrg (vQ2 tab rfl rfl (vQ tab rfl ?_))))))))))))))))))))
    refine vQ2 tab rfl rfl (vq_op tab ⟨_, _, rfl, rfl, rfl⟩ rfl rfl (ev_neq rfl rfl rfl (evt_eq (evtPlain ⟨3, f1, f2, f3, f4, f5, f6, f7⟩) ⟨3, f1, f2, f3, f4, f5, f6, f7⟩)) (vQ tab rfl (vQ tab rfl ?_)))
    refine vg_op rfl rfl rfl (fun _ => ?_) (fun _ => ?_)
    refine vQ4 tab rfl rfl rfl rfl (vQ tab rfl ?_)
    refine vg_op rfl rfl rfl (fun _ => ?_) (fun _ => ?_)
    refine vQ4 tab rfl rfl rfl rfl (vQ tab rfl ?_)
    refine vg_op rfl rfl rfl (fun _ => ?_) (fun _ => ?_)
    refine vQ4 tab rfl rfl rfl rfl (vQ tab rfl ?_)
    refine vg_op rfl rfl rfl (fun _ => ?_) (fun _ => ?_)
    refine vQ4 tab rfl rfl rfl rfl (vQ tab rfl ?_)
    refine vg_op rfl rfl rfl (fun _ => ?_) (fun _ => ?_)
    refine vQ4 tab rfl rfl rfl rfl (vQ tab rfl ?_)
    refine vg_op rfl rfl rfl (fun _ => ?_) (fun _ => ?_)
    refine vQ4 tab rfl rfl rfl rfl (vQ tab rfl ?_)
    refine vg_op rfl rfl rfl (fun _ => ?_) (fun _ => ?_)
    refine vQ2 tab rfl rfl (vF rfl callable_58 (refnum_fun _) (vQ2 tab rfl rfl (vQ tab rfl ?_)))
    refine vg_op rfl rfl rfl (fun _ => ?_) (fun _ => ?_)
    refine vQ2 tab rfl rfl (vF rfl callable_58 (refnum_fun _) (vQ2 tab rfl rfl (vQ tab rfl ?_)))
    refine vg_op rfl rfl rfl (fun _ => ?_) (fun _ => ?_)
    refine vQ2 tab rfl rfl (vF rfl callable_58 (refnum_fun _) (vQ2 tab rfl rfl (vQ tab rfl ?_)))
    refine vg_op rfl rfl rfl (fun _ => ?_) (fun _ => ?_)
    refine vQ4 tab rfl rfl rfl rfl (vQ tab rfl ?_)
    refine vg_op rfl rfl rfl (fun _ => ?_) (fun _ => ?_)
    refine vQ4 tab rfl rfl rfl rfl (vnl (qth ?_))
    refine vc_part rfl (fun _ => ?_) (fun _ => ?_)
    refine wsq (wrg (vQ tab rfl (vnl (qth (vw_ret (q_thenr ?_))))))
    rotate_left
    refine vw_skip (qth (wsq (wrg (vQ4 tab rfl rfl rfl rfl (vK3 rfl rfl rfl (vQ2 tab rfl rfl (vnl (qth (vw_ret ?_)))))))))
    rotate_left
    refine vK3 rfl rfl rfl (vQ tab rfl (vnl (qth (vc_true rfl (wsq (wrg (vQ tab rfl (vnl (qth (vw_ret (q_thenr ?_)))))))))))
    rotate_left
    refine vK3 rfl rfl rfl (vQ2 tab rfl rfl (vK3 rfl rfl rfl (vQ tab rfl (vnl (qth (vc_true rfl (wsq (wrg (vQ tab rfl (vnl (qth (vw_ret (q_thenr ?_)))))))))))))
    rotate_left
    refine vK4 rfl rfl rfl rfl (vQ2 tab rfl rfl (vK3 rfl rfl rfl (vQ2 tab rfl rfl (vK3 rfl rfl rfl (vQ tab rfl (vnl (qth (vc_true rfl (wsq (wrg (vQ tab rfl (vnl (qth (vw_ret ?_))))))))))))))
    refine q_thenr ?_
    rotate_left
    refine vK4 rfl rfl rfl rfl (vQ2 tab rfl rfl (vK4 rfl rfl rfl rfl (vQ2 tab rfl rfl (vK3 rfl rfl rfl (vQ2 tab rfl rfl (vK3 rfl rfl rfl (vQ tab rfl (vnl (qth (vc_true rfl ?_))))))))))
    refine wsq (wrg (vQ tab rfl (vnl (qth (vw_ret (q_thenr ?_))))))
    rotate_left
    refine vK4 rfl rfl rfl rfl (vQ2 tab rfl rfl (vK4 rfl rfl rfl rfl (vQ2 tab rfl rfl (vK4 rfl rfl rfl rfl (vQ2 tab rfl rfl (vK3 rfl rfl rfl (vQ2 tab rfl rfl (vK rfl ?_))))))))
    refine vK2 rfl rfl (vQ tab rfl (vnl (qth (vc_true rfl (wsq (wrg (vQ tab rfl (vnl (qth (vw_ret (q_thenr ?_)))))))))))
    rotate_left
    refine vK3 rfl rfl rfl (vQ2 tab rfl rfl (vK4 rfl rfl rfl rfl (vQ2 tab rfl rfl (vK4 rfl rfl rfl rfl (vQ2 tab rfl rfl (vK4 rfl rfl rfl rfl (vQ2 tab rfl rfl (vK rfl ?_))))))))
    refine vK2 rfl rfl (vQ2 tab rfl rfl (vK3 rfl rfl rfl (vQ tab rfl (vnl (qth (vc_true rfl (wsq (wrg (vQ tab rfl (vnl (qth (vw_ret (q_thenr ?_)))))))))))))
    rotate_left
    refine vK3 rfl rfl rfl (vQ2 tab rfl rfl (vK3 rfl rfl rfl (vQ2 tab rfl rfl (vK4 rfl rfl rfl rfl (vQ2 tab rfl rfl (vK4 rfl rfl rfl rfl (vQ2 tab rfl rfl (vK rfl (vK rfl ?_)))))))))
    refine vK2 rfl rfl (vQ2 tab rfl rfl (vK3 rfl rfl rfl (vQ2 tab rfl rfl (vK3 rfl rfl rfl (vQ tab rfl (vnl (qth (vc_true rfl (wsq (wrg (vQ tab rfl (vnl (qth (vw_ret (q_thenr ?_)))))))))))))))
    rotate_left
    refine vK3 rfl rfl rfl (vQ2 tab rfl rfl (vK3 rfl rfl rfl (vQ2 tab rfl rfl (vK3 rfl rfl rfl (vQ2 tab rfl rfl (vK4 rfl rfl rfl rfl (vQ2 tab rfl rfl (vK2 rfl rfl (vK rfl ?_)))))))))
    refine vK rfl (vQ2 tab rfl rfl (vK4 rfl rfl rfl rfl (vQ2 tab rfl rfl (vK3 rfl rfl rfl (vQ2 tab rfl rfl (vK3 rfl rfl rfl (vQ tab rfl (vnl (qth (vc_true rfl (wsq (wrg (vQ tab rfl ?_)))))))))))))
    refine vnl (qth (vw_ret (q_thenr ?_)))
    rotate_left
    refine vK3 rfl rfl rfl (vQ2 tab rfl rfl (vK3 rfl rfl rfl (vQ2 tab rfl rfl (vK3 rfl rfl rfl (vQ2 tab rfl rfl (vK3 rfl rfl rfl (vQ2 tab rfl rfl (vK3 rfl rfl rfl (vK rfl ?_)))))))))
    refine vQ2 tab rfl rfl (vK4 rfl rfl rfl rfl (vQ2 tab rfl rfl (vK4 rfl rfl rfl rfl (vQ2 tab rfl rfl (vK3 rfl rfl rfl (vQ2 tab rfl rfl (vK3 rfl rfl rfl (vQ tab rfl (vnl ?_)))))))))
    refine qth (vc_true rfl (wsq (wrg (vQ tab rfl (vnl (qth (vw_ret (q_thenr ?_))))))))
    rotate_left
    refine vK3 rfl rfl rfl (vQ2 tab rfl rfl (vK3 rfl rfl rfl (vQ2 tab rfl rfl (vK3 rfl rfl rfl (vQ2 tab rfl rfl (vK3 rfl rfl rfl (vQ2 tab rfl rfl (vK3 rfl rfl rfl (vQ tab rfl ?_)))))))))
    refine vQ tab rfl (vK4 rfl rfl rfl rfl (vQ2 tab rfl rfl (vK4 rfl rfl rfl rfl (vQ2 tab rfl rfl (vK4 rfl rfl rfl rfl (vQ2 tab rfl rfl (vK3 rfl rfl rfl (vQ tab rfl (vQ tab rfl ?_)))))))))
    refine vK3 rfl rfl rfl (vQ tab rfl (vnl (qth (vc_true rfl (wsq (wrg (vQ tab rfl (vnl (qth (vw_ret (q_thenr ?_)))))))))))
    rotate_left
    refine vK3 rfl rfl rfl (vQ2 tab rfl rfl (vK3 rfl rfl rfl (vQ2 tab rfl rfl (vK3 rfl rfl rfl (vQ2 tab rfl rfl (vK3 rfl rfl rfl (vQ2 tab rfl rfl (vK3 rfl rfl rfl (vQ tab rfl ?_)))))))))
    refine vQ tab rfl (vK3 rfl rfl rfl (vQ2 tab rfl rfl (vK4 rfl rfl rfl rfl (vQ2 tab rfl rfl (vK4 rfl rfl rfl rfl (vQ2 tab rfl rfl (vK4 rfl rfl rfl rfl (vQ tab rfl (vQ tab rfl ?_)))))))))
    refine vK3 rfl rfl rfl (vQ2 tab rfl rfl (vK3 rfl rfl rfl (vQ tab rfl (vnl (qth (vc_true rfl (wsq (wrg (vQ tab rfl (vnl (qth (vw_ret (q_thenr ?_)))))))))))))
    rotate_left
    all_goals exact ⟨.inr rfl, Eq.trans (b := some (.bool _)) rfl (congrArg (fun b => some (Value.bool b)) (by unfold evtMay evtPlain; simp [evtPlain, evtNums, evtMake, evtText, okN] at * <;> first | omega | (rw [Bool.eq_iff_iff]; simp; omega)))⟩
  · refine wsq (wrg (vN tab rfl (vQ tab rfl (vnl (qth (wsq (wrg (vQ tab rfl (vF rfl callable_57 (refevt_part ⟨4, f1, f2, f3, f4, f5, f6, f7⟩) (vQ3 tab rfl rfl rfl (vN tab rfl (vS tab rfl (vQ tab rfl (vnl (qth (wsq (wsq (wrg (vQ2 tab rfl rfl (vQ tab rfl ?_))))))))))))))))))))
    refine vQ2 tab rfl rfl (vq_op tab ⟨_, _, rfl, rfl, rfl⟩ rfl rfl (ev_neq rfl rfl rfl (evt_eq (evtPlain ⟨4, f1, f2, f3, f4, f5, f6, f7⟩) ⟨4, f1, f2, f3, f4, f5, f6, f7⟩)) (vQ tab rfl (vQ tab rfl ?_)))
    refine vg_op rfl rfl rfl (fun _ => ?_) (fun _ => ?_)
    refine vQ4 tab rfl rfl rfl rfl (vQ tab rfl ?_)
    refine vg_op rfl rfl rfl (fun _ => ?_) (fun _ => ?_)
    refine vQ4 tab rfl rfl rfl rfl (vQ tab rfl ?_)
    refine vg_op rfl rfl rfl (fun _ => ?_) (fun _ => ?_)
    refine vQ4 tab rfl rfl rfl rfl (vQ tab rfl ?_)
    refine vg_op rfl rfl rfl (fun _ => ?_) (fun _ => ?_)
    refine vQ4 tab rfl rfl rfl rfl (vQ tab rfl ?_)
    refine vg_op rfl rfl rfl (fun _ => ?_) (fun _ => ?_)
    refine vQ4 tab rfl rfl rfl rfl (vQ tab rfl ?_)
    refine vg_op rfl rfl rfl (fun _ => ?_) (fun _ => ?_)
    refine vQ4 tab rfl rfl rfl rfl (vQ tab rfl ?_)
    refine vg_op rfl rfl rfl (fun _ => ?_) (fun _ => ?_)
    refine vQ2 tab rfl rfl (vF rfl callable_58 (refnum_fun _) (vQ2 tab rfl rfl (vQ tab rfl ?_)))
    refine vg_op rfl rfl rfl (fun _ => ?_) (fun _ => ?_)
    refine vQ2 tab rfl rfl (vF rfl callable_58 (refnum_fun _) (vQ2 tab rfl rfl (vQ tab rfl ?_)))
    refine vg_op rfl rfl rfl (fun _ => ?_) (fun _ => ?_)
    refine vQ2 tab rfl rfl (vF rfl callable_58 (refnum_fun _) (vQ2 tab rfl rfl (vQ tab rfl ?_)))
    refine vg_op rfl rfl rfl (fun _ => ?_) (fun _ => ?_)
    refine vQ4 tab rfl rfl rfl rfl (vQ tab rfl ?_)
    refine vg_op rfl rfl rfl (fun _ => ?_) (fun _ => ?_)
    refine vQ4 tab rfl rfl rfl rfl (vnl (qth ?_))
    refine vc_part rfl (fun _ => ?_) (fun _ => ?_)
    refine wsq (wrg (vQ tab rfl (vnl (qth (vw_ret (q_thenr ?_))))))
    rotate_left
    refine vw_skip (qth (wsq (wrg (vQ4 tab rfl rfl rfl rfl (vK3 rfl rfl rfl (vQ2 tab rfl rfl (vnl (qth (vw_ret ?_)))))))))
    rotate_left
    refine vK3 rfl rfl rfl (vQ tab rfl (vnl (qth (vc_true rfl (wsq (wrg (vQ tab rfl (vnl (qth (vw_ret (q_thenr ?_)))))))))))
    rotate_left
    refine vK3 rfl rfl rfl (vQ2 tab rfl rfl (vK3 rfl rfl rfl (vQ tab rfl (vnl (qth (vc_true rfl (wsq (wrg (vQ tab rfl (vnl (qth (vw_ret (q_thenr ?_)))))))))))))
    rotate_left
    refine vK4 rfl rfl rfl rfl (vQ2 tab rfl rfl (vK3 rfl rfl rfl (vQ2 tab rfl rfl (vK3 rfl rfl rfl (vQ tab rfl (vnl (qth (vc_true rfl (wsq (wrg (vQ tab rfl (vnl (qth (vw_ret ?_))))))))))))))
    refine q_thenr ?_
    rotate_left
    refine vK4 rfl rfl rfl rfl (vQ2 tab rfl rfl (vK4 rfl rfl rfl rfl (vQ2 tab rfl rfl (vK3 rfl rfl rfl (vQ2 tab rfl rfl (vK3 rfl rfl rfl (vQ tab rfl (vnl (qth (vc_true rfl ?_))))))))))
    refine wsq (wrg (vQ tab rfl (vnl (qth (vw_ret (q_thenr ?_))))))
    rotate_left
    refine vK4 rfl rfl rfl rfl (vQ2 tab rfl rfl (vK4 rfl rfl rfl rfl (vQ2 tab rfl rfl (vK4 rfl rfl rfl rfl (vQ2 tab rfl rfl (vK3 rfl rfl rfl (vQ2 tab rfl rfl (vK rfl ?_))))))))
    refine vK2 rfl rfl (vQ tab rfl (vnl (qth (vc_true rfl (wsq (wrg (vQ tab rfl (vnl (qth (vw_ret (q_thenr ?_)))))))))))
    rotate_left
    refine vK3 rfl rfl rfl (vQ2 tab rfl rfl (vK4 rfl rfl rfl rfl (vQ2 tab rfl rfl (vK4 rfl rfl rfl rfl (vQ2 tab rfl rfl (vK4 rfl rfl rfl rfl (vQ2 tab rfl rfl (vK rfl ?_))))))))
    refine vK2 rfl rfl (vQ2 tab rfl rfl (vK3 rfl rfl rfl (vQ tab rfl (vnl (qth (vc_true rfl (wsq (wrg (vQ tab rfl (vnl (qth (vw_ret (q_thenr ?_)))))))))))))
    rotate_left
    refine vK3 rfl rfl rfl (vQ2 tab rfl rfl (vK3 rfl rfl rfl (vQ2 tab rfl rfl (vK4 rfl rfl rfl rfl (vQ2 tab rfl rfl (vK4 rfl rfl rfl rfl (vQ2 tab rfl rfl (vK rfl (vK rfl ?_)))))))))
    refine vK2 rfl rfl (vQ2 tab rfl rfl (vK3 rfl rfl rfl (vQ2 tab rfl rfl (vK3 rfl rfl rfl (vQ tab rfl (vnl (qth (vc_true rfl (wsq (wrg (vQ tab rfl (vnl (qth (vw_ret (q_thenr ?_)))))))))))))))
    rotate_left
    refine vK3 rfl rfl rfl (vQ2 tab rfl rfl (vK3 rfl rfl rfl (vQ2 tab rfl rfl (vK3 rfl rfl rfl (vQ2 tab rfl rfl (vK4 rfl rfl rfl rfl (vQ2 tab rfl rfl (vK2 rfl rfl (vK rfl ?_)))))))))
    refine vK rfl (vQ2 tab rfl rfl (vK4 rfl rfl rfl rfl (vQ2 tab rfl rfl (vK3 rfl rfl rfl (vQ2 tab rfl rfl (vK3 rfl rfl rfl (vQ tab rfl (vnl (qth (vc_true rfl (wsq (wrg (vQ tab rfl ?_)))))))))))))
    refine vnl (qth (vw_ret (q_thenr ?_)))
    rotate_left
    refine vK3 rfl rfl rfl (vQ2 tab rfl rfl (vK3 rfl rfl rfl (vQ2 tab rfl rfl (vK3 rfl rfl rfl (vQ2 tab rfl rfl (vK3 rfl rfl rfl (vQ2 tab rfl rfl (vK3 rfl rfl rfl (vK rfl ?_)))))))))
    refine vQ2 tab rfl rfl (vK4 rfl rfl rfl rfl (vQ2 tab rfl rfl (vK4 rfl rfl rfl rfl (vQ2 tab rfl rfl (vK3 rfl rfl rfl (vQ2 tab rfl rfl (vK3 rfl rfl rfl (vQ tab rfl (vnl ?_)))))))))
    refine qth (vc_true rfl (wsq (wrg (vQ tab rfl (vnl (qth (vw_ret (q_thenr ?_))))))))
    rotate_left
    refine vK3 rfl rfl rfl (vQ2 tab rfl rfl (vK3 rfl rfl rfl (vQ2 tab rfl rfl (vK3 rfl rfl rfl (vQ2 tab rfl rfl (vK3 rfl rfl rfl (vQ2 tab rfl rfl (vK3 rfl rfl rfl (vQ tab rfl ?_)))))))))
    refine vQ tab rfl (vK4 rfl rfl rfl rfl (vQ2 tab rfl rfl (vK4 rfl rfl rfl rfl (vQ2 tab rfl rfl (vK4 rfl rfl rfl rfl (vQ2 tab rfl rfl (vK3 rfl rfl rfl (vQ tab rfl (vQ tab rfl ?_)))))))))
    refine vK3 rfl rfl rfl (vQ tab rfl (vnl (qth (vc_true rfl (wsq (wrg (vQ tab rfl (vnl (qth (vw_ret (q_thenr ?_)))))))))))
    rotate_left
    refine vK3 rfl rfl rfl (vQ2 tab rfl rfl (vK3 rfl rfl rfl (vQ2 tab rfl rfl (vK3 rfl rfl rfl (vQ2 tab rfl rfl (vK3 rfl rfl rfl (vQ2 tab rfl rfl (vK3 rfl rfl rfl (vQ tab rfl ?_)))))))))
    refine vQ tab rfl (vK3 rfl rfl rfl (vQ2 tab rfl rfl (vK4 rfl rfl rfl rfl (vQ2 tab rfl rfl (vK4 rfl rfl rfl rfl (vQ2 tab rfl rfl (vK4 rfl rfl rfl rfl (vQ tab rfl (vQ tab rfl ?_)))))))))
    refine vK3 rfl rfl rfl (vQ2 tab rfl rfl (vK3 rfl rfl rfl (vQ tab rfl (vnl (qth (vc_true rfl (wsq (wrg (vQ tab rfl (vnl (qth (vw_ret (q_thenr ?_)))))))))))))
    rotate_left
    all_goals exact ⟨.inr rfl, Eq.trans (b := some (.bool _)) rfl (congrArg (fun b => some (Value.bool b)) (by unfold evtMay evtPlain; simp [evtPlain, evtNums, evtMake, evtText, okN] at * <;> first | omega | (rw [Bool.eq_iff_iff]; simp; omega)))⟩
  · refine wsq (wrg (vN tab rfl (vQ tab rfl (vnl (qth (wsq (wrg (vQ tab rfl (vF rfl callable_57 (refevt_part ⟨5, f1, f2, f3, f4, f5, f6, f7⟩) (vQ3 tab rfl rfl rfl (vN tab rfl (vS tab rfl (vQ tab rfl (vnl (qth (wsq (wsq (wrg (vQ2 tab rfl rfl (vQ tab rfl ?_))))))))))))))))))))
    refine vQ2 tab rfl rfl (vq_op tab ⟨_, _, rfl, rfl, rfl⟩ rfl rfl (ev_neq rfl rfl rfl (evt_eq (evtPlain ⟨5, f1, f2, f3, f4, f5, f6, f7⟩) ⟨5, f1, f2, f3, f4, f5, f6, f7⟩)) (vQ tab rfl (vQ tab rfl ?_)))
    refine vg_op rfl rfl rfl (fun _ => ?_) (fun _ => ?_)
    refine vQ4 tab rfl rfl rfl rfl (vQ tab rfl ?_)
    refine vg_op rfl rfl rfl (fun _ => ?_) (fun _ => ?_)
    refine vQ4 tab rfl rfl rfl rfl (vQ tab rfl ?_)
    refine vg_op rfl rfl rfl (fun _ => ?_) (fun _ => ?_)
    refine vQ4 tab rfl rfl rfl rfl (vQ tab rfl ?_)
    refine vg_op rfl rfl rfl (fun _ => ?_) (fun _ => ?_)
    refine vQ4 tab rfl rfl rfl rfl (vQ tab rfl ?_)
    refine vg_op rfl rfl rfl (fun _ => ?_) (fun _ => ?_)
    refine vQ4 tab rfl rfl rfl rfl (vQ tab rfl ?_)
    refine vg_op rfl rfl rfl (fun _ => ?_) (fun _ => ?_)
    refine vQ4 tab rfl rfl rfl rfl (vQ tab rfl ?_)
    refine vg_op rfl rfl rfl (fun _ => ?_) (fun _ => ?_)
    refine vQ2 tab rfl rfl (vF rfl callable_58 (refnum_fun _) (vQ2 tab rfl rfl (vQ tab rfl ?_)))
    refine vg_op rfl rfl rfl (fun _ => ?_) (fun _ => ?_)
    refine vQ2 tab rfl rfl (vF rfl callable_58 (refnum_fun _) (vQ2 tab rfl rfl (vQ tab rfl ?_)))
    refine vg_op rfl rfl rfl (fun _ => ?_) (fun _ => ?_)
    refine vQ2 tab rfl rfl (vF rfl callable_58 (refnum_fun _) (vQ2 tab rfl rfl (vQ tab rfl ?_)))
    refine vg_op rfl rfl rfl (fun _ => ?_) (fun _ => ?_)
    refine vQ4 tab rfl rfl rfl rfl (vQ tab rfl ?_)
    refine vg_op rfl rfl rfl (fun _ => ?_) (fun _ => ?_)
    refine vQ4 tab rfl rfl rfl rfl (vnl (qth ?_))
    refine vc_part rfl (fun _ => ?_) (fun _ => ?_)
    refine wsq (wrg (vQ tab rfl (vnl (qth (vw_ret (q_thenr ?_))))))
    rotate_left
    refine vw_skip (qth (wsq (wrg (vQ4 tab rfl rfl rfl rfl (vK3 rfl rfl rfl (vQ2 tab rfl rfl (vnl (qth (vw_ret ?_)))))))))
    rotate_left
    refine vK3 rfl rfl rfl (vQ tab rfl (vnl (qth (vc_true rfl (wsq (wrg (vQ tab rfl (vnl (qth (vw_ret (q_thenr ?_)))))))))))
    rotate_left
    refine vK3 rfl rfl rfl (vQ2 tab rfl rfl (vK3 rfl rfl rfl (vQ tab rfl (vnl (qth (vc_true rfl (wsq (wrg (vQ tab rfl (vnl (qth (vw_ret (q_thenr ?_)))))))))))))
    rotate_left
    refine vK4 rfl rfl rfl rfl (vQ2 tab rfl rfl (vK3 rfl rfl rfl (vQ2 tab rfl rfl (vK3 rfl rfl rfl (vQ tab rfl (vnl (qth (vc_true rfl (wsq (wrg (vQ tab rfl (vnl (qth (vw_ret ?_))))))))))))))
    refine q_thenr ?_
    rotate_left
    refine vK4 rfl rfl rfl rfl (vQ2 tab rfl rfl (vK4 rfl rfl rfl rfl (vQ2 tab rfl rfl (vK3 rfl rfl rfl (vQ2 tab rfl rfl (vK3 rfl rfl rfl (vQ tab rfl (vnl (qth (vc_true rfl ?_))))))))))
    refine wsq (wrg (vQ tab rfl (vnl (qth (vw_ret (q_thenr ?_))))))
    rotate_left
    refine vK4 rfl rfl rfl rfl (vQ2 tab rfl rfl (vK4 rfl rfl rfl rfl (vQ2 tab rfl rfl (vK4 rfl rfl rfl rfl (vQ2 tab rfl rfl (vK3 rfl rfl rfl (vQ2 tab rfl rfl (vK rfl ?_))))))))
    refine vK2 rfl rfl (vQ tab rfl (vnl (qth (vc_true rfl (wsq (wrg (vQ tab rfl (vnl (qth (vw_ret (q_thenr ?_)))))))))))
    rotate_left
    refine vK3 rfl rfl rfl (vQ2 tab rfl rfl (vK4 rfl rfl rfl rfl (vQ2 tab rfl rfl (vK4 rfl rfl rfl rfl (vQ2 tab rfl rfl (vK4 rfl rfl rfl rfl (vQ2 tab rfl rfl (vK rfl ?_))))))))
    refine vK2 rfl rfl (vQ2 tab rfl rfl (vK3 rfl rfl rfl (vQ tab rfl (vnl (qth (vc_true rfl (wsq (wrg (vQ tab rfl (vnl (qth (vw_ret (q_thenr ?_)))))))))))))
    rotate_left
    refine vK3 rfl rfl rfl (vQ2 tab rfl rfl (vK3 rfl rfl rfl (vQ2 tab rfl rfl (vK4 rfl rfl rfl rfl (vQ2 tab rfl rfl (vK4 rfl rfl rfl rfl (vQ2 tab rfl rfl (vK rfl (vK rfl ?_)))))))))
    refine vK2 rfl rfl (vQ2 tab rfl rfl (vK3 rfl rfl rfl (vQ2 tab rfl rfl (vK3 rfl rfl rfl (vQ tab rfl (vnl (qth (vc_true rfl (wsq (wrg (vQ tab rfl (vnl (qth (vw_ret (q_thenr ?_)))))))))))))))
    rotate_left
    refine vK3 rfl rfl rfl (vQ2 tab rfl rfl (vK3 rfl rfl rfl (vQ2 tab rfl rfl (vK3 rfl rfl rfl (vQ2 tab rfl rfl (vK4 rfl rfl rfl rfl (vQ2 tab rfl rfl (vK2 rfl rfl (vK rfl ?_)))))))))
    refine vK rfl (vQ2 tab rfl rfl (vK4 rfl rfl rfl rfl (vQ2 tab rfl rfl (vK3 rfl rfl rfl (vQ2 tab rfl rfl (vK3 rfl rfl rfl (vQ tab rfl (vnl (qth (vc_true rfl (wsq (wrg (vQ tab rfl ?_)))))))))))))
    refine vnl (qth (vw_ret (q_thenr ?_)))
    rotate_left
    refine vK3 rfl rfl rfl (vQ2 tab rfl rfl (vK3 rfl rfl rfl (vQ2 tab rfl rfl (vK3 rfl rfl rfl (vQ2 tab rfl rfl (vK3 rfl rfl rfl (vQ2 tab rfl rfl (vK3 rfl rfl rfl (vK rfl ?_)))))))))
    refine vQ2 tab rfl rfl (vK4 rfl rfl rfl rfl (vQ2 tab rfl rfl (vK4 rfl rfl rfl rfl (vQ2 tab rfl rfl (vK3 rfl rfl rfl (vQ2 tab rfl rfl (vK3 rfl rfl rfl (vQ tab rfl (vnl ?_)))))))))
    refine qth (vc_true rfl (wsq (wrg (vQ tab rfl (vnl (qth (vw_ret (q_thenr ?_))))))))
    rotate_left
    refine vK3 rfl rfl rfl (vQ2 tab rfl rfl (vK3 rfl rfl rfl (vQ2 tab rfl rfl (vK3 rfl rfl rfl (vQ2 tab rfl rfl (vK3 rfl rfl rfl (vQ2 tab rfl rfl (vK3 rfl rfl rfl (vQ tab rfl ?_)))))))))
    refine vQ tab rfl (vK4 rfl rfl rfl rfl (vQ2 tab rfl rfl (vK4 rfl rfl rfl rfl (vQ2 tab rfl rfl (vK4 rfl rfl rfl rfl (vQ2 tab rfl rfl (vK3 rfl rfl rfl (vQ tab rfl (vQ tab rfl ?_)))))))))
    refine vK3 rfl rfl rfl (vQ tab rfl (vnl (qth (vc_true rfl (wsq (wrg (vQ tab rfl (vnl (qth (vw_ret (q_thenr ?_)))))))))))
    rotate_left
    refine vK3 rfl rfl rfl (vQ2 tab rfl rfl (vK3 rfl rfl rfl (vQ2 tab rfl rfl (vK3 rfl rfl rfl (vQ2 tab rfl rfl (vK3 rfl rfl rfl (vQ2 tab rfl rfl (vK3 rfl rfl rfl (vQ tab rfl ?_)))))))))
    refine vQ tab rfl (vK3 rfl rfl rfl (vQ2 tab rfl rfl (vK4 rfl rfl rfl rfl (vQ2 tab rfl rfl (vK4 rfl rfl rfl rfl (vQ2 tab rfl rfl (vK4 rfl rfl rfl rfl (vQ tab rfl (vQ tab rfl ?_)))))))))
    refine vK3 rfl rfl rfl (vQ2 tab rfl rfl (vK3 rfl rfl rfl (vQ tab rfl (vnl (qth (vc_true rfl (wsq (wrg (vQ tab rfl (vnl (qth (vw_ret (q_thenr ?_)))))))))))))
    rotate_left
    all_goals exact ⟨.inr rfl, Eq.trans (b := some (.bool _)) rfl (congrArg (fun b => some (Value.bool b)) (by unfold evtMay evtPlain; simp [evtPlain, evtNums, evtMake, evtText, okN] at * <;> first | omega | (rw [Bool.eq_iff_iff]; simp; omega)))⟩
  · refine wsq (wrg (vN tab rfl (vQ tab rfl (vnl (qth (wsq (wrg (vQ tab rfl (vF rfl callable_57 (refevt_part ⟨6, f1, f2, f3, f4, f5, f6, f7⟩) (vQ3 tab rfl rfl rfl (vN tab rfl (vS tab rfl (vQ tab rfl (vnl (qth (wsq (wsq (wrg (vQ2 tab rfl rfl (vQ tab rfl ?_))))))))))))))))))))
    refine vQ2 tab rfl rfl (vq_op tab ⟨_, _, rfl, rfl, rfl⟩ rfl rfl (ev_neq rfl rfl rfl (evt_eq (evtPlain ⟨6, f1, f2, f3, f4, f5, f6, f7⟩) ⟨6, f1, f2, f3, f4, f5, f6, f7⟩)) (vQ tab rfl (vQ tab rfl ?_)))
    refine vg_op rfl rfl rfl (fun _ => ?_) (fun _ => ?_)
    refine vQ4 tab rfl rfl rfl rfl (vQ tab rfl ?_)
    refine vg_op rfl rfl rfl (fun _ => ?_) (fun _ => ?_)
    refine vQ4 tab rfl rfl rfl rfl (vQ tab rfl ?_)
    refine vg_op rfl rfl rfl (fun _ => ?_) (fun _ => ?_)
    refine vQ4 tab rfl rfl rfl rfl (vQ tab rfl ?_)
    refine vg_op rfl rfl rfl (fun _ => ?_) (fun _ => ?_)
    refine vQ4 tab rfl rfl rfl rfl (vQ tab rfl ?_)
    refine vg_op rfl rfl rfl (fun _ => ?_) (fun _ => ?_)
    refine vQ4 tab rfl rfl rfl rfl (vQ tab rfl ?_)
    refine vg_op rfl rfl rfl (fun _ => ?_) (fun _ => ?_)
    refine vQ4 tab rfl rfl rfl rfl (vQ tab rfl ?_)
    refine vg_op rfl rfl rfl (fun _ => ?_) (fun _ => ?_)
    refine vQ2 tab rfl rfl (vF rfl callable_58 (refnum_fun _) (vQ2 tab rfl rfl (vQ tab rfl ?_)))
    refine vg_op rfl rfl rfl (fun _ => ?_) (fun _ => ?_)
    refine vQ2 tab rfl rfl (vF rfl callable_58 (refnum_fun _) (vQ2 tab rfl rfl (vQ tab rfl ?_)))
    refine vg_op rfl rfl rfl (fun _ => ?_) (fun _ => ?_)
    refine vQ2 tab rfl rfl (vF rfl callable_58 (refnum_fun _) (vQ2 tab rfl rfl (vQ tab rfl ?_)))
    refine vg_op rfl rfl rfl (fun _ => ?_) (fun _ => ?_)
    refine vQ4 tab rfl rfl rfl rfl (vQ tab rfl ?_)
    refine vg_op rfl rfl rfl (fun _ => ?_) (fun _ => ?_)
    refine vQ4 tab rfl rfl rfl rfl (vnl (qth ?_))
    refine vc_part rfl (fun _ => ?_) (fun _ => ?_)
    refine wsq (wrg (vQ tab rfl (vnl (qth (vw_ret (q_thenr ?_))))))
    rotate_left
    refine vw_skip (qth (wsq (wrg (vQ4 tab rfl rfl rfl rfl (vQ4 tab rfl rfl rfl rfl (vQ tab rfl (vnl (qth (vw_ret ?_)))))))))
    rotate_left
    refine vK3 rfl rfl rfl (vQ tab rfl (vnl (qth (vc_true rfl (wsq (wrg (vQ tab rfl (vnl (qth (vw_ret (q_thenr ?_)))))))))))
    rotate_left
    refine vK3 rfl rfl rfl (vQ2 tab rfl rfl (vK3 rfl rfl rfl (vQ tab rfl (vnl (qth (vc_true rfl (wsq (wrg (vQ tab rfl (vnl (qth (vw_ret (q_thenr ?_)))))))))))))
    rotate_left
    refine vK4 rfl rfl rfl rfl (vQ2 tab rfl rfl (vK3 rfl rfl rfl (vQ2 tab rfl rfl (vK3 rfl rfl rfl (vQ tab rfl (vnl (qth (vc_true rfl (wsq (wrg (vQ tab rfl (vnl (qth (vw_ret ?_))))))))))))))
    refine q_thenr ?_
    rotate_left
    refine vK4 rfl rfl rfl rfl (vQ2 tab rfl rfl (vK4 rfl rfl rfl rfl (vQ2 tab rfl rfl (vK3 rfl rfl rfl (vQ2 tab rfl rfl (vK3 rfl rfl rfl (vQ tab rfl (vnl (qth (vc_true rfl ?_))))))))))
    refine wsq (wrg (vQ tab rfl (vnl (qth (vw_ret (q_thenr ?_))))))
    rotate_left
    refine vK4 rfl rfl rfl rfl (vQ2 tab rfl rfl (vK4 rfl rfl rfl rfl (vQ2 tab rfl rfl (vK4 rfl rfl rfl rfl (vQ2 tab rfl rfl (vK3 rfl rfl rfl (vQ2 tab rfl rfl (vK rfl ?_))))))))
    refine vK2 rfl rfl (vQ tab rfl (vnl (qth (vc_true rfl (wsq (wrg (vQ tab rfl (vnl (qth (vw_ret (q_thenr ?_)))))))))))
    rotate_left
    refine vK3 rfl rfl rfl (vQ2 tab rfl rfl (vK4 rfl rfl rfl rfl (vQ2 tab rfl rfl (vK4 rfl rfl rfl rfl (vQ2 tab rfl rfl (vK4 rfl rfl rfl rfl (vQ2 tab rfl rfl (vK rfl ?_))))))))
    refine vK2 rfl rfl (vQ2 tab rfl rfl (vK3 rfl rfl rfl (vQ tab rfl (vnl (qth (vc_true rfl (wsq (wrg (vQ tab rfl (vnl (qth (vw_ret (q_thenr ?_)))))))))))))
    rotate_left
    refine vK3 rfl rfl rfl (vQ2 tab rfl rfl (vK3 rfl rfl rfl (vQ2 tab rfl rfl (vK4 rfl rfl rfl rfl (vQ2 tab rfl rfl (vK4 rfl rfl rfl rfl (vQ2 tab rfl rfl (vK rfl (vK rfl ?_)))))))))
    refine vK2 rfl rfl (vQ2 tab rfl rfl (vK3 rfl rfl rfl (vQ2 tab rfl rfl (vK3 rfl rfl rfl (vQ tab rfl (vnl (qth (vc_true rfl (wsq (wrg (vQ tab rfl (vnl (qth (vw_ret (q_thenr ?_)))))))))))))))
    rotate_left
    refine vK3 rfl rfl rfl (vQ2 tab rfl rfl (vK3 rfl rfl rfl (vQ2 tab rfl rfl (vK3 rfl rfl rfl (vQ2 tab rfl rfl (vK4 rfl rfl rfl rfl (vQ2 tab rfl rfl (vK2 rfl rfl (vK rfl ?_)))))))))
    refine vK rfl (vQ2 tab rfl rfl (vK4 rfl rfl rfl rfl (vQ2 tab rfl rfl (vK3 rfl rfl rfl (vQ2 tab rfl rfl (vK3 rfl rfl rfl (vQ tab rfl (vnl (qth (vc_true rfl (wsq (wrg (vQ tab rfl ?_)))))))))))))
    refine vnl (qth (vw_ret (q_thenr ?_)))
    rotate_left
    refine vK3 rfl rfl rfl (vQ2 tab rfl rfl (vK3 rfl rfl rfl (vQ2 tab rfl rfl (vK3 rfl rfl rfl (vQ2 tab rfl rfl (vK3 rfl rfl rfl (vQ2 tab rfl rfl (vK3 rfl rfl rfl (vK rfl ?_)))))))))
    refine vQ2 tab rfl rfl (vK4 rfl rfl rfl rfl (vQ2 tab rfl rfl (vK4 rfl rfl rfl rfl (vQ2 tab rfl rfl (vK3 rfl rfl rfl (vQ2 tab rfl rfl (vK3 rfl rfl rfl (vQ tab rfl (vnl ?_)))))))))
    refine qth (vc_true rfl (wsq (wrg (vQ tab rfl (vnl (qth (vw_ret (q_thenr ?_))))))))
    rotate_left
    refine vK3 rfl rfl rfl (vQ2 tab rfl rfl (vK3 rfl rfl rfl (vQ2 tab rfl rfl (vK3 rfl rfl rfl (vQ2 tab rfl rfl (vK3 rfl rfl rfl (vQ2 tab rfl rfl (vK3 rfl rfl rfl (vQ tab rfl ?_)))))))))
    refine vQ tab rfl (vK4 rfl rfl rfl rfl (vQ2 tab rfl rfl (vK4 rfl rfl rfl rfl (vQ2 tab rfl rfl (vK4 rfl rfl rfl rfl (vQ2 tab rfl rfl (vK3 rfl rfl rfl (vQ tab rfl (vQ tab rfl ?_)))))))))
    refine vK3 rfl rfl rfl (vQ tab rfl (vnl (qth (vc_true rfl (wsq (wrg (vQ tab rfl (vnl (qth (vw_ret (q_thenr ?_)))))))))))
    rotate_left
    refine vK3 rfl rfl rfl (vQ2 tab rfl rfl (vK3 rfl rfl rfl (vQ2 tab rfl rfl (vK3 rfl rfl rfl (vQ2 tab rfl rfl (vK3 rfl rfl rfl (vQ2 tab rfl rfl (vK3 rfl rfl rfl (vQ tab rfl ?_)))))))))
    refine vQ tab rfl (vK3 rfl rfl rfl (vQ2 tab rfl rfl (vK4 rfl rfl rfl rfl (vQ2 tab rfl rfl (vK4 rfl rfl rfl rfl (vQ2 tab rfl rfl (vK4 rfl rfl rfl rfl (vQ tab rfl (vQ tab rfl ?_)))))))))
    refine vK3 rfl rfl rfl (vQ2 tab rfl rfl (vK3 rfl rfl rfl (vQ tab rfl (vnl (qth (vc_true rfl (wsq (wrg (vQ tab rfl (vnl (qth (vw_ret (q_thenr ?_)))))))))))))
    rotate_left
    all_goals exact ⟨.inr rfl, Eq.trans (b := some (.bool _)) rfl (congrArg (fun b => some (Value.bool b)) (by unfold evtMay evtPlain; simp [evtPlain, evtNums, evtMake, evtText, okN] at * <;> first | omega | (rw [Bool.eq_iff_iff]; simp; omega)))⟩
  · refine wsq (wrg (vN tab rfl (vQ tab rfl (vnl (qth (wsq (wrg (vQ tab rfl (vF rfl callable_57 (refevt_part ⟨7, f1, f2, f3, f4, f5, f6, f7⟩) (vQ3 tab rfl rfl rfl (vN tab rfl (vS tab rfl (vQ tab rfl (vnl (qth (wsq (wsq (wrg (vQ2 tab rfl rfl (vQ tab rfl ?_))))))))))))))))))))
    refine vQ2 tab rfl rfl (vq_op tab ⟨_, _, rfl, rfl, rfl⟩ rfl rfl (ev_neq rfl rfl rfl (evt_eq (evtPlain ⟨7, f1, f2, f3, f4, f5, f6, f7⟩) ⟨7, f1, f2, f3, f4, f5, f6, f7⟩)) (vQ tab rfl (vQ tab rfl ?_)))
    refine vg_op rfl rfl rfl (fun _ => ?_) (fun _ => ?_)
    refine vQ4 tab rfl rfl rfl rfl (vQ tab rfl ?_)
    refine vg_op rfl rfl rfl (fun _ => ?_) (fun _ => ?_)
    refine vQ4 tab rfl rfl rfl rfl (vQ tab rfl ?_)
    refine vg_op rfl rfl rfl (fun _ => ?_) (fun _ => ?_)
    refine vQ4 tab rfl rfl rfl rfl (vQ tab rfl ?_)
    refine vg_op rfl rfl rfl (fun _ => ?_) (fun _ => ?_)
    refine vQ4 tab rfl rfl rfl rfl (vQ tab rfl ?_)
    refine vg_op rfl rfl rfl (fun _ => ?_) (fun _ => ?_)
    refine vQ4 tab rfl rfl rfl rfl (vQ tab rfl ?_)
    refine vg_op rfl rfl rfl (fun _ => ?_) (fun _ => ?_)
    refine vQ4 tab rfl rfl rfl rfl (vQ tab rfl ?_)
    refine vg_op rfl rfl rfl (fun _ => ?_) (fun _ => ?_)
    refine vQ2 tab rfl rfl (vF rfl callable_58 (refnum_fun _) (vQ2 tab rfl rfl (vQ tab rfl ?_)))
    refine vg_op rfl rfl rfl (fun _ => ?_) (fun _ => ?_)
    refine vQ2 tab rfl rfl (vF rfl callable_58 (refnum_fun _) (vQ2 tab rfl rfl (vQ tab rfl ?_)))
    refine vg_op rfl rfl rfl (fun _ => ?_) (fun _ => ?_)
    refine vQ2 tab rfl rfl (vF rfl callable_58 (refnum_fun _) (vQ2 tab rfl rfl (vQ tab rfl ?_)))
    refine vg_op rfl rfl rfl (fun _ => ?_) (fun _ => ?_)
    refine vQ4 tab rfl rfl rfl rfl (vQ tab rfl ?_)
    refine vg_op rfl rfl rfl (fun _ => ?_) (fun _ => ?_)
    refine vQ4 tab rfl rfl rfl rfl (vnl (qth ?_))
    refine vc_part rfl (fun _ => ?_) (fun _ => ?_)
    refine wsq (wrg (vQ tab rfl (vnl (qth (vw_ret (q_thenr ?_))))))
    rotate_left
    refine vw_skip (qth (wsq (wrg (vQ4 tab rfl rfl rfl rfl (vK3 rfl rfl rfl (vQ2 tab rfl rfl (vnl (qth (vw_ret ?_)))))))))
    rotate_left
    refine vK3 rfl rfl rfl (vQ tab rfl (vnl (qth (vc_true rfl (wsq (wrg (vQ tab rfl (vnl (qth (vw_ret (q_thenr ?_)))))))))))
    rotate_left
    refine vK3 rfl rfl rfl (vQ2 tab rfl rfl (vK3 rfl rfl rfl (vQ tab rfl (vnl (qth (vc_true rfl (wsq (wrg (vQ tab rfl (vnl (qth (vw_ret (q_thenr ?_)))))))))))))
    rotate_left
    refine vK4 rfl rfl rfl rfl (vQ2 tab rfl rfl (vK3 rfl rfl rfl (vQ2 tab rfl rfl (vK3 rfl rfl rfl (vQ tab rfl (vnl (qth (vc_true rfl (wsq (wrg (vQ tab rfl (vnl (qth (vw_ret ?_))))))))))))))
    refine q_thenr ?_
    rotate_left
    refine vK4 rfl rfl rfl rfl (vQ2 tab rfl rfl (vK4 rfl rfl rfl rfl (vQ2 tab rfl rfl (vK3 rfl rfl rfl (vQ2 tab rfl rfl (vK3 rfl rfl rfl (vQ tab rfl (vnl (qth (vc_true rfl ?_))))))))))
    refine wsq (wrg (vQ tab rfl (vnl (qth (vw_ret (q_thenr ?_))))))
    rotate_left
    refine vK4 rfl rfl rfl rfl (vQ2 tab rfl rfl (vK4 rfl rfl rfl rfl (vQ2 tab rfl rfl (vK4 rfl rfl rfl rfl (vQ2 tab rfl rfl (vK3 rfl rfl rfl (vQ2 tab rfl rfl (vK rfl ?_))))))))
    refine vK2 rfl rfl (vQ tab rfl (vnl (qth (vc_true rfl (wsq (wrg (vQ tab rfl (vnl (qth (vw_ret (q_thenr ?_)))))))))))
    rotate_left
    refine vK3 rfl rfl rfl (vQ2 tab rfl rfl (vK4 rfl rfl rfl rfl (vQ2 tab rfl rfl (vK4 rfl rfl rfl rfl (vQ2 tab rfl rfl (vK4 rfl rfl rfl rfl (vQ2 tab rfl rfl (vK rfl ?_))))))))
    refine vK2 rfl rfl (vQ2 tab rfl rfl (vK3 rfl rfl rfl (vQ tab rfl (vnl (qth (vc_true rfl (wsq (wrg (vQ tab rfl (vnl (qth (vw_ret (q_thenr ?_)))))))))))))
    rotate_left
    refine vK3 rfl rfl rfl (vQ2 tab rfl rfl (vK3 rfl rfl rfl (vQ2 tab rfl rfl (vK4 rfl rfl rfl rfl (vQ2 tab rfl rfl (vK4 rfl rfl rfl rfl (vQ2 tab rfl rfl (vK rfl (vK rfl ?_)))))))))
    refine vK2 rfl rfl (vQ2 tab rfl rfl (vK3 rfl rfl rfl (vQ2 tab rfl rfl (vK3 rfl rfl rfl (vQ tab rfl (vnl (qth (vc_true rfl (wsq (wrg (vQ tab rfl (vnl (qth (vw_ret (q_thenr ?_)))))))))))))))
    rotate_left
    refine vK3 rfl rfl rfl (vQ2 tab rfl rfl (vK3 rfl rfl rfl (vQ2 tab rfl rfl (vK3 rfl rfl rfl (vQ2 tab rfl rfl (vK4 rfl rfl rfl rfl (vQ2 tab rfl rfl (vK2 rfl rfl (vK rfl ?_)))))))))
    refine vK rfl (vQ2 tab rfl rfl (vK4 rfl rfl rfl rfl (vQ2 tab rfl rfl (vK3 rfl rfl rfl (vQ2 tab rfl rfl (vK3 rfl rfl rfl (vQ tab rfl (vnl (qth (vc_true rfl (wsq (wrg (vQ tab rfl ?_)))))))))))))
    refine vnl (qth (vw_ret (q_thenr ?_)))
    rotate_left
    refine vK3 rfl rfl rfl (vQ2 tab rfl rfl (vK3 rfl rfl rfl (vQ2 tab rfl rfl (vK3 rfl rfl rfl (vQ2 tab rfl rfl (vK3 rfl rfl rfl (vQ2 tab rfl rfl (vK3 rfl rfl rfl (vK rfl ?_)))))))))
    refine vQ2 tab rfl rfl (vK4 rfl rfl rfl rfl (vQ2 tab rfl rfl (vK4 rfl rfl rfl rfl (vQ2 tab rfl rfl (vK3 rfl rfl rfl (vQ2 tab rfl rfl (vK3 rfl rfl rfl (vQ tab rfl (vnl ?_)))))))))
    refine qth (vc_true rfl (wsq (wrg (vQ tab rfl (vnl (qth (vw_ret (q_thenr ?_))))))))
    rotate_left
    refine vK3 rfl rfl rfl (vQ2 tab rfl rfl (vK3 rfl rfl rfl (vQ2 tab rfl rfl (vK3 rfl rfl rfl (vQ2 tab rfl rfl (vK3 rfl rfl rfl (vQ2 tab rfl rfl (vK3 rfl rfl rfl (vQ tab rfl ?_)))))))))
    refine vQ tab rfl (vK4 rfl rfl rfl rfl (vQ2 tab rfl rfl (vK4 rfl rfl rfl rfl (vQ2 tab rfl rfl (vK4 rfl rfl rfl rfl (vQ2 tab rfl rfl (vK3 rfl rfl rfl (vQ tab rfl (vQ tab rfl ?_)))))))))
    refine vK3 rfl rfl rfl (vQ tab rfl (vnl (qth (vc_true rfl (wsq (wrg (vQ tab rfl (vnl (qth (vw_ret (q_thenr ?_)))))))))))
    rotate_left
    refine vK3 rfl rfl rfl (vQ2 tab rfl rfl (vK3 rfl rfl rfl (vQ2 tab rfl rfl (vK3 rfl rfl rfl (vQ2 tab rfl rfl (vK3 rfl rfl rfl (vQ2 tab rfl rfl (vK3 rfl rfl rfl (vQ tab rfl ?_)))))))))
    refine vQ tab rfl (vK3 rfl rfl rfl (vQ2 tab rfl rfl (vK4 rfl rfl rfl rfl (vQ2 tab rfl rfl (vK4 rfl rfl rfl rfl (vQ2 tab rfl rfl (vK4 rfl rfl rfl rfl (vQ tab rfl (vQ tab rfl ?_)))))))))
    refine vK3 rfl rfl rfl (vQ2 tab rfl rfl (vK3 rfl rfl rfl (vQ tab rfl (vnl (qth (vc_true rfl (wsq (wrg (vQ tab rfl (vnl (qth (vw_ret (q_thenr ?_)))))))))))))
    rotate_left
    all_goals exact ⟨.inr rfl, Eq.trans (b := some (.bool _)) rfl (congrArg (fun b => some (Value.bool b)) (by unfold evtMay evtPlain; simp [evtPlain, evtNums, evtMake, evtText, okN] at * <;> first | omega | (rw [Bool.eq_iff_iff]; simp; omega)))⟩
  · refine wsq (wrg (vN tab rfl (vQ tab rfl (vnl (qth (wsq (wrg (vQ tab rfl (vF rfl callable_57 (refevt_part ⟨8, f1, f2, f3, f4, f5, f6, f7⟩) (vQ3 tab rfl rfl rfl (vN tab rfl (vS tab rfl (vQ tab rfl (vnl (qth (wsq (wsq (wrg (vQ2 tab rfl rfl (vQ tab rfl ?_))))))))))))))))))))
    refine vQ2 tab rfl rfl (vq_op tab ⟨_, _, rfl, rfl, rfl⟩ rfl rfl (ev_neq rfl rfl rfl (evt_eq (evtPlain ⟨8, f1, f2, f3, f4, f5, f6, f7⟩) ⟨8, f1, f2, f3, f4, f5, f6, f7⟩)) (vQ tab rfl (vQ tab rfl ?_)))
    refine vg_op rfl rfl rfl (fun _ => ?_) (fun _ => ?_)
    refine vQ4 tab rfl rfl rfl rfl (vQ tab rfl ?_)
    refine vg_op rfl rfl rfl (fun _ => ?_) (fun _ => ?_)
    refine vQ4 tab rfl rfl rfl rfl (vQ tab rfl ?_)
    refine vg_op rfl rfl rfl (fun _ => ?_) (fun _ => ?_)
    refine vQ4 tab rfl rfl rfl rfl (vQ tab rfl ?_)
    refine vg_op rfl rfl rfl (fun _ => ?_) (fun _ => ?_)
    refine vQ4 tab rfl rfl rfl rfl (vQ tab rfl ?_)
    refine vg_op rfl rfl rfl (fun _ => ?_) (fun _ => ?_)
    refine vQ4 tab rfl rfl rfl rfl (vQ tab rfl ?_)
    refine vg_op rfl rfl rfl (fun _ => ?_) (fun _ => ?_)
    refine vQ4 tab rfl rfl rfl rfl (vQ tab rfl ?_)
    refine vg_op rfl rfl rfl (fun _ => ?_) (fun _ => ?_)
    refine vQ2 tab rfl rfl (vF rfl callable_58 (refnum_fun _) (vQ2 tab rfl rfl (vQ tab rfl ?_)))
    refine vg_op rfl rfl rfl (fun _ => ?_) (fun _ => ?_)
    refine vQ2 tab rfl rfl (vF rfl callable_58 (refnum_fun _) (vQ2 tab rfl rfl (vQ tab rfl ?_)))
    refine vg_op rfl rfl rfl (fun _ => ?_) (fun _ => ?_)
    refine vQ2 tab rfl rfl (vF rfl callable_58 (refnum_fun _) (vQ2 tab rfl rfl (vQ tab rfl ?_)))
    refine vg_op rfl rfl rfl (fun _ => ?_) (fun _ => ?_)
    refine vQ4 tab rfl rfl rfl rfl (vQ tab rfl ?_)
    refine vg_op rfl rfl rfl (fun _ => ?_) (fun _ => ?_)
    refine vQ4 tab rfl rfl rfl rfl (vnl (qth ?_))
    refine vc_part rfl (fun _ => ?_) (fun _ => ?_)
    refine wsq (wrg (vQ tab rfl (vnl (qth (vw_ret (q_thenr ?_))))))
    rotate_left
    refine vw_skip (qth (wsq (wrg (vQ4 tab rfl rfl rfl rfl (vK3 rfl rfl rfl (vQ2 tab rfl rfl (vnl (qth (vw_ret ?_)))))))))
    rotate_left
    refine vK3 rfl rfl rfl (vQ tab rfl (vnl (qth (vc_true rfl (wsq (wrg (vQ tab rfl (vnl (qth (vw_ret (q_thenr ?_)))))))))))
    rotate_left
    refine vK3 rfl rfl rfl (vQ2 tab rfl rfl (vK3 rfl rfl rfl (vQ tab rfl (vnl (qth (vc_true rfl (wsq (wrg (vQ tab rfl (vnl (qth (vw_ret (q_thenr ?_)))))))))))))
    rotate_left
    refine vK4 rfl rfl rfl rfl (vQ2 tab rfl rfl (vK3 rfl rfl rfl (vQ2 tab rfl rfl (vK3 rfl rfl rfl (vQ tab rfl (vnl (qth (vc_true rfl (wsq (wrg (vQ tab rfl (vnl (qth (vw_ret ?_))))))))))))))
    refine q_thenr ?_
    rotate_left
    refine vK4 rfl rfl rfl rfl (vQ2 tab rfl rfl (vK4 rfl rfl rfl rfl (vQ2 tab rfl rfl (vK3 rfl rfl rfl (vQ2 tab rfl rfl (vK3 rfl rfl rfl (vQ tab rfl (vnl (qth (vc_true rfl ?_))))))))))
    refine wsq (wrg (vQ tab rfl (vnl (qth (vw_ret (q_thenr ?_))))))
    rotate_left
    refine vK4 rfl rfl rfl rfl (vQ2 tab rfl rfl (vK4 rfl rfl rfl rfl (vQ2 tab rfl rfl (vK4 rfl rfl rfl rfl (vQ2 tab rfl rfl (vK3 rfl rfl rfl (vQ2 tab rfl rfl (vK rfl ?_))))))))
    refine vK2 rfl rfl (vQ tab rfl (vnl (qth (vc_true rfl (wsq (wrg (vQ tab rfl (vnl (qth (vw_ret (q_thenr ?_)))))))))))
    rotate_left
    refine vK3 rfl rfl rfl (vQ2 tab rfl rfl (vK4 rfl rfl rfl rfl (vQ2 tab rfl rfl (vK4 rfl rfl rfl rfl (vQ2 tab rfl rfl (vK4 rfl rfl rfl rfl (vQ2 tab rfl rfl (vK rfl ?_))))))))
    refine vK2 rfl rfl (vQ2 tab rfl rfl (vK3 rfl rfl rfl (vQ tab rfl (vnl (qth (vc_true rfl (wsq (wrg (vQ tab rfl (vnl (qth (vw_ret (q_thenr ?_)))))))))))))
    rotate_left
    refine vK3 rfl rfl rfl (vQ2 tab rfl rfl (vK3 rfl rfl rfl (vQ2 tab rfl rfl (vK4 rfl rfl rfl rfl (vQ2 tab rfl rfl (vK4 rfl rfl rfl rfl (vQ2 tab rfl rfl (vK rfl (vK rfl ?_)))))))))
    refine vK2 rfl rfl (vQ2 tab rfl rfl (vK3 rfl rfl rfl (vQ2 tab rfl rfl (vK3 rfl rfl rfl (vQ tab rfl (vnl (qth (vc_true rfl (wsq (wrg (vQ tab rfl (vnl (qth (vw_ret (q_thenr ?_)))))))))))))))
    rotate_left
    refine vK3 rfl rfl rfl (vQ2 tab rfl rfl (vK3 rfl rfl rfl (vQ2 tab rfl rfl (vK3 rfl rfl rfl (vQ2 tab rfl rfl (vK4 rfl rfl rfl rfl (vQ2 tab rfl rfl (vK2 rfl rfl (vK rfl ?_)))))))))
    refine vK rfl (vQ2 tab rfl rfl (vK4 rfl rfl rfl rfl (vQ2 tab rfl rfl (vK3 rfl rfl rfl (vQ2 tab rfl rfl (vK3 rfl rfl rfl (vQ tab rfl (vnl (qth (vc_true rfl (wsq (wrg (vQ tab rfl ?_)))))))))))))
    refine vnl (qth (vw_ret (q_thenr ?_)))
    rotate_left
    refine vK3 rfl rfl rfl (vQ2 tab rfl rfl (vK3 rfl rfl rfl (vQ2 tab rfl rfl (vK3 rfl rfl rfl (vQ2 tab rfl rfl (vK3 rfl rfl rfl (vQ2 tab rfl rfl (vK3 rfl rfl rfl (vK rfl ?_)))))))))
    refine vQ2 tab rfl rfl (vK4 rfl rfl rfl rfl (vQ2 tab rfl rfl (vK4 rfl rfl rfl rfl (vQ2 tab rfl rfl (vK3 rfl rfl rfl (vQ2 tab rfl rfl (vK3 rfl rfl rfl (vQ tab rfl (vnl ?_)))))))))
    refine qth (vc_true rfl (wsq (wrg (vQ tab rfl (vnl (qth (vw_ret (q_thenr ?_))))))))
    rotate_left
    refine vK3 rfl rfl rfl (vQ2 tab rfl rfl (vK3 rfl rfl rfl (vQ2 tab rfl rfl (vK3 rfl rfl rfl (vQ2 tab rfl rfl (vK3 rfl rfl rfl (vQ2 tab rfl rfl (vK3 rfl rfl rfl (vQ tab rfl ?_)))))))))
    refine vQ tab rfl (vK4 rfl rfl rfl rfl (vQ2 tab rfl rfl (vK4 rfl rfl rfl rfl (vQ2 tab rfl rfl (vK4 rfl rfl rfl rfl (vQ2 tab rfl rfl (vK3 rfl rfl rfl (vQ tab rfl (vQ tab rfl ?_)))))))))
    refine vK3 rfl rfl rfl (vQ tab rfl (vnl (qth (vc_true rfl (wsq (wrg (vQ tab rfl (vnl (qth (vw_ret (q_thenr ?_)))))))))))
    rotate_left
    refine vK3 rfl rfl rfl (vQ2 tab rfl rfl (vK3 rfl rfl rfl (vQ2 tab rfl rfl (vK3 rfl rfl rfl (vQ2 tab rfl rfl (vK3 rfl rfl rfl (vQ2 tab rfl rfl (vK3 rfl rfl rfl (vQ tab rfl ?_)))))))))
    refine vQ tab rfl (vK3 rfl rfl rfl (vQ2 tab rfl rfl (vK4 rfl rfl rfl rfl (vQ2 tab rfl rfl (vK4 rfl rfl rfl rfl (vQ2 tab rfl rfl (vK4 rfl rfl rfl rfl (vQ tab rfl (vQ tab rfl ?_)))))))))
    refine vK3 rfl rfl rfl (vQ2 tab rfl rfl (vK3 rfl rfl rfl (vQ tab rfl (vnl (qth (vc_true rfl (wsq (wrg (vQ tab rfl (vnl (qth (vw_ret (q_thenr ?_)))))))))))))
    rotate_left
    all_goals exact ⟨.inr rfl, Eq.trans (b := some (.bool _)) rfl (congrArg (fun b => some (Value.bool b)) (by unfold evtMay evtPlain; simp [evtPlain, evtNums, evtMake, evtText, okN] at * <;> first | omega | (rw [Bool.eq_iff_iff]; simp; omega)))⟩
  · refine wsq (wrg (vN tab rfl (vQ tab rfl (vnl (qth (wsq (wrg (vQ tab rfl (vF rfl callable_57 (refevt_part ⟨9, f1, f2, f3, f4, f5, f6, f7⟩) (vQ3 tab rfl rfl rfl (vN tab rfl (vS tab rfl (vQ tab rfl (vnl (qth (wsq (wsq (wrg (vQ2 tab rfl rfl (vQ tab rfl ?_))))))))))))))))))))
    refine vQ2 tab rfl rfl (vq_op tab ⟨_, _, rfl, rfl, rfl⟩ rfl rfl (ev_neq rfl rfl rfl (evt_eq (evtPlain ⟨9, f1, f2, f3, f4, f5, f6, f7⟩) ⟨9, f1, f2, f3, f4, f5, f6, f7⟩)) (vQ tab rfl (vQ tab rfl ?_)))
    refine vg_op rfl rfl rfl (fun _ => ?_) (fun _ => ?_)
    refine vQ4 tab rfl rfl rfl rfl (vQ tab rfl ?_)
    refine vg_op rfl rfl rfl (fun _ => ?_) (fun _ => ?_)
    refine vQ4 tab rfl rfl rfl rfl (vQ tab rfl ?_)
    refine vg_op rfl rfl rfl (fun _ => ?_) (fun _ => ?_)
    refine vQ4 tab rfl rfl rfl rfl (vQ tab rfl ?_)
    refine vg_op rfl rfl rfl (fun _ => ?_) (fun _ => ?_)
    refine vQ4 tab rfl rfl rfl rfl (vQ tab rfl ?_)
    refine vg_op rfl rfl rfl (fun _ => ?_) (fun _ => ?_)
    refine vQ4 tab rfl rfl rfl rfl (vQ tab rfl ?_)
    refine vg_op rfl rfl rfl (fun _ => ?_) (fun _ => ?_)
    refine vQ4 tab rfl rfl rfl rfl (vQ tab rfl ?_)
    refine vg_op rfl rfl rfl (fun _ => ?_) (fun _ => ?_)
    refine vQ2 tab rfl rfl (vF rfl callable_58 (refnum_fun _) (vQ2 tab rfl rfl (vQ tab rfl ?_)))
    refine vg_op rfl rfl rfl (fun _ => ?_) (fun _ => ?_)
    refine vQ2 tab rfl rfl (vF rfl callable_58 (refnum_fun _) (vQ2 tab rfl rfl (vQ tab rfl ?_)))
    refine vg_op rfl rfl rfl (fun _ => ?_) (fun _ => ?_)
    refine vQ2 tab rfl rfl (vF rfl callable_58 (refnum_fun _) (vQ2 tab rfl rfl (vQ tab rfl ?_)))
    refine vg_op rfl rfl rfl (fun _ => ?_) (fun _ => ?_)
    refine vQ4 tab rfl rfl rfl rfl (vQ tab rfl ?_)
    refine vg_op rfl rfl rfl (fun _ => ?_) (fun _ => ?_)
    refine vQ4 tab rfl rfl rfl rfl (vnl (qth ?_))
    refine vc_part rfl (fun _ => ?_) (fun _ => ?_)
    refine wsq (wrg (vQ tab rfl (vnl (qth (vw_ret (q_thenr ?_))))))
    rotate_left
    refine vw_skip (qth (wsq (wrg (vQ4 tab rfl rfl rfl rfl (vK3 rfl rfl rfl (vQ2 tab rfl rfl (vnl (qth (vw_ret ?_)))))))))
    rotate_left
    refine vK3 rfl rfl rfl (vQ tab rfl (vnl (qth (vc_true rfl (wsq (wrg (vQ tab rfl (vnl (qth (vw_ret (q_thenr ?_)))))))))))
    rotate_left
    refine vK3 rfl rfl rfl (vQ2 tab rfl rfl (vK3 rfl rfl rfl (vQ tab rfl (vnl (qth (vc_true rfl (wsq (wrg (vQ tab rfl (vnl (qth (vw_ret (q_thenr ?_)))))))))))))
    rotate_left
    refine vK4 rfl rfl rfl rfl (vQ2 tab rfl rfl (vK3 rfl rfl rfl (vQ2 tab rfl rfl (vK3 rfl rfl rfl (vQ tab rfl (vnl (qth (vc_true rfl (wsq (wrg (vQ tab rfl (vnl (qth (vw_ret ?_))))))))))))))
    refine q_thenr ?_
    rotate_left
    refine vK4 rfl rfl rfl rfl (vQ2 tab rfl rfl (vK4 rfl rfl rfl rfl (vQ2 tab rfl rfl (vK3 rfl rfl rfl (vQ2 tab rfl rfl (vK3 rfl rfl rfl (vQ tab rfl (vnl (qth (vc_true rfl ?_))))))))))
    refine wsq (wrg (vQ tab rfl (vnl (qth (vw_ret (q_thenr ?_))))))
    rotate_left
    refine vK4 rfl rfl rfl rfl (vQ2 tab rfl rfl (vK4 rfl rfl rfl rfl (vQ2 tab rfl rfl (vK4 rfl rfl rfl rfl (vQ2 tab rfl rfl (vK3 rfl rfl rfl (vQ2 tab rfl rfl (vK rfl ?_))))))))
    refine vK2 rfl rfl (vQ tab rfl (vnl (qth (vc_true rfl (wsq (wrg (vQ tab rfl (vnl (qth (vw_ret (q_thenr ?_)))))))))))
    rotate_left
    refine vK3 rfl rfl rfl (vQ2 tab rfl rfl (vK4 rfl rfl rfl rfl (vQ2 tab rfl rfl (vK4 rfl rfl rfl rfl (vQ2 tab rfl rfl (vK4 rfl rfl rfl rfl (vQ2 tab rfl rfl (vK rfl ?_))))))))
    refine vK2 rfl rfl (vQ2 tab rfl rfl (vK3 rfl rfl rfl (vQ tab rfl (vnl (qth (vc_true rfl (wsq (wrg (vQ tab rfl (vnl (qth (vw_ret (q_thenr ?_)))))))))))))
    rotate_left
    refine vK3 rfl rfl rfl (vQ2 tab rfl rfl (vK3 rfl rfl rfl (vQ2 tab rfl rfl (vK4 rfl rfl rfl rfl (vQ2 tab rfl rfl (vK4 rfl rfl rfl rfl (vQ2 tab rfl rfl (vK rfl (vK rfl ?_)))))))))
    refine vK2 rfl rfl (vQ2 tab rfl rfl (vK3 rfl rfl rfl (vQ2 tab rfl rfl (vK3 rfl rfl rfl (vQ tab rfl (vnl (qth (vc_true rfl (wsq (wrg (vQ tab rfl (vnl (qth (vw_ret (q_thenr ?_)))))))))))))))
    rotate_left
    refine vK3 rfl rfl rfl (vQ2 tab rfl rfl (vK3 rfl rfl rfl (vQ2 tab rfl rfl (vK3 rfl rfl rfl (vQ2 tab rfl rfl (vK4 rfl rfl rfl rfl (vQ2 tab rfl rfl (vK2 rfl rfl (vK rfl ?_)))))))))
    refine vK rfl (vQ2 tab rfl rfl (vK4 rfl rfl rfl rfl (vQ2 tab rfl rfl (vK3 rfl rfl rfl (vQ2 tab rfl rfl (vK3 rfl rfl rfl (vQ tab rfl (vnl (qth (vc_true rfl (wsq (wrg (vQ tab rfl ?_)))))))))))))
    refine vnl (qth (vw_ret (q_thenr ?_)))
    rotate_left
    refine vK3 rfl rfl rfl (vQ2 tab rfl rfl (vK3 rfl rfl rfl (vQ2 tab rfl rfl (vK3 rfl rfl rfl (vQ2 tab rfl rfl (vK3 rfl rfl rfl (vQ2 tab rfl rfl (vK3 rfl rfl rfl (vK rfl ?_)))))))))
    refine vQ2 tab rfl rfl (vK4 rfl rfl rfl rfl (vQ2 tab rfl rfl (vK4 rfl rfl rfl rfl (vQ2 tab rfl rfl (vK3 rfl rfl rfl (vQ2 tab rfl rfl (vK3 rfl rfl rfl (vQ tab rfl (vnl ?_)))))))))
    refine qth (vc_true rfl (wsq (wrg (vQ tab rfl (vnl (qth (vw_ret (q_thenr ?_))))))))
    rotate_left
    refine vK3 rfl rfl rfl (vQ2 tab rfl rfl (vK3 rfl rfl rfl (vQ2 tab rfl rfl (vK3 rfl rfl rfl (vQ2 tab rfl rfl (vK3 rfl rfl rfl (vQ2 tab rfl rfl (vK3 rfl rfl rfl (vQ tab rfl ?_)))))))))
    refine vQ tab rfl (vK4 rfl rfl rfl rfl (vQ2 tab rfl rfl (vK4 rfl rfl rfl rfl (vQ2 tab rfl rfl (vK4 rfl rfl rfl rfl (vQ2 tab rfl rfl (vK3 rfl rfl rfl (vQ tab rfl (vQ tab rfl ?_)))))))))
    refine vK3 rfl rfl rfl (vQ tab rfl (vnl (qth (vc_true rfl (wsq (wrg (vQ tab rfl (vnl (qth (vw_ret (q_thenr ?_)))))))))))
    rotate_left
    refine vK3 rfl rfl rfl (vQ2 tab rfl rfl (vK3 rfl rfl rfl (vQ2 tab rfl rfl (vK3 rfl rfl rfl (vQ2 tab rfl rfl (vK3 rfl rfl rfl (vQ2 tab rfl rfl (vK3 rfl rfl rfl (vQ tab rfl ?_)))))))))
    refine vQ tab rfl (vK3 rfl rfl rfl (vQ2 tab rfl rfl (vK4 rfl rfl rfl rfl (vQ2 tab rfl rfl (vK4 rfl rfl rfl rfl (vQ2 tab rfl rfl (vK4 rfl rfl rfl rfl (vQ tab rfl (vQ tab rfl ?_)))))))))
    refine vK3 rfl rfl rfl (vQ2 tab rfl rfl (vK3 rfl rfl rfl (vQ tab rfl (vnl (qth (vc_true rfl (wsq (wrg (vQ tab rfl (vnl (qth (vw_ret (q_thenr ?_)))))))))))))
    rotate_left
    all_goals exact ⟨.inr rfl, Eq.trans (b := some (.bool _)) rfl (congrArg (fun b => some (Value.bool b)) (by unfold evtMay evtPlain; simp [evtPlain, evtNums, evtMake, evtText, okN] at * <;> first | omega | (rw [Bool.eq_iff_iff]; simp; omega)))⟩
  · have hkb : (decide (0 ≤ k) && decide (k ≤ 9)) = false := by rw [Bool.and_eq_false_iff, decide_eq_false_iff_not, decide_eq_false_iff_not]; omega
    refine wsq (wrg (vN tab rfl (vQ tab rfl (vnl (qth (wsq (wrg (vQ tab rfl (vF rfl callable_57 (refevt_part ⟨k, f1, f2, f3, f4, f5, f6, f7⟩) (vQ3 tab rfl rfl rfl (vN tab rfl (vS tab rfl (vQ tab rfl (vnl (qth (wsq (wsq (wrg (vQ2 tab rfl rfl (vQ tab rfl ?_))))))))))))))))))))
    refine vgd_op true rfl rfl rfl (by simp only [hkb, sl_]; first | done | omega) ?_
    refine vK3 rfl rfl rfl (vQ2 tab rfl rfl (vK3 rfl rfl rfl (vQ2 tab rfl rfl (vK3 rfl rfl rfl (vQ2 tab rfl rfl (vK3 rfl rfl rfl (vQ2 tab rfl rfl (vK3 rfl rfl rfl (vQ tab rfl ?_)))))))))
    refine vQ tab rfl (vK3 rfl rfl rfl (vQ2 tab rfl rfl (vK3 rfl rfl rfl (vQ2 tab rfl rfl (vK4 rfl rfl rfl rfl (vQ2 tab rfl rfl (vK4 rfl rfl rfl rfl (vQ2 tab rfl rfl (vK rfl ?_)))))))))
    refine vK3 rfl rfl rfl (vQ2 tab rfl rfl (vK3 rfl rfl rfl (vQ2 tab rfl rfl (vK3 rfl rfl rfl (vQ tab rfl (vnl (qth (vc_true rfl (wsq (wrg (vQ tab rfl (vnl (qth (vw_ret (q_thenr ?_)))))))))))))))
    all_goals exact ⟨.inr rfl, Eq.trans (b := some (.bool _)) rfl (congrArg (fun b => some (Value.bool b)) (by unfold evtMay evtPlain; simp [evtPlain, evtNums, evtMake, evtText, okN] at * <;> first | omega | (rw [Bool.eq_iff_iff]; simp; omega)))⟩
end Go.Proofs.YtcjfidfealifhaaGreat
namespace Go.Proofs.YtcjfidfealifhaaGreat
open Go Vm IntWalk
set_option linter.unusedVariables false
set_option linter.unusedSimpArgs false
theorem refopen_fun (f u t : Int) : Fun Tryz.prog 99 [.agg #[.int .i64 f, .int .i64 u], .int .i64 t] (.bool (decide (u ≤ t))) := by
  refine fun_of_vw tab Tryz.func99 rfl rfl (by simp [Tryz.f99]) (lrel_cons (vrel_agg (lrel_cons (.int _ _) (lrel_cons (.int _ _) lrel_nil))) (lrel_cons (.int _ _) lrel_nil)) (.bool _) ?_
  refine wsq (wrg (vN tab rfl (vQ tab rfl (vnl (qth (wsq (wrg (vQ4 tab rfl rfl rfl rfl (vQ tab rfl (vnl (qth (vw_ret ?_))))))))))))
  exact ⟨.inr rfl, rfl⟩
set_option maxHeartbeats 4000000 in
theorem reffail_fun (f u t m o : Int) : Fun Tryz.prog 83 [.agg #[.int .i64 f, .int .i64 u], .int .i64 t, .int .i64 m, .int .i64 o]
    (.tuple #[.agg #[.int .i64 (failR f u t m o).1, .int .i64 (failR f u t m o).2.1], .int .i64 (failR f u t m o).2.2]) := by
  refine fun_of_vw tab Tryz.func83 rfl rfl (by simp [Tryz.f83])
    (lrel_cons (vrel_agg (lrel_cons (.int _ _) (lrel_cons (.int _ _) lrel_nil))) (lrel_cons (.int _ _) (lrel_cons (.int _ _) (lrel_cons (.int _ _) lrel_nil))))
    (vrel_tuple (lrel_cons (vrel_agg (lrel_cons (.int _ _) (lrel_cons (.int _ _) lrel_nil))) (lrel_cons (.int _ _) lrel_nil))) ?_
  refine wsq (wrg (vN tab rfl (vN tab rfl (vQ tab rfl (vnl (qth (wsq (wsq (wrg (vQ3 tab rfl rfl rfl (vQ tab rfl ?_)))))))))))
  refine vg_op rfl rfl rfl (fun _ => ?_) (fun _ => ?_)
  refine vQ4 tab rfl rfl rfl rfl (vQ tab rfl ?_)
  refine vg_op rfl rfl rfl (fun _ => ?_) (fun _ => ?_)
  refine vQ4 tab rfl rfl rfl rfl (vQ tab rfl ?_)
  refine vg_op rfl rfl rfl (fun _ => ?_) (fun _ => ?_)
  refine vQ4 tab rfl rfl rfl rfl (vQ tab rfl ?_)
  refine vg_op rfl rfl rfl (fun _ => ?_) (fun _ => ?_)
  refine vQ tab rfl (vF rfl callable_98 (reftick_fun _) (vQ2 tab rfl rfl (vQ tab rfl ?_)))
  refine vg_op rfl rfl rfl (fun _ => ?_) (fun _ => ?_)
  refine vQ3 tab rfl rfl rfl (vQ tab rfl ?_)
  refine vg_op rfl rfl rfl (fun _ => ?_) (fun _ => ?_)
  refine vQ3 tab rfl rfl rfl (vQ tab rfl ?_)
  refine vg_op rfl rfl rfl (fun _ => ?_) (fun _ => ?_)
  refine vQ3 tab rfl rfl rfl (vQ tab rfl ?_)
  refine vg_op rfl rfl rfl (fun _ => ?_) (fun _ => ?_)
  refine vQ3 tab rfl rfl rfl (vQ tab rfl ?_)
  refine vg_op rfl rfl rfl (fun _ => ?_) (fun _ => ?_)
  refine vQ2 tab rfl rfl (vF rfl callable_99 (refopen_fun _ _ _) (vQ2 tab rfl rfl (vnl (qth ?_))))
  refine vc_part rfl (fun _ => ?_) (fun _ => ?_)
  refine wsq (wrg (vQ tab rfl (vS tab rfl (vQ tab rfl (vnl (qth (vw_ret (q_thenr ?_))))))))
  rotate_left
  refine vw_skip (qth (wsq (wsq (wrg (vQ4 tab rfl rfl rfl rfl (vnl (qth ?_)))))))
  refine vc_part rfl (fun _ => ?_) (fun _ => ?_)
  refine wrg (vQ tab rfl (vS tab rfl (vnl (qth (wsq (wrg (vQ4 tab rfl rfl rfl rfl (vS tab rfl (vnl (qth (wsq (wsq (wrg (vQ4 tab rfl rfl rfl rfl (vnl (qth ?_))))))))))))))))
  refine vc_part rfl (fun _ => ?_) (fun _ => ?_)
  refine wrg (vQ4 tab rfl rfl rfl rfl (vS tab rfl (vnl (qth (wsq (wrg (vQ tab rfl (vS tab rfl (vQ tab rfl (vnl (qth (vw_ret ?_))))))))))))
  rotate_left
  refine vw_skip (qth (wsq (wrg (vQ tab rfl (vS tab rfl (vQ tab rfl (vnl (qth (vw_ret ?_)))))))))
  rotate_left
  refine vw_skip (qth (wsq (wrg (vQ4 tab rfl rfl rfl rfl (vS tab rfl (vnl (qth (wsq (wsq (wrg (vQ4 tab rfl rfl rfl rfl (vnl (qth ?_)))))))))))))
  refine vc_part rfl (fun _ => ?_) (fun _ => ?_)
  refine wrg (vQ4 tab rfl rfl rfl rfl (vS tab rfl (vnl (qth (wsq (wrg (vQ tab rfl (vS tab rfl (vQ tab rfl (vnl (qth (vw_ret ?_))))))))))))
  rotate_left
  refine vw_skip (qth (wsq (wrg (vQ tab rfl (vS tab rfl (vQ tab rfl (vnl (qth (vw_ret ?_)))))))))
  rotate_left
  refine vK4 rfl rfl rfl rfl (vQ tab rfl (vnl (qth (vc_true rfl (wsq (wrg (vQ tab rfl (vS tab rfl (vQ tab rfl (vnl (qth (vw_ret (q_thenr ?_)))))))))))))
  rotate_left
  refine vK2 rfl rfl (vQ2 tab rfl rfl (vK4 rfl rfl rfl rfl (vQ tab rfl (vnl (qth (vc_true rfl (wsq (wrg (vQ tab rfl (vS tab rfl (vQ tab rfl (vnl (qth (vw_ret (q_thenr ?_)))))))))))))))
  rotate_left
  refine vK2 rfl rfl (vQ2 tab rfl rfl (vK2 rfl rfl (vQ2 tab rfl rfl (vK4 rfl rfl rfl rfl (vQ tab rfl (vnl (qth (vc_true rfl (wsq (wrg (vQ tab rfl (vS tab rfl (vQ tab rfl (vnl (qth (vw_ret ?_))))))))))))))))
  refine q_thenr ?_
  rotate_left
  refine vK2 rfl rfl (vQ2 tab rfl rfl (vK2 rfl rfl (vQ2 tab rfl rfl (vK2 rfl rfl (vQ2 tab rfl rfl (vK4 rfl rfl rfl rfl (vQ tab rfl (vnl (qth (vc_true rfl (wsq (wrg (vQ tab rfl (vS tab rfl ?_))))))))))))))
  refine vQ tab rfl (vnl (qth (vw_ret (q_thenr ?_))))
  rotate_left
  refine vK2 rfl rfl (vQ2 tab rfl rfl (vK2 rfl rfl (vQ2 tab rfl rfl (vK2 rfl rfl (vQ2 tab rfl rfl (vK2 rfl rfl (vQ2 tab rfl rfl (vK4 rfl rfl rfl rfl (vQ tab rfl (vnl (qth (vc_true rfl ?_))))))))))))
  refine wsq (wrg (vQ tab rfl (vS tab rfl (vQ tab rfl (vnl (qth (vw_ret (q_thenr ?_))))))))
  rotate_left
  refine vK3 rfl rfl rfl (vQ2 tab rfl rfl (vK2 rfl rfl (vQ2 tab rfl rfl (vK2 rfl rfl (vQ2 tab rfl rfl (vK2 rfl rfl (vQ2 tab rfl rfl (vK2 rfl rfl (vQ2 tab rfl rfl (vK2 rfl rfl (vK rfl ?_)))))))))))
  refine vK rfl (vQ tab rfl (vnl (qth (vc_true rfl (wsq (wrg (vQ tab rfl (vS tab rfl (vQ tab rfl (vnl (qth (vw_ret (q_thenr ?_)))))))))))))
  rotate_left
  refine vK3 rfl rfl rfl (vQ2 tab rfl rfl (vK3 rfl rfl rfl (vQ2 tab rfl rfl (vK2 rfl rfl (vQ2 tab rfl rfl (vK2 rfl rfl (vQ2 tab rfl rfl (vK2 rfl rfl (vQ2 tab rfl rfl (vK rfl (vK rfl ?_)))))))))))
  refine vQ2 tab rfl rfl (vK4 rfl rfl rfl rfl (vQ tab rfl (vnl (qth (vc_true rfl (wsq (wrg (vQ tab rfl (vS tab rfl (vQ tab rfl (vnl (qth (vw_ret (q_thenr ?_))))))))))))))
  rotate_left
  refine vK3 rfl rfl rfl (vQ2 tab rfl rfl (vK3 rfl rfl rfl (vQ2 tab rfl rfl (vK3 rfl rfl rfl (vQ2 tab rfl rfl (vK2 rfl rfl (vQ2 tab rfl rfl (vK2 rfl rfl (vQ2 tab rfl rfl (vK rfl ?_))))))))))
  refine vK rfl (vQ2 tab rfl rfl (vK2 rfl rfl (vQ2 tab rfl rfl (vK4 rfl rfl rfl rfl (vQ tab rfl (vnl (qth (vc_true rfl (wsq (wrg (vQ tab rfl (vS tab rfl (vQ tab rfl (vnl (qth (vw_ret (q_thenr ?_)))))))))))))))))
  rotate_left
  refine vK3 rfl rfl rfl (vQ2 tab rfl rfl (vK3 rfl rfl rfl (vQ2 tab rfl rfl (vK3 rfl rfl rfl (vQ2 tab rfl rfl (vK3 rfl rfl rfl (vQ2 tab rfl rfl (vK2 rfl rfl (vQ tab rfl (vQ tab rfl ?_))))))))))
  refine vK2 rfl rfl (vQ2 tab rfl rfl (vK2 rfl rfl (vQ2 tab rfl rfl (vK2 rfl rfl (vQ2 tab rfl rfl (vK4 rfl rfl rfl rfl (vQ tab rfl (vnl (qth (vc_true rfl (wsq (wrg (vQ tab rfl (vS tab rfl ?_))))))))))))))
  refine vQ tab rfl (vnl (qth (vw_ret (q_thenr ?_))))
  rotate_left
  all_goals
    refine ⟨.inr rfl, Eq.trans (b := some _) rfl (congrArg some ?_)⟩
  all_goals
    simp only [Bool.and_eq_true, Bool.and_eq_false_iff, decide_eq_true_eq, decide_eq_false_iff_not, Bool.not_eq_eq_eq_not, Bool.not_true, Bool.not_false, beq_iff_eq, beq_eq_false_iff_ne, ne_eq, i64_in 1 (by omega), Int.zero_add] at *
    first
      | (rw [failR_bad (by unfold failBad; omega)]; rfl)
      | (have hw1 := i64_in (f + 1) (by omega)
         have hw2 := i64_in (t + o) (by omega)
         simp only [hw1, hw2] at *
         rw [failR, if_neg (by unfold failBad; omega), failF]
         simp [ti74, setCells, splice, Value.cells, *]
         done)
end Go.Proofs.YtcjfidfealifhaaGreat
namespace Go.Proofs.YtcjfidfealifhaaGreat
open Go Vm IntWalk
set_option linter.unusedVariables false
set_option linter.unusedSimpArgs false
def z3 : List AddrV := [⟨false, -1, 0⟩, ⟨false, -1, 0⟩, ⟨false, -1, 0⟩]
def a3 : List AddrV := [⟨false, -1, 0⟩, ⟨true, 4, 0⟩, ⟨false, -1, 0⟩]
def b3 : List AddrV := [⟨false, -1, 0⟩, ⟨false, 4, 9⟩, ⟨false, -1, 0⟩]
end Go.Proofs.YtcjfidfealifhaaGreat
namespace Go.Proofs.YtcjfidfealifhaaGreat
open Go Vm IntWalk
set_option linter.unusedVariables false
set_option linter.unusedSimpArgs false
set_option maxHeartbeats 4000000 in
theorem refuser_tri {V : Heap} {n : Nat} {v1 v2 v3 v4 : Value} {s : StV} (h1 : Looks V 9 v1 (userR.cells s.users) s.users.length) (h2 : Looks V 4 v2 (sessR.cells s.sess) s.sess.length) (h3 : Looks V 3 v3 (addrR.cells s.addrs) s.addrs.length) (h4 : Looks V 1 v4 ((intR .i64).cells s.spent) s.spent.length) (hx : s.users.length ≤ 140737488355328) (k : Int) :
    Tri Tryz.prog 64 [.agg #[.int .i64 s.boots, .int .i64 s.epoch, .int .i64 s.next, v1, v2, v3, v4], .int .i64 k] n 0 V (fun u L => u = .int .i64 (findI (fun a : UserV => a.user == k) s.users) ∧ L = []) := by
  refine reads_of_vw (K := 4) (argsI := [.agg #[.int .i64 s.boots, .int .i64 s.epoch, .int .i64 s.next, .slice (some ⟨0, 0, none⟩) s.users.length 0, .slice (some ⟨1, 0, none⟩) s.sess.length 0, .slice (some ⟨2, 0, none⟩) s.addrs.length 0, .slice (some ⟨3, 0, none⟩) s.spent.length 0], .int .i64 k]) tab Tryz.func64 rfl rfl (by simp [Tryz.f64]) [.look v1 s.users.length 9, .look v2 s.sess.length 4, .look v3 s.addrs.length 3, .look v4 s.spent.length 1] [.win (userR.cells s.users) 9, .win (sessR.cells s.sess) 4, .win (addrR.cells s.addrs) 3, .win ((intR .i64).cells s.spent) 1] rfl (.look h1 (userR.flat_cells s.users) (.look h2 (sessR.flat_cells s.sess) (.look h3 (addrR.flat_cells s.addrs) (.look h4 ((intR .i64).flat_cells s.spent) .nil)))) (by simp [ownNames]) (by simp [ownNames, lookNames]) (al_cons (ar_agg (al_cons (.val (.int _ _)) (al_cons (.val (.int _ _)) (al_cons (.val (.int _ _)) (al_cons (.look (a := 0) rfl) (al_cons (.look (a := 1) rfl) (al_cons (.look (a := 2) rfl) (al_cons (.look (a := 3) rfl) al_nil)))))))) (al_cons (.val (.int _ _)) al_nil)) (seen_of (sn_look (seen_agg (j := 0) (i := 3) rfl rfl) (sn_look (seen_agg (j := 0) (i := 4) rfl rfl) (sn_look (seen_agg (j := 0) (i := 5) rfl rfl) (sn_look (seen_agg (j := 0) (i := 6) rfl rfl) sn_nil))))) (.int _ _) ?_
  refine wsq (wrg (vN tab rfl (vQ tab rfl (vnl (qth (wsq (wsq (wrg (vQ tab rfl (vnl (qth (wbk ?_))))))))))))
  refine vw_loop_env (fun m env => ∃ j : Int, 0 ≤ j ∧ j ≤ s.users.length ∧ (s.users.take j.toNat).any (fun a : UserV => a.user == k) = false ∧ m = (s.users.length - j).toNat ∧
      env = [(1, .int .i64 k), (2, .pointer (some ⟨4, 0, none⟩)), (5, .int .i64 j)]) (s.users.length - 0)
    ⟨_, se_cons rfl (se_cons rfl (se_cons rfl se_nil)), 0, by omega, by omega, by simp, by simp, rfl⟩ ?_
  rintro m env ⟨j, h0, h1, ht, rfl, rfl⟩
  by_cases hj : j < (s.users.length : Int)
  case neg =>
    rw [show j.toNat = s.users.length by omega, List.take_length] at ht
    refine wsq (wsq (wrg (vQ4 tab rfl rfl rfl rfl (vQ tab rfl (vnl (qth (vcd_false rfl (by simp only [sl_]; first | done | omega) ?_)))))))
    refine vw_exit (q_thenx (q_thenx (q_here (qth (wsq (wrg (vQ tab rfl (vnl (qth (vw_ret ?_))))))))))
    exact ⟨⟨.inr rfl, by rw [findI_none ht]; rfl⟩, trivial⟩
  obtain ⟨a, ha⟩ := get_some h0 hj
  have hi : IntKind.i64.wrap (j + 1) = j + 1 := i64_in _ (by omega)
  have hjn : (j + 1).toNat = j.toNat + 1 := by omega
  cases hp : (a.user == k) with
  | true =>
    refine wsq (wsq (wrg (vQ4 tab rfl rfl rfl rfl (vQ tab rfl (vnl (qth (vcd_true rfl (by simp only [hp, sl_]; first | done | omega) ?_)))))))
    refine vw_skip (qth (wsq (wbk (wsq (wrg (vQ3 tab rfl rfl rfl (vq_op tab rfl rfl rfl (ev_index rfl rfl rfl rfl rfl (by omega) (by omega)) ?_)))))))
    refine vQ tab rfl (vq_op tab rfl rfl rfl (ev_loadcell userR rfl rfl rfl rfl rfl ha rfl) (vQ2 tab rfl rfl (vnl (qth (vcd_true rfl (by simp only [hp, sl_]; first | done | omega) ?_)))))
    refine wsq (wrg (vQ2 tab rfl rfl (vnl (qth (vw_ret (q_ret (q_thenr (q_thenr (q_ret (q_thenr ?_))))))))))
    exact ⟨⟨.inr rfl, by rw [findI_some ha hp ht, show ((j.toNat : Nat) : Int) = j by omega]; rfl⟩, trivial⟩
  | false =>
    refine wsq (wsq (wrg (vQ4 tab rfl rfl rfl rfl (vQ tab rfl (vnl (qth (vcd_true rfl (by simp only [hp, sl_]; first | done | omega) ?_)))))))
    refine vw_skip (qth (wsq (wbk (wsq (wrg (vQ3 tab rfl rfl rfl (vq_op tab rfl rfl rfl (ev_index rfl rfl rfl rfl rfl (by omega) (by omega)) ?_)))))))
    refine vQ tab rfl (vq_op tab rfl rfl rfl (ev_loadcell userR rfl rfl rfl rfl rfl ha rfl) (vQ2 tab rfl rfl (vnl (qth (vcd_false rfl (by simp only [hp, sl_]; first | done | omega) ?_)))))
    refine vw_skip (q_norm (qth (wrg (vQ3 tab rfl rfl rfl (vnl (qth ?_))))))
    exact ⟨rfl, rfl, (s.users.length - (j + 1)).toNat, _, by omega, se_cons rfl (se_cons rfl (se_cons (se_int rfl hi) se_nil)), j + 1, by omega, by omega, by rw [hjn, List.take_add_one, ha, List.any_append, ht]; simp [hp], rfl, rfl⟩
set_option maxHeartbeats 4000000 in
theorem refsess_tri {V : Heap} {n : Nat} {v1 v2 v3 v4 : Value} {s : StV} (h1 : Looks V 9 v1 (userR.cells s.users) s.users.length) (h2 : Looks V 4 v2 (sessR.cells s.sess) s.sess.length) (h3 : Looks V 3 v3 (addrR.cells s.addrs) s.addrs.length) (h4 : Looks V 1 v4 ((intR .i64).cells s.spent) s.spent.length) (hx : s.sess.length ≤ 140737488355328) (k : Int) :
    Tri Tryz.prog 81 [.agg #[.int .i64 s.boots, .int .i64 s.epoch, .int .i64 s.next, v1, v2, v3, v4], .int .i64 k] n 0 V (fun u L => u = .int .i64 (findI (fun a : SessV => a.session == k) s.sess) ∧ L = []) := by
  refine reads_of_vw (K := 4) (argsI := [.agg #[.int .i64 s.boots, .int .i64 s.epoch, .int .i64 s.next, .slice (some ⟨0, 0, none⟩) s.users.length 0, .slice (some ⟨1, 0, none⟩) s.sess.length 0, .slice (some ⟨2, 0, none⟩) s.addrs.length 0, .slice (some ⟨3, 0, none⟩) s.spent.length 0], .int .i64 k]) tab Tryz.func81 rfl rfl (by simp [Tryz.f81]) [.look v1 s.users.length 9, .look v2 s.sess.length 4, .look v3 s.addrs.length 3, .look v4 s.spent.length 1] [.win (userR.cells s.users) 9, .win (sessR.cells s.sess) 4, .win (addrR.cells s.addrs) 3, .win ((intR .i64).cells s.spent) 1] rfl (.look h1 (userR.flat_cells s.users) (.look h2 (sessR.flat_cells s.sess) (.look h3 (addrR.flat_cells s.addrs) (.look h4 ((intR .i64).flat_cells s.spent) .nil)))) (by simp [ownNames]) (by simp [ownNames, lookNames]) (al_cons (ar_agg (al_cons (.val (.int _ _)) (al_cons (.val (.int _ _)) (al_cons (.val (.int _ _)) (al_cons (.look (a := 0) rfl) (al_cons (.look (a := 1) rfl) (al_cons (.look (a := 2) rfl) (al_cons (.look (a := 3) rfl) al_nil)))))))) (al_cons (.val (.int _ _)) al_nil)) (seen_of (sn_look (seen_agg (j := 0) (i := 3) rfl rfl) (sn_look (seen_agg (j := 0) (i := 4) rfl rfl) (sn_look (seen_agg (j := 0) (i := 5) rfl rfl) (sn_look (seen_agg (j := 0) (i := 6) rfl rfl) sn_nil))))) (.int _ _) ?_
  refine wsq (wrg (vN tab rfl (vQ tab rfl (vnl (qth (wsq (wsq (wrg (vQ tab rfl (vnl (qth (wbk ?_))))))))))))
  refine vw_loop_env (fun m env => ∃ j : Int, 0 ≤ j ∧ j ≤ s.sess.length ∧ (s.sess.take j.toNat).any (fun a : SessV => a.session == k) = false ∧ m = (s.sess.length - j).toNat ∧
      env = [(1, .int .i64 k), (2, .pointer (some ⟨4, 0, none⟩)), (5, .int .i64 j)]) (s.sess.length - 0)
    ⟨_, se_cons rfl (se_cons rfl (se_cons rfl se_nil)), 0, by omega, by omega, by simp, by simp, rfl⟩ ?_
  rintro m env ⟨j, h0, h1, ht, rfl, rfl⟩
  by_cases hj : j < (s.sess.length : Int)
  case neg =>
    rw [show j.toNat = s.sess.length by omega, List.take_length] at ht
    refine wsq (wsq (wrg (vQ4 tab rfl rfl rfl rfl (vQ tab rfl (vnl (qth (vcd_false rfl (by simp only [sl_]; first | done | omega) ?_)))))))
    refine vw_exit (q_thenx (q_thenx (q_here (qth (wsq (wrg (vQ tab rfl (vnl (qth (vw_ret ?_))))))))))
    exact ⟨⟨.inr rfl, by rw [findI_none ht]; rfl⟩, trivial⟩
  obtain ⟨a, ha⟩ := get_some h0 hj
  have hi : IntKind.i64.wrap (j + 1) = j + 1 := i64_in _ (by omega)
  have hjn : (j + 1).toNat = j.toNat + 1 := by omega
  cases hp : (a.session == k) with
  | true =>
    refine wsq (wsq (wrg (vQ4 tab rfl rfl rfl rfl (vQ tab rfl (vnl (qth (vcd_true rfl (by simp only [hp, sl_]; first | done | omega) ?_)))))))
    refine vw_skip (qth (wsq (wbk (wsq (wrg (vQ3 tab rfl rfl rfl (vq_op tab rfl rfl rfl (ev_index rfl rfl rfl rfl rfl (by omega) (by omega)) ?_)))))))
    refine vQ tab rfl (vq_op tab rfl rfl rfl (ev_loadcell sessR rfl rfl rfl rfl rfl ha rfl) (vQ2 tab rfl rfl (vnl (qth (vcd_true rfl (by simp only [hp, sl_]; first | done | omega) ?_)))))
    refine wsq (wrg (vQ2 tab rfl rfl (vnl (qth (vw_ret (q_ret (q_thenr (q_thenr (q_ret (q_thenr ?_))))))))))
    exact ⟨⟨.inr rfl, by rw [findI_some ha hp ht, show ((j.toNat : Nat) : Int) = j by omega]; rfl⟩, trivial⟩
  | false =>
    refine wsq (wsq (wrg (vQ4 tab rfl rfl rfl rfl (vQ tab rfl (vnl (qth (vcd_true rfl (by simp only [hp, sl_]; first | done | omega) ?_)))))))
    refine vw_skip (qth (wsq (wbk (wsq (wrg (vQ3 tab rfl rfl rfl (vq_op tab rfl rfl rfl (ev_index rfl rfl rfl rfl rfl (by omega) (by omega)) ?_)))))))
    refine vQ tab rfl (vq_op tab rfl rfl rfl (ev_loadcell sessR rfl rfl rfl rfl rfl ha rfl) (vQ2 tab rfl rfl (vnl (qth (vcd_false rfl (by simp only [hp, sl_]; first | done | omega) ?_)))))
    refine vw_skip (q_norm (qth (wrg (vQ3 tab rfl rfl rfl (vnl (qth ?_))))))
    exact ⟨rfl, rfl, (s.sess.length - (j + 1)).toNat, _, by omega, se_cons rfl (se_cons rfl (se_cons (se_int rfl hi) se_nil)), j + 1, by omega, by omega, by rw [hjn, List.take_add_one, ha, List.any_append, ht]; simp [hp], rfl, rfl⟩
theorem reflife_fun (x : Int) : Fun Tryz.prog 56 [.int .i64 x] (.bool (lifeOk x)) := by
  refine fun_of_vw tab Tryz.func56 rfl rfl (by simp [Tryz.f56]) (lrel_cons (.int _ _) lrel_nil) (.bool _) ?_
  refine wsq (wrg (vQ tab rfl (vnl (qth (wsq (wrg (vQ2 tab rfl rfl (vQ tab rfl ?_))))))))
  refine vg_op rfl rfl rfl (fun _ => ?_) (fun _ => ?_)
  refine vQ4 tab rfl rfl rfl rfl (vnl (qth (vw_ret ?_)))
  rotate_left
  refine vK2 rfl rfl (vQ2 tab rfl rfl (vnl (qth (vw_ret ?_))))
  rotate_left
  all_goals exact ⟨.inr rfl, Eq.trans (b := some (.bool _)) rfl (congrArg (fun b => some (Value.bool b)) (by simp_all [lifeOk] <;> (intros; omega)))⟩
set_option maxHeartbeats 4000000 in
theorem refconf_fun (c : ConfV) : Fun Tryz.prog 29 [confV c] (.bool (confMay c)) := by
  refine fun_of_vw tab Tryz.func29 rfl rfl (by simp [Tryz.f29]) (lrel_cons (confRel c) lrel_nil) (.bool _) ?_
  refine wsq (wrg (vN tab rfl (vQ tab rfl (vnl (qth (wsq (wrg (vQ3 tab rfl rfl rfl (vQ tab rfl ?_)))))))))
  refine vg_op rfl rfl rfl (fun _ => ?_) (fun _ => ?_)
  refine vQ4 tab rfl rfl rfl rfl (vQ tab rfl ?_)
  refine vg_op rfl rfl rfl (fun _ => ?_) (fun _ => ?_)
  refine vQ4 tab rfl rfl rfl rfl (vQ tab rfl ?_)
  refine vg_op rfl rfl rfl (fun _ => ?_) (fun _ => ?_)
  refine vQ4 tab rfl rfl rfl rfl (vQ tab rfl ?_)
  refine vg_op rfl rfl rfl (fun _ => ?_) (fun _ => ?_)
  refine vQ4 tab rfl rfl rfl rfl (vQ tab rfl ?_)
  refine vg_op rfl rfl rfl (fun _ => ?_) (fun _ => ?_)
  refine vQ4 tab rfl rfl rfl rfl (vQ tab rfl ?_)
  refine vg_op rfl rfl rfl (fun _ => ?_) (fun _ => ?_)
  refine vQ4 tab rfl rfl rfl rfl (vQ tab rfl ?_)
  refine vg_op rfl rfl rfl (fun _ => ?_) (fun _ => ?_)
  refine vQ4 tab rfl rfl rfl rfl (vQ tab rfl ?_)
  refine vg_op rfl rfl rfl (fun _ => ?_) (fun _ => ?_)
  refine vQ4 tab rfl rfl rfl rfl (vQ tab rfl ?_)
  refine vg_op rfl rfl rfl (fun _ => ?_) (fun _ => ?_)
  refine vQ4 tab rfl rfl rfl rfl (vQ tab rfl ?_)
  refine vg_op rfl rfl rfl (fun _ => ?_) (fun _ => ?_)
  refine vQ2 tab rfl rfl (vF rfl callable_56 (reflife_fun _) (vQ tab rfl (vQ tab rfl ?_)))
  refine vg_op rfl rfl rfl (fun _ => ?_) (fun _ => ?_)
  refine vQ2 tab rfl rfl (vF rfl callable_56 (reflife_fun _) (vQ tab rfl (vQ tab rfl ?_)))
  refine vg_op rfl rfl rfl (fun _ => ?_) (fun _ => ?_)
  refine vQ2 tab rfl rfl (vF rfl callable_56 (reflife_fun _) (vQ tab rfl (vQ tab rfl ?_)))
  refine vg_op rfl rfl rfl (fun _ => ?_) (fun _ => ?_)
  refine vQ2 tab rfl rfl (vF rfl callable_56 (reflife_fun _) (vQ tab rfl (vQ tab rfl ?_)))
  refine vg_op rfl rfl rfl (fun _ => ?_) (fun _ => ?_)
  refine vQ2 tab rfl rfl (vF rfl callable_56 (reflife_fun _) (vQ tab rfl (vQ tab rfl ?_)))
  refine vg_op rfl rfl rfl (fun _ => ?_) (fun _ => ?_)
  refine vQ2 tab rfl rfl (vF rfl callable_56 (reflife_fun _) (vQ tab rfl (vQ tab rfl ?_)))
  refine vg_op rfl rfl rfl (fun _ => ?_) (fun _ => ?_)
  refine vQ4 tab rfl rfl rfl rfl (vQ tab rfl ?_)
  refine vg_op rfl rfl rfl (fun _ => ?_) (fun _ => ?_)
  refine vQ4 tab rfl rfl rfl rfl (vQ tab rfl (vnl (qth (vw_ret ?_))))
  rotate_left
  refine vK3 rfl rfl rfl (vQ2 tab rfl rfl (vnl (qth (vw_ret ?_))))
  rotate_left
  refine vK3 rfl rfl rfl (vQ2 tab rfl rfl (vK3 rfl rfl rfl (vQ2 tab rfl rfl (vnl (qth (vw_ret ?_))))))
  rotate_left
  refine vK3 rfl rfl rfl (vQ2 tab rfl rfl (vK3 rfl rfl rfl (vQ2 tab rfl rfl (vK3 rfl rfl rfl (vQ2 tab rfl rfl (vnl (qth (vw_ret ?_))))))))
  rotate_left
  refine vK3 rfl rfl rfl (vQ2 tab rfl rfl (vK3 rfl rfl rfl (vQ2 tab rfl rfl (vK3 rfl rfl rfl (vQ2 tab rfl rfl (vK3 rfl rfl rfl (vQ2 tab rfl rfl (vnl (qth (vw_ret ?_))))))))))
  rotate_left
  refine vK3 rfl rfl rfl (vQ2 tab rfl rfl (vK3 rfl rfl rfl (vQ2 tab rfl rfl (vK3 rfl rfl rfl (vQ2 tab rfl rfl (vK3 rfl rfl rfl (vQ2 tab rfl rfl (vK3 rfl rfl rfl (vQ tab rfl ?_)))))))))
  refine vQ tab rfl (vnl (qth (vw_ret ?_)))
  rotate_left
  refine vK3 rfl rfl rfl (vQ2 tab rfl rfl (vK3 rfl rfl rfl (vQ2 tab rfl rfl (vK3 rfl rfl rfl (vQ2 tab rfl rfl (vK3 rfl rfl rfl (vQ2 tab rfl rfl (vK3 rfl rfl rfl (vQ tab rfl ?_)))))))))
  refine vQ tab rfl (vK3 rfl rfl rfl (vQ2 tab rfl rfl (vnl (qth (vw_ret ?_)))))
  rotate_left
  refine vK3 rfl rfl rfl (vQ2 tab rfl rfl (vK3 rfl rfl rfl (vQ2 tab rfl rfl (vK3 rfl rfl rfl (vQ2 tab rfl rfl (vK3 rfl rfl rfl (vQ2 tab rfl rfl (vK3 rfl rfl rfl (vQ tab rfl ?_)))))))))
  refine vQ tab rfl (vK3 rfl rfl rfl (vQ2 tab rfl rfl (vK3 rfl rfl rfl (vQ2 tab rfl rfl (vnl (qth (vw_ret ?_)))))))
  rotate_left
  refine vK3 rfl rfl rfl (vQ2 tab rfl rfl (vK3 rfl rfl rfl (vQ2 tab rfl rfl (vK3 rfl rfl rfl (vQ2 tab rfl rfl (vK3 rfl rfl rfl (vQ2 tab rfl rfl (vK3 rfl rfl rfl (vQ tab rfl ?_)))))))))
  refine vQ tab rfl (vK3 rfl rfl rfl (vQ2 tab rfl rfl (vK3 rfl rfl rfl (vQ2 tab rfl rfl (vK3 rfl rfl rfl (vQ2 tab rfl rfl (vnl (qth (vw_ret ?_)))))))))
  rotate_left
  refine vK3 rfl rfl rfl (vQ2 tab rfl rfl (vK3 rfl rfl rfl (vQ2 tab rfl rfl (vK3 rfl rfl rfl (vQ2 tab rfl rfl (vK3 rfl rfl rfl (vQ2 tab rfl rfl (vK3 rfl rfl rfl (vQ tab rfl ?_)))))))))
  refine vQ tab rfl (vK3 rfl rfl rfl (vQ2 tab rfl rfl (vK3 rfl rfl rfl (vQ2 tab rfl rfl (vK3 rfl rfl rfl (vQ2 tab rfl rfl (vK3 rfl rfl rfl (vQ2 tab rfl rfl (vnl (qth (vw_ret ?_)))))))))))
  rotate_left
  refine vK3 rfl rfl rfl (vQ2 tab rfl rfl (vK3 rfl rfl rfl (vQ2 tab rfl rfl (vK3 rfl rfl rfl (vQ2 tab rfl rfl (vK3 rfl rfl rfl (vQ2 tab rfl rfl (vK3 rfl rfl rfl (vQ tab rfl ?_)))))))))
  refine vQ tab rfl (vK3 rfl rfl rfl (vQ2 tab rfl rfl (vK3 rfl rfl rfl (vQ2 tab rfl rfl (vK3 rfl rfl rfl (vQ2 tab rfl rfl (vK3 rfl rfl rfl (vQ2 tab rfl rfl (vK2 rfl rfl (vK rfl ?_))))))))))
  refine vQ2 tab rfl rfl (vnl (qth (vw_ret ?_)))
  rotate_left
  refine vK3 rfl rfl rfl (vQ2 tab rfl rfl (vK3 rfl rfl rfl (vQ2 tab rfl rfl (vK3 rfl rfl rfl (vQ2 tab rfl rfl (vK3 rfl rfl rfl (vQ2 tab rfl rfl (vK3 rfl rfl rfl (vQ tab rfl ?_)))))))))
  refine vQ tab rfl (vK3 rfl rfl rfl (vQ2 tab rfl rfl (vK3 rfl rfl rfl (vQ2 tab rfl rfl (vK3 rfl rfl rfl (vQ2 tab rfl rfl (vK3 rfl rfl rfl (vQ2 tab rfl rfl (vK2 rfl rfl (vK rfl ?_))))))))))
  refine vQ2 tab rfl rfl (vK3 rfl rfl rfl (vQ2 tab rfl rfl (vnl (qth (vw_ret ?_)))))
  rotate_left
  refine vK3 rfl rfl rfl (vQ2 tab rfl rfl (vK3 rfl rfl rfl (vQ2 tab rfl rfl (vK3 rfl rfl rfl (vQ2 tab rfl rfl (vK3 rfl rfl rfl (vQ2 tab rfl rfl (vK3 rfl rfl rfl (vQ tab rfl ?_)))))))))
  refine vQ tab rfl (vK3 rfl rfl rfl (vQ2 tab rfl rfl (vK3 rfl rfl rfl (vQ2 tab rfl rfl (vK3 rfl rfl rfl (vQ2 tab rfl rfl (vK3 rfl rfl rfl (vQ2 tab rfl rfl (vK2 rfl rfl (vK rfl ?_))))))))))
  refine vQ2 tab rfl rfl (vK3 rfl rfl rfl (vQ2 tab rfl rfl (vK3 rfl rfl rfl (vQ2 tab rfl rfl (vnl (qth (vw_ret ?_)))))))
  rotate_left
  refine vK3 rfl rfl rfl (vQ2 tab rfl rfl (vK3 rfl rfl rfl (vQ2 tab rfl rfl (vK3 rfl rfl rfl (vQ2 tab rfl rfl (vK3 rfl rfl rfl (vQ2 tab rfl rfl (vK3 rfl rfl rfl (vQ tab rfl ?_)))))))))
  refine vQ tab rfl (vK3 rfl rfl rfl (vQ2 tab rfl rfl (vK3 rfl rfl rfl (vQ2 tab rfl rfl (vK3 rfl rfl rfl (vQ2 tab rfl rfl (vK3 rfl rfl rfl (vQ2 tab rfl rfl (vK2 rfl rfl (vK rfl ?_))))))))))
  refine vQ2 tab rfl rfl (vK3 rfl rfl rfl (vQ2 tab rfl rfl (vK3 rfl rfl rfl (vQ2 tab rfl rfl (vK3 rfl rfl rfl (vQ2 tab rfl rfl (vnl (qth (vw_ret ?_)))))))))
  rotate_left
  refine vK3 rfl rfl rfl (vQ2 tab rfl rfl (vK3 rfl rfl rfl (vQ2 tab rfl rfl (vK3 rfl rfl rfl (vQ2 tab rfl rfl (vK3 rfl rfl rfl (vQ2 tab rfl rfl (vK3 rfl rfl rfl (vQ tab rfl ?_)))))))))
  refine vQ tab rfl (vK3 rfl rfl rfl (vQ2 tab rfl rfl (vK3 rfl rfl rfl (vQ2 tab rfl rfl (vK3 rfl rfl rfl (vQ2 tab rfl rfl (vK3 rfl rfl rfl (vQ2 tab rfl rfl (vK2 rfl rfl (vK rfl ?_))))))))))
  refine vQ2 tab rfl rfl (vK3 rfl rfl rfl (vQ2 tab rfl rfl (vK3 rfl rfl rfl (vQ2 tab rfl rfl (vK3 rfl rfl rfl (vQ2 tab rfl rfl (vK3 rfl rfl rfl (vQ2 tab rfl rfl (vnl (qth ?_))))))))))
  refine vw_ret ?_
  rotate_left
  refine vK3 rfl rfl rfl (vQ2 tab rfl rfl (vK3 rfl rfl rfl (vQ2 tab rfl rfl (vK3 rfl rfl rfl (vQ2 tab rfl rfl (vK3 rfl rfl rfl (vQ2 tab rfl rfl (vK3 rfl rfl rfl (vQ tab rfl ?_)))))))))
  refine vQ tab rfl (vK3 rfl rfl rfl (vQ2 tab rfl rfl (vK3 rfl rfl rfl (vQ2 tab rfl rfl (vK3 rfl rfl rfl (vQ2 tab rfl rfl (vK3 rfl rfl rfl (vQ2 tab rfl rfl (vK2 rfl rfl (vK rfl ?_))))))))))
  refine vQ2 tab rfl rfl (vK3 rfl rfl rfl (vQ2 tab rfl rfl (vK3 rfl rfl rfl (vQ2 tab rfl rfl (vK3 rfl rfl rfl (vQ2 tab rfl rfl (vK3 rfl rfl rfl (vQ2 tab rfl rfl (vK rfl (vK rfl ?_))))))))))
  refine vK rfl (vQ2 tab rfl rfl (vnl (qth (vw_ret ?_))))
  rotate_left
  refine vK3 rfl rfl rfl (vQ2 tab rfl rfl (vK3 rfl rfl rfl (vQ2 tab rfl rfl (vK3 rfl rfl rfl (vQ2 tab rfl rfl (vK3 rfl rfl rfl (vQ2 tab rfl rfl (vK3 rfl rfl rfl (vQ tab rfl ?_)))))))))
  refine vQ tab rfl (vK3 rfl rfl rfl (vQ2 tab rfl rfl (vK3 rfl rfl rfl (vQ2 tab rfl rfl (vK3 rfl rfl rfl (vQ2 tab rfl rfl (vK3 rfl rfl rfl (vQ2 tab rfl rfl (vK2 rfl rfl (vK rfl ?_))))))))))
  refine vQ2 tab rfl rfl (vK3 rfl rfl rfl (vQ2 tab rfl rfl (vK3 rfl rfl rfl (vQ2 tab rfl rfl (vK3 rfl rfl rfl (vQ2 tab rfl rfl (vK3 rfl rfl rfl (vQ2 tab rfl rfl (vK rfl (vK rfl ?_))))))))))
  refine vK rfl (vQ2 tab rfl rfl (vK3 rfl rfl rfl (vQ2 tab rfl rfl (vnl (qth (vw_ret ?_))))))
  rotate_left
  refine vK3 rfl rfl rfl (vQ2 tab rfl rfl (vK3 rfl rfl rfl (vQ2 tab rfl rfl (vK3 rfl rfl rfl (vQ2 tab rfl rfl (vK3 rfl rfl rfl (vQ2 tab rfl rfl (vK3 rfl rfl rfl (vQ tab rfl ?_)))))))))
  refine vQ tab rfl (vK3 rfl rfl rfl (vQ2 tab rfl rfl (vK3 rfl rfl rfl (vQ2 tab rfl rfl (vK3 rfl rfl rfl (vQ2 tab rfl rfl (vK3 rfl rfl rfl (vQ2 tab rfl rfl (vK2 rfl rfl (vK rfl ?_))))))))))
  refine vQ2 tab rfl rfl (vK3 rfl rfl rfl (vQ2 tab rfl rfl (vK3 rfl rfl rfl (vQ2 tab rfl rfl (vK3 rfl rfl rfl (vQ2 tab rfl rfl (vK3 rfl rfl rfl (vQ2 tab rfl rfl (vK rfl (vK rfl ?_))))))))))
  refine vK rfl (vQ2 tab rfl rfl (vK3 rfl rfl rfl (vQ2 tab rfl rfl (vK3 rfl rfl rfl (vQ2 tab rfl rfl (vnl (qth (vw_ret ?_))))))))
  rotate_left
  all_goals exact ⟨.inr rfl, Eq.trans (b := some (.bool _)) rfl (congrArg (fun b => some (Value.bool b)) (by simp_all [confMay, betw] <;> (intros; omega)))⟩
theorem refsum_fun (x y : Int) : Fun Tryz.prog 82 [.int .i64 x, .int .i64 y] (.int .i64 (sumU x y)) := by
  refine fun_of_vw tab Tryz.func82 rfl rfl (by simp [Tryz.f82]) (lrel_cons (.int _ _) (lrel_cons (.int _ _) lrel_nil)) (.int _ _) ?_
  by_cases h : IntKind.i64.wrap (1073741823 - y) < x
  · have hd := decide_eq_true h
    refine wsq (wrg (vQ tab rfl (vnl (qth (wsq (wsq (wrg (vQ4 tab rfl rfl rfl rfl (vnl (qth (vcd_true rfl (by simp only [hd, sl_]; first | done | omega) ?_)))))))))))
    refine wsq (wrg (vQ tab rfl (vnl (qth (vw_ret (q_thenr ?_))))))
    exact ⟨.inr rfl, by unfold sumU; rw [if_pos h]; rfl⟩
  · have hd := decide_eq_false h
    refine wsq (wrg (vQ tab rfl (vnl (qth (wsq (wsq (wrg (vQ4 tab rfl rfl rfl rfl (vnl (qth (vcd_false rfl (by simp only [hd, sl_]; first | done | omega) ?_)))))))))))
    refine vw_skip (qth (wsq (wrg (vQ4 tab rfl rfl rfl rfl (vnl (qth (vw_ret ?_)))))))
    exact ⟨.inr rfl, by unfold sumU; rw [if_neg h]; rfl⟩
set_option maxHeartbeats 4000000 in
theorem refspent_tri {V : Heap} {n : Nat} {v1 v2 v3 v4 : Value} {s : StV} (h1 : Looks V 9 v1 (userR.cells s.users) s.users.length) (h2 : Looks V 4 v2 (sessR.cells s.sess) s.sess.length) (h3 : Looks V 3 v3 (addrR.cells s.addrs) s.addrs.length) (h4 : Looks V 1 v4 ((intR .i64).cells s.spent) s.spent.length) (hx : s.spent.length ≤ 140737488355328) (k : Int) :
    Tri Tryz.prog 62 [.agg #[.int .i64 s.boots, .int .i64 s.epoch, .int .i64 s.next, v1, v2, v3, v4], .int .i64 k] n 0 V (fun u L => u = .bool (s.spent.contains k) ∧ L = []) := by
  refine reads_of_vw (K := 4) (argsI := [.agg #[.int .i64 s.boots, .int .i64 s.epoch, .int .i64 s.next, .slice (some ⟨0, 0, none⟩) s.users.length 0, .slice (some ⟨1, 0, none⟩) s.sess.length 0, .slice (some ⟨2, 0, none⟩) s.addrs.length 0, .slice (some ⟨3, 0, none⟩) s.spent.length 0], .int .i64 k]) tab Tryz.func62 rfl rfl (by simp [Tryz.f62]) [.look v1 s.users.length 9, .look v2 s.sess.length 4, .look v3 s.addrs.length 3, .look v4 s.spent.length 1] [.win (userR.cells s.users) 9, .win (sessR.cells s.sess) 4, .win (addrR.cells s.addrs) 3, .win ((intR .i64).cells s.spent) 1] rfl (.look h1 (userR.flat_cells s.users) (.look h2 (sessR.flat_cells s.sess) (.look h3 (addrR.flat_cells s.addrs) (.look h4 ((intR .i64).flat_cells s.spent) .nil)))) (by simp [ownNames]) (by simp [ownNames, lookNames]) (al_cons (ar_agg (al_cons (.val (.int _ _)) (al_cons (.val (.int _ _)) (al_cons (.val (.int _ _)) (al_cons (.look (a := 0) rfl) (al_cons (.look (a := 1) rfl) (al_cons (.look (a := 2) rfl) (al_cons (.look (a := 3) rfl) al_nil)))))))) (al_cons (.val (.int _ _)) al_nil)) (seen_of (sn_look (seen_agg (j := 0) (i := 3) rfl rfl) (sn_look (seen_agg (j := 0) (i := 4) rfl rfl) (sn_look (seen_agg (j := 0) (i := 5) rfl rfl) (sn_look (seen_agg (j := 0) (i := 6) rfl rfl) sn_nil))))) (.bool _) ?_
  refine wsq (wrg (vN tab rfl (vQ tab rfl (vnl (qth (wsq (wsq (wrg (vQ tab rfl (vnl (qth (wbk ?_))))))))))))
  refine vw_loop_env (fun m env => ∃ j : Int, 0 ≤ j ∧ j ≤ s.spent.length ∧ (s.spent.take j.toNat).contains k = false ∧ m = (s.spent.length - j).toNat ∧
      env = [(1, .int .i64 k), (2, .pointer (some ⟨4, 0, none⟩)), (5, .int .i64 j)]) (s.spent.length - 0)
    ⟨_, se_cons rfl (se_cons rfl (se_cons rfl se_nil)), 0, by omega, by omega, by simp, by simp, rfl⟩ ?_
  rintro m env ⟨j, h0, h1, ht, rfl, rfl⟩
  by_cases hj : j < (s.spent.length : Int)
  case neg =>
    rw [show j.toNat = s.spent.length by omega, List.take_length] at ht
    refine wsq (wsq (wrg (vQ4 tab rfl rfl rfl rfl (vQ tab rfl (vnl (qth (vcd_false rfl (by simp only [sl_]; first | done | omega) ?_)))))))
    refine vw_exit (q_thenx (q_thenx (q_here (qth (wsq (wrg (vQ tab rfl (vnl (qth (vw_ret ?_))))))))))
    exact ⟨⟨.inr rfl, by rw [ht]; rfl⟩, trivial⟩
  obtain ⟨a, ha⟩ := get_some h0 hj
  have hi : IntKind.i64.wrap (j + 1) = j + 1 := i64_in _ (by omega)
  have hjn : (j + 1).toNat = j.toNat + 1 := by omega
  cases hp : (a == k) with
  | true =>
    have hc : s.spent.contains k = true := by
      rw [List.contains_eq_mem]; simp only [decide_eq_true_eq]
      have : a = k := by simpa using hp
      rw [← this]; exact List.mem_of_getElem? ha
    refine wsq (wsq (wrg (vQ4 tab rfl rfl rfl rfl (vQ tab rfl (vnl (qth (vcd_true rfl (by simp only [hp, sl_]; first | done | omega) ?_)))))))
    refine vw_skip (qth (wsq (wbk (wsq (wrg (vQ3 tab rfl rfl rfl (vq_op tab rfl rfl rfl (ev_index rfl rfl rfl rfl rfl (by omega) (by omega)) ?_)))))))
    refine vq_op tab rfl rfl rfl (ev_val (intR .i64) rfl rfl rfl rfl rfl ha rfl) (vQ2 tab rfl rfl (vnl (qth (vcd_true rfl (by simp only [hp, sl_]; first | done | omega) ?_))))
    refine wsq (wrg (vQ tab rfl (vnl (qth (vw_ret (q_ret (q_thenr (q_thenr (q_ret (q_thenr ?_))))))))))
    exact ⟨⟨.inr rfl, by rw [hc]; rfl⟩, trivial⟩
  | false =>
    refine wsq (wsq (wrg (vQ4 tab rfl rfl rfl rfl (vQ tab rfl (vnl (qth (vcd_true rfl (by simp only [hp, sl_]; first | done | omega) ?_)))))))
    refine vw_skip (qth (wsq (wbk (wsq (wrg (vQ3 tab rfl rfl rfl (vq_op tab rfl rfl rfl (ev_index rfl rfl rfl rfl rfl (by omega) (by omega)) ?_)))))))
    refine vq_op tab rfl rfl rfl (ev_val (intR .i64) rfl rfl rfl rfl rfl ha rfl) (vQ2 tab rfl rfl (vnl (qth (vcd_false rfl (by simp only [hp, sl_]; first | done | omega) ?_))))
    refine vw_skip (q_norm (qth (wrg (vQ3 tab rfl rfl rfl (vnl (qth ?_))))))
    exact ⟨rfl, rfl, (s.spent.length - (j + 1)).toNat, _, by omega, se_cons rfl (se_cons rfl (se_cons (se_int rfl hi) se_nil)), j + 1, by omega, by omega, by
      rw [hjn, List.take_add_one, ha, List.contains_eq_mem]
      rw [List.contains_eq_mem] at ht
      have hne : ¬ k = a := fun e => by rw [e] at hp; simp at hp
      simp only [decide_eq_false_iff_not] at ht ⊢
      simp [ht, hne], rfl, rfl⟩
end Go.Proofs.YtcjfidfealifhaaGreat
namespace Go.Proofs.YtcjfidfealifhaaGreat
open Go Vm IntWalk
set_option linter.unusedVariables false
set_option linter.unusedSimpArgs false
set_option maxHeartbeats 4000000 in
theorem refcopy_tri {V : Heap} {n : Nat} {v1 v2 v3 v4 : Value} {s : StV} (h1 : Looks V 9 v1 (userR.cells s.users) s.users.length) (h2 : Looks V 4 v2 (sessR.cells s.sess) s.sess.length) (h3 : Looks V 3 v3 (addrR.cells s.addrs) s.addrs.length) (h4 : Looks V 1 v4 ((intR .i64).cells s.spent) s.spent.length)
    (b1 : s.users.length * 72 ≤ 140737488355328) (b2 : s.sess.length * 32 ≤ 140737488355328) (b3 : s.addrs.length * 24 ≤ 140737488355328) (b4 : s.spent.length * 8 ≤ 140737488355328) :
    Tri Tryz.prog 32 [.agg #[.int .i64 s.boots, .int .i64 s.epoch, .int .i64 s.next, v1, v2, v3, v4]] n 4 V (fun r L => r = stV n (n + 1) (n + 2) (n + 3) s ∧ L = stL n s) := by
  refine call_of_vw (K := 4) (argsI := [.agg #[.int .i64 s.boots, .int .i64 s.epoch, .int .i64 s.next, .slice (some ⟨0, 0, none⟩) s.users.length 0, .slice (some ⟨1, 0, none⟩) s.sess.length 0, .slice (some ⟨2, 0, none⟩) s.addrs.length 0, .slice (some ⟨3, 0, none⟩) s.spent.length 0]]) tab Tryz.func32 rfl rfl (by simp [Tryz.f32]) [.look v1 s.users.length 9, .look v2 s.sess.length 4, .look v3 s.addrs.length 3, .look v4 s.spent.length 1] [.win (userR.cells s.users) 9, .win (sessR.cells s.sess) 4, .win (addrR.cells s.addrs) 3, .win ((intR .i64).cells s.spent) 1] rfl (.look h1 (userR.flat_cells s.users) (.look h2 (sessR.flat_cells s.sess) (.look h3 (addrR.flat_cells s.addrs) (.look h4 ((intR .i64).flat_cells s.spent) .nil)))) (by simp [ownNames]) (by simp [ownNames, lookNames]) (by simp [ownNames, *]) (al_cons (ar_agg (al_cons (.val (.int _ _)) (al_cons (.val (.int _ _)) (al_cons (.val (.int _ _)) (al_cons (.look (a := 0) rfl) (al_cons (.look (a := 1) rfl) (al_cons (.look (a := 2) rfl) (al_cons (.look (a := 3) rfl) al_nil)))))))) al_nil) (seen_of (sn_look (seen_agg (j := 0) (i := 3) rfl rfl) (sn_look (seen_agg (j := 0) (i := 4) rfl rfl) (sn_look (seen_agg (j := 0) (i := 5) rfl rfl) (sn_look (seen_agg (j := 0) (i := 6) rfl rfl) sn_nil))))) ?_
  refine wsq (wrg (vN tab rfl (vN tab rfl (vnl (qth (wsq (wrg (vN tab rfl (vQ2 tab rfl rfl (vo_op rfl rfl rfl (opr_ev tab (ev_app userR (xs := []) (ys := s.users) (m := s.users.length) rfl rfl rfl rfl rfl rfl (news_all userR rfl rfl) rfl rfl (by rw [Nat.zero_add]; exact b1) (by omega))) ?_))))))))))
  refine vQ tab rfl (vS tab rfl (vnl (qth (wsq (wrg (vN tab rfl (vQ2 tab rfl rfl (vo_op rfl rfl rfl (opr_ev tab (ev_app sessR (xs := []) (ys := s.sess) (m := s.sess.length) rfl rfl rfl rfl rfl rfl (news_all sessR rfl rfl) rfl rfl (by rw [Nat.zero_add]; exact b2) (by omega))) ?_))))))))
  refine vQ tab rfl (vS tab rfl (vnl (qth (wsq (wrg (vN tab rfl (vQ2 tab rfl rfl (vo_op rfl rfl rfl (opr_ev tab (ev_app addrR (xs := []) (ys := s.addrs) (m := s.addrs.length) rfl rfl rfl rfl rfl rfl (news_all addrR rfl rfl) rfl rfl (by rw [Nat.zero_add]; exact b3) (by omega))) ?_))))))))
  refine vQ tab rfl (vS tab rfl (vnl (qth (wsq (wrg (vN tab rfl (vQ2 tab rfl rfl (vo_op rfl rfl rfl (opr_ev tab (ev_app (intR .i64) (xs := []) (ys := s.spent) (m := s.spent.length) rfl rfl rfl rfl rfl rfl (news_all (intR .i64) rfl rfl) rfl rfl (by rw [Nat.zero_add]; exact b4) (by omega))) ?_))))))))
  refine vQ tab rfl (vS tab rfl (vnl (qth (wsq (wrg (vQ tab rfl (vS tab rfl (vnl (qth (vw_ret ?_))))))))))
  exact out_mk [7, 9, 11, 13] (.inr rfl) ⟨rfl, rfl⟩ rfl (vrel_agg (lrel_cons (.int _ _) (lrel_cons (.int _ _) (lrel_cons (.int _ _) (lrel_cons (rel_slice (sigma_look (i := 0) rfl) (by simp)) (lrel_cons (rel_slice (sigma_look (i := 1) rfl) (by simp)) (lrel_cons (rel_slice (sigma_look (i := 2) rfl) (by simp)) (lrel_cons (rel_slice (sigma_look (i := 3) rfl) (by simp)) lrel_nil))))))))
    (op_cons (sigma_look (i := 0) rfl) rfl rfl (ov_opn userR rfl) rfl (op_cons (sigma_look (i := 1) rfl) rfl rfl (ov_opn sessR rfl) rfl (op_cons (sigma_look (i := 2) rfl) rfl rfl (ov_opn addrR rfl) rfl (op_cons (sigma_look (i := 3) rfl) rfl rfl (ov_opn (intR .i64) rfl) rfl op_nil)))) trivial
set_option maxHeartbeats 4000000 in
theorem lawcopy_tri {V : Heap} {n : Nat} {v1 v2 v3 v4 : Value} {s : StV} (h1 : Looks V 9 v1 (userR.cells s.users) s.users.length) (h2 : Looks V 4 v2 (sessR.cells s.sess) s.sess.length) (h3 : Looks V 3 v3 (addrR.cells s.addrs) s.addrs.length) (h4 : Looks V 1 v4 ((intR .i64).cells s.spent) s.spent.length)
    (b1 : s.users.length * 72 ≤ 140737488355328) (b2 : s.sess.length * 32 ≤ 140737488355328) (b3 : s.addrs.length * 24 ≤ 140737488355328) (b4 : s.spent.length * 8 ≤ 140737488355328) :
    Tri Tryz.prog 12 [.agg #[.int .i64 s.boots, .int .i64 s.epoch, .int .i64 s.next, v1, v2, v3, v4]] n 4 V (fun r L => r = stV n (n + 1) (n + 2) (n + 3) s ∧ L = stL n s) := by
  refine call_of_vw (K := 4) (argsI := [.agg #[.int .i64 s.boots, .int .i64 s.epoch, .int .i64 s.next, .slice (some ⟨0, 0, none⟩) s.users.length 0, .slice (some ⟨1, 0, none⟩) s.sess.length 0, .slice (some ⟨2, 0, none⟩) s.addrs.length 0, .slice (some ⟨3, 0, none⟩) s.spent.length 0]]) tab Tryz.func12 rfl rfl (by simp [Tryz.f12]) [.look v1 s.users.length 9, .look v2 s.sess.length 4, .look v3 s.addrs.length 3, .look v4 s.spent.length 1] [.win (userR.cells s.users) 9, .win (sessR.cells s.sess) 4, .win (addrR.cells s.addrs) 3, .win ((intR .i64).cells s.spent) 1] rfl (.look h1 (userR.flat_cells s.users) (.look h2 (sessR.flat_cells s.sess) (.look h3 (addrR.flat_cells s.addrs) (.look h4 ((intR .i64).flat_cells s.spent) .nil)))) (by simp [ownNames]) (by simp [ownNames, lookNames]) (by simp [ownNames, *]) (al_cons (ar_agg (al_cons (.val (.int _ _)) (al_cons (.val (.int _ _)) (al_cons (.val (.int _ _)) (al_cons (.look (a := 0) rfl) (al_cons (.look (a := 1) rfl) (al_cons (.look (a := 2) rfl) (al_cons (.look (a := 3) rfl) al_nil)))))))) al_nil) (seen_of (sn_look (seen_agg (j := 0) (i := 3) rfl rfl) (sn_look (seen_agg (j := 0) (i := 4) rfl rfl) (sn_look (seen_agg (j := 0) (i := 5) rfl rfl) (sn_look (seen_agg (j := 0) (i := 6) rfl rfl) sn_nil))))) ?_
  refine wsq (wrg (vN tab rfl (vN tab rfl (vnl (qth (wsq (wrg (vN tab rfl (vQ2 tab rfl rfl (vo_op rfl rfl rfl (opr_ev tab (ev_app userR (xs := []) (ys := s.users) (m := s.users.length) rfl rfl rfl rfl rfl rfl (news_all userR rfl rfl) rfl rfl (by rw [Nat.zero_add]; exact b1) (by omega))) ?_))))))))))
  refine vQ tab rfl (vS tab rfl (vnl (qth (wsq (wrg (vN tab rfl (vQ2 tab rfl rfl (vo_op rfl rfl rfl (opr_ev tab (ev_app sessR (xs := []) (ys := s.sess) (m := s.sess.length) rfl rfl rfl rfl rfl rfl (news_all sessR rfl rfl) rfl rfl (by rw [Nat.zero_add]; exact b2) (by omega))) ?_))))))))
  refine vQ tab rfl (vS tab rfl (vnl (qth (wsq (wrg (vN tab rfl (vQ2 tab rfl rfl (vo_op rfl rfl rfl (opr_ev tab (ev_app addrR (xs := []) (ys := s.addrs) (m := s.addrs.length) rfl rfl rfl rfl rfl rfl (news_all addrR rfl rfl) rfl rfl (by rw [Nat.zero_add]; exact b3) (by omega))) ?_))))))))
  refine vQ tab rfl (vS tab rfl (vnl (qth (wsq (wrg (vN tab rfl (vQ2 tab rfl rfl (vo_op rfl rfl rfl (opr_ev tab (ev_app (intR .i64) (xs := []) (ys := s.spent) (m := s.spent.length) rfl rfl rfl rfl rfl rfl (news_all (intR .i64) rfl rfl) rfl rfl (by rw [Nat.zero_add]; exact b4) (by omega))) ?_))))))))
  refine vQ tab rfl (vS tab rfl (vnl (qth (wsq (wrg (vQ tab rfl (vS tab rfl (vnl (qth (vw_ret ?_))))))))))
  exact out_mk [7, 9, 11, 13] (.inr rfl) ⟨rfl, rfl⟩ rfl (vrel_agg (lrel_cons (.int _ _) (lrel_cons (.int _ _) (lrel_cons (.int _ _) (lrel_cons (rel_slice (sigma_look (i := 0) rfl) (by simp)) (lrel_cons (rel_slice (sigma_look (i := 1) rfl) (by simp)) (lrel_cons (rel_slice (sigma_look (i := 2) rfl) (by simp)) (lrel_cons (rel_slice (sigma_look (i := 3) rfl) (by simp)) lrel_nil))))))))
    (op_cons (sigma_look (i := 0) rfl) rfl rfl (ov_opn userR rfl) rfl (op_cons (sigma_look (i := 1) rfl) rfl rfl (ov_opn sessR rfl) rfl (op_cons (sigma_look (i := 2) rfl) rfl rfl (ov_opn addrR rfl) rfl (op_cons (sigma_look (i := 3) rfl) rfl rfl (ov_opn (intR .i64) rfl) rfl op_nil)))) trivial
theorem reffree_as {V : Heap} {n : Nat} {sv : Value} {xs : List AddrV} {i b : Int} (r : List AddrV × Int) (h : freeA xs i b = r) (hl : Looks V 3 sv (addrR.cells xs) xs.length) (hb : xs.length * 24 ≤ 140737488355328) :
    Tri Tryz.prog 79 [sv, .int .i64 i, .int .i64 b] n 1 V (fun u L => u = .tuple #[.slice (some ⟨n, 0, none⟩) r.1.length 0, .int .i64 r.2] ∧ L = [(n, some (.opn (addrR.cells r.1) 80 3))]) := by subst h; exact reffreea_tri i b hl hb
theorem reftake_as {V : Heap} {n : Nat} {sv : Value} {xs : List AddrV} {i b : Int} (r : List AddrV × Int) (h : takeA xs i b = r) (hl : Looks V 3 sv (addrR.cells xs) xs.length) (hb : xs.length * 24 ≤ 140737488355328) :
    Tri Tryz.prog 80 [sv, .int .i64 i, .int .i64 b] n 1 V (fun u L => u = .tuple #[.slice (some ⟨n, 0, none⟩) r.1.length 0, .int .i64 r.2] ∧ L = [(n, some (.opn (addrR.cells r.1) 80 3))]) := by subst h; exact reftakea_tri i b hl hb
end Go.Proofs.YtcjfidfealifhaaGreat
namespace Go.Proofs.YtcjfidfealifhaaGreat
open Go Vm IntWalk
set_option linter.unusedVariables false
set_option linter.unusedSimpArgs false
set_option maxHeartbeats 16000000
def OwnS (V : Heap) (u x a p : Nat) (s : StV) : Prop := V u = some (.opn (userR.cells s.users) 76 9) ∧ V x = some (.opn (sessR.cells s.sess) 78 4) ∧ V a = some (.opn (addrR.cells s.addrs) 80 3) ∧ V p = some (.opn ((intR .i64).cells s.spent) 3 1) ∧ [u, x, a, p].Nodup
def stM (u x a p n : Nat) (s : StV) : List (Nat × Option VObj) := (u, none) :: (x, none) :: (a, none) :: (p, none) :: stL n s
theorem ov_st2 {σ : Ren} {b1 b2 b3 c1 c2 c3 : Int} {v1 v2 v3 v4 w1 w2 w3 w4 : Value} (e1 : b1 = c1) (e2 : b2 = c2) (e3 : b3 = c3) (h1 : VRel σ v1 w1) (h2 : VRel σ v2 w2) (h3 : VRel σ v3 w3) (h4 : VRel σ v4 w4) :
    OV σ (.cells [.int .i64 b1, .int .i64 b2, .int .i64 b3, v1, v2, v3, v4] 29 (0, 0)) (.cells [.int .i64 c1, .int .i64 c2, .int .i64 c3, w1, w2, w3, w4] 29 (0, 0)) := by
  subst e1; subst e2; subst e3; exact ov_st h1 h2 h3 h4
def freeP (W : Int) : List SessV → List AddrV → List AddrV × Bool
  | [], aa => (aa, true)
  | x :: xs, aa => if freeC aa x.address W = true then freeP W xs (freeA aa x.address W).1 else (aa, false)
theorem freeP_step {W : Int} {xs : List SessV} {j : Nat} {x : SessV} {aa : List AddrV} (h : xs[j]? = some x) : freeP W (xs.drop j) aa = if freeC aa x.address W = true then freeP W (xs.drop (j + 1)) (freeA aa x.address W).1 else (aa, false) := by
  have hi := (List.getElem?_eq_some_iff.1 h).1
  rw [List.drop_eq_getElem_cons hi, (List.getElem?_eq_some_iff.1 h).2]; exact id rfl
def bootF (s : StV) : List AddrV × Bool → StV × Bool
  | (aa, true) => ({ s with boots := s.boots + 1, addrs := aa, sess := [] }, true)
  | (aa, false) => ({ s with boots := s.boots + 1, addrs := aa }, false)
def bootR (cf : ConfV) (s : StV) (e : EventV) : StV × Bool :=
  if s.boots < 0 ∨ 1073741823 ≤ s.boots then (s, false) else
  bootF s (freeP (IntKind.i64.wrap (e.tick + cf.quarantine)) s.sess s.addrs)
section
variable {V : Heap} {n u x a p : Nat} {cf : ConfV} {ev : EventV} {s : StV}
theorem refboot_tri (h : OwnS V u x a p s) (hi : ∀ i ∈ [u, x, a, p], i < n) (hb3 : s.addrs.length * 24 ≤ 140737488355328) (hb2 : s.sess.length * 32 ≤ 140737488355328) :
    Tri Tryz.prog 59 [confV cf, stV u x a p s, evtV ev] n 4 V (fun r L => r = .tuple #[stV n (n + 1) (n + 2) (n + 3) (bootR cf s ev).1, .bool (bootR cf s ev).2] ∧ L = stM u x a p n (bootR cf s ev).1) := by
  obtain ⟨hu, hx, ha, hp, hn⟩ := h
  simp only [List.nodup_cons, List.mem_cons, List.not_mem_nil, or_false, not_or, List.nodup_nil, and_true, not_false_eq_true] at hn
  obtain ⟨⟨d1, d2, d3⟩, ⟨e1, e2⟩, f1⟩ := hn
  simp only [List.mem_cons, List.not_mem_nil, or_false, forall_eq_or_imp, forall_eq] at hi
  obtain ⟨l1, l2, l3, l4⟩ := hi
  refine call_of_vw (K := 4) (argsI := [confV cf, .agg #[.int .i64 s.boots, .int .i64 s.epoch, .int .i64 s.next, .slice (some ⟨0, 0, none⟩) s.users.length 0, .slice (some ⟨1, 0, none⟩) s.sess.length 0, .slice (some ⟨2, 0, none⟩) s.addrs.length 0, .slice (some ⟨3, 0, none⟩) s.spent.length 0], evtV ev]) tab Tryz.func59 rfl rfl (by simp [Tryz.f59]) [.own u, .own x, .own a, .own p] [.opn (userR.cells s.users) 76 9, .opn (sessR.cells s.sess) 78 4, .opn (addrR.cells s.addrs) 80 3, .opn ((intR .i64).cells s.spent) 3 1] rfl (.own hu (ov_opn userR rfl) (.own hx (ov_opn sessR rfl) (.own ha (ov_opn addrR rfl) (.own hp (ov_opn (intR .i64) rfl) .nil)))) (by simp [ownNames, *]) (by simp [ownNames, lookNames, *]) (by simp [ownNames, *]) (al_cons (.val (confRel cf)) (al_cons (ar_agg (al_cons (.val (.int _ _)) (al_cons (.val (.int _ _)) (al_cons (.val (.int _ _)) (al_cons (.val (rel_slice rfl rfl)) (al_cons (.val (rel_slice rfl rfl)) (al_cons (.val (rel_slice rfl rfl)) (al_cons (.val (rel_slice rfl rfl)) al_nil)))))))) (al_cons (.val (evtRel ev)) al_nil))) (seen_of (sn_own (sn_own (sn_own (sn_own sn_nil))))) ?_
  by_cases hb : s.boots < 0 ∨ 1073741823 ≤ s.boots
  case pos =>
    have hR : bootR cf s ev = (s, false) := if_pos hb
    rw [hR]
    rcases (show s.boots < 0 ∨ (¬ s.boots < 0 ∧ 1073741823 ≤ s.boots) by omega) with hc | hc
    all_goals
      first
        | refine wsq (wrg (vN tab rfl (vN tab rfl (vN tab rfl (vN tab rfl (vQ tab rfl (vnl (qth (wsq (wsq (wrg (vQ4 tab rfl rfl rfl rfl (vgd_op true rfl rfl rfl (by simp only [sl_]; first | done | omega) ?_)))))))))))))
          refine vK3 rfl rfl rfl (vQ tab rfl (vnl (qth (vc_true rfl (wsq (wrg (vQ tab rfl (vS tab rfl (vQ tab rfl (vnl (qth (vw_ret (q_thenr ?_)))))))))))))
        | refine wsq (wrg (vN tab rfl (vN tab rfl (vN tab rfl (vN tab rfl (vQ tab rfl (vnl (qth (wsq (wsq (wrg (vQ4 tab rfl rfl rfl rfl (vgd_op false rfl rfl rfl (by simp only [sl_]; first | done | omega) ?_)))))))))))))
          refine vQ4 tab rfl rfl rfl rfl (vnl (qth (vcd_true rfl (by simp only [sl_]; first | done | omega) ?_)))
          refine wsq (wrg (vQ tab rfl (vS tab rfl (vQ tab rfl (vnl (qth (vw_ret (q_thenr ?_))))))))
      exact out_mk [0, 1, 2, 3] (.inr rfl) ⟨rfl, rfl⟩ rfl
        (vrel_tuple (lrel_cons (vrel_agg (lrel_cons (ri rfl) (lrel_cons (ri rfl) (lrel_cons (ri rfl) (lrel_cons (rel_slice (sigma_at (i := 0) (by simp [ownNames, *]) rfl) rfl) (lrel_cons (rel_slice (sigma_at (i := 1) (by simp [ownNames, *]) rfl) rfl) (lrel_cons (rel_slice (sigma_at (i := 2) (by simp [ownNames, *]) rfl) rfl) (lrel_cons (rel_slice (sigma_at (i := 3) (by simp [ownNames, *]) rfl) rfl) lrel_nil)))))))) (lrel_cons (.bool _) lrel_nil)))
          (op_drop (op_drop (op_drop (op_drop (op_cons (sigma_at (i := 0) (by simp [ownNames, *]) rfl) rfl rfl (ov_opn userR rfl) rfl (op_cons (sigma_at (i := 1) (by simp [ownNames, *]) rfl) rfl rfl (ov_opn sessR rfl) rfl (op_cons (sigma_at (i := 2) (by simp [ownNames, *]) rfl) rfl rfl (ov_opn addrR rfl) rfl (op_cons (sigma_at (i := 3) (by simp [ownNames, *]) rfl) rfl rfl (ov_opn (intR .i64) rfl) rfl op_nil))))))))
          (told_of (by simp [ownNames, stM]))
  have hw : IntKind.i64.wrap (s.boots + 1) = s.boots + 1 := i64_in _ (by omega)
  obtain ⟨R, hF⟩ : ∃ R, freeP (IntKind.i64.wrap (ev.tick + cf.quarantine)) s.sess s.addrs = R := ⟨_, rfl⟩
  have hR : bootR cf s ev = bootF s R := by unfold bootR; rw [if_neg hb, hF]
  rw [hR]
  refine wsq (wrg (vN tab rfl (vN tab rfl (vN tab rfl (vN tab rfl (vQ tab rfl (vnl (qth (wsq (wsq (wrg (vQ4 tab rfl rfl rfl rfl (vgd_op false rfl rfl rfl (by simp only [hw, sl_]; first | done | omega) ?_)))))))))))))
  refine vQ4 tab rfl rfl rfl rfl (vnl (qth (vcd_false rfl (by simp only [hw, sl_]; first | done | omega) ?_)))
  refine vw_skip (qth (wsq (wrg (vQ4 tab rfl rfl rfl rfl (vS tab rfl (vnl (qth (wsq (wsq (wrg (vQ tab rfl (vnl (qth (wbk ?_))))))))))))))
  refine vw_loop_sub (fun k st => ∃ (j : Int) (aa : List AddrV), 0 ≤ j ∧ j ≤ s.sess.length ∧ aa.length ≤ s.addrs.length ∧ freeP (IntKind.i64.wrap (ev.tick + cf.quarantine)) (s.sess.drop j.toNat) aa = R ∧ k = (s.sess.length - j).toNat ∧
      ((j = 0 ∧ aa = s.addrs ∧ st = ⟨[(3, .pointer (some ⟨4, 0, none⟩)), (4, .pointer (some ⟨5, 0, none⟩)), (5, .pointer (some ⟨6, 0, none⟩)), (6, .pointer (some ⟨7, 0, none⟩)), (8, .int .i64 j)], lkp [(0, .opn (userR.cells s.users) 76 9), (1, .opn (sessR.cells s.sess) 78 4), (3, .opn ((intR .i64).cells s.spent) 3 1), (4, confO cf), (5, stO 0 1 2 3 { s with boots := s.boots + 1 }), (6, evtO ev), (7, zO), (2, .opn (addrR.cells s.addrs) 80 3)], 8⟩) ∨
        st = ⟨[(3, .pointer (some ⟨4, 0, none⟩)), (4, .pointer (some ⟨5, 0, none⟩)), (5, .pointer (some ⟨6, 0, none⟩)), (6, .pointer (some ⟨7, 0, none⟩)), (8, .int .i64 j)], lkp [(0, .opn (userR.cells s.users) 76 9), (1, .opn (sessR.cells s.sess) 78 4), (3, .opn ((intR .i64).cells s.spent) 3 1), (4, confO cf), (5, stO 0 1 8 3 { s with boots := s.boots + 1, addrs := aa }), (6, evtO ev), (7, zO), (8, .opn (addrR.cells aa) 80 3)], 9⟩)) (s.sess.length - 0)
    ⟨_, (sub_of (g := 4) [4, 5, 6, 7] (by decide) (by decide) (by repeat' first | exact ep_nil | exact ov_conf rfl | exact ov_evt rfl | exact ov_st .nilSlice .nilSlice .nilSlice .nilSlice | exact ov_st2 hw.symm rfl rfl (rel_slice rfl rfl) (rel_slice rfl rfl) (rel_slice rfl rfl) (rel_slice rfl rfl) | refine ep_cons rfl ?_ ?_ | exact .int _ _ | exact .bool _ | exact .string _ | exact rel_slice rfl rfl | exact rel_nil rfl rfl | exact rel_ptr rfl | exact .nilPtr | exact .nilIface | exact .nilSlice) (by repeat' first | exact hp_nil | exact ov_conf rfl | exact ov_evt rfl | exact ov_st .nilSlice .nilSlice .nilSlice .nilSlice | exact ov_st2 hw.symm rfl rfl (rel_slice rfl rfl) (rel_slice rfl rfl) (rel_slice rfl rfl) (rel_slice rfl rfl) | refine hp_cons rfl rfl ?_ ?_ | refine hp_void rfl rfl ?_ | exact ov_win _ | exact ov_opn _ rfl | exact ov_cells _ _ (by decide))), 0, s.addrs, by omega, by omega, by omega, by simpa using hF, by simp, .inl ⟨rfl, rfl, rfl⟩⟩ ?_
  rintro k st ⟨j, aa, h0, h1, hl, hf, rfl, hst⟩
  by_cases hj : j < (s.sess.length : Int)
  case neg =>
    rw [List.drop_eq_nil_of_le (by omega)] at hf
    have hf : (aa, true) = R := hf
    subst hf
    rcases hst with ⟨rfl, rfl, rfl⟩ | rfl
    · refine wsq (wsq (wrg (vQ4 tab rfl rfl rfl rfl (vQ tab rfl (vnl (qth (vcd_false rfl (by simp only [sl_]; first | done | omega) ?_)))))))
      refine vw_exit (q_thenx (q_thenx (q_here (qth (wsq (wrg (vQ tab rfl (vS tab rfl (vnl (qth (wsq (wrg (vQ tab rfl (vS tab rfl (vQ tab rfl (vnl (qth (vw_ret ?_))))))))))))))))))
      exact out_mk [0, NIL, 2, 3] (.inr rfl) ⟨rfl, rfl⟩ rfl
        (vrel_tuple (lrel_cons (vrel_agg (lrel_cons (.int _ _) (lrel_cons (.int _ _) (lrel_cons (.int _ _) (lrel_cons (rel_slice (sigma_at (i := 0) (by simp [ownNames, *]) rfl) rfl) (lrel_cons (rel_nil (sigma_none (i := 1) (by simp [ownNames, *]) rfl) rfl) (lrel_cons (rel_slice (sigma_at (i := 2) (by simp [ownNames, *]) rfl) rfl) (lrel_cons (rel_slice (sigma_at (i := 3) (by simp [ownNames, *]) rfl) rfl) lrel_nil)))))))) (lrel_cons (.bool _) lrel_nil)))
        (op_drop (op_drop (op_drop (op_drop (op_cons (sigma_at (i := 0) (by simp [ownNames, *]) rfl) rfl rfl (ov_opn userR rfl) rfl (op_void (sigma_none (i := 1) (by simp [ownNames, *]) rfl) rfl rfl rfl (op_cons (sigma_at (i := 2) (by simp [ownNames, *]) rfl) rfl rfl (ov_opn addrR rfl) rfl (op_cons (sigma_at (i := 3) (by simp [ownNames, *]) rfl) rfl rfl (ov_opn (intR .i64) rfl) rfl op_nil))))))))
        (told_of (by simp [ownNames, stM]))
    · refine wsq (wsq (wrg (vQ4 tab rfl rfl rfl rfl (vQ tab rfl (vnl (qth (vcd_false rfl (by simp only [sl_]; first | done | omega) ?_)))))))
      refine vw_exit (q_thenx (q_thenx (q_here (qth (wsq (wrg (vQ tab rfl (vS tab rfl (vnl (qth (wsq (wrg (vQ tab rfl (vS tab rfl (vQ tab rfl (vnl (qth (vw_ret ?_))))))))))))))))))
      exact out_mk [0, NIL, 8, 3] (.inr rfl) ⟨rfl, rfl⟩ rfl
        (vrel_tuple (lrel_cons (vrel_agg (lrel_cons (.int _ _) (lrel_cons (.int _ _) (lrel_cons (.int _ _) (lrel_cons (rel_slice (sigma_at (i := 0) (by simp [ownNames, *]) rfl) rfl) (lrel_cons (rel_nil (sigma_none (i := 1) (by simp [ownNames, *]) rfl) rfl) (lrel_cons (rel_slice (sigma_at (i := 2) (by simp [ownNames, *]) rfl) rfl) (lrel_cons (rel_slice (sigma_at (i := 3) (by simp [ownNames, *]) rfl) rfl) lrel_nil)))))))) (lrel_cons (.bool _) lrel_nil)))
        (op_drop (op_drop (op_drop (op_drop (op_cons (sigma_at (i := 0) (by simp [ownNames, *]) rfl) rfl rfl (ov_opn userR rfl) rfl (op_void (sigma_none (i := 1) (by simp [ownNames, *]) rfl) rfl rfl rfl (op_cons (sigma_at (i := 2) (by simp [ownNames, *]) rfl) rfl rfl (ov_opn addrR rfl) rfl (op_cons (sigma_at (i := 3) (by simp [ownNames, *]) rfl) rfl rfl (ov_opn (intR .i64) rfl) rfl op_nil))))))))
        (told_of (by simp [ownNames, stM]))
  obtain ⟨y, hy⟩ := get_some h0 hj
  have hi : IntKind.i64.wrap (j + 1) = j + 1 := i64_in _ (by omega)
  have hjn : (j + 1).toNat = j.toNat + 1 := by omega
  rw [freeP_step hy] at hf
  cases hc1 : freeC aa y.address (IntKind.i64.wrap (ev.tick + cf.quarantine)) with
  | false =>
    rw [if_neg (by rw [hc1]; decide)] at hf
    subst hf
    have hfa := freeA_bad hc1
    rcases hst with ⟨rfl, rfl, rfl⟩ | rfl
    · refine wsq (wsq (wrg (vQ4 tab rfl rfl rfl rfl (vQ tab rfl (vnl (qth (vcd_true rfl (by simp only [sl_]; first | done | omega) ?_)))))))
      refine vw_skip (qth (wsq (wbk (wsq (vw_draw mixed (dq_op tab rfl rfl rfl rfl (dq_op tab rfl rfl rfl rfl (dq_op tab rfl rfl rfl rfl (dq_op tab rfl rfl rfl rfl (dq_op tab rfl rfl rfl rfl (dq_op tab rfl rfl (ev_index rfl rfl rfl rfl rfl (by omega) (by omega)) (ev_index rfl rfl rfl rfl rfl (by omega) (by omega)) ?_)))))))))))
      refine dq_op tab rfl rfl rfl rfl (dq_op tab rfl rfl (ev_loadcell sessR rfl rfl rfl rfl rfl hy rfl) (ev_loadcell sessR rfl rfl rfl rfl rfl hy rfl) (dq_op tab rfl rfl rfl rfl (dq_op tab rfl rfl rfl rfl (dq_op tab rfl rfl rfl rfl (dq_op tab rfl rfl rfl rfl (dq_op tab rfl rfl rfl rfl (dt_op [2] rfl rfl rfl rfl rfl callable_79 (reffree_as _ hfa (looks_opn addrR rfl rfl) (by omega)) ?_)))))))
      refine dq_op tab rfl rfl rfl rfl (dq_op tab rfl rfl rfl rfl (dq_op tab rfl rfl rfl rfl (dq_op tab rfl rfl rfl rfl (dq_op tab rfl rfl rfl rfl (vd_nil (by kernel_rfl) ?_)))))
      refine qth (wsq (wsq (wrg (vQ2 tab rfl rfl (vnl (qth (vc_true rfl (wsq (wrg (vQ tab rfl (vS tab rfl (vQ tab rfl (vnl (qth (vw_ret (q_thenr (q_ret (q_thenr (q_thenr (q_ret (q_thenr ?_)))))))))))))))))))))
      exact out_mk [0, 1, 2, 3] (.inr rfl) ⟨rfl, rfl⟩ rfl
        (vrel_tuple (lrel_cons (vrel_agg (lrel_cons (ri rfl) (lrel_cons (ri rfl) (lrel_cons (ri rfl) (lrel_cons (rel_slice (sigma_at (i := 0) (by simp [ownNames, *]) rfl) rfl) (lrel_cons (rel_slice (sigma_at (i := 1) (by simp [ownNames, *]) rfl) rfl) (lrel_cons (rel_slice (sigma_at (i := 2) (by simp [ownNames, *]) rfl) rfl) (lrel_cons (rel_slice (sigma_at (i := 3) (by simp [ownNames, *]) rfl) rfl) lrel_nil)))))))) (lrel_cons (.bool _) lrel_nil)))
          (op_drop (op_drop (op_drop (op_drop (op_cons (sigma_at (i := 0) (by simp [ownNames, *]) rfl) rfl rfl (ov_opn userR rfl) rfl (op_cons (sigma_at (i := 1) (by simp [ownNames, *]) rfl) rfl rfl (ov_opn sessR rfl) rfl (op_cons (sigma_at (i := 2) (by simp [ownNames, *]) rfl) rfl rfl (ov_opn addrR rfl) rfl (op_cons (sigma_at (i := 3) (by simp [ownNames, *]) rfl) rfl rfl (ov_opn (intR .i64) rfl) rfl op_nil))))))))
          (told_of (by simp [ownNames, stM]))
    · refine wsq (wsq (wrg (vQ4 tab rfl rfl rfl rfl (vQ tab rfl (vnl (qth (vcd_true rfl (by simp only [sl_]; first | done | omega) ?_)))))))
      refine vw_skip (qth (wsq (wbk (wsq (vw_draw mixed (dq_op tab rfl rfl rfl rfl (dq_op tab rfl rfl rfl rfl (dq_op tab rfl rfl rfl rfl (dq_op tab rfl rfl rfl rfl (dq_op tab rfl rfl rfl rfl (dq_op tab rfl rfl (ev_index rfl rfl rfl rfl rfl (by omega) (by omega)) (ev_index rfl rfl rfl rfl rfl (by omega) (by omega)) ?_)))))))))))
      refine dq_op tab rfl rfl rfl rfl (dq_op tab rfl rfl (ev_loadcell sessR rfl rfl rfl rfl rfl hy rfl) (ev_loadcell sessR rfl rfl rfl rfl rfl hy rfl) (dq_op tab rfl rfl rfl rfl (dq_op tab rfl rfl rfl rfl (dq_op tab rfl rfl rfl rfl (dq_op tab rfl rfl rfl rfl (dq_op tab rfl rfl rfl rfl (dt_op [8] rfl rfl rfl rfl rfl callable_79 (reffree_as _ hfa (looks_opn addrR rfl rfl) (by omega)) ?_)))))))
      refine dq_op tab rfl rfl rfl rfl (dq_op tab rfl rfl rfl rfl (dq_op tab rfl rfl rfl rfl (dq_op tab rfl rfl rfl rfl (dq_op tab rfl rfl rfl rfl (vd_nil (by kernel_rfl) ?_)))))
      refine qth (wsq (wsq (wrg (vQ2 tab rfl rfl (vnl (qth (vc_true rfl (wsq (wrg (vQ tab rfl (vS tab rfl (vQ tab rfl (vnl (qth (vw_ret (q_thenr (q_ret (q_thenr (q_thenr (q_ret (q_thenr ?_)))))))))))))))))))))
      exact out_mk [0, 1, 8, 3] (.inr rfl) ⟨rfl, rfl⟩ rfl
        (vrel_tuple (lrel_cons (vrel_agg (lrel_cons (ri rfl) (lrel_cons (ri rfl) (lrel_cons (ri rfl) (lrel_cons (rel_slice (sigma_at (i := 0) (by simp [ownNames, *]) rfl) rfl) (lrel_cons (rel_slice (sigma_at (i := 1) (by simp [ownNames, *]) rfl) rfl) (lrel_cons (rel_slice (sigma_at (i := 2) (by simp [ownNames, *]) rfl) rfl) (lrel_cons (rel_slice (sigma_at (i := 3) (by simp [ownNames, *]) rfl) rfl) lrel_nil)))))))) (lrel_cons (.bool _) lrel_nil)))
          (op_drop (op_drop (op_drop (op_drop (op_cons (sigma_at (i := 0) (by simp [ownNames, *]) rfl) rfl rfl (ov_opn userR rfl) rfl (op_cons (sigma_at (i := 1) (by simp [ownNames, *]) rfl) rfl rfl (ov_opn sessR rfl) rfl (op_cons (sigma_at (i := 2) (by simp [ownNames, *]) rfl) rfl rfl (ov_opn addrR rfl) rfl (op_cons (sigma_at (i := 3) (by simp [ownNames, *]) rfl) rfl rfl (ov_opn (intR .i64) rfl) rfl op_nil))))))))
          (told_of (by simp [ownNames, stM]))
  | true =>
    rw [if_pos hc1] at hf
    have hl2 := freeA_lenOk hc1
    obtain ⟨a2, ha2⟩ : ∃ a2, freeA aa y.address (IntKind.i64.wrap (ev.tick + cf.quarantine)) = (a2, 0) := ⟨_, freeA_ok hc1⟩
    rw [ha2] at hf
    have hl2 : a2.length = aa.length := by rw [ha2] at hl2; exact hl2
    rcases hst with ⟨rfl, rfl, rfl⟩ | rfl
    · refine wsq (wsq (wrg (vQ4 tab rfl rfl rfl rfl (vQ tab rfl (vnl (qth (vcd_true rfl (by simp only [sl_]; first | done | omega) ?_)))))))
      refine vw_skip (qth (wsq (wbk (wsq (vw_draw mixed (dq_op tab rfl rfl rfl rfl (dq_op tab rfl rfl rfl rfl (dq_op tab rfl rfl rfl rfl (dq_op tab rfl rfl rfl rfl (dq_op tab rfl rfl rfl rfl (dq_op tab rfl rfl (ev_index rfl rfl rfl rfl rfl (by omega) (by omega)) (ev_index rfl rfl rfl rfl rfl (by omega) (by omega)) ?_)))))))))))
      refine dq_op tab rfl rfl rfl rfl (dq_op tab rfl rfl (ev_loadcell sessR rfl rfl rfl rfl rfl hy rfl) (ev_loadcell sessR rfl rfl rfl rfl rfl hy rfl) (dq_op tab rfl rfl rfl rfl (dq_op tab rfl rfl rfl rfl (dq_op tab rfl rfl rfl rfl (dq_op tab rfl rfl rfl rfl (dq_op tab rfl rfl rfl rfl (dt_op [2] rfl rfl rfl rfl rfl callable_79 (reffree_as _ ha2 (looks_opn addrR rfl rfl) (by omega)) ?_)))))))
      refine dq_op tab rfl rfl rfl rfl (dq_op tab rfl rfl rfl rfl (dq_op tab rfl rfl rfl rfl (dq_op tab rfl rfl rfl rfl (dq_op tab rfl rfl rfl rfl (vd_nil (by kernel_rfl) ?_)))))
      refine qth (wsq (wsq (wrg (vQ2 tab rfl rfl (vnl (qth (vc_false rfl (vw_skip (qth (wrg (vQ2 tab rfl rfl (vS tab rfl (vnl (q_norm (qth (wrg (vQ3 tab rfl rfl rfl (vnl (qth ?_)))))))))))))))))))
      exact ⟨((s.sess.length : Int) - (0 + 1)).toNat, _, by omega, (sub_of (g := 4) [4, 5, 6, 7, 8] (by decide) (by decide) (by repeat' first | exact ep_nil | exact ri hi.symm | exact ov_conf rfl | exact ov_evt rfl | exact ov_st .nilSlice .nilSlice .nilSlice .nilSlice | exact ov_st (rel_slice rfl rfl) (rel_slice rfl rfl) (rel_slice rfl rfl) (rel_slice rfl rfl) | refine ep_cons rfl ?_ ?_ | exact .int _ _ | exact .bool _ | exact .string _ | exact rel_slice rfl rfl | exact rel_nil rfl rfl | exact rel_ptr rfl | exact .nilPtr | exact .nilIface | exact .nilSlice) (by repeat' first | exact hp_nil | exact ri hi.symm | exact ov_conf rfl | exact ov_evt rfl | exact ov_st .nilSlice .nilSlice .nilSlice .nilSlice | exact ov_st (rel_slice rfl rfl) (rel_slice rfl rfl) (rel_slice rfl rfl) (rel_slice rfl rfl) | refine hp_cons rfl rfl ?_ ?_ | refine hp_void rfl rfl ?_ | exact ov_win _ | exact ov_opn _ rfl | exact ov_cells _ _ (by decide))), 0 + 1, a2, by omega, by omega, by omega, by rw [hjn]; exact hf, rfl, .inr rfl⟩
    · refine wsq (wsq (wrg (vQ4 tab rfl rfl rfl rfl (vQ tab rfl (vnl (qth (vcd_true rfl (by simp only [sl_]; first | done | omega) ?_)))))))
      refine vw_skip (qth (wsq (wbk (wsq (vw_draw mixed (dq_op tab rfl rfl rfl rfl (dq_op tab rfl rfl rfl rfl (dq_op tab rfl rfl rfl rfl (dq_op tab rfl rfl rfl rfl (dq_op tab rfl rfl rfl rfl (dq_op tab rfl rfl (ev_index rfl rfl rfl rfl rfl (by omega) (by omega)) (ev_index rfl rfl rfl rfl rfl (by omega) (by omega)) ?_)))))))))))
      refine dq_op tab rfl rfl rfl rfl (dq_op tab rfl rfl (ev_loadcell sessR rfl rfl rfl rfl rfl hy rfl) (ev_loadcell sessR rfl rfl rfl rfl rfl hy rfl) (dq_op tab rfl rfl rfl rfl (dq_op tab rfl rfl rfl rfl (dq_op tab rfl rfl rfl rfl (dq_op tab rfl rfl rfl rfl (dq_op tab rfl rfl rfl rfl (dt_op [8] rfl rfl rfl rfl rfl callable_79 (reffree_as _ ha2 (looks_opn addrR rfl rfl) (by omega)) ?_)))))))
      refine dq_op tab rfl rfl rfl rfl (dq_op tab rfl rfl rfl rfl (dq_op tab rfl rfl rfl rfl (dq_op tab rfl rfl rfl rfl (dq_op tab rfl rfl rfl rfl (vd_nil (by kernel_rfl) ?_)))))
      refine qth (wsq (wsq (wrg (vQ2 tab rfl rfl (vnl (qth (vc_false rfl (vw_skip (qth (wrg (vQ2 tab rfl rfl (vS tab rfl (vnl (q_norm (qth (wrg (vQ3 tab rfl rfl rfl (vnl (qth ?_)))))))))))))))))))
      exact ⟨(s.sess.length - (j + 1)).toNat, _, by omega, (sub_of (g := 4) [4, 5, 6, 7, 9] (by decide) (by decide) (by repeat' first | exact ep_nil | exact ri hi.symm | exact ov_conf rfl | exact ov_evt rfl | exact ov_st .nilSlice .nilSlice .nilSlice .nilSlice | exact ov_st (rel_slice rfl rfl) (rel_slice rfl rfl) (rel_slice rfl rfl) (rel_slice rfl rfl) | refine ep_cons rfl ?_ ?_ | exact .int _ _ | exact .bool _ | exact .string _ | exact rel_slice rfl rfl | exact rel_nil rfl rfl | exact rel_ptr rfl | exact .nilPtr | exact .nilIface | exact .nilSlice) (by repeat' first | exact hp_nil | exact ri hi.symm | exact ov_conf rfl | exact ov_evt rfl | exact ov_st .nilSlice .nilSlice .nilSlice .nilSlice | exact ov_st (rel_slice rfl rfl) (rel_slice rfl rfl) (rel_slice rfl rfl) (rel_slice rfl rfl) | refine hp_cons rfl rfl ?_ ?_ | refine hp_void rfl rfl ?_ | exact ov_win _ | exact ov_opn _ rfl | exact ov_cells _ _ (by decide))), j + 1, a2, by omega, by omega, by omega, by rw [hjn]; exact hf, rfl, .inr rfl⟩
end
end Go.Proofs.YtcjfidfealifhaaGreat
namespace Go.Proofs.YtcjfidfealifhaaGreat
open Go Vm IntWalk
set_option linter.unusedVariables false
set_option linter.unusedSimpArgs false
set_option maxHeartbeats 16000000
theorem refuser_as {V : Heap} {n : Nat} {v1 v2 v3 v4 : Value} {s : StV} {k : Int} (r : Int) (hr : findI (fun a : UserV => a.user == k) s.users = r) (h1 : Looks V 9 v1 (userR.cells s.users) s.users.length) (h2 : Looks V 4 v2 (sessR.cells s.sess) s.sess.length) (h3 : Looks V 3 v3 (addrR.cells s.addrs) s.addrs.length) (h4 : Looks V 1 v4 ((intR .i64).cells s.spent) s.spent.length) (hx : s.users.length ≤ 140737488355328) :
    Tri Tryz.prog 64 [.agg #[.int .i64 s.boots, .int .i64 s.epoch, .int .i64 s.next, v1, v2, v3, v4], .int .i64 k] n 0 V (fun u L => u = .int .i64 r ∧ L = []) := by subst hr; exact refuser_tri h1 h2 h3 h4 hx k
theorem refsess_as {V : Heap} {n : Nat} {v1 v2 v3 v4 : Value} {s : StV} {k : Int} (r : Int) (hr : findI (fun a : SessV => a.session == k) s.sess = r) (h1 : Looks V 9 v1 (userR.cells s.users) s.users.length) (h2 : Looks V 4 v2 (sessR.cells s.sess) s.sess.length) (h3 : Looks V 3 v3 (addrR.cells s.addrs) s.addrs.length) (h4 : Looks V 1 v4 ((intR .i64).cells s.spent) s.spent.length) (hx : s.sess.length ≤ 140737488355328) :
    Tri Tryz.prog 81 [.agg #[.int .i64 s.boots, .int .i64 s.epoch, .int .i64 s.next, v1, v2, v3, v4], .int .i64 k] n 0 V (fun u L => u = .int .i64 r ∧ L = []) := by subst hr; exact refsess_tri h1 h2 h3 h4 hx k
theorem user_absent {us : List UserV} {k : Int} (h : userAt us k = none) : findI (fun a : UserV => a.user == k) us = -1 := by unfold userAt at h; unfold findI; rw [h]
def addP (us : List UserV) (u : UserV) (k j : Nat) : List UserV := if k < j then us.take k ++ u :: (us.drop k).take (j - k) else us.take j
theorem addP_lo {us : List UserV} {u : UserV} {k j : Nat} (h : j ≤ k) : addP us u k j = us.take j := if_neg (by omega)
theorem addP_hi {us : List UserV} {u : UserV} {k j : Nat} (h : k < j) : addP us u k j = us.take k ++ u :: (us.drop k).take (j - k) := if_pos h
theorem addP_len {us : List UserV} {u : UserV} {k j : Nat} (h : j ≤ us.length) : (addP us u k j).length ≤ j + 1 := by
  unfold addP; split
  · simp only [List.length_append, List.length_take, List.length_cons, List.length_drop]; omega
  · rw [List.length_take]; omega
theorem addP_lo1 {us : List UserV} {u a : UserV} {k j : Nat} (h : j < k) (ha : us[j]? = some a) : addP us u k j ++ [a] = addP us u k (j + 1) := by
  rw [addP_lo (by omega), addP_lo (by omega), List.take_add_one, ha]; rfl
theorem addP_at {us : List UserV} {u a : UserV} {k : Nat} (ha : us[k]? = some a) : addP us u k k ++ [u] ++ [a] = addP us u k (k + 1) := by
  rw [addP_lo (by omega), addP_hi (by omega), show k + 1 - k = 1 by omega, List.take_one, List.head?_drop, ha]; simp
theorem addP_hi1 {us : List UserV} {u a : UserV} {k j : Nat} (h : k < j) (ha : us[j]? = some a) : addP us u k j ++ [a] = addP us u k (j + 1) := by
  rw [addP_hi h, addP_hi (by omega), show j + 1 - k = (j - k) + 1 by omega, List.take_add_one, List.getElem?_drop, show k + (j - k) = j by omega, ha]; simp
theorem gt_le {us : List UserV} {u : Int} : gtAt us u ≤ us.length := List.findIdx_le_length
theorem gt_ahead {us : List UserV} {u : Int} {j : Nat} {a : UserV} (h : j < gtAt us u) (ha : us[j]? = some a) : ¬ u < a.user := by
  have := List.not_of_lt_findIdx h
  rw [List.getElem?_eq_some_iff] at ha
  obtain ⟨h1, rfl⟩ := ha
  simpa using this
theorem gt_there {us : List UserV} {u : Int} {a : UserV} (ha : us[gtAt us u]? = some a) : u < a.user := by
  unfold gtAt at ha
  obtain ⟨h1, h2⟩ := List.getElem?_eq_some_iff.1 ha
  have := List.findIdx_getElem (w := h1)
  rw [← h2]; simpa using this
theorem ov_userc {σ : Ren} {a : UserV} : OV σ (.cells (userL a) 76 (0, 0)) (.cells (userL a) 76 (0, 0)) := .cells _ _ (userR.flat a).rel
section
variable {V : Heap} {n u x a p : Nat} {cf : ConfV} {ev : EventV} {s : StV}
theorem refadd_no {j : Nat} (h : OwnS V u x a p s) (hi : ∀ i ∈ [u, x, a, p], i < n) (hb1 : s.users.length * 72 ≤ 140737488355000) (hk : userAt s.users ev.user = some j) :
    Tri Tryz.prog 63 [stV u x a p s, evtV ev] n 4 V (fun r L => r = .tuple #[stV n (n + 1) (n + 2) (n + 3) s, .bool false] ∧ L = stM u x a p n s) := by
  obtain ⟨hu, hx, ha, hp, hn⟩ := h
  simp only [List.nodup_cons, List.mem_cons, List.not_mem_nil, or_false, not_or, List.nodup_nil, and_true, not_false_eq_true] at hn
  obtain ⟨⟨d1, d2, d3⟩, ⟨e1, e2⟩, f1⟩ := hn
  simp only [List.mem_cons, List.not_mem_nil, or_false, forall_eq_or_imp, forall_eq] at hi
  obtain ⟨l1, l2, l3, l4⟩ := hi
  refine call_of_vw (K := 4) (argsI := [.agg #[.int .i64 s.boots, .int .i64 s.epoch, .int .i64 s.next, .slice (some ⟨0, 0, none⟩) s.users.length 0, .slice (some ⟨1, 0, none⟩) s.sess.length 0, .slice (some ⟨2, 0, none⟩) s.addrs.length 0, .slice (some ⟨3, 0, none⟩) s.spent.length 0], evtV ev]) tab Tryz.func63 rfl rfl (by simp [Tryz.f63]) [.own u, .own x, .own a, .own p] [.opn (userR.cells s.users) 76 9, .opn (sessR.cells s.sess) 78 4, .opn (addrR.cells s.addrs) 80 3, .opn ((intR .i64).cells s.spent) 3 1] rfl (.own hu (ov_opn userR rfl) (.own hx (ov_opn sessR rfl) (.own ha (ov_opn addrR rfl) (.own hp (ov_opn (intR .i64) rfl) .nil)))) (by simp [ownNames, *]) (by simp [ownNames, lookNames, *]) (by simp [ownNames, *]) (al_cons (ar_agg (al_cons (.val (.int _ _)) (al_cons (.val (.int _ _)) (al_cons (.val (.int _ _)) (al_cons (.val (rel_slice rfl rfl)) (al_cons (.val (rel_slice rfl rfl)) (al_cons (.val (rel_slice rfl rfl)) (al_cons (.val (rel_slice rfl rfl)) al_nil)))))))) (al_cons (.val (evtRel ev)) al_nil)) (seen_of (sn_own (sn_own (sn_own (sn_own sn_nil))))) ?_
  have hfi := (user_found hk).2
  refine wsq (wrg (vN tab rfl (vN tab rfl (vN tab rfl (vQ tab rfl (vnl (qth (wsq (wsq (wrg (vQ3 tab rfl rfl rfl (vR rfl callable_64 (refuser_as (s := s) _ hfi (looks_opn userR rfl rfl) (looks_opn sessR rfl rfl) (looks_opn addrR rfl rfl) (looks_opn (intR .i64) rfl rfl) (by omega)) ?_))))))))))))
  refine vQ tab rfl (vnl (qth (vc_true rfl (wsq (wrg (vQ tab rfl (vS tab rfl (vQ tab rfl (vnl (qth (vw_ret (q_thenr ?_))))))))))))
  exact out_mk [0, 1, 2, 3] (.inr rfl) ⟨rfl, rfl⟩ rfl
    (vrel_tuple (lrel_cons (vrel_agg (lrel_cons (ri rfl) (lrel_cons (ri rfl) (lrel_cons (ri rfl) (lrel_cons (rel_slice (sigma_at (i := 0) (by simp [ownNames, *]) rfl) rfl) (lrel_cons (rel_slice (sigma_at (i := 1) (by simp [ownNames, *]) rfl) rfl) (lrel_cons (rel_slice (sigma_at (i := 2) (by simp [ownNames, *]) rfl) rfl) (lrel_cons (rel_slice (sigma_at (i := 3) (by simp [ownNames, *]) rfl) rfl) lrel_nil)))))))) (lrel_cons (.bool _) lrel_nil)))
      (op_drop (op_drop (op_drop (op_drop (op_cons (sigma_at (i := 0) (by simp [ownNames, *]) rfl) rfl rfl (ov_opn userR rfl) rfl (op_cons (sigma_at (i := 1) (by simp [ownNames, *]) rfl) rfl rfl (ov_opn sessR rfl) rfl (op_cons (sigma_at (i := 2) (by simp [ownNames, *]) rfl) rfl rfl (ov_opn addrR rfl) rfl (op_cons (sigma_at (i := 3) (by simp [ownNames, *]) rfl) rfl rfl (ov_opn (intR .i64) rfl) rfl op_nil))))))))
      (told_of (by simp [ownNames, stM]))
theorem refadd_ok (h : OwnS V u x a p s) (hi : ∀ i ∈ [u, x, a, p], i < n) (hb1 : s.users.length * 72 ≤ 140737488355000) (hk : userAt s.users ev.user = none) :
    Tri Tryz.prog 63 [stV u x a p s, evtV ev] n 4 V (fun r L => r = .tuple #[stV n (n + 1) (n + 2) (n + 3) { s with users := userPut s.users ⟨ev.user, ev.a, ev.b, ev.c, 0, 0, 0, 0, 0⟩ }, .bool true] ∧ L = stM u x a p n { s with users := userPut s.users ⟨ev.user, ev.a, ev.b, ev.c, 0, 0, 0, 0, 0⟩ }) := by
  obtain ⟨hu, hx, ha, hp, hn⟩ := h
  simp only [List.nodup_cons, List.mem_cons, List.not_mem_nil, or_false, not_or, List.nodup_nil, and_true, not_false_eq_true] at hn
  obtain ⟨⟨d1, d2, d3⟩, ⟨e1, e2⟩, f1⟩ := hn
  simp only [List.mem_cons, List.not_mem_nil, or_false, forall_eq_or_imp, forall_eq] at hi
  obtain ⟨l1, l2, l3, l4⟩ := hi
  refine call_of_vw (K := 4) (argsI := [.agg #[.int .i64 s.boots, .int .i64 s.epoch, .int .i64 s.next, .slice (some ⟨0, 0, none⟩) s.users.length 0, .slice (some ⟨1, 0, none⟩) s.sess.length 0, .slice (some ⟨2, 0, none⟩) s.addrs.length 0, .slice (some ⟨3, 0, none⟩) s.spent.length 0], evtV ev]) tab Tryz.func63 rfl rfl (by simp [Tryz.f63]) [.own u, .own x, .own a, .own p] [.opn (userR.cells s.users) 76 9, .opn (sessR.cells s.sess) 78 4, .opn (addrR.cells s.addrs) 80 3, .opn ((intR .i64).cells s.spent) 3 1] rfl (.own hu (ov_opn userR rfl) (.own hx (ov_opn sessR rfl) (.own ha (ov_opn addrR rfl) (.own hp (ov_opn (intR .i64) rfl) .nil)))) (by simp [ownNames, *]) (by simp [ownNames, lookNames, *]) (by simp [ownNames, *]) (al_cons (ar_agg (al_cons (.val (.int _ _)) (al_cons (.val (.int _ _)) (al_cons (.val (.int _ _)) (al_cons (.val (rel_slice rfl rfl)) (al_cons (.val (rel_slice rfl rfl)) (al_cons (.val (rel_slice rfl rfl)) (al_cons (.val (rel_slice rfl rfl)) al_nil)))))))) (al_cons (.val (evtRel ev)) al_nil)) (seen_of (sn_own (sn_own (sn_own (sn_own sn_nil))))) ?_
  have hfi := user_absent hk
  obtain ⟨w, hw⟩ : ∃ w : UserV, w = ⟨ev.user, ev.a, ev.b, ev.c, 0, 0, 0, 0, 0⟩ := ⟨_, rfl⟩
  obtain ⟨k, hkk⟩ : ∃ k, k = gtAt s.users ev.user := ⟨_, rfl⟩
  have hput : userPut s.users ⟨ev.user, ev.a, ev.b, ev.c, 0, 0, 0, 0, 0⟩ = s.users.take k ++ w :: s.users.drop k := by unfold userPut; rw [← hkk, ← hw]
  have hkl : k ≤ s.users.length := by rw [hkk]; exact gt_le
  rw [hput]
  refine wsq (wrg (vN tab rfl (vN tab rfl (vN tab rfl (vQ tab rfl (vnl (qth (wsq (wsq (wrg (vQ3 tab rfl rfl rfl (vR rfl callable_64 (refuser_as (s := s) _ hfi (looks_opn userR rfl rfl) (looks_opn sessR rfl rfl) (looks_opn addrR rfl rfl) (looks_opn (intR .i64) rfl rfl) (by omega)) ?_))))))))))))
  refine vQ tab rfl (vnl (qth (vc_false rfl (vw_skip (qth (wsq (wrg (vQ tab rfl (vnl (qth (wsq (wrg (vQ4 tab rfl rfl rfl rfl (vQ4 tab rfl rfl rfl rfl (vQ tab rfl (vN tab rfl (vS tab rfl ?_)))))))))))))))))
  refine vnl (qth (wsq (wrg (vQ tab rfl (vnl (qth (wsq (wsq (wrg (vQ tab rfl (vnl (qth (wbk ?_)))))))))))))
  refine vw_loop_sub (fun m st => ∃ (j : Int), 0 ≤ j ∧ j ≤ s.users.length ∧ m = (s.users.length - j).toNat ∧
      st = ⟨[(2, .pointer (some ⟨4, 0, none⟩)), (3, .pointer (some ⟨5, 0, none⟩)), (4, .pointer (some ⟨6, 0, none⟩)), (6, .slice (some ⟨8, 0, none⟩) (addP s.users w k j.toNat).length 0), (7, .pointer (some ⟨7, 0, none⟩)), (8, .bool (decide (k < j.toNat))), (9, .int .i64 j)],
        lkp [(0, .opn (userR.cells s.users) 76 9), (1, .opn (sessR.cells s.sess) 78 4), (2, .opn (addrR.cells s.addrs) 80 3), (3, .opn ((intR .i64).cells s.spent) 3 1), (4, stO 0 1 2 3 s), (5, evtO ev), (6, zO), (7, .cells (userL w) 76 (0, 0)), (8, .opn (userR.cells (addP s.users w k j.toNat)) 76 9)], 9⟩) (s.users.length - 0)
    ⟨_, (sub_of (g := 4) [4, 5, 6, 7, NIL] (by decide) (by decide) (by repeat' first | exact ep_nil | exact ov_st (rel_slice rfl rfl) (rel_slice rfl rfl) (rel_slice rfl rfl) (rel_slice rfl rfl) | exact ov_evt rfl | exact ov_st .nilSlice .nilSlice .nilSlice .nilSlice | exact (by rw [hw]; exact ov_userc) | refine ep_cons rfl ?_ ?_ | exact .int _ _ | exact .bool _ | exact .string _ | exact rel_slice rfl rfl | exact rel_nil rfl rfl | exact rel_ptr rfl | exact .nilPtr | exact .nilIface | exact .nilSlice) (by repeat' first | exact hp_nil | exact ov_st (rel_slice rfl rfl) (rel_slice rfl rfl) (rel_slice rfl rfl) (rel_slice rfl rfl) | exact ov_evt rfl | exact ov_st .nilSlice .nilSlice .nilSlice .nilSlice | exact (by rw [hw]; exact ov_userc) | refine hp_cons rfl rfl ?_ ?_ | refine hp_void rfl rfl ?_ | exact ov_win _ | exact ov_opn _ rfl | exact ov_cells _ _ (by decide))), 0, by omega, by omega, by simp, rfl⟩ ?_
  rintro m st ⟨j, g0, g1, rfl, rfl⟩
  have hol := addP_len (us := s.users) (u := w) (k := k) (j := j.toNat) (by omega)
  by_cases hj : j < (s.users.length : Int)
  case neg =>
    have hjl : j.toNat = s.users.length := by omega
    rw [hjl]
    by_cases hkj : k < s.users.length
    · have hd := decide_eq_true hkj
      have hE : s.users.take k ++ w :: s.users.drop k = addP s.users w k s.users.length := by rw [addP_hi hkj, List.take_of_length_le (l := s.users.drop k) (by rw [List.length_drop]; omega)]
      rw [hE]
      refine wsq (wsq (wrg (vQ4 tab rfl rfl rfl rfl (vQ tab rfl (vnl (qth (vcd_false rfl (by simp only [hd, sl_]; first | done | omega) ?_)))))))
      refine vw_exit (q_thenx (q_thenx (q_here (qth (wsq (wsq (wrg (vQ2 tab rfl rfl (vnl (qth (vcd_false rfl (by simp only [hd, sl_]; first | done | omega) ?_)))))))))))
      refine vw_skip (qth (wsq (wrg (vQ2 tab rfl rfl (vS tab rfl (vnl (qth (wsq (wrg (vQ tab rfl (vS tab rfl (vQ tab rfl (vnl (qth (vw_ret ?_)))))))))))))))
      exact out_mk [8, 1, 2, 3] (.inr rfl) ⟨rfl, rfl⟩ rfl
        (vrel_tuple (lrel_cons (vrel_agg (lrel_cons (ri rfl) (lrel_cons (ri rfl) (lrel_cons (ri rfl) (lrel_cons (rel_slice (sigma_at (i := 0) (by simp [ownNames, *]) rfl) rfl) (lrel_cons (rel_slice (sigma_at (i := 1) (by simp [ownNames, *]) rfl) rfl) (lrel_cons (rel_slice (sigma_at (i := 2) (by simp [ownNames, *]) rfl) rfl) (lrel_cons (rel_slice (sigma_at (i := 3) (by simp [ownNames, *]) rfl) rfl) lrel_nil)))))))) (lrel_cons (.bool _) lrel_nil)))
          (op_drop (op_drop (op_drop (op_drop (op_cons (sigma_at (i := 0) (by simp [ownNames, *]) rfl) rfl rfl (ov_opn userR rfl) rfl (op_cons (sigma_at (i := 1) (by simp [ownNames, *]) rfl) rfl rfl (ov_opn sessR rfl) rfl (op_cons (sigma_at (i := 2) (by simp [ownNames, *]) rfl) rfl rfl (ov_opn addrR rfl) rfl (op_cons (sigma_at (i := 3) (by simp [ownNames, *]) rfl) rfl rfl (ov_opn (intR .i64) rfl) rfl op_nil))))))))
          (told_of (by simp [ownNames, stM]))
    · have hd := decide_eq_false hkj
      have hE : s.users.take k ++ w :: s.users.drop k = addP s.users w k s.users.length ++ [w] := by rw [addP_lo (by omega), show s.users.length = k by omega, List.drop_eq_nil_of_le (by omega)]
      have hz : (addP s.users w k s.users.length).length = s.users.length := by rw [addP_lo (by omega), List.take_length]
      rw [hE]
      refine wsq (wsq (wrg (vQ4 tab rfl rfl rfl rfl (vQ tab rfl (vnl (qth (vcd_false rfl (by simp only [hd, sl_]; first | done | omega) ?_)))))))
      refine vw_exit (q_thenx (q_thenx (q_here (qth (wsq (wsq (wrg (vQ2 tab rfl rfl (vnl (qth (vcd_true rfl (by simp only [hd, sl_]; first | done | omega) ?_)))))))))))
      refine wrg (vQ2 tab rfl rfl (vN tab rfl (vo_op rfl rfl rfl (opr_ev tab (ev_app userR (ys := [w]) (m := 1) rfl rfl rfl rfl rfl rfl rfl rfl rfl (by show (_ + 1) * 72 ≤ _; omega) (by omega))) ?_)))
      refine vQ tab rfl (vnl (qth (wsq (wrg (vQ2 tab rfl rfl (vS tab rfl (vnl (qth (wsq (wrg (vQ tab rfl (vS tab rfl (vQ tab rfl (vnl (qth (vw_ret ?_))))))))))))))))
      exact out_mk [10, 1, 2, 3] (.inr rfl) ⟨rfl, rfl⟩ rfl
        (vrel_tuple (lrel_cons (vrel_agg (lrel_cons (ri rfl) (lrel_cons (ri rfl) (lrel_cons (ri rfl) (lrel_cons (rel_slice (sigma_at (i := 0) (by simp [ownNames, *]) rfl) (by simp)) (lrel_cons (rel_slice (sigma_at (i := 1) (by simp [ownNames, *]) rfl) rfl) (lrel_cons (rel_slice (sigma_at (i := 2) (by simp [ownNames, *]) rfl) rfl) (lrel_cons (rel_slice (sigma_at (i := 3) (by simp [ownNames, *]) rfl) rfl) lrel_nil)))))))) (lrel_cons (.bool _) lrel_nil)))
          (op_drop (op_drop (op_drop (op_drop (op_cons (sigma_at (i := 0) (by simp [ownNames, *]) rfl) rfl rfl (ov_opn userR rfl) rfl (op_cons (sigma_at (i := 1) (by simp [ownNames, *]) rfl) rfl rfl (ov_opn sessR rfl) rfl (op_cons (sigma_at (i := 2) (by simp [ownNames, *]) rfl) rfl rfl (ov_opn addrR rfl) rfl (op_cons (sigma_at (i := 3) (by simp [ownNames, *]) rfl) rfl rfl (ov_opn (intR .i64) rfl) rfl op_nil))))))))
          (told_of (by simp [ownNames, stM]))
  obtain ⟨b, hx⟩ := get_some g0 hj
  have hi : IntKind.i64.wrap (j + 1) = j + 1 := i64_in _ (by omega)
  have hjn : (j + 1).toNat = j.toNat + 1 := by omega
  rcases Nat.lt_trichotomy k j.toNat with hlt | heq | hgt
  · have hd := decide_eq_true hlt
    have hE := addP_hi1 (u := w) hlt hx
    have hd2 : decide (k < j.toNat + 1) = true := decide_eq_true (by omega)
    refine wsq (wsq (wrg (vQ4 tab rfl rfl rfl rfl (vQ tab rfl (vnl (qth (vcd_true rfl (by simp only [hd, sl_]; first | done | omega) ?_)))))))
    refine vw_skip (qth (wsq (wbk (wsq (wsq (vw_draw mixed (dq_op tab rfl rfl rfl rfl (dq_op tab rfl rfl rfl rfl (dq_op tab rfl rfl rfl rfl (dgd_op false rfl rfl rfl (by simp only [hd, sl_]; first | done | omega) ?_))))))))))
    refine dk_op ⟨_, _, rfl, rfl, rfl⟩ rfl (dk_op ⟨_, _, rfl, rfl, rfl⟩ rfl (dk_op ⟨_, _, rfl, rfl, rfl⟩ rfl (dk_op ⟨_, _, rfl, rfl, rfl⟩ rfl (dk_op ⟨_, _, rfl, rfl, rfl⟩ rfl (dk_op ⟨_, _, rfl, rfl, rfl⟩ rfl (dk_op ⟨_, _, rfl, rfl, rfl⟩ rfl (dk_op ⟨_, _, rfl, rfl, rfl⟩ rfl (dk_op ⟨_, _, rfl, rfl, rfl⟩ rfl (dq_op tab rfl rfl rfl rfl (vd_nil (by kernel_rfl) ?_))))))))))
    refine qth (vc_false rfl (vw_skip (qth (wrg (vQ4 tab rfl rfl rfl rfl (vq_op tab rfl rfl rfl (ev_index rfl rfl rfl rfl rfl (by omega) (by omega)) ?_))))))
    refine vq_op tab rfl rfl rfl (ev_loadrow userR rfl rfl rfl rfl rfl rfl hx) (vN tab rfl (vo_op rfl rfl rfl (opr_ev tab (ev_app userR (ys := [b]) (m := 1) rfl rfl rfl rfl rfl rfl rfl rfl rfl (by show (_ + 1) * 72 ≤ _; omega) (by omega))) ?_))
    refine vQ tab rfl (vnl (q_norm (qth (wrg (vQ3 tab rfl rfl rfl (vnl (qth ?_)))))))
    exact ⟨(s.users.length - (j + 1)).toNat, _, by omega, (sub_of (g := 4) [4, 5, 6, 7, 10] (by decide) (by decide) (by repeat' first | exact ep_nil | exact ri hi.symm | exact ov_st (rel_slice rfl rfl) (rel_slice rfl rfl) (rel_slice rfl rfl) (rel_slice rfl rfl) | exact ov_evt rfl | exact ov_st .nilSlice .nilSlice .nilSlice .nilSlice | exact ov_userc | exact ov_opn userR (by rw [hjn]; exact hE.symm) | exact rel_slice rfl (by rw [hjn, ← hE]; simp) | exact (by rw [hjn, hd, hd2]; exact .bool _) | refine ep_cons rfl ?_ ?_ | exact .int _ _ | exact .bool _ | exact .string _ | exact rel_slice rfl rfl | exact rel_nil rfl rfl | exact rel_ptr rfl | exact .nilPtr | exact .nilIface | exact .nilSlice) (by repeat' first | exact hp_nil | exact ri hi.symm | exact ov_st (rel_slice rfl rfl) (rel_slice rfl rfl) (rel_slice rfl rfl) (rel_slice rfl rfl) | exact ov_evt rfl | exact ov_st .nilSlice .nilSlice .nilSlice .nilSlice | exact ov_userc | exact ov_opn userR (by rw [hjn]; exact hE.symm) | exact rel_slice rfl (by rw [hjn, ← hE]; simp) | exact (by rw [hjn, hd, hd2]; exact .bool _) | refine hp_cons rfl rfl ?_ ?_ | refine hp_void rfl rfl ?_ | exact ov_win _ | exact ov_opn _ rfl | exact ov_cells _ _ (by decide))), j + 1, by omega, by omega, rfl, rfl⟩
  · have hd : decide (k < j.toNat) = false := decide_eq_false (by omega)
    have hx2 : s.users[k]? = some b := by rw [heq]; exact hx
    have hE := addP_at (u := w) hx2
    have hgt : decide (ev.user < b.user) = true := decide_eq_true (gt_there (us := s.users) (by rw [← hkk]; exact hx2))
    have hd2 : decide (k < j.toNat + 1) = true := decide_eq_true (by omega)
    rw [heq] at hE
    refine wsq (wsq (wrg (vQ4 tab rfl rfl rfl rfl (vQ tab rfl (vnl (qth (vcd_true rfl (by simp only [hd, hgt, sl_]; first | done | omega) ?_)))))))
    refine vw_skip (qth (wsq (wbk (wsq (wsq (vw_draw mixed (dq_op tab rfl rfl rfl rfl (dq_op tab rfl rfl rfl rfl (dq_op tab rfl rfl rfl rfl (dgd_op true rfl rfl rfl (by simp only [hd, hgt, sl_]; first | done | omega) ?_))))))))))
    refine dq_op tab ⟨_, _, rfl, rfl, rfl⟩ rfl rfl rfl (dq_op tab ⟨_, _, rfl, rfl, rfl⟩ rfl rfl rfl (dq_op tab ⟨_, _, rfl, rfl, rfl⟩ rfl rfl rfl (dq_op tab ⟨_, _, rfl, rfl, rfl⟩ rfl (ev_index rfl rfl rfl rfl rfl (by omega) (by omega)) (ev_index rfl rfl rfl rfl rfl (by omega) (by omega)) ?_)))
    refine dq_op tab ⟨_, _, rfl, rfl, rfl⟩ rfl rfl rfl (dq_op tab ⟨_, _, rfl, rfl, rfl⟩ rfl (ev_loadcell userR rfl rfl rfl rfl rfl hx rfl) (ev_loadcell userR rfl rfl rfl rfl rfl hx rfl) (dq_op tab ⟨_, _, rfl, rfl, rfl⟩ rfl rfl rfl (dq_op tab ⟨_, _, rfl, rfl, rfl⟩ rfl rfl rfl (dq_op tab ⟨_, _, rfl, rfl, rfl⟩ rfl rfl rfl (dq_op tab rfl rfl rfl rfl (vd_nil (by kernel_rfl) ?_))))))
    refine qth (vcd_true rfl (by simp only [hd, hgt, sl_]; first | done | omega) ?_)
    refine wsq (wrg (vQ2 tab rfl rfl (vN tab rfl (vo_op rfl rfl rfl (opr_ev tab (ev_app userR (ys := [w]) (m := 1) rfl rfl rfl rfl rfl rfl rfl rfl rfl (by show (_ + 1) * 72 ≤ _; omega) (by omega))) ?_))))
    refine vQ tab rfl (vnl (qth (wrg (vQ tab rfl (vnl (qth (wrg (vQ4 tab rfl rfl rfl rfl (vq_op tab rfl rfl rfl (ev_index rfl rfl rfl rfl rfl (by omega) (by omega)) ?_)))))))))
    refine vq_op tab rfl rfl rfl (ev_loadrow userR rfl rfl rfl rfl rfl rfl hx) (vN tab rfl (vo_op rfl rfl rfl (opr_ev tab (ev_app userR (xs := addP s.users w k j.toNat ++ [w]) (ys := [b]) (m := 1) rfl rfl rfl rfl rfl rfl rfl rfl (by simp) (by show (_ + 1 + 1) * 72 ≤ _; omega) (by omega))) ?_))
    refine vQ tab rfl (vnl (q_norm (qth (wrg (vQ3 tab rfl rfl rfl (vnl (qth ?_)))))))
    exact ⟨(s.users.length - (j + 1)).toNat, _, by omega, (sub_of (g := 4) [4, 5, 6, 7, 12] (by decide) (by decide) (by repeat' first | exact ep_nil | exact ri hi.symm | exact ov_st (rel_slice rfl rfl) (rel_slice rfl rfl) (rel_slice rfl rfl) (rel_slice rfl rfl) | exact ov_evt rfl | exact ov_st .nilSlice .nilSlice .nilSlice .nilSlice | exact ov_userc | exact ov_opn userR (by rw [hjn, heq]; exact hE.symm) | exact rel_slice rfl (by rw [hjn, heq, ← hE]; simp) | exact (by rw [hjn, hd2]; exact .bool _) | refine ep_cons rfl ?_ ?_ | exact .int _ _ | exact .bool _ | exact .string _ | exact rel_slice rfl rfl | exact rel_nil rfl rfl | exact rel_ptr rfl | exact .nilPtr | exact .nilIface | exact .nilSlice) (by repeat' first | exact hp_nil | exact ri hi.symm | exact ov_st (rel_slice rfl rfl) (rel_slice rfl rfl) (rel_slice rfl rfl) (rel_slice rfl rfl) | exact ov_evt rfl | exact ov_st .nilSlice .nilSlice .nilSlice .nilSlice | exact ov_userc | exact ov_opn userR (by rw [hjn, heq]; exact hE.symm) | exact rel_slice rfl (by rw [hjn, heq, ← hE]; simp) | exact (by rw [hjn, hd2]; exact .bool _) | refine hp_cons rfl rfl ?_ ?_ | refine hp_void rfl rfl ?_ | exact ov_win _ | exact ov_opn _ rfl | exact ov_cells _ _ (by decide))), j + 1, by omega, by omega, rfl, rfl⟩
  · have hd : decide (k < j.toNat) = false := decide_eq_false (by omega)
    have hE := addP_lo1 (u := w) hgt hx
    have hng : decide (ev.user < b.user) = false := decide_eq_false (gt_ahead (us := s.users) (j := j.toNat) (by rw [← hkk]; exact hgt) hx)
    have hd2 : decide (k < j.toNat + 1) = false := decide_eq_false (by omega)
    refine wsq (wsq (wrg (vQ4 tab rfl rfl rfl rfl (vQ tab rfl (vnl (qth (vcd_true rfl (by simp only [hd, hng, sl_]; first | done | omega) ?_)))))))
    refine vw_skip (qth (wsq (wbk (wsq (wsq (vw_draw mixed (dq_op tab rfl rfl rfl rfl (dq_op tab rfl rfl rfl rfl (dq_op tab rfl rfl rfl rfl (dgd_op true rfl rfl rfl (by simp only [hd, hng, sl_]; first | done | omega) ?_))))))))))
    refine dq_op tab ⟨_, _, rfl, rfl, rfl⟩ rfl rfl rfl (dq_op tab ⟨_, _, rfl, rfl, rfl⟩ rfl rfl rfl (dq_op tab ⟨_, _, rfl, rfl, rfl⟩ rfl rfl rfl (dq_op tab ⟨_, _, rfl, rfl, rfl⟩ rfl (ev_index rfl rfl rfl rfl rfl (by omega) (by omega)) (ev_index rfl rfl rfl rfl rfl (by omega) (by omega)) ?_)))
    refine dq_op tab ⟨_, _, rfl, rfl, rfl⟩ rfl rfl rfl (dq_op tab ⟨_, _, rfl, rfl, rfl⟩ rfl (ev_loadcell userR rfl rfl rfl rfl rfl hx rfl) (ev_loadcell userR rfl rfl rfl rfl rfl hx rfl) (dq_op tab ⟨_, _, rfl, rfl, rfl⟩ rfl rfl rfl (dq_op tab ⟨_, _, rfl, rfl, rfl⟩ rfl rfl rfl (dq_op tab ⟨_, _, rfl, rfl, rfl⟩ rfl rfl rfl (dq_op tab rfl rfl rfl rfl (vd_nil (by kernel_rfl) ?_))))))
    refine qth (vcd_false rfl (by simp only [hd, hng, sl_]; first | done | omega) ?_)
    refine vw_skip (qth (wrg (vQ4 tab rfl rfl rfl rfl (vq_op tab rfl rfl rfl (ev_index rfl rfl rfl rfl rfl (by omega) (by omega)) ?_))))
    refine vq_op tab rfl rfl rfl (ev_loadrow userR rfl rfl rfl rfl rfl rfl hx) (vN tab rfl (vo_op rfl rfl rfl (opr_ev tab (ev_app userR (ys := [b]) (m := 1) rfl rfl rfl rfl rfl rfl rfl rfl rfl (by show (_ + 1) * 72 ≤ _; omega) (by omega))) ?_))
    refine vQ tab rfl (vnl (q_norm (qth (wrg (vQ3 tab rfl rfl rfl (vnl (qth ?_)))))))
    exact ⟨(s.users.length - (j + 1)).toNat, _, by omega, (sub_of (g := 4) [4, 5, 6, 7, 10] (by decide) (by decide) (by repeat' first | exact ep_nil | exact ri hi.symm | exact ov_st (rel_slice rfl rfl) (rel_slice rfl rfl) (rel_slice rfl rfl) (rel_slice rfl rfl) | exact ov_evt rfl | exact ov_st .nilSlice .nilSlice .nilSlice .nilSlice | exact ov_userc | exact ov_opn userR (by rw [hjn]; exact hE.symm) | exact rel_slice rfl (by rw [hjn, ← hE]; simp) | exact (by rw [hjn, hd, hd2]; exact .bool _) | refine ep_cons rfl ?_ ?_ | exact .int _ _ | exact .bool _ | exact .string _ | exact rel_slice rfl rfl | exact rel_nil rfl rfl | exact rel_ptr rfl | exact .nilPtr | exact .nilIface | exact .nilSlice) (by repeat' first | exact hp_nil | exact ri hi.symm | exact ov_st (rel_slice rfl rfl) (rel_slice rfl rfl) (rel_slice rfl rfl) (rel_slice rfl rfl) | exact ov_evt rfl | exact ov_st .nilSlice .nilSlice .nilSlice .nilSlice | exact ov_userc | exact ov_opn userR (by rw [hjn]; exact hE.symm) | exact rel_slice rfl (by rw [hjn, ← hE]; simp) | exact (by rw [hjn, hd, hd2]; exact .bool _) | refine hp_cons rfl rfl ?_ ?_ | refine hp_void rfl rfl ?_ | exact ov_win _ | exact ov_opn _ rfl | exact ov_cells _ _ (by decide))), j + 1, by omega, by omega, rfl, rfl⟩
end
end Go.Proofs.YtcjfidfealifhaaGreat
namespace Go.Proofs.YtcjfidfealifhaaGreat
open Go Vm IntWalk
set_option linter.unusedVariables false
set_option linter.unusedSimpArgs false
set_option maxHeartbeats 16000000
section
variable {V : Heap} {n u x a p : Nat} {cf : ConfV} {ev : EventV} {s : StV}
theorem reflease_ok {s' : StV} (h : OwnS V u x a p s) (hi : ∀ i ∈ [u, x, a, p], i < n) (hb1 : s.users.length * 72 ≤ 140737488355000) (hb2 : s.sess.length * 32 ≤ 140737488355000) (hb3 : s.addrs.length * 24 ≤ 140737488355328) (hE : leaseE cf s ev = some s') :
    Tri Tryz.prog 60 [confV cf, stV u x a p s, evtV ev] n 4 V (fun r L => r = .tuple #[stV n (n + 1) (n + 2) (n + 3) s', .bool true] ∧ L = stM u x a p n s') := by
  obtain ⟨hu, hx, ha, hp, hn⟩ := h
  simp only [List.nodup_cons, List.mem_cons, List.not_mem_nil, or_false, not_or, List.nodup_nil, and_true, not_false_eq_true] at hn
  obtain ⟨⟨d1, d2, d3⟩, ⟨e1, e2⟩, f1⟩ := hn
  simp only [List.mem_cons, List.not_mem_nil, or_false, forall_eq_or_imp, forall_eq] at hi
  obtain ⟨l1, l2, l3, l4⟩ := hi
  refine call_of_vw (K := 4) (argsI := [confV cf, .agg #[.int .i64 s.boots, .int .i64 s.epoch, .int .i64 s.next, .slice (some ⟨0, 0, none⟩) s.users.length 0, .slice (some ⟨1, 0, none⟩) s.sess.length 0, .slice (some ⟨2, 0, none⟩) s.addrs.length 0, .slice (some ⟨3, 0, none⟩) s.spent.length 0], evtV ev]) tab Tryz.func60 rfl rfl (by simp [Tryz.f60]) [.own u, .own x, .own a, .own p] [.opn (userR.cells s.users) 76 9, .opn (sessR.cells s.sess) 78 4, .opn (addrR.cells s.addrs) 80 3, .opn ((intR .i64).cells s.spent) 3 1] rfl (.own hu (ov_opn userR rfl) (.own hx (ov_opn sessR rfl) (.own ha (ov_opn addrR rfl) (.own hp (ov_opn (intR .i64) rfl) .nil)))) (by simp [ownNames, *]) (by simp [ownNames, lookNames, *]) (by simp [ownNames, *]) (al_cons (.val (confRel cf)) (al_cons (ar_agg (al_cons (.val (.int _ _)) (al_cons (.val (.int _ _)) (al_cons (.val (.int _ _)) (al_cons (.val (rel_slice rfl rfl)) (al_cons (.val (rel_slice rfl rfl)) (al_cons (.val (rel_slice rfl rfl)) (al_cons (.val (rel_slice rfl rfl)) al_nil)))))))) (al_cons (.val (evtRel ev)) al_nil))) (seen_of (sn_own (sn_own (sn_own (sn_own sn_nil))))) ?_
  unfold leaseE at hE
  split at hE
  case isFalse => cases hE
  rename_i hq
  cases hE
  obtain ⟨q1, q2, q3, q4⟩ := hq
  obtain ⟨j, hj⟩ := Option.isSome_iff_exists.1 q3
  have hfi := (user_found hj).2
  have hd1 : (ev.session != s.next) = false := by simpa using q2
  obtain ⟨a2, ha2⟩ : ∃ a2, takeA s.addrs ev.address ev.user = (a2, 0) := ⟨_, takeA_ok q1⟩
  rw [ha2]
  refine wsq (wrg (vN tab rfl (vN tab rfl (vN tab rfl (vN tab rfl (vQ tab rfl (vnl (qth (wsq (wsq (wrg (vQ4 tab rfl rfl rfl rfl (vQ2 tab rfl rfl (vgd_op false rfl rfl rfl (by simp only [hd1, sl_]; first | done | omega) ?_))))))))))))))
  refine vQ3 tab rfl rfl rfl (vR rfl callable_64 (refuser_as (s := s) _ hfi (looks_opn userR rfl rfl) (looks_opn sessR rfl rfl) (looks_opn addrR rfl rfl) (looks_opn (intR .i64) rfl rfl) (by omega)) ?_)
  refine vQ4 tab rfl rfl rfl rfl (vQ4 tab rfl rfl rfl rfl (vQ2 tab rfl rfl (vnl (qth (vcd_false rfl (by simp only [hd1, sl_]; first | done | omega) ?_)))))
  refine vw_skip (qth (wsq (wrg (vQ4 tab rfl rfl rfl rfl (vQ2 tab rfl rfl (vT rfl callable_80 (reftake_as _ ha2 (looks_opn addrR rfl rfl) (by omega)) ?_))))))
  refine vQ4 tab rfl rfl rfl rfl (vQ tab rfl (vnl (qth (wsq (wsq (wrg (vQ2 tab rfl rfl (vnl (qth (vc_false rfl (vw_skip (qth (wsq (wrg (vQ2 tab rfl rfl (vS tab rfl (vnl (qth ?_))))))))))))))))))
  refine wsq (wrg (vQ4 tab rfl rfl rfl rfl (vS tab rfl (vnl (qth (wsq (wrg (vQ4 tab rfl rfl rfl rfl (vQ4 tab rfl rfl rfl rfl (vQ3 tab rfl rfl rfl (vN tab rfl (vo_op rfl rfl rfl (opr_ev tab (ev_app sessR (ys := [⟨ev.session, ev.user, ev.address, ev.tick⟩]) (m := 1) rfl rfl rfl rfl rfl rfl rfl rfl rfl (by show (_ + 1) * 32 ≤ _; omega) (by omega))) ?_))))))))))))
  refine vQ tab rfl (vS tab rfl (vnl (qth (wsq (wrg (vQ tab rfl (vS tab rfl (vQ tab rfl (vnl (qth (vw_ret ?_)))))))))))
  exact out_mk [0, 10, 8, 3] (.inr rfl) ⟨rfl, rfl⟩ rfl
    (vrel_tuple (lrel_cons (vrel_agg (lrel_cons (ri rfl) (lrel_cons (ri rfl) (lrel_cons (ri rfl) (lrel_cons (rel_slice (sigma_at (i := 0) (by simp [ownNames, *]) rfl) rfl) (lrel_cons (rel_slice (sigma_at (i := 1) (by simp [ownNames, *]) rfl) (by simp)) (lrel_cons (rel_slice (sigma_at (i := 2) (by simp [ownNames, *]) rfl) rfl) (lrel_cons (rel_slice (sigma_at (i := 3) (by simp [ownNames, *]) rfl) rfl) lrel_nil)))))))) (lrel_cons (.bool _) lrel_nil)))
      (op_drop (op_drop (op_drop (op_drop (op_cons (sigma_at (i := 0) (by simp [ownNames, *]) rfl) rfl rfl (ov_opn userR rfl) rfl (op_cons (sigma_at (i := 1) (by simp [ownNames, *]) rfl) rfl rfl (ov_opn sessR rfl) rfl (op_cons (sigma_at (i := 2) (by simp [ownNames, *]) rfl) rfl rfl (ov_opn addrR rfl) rfl (op_cons (sigma_at (i := 3) (by simp [ownNames, *]) rfl) rfl rfl (ov_opn (intR .i64) rfl) rfl op_nil))))))))
      (told_of (by simp [ownNames, stM]))
theorem reflease_no (h : OwnS V u x a p s) (hi : ∀ i ∈ [u, x, a, p], i < n) (hb1 : s.users.length * 72 ≤ 140737488355000) (hb2 : s.sess.length * 32 ≤ 140737488355000) (hb3 : s.addrs.length * 24 ≤ 140737488355328) (hE : leaseE cf s ev = none) :
    Tri Tryz.prog 60 [confV cf, stV u x a p s, evtV ev] n 4 V (fun r L => r = .tuple #[stV n (n + 1) (n + 2) (n + 3) s, .bool false] ∧ L = stM u x a p n s) := by
  obtain ⟨hu, hx, ha, hp, hn⟩ := h
  simp only [List.nodup_cons, List.mem_cons, List.not_mem_nil, or_false, not_or, List.nodup_nil, and_true, not_false_eq_true] at hn
  obtain ⟨⟨d1, d2, d3⟩, ⟨e1, e2⟩, f1⟩ := hn
  simp only [List.mem_cons, List.not_mem_nil, or_false, forall_eq_or_imp, forall_eq] at hi
  obtain ⟨l1, l2, l3, l4⟩ := hi
  refine call_of_vw (K := 4) (argsI := [confV cf, .agg #[.int .i64 s.boots, .int .i64 s.epoch, .int .i64 s.next, .slice (some ⟨0, 0, none⟩) s.users.length 0, .slice (some ⟨1, 0, none⟩) s.sess.length 0, .slice (some ⟨2, 0, none⟩) s.addrs.length 0, .slice (some ⟨3, 0, none⟩) s.spent.length 0], evtV ev]) tab Tryz.func60 rfl rfl (by simp [Tryz.f60]) [.own u, .own x, .own a, .own p] [.opn (userR.cells s.users) 76 9, .opn (sessR.cells s.sess) 78 4, .opn (addrR.cells s.addrs) 80 3, .opn ((intR .i64).cells s.spent) 3 1] rfl (.own hu (ov_opn userR rfl) (.own hx (ov_opn sessR rfl) (.own ha (ov_opn addrR rfl) (.own hp (ov_opn (intR .i64) rfl) .nil)))) (by simp [ownNames, *]) (by simp [ownNames, lookNames, *]) (by simp [ownNames, *]) (al_cons (.val (confRel cf)) (al_cons (ar_agg (al_cons (.val (.int _ _)) (al_cons (.val (.int _ _)) (al_cons (.val (.int _ _)) (al_cons (.val (rel_slice rfl rfl)) (al_cons (.val (rel_slice rfl rfl)) (al_cons (.val (rel_slice rfl rfl)) (al_cons (.val (rel_slice rfl rfl)) al_nil)))))))) (al_cons (.val (evtRel ev)) al_nil))) (seen_of (sn_own (sn_own (sn_own (sn_own sn_nil))))) ?_
  by_cases q2 : ev.session = s.next
  case neg =>
    have hd1 : (ev.session != s.next) = true := by simpa using q2
    refine wsq (wrg (vN tab rfl (vN tab rfl (vN tab rfl (vN tab rfl (vQ tab rfl (vnl (qth (wsq (wsq (wrg (vQ4 tab rfl rfl rfl rfl (vQ2 tab rfl rfl (vgd_op true rfl rfl rfl (by simp only [hd1, sl_]; first | done | omega) ?_))))))))))))))
    refine vK4 rfl rfl rfl rfl (vK rfl (vQ2 tab rfl rfl (vK4 rfl rfl rfl rfl (vK2 rfl rfl (vQ tab rfl (vnl (qth (vc_true rfl (wsq (wrg (vQ tab rfl (vS tab rfl (vQ tab rfl (vnl (qth ?_)))))))))))))))
    refine vw_ret (q_thenr ?_)
    exact out_mk [0, 1, 2, 3] (.inr rfl) ⟨rfl, rfl⟩ rfl
      (vrel_tuple (lrel_cons (vrel_agg (lrel_cons (ri rfl) (lrel_cons (ri rfl) (lrel_cons (ri rfl) (lrel_cons (rel_slice (sigma_at (i := 0) (by simp [ownNames, *]) rfl) rfl) (lrel_cons (rel_slice (sigma_at (i := 1) (by simp [ownNames, *]) rfl) rfl) (lrel_cons (rel_slice (sigma_at (i := 2) (by simp [ownNames, *]) rfl) rfl) (lrel_cons (rel_slice (sigma_at (i := 3) (by simp [ownNames, *]) rfl) rfl) lrel_nil)))))))) (lrel_cons (.bool _) lrel_nil)))
        (op_drop (op_drop (op_drop (op_drop (op_cons (sigma_at (i := 0) (by simp [ownNames, *]) rfl) rfl rfl (ov_opn userR rfl) rfl (op_cons (sigma_at (i := 1) (by simp [ownNames, *]) rfl) rfl rfl (ov_opn sessR rfl) rfl (op_cons (sigma_at (i := 2) (by simp [ownNames, *]) rfl) rfl rfl (ov_opn addrR rfl) rfl (op_cons (sigma_at (i := 3) (by simp [ownNames, *]) rfl) rfl rfl (ov_opn (intR .i64) rfl) rfl op_nil))))))))
        (told_of (by simp [ownNames, stM]))
  have hd1 : (ev.session != s.next) = false := by simpa using q2
  cases hj : userAt s.users ev.user with
  | none =>
    have hfi := user_absent hj
    refine wsq (wrg (vN tab rfl (vN tab rfl (vN tab rfl (vN tab rfl (vQ tab rfl (vnl (qth (wsq (wsq (wrg (vQ4 tab rfl rfl rfl rfl (vQ2 tab rfl rfl (vgd_op false rfl rfl rfl (by simp only [hd1, sl_]; first | done | omega) ?_))))))))))))))
    refine vQ3 tab rfl rfl rfl (vR rfl callable_64 (refuser_as (s := s) _ hfi (looks_opn userR rfl rfl) (looks_opn sessR rfl rfl) (looks_opn addrR rfl rfl) (looks_opn (intR .i64) rfl rfl) (by omega)) ?_)
    refine vQ3 tab rfl rfl rfl (vK4 rfl rfl rfl rfl (vK2 rfl rfl (vQ tab rfl (vnl (qth (vc_true rfl (wsq (wrg (vQ tab rfl (vS tab rfl (vQ tab rfl (vnl (qth (vw_ret (q_thenr ?_)))))))))))))))
    exact out_mk [0, 1, 2, 3] (.inr rfl) ⟨rfl, rfl⟩ rfl
      (vrel_tuple (lrel_cons (vrel_agg (lrel_cons (ri rfl) (lrel_cons (ri rfl) (lrel_cons (ri rfl) (lrel_cons (rel_slice (sigma_at (i := 0) (by simp [ownNames, *]) rfl) rfl) (lrel_cons (rel_slice (sigma_at (i := 1) (by simp [ownNames, *]) rfl) rfl) (lrel_cons (rel_slice (sigma_at (i := 2) (by simp [ownNames, *]) rfl) rfl) (lrel_cons (rel_slice (sigma_at (i := 3) (by simp [ownNames, *]) rfl) rfl) lrel_nil)))))))) (lrel_cons (.bool _) lrel_nil)))
        (op_drop (op_drop (op_drop (op_drop (op_cons (sigma_at (i := 0) (by simp [ownNames, *]) rfl) rfl rfl (ov_opn userR rfl) rfl (op_cons (sigma_at (i := 1) (by simp [ownNames, *]) rfl) rfl rfl (ov_opn sessR rfl) rfl (op_cons (sigma_at (i := 2) (by simp [ownNames, *]) rfl) rfl rfl (ov_opn addrR rfl) rfl (op_cons (sigma_at (i := 3) (by simp [ownNames, *]) rfl) rfl rfl (ov_opn (intR .i64) rfl) rfl op_nil))))))))
        (told_of (by simp [ownNames, stM]))
  | some j =>
    have hfi := (user_found hj).2
    by_cases q4 : (s.sess.length : Int) < cf.sessions
    case neg =>
      refine wsq (wrg (vN tab rfl (vN tab rfl (vN tab rfl (vN tab rfl (vQ tab rfl (vnl (qth (wsq (wsq (wrg (vQ4 tab rfl rfl rfl rfl (vQ2 tab rfl rfl (vgd_op false rfl rfl rfl (by simp only [hd1, sl_]; first | done | omega) ?_))))))))))))))
      refine vQ3 tab rfl rfl rfl (vR rfl callable_64 (refuser_as (s := s) _ hfi (looks_opn userR rfl rfl) (looks_opn sessR rfl rfl) (looks_opn addrR rfl rfl) (looks_opn (intR .i64) rfl rfl) (by omega)) ?_)
      refine vQ4 tab rfl rfl rfl rfl (vQ4 tab rfl rfl rfl rfl (vQ2 tab rfl rfl (vnl (qth (vcd_true rfl (by simp only [hd1, sl_]; first | done | omega) ?_)))))
      refine wsq (wrg (vQ tab rfl (vS tab rfl (vQ tab rfl (vnl (qth (vw_ret (q_thenr ?_))))))))
      exact out_mk [0, 1, 2, 3] (.inr rfl) ⟨rfl, rfl⟩ rfl
        (vrel_tuple (lrel_cons (vrel_agg (lrel_cons (ri rfl) (lrel_cons (ri rfl) (lrel_cons (ri rfl) (lrel_cons (rel_slice (sigma_at (i := 0) (by simp [ownNames, *]) rfl) rfl) (lrel_cons (rel_slice (sigma_at (i := 1) (by simp [ownNames, *]) rfl) rfl) (lrel_cons (rel_slice (sigma_at (i := 2) (by simp [ownNames, *]) rfl) rfl) (lrel_cons (rel_slice (sigma_at (i := 3) (by simp [ownNames, *]) rfl) rfl) lrel_nil)))))))) (lrel_cons (.bool _) lrel_nil)))
          (op_drop (op_drop (op_drop (op_drop (op_cons (sigma_at (i := 0) (by simp [ownNames, *]) rfl) rfl rfl (ov_opn userR rfl) rfl (op_cons (sigma_at (i := 1) (by simp [ownNames, *]) rfl) rfl rfl (ov_opn sessR rfl) rfl (op_cons (sigma_at (i := 2) (by simp [ownNames, *]) rfl) rfl rfl (ov_opn addrR rfl) rfl (op_cons (sigma_at (i := 3) (by simp [ownNames, *]) rfl) rfl rfl (ov_opn (intR .i64) rfl) rfl op_nil))))))))
          (told_of (by simp [ownNames, stM]))
    have q1 : takeC s.addrs ev.address ev.user = false := by
      cases hq : takeC s.addrs ev.address ev.user with
      | false => rfl
      | true => unfold leaseE at hE; rw [if_pos ⟨hq, q2, by rw [hj]; rfl, q4⟩] at hE; cases hE
    have ha2 := takeA_bad q1
    refine wsq (wrg (vN tab rfl (vN tab rfl (vN tab rfl (vN tab rfl (vQ tab rfl (vnl (qth (wsq (wsq (wrg (vQ4 tab rfl rfl rfl rfl (vQ2 tab rfl rfl (vgd_op false rfl rfl rfl (by simp only [hd1, sl_]; first | done | omega) ?_))))))))))))))
    refine vQ3 tab rfl rfl rfl (vR rfl callable_64 (refuser_as (s := s) _ hfi (looks_opn userR rfl rfl) (looks_opn sessR rfl rfl) (looks_opn addrR rfl rfl) (looks_opn (intR .i64) rfl rfl) (by omega)) ?_)
    refine vQ4 tab rfl rfl rfl rfl (vQ4 tab rfl rfl rfl rfl (vQ2 tab rfl rfl (vnl (qth (vcd_false rfl (by simp only [hd1, sl_]; first | done | omega) ?_)))))
    refine vw_skip (qth (wsq (wrg (vQ4 tab rfl rfl rfl rfl (vQ2 tab rfl rfl (vT rfl callable_80 (reftake_as _ ha2 (looks_opn addrR rfl rfl) (by omega)) ?_))))))
    refine vQ4 tab rfl rfl rfl rfl (vQ tab rfl (vnl (qth (wsq (wsq (wrg (vQ2 tab rfl rfl (vnl (qth (vc_true rfl (wsq (wrg (vQ tab rfl (vS tab rfl (vQ tab rfl (vnl (qth (vw_ret (q_thenr ?_)))))))))))))))))))
    exact out_mk [0, 1, 2, 3] (.inr rfl) ⟨rfl, rfl⟩ rfl
      (vrel_tuple (lrel_cons (vrel_agg (lrel_cons (ri rfl) (lrel_cons (ri rfl) (lrel_cons (ri rfl) (lrel_cons (rel_slice (sigma_at (i := 0) (by simp [ownNames, *]) rfl) rfl) (lrel_cons (rel_slice (sigma_at (i := 1) (by simp [ownNames, *]) rfl) rfl) (lrel_cons (rel_slice (sigma_at (i := 2) (by simp [ownNames, *]) rfl) rfl) (lrel_cons (rel_slice (sigma_at (i := 3) (by simp [ownNames, *]) rfl) rfl) lrel_nil)))))))) (lrel_cons (.bool _) lrel_nil)))
        (op_drop (op_drop (op_drop (op_drop (op_cons (sigma_at (i := 0) (by simp [ownNames, *]) rfl) rfl rfl (ov_opn userR rfl) rfl (op_cons (sigma_at (i := 1) (by simp [ownNames, *]) rfl) rfl rfl (ov_opn sessR rfl) rfl (op_cons (sigma_at (i := 2) (by simp [ownNames, *]) rfl) rfl rfl (ov_opn addrR rfl) rfl (op_cons (sigma_at (i := 3) (by simp [ownNames, *]) rfl) rfl rfl (ov_opn (intR .i64) rfl) rfl op_nil))))))))
        (told_of (by simp [ownNames, stM]))
theorem refclose_no (h : OwnS V u x a p s) (hi : ∀ i ∈ [u, x, a, p], i < n) (hb1 : s.users.length * 72 ≤ 140737488355000) (hb2 : s.sess.length * 32 ≤ 140737488355000) (hb3 : s.addrs.length * 24 ≤ 140737488355328) (hE : closeE s ev = none) :
    Tri Tryz.prog 61 [stV u x a p s, evtV ev] n 4 V (fun r L => r = .tuple #[stV n (n + 1) (n + 2) (n + 3) s, .bool false] ∧ L = stM u x a p n s) := by
  obtain ⟨hu, hx, ha, hp, hn⟩ := h
  simp only [List.nodup_cons, List.mem_cons, List.not_mem_nil, or_false, not_or, List.nodup_nil, and_true, not_false_eq_true] at hn
  obtain ⟨⟨d1, d2, d3⟩, ⟨e1, e2⟩, f1⟩ := hn
  simp only [List.mem_cons, List.not_mem_nil, or_false, forall_eq_or_imp, forall_eq] at hi
  obtain ⟨l1, l2, l3, l4⟩ := hi
  refine call_of_vw (K := 4) (argsI := [.agg #[.int .i64 s.boots, .int .i64 s.epoch, .int .i64 s.next, .slice (some ⟨0, 0, none⟩) s.users.length 0, .slice (some ⟨1, 0, none⟩) s.sess.length 0, .slice (some ⟨2, 0, none⟩) s.addrs.length 0, .slice (some ⟨3, 0, none⟩) s.spent.length 0], evtV ev]) tab Tryz.func61 rfl rfl (by simp [Tryz.f61]) [.own u, .own x, .own a, .own p] [.opn (userR.cells s.users) 76 9, .opn (sessR.cells s.sess) 78 4, .opn (addrR.cells s.addrs) 80 3, .opn ((intR .i64).cells s.spent) 3 1] rfl (.own hu (ov_opn userR rfl) (.own hx (ov_opn sessR rfl) (.own ha (ov_opn addrR rfl) (.own hp (ov_opn (intR .i64) rfl) .nil)))) (by simp [ownNames, *]) (by simp [ownNames, lookNames, *]) (by simp [ownNames, *]) (al_cons (ar_agg (al_cons (.val (.int _ _)) (al_cons (.val (.int _ _)) (al_cons (.val (.int _ _)) (al_cons (.val (rel_slice rfl rfl)) (al_cons (.val (rel_slice rfl rfl)) (al_cons (.val (rel_slice rfl rfl)) (al_cons (.val (rel_slice rfl rfl)) al_nil)))))))) (al_cons (.val (evtRel ev)) al_nil)) (seen_of (sn_own (sn_own (sn_own (sn_own sn_nil))))) ?_
  cases hk : sessAt s.sess ev.session with
  | none =>
    have hfi := sess_absent hk
    refine wsq (wrg (vN tab rfl (vN tab rfl (vN tab rfl (vQ tab rfl (vnl (qth (wsq (wrg (vQ3 tab rfl rfl rfl (vR rfl callable_81 (refsess_as (s := s) _ hfi (looks_opn userR rfl rfl) (looks_opn sessR rfl rfl) (looks_opn addrR rfl rfl) (looks_opn (intR .i64) rfl rfl) (by omega)) ?_)))))))))))
    refine vQ tab rfl (vnl (qth (wsq (wsq (wrg (vQ2 tab rfl rfl (vnl (qth (vc_true rfl (wsq (wrg (vQ tab rfl (vS tab rfl (vQ tab rfl (vnl (qth (vw_ret (q_thenr ?_))))))))))))))))))
    exact out_mk [0, 1, 2, 3] (.inr rfl) ⟨rfl, rfl⟩ rfl
      (vrel_tuple (lrel_cons (vrel_agg (lrel_cons (ri rfl) (lrel_cons (ri rfl) (lrel_cons (ri rfl) (lrel_cons (rel_slice (sigma_at (i := 0) (by simp [ownNames, *]) rfl) rfl) (lrel_cons (rel_slice (sigma_at (i := 1) (by simp [ownNames, *]) rfl) rfl) (lrel_cons (rel_slice (sigma_at (i := 2) (by simp [ownNames, *]) rfl) rfl) (lrel_cons (rel_slice (sigma_at (i := 3) (by simp [ownNames, *]) rfl) rfl) lrel_nil)))))))) (lrel_cons (.bool _) lrel_nil)))
        (op_drop (op_drop (op_drop (op_drop (op_cons (sigma_at (i := 0) (by simp [ownNames, *]) rfl) rfl rfl (ov_opn userR rfl) rfl (op_cons (sigma_at (i := 1) (by simp [ownNames, *]) rfl) rfl rfl (ov_opn sessR rfl) rfl (op_cons (sigma_at (i := 2) (by simp [ownNames, *]) rfl) rfl rfl (ov_opn addrR rfl) rfl (op_cons (sigma_at (i := 3) (by simp [ownNames, *]) rfl) rfl rfl (ov_opn (intR .i64) rfl) rfl op_nil))))))))
        (told_of (by simp [ownNames, stM]))
  | some j =>
    obtain ⟨hjl, hfi⟩ := sess_found hk
    obtain ⟨y, hy⟩ : ∃ y, s.sess[j]? = some y := ⟨_, List.getElem?_eq_getElem hjl⟩
    have hy' : s.sess[((j : Nat) : Int).toNat]? = some y := hy
    have hc : freeC s.addrs y.address ev.tick = false := by
      cases hq : freeC s.addrs y.address ev.tick with
      | false => rfl
      | true => unfold closeE at hE; rw [hk] at hE; simp only [hy] at hE; rw [if_pos hq] at hE; cases hE
    have ha2 := freeA_bad hc
    refine wsq (wrg (vN tab rfl (vN tab rfl (vN tab rfl (vQ tab rfl (vnl (qth (wsq (wrg (vQ3 tab rfl rfl rfl (vR rfl callable_81 (refsess_as (s := s) _ hfi (looks_opn userR rfl rfl) (looks_opn sessR rfl rfl) (looks_opn addrR rfl rfl) (looks_opn (intR .i64) rfl rfl) (by omega)) ?_)))))))))))
    refine vQ tab rfl (vnl (qth (wsq (wsq (wrg (vQ2 tab rfl rfl (vnl (qth (vc_false rfl (vw_skip (qth (wsq (wrg (vQ3 tab rfl rfl rfl (vq_op tab rfl rfl rfl (ev_index rfl rfl rfl rfl rfl (by omega) (by omega)) ?_)))))))))))))))
    refine vq_op tab rfl rfl rfl (ev_loadrow sessR rfl rfl rfl rfl rfl rfl hy') (vN tab rfl (vS tab rfl (vnl (qth (wsq (wrg (vQ4 tab rfl rfl rfl rfl (vQ2 tab rfl rfl (vT rfl callable_79 (reffree_as _ ha2 (looks_opn addrR rfl rfl) (by omega)) ?_)))))))))
    refine vQ4 tab rfl rfl rfl rfl (vQ tab rfl (vnl (qth (wsq (wsq (wrg (vQ2 tab rfl rfl (vnl (qth (vc_true rfl (wsq (wrg (vQ tab rfl (vS tab rfl (vQ tab rfl (vnl (qth (vw_ret (q_thenr ?_)))))))))))))))))))
    exact out_mk [0, 1, 2, 3] (.inr rfl) ⟨rfl, rfl⟩ rfl
      (vrel_tuple (lrel_cons (vrel_agg (lrel_cons (ri rfl) (lrel_cons (ri rfl) (lrel_cons (ri rfl) (lrel_cons (rel_slice (sigma_at (i := 0) (by simp [ownNames, *]) rfl) rfl) (lrel_cons (rel_slice (sigma_at (i := 1) (by simp [ownNames, *]) rfl) rfl) (lrel_cons (rel_slice (sigma_at (i := 2) (by simp [ownNames, *]) rfl) rfl) (lrel_cons (rel_slice (sigma_at (i := 3) (by simp [ownNames, *]) rfl) rfl) lrel_nil)))))))) (lrel_cons (.bool _) lrel_nil)))
        (op_drop (op_drop (op_drop (op_drop (op_cons (sigma_at (i := 0) (by simp [ownNames, *]) rfl) rfl rfl (ov_opn userR rfl) rfl (op_cons (sigma_at (i := 1) (by simp [ownNames, *]) rfl) rfl rfl (ov_opn sessR rfl) rfl (op_cons (sigma_at (i := 2) (by simp [ownNames, *]) rfl) rfl rfl (ov_opn addrR rfl) rfl (op_cons (sigma_at (i := 3) (by simp [ownNames, *]) rfl) rfl rfl (ov_opn (intR .i64) rfl) rfl op_nil))))))))
        (told_of (by simp [ownNames, stM]))
end
end Go.Proofs.YtcjfidfealifhaaGreat
namespace Go.Proofs.YtcjfidfealifhaaGreat
open Go Vm IntWalk
set_option linter.unusedVariables false
set_option linter.unusedSimpArgs false
set_option maxHeartbeats 16000000
section
variable {V : Heap} {n u x a p : Nat} {cf : ConfV} {ev : EventV} {s : StV}
theorem refclose_ok {s' : StV} (h : OwnS V u x a p s) (hi : ∀ i ∈ [u, x, a, p], i < n) (hb1 : s.users.length * 72 ≤ 140737488355000) (hb2 : s.sess.length * 32 ≤ 140737488355000) (hb3 : s.addrs.length * 24 ≤ 140737488355328) (hE : closeE s ev = some s') :
    Tri Tryz.prog 61 [stV u x a p s, evtV ev] n 4 V (fun r L => r = .tuple #[stV n (n + 1) (n + 2) (n + 3) s', .bool true] ∧ L = stM u x a p n s') := by
  obtain ⟨hu, hx, ha, hp, hn⟩ := h
  simp only [List.nodup_cons, List.mem_cons, List.not_mem_nil, or_false, not_or, List.nodup_nil, and_true, not_false_eq_true] at hn
  obtain ⟨⟨d1, d2, d3⟩, ⟨e1, e2⟩, f1⟩ := hn
  simp only [List.mem_cons, List.not_mem_nil, or_false, forall_eq_or_imp, forall_eq] at hi
  obtain ⟨l1, l2, l3, l4⟩ := hi
  refine call_of_vw (K := 4) (argsI := [.agg #[.int .i64 s.boots, .int .i64 s.epoch, .int .i64 s.next, .slice (some ⟨0, 0, none⟩) s.users.length 0, .slice (some ⟨1, 0, none⟩) s.sess.length 0, .slice (some ⟨2, 0, none⟩) s.addrs.length 0, .slice (some ⟨3, 0, none⟩) s.spent.length 0], evtV ev]) tab Tryz.func61 rfl rfl (by simp [Tryz.f61]) [.own u, .own x, .own a, .own p] [.opn (userR.cells s.users) 76 9, .opn (sessR.cells s.sess) 78 4, .opn (addrR.cells s.addrs) 80 3, .opn ((intR .i64).cells s.spent) 3 1] rfl (.own hu (ov_opn userR rfl) (.own hx (ov_opn sessR rfl) (.own ha (ov_opn addrR rfl) (.own hp (ov_opn (intR .i64) rfl) .nil)))) (by simp [ownNames, *]) (by simp [ownNames, lookNames, *]) (by simp [ownNames, *]) (al_cons (ar_agg (al_cons (.val (.int _ _)) (al_cons (.val (.int _ _)) (al_cons (.val (.int _ _)) (al_cons (.val (rel_slice rfl rfl)) (al_cons (.val (rel_slice rfl rfl)) (al_cons (.val (rel_slice rfl rfl)) (al_cons (.val (rel_slice rfl rfl)) al_nil)))))))) (al_cons (.val (evtRel ev)) al_nil)) (seen_of (sn_own (sn_own (sn_own (sn_own sn_nil))))) ?_
  unfold closeE at hE
  cases hk : sessAt s.sess ev.session with
  | none => rw [hk] at hE; cases hE
  | some j =>
  rw [hk] at hE
  obtain ⟨hjl, hfi⟩ := sess_found hk
  obtain ⟨y, hy⟩ : ∃ y, s.sess[j]? = some y := ⟨_, List.getElem?_eq_getElem hjl⟩
  have hy' : s.sess[((j : Nat) : Int).toNat]? = some y := hy
  simp only [hy] at hE
  split at hE
  case isFalse => cases hE
  rename_i hc
  cases hE
  obtain ⟨a2, ha2⟩ : ∃ a2, freeA s.addrs y.address ev.tick = (a2, 0) := ⟨_, freeA_ok hc⟩
  rw [ha2]
  have hw : IntKind.i64.wrap ((j : Int) + 1) = ((j + 1 : Nat) : Int) := by rw [i64_in _ (by omega)]; omega
  have hbnd : ∀ d, bnd d (some (some (.int .i64 (IntKind.i64.wrap ((j : Int) + 1))))) = some (j + 1) := fun d => by rw [hw]; exact bnd_nat _
  have hdr : (s.sess.drop (j + 1)).take (s.sess.length - (j + 1)) = s.sess.drop (j + 1) := by rw [List.take_of_length_le]; simp
  have her0 : s.sess.eraseIdx j = [] ++ s.sess.take j ++ s.sess.drop (j + 1) := by rw [List.nil_append, List.eraseIdx_eq_take_drop_succ]
  cases hu1 : userAt s.users y.user with
  | none =>
    have hfu := user_absent hu1
    have hU : useU s.users y.user ev.a = s.users := by unfold useU; rw [hu1]
    rw [hU]
    by_cases hlt : j + 1 < s.sess.length
    · rw [her0]
      refine wsq (wrg (vN tab rfl (vN tab rfl (vN tab rfl (vQ tab rfl (vnl (qth (wsq (wrg (vQ3 tab rfl rfl rfl (vR rfl callable_81 (refsess_as (s := s) _ hfi (looks_opn userR rfl rfl) (looks_opn sessR rfl rfl) (looks_opn addrR rfl rfl) (looks_opn (intR .i64) rfl rfl) (by omega)) ?_)))))))))))
      refine vQ tab rfl (vnl (qth (wsq (wsq (wrg (vQ2 tab rfl rfl (vnl (qth (vc_false rfl (vw_skip (qth (wsq (wrg (vQ3 tab rfl rfl rfl (vq_op tab rfl rfl rfl (ev_index rfl rfl rfl rfl rfl (by omega) (by omega)) ?_)))))))))))))))
      refine vq_op tab rfl rfl rfl (ev_loadrow sessR rfl rfl rfl rfl rfl rfl hy') (vN tab rfl (vS tab rfl (vnl (qth (wsq (wrg (vQ4 tab rfl rfl rfl rfl (vQ2 tab rfl rfl (vT rfl callable_79 (reffree_as _ ha2 (looks_opn addrR rfl rfl) (by omega)) ?_)))))))))
      refine vQ4 tab rfl rfl rfl rfl (vQ tab rfl (vnl (qth (wsq (wsq (wrg (vQ2 tab rfl rfl (vnl (qth (vc_false rfl (vw_skip (qth (wsq (wrg (vQ2 tab rfl rfl (vS tab rfl (vnl (qth ?_))))))))))))))))))
      refine wsq (wrg (vQ3 tab rfl rfl rfl (vR rfl callable_64 (refuser_as (s := { s with addrs := a2 }) _ hfu (looks_opn userR rfl rfl) (looks_opn sessR rfl rfl) (looks_opn addrR rfl rfl) (looks_opn (intR .i64) rfl rfl) (by show s.users.length ≤ _; omega)) ?_)))
      refine vQ tab rfl (vnl (qth (wsq (wsq (wrg (vQ2 tab rfl rfl (vnl (qth (vc_false rfl (vw_skip (qth (wsq (wrg (vN tab rfl (vQ3 tab rfl rfl rfl (vq_op tab rfl rfl rfl (ev_slice sessR (p := 0) (xs := s.sess) (l := 0) (h := j) rfl rfl rfl rfl rfl rfl rfl (bnd_nat _) (by omega) (by omega) (.inr rfl)) ?_))))))))))))))))
      refine vo_op rfl rfl rfl (opr_ev tab (ev_app sessR (xs := []) (ys := s.sess.take j) (m := j - 0) rfl rfl rfl rfl rfl rfl (Eq.trans (news_rows sessR (p := 0 + 0) (m := j - 0) (zs := s.sess) rfl (by omega)) (by rw [Nat.add_zero, Nat.sub_zero, List.drop_zero])) rfl rfl (by show (0 + _) * 32 ≤ _; omega) (by omega))) ?_
      refine vQ tab rfl (vnl (qth (wsq (wrg (vQ4 tab rfl rfl rfl rfl (vQ tab rfl (vq_op tab rfl rfl rfl (ev_slice sessR (p := 0) (xs := s.sess) (l := j + 1) (h := s.sess.length) rfl rfl rfl rfl rfl rfl (hbnd _) rfl (by omega) (by omega) (.inl (by omega))) ?_)))))))
      refine vo_op rfl rfl rfl (opr_ev tab (ev_app sessR (ys := s.sess.drop (j + 1)) (m := s.sess.length - (j + 1)) rfl rfl rfl rfl rfl rfl (Eq.trans (news_rows sessR (p := 0 + (j + 1)) (m := s.sess.length - (j + 1)) (zs := s.sess) rfl (by omega)) (by rw [Nat.zero_add, hdr])) rfl (by simp; omega) (by show (0 + _ + _) * 32 ≤ _; omega) (by omega))) ?_
      refine vQ tab rfl (vnl (qth (wsq (wrg (vQ2 tab rfl rfl (vS tab rfl (vnl (qth (wsq (wrg (vQ tab rfl (vS tab rfl (vQ tab rfl (vnl (qth (vw_ret ?_))))))))))))))))
      exact out_mk [0, 11, 8, 3] (.inr rfl) ⟨rfl, rfl⟩ rfl
        (vrel_tuple (lrel_cons (vrel_agg (lrel_cons (ri rfl) (lrel_cons (ri rfl) (lrel_cons (ri rfl) (lrel_cons (rel_slice (sigma_at (i := 0) (by simp [ownNames, *]) rfl) rfl) (lrel_cons (rel_slice (sigma_at (i := 1) (by simp [ownNames, *]) rfl) (by simp; omega)) (lrel_cons (rel_slice (sigma_at (i := 2) (by simp [ownNames, *]) rfl) rfl) (lrel_cons (rel_slice (sigma_at (i := 3) (by simp [ownNames, *]) rfl) rfl) lrel_nil)))))))) (lrel_cons (.bool _) lrel_nil)))
          (op_drop (op_drop (op_drop (op_drop (op_cons (sigma_at (i := 0) (by simp [ownNames, *]) rfl) rfl rfl (ov_opn userR rfl) rfl (op_cons (sigma_at (i := 1) (by simp [ownNames, *]) rfl) rfl rfl (ov_opn sessR rfl) rfl (op_cons (sigma_at (i := 2) (by simp [ownNames, *]) rfl) rfl rfl (ov_opn addrR rfl) rfl (op_cons (sigma_at (i := 3) (by simp [ownNames, *]) rfl) rfl rfl (ov_opn (intR .i64) rfl) rfl op_nil))))))))
          (told_of (by simp [ownNames, stM]))
    · have hera : s.sess.eraseIdx j = [] ++ s.sess.take j ++ [] := by rw [her0, List.drop_eq_nil_of_le (show s.sess.length ≤ j + 1 by omega)]
      rw [hera]
      refine wsq (wrg (vN tab rfl (vN tab rfl (vN tab rfl (vQ tab rfl (vnl (qth (wsq (wrg (vQ3 tab rfl rfl rfl (vR rfl callable_81 (refsess_as (s := s) _ hfi (looks_opn userR rfl rfl) (looks_opn sessR rfl rfl) (looks_opn addrR rfl rfl) (looks_opn (intR .i64) rfl rfl) (by omega)) ?_)))))))))))
      refine vQ tab rfl (vnl (qth (wsq (wsq (wrg (vQ2 tab rfl rfl (vnl (qth (vc_false rfl (vw_skip (qth (wsq (wrg (vQ3 tab rfl rfl rfl (vq_op tab rfl rfl rfl (ev_index rfl rfl rfl rfl rfl (by omega) (by omega)) ?_)))))))))))))))
      refine vq_op tab rfl rfl rfl (ev_loadrow sessR rfl rfl rfl rfl rfl rfl hy') (vN tab rfl (vS tab rfl (vnl (qth (wsq (wrg (vQ4 tab rfl rfl rfl rfl (vQ2 tab rfl rfl (vT rfl callable_79 (reffree_as _ ha2 (looks_opn addrR rfl rfl) (by omega)) ?_)))))))))
      refine vQ4 tab rfl rfl rfl rfl (vQ tab rfl (vnl (qth (wsq (wsq (wrg (vQ2 tab rfl rfl (vnl (qth (vc_false rfl (vw_skip (qth (wsq (wrg (vQ2 tab rfl rfl (vS tab rfl (vnl (qth ?_))))))))))))))))))
      refine wsq (wrg (vQ3 tab rfl rfl rfl (vR rfl callable_64 (refuser_as (s := { s with addrs := a2 }) _ hfu (looks_opn userR rfl rfl) (looks_opn sessR rfl rfl) (looks_opn addrR rfl rfl) (looks_opn (intR .i64) rfl rfl) (by show s.users.length ≤ _; omega)) ?_)))
      refine vQ tab rfl (vnl (qth (wsq (wsq (wrg (vQ2 tab rfl rfl (vnl (qth (vc_false rfl (vw_skip (qth (wsq (wrg (vN tab rfl (vQ3 tab rfl rfl rfl (vq_op tab rfl rfl rfl (ev_slice sessR (p := 0) (xs := s.sess) (l := 0) (h := j) rfl rfl rfl rfl rfl rfl rfl (bnd_nat _) (by omega) (by omega) (.inr rfl)) ?_))))))))))))))))
      refine vo_op rfl rfl rfl (opr_ev tab (ev_app sessR (xs := []) (ys := s.sess.take j) (m := j - 0) rfl rfl rfl rfl rfl rfl (Eq.trans (news_rows sessR (p := 0 + 0) (m := j - 0) (zs := s.sess) rfl (by omega)) (by rw [Nat.add_zero, Nat.sub_zero, List.drop_zero])) rfl rfl (by show (0 + _) * 32 ≤ _; omega) (by omega))) ?_
      refine vQ tab rfl (vnl (qth (wsq (wrg (vQ4 tab rfl rfl rfl rfl (vQ tab rfl (vo_op rfl rfl rfl (opr_tail sessR (p := 0) (xs := s.sess) (l := j + 1) tab rfl rfl rfl rfl rfl rfl rfl (hbnd _) (by rw [show j + 1 = s.sess.length by omega]; rfl) (by omega)) ?_)))))))
      refine vo_op rfl rfl rfl (opr_ev tab (ev_app sessR (ys := []) (m := 0) rfl rfl rfl rfl rfl rfl (news_emp rfl rfl) rfl (by simp; omega) (by show (0 + _ + _) * 32 ≤ _; omega) (by omega))) ?_
      refine vQ tab rfl (vnl (qth (wsq (wrg (vQ2 tab rfl rfl (vS tab rfl (vnl (qth (wsq (wrg (vQ tab rfl (vS tab rfl (vQ tab rfl (vnl (qth (vw_ret ?_))))))))))))))))
      exact out_mk [0, 12, 8, 3] (.inr rfl) ⟨rfl, rfl⟩ rfl
        (vrel_tuple (lrel_cons (vrel_agg (lrel_cons (ri rfl) (lrel_cons (ri rfl) (lrel_cons (ri rfl) (lrel_cons (rel_slice (sigma_at (i := 0) (by simp [ownNames, *]) rfl) rfl) (lrel_cons (rel_slice (sigma_at (i := 1) (by simp [ownNames, *]) rfl) (by simp; omega)) (lrel_cons (rel_slice (sigma_at (i := 2) (by simp [ownNames, *]) rfl) rfl) (lrel_cons (rel_slice (sigma_at (i := 3) (by simp [ownNames, *]) rfl) rfl) lrel_nil)))))))) (lrel_cons (.bool _) lrel_nil)))
          (op_drop (op_drop (op_drop (op_drop (op_cons (sigma_at (i := 0) (by simp [ownNames, *]) rfl) rfl rfl (ov_opn userR rfl) rfl (op_cons (sigma_at (i := 1) (by simp [ownNames, *]) rfl) rfl rfl (ov_opn sessR rfl) rfl (op_cons (sigma_at (i := 2) (by simp [ownNames, *]) rfl) rfl rfl (ov_opn addrR rfl) rfl (op_cons (sigma_at (i := 3) (by simp [ownNames, *]) rfl) rfl rfl (ov_opn (intR .i64) rfl) rfl op_nil))))))))
          (told_of (by simp [ownNames, stM]))
  | some i =>
    obtain ⟨hil, hfu⟩ := user_found hu1
    obtain ⟨w, hw1⟩ : ∃ w, s.users[i]? = some w := ⟨_, List.getElem?_eq_getElem hil⟩
    have hw' : s.users[((i : Nat) : Int).toNat]? = some w := hw1
    have hil' : ((i : Nat) : Int).toNat < s.users.length := hil
    have hU : useU s.users y.user ev.a = s.users.set i { w with used := sumU w.used ev.a } := by unfold useU; rw [hu1]; simp only [hw1]
    rw [hU]
    by_cases hlt : j + 1 < s.sess.length
    · rw [her0]
      refine wsq (wrg (vN tab rfl (vN tab rfl (vN tab rfl (vQ tab rfl (vnl (qth (wsq (wrg (vQ3 tab rfl rfl rfl (vR rfl callable_81 (refsess_as (s := s) _ hfi (looks_opn userR rfl rfl) (looks_opn sessR rfl rfl) (looks_opn addrR rfl rfl) (looks_opn (intR .i64) rfl rfl) (by omega)) ?_)))))))))))
      refine vQ tab rfl (vnl (qth (wsq (wsq (wrg (vQ2 tab rfl rfl (vnl (qth (vc_false rfl (vw_skip (qth (wsq (wrg (vQ3 tab rfl rfl rfl (vq_op tab rfl rfl rfl (ev_index rfl rfl rfl rfl rfl (by omega) (by omega)) ?_)))))))))))))))
      refine vq_op tab rfl rfl rfl (ev_loadrow sessR rfl rfl rfl rfl rfl rfl hy') (vN tab rfl (vS tab rfl (vnl (qth (wsq (wrg (vQ4 tab rfl rfl rfl rfl (vQ2 tab rfl rfl (vT rfl callable_79 (reffree_as _ ha2 (looks_opn addrR rfl rfl) (by omega)) ?_)))))))))
      refine vQ4 tab rfl rfl rfl rfl (vQ tab rfl (vnl (qth (wsq (wsq (wrg (vQ2 tab rfl rfl (vnl (qth (vc_false rfl (vw_skip (qth (wsq (wrg (vQ2 tab rfl rfl (vS tab rfl (vnl (qth ?_))))))))))))))))))
      refine wsq (wrg (vQ3 tab rfl rfl rfl (vR rfl callable_64 (refuser_as (s := { s with addrs := a2 }) _ hfu (looks_opn userR rfl rfl) (looks_opn sessR rfl rfl) (looks_opn addrR rfl rfl) (looks_opn (intR .i64) rfl rfl) (by show s.users.length ≤ _; omega)) ?_)))
      refine vQ tab rfl (vnl (qth (wsq (wsq (wrg (vQ2 tab rfl rfl (vnl (qth (vc_true rfl (wsq (wrg (vQ3 tab rfl rfl rfl (vq_op tab rfl rfl rfl (ev_index rfl rfl rfl rfl rfl (by omega) (by omega)) ?_)))))))))))))
      refine vq_op tab rfl rfl rfl (ev_loadrow userR rfl rfl rfl rfl rfl rfl hw') (vN tab rfl (vS tab rfl (vnl (qth (wsq (wrg (vQ4 tab rfl rfl rfl rfl (vF rfl callable_82 (refsum_fun _ _) (vQ tab rfl (vS tab rfl (vnl (qth (wrg (vQ4 tab rfl rfl rfl rfl (vq_op tab rfl rfl rfl (ev_index rfl rfl rfl rfl rfl (by omega) (by omega)) ?_)))))))))))))))
      refine vs_op tab rfl rfl (ev_storerow userR rfl rfl rfl rfl rfl rfl hil' (a' := { w with used := sumU w.used ev.a })) (vnl (qth (wsq (wrg (vN tab rfl (vQ3 tab rfl rfl rfl (vq_op tab rfl rfl rfl (ev_slice sessR (p := 0) (xs := s.sess) (l := 0) (h := j) rfl rfl rfl rfl rfl rfl rfl (bnd_nat _) (by omega) (by omega) (.inr rfl)) ?_)))))))
      refine vo_op rfl rfl rfl (opr_ev tab (ev_app sessR (xs := []) (ys := s.sess.take j) (m := j - 0) rfl rfl rfl rfl rfl rfl (Eq.trans (news_rows sessR (p := 0 + 0) (m := j - 0) (zs := s.sess) rfl (by omega)) (by rw [Nat.add_zero, Nat.sub_zero, List.drop_zero])) rfl rfl (by show (0 + _) * 32 ≤ _; omega) (by omega))) ?_
      refine vQ tab rfl (vnl (qth (wsq (wrg (vQ4 tab rfl rfl rfl rfl (vQ tab rfl (vq_op tab rfl rfl rfl (ev_slice sessR (p := 0) (xs := s.sess) (l := j + 1) (h := s.sess.length) rfl rfl rfl rfl rfl rfl (hbnd _) rfl (by omega) (by omega) (.inl (by omega))) ?_)))))))
      refine vo_op rfl rfl rfl (opr_ev tab (ev_app sessR (ys := s.sess.drop (j + 1)) (m := s.sess.length - (j + 1)) rfl rfl rfl rfl rfl rfl (Eq.trans (news_rows sessR (p := 0 + (j + 1)) (m := s.sess.length - (j + 1)) (zs := s.sess) rfl (by omega)) (by rw [Nat.zero_add, hdr])) rfl (by simp; omega) (by show (0 + _ + _) * 32 ≤ _; omega) (by omega))) ?_
      refine vQ tab rfl (vnl (qth (wsq (wrg (vQ2 tab rfl rfl (vS tab rfl (vnl (qth (wsq (wrg (vQ tab rfl (vS tab rfl (vQ tab rfl (vnl (qth (vw_ret ?_))))))))))))))))
      exact out_mk [0, 12, 8, 3] (.inr rfl) ⟨rfl, rfl⟩ rfl
        (vrel_tuple (lrel_cons (vrel_agg (lrel_cons (ri rfl) (lrel_cons (ri rfl) (lrel_cons (ri rfl) (lrel_cons (rel_slice (sigma_at (i := 0) (by simp [ownNames, *]) rfl) (by simp)) (lrel_cons (rel_slice (sigma_at (i := 1) (by simp [ownNames, *]) rfl) (by simp; omega)) (lrel_cons (rel_slice (sigma_at (i := 2) (by simp [ownNames, *]) rfl) rfl) (lrel_cons (rel_slice (sigma_at (i := 3) (by simp [ownNames, *]) rfl) rfl) lrel_nil)))))))) (lrel_cons (.bool _) lrel_nil)))
          (op_drop (op_drop (op_drop (op_drop (op_cons (sigma_at (i := 0) (by simp [ownNames, *]) rfl) rfl rfl (ov_opn userR rfl) rfl (op_cons (sigma_at (i := 1) (by simp [ownNames, *]) rfl) rfl rfl (ov_opn sessR rfl) rfl (op_cons (sigma_at (i := 2) (by simp [ownNames, *]) rfl) rfl rfl (ov_opn addrR rfl) rfl (op_cons (sigma_at (i := 3) (by simp [ownNames, *]) rfl) rfl rfl (ov_opn (intR .i64) rfl) rfl op_nil))))))))
          (told_of (by simp [ownNames, stM]))
    · have hera : s.sess.eraseIdx j = [] ++ s.sess.take j ++ [] := by rw [her0, List.drop_eq_nil_of_le (show s.sess.length ≤ j + 1 by omega)]
      rw [hera]
      refine wsq (wrg (vN tab rfl (vN tab rfl (vN tab rfl (vQ tab rfl (vnl (qth (wsq (wrg (vQ3 tab rfl rfl rfl (vR rfl callable_81 (refsess_as (s := s) _ hfi (looks_opn userR rfl rfl) (looks_opn sessR rfl rfl) (looks_opn addrR rfl rfl) (looks_opn (intR .i64) rfl rfl) (by omega)) ?_)))))))))))
      refine vQ tab rfl (vnl (qth (wsq (wsq (wrg (vQ2 tab rfl rfl (vnl (qth (vc_false rfl (vw_skip (qth (wsq (wrg (vQ3 tab rfl rfl rfl (vq_op tab rfl rfl rfl (ev_index rfl rfl rfl rfl rfl (by omega) (by omega)) ?_)))))))))))))))
      refine vq_op tab rfl rfl rfl (ev_loadrow sessR rfl rfl rfl rfl rfl rfl hy') (vN tab rfl (vS tab rfl (vnl (qth (wsq (wrg (vQ4 tab rfl rfl rfl rfl (vQ2 tab rfl rfl (vT rfl callable_79 (reffree_as _ ha2 (looks_opn addrR rfl rfl) (by omega)) ?_)))))))))
      refine vQ4 tab rfl rfl rfl rfl (vQ tab rfl (vnl (qth (wsq (wsq (wrg (vQ2 tab rfl rfl (vnl (qth (vc_false rfl (vw_skip (qth (wsq (wrg (vQ2 tab rfl rfl (vS tab rfl (vnl (qth ?_))))))))))))))))))
      refine wsq (wrg (vQ3 tab rfl rfl rfl (vR rfl callable_64 (refuser_as (s := { s with addrs := a2 }) _ hfu (looks_opn userR rfl rfl) (looks_opn sessR rfl rfl) (looks_opn addrR rfl rfl) (looks_opn (intR .i64) rfl rfl) (by show s.users.length ≤ _; omega)) ?_)))
      refine vQ tab rfl (vnl (qth (wsq (wsq (wrg (vQ2 tab rfl rfl (vnl (qth (vc_true rfl (wsq (wrg (vQ3 tab rfl rfl rfl (vq_op tab rfl rfl rfl (ev_index rfl rfl rfl rfl rfl (by omega) (by omega)) ?_)))))))))))))
      refine vq_op tab rfl rfl rfl (ev_loadrow userR rfl rfl rfl rfl rfl rfl hw') (vN tab rfl (vS tab rfl (vnl (qth (wsq (wrg (vQ4 tab rfl rfl rfl rfl (vF rfl callable_82 (refsum_fun _ _) (vQ tab rfl (vS tab rfl (vnl (qth (wrg (vQ4 tab rfl rfl rfl rfl (vq_op tab rfl rfl rfl (ev_index rfl rfl rfl rfl rfl (by omega) (by omega)) ?_)))))))))))))))
      refine vs_op tab rfl rfl (ev_storerow userR rfl rfl rfl rfl rfl rfl hil' (a' := { w with used := sumU w.used ev.a })) (vnl (qth (wsq (wrg (vN tab rfl (vQ3 tab rfl rfl rfl (vq_op tab rfl rfl rfl (ev_slice sessR (p := 0) (xs := s.sess) (l := 0) (h := j) rfl rfl rfl rfl rfl rfl rfl (bnd_nat _) (by omega) (by omega) (.inr rfl)) ?_)))))))
      refine vo_op rfl rfl rfl (opr_ev tab (ev_app sessR (xs := []) (ys := s.sess.take j) (m := j - 0) rfl rfl rfl rfl rfl rfl (Eq.trans (news_rows sessR (p := 0 + 0) (m := j - 0) (zs := s.sess) rfl (by omega)) (by rw [Nat.add_zero, Nat.sub_zero, List.drop_zero])) rfl rfl (by show (0 + _) * 32 ≤ _; omega) (by omega))) ?_
      refine vQ tab rfl (vnl (qth (wsq (wrg (vQ4 tab rfl rfl rfl rfl (vQ tab rfl (vo_op rfl rfl rfl (opr_tail sessR (p := 0) (xs := s.sess) (l := j + 1) tab rfl rfl rfl rfl rfl rfl rfl (hbnd _) (by rw [show j + 1 = s.sess.length by omega]; rfl) (by omega)) ?_)))))))
      refine vo_op rfl rfl rfl (opr_ev tab (ev_app sessR (ys := []) (m := 0) rfl rfl rfl rfl rfl rfl (news_emp rfl rfl) rfl (by simp; omega) (by show (0 + _ + _) * 32 ≤ _; omega) (by omega))) ?_
      refine vQ tab rfl (vnl (qth (wsq (wrg (vQ2 tab rfl rfl (vS tab rfl (vnl (qth (wsq (wrg (vQ tab rfl (vS tab rfl (vQ tab rfl (vnl (qth (vw_ret ?_))))))))))))))))
      exact out_mk [0, 13, 8, 3] (.inr rfl) ⟨rfl, rfl⟩ rfl
        (vrel_tuple (lrel_cons (vrel_agg (lrel_cons (ri rfl) (lrel_cons (ri rfl) (lrel_cons (ri rfl) (lrel_cons (rel_slice (sigma_at (i := 0) (by simp [ownNames, *]) rfl) (by simp)) (lrel_cons (rel_slice (sigma_at (i := 1) (by simp [ownNames, *]) rfl) (by simp; omega)) (lrel_cons (rel_slice (sigma_at (i := 2) (by simp [ownNames, *]) rfl) rfl) (lrel_cons (rel_slice (sigma_at (i := 3) (by simp [ownNames, *]) rfl) rfl) lrel_nil)))))))) (lrel_cons (.bool _) lrel_nil)))
          (op_drop (op_drop (op_drop (op_drop (op_cons (sigma_at (i := 0) (by simp [ownNames, *]) rfl) rfl rfl (ov_opn userR rfl) rfl (op_cons (sigma_at (i := 1) (by simp [ownNames, *]) rfl) rfl rfl (ov_opn sessR rfl) rfl (op_cons (sigma_at (i := 2) (by simp [ownNames, *]) rfl) rfl rfl (ov_opn addrR rfl) rfl (op_cons (sigma_at (i := 3) (by simp [ownNames, *]) rfl) rfl rfl (ov_opn (intR .i64) rfl) rfl op_nil))))))))
          (told_of (by simp [ownNames, stM]))
end
end Go.Proofs.YtcjfidfealifhaaGreat
namespace Go.Proofs.YtcjfidfealifhaaGreat
open Go Vm IntWalk
set_option linter.unusedVariables false
set_option linter.unusedSimpArgs false
set_option maxHeartbeats 16000000
theorem reffail_at {f u t m o a b c : Int} (h : failR f u t m o = (a, b, c)) : Fun Tryz.prog 83 [.agg #[.int .i64 f, .int .i64 u], .int .i64 t, .int .i64 m, .int .i64 o] (.tuple #[.agg #[.int .i64 a, .int .i64 b], .int .i64 c]) := by
  have := reffail_fun f u t m o
  rw [h] at this; exact this
section
variable {V : Heap} {n u x a p : Nat} {cf : ConfV} {ev : EventV} {s : StV}
theorem refturn_ok {j : Nat} {w : UserV} {w2 : UserV} (h : OwnS V u x a p s) (hi : ∀ i ∈ [u, x, a, p], i < n) (hb1 : s.users.length * 72 ≤ 140737488355000) (hj : s.users[j]? = some w) (hq : ev.kind = 2 ∨ ev.kind = 3 ∨ ev.kind = 4 ∨ ev.kind = 7) (hE : ofU cf ev w = some w2) :
    Tri Tryz.prog 65 [confV cf, stV u x a p s, .int .i64 (j : Int), evtV ev] n 4 V (fun r L => r = .tuple #[stV n (n + 1) (n + 2) (n + 3) { s with users := s.users.set j w2 }, .bool true] ∧ L = stM u x a p n { s with users := s.users.set j w2 }) := by
  obtain ⟨hu, hx, ha, hp, hn⟩ := h
  simp only [List.nodup_cons, List.mem_cons, List.not_mem_nil, or_false, not_or, List.nodup_nil, and_true, not_false_eq_true] at hn
  obtain ⟨⟨d1, d2, d3⟩, ⟨e1, e2⟩, f1⟩ := hn
  simp only [List.mem_cons, List.not_mem_nil, or_false, forall_eq_or_imp, forall_eq] at hi
  obtain ⟨l1, l2, l3, l4⟩ := hi
  refine call_of_vw (K := 4) (argsI := [confV cf, .agg #[.int .i64 s.boots, .int .i64 s.epoch, .int .i64 s.next, .slice (some ⟨0, 0, none⟩) s.users.length 0, .slice (some ⟨1, 0, none⟩) s.sess.length 0, .slice (some ⟨2, 0, none⟩) s.addrs.length 0, .slice (some ⟨3, 0, none⟩) s.spent.length 0], .int .i64 (j : Int), evtV ev]) tab Tryz.func65 rfl rfl (by simp [Tryz.f65]) [.own u, .own x, .own a, .own p] [.opn (userR.cells s.users) 76 9, .opn (sessR.cells s.sess) 78 4, .opn (addrR.cells s.addrs) 80 3, .opn ((intR .i64).cells s.spent) 3 1] rfl (.own hu (ov_opn userR rfl) (.own hx (ov_opn sessR rfl) (.own ha (ov_opn addrR rfl) (.own hp (ov_opn (intR .i64) rfl) .nil)))) (by simp [ownNames, *]) (by simp [ownNames, lookNames, *]) (by simp [ownNames, *]) (al_cons (.val (confRel cf)) (al_cons (ar_agg (al_cons (.val (.int _ _)) (al_cons (.val (.int _ _)) (al_cons (.val (.int _ _)) (al_cons (.val (rel_slice rfl rfl)) (al_cons (.val (rel_slice rfl rfl)) (al_cons (.val (rel_slice rfl rfl)) (al_cons (.val (rel_slice rfl rfl)) al_nil)))))))) (al_cons (.val (.int _ _)) (al_cons (.val (evtRel ev)) al_nil)))) (seen_of (sn_own (sn_own (sn_own (sn_own sn_nil))))) ?_
  have hjl : ((j : Nat) : Int).toNat < s.users.length := (List.getElem?_eq_some_iff.1 hj).1
  have hj' : s.users[((j : Nat) : Int).toNat]? = some w := hj
  unfold ofU at hE
  rcases hq with hk | hk | hk | hk
  · skip
    have k2 : (ev.kind == 2) = true := by rw [hk]; rfl
    have k3 : (ev.kind == 3) = false := by rw [hk]; rfl
    have k4 : (ev.kind == 4) = false := by rw [hk]; rfl
    have k7 : (ev.kind == 7) = false := by rw [hk]; rfl
    rw [hk, if_neg (by decide), if_pos rfl] at hE
    obtain ⟨f, t, r, hf⟩ : ∃ f t r, failR w.fails w.until_ ev.tick cf.fails cf.lockout = (f, t, r) := ⟨_, _, _, rfl⟩
    rw [hf] at hE
    simp only at hE
    split at hE
    case isFalse => cases hE
    rename_i hr
    subst hr
    cases hE
    refine wsq (wrg (vN tab rfl (vN tab rfl (vN tab rfl (vN tab rfl (vQ tab rfl (vnl (qth (wsq (wrg (vQ3 tab rfl rfl rfl (vq_op tab rfl rfl rfl (ev_index rfl rfl rfl rfl rfl (by omega) (by omega)) ?_))))))))))))
    refine vq_op tab rfl rfl rfl (ev_loadrow userR rfl rfl rfl rfl rfl rfl hj') (vN tab rfl (vS tab rfl (vnl (qth (wsq (wsq (wrg (vQ2 tab rfl rfl (vnl (qth (wbk (wsq (wrg (vQ2 tab rfl rfl (vnl (qth (vcd_true rfl (by simp only [k2, k3, k4, k7, sl_]; first | done | omega) ?_)))))))))))))))))
    refine wsq (wrg (vQ4 tab rfl rfl rfl rfl (vQ4 tab rfl rfl rfl rfl (vF rfl callable_83 (reffail_at hf) (vQ3 tab rfl rfl rfl (vN tab rfl (vS tab rfl (vQ tab rfl (vnl (qth (wsq (wsq (wrg (vQ tab rfl (vQ tab rfl ?_)))))))))))))))
    refine vnl (qth (vc_false rfl (vw_skip (qth (wrg (vQ2 tab rfl rfl (vS tab rfl (vnl (q_norm (qth (wsq (wrg (vQ4 tab rfl rfl rfl rfl (vq_op tab rfl rfl rfl (ev_index rfl rfl rfl rfl rfl (by omega) (by omega)) ?_))))))))))))))
    refine vs_op tab rfl rfl (ev_storerow userR rfl rfl rfl rfl rfl rfl hjl (a' := { w with fails := f, until_ := t })) (vnl (qth (wsq (wrg (vQ tab rfl (vS tab rfl (vQ tab rfl (vnl (qth (vw_ret ?_))))))))))
    exact out_mk [0, 1, 2, 3] (.inr rfl) ⟨rfl, rfl⟩ rfl
      (vrel_tuple (lrel_cons (vrel_agg (lrel_cons (ri rfl) (lrel_cons (ri rfl) (lrel_cons (ri rfl) (lrel_cons (rel_slice (sigma_at (i := 0) (by simp [ownNames, *]) rfl) (by simp)) (lrel_cons (rel_slice (sigma_at (i := 1) (by simp [ownNames, *]) rfl) rfl) (lrel_cons (rel_slice (sigma_at (i := 2) (by simp [ownNames, *]) rfl) rfl) (lrel_cons (rel_slice (sigma_at (i := 3) (by simp [ownNames, *]) rfl) rfl) lrel_nil)))))))) (lrel_cons (.bool _) lrel_nil)))
        (op_drop (op_drop (op_drop (op_drop (op_cons (sigma_at (i := 0) (by simp [ownNames, *]) rfl) rfl rfl (ov_opn userR rfl) rfl (op_cons (sigma_at (i := 1) (by simp [ownNames, *]) rfl) rfl rfl (ov_opn sessR rfl) rfl (op_cons (sigma_at (i := 2) (by simp [ownNames, *]) rfl) rfl rfl (ov_opn addrR rfl) rfl (op_cons (sigma_at (i := 3) (by simp [ownNames, *]) rfl) rfl rfl (ov_opn (intR .i64) rfl) rfl op_nil))))))))
        (told_of (by simp [ownNames, stM]))
  · skip
    have k2 : (ev.kind == 2) = false := by rw [hk]; rfl
    have k3 : (ev.kind == 3) = true := by rw [hk]; rfl
    have k4 : (ev.kind == 4) = false := by rw [hk]; rfl
    have k7 : (ev.kind == 7) = false := by rw [hk]; rfl
    rw [hk, if_neg (by decide), if_neg (by decide), if_pos rfl] at hE
    split at hE
    case isTrue => cases hE
    rename_i hr
    cases hE
    have hd := decide_eq_false hr
    refine wsq (wrg (vN tab rfl (vN tab rfl (vN tab rfl (vN tab rfl (vQ tab rfl (vnl (qth (wsq (wrg (vQ3 tab rfl rfl rfl (vq_op tab rfl rfl rfl (ev_index rfl rfl rfl rfl rfl (by omega) (by omega)) ?_))))))))))))
    refine vq_op tab rfl rfl rfl (ev_loadrow userR rfl rfl rfl rfl rfl rfl hj') (vN tab rfl (vS tab rfl (vnl (qth (wsq (wsq (wrg (vQ2 tab rfl rfl (vnl (qth (wbk (wsq (wrg (vQ2 tab rfl rfl (vnl (qth (vcd_false rfl (by simp only [k2, k3, k4, k7, hd, sl_]; first | done | omega) ?_)))))))))))))))))
    refine wsq (wrg (vQ2 tab rfl rfl (vnl (qth (vcd_true rfl (by simp only [k2, k3, k4, k7, hd, sl_]; first | done | omega) ?_)))))
    refine wsq (wsq (wrg (vQ4 tab rfl rfl rfl rfl (vQ tab rfl (vnl (qth (vcd_false rfl (by simp only [k2, k3, k4, k7, hd, sl_]; first | done | omega) ?_)))))))
    refine vw_skip (qth (wsq (wrg (vQ3 tab rfl rfl rfl (vS tab rfl (vnl (qth (wrg (vQ2 tab rfl rfl (vS tab rfl (vnl (q_norm (qth (wsq (wrg (vQ4 tab rfl rfl rfl rfl (vq_op tab rfl rfl rfl (ev_index rfl rfl rfl rfl rfl (by omega) (by omega)) ?_)))))))))))))))))
    refine vs_op tab rfl rfl (ev_storerow userR rfl rfl rfl rfl rfl rfl hjl (a' := { w with step := ev.a, fails := 0, until_ := 0 })) (vnl (qth (wsq (wrg (vQ tab rfl (vS tab rfl (vQ tab rfl (vnl (qth (vw_ret ?_))))))))))
    exact out_mk [0, 1, 2, 3] (.inr rfl) ⟨rfl, rfl⟩ rfl
      (vrel_tuple (lrel_cons (vrel_agg (lrel_cons (ri rfl) (lrel_cons (ri rfl) (lrel_cons (ri rfl) (lrel_cons (rel_slice (sigma_at (i := 0) (by simp [ownNames, *]) rfl) (by simp)) (lrel_cons (rel_slice (sigma_at (i := 1) (by simp [ownNames, *]) rfl) rfl) (lrel_cons (rel_slice (sigma_at (i := 2) (by simp [ownNames, *]) rfl) rfl) (lrel_cons (rel_slice (sigma_at (i := 3) (by simp [ownNames, *]) rfl) rfl) lrel_nil)))))))) (lrel_cons (.bool _) lrel_nil)))
        (op_drop (op_drop (op_drop (op_drop (op_cons (sigma_at (i := 0) (by simp [ownNames, *]) rfl) rfl rfl (ov_opn userR rfl) rfl (op_cons (sigma_at (i := 1) (by simp [ownNames, *]) rfl) rfl rfl (ov_opn sessR rfl) rfl (op_cons (sigma_at (i := 2) (by simp [ownNames, *]) rfl) rfl rfl (ov_opn addrR rfl) rfl (op_cons (sigma_at (i := 3) (by simp [ownNames, *]) rfl) rfl rfl (ov_opn (intR .i64) rfl) rfl op_nil))))))))
        (told_of (by simp [ownNames, stM]))
  · skip
    have k2 : (ev.kind == 2) = false := by rw [hk]; rfl
    have k3 : (ev.kind == 3) = false := by rw [hk]; rfl
    have k4 : (ev.kind == 4) = true := by rw [hk]; rfl
    have k7 : (ev.kind == 7) = false := by rw [hk]; rfl
    rw [hk, if_neg (by decide), if_neg (by decide), if_neg (by decide)] at hE
    cases hE
    refine wsq (wrg (vN tab rfl (vN tab rfl (vN tab rfl (vN tab rfl (vQ tab rfl (vnl (qth (wsq (wrg (vQ3 tab rfl rfl rfl (vq_op tab rfl rfl rfl (ev_index rfl rfl rfl rfl rfl (by omega) (by omega)) ?_))))))))))))
    refine vq_op tab rfl rfl rfl (ev_loadrow userR rfl rfl rfl rfl rfl rfl hj') (vN tab rfl (vS tab rfl (vnl (qth (wsq (wsq (wrg (vQ2 tab rfl rfl (vnl (qth (wbk (wsq (wrg (vQ2 tab rfl rfl (vnl (qth (vcd_false rfl (by simp only [k2, k3, k4, k7, sl_]; first | done | omega) ?_)))))))))))))))))
    refine wsq (wrg (vQ2 tab rfl rfl (vnl (qth (vcd_false rfl (by simp only [k2, k3, k4, k7, sl_]; first | done | omega) ?_)))))
    refine wsq (wrg (vQ2 tab rfl rfl (vnl (qth (vcd_true rfl (by simp only [k2, k3, k4, k7, sl_]; first | done | omega) ?_)))))
    refine wrg (vQ2 tab rfl rfl (vS tab rfl (vnl (q_norm (qth (wsq (wrg (vQ4 tab rfl rfl rfl rfl (vq_op tab rfl rfl rfl (ev_index rfl rfl rfl rfl rfl (by omega) (by omega)) ?_)))))))))
    refine vs_op tab rfl rfl (ev_storerow userR rfl rfl rfl rfl rfl rfl hjl (a' := { w with fails := 0, until_ := 0 })) (vnl (qth (wsq (wrg (vQ tab rfl (vS tab rfl (vQ tab rfl (vnl (qth (vw_ret ?_))))))))))
    exact out_mk [0, 1, 2, 3] (.inr rfl) ⟨rfl, rfl⟩ rfl
      (vrel_tuple (lrel_cons (vrel_agg (lrel_cons (ri rfl) (lrel_cons (ri rfl) (lrel_cons (ri rfl) (lrel_cons (rel_slice (sigma_at (i := 0) (by simp [ownNames, *]) rfl) (by simp)) (lrel_cons (rel_slice (sigma_at (i := 1) (by simp [ownNames, *]) rfl) rfl) (lrel_cons (rel_slice (sigma_at (i := 2) (by simp [ownNames, *]) rfl) rfl) (lrel_cons (rel_slice (sigma_at (i := 3) (by simp [ownNames, *]) rfl) rfl) lrel_nil)))))))) (lrel_cons (.bool _) lrel_nil)))
        (op_drop (op_drop (op_drop (op_drop (op_cons (sigma_at (i := 0) (by simp [ownNames, *]) rfl) rfl rfl (ov_opn userR rfl) rfl (op_cons (sigma_at (i := 1) (by simp [ownNames, *]) rfl) rfl rfl (ov_opn sessR rfl) rfl (op_cons (sigma_at (i := 2) (by simp [ownNames, *]) rfl) rfl rfl (ov_opn addrR rfl) rfl (op_cons (sigma_at (i := 3) (by simp [ownNames, *]) rfl) rfl rfl (ov_opn (intR .i64) rfl) rfl op_nil))))))))
        (told_of (by simp [ownNames, stM]))
  · skip
    have k2 : (ev.kind == 2) = false := by rw [hk]; rfl
    have k3 : (ev.kind == 3) = false := by rw [hk]; rfl
    have k4 : (ev.kind == 4) = false := by rw [hk]; rfl
    have k7 : (ev.kind == 7) = true := by rw [hk]; rfl
    rw [hk, if_pos rfl] at hE
    split at hE
    case isFalse => cases hE
    rename_i hr
    cases hE
    have hw : IntKind.i64.wrap (w.gen + 1) = w.gen + 1 := i64_in _ (by omega)
    rw [← hw]
    refine wsq (wrg (vN tab rfl (vN tab rfl (vN tab rfl (vN tab rfl (vQ tab rfl (vnl (qth (wsq (wrg (vQ3 tab rfl rfl rfl (vq_op tab rfl rfl rfl (ev_index rfl rfl rfl rfl rfl (by omega) (by omega)) ?_))))))))))))
    refine vq_op tab rfl rfl rfl (ev_loadrow userR rfl rfl rfl rfl rfl rfl hj') (vN tab rfl (vS tab rfl (vnl (qth (wsq (wsq (wrg (vQ2 tab rfl rfl (vnl (qth (wbk (wsq (wrg (vQ2 tab rfl rfl (vnl (qth (vcd_false rfl (by simp only [k2, k3, k4, k7, sl_]; first | done | omega) ?_)))))))))))))))))
    refine wsq (wrg (vQ2 tab rfl rfl (vnl (qth (vcd_false rfl (by simp only [k2, k3, k4, k7, sl_]; first | done | omega) ?_)))))
    refine wsq (wrg (vQ2 tab rfl rfl (vnl (qth (vcd_false rfl (by simp only [k2, k3, k4, k7, sl_]; first | done | omega) ?_)))))
    refine wsq (wrg (vQ2 tab rfl rfl (vnl (qth (vcd_true rfl (by simp only [k2, k3, k4, k7, sl_]; first | done | omega) ?_)))))
    refine wsq (wsq (wrg (vQ4 tab rfl rfl rfl rfl (vgd_op false rfl rfl rfl (by simp only [k2, k3, k4, k7, sl_]; first | done | omega) ?_))))
    refine vQ4 tab rfl rfl rfl rfl (vnl (qth (vcd_false rfl (by simp only [k2, k3, k4, k7, sl_]; first | done | omega) ?_)))
    refine vw_skip (qth (wrg (vQ4 tab rfl rfl rfl rfl (vS tab rfl (vnl (q_norm (qth (wsq (wrg (vQ4 tab rfl rfl rfl rfl (vq_op tab rfl rfl rfl (ev_index rfl rfl rfl rfl rfl (by omega) (by omega)) ?_)))))))))))
    refine vs_op tab rfl rfl (ev_storerow userR rfl rfl rfl rfl rfl rfl hjl (a' := { w with gen := IntKind.i64.wrap (w.gen + 1) })) (vnl (qth (wsq (wrg (vQ tab rfl (vS tab rfl (vQ tab rfl (vnl (qth (vw_ret ?_))))))))))
    exact out_mk [0, 1, 2, 3] (.inr rfl) ⟨rfl, rfl⟩ rfl
      (vrel_tuple (lrel_cons (vrel_agg (lrel_cons (ri rfl) (lrel_cons (ri rfl) (lrel_cons (ri rfl) (lrel_cons (rel_slice (sigma_at (i := 0) (by simp [ownNames, *]) rfl) (by simp)) (lrel_cons (rel_slice (sigma_at (i := 1) (by simp [ownNames, *]) rfl) rfl) (lrel_cons (rel_slice (sigma_at (i := 2) (by simp [ownNames, *]) rfl) rfl) (lrel_cons (rel_slice (sigma_at (i := 3) (by simp [ownNames, *]) rfl) rfl) lrel_nil)))))))) (lrel_cons (.bool _) lrel_nil)))
        (op_drop (op_drop (op_drop (op_drop (op_cons (sigma_at (i := 0) (by simp [ownNames, *]) rfl) rfl rfl (ov_opn userR rfl) rfl (op_cons (sigma_at (i := 1) (by simp [ownNames, *]) rfl) rfl rfl (ov_opn sessR rfl) rfl (op_cons (sigma_at (i := 2) (by simp [ownNames, *]) rfl) rfl rfl (ov_opn addrR rfl) rfl (op_cons (sigma_at (i := 3) (by simp [ownNames, *]) rfl) rfl rfl (ov_opn (intR .i64) rfl) rfl op_nil))))))))
        (told_of (by simp [ownNames, stM]))
theorem refturn_no {j : Nat} {w : UserV} (h : OwnS V u x a p s) (hi : ∀ i ∈ [u, x, a, p], i < n) (hb1 : s.users.length * 72 ≤ 140737488355000) (hj : s.users[j]? = some w) (hq : ev.kind = 2 ∨ ev.kind = 3 ∨ ev.kind = 4 ∨ ev.kind = 7) (hE : ofU cf ev w = none) :
    Tri Tryz.prog 65 [confV cf, stV u x a p s, .int .i64 (j : Int), evtV ev] n 4 V (fun r L => r = .tuple #[stV n (n + 1) (n + 2) (n + 3) s, .bool false] ∧ L = stM u x a p n s) := by
  obtain ⟨hu, hx, ha, hp, hn⟩ := h
  simp only [List.nodup_cons, List.mem_cons, List.not_mem_nil, or_false, not_or, List.nodup_nil, and_true, not_false_eq_true] at hn
  obtain ⟨⟨d1, d2, d3⟩, ⟨e1, e2⟩, f1⟩ := hn
  simp only [List.mem_cons, List.not_mem_nil, or_false, forall_eq_or_imp, forall_eq] at hi
  obtain ⟨l1, l2, l3, l4⟩ := hi
  refine call_of_vw (K := 4) (argsI := [confV cf, .agg #[.int .i64 s.boots, .int .i64 s.epoch, .int .i64 s.next, .slice (some ⟨0, 0, none⟩) s.users.length 0, .slice (some ⟨1, 0, none⟩) s.sess.length 0, .slice (some ⟨2, 0, none⟩) s.addrs.length 0, .slice (some ⟨3, 0, none⟩) s.spent.length 0], .int .i64 (j : Int), evtV ev]) tab Tryz.func65 rfl rfl (by simp [Tryz.f65]) [.own u, .own x, .own a, .own p] [.opn (userR.cells s.users) 76 9, .opn (sessR.cells s.sess) 78 4, .opn (addrR.cells s.addrs) 80 3, .opn ((intR .i64).cells s.spent) 3 1] rfl (.own hu (ov_opn userR rfl) (.own hx (ov_opn sessR rfl) (.own ha (ov_opn addrR rfl) (.own hp (ov_opn (intR .i64) rfl) .nil)))) (by simp [ownNames, *]) (by simp [ownNames, lookNames, *]) (by simp [ownNames, *]) (al_cons (.val (confRel cf)) (al_cons (ar_agg (al_cons (.val (.int _ _)) (al_cons (.val (.int _ _)) (al_cons (.val (.int _ _)) (al_cons (.val (rel_slice rfl rfl)) (al_cons (.val (rel_slice rfl rfl)) (al_cons (.val (rel_slice rfl rfl)) (al_cons (.val (rel_slice rfl rfl)) al_nil)))))))) (al_cons (.val (.int _ _)) (al_cons (.val (evtRel ev)) al_nil)))) (seen_of (sn_own (sn_own (sn_own (sn_own sn_nil))))) ?_
  have hjl : ((j : Nat) : Int).toNat < s.users.length := (List.getElem?_eq_some_iff.1 hj).1
  have hj' : s.users[((j : Nat) : Int).toNat]? = some w := hj
  unfold ofU at hE
  rcases hq with hk | hk | hk | hk
  · skip
    have k2 : (ev.kind == 2) = true := by rw [hk]; rfl
    have k3 : (ev.kind == 3) = false := by rw [hk]; rfl
    have k4 : (ev.kind == 4) = false := by rw [hk]; rfl
    have k7 : (ev.kind == 7) = false := by rw [hk]; rfl
    rw [hk, if_neg (by decide), if_pos rfl] at hE
    obtain ⟨f, t, r, hf⟩ : ∃ f t r, failR w.fails w.until_ ev.tick cf.fails cf.lockout = (f, t, r) := ⟨_, _, _, rfl⟩
    rw [hf] at hE
    simp only at hE
    split at hE
    case isTrue => cases hE
    rename_i hr
    have hrn : (r != 0) = true := by simpa using hr
    refine wsq (wrg (vN tab rfl (vN tab rfl (vN tab rfl (vN tab rfl (vQ tab rfl (vnl (qth (wsq (wrg (vQ3 tab rfl rfl rfl (vq_op tab rfl rfl rfl (ev_index rfl rfl rfl rfl rfl (by omega) (by omega)) ?_))))))))))))
    refine vq_op tab rfl rfl rfl (ev_loadrow userR rfl rfl rfl rfl rfl rfl hj') (vN tab rfl (vS tab rfl (vnl (qth (wsq (wsq (wrg (vQ2 tab rfl rfl (vnl (qth (wbk (wsq (wrg (vQ2 tab rfl rfl (vnl (qth (vcd_true rfl (by simp only [k2, k3, k4, k7, hrn, sl_]; first | done | omega) ?_)))))))))))))))))
    refine wsq (wrg (vQ4 tab rfl rfl rfl rfl (vQ4 tab rfl rfl rfl rfl (vF rfl callable_83 (reffail_at hf) (vQ3 tab rfl rfl rfl (vN tab rfl (vS tab rfl (vQ tab rfl (vnl (qth (wsq (wsq (wrg (vQ tab rfl (vQ tab rfl ?_)))))))))))))))
    refine vnl (qth (vcd_true rfl (by simp only [k2, k3, k4, k7, hrn, sl_]; first | done | omega) ?_))
    refine wsq (wrg (vQ tab rfl (vS tab rfl (vQ tab rfl (vnl (qth (vw_ret (q_thenr (q_ret (q_thenr ?_))))))))))
    exact out_mk [0, 1, 2, 3] (.inr rfl) ⟨rfl, rfl⟩ rfl
      (vrel_tuple (lrel_cons (vrel_agg (lrel_cons (ri rfl) (lrel_cons (ri rfl) (lrel_cons (ri rfl) (lrel_cons (rel_slice (sigma_at (i := 0) (by simp [ownNames, *]) rfl) rfl) (lrel_cons (rel_slice (sigma_at (i := 1) (by simp [ownNames, *]) rfl) rfl) (lrel_cons (rel_slice (sigma_at (i := 2) (by simp [ownNames, *]) rfl) rfl) (lrel_cons (rel_slice (sigma_at (i := 3) (by simp [ownNames, *]) rfl) rfl) lrel_nil)))))))) (lrel_cons (.bool _) lrel_nil)))
        (op_drop (op_drop (op_drop (op_drop (op_cons (sigma_at (i := 0) (by simp [ownNames, *]) rfl) rfl rfl (ov_opn userR rfl) rfl (op_cons (sigma_at (i := 1) (by simp [ownNames, *]) rfl) rfl rfl (ov_opn sessR rfl) rfl (op_cons (sigma_at (i := 2) (by simp [ownNames, *]) rfl) rfl rfl (ov_opn addrR rfl) rfl (op_cons (sigma_at (i := 3) (by simp [ownNames, *]) rfl) rfl rfl (ov_opn (intR .i64) rfl) rfl op_nil))))))))
        (told_of (by simp [ownNames, stM]))
  · skip
    have k2 : (ev.kind == 2) = false := by rw [hk]; rfl
    have k3 : (ev.kind == 3) = true := by rw [hk]; rfl
    have k4 : (ev.kind == 4) = false := by rw [hk]; rfl
    have k7 : (ev.kind == 7) = false := by rw [hk]; rfl
    rw [hk, if_neg (by decide), if_neg (by decide), if_pos rfl] at hE
    split at hE
    case isFalse => cases hE
    rename_i hr
    have hd := decide_eq_true hr
    refine wsq (wrg (vN tab rfl (vN tab rfl (vN tab rfl (vN tab rfl (vQ tab rfl (vnl (qth (wsq (wrg (vQ3 tab rfl rfl rfl (vq_op tab rfl rfl rfl (ev_index rfl rfl rfl rfl rfl (by omega) (by omega)) ?_))))))))))))
    refine vq_op tab rfl rfl rfl (ev_loadrow userR rfl rfl rfl rfl rfl rfl hj') (vN tab rfl (vS tab rfl (vnl (qth (wsq (wsq (wrg (vQ2 tab rfl rfl (vnl (qth (wbk (wsq (wrg (vQ2 tab rfl rfl (vnl (qth (vcd_false rfl (by simp only [k2, k3, k4, k7, hd, sl_]; first | done | omega) ?_)))))))))))))))))
    refine wsq (wrg (vQ2 tab rfl rfl (vnl (qth (vcd_true rfl (by simp only [k2, k3, k4, k7, hd, sl_]; first | done | omega) ?_)))))
    refine wsq (wsq (wrg (vQ4 tab rfl rfl rfl rfl (vQ tab rfl (vnl (qth (vcd_true rfl (by simp only [k2, k3, k4, k7, hd, sl_]; first | done | omega) ?_)))))))
    refine wsq (wrg (vQ tab rfl (vS tab rfl (vQ tab rfl (vnl (qth (vw_ret (q_thenr (q_ret (q_thenr ?_))))))))))
    exact out_mk [0, 1, 2, 3] (.inr rfl) ⟨rfl, rfl⟩ rfl
      (vrel_tuple (lrel_cons (vrel_agg (lrel_cons (ri rfl) (lrel_cons (ri rfl) (lrel_cons (ri rfl) (lrel_cons (rel_slice (sigma_at (i := 0) (by simp [ownNames, *]) rfl) rfl) (lrel_cons (rel_slice (sigma_at (i := 1) (by simp [ownNames, *]) rfl) rfl) (lrel_cons (rel_slice (sigma_at (i := 2) (by simp [ownNames, *]) rfl) rfl) (lrel_cons (rel_slice (sigma_at (i := 3) (by simp [ownNames, *]) rfl) rfl) lrel_nil)))))))) (lrel_cons (.bool _) lrel_nil)))
        (op_drop (op_drop (op_drop (op_drop (op_cons (sigma_at (i := 0) (by simp [ownNames, *]) rfl) rfl rfl (ov_opn userR rfl) rfl (op_cons (sigma_at (i := 1) (by simp [ownNames, *]) rfl) rfl rfl (ov_opn sessR rfl) rfl (op_cons (sigma_at (i := 2) (by simp [ownNames, *]) rfl) rfl rfl (ov_opn addrR rfl) rfl (op_cons (sigma_at (i := 3) (by simp [ownNames, *]) rfl) rfl rfl (ov_opn (intR .i64) rfl) rfl op_nil))))))))
        (told_of (by simp [ownNames, stM]))
  · skip
    rw [hk, if_neg (by decide), if_neg (by decide), if_neg (by decide)] at hE
    cases hE
  · skip
    have k2 : (ev.kind == 2) = false := by rw [hk]; rfl
    have k3 : (ev.kind == 3) = false := by rw [hk]; rfl
    have k4 : (ev.kind == 4) = false := by rw [hk]; rfl
    have k7 : (ev.kind == 7) = true := by rw [hk]; rfl
    rw [hk, if_pos rfl] at hE
    split at hE
    case isTrue => cases hE
    rename_i hr
    rcases (show w.gen < 0 ∨ (¬ w.gen < 0 ∧ 1073741823 ≤ w.gen) by omega) with hc | hc
    all_goals
      first
        | refine wsq (wrg (vN tab rfl (vN tab rfl (vN tab rfl (vN tab rfl (vQ tab rfl (vnl (qth (wsq (wrg (vQ3 tab rfl rfl rfl (vq_op tab rfl rfl rfl (ev_index rfl rfl rfl rfl rfl (by omega) (by omega)) ?_))))))))))))
          refine vq_op tab rfl rfl rfl (ev_loadrow userR rfl rfl rfl rfl rfl rfl hj') (vN tab rfl (vS tab rfl (vnl (qth (wsq (wsq (wrg (vQ2 tab rfl rfl (vnl (qth (wbk (wsq (wrg (vQ2 tab rfl rfl (vnl (qth (vcd_false rfl (by simp only [k2, k3, k4, k7, sl_]; first | done | omega) ?_)))))))))))))))))
          refine wsq (wrg (vQ2 tab rfl rfl (vnl (qth (vcd_false rfl (by simp only [k2, k3, k4, k7, sl_]; first | done | omega) ?_)))))
          refine wsq (wrg (vQ2 tab rfl rfl (vnl (qth (vcd_false rfl (by simp only [k2, k3, k4, k7, sl_]; first | done | omega) ?_)))))
          refine wsq (wrg (vQ2 tab rfl rfl (vnl (qth (vcd_true rfl (by simp only [k2, k3, k4, k7, sl_]; first | done | omega) ?_)))))
          refine wsq (wsq (wrg (vQ4 tab rfl rfl rfl rfl (vgd_op true rfl rfl rfl (by simp only [k2, k3, k4, k7, sl_]; first | done | omega) ?_))))
          refine vK3 rfl rfl rfl (vQ tab rfl (vnl (qth (vc_true rfl (wsq (wrg (vQ tab rfl (vS tab rfl (vQ tab rfl (vnl (qth (vw_ret (q_thenr (q_ret (q_thenr ?_)))))))))))))))
        | refine wsq (wrg (vN tab rfl (vN tab rfl (vN tab rfl (vN tab rfl (vQ tab rfl (vnl (qth (wsq (wrg (vQ3 tab rfl rfl rfl (vq_op tab rfl rfl rfl (ev_index rfl rfl rfl rfl rfl (by omega) (by omega)) ?_))))))))))))
          refine vq_op tab rfl rfl rfl (ev_loadrow userR rfl rfl rfl rfl rfl rfl hj') (vN tab rfl (vS tab rfl (vnl (qth (wsq (wsq (wrg (vQ2 tab rfl rfl (vnl (qth (wbk (wsq (wrg (vQ2 tab rfl rfl (vnl (qth (vcd_false rfl (by simp only [k2, k3, k4, k7, sl_]; first | done | omega) ?_)))))))))))))))))
          refine wsq (wrg (vQ2 tab rfl rfl (vnl (qth (vcd_false rfl (by simp only [k2, k3, k4, k7, sl_]; first | done | omega) ?_)))))
          refine wsq (wrg (vQ2 tab rfl rfl (vnl (qth (vcd_false rfl (by simp only [k2, k3, k4, k7, sl_]; first | done | omega) ?_)))))
          refine wsq (wrg (vQ2 tab rfl rfl (vnl (qth (vcd_true rfl (by simp only [k2, k3, k4, k7, sl_]; first | done | omega) ?_)))))
          refine wsq (wsq (wrg (vQ4 tab rfl rfl rfl rfl (vgd_op false rfl rfl rfl (by simp only [k2, k3, k4, k7, sl_]; first | done | omega) ?_))))
          refine vQ4 tab rfl rfl rfl rfl (vnl (qth (vcd_true rfl (by simp only [k2, k3, k4, k7, sl_]; first | done | omega) ?_)))
          refine wsq (wrg (vQ tab rfl (vS tab rfl (vQ tab rfl (vnl (qth (vw_ret (q_thenr (q_ret (q_thenr ?_))))))))))
      exact out_mk [0, 1, 2, 3] (.inr rfl) ⟨rfl, rfl⟩ rfl
        (vrel_tuple (lrel_cons (vrel_agg (lrel_cons (ri rfl) (lrel_cons (ri rfl) (lrel_cons (ri rfl) (lrel_cons (rel_slice (sigma_at (i := 0) (by simp [ownNames, *]) rfl) rfl) (lrel_cons (rel_slice (sigma_at (i := 1) (by simp [ownNames, *]) rfl) rfl) (lrel_cons (rel_slice (sigma_at (i := 2) (by simp [ownNames, *]) rfl) rfl) (lrel_cons (rel_slice (sigma_at (i := 3) (by simp [ownNames, *]) rfl) rfl) lrel_nil)))))))) (lrel_cons (.bool _) lrel_nil)))
          (op_drop (op_drop (op_drop (op_drop (op_cons (sigma_at (i := 0) (by simp [ownNames, *]) rfl) rfl rfl (ov_opn userR rfl) rfl (op_cons (sigma_at (i := 1) (by simp [ownNames, *]) rfl) rfl rfl (ov_opn sessR rfl) rfl (op_cons (sigma_at (i := 2) (by simp [ownNames, *]) rfl) rfl rfl (ov_opn addrR rfl) rfl (op_cons (sigma_at (i := 3) (by simp [ownNames, *]) rfl) rfl rfl (ov_opn (intR .i64) rfl) rfl op_nil))))))))
          (told_of (by simp [ownNames, stM]))
end
end Go.Proofs.YtcjfidfealifhaaGreat
namespace Go.Proofs.YtcjfidfealifhaaGreat
open Go Vm IntWalk
set_option linter.unusedVariables false
set_option linter.unusedSimpArgs false
set_option maxHeartbeats 16000000
theorem freeP_all {W : Int} : ∀ (xs : List SessV) (aa r : List AddrV) (b : Bool), freeP W xs aa = (r, b) → freeAll W xs aa = if b = true then some r else none
  | [], aa, r, b, h => by cases h; rfl
  | x :: xs, aa, r, b, h => by
    unfold freeP at h; unfold freeAll
    split at h
    · rename_i hc; rw [if_pos hc]; exact freeP_all xs _ r b h
    · rename_i hc; rw [if_neg hc]; cases h; rfl
theorem bootR_ok {cf : ConfV} {s s' : StV} {e : EventV} (h : bootE cf s e = some s') : bootR cf s e = (s', true) := by
  obtain ⟨r, b, hF⟩ : ∃ r b, freeP (IntKind.i64.wrap (e.tick + cf.quarantine)) s.sess s.addrs = (r, b) := ⟨_, _, rfl⟩
  unfold bootE at h
  rw [freeP_all _ _ _ _ hF] at h
  cases b with
  | false => cases h
  | true =>
    simp only [if_true] at h
    split at h
    · rename_i hb; cases h
      unfold bootR; rw [if_neg (by omega), hF]; rfl
    · cases h
theorem bootR_no {cf : ConfV} {s : StV} {e : EventV} (h : bootE cf s e = none) : ∃ t, bootR cf s e = (t, false) := by
  obtain ⟨r, b, hF⟩ : ∃ r b, freeP (IntKind.i64.wrap (e.tick + cf.quarantine)) s.sess s.addrs = (r, b) := ⟨_, _, rfl⟩
  unfold bootE at h
  rw [freeP_all _ _ _ _ hF] at h
  unfold bootR
  split
  · exact ⟨_, rfl⟩
  · rename_i hn
    rw [hF]
    cases b with
    | false => exact ⟨_, rfl⟩
    | true =>
      simp only [if_true] at h
      rw [if_pos (by omega)] at h; cases h
def applF (cf : ConfV) (s : StV) (e : EventV) : StV := if e.kind = 0 then (bootR cf s e).1 else s
section
variable {V : Heap} {n u x a p : Nat} {cf : ConfV} {ev : EventV} {s : StV}
theorem refboot_as {t : StV} {b : Bool} (hr : bootR cf s ev = (t, b)) (h : OwnS V u x a p s) (hi : ∀ i ∈ [u, x, a, p], i < n) (hb3 : s.addrs.length * 24 ≤ 140737488355328) (hb2 : s.sess.length * 32 ≤ 140737488355328) :
    Tri Tryz.prog 59 [confV cf, stV u x a p s, evtV ev] n 4 V (fun r L => r = .tuple #[stV n (n + 1) (n + 2) (n + 3) t, .bool b] ∧ L = stM u x a p n t) := by
  have := refboot_tri (n := n) (cf := cf) (ev := ev) h hi hb3 hb2
  rw [hr] at this; exact this
theorem refapplied_ok {s' : StV} (h : OwnS V u x a p s) (hi : ∀ i ∈ [u, x, a, p], i < n) (hb1 : s.users.length * 72 ≤ 140737488355000) (hb2 : s.sess.length * 32 ≤ 140737488355000) (hb3 : s.addrs.length * 24 ≤ 140737488355328) (hb4 : s.spent.length * 8 ≤ 140737488355000) (hm : evtMay ev = true) (hE : doesE cf s ev = some s') :
    Tri Tryz.prog 31 [confV cf, stV u x a p s, evtV ev] n 4 V (fun r L => r = .tuple #[stV n (n + 1) (n + 2) (n + 3) s', .bool true] ∧ L = stM u x a p n s') := by
  obtain ⟨hu, hx, ha, hp, hn⟩ := h
  simp only [List.nodup_cons, List.mem_cons, List.not_mem_nil, or_false, not_or, List.nodup_nil, and_true, not_false_eq_true] at hn
  obtain ⟨⟨d1, d2, d3⟩, ⟨e1, e2⟩, f1⟩ := hn
  simp only [List.mem_cons, List.not_mem_nil, or_false, forall_eq_or_imp, forall_eq] at hi
  obtain ⟨l1, l2, l3, l4⟩ := hi
  refine call_of_vw (K := 4) (argsI := [confV cf, .agg #[.int .i64 s.boots, .int .i64 s.epoch, .int .i64 s.next, .slice (some ⟨0, 0, none⟩) s.users.length 0, .slice (some ⟨1, 0, none⟩) s.sess.length 0, .slice (some ⟨2, 0, none⟩) s.addrs.length 0, .slice (some ⟨3, 0, none⟩) s.spent.length 0], evtV ev]) tab Tryz.func31 rfl rfl (by simp [Tryz.f31]) [.own u, .own x, .own a, .own p] [.opn (userR.cells s.users) 76 9, .opn (sessR.cells s.sess) 78 4, .opn (addrR.cells s.addrs) 80 3, .opn ((intR .i64).cells s.spent) 3 1] rfl (.own hu (ov_opn userR rfl) (.own hx (ov_opn sessR rfl) (.own ha (ov_opn addrR rfl) (.own hp (ov_opn (intR .i64) rfl) .nil)))) (by simp [ownNames, *]) (by simp [ownNames, lookNames, *]) (by simp [ownNames, *]) (al_cons (.val (confRel cf)) (al_cons (ar_agg (al_cons (.val (.int _ _)) (al_cons (.val (.int _ _)) (al_cons (.val (.int _ _)) (al_cons (.val (rel_slice rfl rfl)) (al_cons (.val (rel_slice rfl rfl)) (al_cons (.val (rel_slice rfl rfl)) (al_cons (.val (rel_slice rfl rfl)) al_nil)))))))) (al_cons (.val (evtRel ev)) al_nil))) (seen_of (sn_own (sn_own (sn_own (sn_own sn_nil))))) ?_
  unfold doesE at hE
  rcases kind_split hm with hk | hk | hk | hk | hk | hk | hk
  · skip
    have k0 : (ev.kind == 0) = true := by rw [hk]; rfl
    have k1 : (ev.kind == 1) = false := by rw [hk]; rfl
    have k5 : (ev.kind == 5) = false := by rw [hk]; rfl
    have k6 : (ev.kind == 6) = false := by rw [hk]; rfl
    have k8 : (ev.kind == 8) = false := by rw [hk]; rfl
    have k9 : (ev.kind == 9) = false := by rw [hk]; rfl
    simp only [hk, if_true] at hE
    have hr := bootR_ok hE
    refine wsq (wrg (vN tab rfl (vN tab rfl (vN tab rfl (vN tab rfl (vQ tab rfl (vnl (qth (wsq (wsq (wrg (vQ2 tab rfl rfl (vnl (qth (wbk (wsq (wrg (vQ2 tab rfl rfl (vnl (qth (vcd_true rfl (by simp only [k0, k1, k5, k6, k8, k9, sl_]; first | done | omega) ?_)))))))))))))))))))))
    refine wsq (wrg (vQ3 tab rfl rfl rfl (vT rfl callable_59 (refboot_as hr ⟨rfl, rfl, rfl, rfl, by decide⟩ (by decide) (by omega) (by omega)) ?_)))
    refine vQ2 tab rfl rfl (vS tab rfl (vQ tab rfl (vnl (qth (vw_ret (q_ret (q_thenr ?_)))))))
    exact out_mk [8, 9, 10, 11] (.inr rfl) ⟨rfl, rfl⟩ rfl
      (vrel_tuple (lrel_cons (vrel_agg (lrel_cons (ri rfl) (lrel_cons (ri rfl) (lrel_cons (ri rfl) (lrel_cons (rel_slice (sigma_at (i := 0) (by simp [ownNames, *]) rfl) rfl) (lrel_cons (rel_slice (sigma_at (i := 1) (by simp [ownNames, *]) rfl) rfl) (lrel_cons (rel_slice (sigma_at (i := 2) (by simp [ownNames, *]) rfl) rfl) (lrel_cons (rel_slice (sigma_at (i := 3) (by simp [ownNames, *]) rfl) rfl) lrel_nil)))))))) (lrel_cons (.bool _) lrel_nil)))
        (op_drop (op_drop (op_drop (op_drop (op_cons (sigma_at (i := 0) (by simp [ownNames, *]) rfl) rfl rfl (ov_opn userR rfl) rfl (op_cons (sigma_at (i := 1) (by simp [ownNames, *]) rfl) rfl rfl (ov_opn sessR rfl) rfl (op_cons (sigma_at (i := 2) (by simp [ownNames, *]) rfl) rfl rfl (ov_opn addrR rfl) rfl (op_cons (sigma_at (i := 3) (by simp [ownNames, *]) rfl) rfl rfl (ov_opn (intR .i64) rfl) rfl op_nil))))))))
        (told_of (by simp [ownNames, stM]))
  · skip
    have k0 : (ev.kind == 0) = false := by rw [hk]; rfl
    have k1 : (ev.kind == 1) = true := by rw [hk]; rfl
    have k5 : (ev.kind == 5) = false := by rw [hk]; rfl
    have k6 : (ev.kind == 6) = false := by rw [hk]; rfl
    have k8 : (ev.kind == 8) = false := by rw [hk]; rfl
    have k9 : (ev.kind == 9) = false := by rw [hk]; rfl
    simp only [hk, if_true, if_false, show ¬ (1 : Int) = 0 by decide] at hE
    unfold userE at hE
    cases hk1 : userAt s.users ev.user with
    | some j => rw [hk1] at hE; cases hE
    | none =>
    rw [hk1] at hE; cases hE
    refine wsq (wrg (vN tab rfl (vN tab rfl (vN tab rfl (vN tab rfl (vQ tab rfl (vnl (qth (wsq (wsq (wrg (vQ2 tab rfl rfl (vnl (qth (wbk (wsq (wrg (vQ2 tab rfl rfl (vnl (qth (vcd_false rfl (by simp only [k0, k1, k5, k6, k8, k9, sl_]; first | done | omega) ?_)))))))))))))))))))))
    refine wsq (wrg (vQ2 tab rfl rfl (vnl (qth (vcd_false rfl (by simp only [k0, k1, k5, k6, k8, k9, sl_]; first | done | omega) ?_)))))
    refine wsq (wrg (vQ2 tab rfl rfl (vnl (qth (vcd_false rfl (by simp only [k0, k1, k5, k6, k8, k9, sl_]; first | done | omega) ?_)))))
    refine wsq (wrg (vQ2 tab rfl rfl (vnl (qth (vcd_false rfl (by simp only [k0, k1, k5, k6, k8, k9, sl_]; first | done | omega) ?_)))))
    refine wsq (wrg (vQ2 tab rfl rfl (vnl (qth (vcd_false rfl (by simp only [k0, k1, k5, k6, k8, k9, sl_]; first | done | omega) ?_)))))
    refine wsq (wrg (vQ2 tab rfl rfl (vnl (qth (vcd_true rfl (by simp only [k0, k1, k5, k6, k8, k9, sl_]; first | done | omega) ?_)))))
    refine wsq (wrg (vQ2 tab rfl rfl (vT rfl callable_63 (refadd_ok (s := s) ⟨rfl, rfl, rfl, rfl, by decide⟩ (by decide) hb1 hk1) ?_)))
    refine vQ2 tab rfl rfl (vS tab rfl (vQ tab rfl (vnl (qth (vw_ret (q_ret (q_thenr ?_)))))))
    exact out_mk [8, 9, 10, 11] (.inr rfl) ⟨rfl, rfl⟩ rfl
      (vrel_tuple (lrel_cons (vrel_agg (lrel_cons (ri rfl) (lrel_cons (ri rfl) (lrel_cons (ri rfl) (lrel_cons (rel_slice (sigma_at (i := 0) (by simp [ownNames, *]) rfl) rfl) (lrel_cons (rel_slice (sigma_at (i := 1) (by simp [ownNames, *]) rfl) rfl) (lrel_cons (rel_slice (sigma_at (i := 2) (by simp [ownNames, *]) rfl) rfl) (lrel_cons (rel_slice (sigma_at (i := 3) (by simp [ownNames, *]) rfl) rfl) lrel_nil)))))))) (lrel_cons (.bool _) lrel_nil)))
        (op_drop (op_drop (op_drop (op_drop (op_cons (sigma_at (i := 0) (by simp [ownNames, *]) rfl) rfl rfl (ov_opn userR rfl) rfl (op_cons (sigma_at (i := 1) (by simp [ownNames, *]) rfl) rfl rfl (ov_opn sessR rfl) rfl (op_cons (sigma_at (i := 2) (by simp [ownNames, *]) rfl) rfl rfl (ov_opn addrR rfl) rfl (op_cons (sigma_at (i := 3) (by simp [ownNames, *]) rfl) rfl rfl (ov_opn (intR .i64) rfl) rfl op_nil))))))))
        (told_of (by simp [ownNames, stM]))
  · skip
    have k0 : (ev.kind == 0) = false := by rw [hk]; rfl
    have k1 : (ev.kind == 1) = false := by rw [hk]; rfl
    have k5 : (ev.kind == 5) = true := by rw [hk]; rfl
    have k6 : (ev.kind == 6) = false := by rw [hk]; rfl
    have k8 : (ev.kind == 8) = false := by rw [hk]; rfl
    have k9 : (ev.kind == 9) = false := by rw [hk]; rfl
    simp only [hk, if_true, if_false, show ¬ (5 : Int) = 0 by decide, show ¬ (5 : Int) = 1 by decide] at hE
    refine wsq (wrg (vN tab rfl (vN tab rfl (vN tab rfl (vN tab rfl (vQ tab rfl (vnl (qth (wsq (wsq (wrg (vQ2 tab rfl rfl (vnl (qth (wbk (wsq (wrg (vQ2 tab rfl rfl (vnl (qth (vcd_false rfl (by simp only [k0, k1, k5, k6, k8, k9, sl_]; first | done | omega) ?_)))))))))))))))))))))
    refine wsq (wrg (vQ2 tab rfl rfl (vnl (qth (vcd_true rfl (by simp only [k0, k1, k5, k6, k8, k9, sl_]; first | done | omega) ?_)))))
    refine wsq (wrg (vQ3 tab rfl rfl rfl (vT rfl callable_60 (reflease_ok (s := s) ⟨rfl, rfl, rfl, rfl, by decide⟩ (by decide) hb1 hb2 hb3 hE) ?_)))
    refine vQ2 tab rfl rfl (vS tab rfl (vQ tab rfl (vnl (qth (vw_ret (q_ret (q_thenr ?_)))))))
    exact out_mk [8, 9, 10, 11] (.inr rfl) ⟨rfl, rfl⟩ rfl
      (vrel_tuple (lrel_cons (vrel_agg (lrel_cons (ri rfl) (lrel_cons (ri rfl) (lrel_cons (ri rfl) (lrel_cons (rel_slice (sigma_at (i := 0) (by simp [ownNames, *]) rfl) rfl) (lrel_cons (rel_slice (sigma_at (i := 1) (by simp [ownNames, *]) rfl) rfl) (lrel_cons (rel_slice (sigma_at (i := 2) (by simp [ownNames, *]) rfl) rfl) (lrel_cons (rel_slice (sigma_at (i := 3) (by simp [ownNames, *]) rfl) rfl) lrel_nil)))))))) (lrel_cons (.bool _) lrel_nil)))
        (op_drop (op_drop (op_drop (op_drop (op_cons (sigma_at (i := 0) (by simp [ownNames, *]) rfl) rfl rfl (ov_opn userR rfl) rfl (op_cons (sigma_at (i := 1) (by simp [ownNames, *]) rfl) rfl rfl (ov_opn sessR rfl) rfl (op_cons (sigma_at (i := 2) (by simp [ownNames, *]) rfl) rfl rfl (ov_opn addrR rfl) rfl (op_cons (sigma_at (i := 3) (by simp [ownNames, *]) rfl) rfl rfl (ov_opn (intR .i64) rfl) rfl op_nil))))))))
        (told_of (by simp [ownNames, stM]))
  · skip
    have k0 : (ev.kind == 0) = false := by rw [hk]; rfl
    have k1 : (ev.kind == 1) = false := by rw [hk]; rfl
    have k5 : (ev.kind == 5) = false := by rw [hk]; rfl
    have k6 : (ev.kind == 6) = true := by rw [hk]; rfl
    have k8 : (ev.kind == 8) = false := by rw [hk]; rfl
    have k9 : (ev.kind == 9) = false := by rw [hk]; rfl
    simp only [hk, if_true, if_false, show ¬ (6 : Int) = 0 by decide, show ¬ (6 : Int) = 1 by decide, show ¬ (6 : Int) = 5 by decide] at hE
    refine wsq (wrg (vN tab rfl (vN tab rfl (vN tab rfl (vN tab rfl (vQ tab rfl (vnl (qth (wsq (wsq (wrg (vQ2 tab rfl rfl (vnl (qth (wbk (wsq (wrg (vQ2 tab rfl rfl (vnl (qth (vcd_false rfl (by simp only [k0, k1, k5, k6, k8, k9, sl_]; first | done | omega) ?_)))))))))))))))))))))
    refine wsq (wrg (vQ2 tab rfl rfl (vnl (qth (vcd_false rfl (by simp only [k0, k1, k5, k6, k8, k9, sl_]; first | done | omega) ?_)))))
    refine wsq (wrg (vQ2 tab rfl rfl (vnl (qth (vcd_true rfl (by simp only [k0, k1, k5, k6, k8, k9, sl_]; first | done | omega) ?_)))))
    refine wsq (wrg (vQ2 tab rfl rfl (vT rfl callable_61 (refclose_ok (s := s) ⟨rfl, rfl, rfl, rfl, by decide⟩ (by decide) hb1 hb2 hb3 hE) ?_)))
    refine vQ2 tab rfl rfl (vS tab rfl (vQ tab rfl (vnl (qth (vw_ret (q_ret (q_thenr ?_)))))))
    exact out_mk [8, 9, 10, 11] (.inr rfl) ⟨rfl, rfl⟩ rfl
      (vrel_tuple (lrel_cons (vrel_agg (lrel_cons (ri rfl) (lrel_cons (ri rfl) (lrel_cons (ri rfl) (lrel_cons (rel_slice (sigma_at (i := 0) (by simp [ownNames, *]) rfl) rfl) (lrel_cons (rel_slice (sigma_at (i := 1) (by simp [ownNames, *]) rfl) rfl) (lrel_cons (rel_slice (sigma_at (i := 2) (by simp [ownNames, *]) rfl) rfl) (lrel_cons (rel_slice (sigma_at (i := 3) (by simp [ownNames, *]) rfl) rfl) lrel_nil)))))))) (lrel_cons (.bool _) lrel_nil)))
        (op_drop (op_drop (op_drop (op_drop (op_cons (sigma_at (i := 0) (by simp [ownNames, *]) rfl) rfl rfl (ov_opn userR rfl) rfl (op_cons (sigma_at (i := 1) (by simp [ownNames, *]) rfl) rfl rfl (ov_opn sessR rfl) rfl (op_cons (sigma_at (i := 2) (by simp [ownNames, *]) rfl) rfl rfl (ov_opn addrR rfl) rfl (op_cons (sigma_at (i := 3) (by simp [ownNames, *]) rfl) rfl rfl (ov_opn (intR .i64) rfl) rfl op_nil))))))))
        (told_of (by simp [ownNames, stM]))
  · skip
    have k0 : (ev.kind == 0) = false := by rw [hk]; rfl
    have k1 : (ev.kind == 1) = false := by rw [hk]; rfl
    have k5 : (ev.kind == 5) = false := by rw [hk]; rfl
    have k6 : (ev.kind == 6) = false := by rw [hk]; rfl
    have k8 : (ev.kind == 8) = true := by rw [hk]; rfl
    have k9 : (ev.kind == 9) = false := by rw [hk]; rfl
    simp only [hk, if_true, if_false, show ¬ (8 : Int) = 0 by decide, show ¬ (8 : Int) = 1 by decide, show ¬ (8 : Int) = 5 by decide, show ¬ (8 : Int) = 6 by decide] at hE
    split at hE
    case isFalse => cases hE
    rename_i hq
    cases hE
    refine wsq (wrg (vN tab rfl (vN tab rfl (vN tab rfl (vN tab rfl (vQ tab rfl (vnl (qth (wsq (wsq (wrg (vQ2 tab rfl rfl (vnl (qth (wbk (wsq (wrg (vQ2 tab rfl rfl (vnl (qth (vcd_false rfl (by simp only [k0, k1, k5, k6, k8, k9, sl_]; first | done | omega) ?_)))))))))))))))))))))
    refine wsq (wrg (vQ2 tab rfl rfl (vnl (qth (vcd_false rfl (by simp only [k0, k1, k5, k6, k8, k9, sl_]; first | done | omega) ?_)))))
    refine wsq (wrg (vQ2 tab rfl rfl (vnl (qth (vcd_false rfl (by simp only [k0, k1, k5, k6, k8, k9, sl_]; first | done | omega) ?_)))))
    refine wsq (wrg (vQ2 tab rfl rfl (vnl (qth (vcd_true rfl (by simp only [k0, k1, k5, k6, k8, k9, sl_]; first | done | omega) ?_)))))
    refine wsq (wsq (wrg (vQ3 tab rfl rfl rfl (vnl (qth (vcd_false rfl (by simp only [k0, k1, k5, k6, k8, k9, sl_]; first | done | omega) ?_))))))
    refine vw_skip (qth (wsq (wrg (vQ4 tab rfl rfl rfl rfl (vS tab rfl (vnl (qth (wsq (wrg (vQ tab rfl (vS tab rfl (vQ tab rfl (vnl (qth (vw_ret (q_ret (q_thenr ?_)))))))))))))))))
    exact out_mk [0, 1, 2, 3] (.inr rfl) ⟨rfl, rfl⟩ rfl
      (vrel_tuple (lrel_cons (vrel_agg (lrel_cons (ri rfl) (lrel_cons (ri rfl) (lrel_cons (ri rfl) (lrel_cons (rel_slice (sigma_at (i := 0) (by simp [ownNames, *]) rfl) rfl) (lrel_cons (rel_slice (sigma_at (i := 1) (by simp [ownNames, *]) rfl) rfl) (lrel_cons (rel_slice (sigma_at (i := 2) (by simp [ownNames, *]) rfl) rfl) (lrel_cons (rel_slice (sigma_at (i := 3) (by simp [ownNames, *]) rfl) rfl) lrel_nil)))))))) (lrel_cons (.bool _) lrel_nil)))
        (op_drop (op_drop (op_drop (op_drop (op_cons (sigma_at (i := 0) (by simp [ownNames, *]) rfl) rfl rfl (ov_opn userR rfl) rfl (op_cons (sigma_at (i := 1) (by simp [ownNames, *]) rfl) rfl rfl (ov_opn sessR rfl) rfl (op_cons (sigma_at (i := 2) (by simp [ownNames, *]) rfl) rfl rfl (ov_opn addrR rfl) rfl (op_cons (sigma_at (i := 3) (by simp [ownNames, *]) rfl) rfl rfl (ov_opn (intR .i64) rfl) rfl op_nil))))))))
        (told_of (by simp [ownNames, stM]))
  · skip
    have k0 : (ev.kind == 0) = false := by rw [hk]; rfl
    have k1 : (ev.kind == 1) = false := by rw [hk]; rfl
    have k5 : (ev.kind == 5) = false := by rw [hk]; rfl
    have k6 : (ev.kind == 6) = false := by rw [hk]; rfl
    have k8 : (ev.kind == 8) = false := by rw [hk]; rfl
    have k9 : (ev.kind == 9) = true := by rw [hk]; rfl
    simp only [hk, if_true, if_false, show ¬ (9 : Int) = 0 by decide, show ¬ (9 : Int) = 1 by decide, show ¬ (9 : Int) = 5 by decide, show ¬ (9 : Int) = 6 by decide, show ¬ (9 : Int) = 8 by decide] at hE
    unfold spendE at hE
    split at hE
    case isTrue => cases hE
    rename_i hq
    have hq : s.spent.contains ev.session = false := by simpa using hq
    cases hE
    refine wsq (wrg (vN tab rfl (vN tab rfl (vN tab rfl (vN tab rfl (vQ tab rfl (vnl (qth (wsq (wsq (wrg (vQ2 tab rfl rfl (vnl (qth (wbk (wsq (wrg (vQ2 tab rfl rfl (vnl (qth (vcd_false rfl (by simp only [k0, k1, k5, k6, k8, k9, hq, sl_]; first | done | omega) ?_)))))))))))))))))))))
    refine wsq (wrg (vQ2 tab rfl rfl (vnl (qth (vcd_false rfl (by simp only [k0, k1, k5, k6, k8, k9, hq, sl_]; first | done | omega) ?_)))))
    refine wsq (wrg (vQ2 tab rfl rfl (vnl (qth (vcd_false rfl (by simp only [k0, k1, k5, k6, k8, k9, hq, sl_]; first | done | omega) ?_)))))
    refine wsq (wrg (vQ2 tab rfl rfl (vnl (qth (vcd_false rfl (by simp only [k0, k1, k5, k6, k8, k9, hq, sl_]; first | done | omega) ?_)))))
    refine wsq (wrg (vQ2 tab rfl rfl (vnl (qth (vcd_true rfl (by simp only [k0, k1, k5, k6, k8, k9, hq, sl_]; first | done | omega) ?_)))))
    refine wsq (wsq (wrg (vQ3 tab rfl rfl rfl (vR rfl callable_62 (refspent_tri (s := s) (looks_opn userR rfl rfl) (looks_opn sessR rfl rfl) (looks_opn addrR rfl rfl) (looks_opn (intR .i64) rfl rfl) (by omega) _) ?_))))
    refine vnl (qth (vcd_false rfl (by simp only [k0, k1, k5, k6, k8, k9, hq, sl_]; first | done | omega) ?_))
    refine vw_skip (qth (wsq (wrg (vQ4 tab rfl rfl rfl rfl (vN tab rfl (vo_op rfl rfl rfl (opr_ev tab (ev_app (intR .i64) (ys := [ev.session]) (m := 1) rfl rfl rfl rfl rfl rfl rfl rfl rfl (by show (_ + 1) * 8 ≤ _; omega) (by omega))) ?_))))))
    refine vQ tab rfl (vS tab rfl (vnl (qth (wsq (wrg (vQ tab rfl (vS tab rfl (vQ tab rfl (vnl (qth (vw_ret (q_ret (q_thenr ?_)))))))))))))
    exact out_mk [0, 1, 2, 9] (.inr rfl) ⟨rfl, rfl⟩ rfl
      (vrel_tuple (lrel_cons (vrel_agg (lrel_cons (ri rfl) (lrel_cons (ri rfl) (lrel_cons (ri rfl) (lrel_cons (rel_slice (sigma_at (i := 0) (by simp [ownNames, *]) rfl) rfl) (lrel_cons (rel_slice (sigma_at (i := 1) (by simp [ownNames, *]) rfl) rfl) (lrel_cons (rel_slice (sigma_at (i := 2) (by simp [ownNames, *]) rfl) rfl) (lrel_cons (rel_slice (sigma_at (i := 3) (by simp [ownNames, *]) rfl) (by simp)) lrel_nil)))))))) (lrel_cons (.bool _) lrel_nil)))
        (op_drop (op_drop (op_drop (op_drop (op_cons (sigma_at (i := 0) (by simp [ownNames, *]) rfl) rfl rfl (ov_opn userR rfl) rfl (op_cons (sigma_at (i := 1) (by simp [ownNames, *]) rfl) rfl rfl (ov_opn sessR rfl) rfl (op_cons (sigma_at (i := 2) (by simp [ownNames, *]) rfl) rfl rfl (ov_opn addrR rfl) rfl (op_cons (sigma_at (i := 3) (by simp [ownNames, *]) rfl) rfl rfl (ov_opn (intR .i64) rfl) rfl op_nil))))))))
        (told_of (by simp [ownNames, stM]))
  · skip
    have k0 : (ev.kind == 0) = false := by rcases hk with hk | hk | hk | hk <;> (rw [hk]; rfl)
    have k1 : (ev.kind == 1) = false := by rcases hk with hk | hk | hk | hk <;> (rw [hk]; rfl)
    have k5 : (ev.kind == 5) = false := by rcases hk with hk | hk | hk | hk <;> (rw [hk]; rfl)
    have k6 : (ev.kind == 6) = false := by rcases hk with hk | hk | hk | hk <;> (rw [hk]; rfl)
    have k8 : (ev.kind == 8) = false := by rcases hk with hk | hk | hk | hk <;> (rw [hk]; rfl)
    have k9 : (ev.kind == 9) = false := by rcases hk with hk | hk | hk | hk <;> (rw [hk]; rfl)
    have hq : ev.kind = 2 ∨ ev.kind = 3 ∨ ev.kind = 4 ∨ ev.kind = 7 := hk
    have hE : ofE cf s ev = some s' := by
      rcases hk with hk | hk | hk | hk <;> (rw [hk] at hE; simpa using hE)
    cases hk1 : userAt s.users ev.user with
    | none => rw [ofE_none hk1] at hE; cases hE
    | some j =>
    obtain ⟨hjl, hfi⟩ := user_found hk1
    have hj : s.users[j]? = some s.users[j] := List.getElem?_eq_getElem hjl
    rw [ofE_eq hk1 hj] at hE
    cases hw : ofU cf ev s.users[j] with
    | none => rw [hw] at hE; cases hE
    | some w =>
    rw [hw] at hE; cases hE
    refine wsq (wrg (vN tab rfl (vN tab rfl (vN tab rfl (vN tab rfl (vQ tab rfl (vnl (qth (wsq (wsq (wrg (vQ2 tab rfl rfl (vnl (qth (wbk (wsq (wrg (vQ2 tab rfl rfl (vnl (qth (vcd_false rfl (by simp only [k0, k1, k5, k6, k8, k9, sl_]; first | done | omega) ?_)))))))))))))))))))))
    refine wsq (wrg (vQ2 tab rfl rfl (vnl (qth (vcd_false rfl (by simp only [k0, k1, k5, k6, k8, k9, sl_]; first | done | omega) ?_)))))
    refine wsq (wrg (vQ2 tab rfl rfl (vnl (qth (vcd_false rfl (by simp only [k0, k1, k5, k6, k8, k9, sl_]; first | done | omega) ?_)))))
    refine wsq (wrg (vQ2 tab rfl rfl (vnl (qth (vcd_false rfl (by simp only [k0, k1, k5, k6, k8, k9, sl_]; first | done | omega) ?_)))))
    refine wsq (wrg (vQ2 tab rfl rfl (vnl (qth (vcd_false rfl (by simp only [k0, k1, k5, k6, k8, k9, sl_]; first | done | omega) ?_)))))
    refine wsq (wrg (vQ2 tab rfl rfl (vnl (qth (vcd_false rfl (by simp only [k0, k1, k5, k6, k8, k9, sl_]; first | done | omega) ?_)))))
    refine vw_skip (q_norm (qth (wsq (wrg (vQ3 tab rfl rfl rfl (vR rfl callable_64 (refuser_as (s := s) _ hfi (looks_opn userR rfl rfl) (looks_opn sessR rfl rfl) (looks_opn addrR rfl rfl) (looks_opn (intR .i64) rfl rfl) (by omega)) ?_))))))
    refine vQ tab rfl (vnl (qth (wsq (wsq (wrg (vQ2 tab rfl rfl (vnl (qth (vc_false rfl (vw_skip (qth (wsq (wrg (vQ4 tab rfl rfl rfl rfl (vT rfl callable_65 (refturn_ok (s := s) ⟨rfl, rfl, rfl, rfl, by decide⟩ (by decide) hb1 hj hq hw) ?_)))))))))))))))
    refine vQ2 tab rfl rfl (vS tab rfl (vQ tab rfl (vnl (qth (vw_ret ?_)))))
    exact out_mk [8, 9, 10, 11] (.inr rfl) ⟨rfl, rfl⟩ rfl
      (vrel_tuple (lrel_cons (vrel_agg (lrel_cons (ri rfl) (lrel_cons (ri rfl) (lrel_cons (ri rfl) (lrel_cons (rel_slice (sigma_at (i := 0) (by simp [ownNames, *]) rfl) rfl) (lrel_cons (rel_slice (sigma_at (i := 1) (by simp [ownNames, *]) rfl) rfl) (lrel_cons (rel_slice (sigma_at (i := 2) (by simp [ownNames, *]) rfl) rfl) (lrel_cons (rel_slice (sigma_at (i := 3) (by simp [ownNames, *]) rfl) rfl) lrel_nil)))))))) (lrel_cons (.bool _) lrel_nil)))
        (op_drop (op_drop (op_drop (op_drop (op_cons (sigma_at (i := 0) (by simp [ownNames, *]) rfl) rfl rfl (ov_opn userR rfl) rfl (op_cons (sigma_at (i := 1) (by simp [ownNames, *]) rfl) rfl rfl (ov_opn sessR rfl) rfl (op_cons (sigma_at (i := 2) (by simp [ownNames, *]) rfl) rfl rfl (ov_opn addrR rfl) rfl (op_cons (sigma_at (i := 3) (by simp [ownNames, *]) rfl) rfl rfl (ov_opn (intR .i64) rfl) rfl op_nil))))))))
        (told_of (by simp [ownNames, stM]))
theorem refapplied_no (h : OwnS V u x a p s) (hi : ∀ i ∈ [u, x, a, p], i < n) (hb1 : s.users.length * 72 ≤ 140737488355000) (hb2 : s.sess.length * 32 ≤ 140737488355000) (hb3 : s.addrs.length * 24 ≤ 140737488355328) (hb4 : s.spent.length * 8 ≤ 140737488355000) (hm : evtMay ev = true) (hE : doesE cf s ev = none) :
    Tri Tryz.prog 31 [confV cf, stV u x a p s, evtV ev] n 4 V (fun r L => r = .tuple #[stV n (n + 1) (n + 2) (n + 3) (applF cf s ev), .bool false] ∧ L = stM u x a p n (applF cf s ev)) := by
  by_cases hk0 : ev.kind = 0
  · have hE0 : bootE cf s ev = none := by unfold doesE at hE; rw [if_pos hk0] at hE; exact hE
    obtain ⟨t, hr⟩ := bootR_no hE0
    rw [show applF cf s ev = t by unfold applF; rw [if_pos hk0, hr]]
    have hk := hk0
    obtain ⟨hu, hx, ha, hp, hn⟩ := h
    simp only [List.nodup_cons, List.mem_cons, List.not_mem_nil, or_false, not_or, List.nodup_nil, and_true, not_false_eq_true] at hn
    obtain ⟨⟨d1, d2, d3⟩, ⟨e1, e2⟩, f1⟩ := hn
    simp only [List.mem_cons, List.not_mem_nil, or_false, forall_eq_or_imp, forall_eq] at hi
    obtain ⟨l1, l2, l3, l4⟩ := hi
    refine call_of_vw (K := 4) (argsI := [confV cf, .agg #[.int .i64 s.boots, .int .i64 s.epoch, .int .i64 s.next, .slice (some ⟨0, 0, none⟩) s.users.length 0, .slice (some ⟨1, 0, none⟩) s.sess.length 0, .slice (some ⟨2, 0, none⟩) s.addrs.length 0, .slice (some ⟨3, 0, none⟩) s.spent.length 0], evtV ev]) tab Tryz.func31 rfl rfl (by simp [Tryz.f31]) [.own u, .own x, .own a, .own p] [.opn (userR.cells s.users) 76 9, .opn (sessR.cells s.sess) 78 4, .opn (addrR.cells s.addrs) 80 3, .opn ((intR .i64).cells s.spent) 3 1] rfl (.own hu (ov_opn userR rfl) (.own hx (ov_opn sessR rfl) (.own ha (ov_opn addrR rfl) (.own hp (ov_opn (intR .i64) rfl) .nil)))) (by simp [ownNames, *]) (by simp [ownNames, lookNames, *]) (by simp [ownNames, *]) (al_cons (.val (confRel cf)) (al_cons (ar_agg (al_cons (.val (.int _ _)) (al_cons (.val (.int _ _)) (al_cons (.val (.int _ _)) (al_cons (.val (rel_slice rfl rfl)) (al_cons (.val (rel_slice rfl rfl)) (al_cons (.val (rel_slice rfl rfl)) (al_cons (.val (rel_slice rfl rfl)) al_nil)))))))) (al_cons (.val (evtRel ev)) al_nil))) (seen_of (sn_own (sn_own (sn_own (sn_own sn_nil))))) ?_
    have k0 : (ev.kind == 0) = true := by rw [hk]; rfl
    have k1 : (ev.kind == 1) = false := by rw [hk]; rfl
    have k5 : (ev.kind == 5) = false := by rw [hk]; rfl
    have k6 : (ev.kind == 6) = false := by rw [hk]; rfl
    have k8 : (ev.kind == 8) = false := by rw [hk]; rfl
    have k9 : (ev.kind == 9) = false := by rw [hk]; rfl
    refine wsq (wrg (vN tab rfl (vN tab rfl (vN tab rfl (vN tab rfl (vQ tab rfl (vnl (qth (wsq (wsq (wrg (vQ2 tab rfl rfl (vnl (qth (wbk (wsq (wrg (vQ2 tab rfl rfl (vnl (qth (vcd_true rfl (by simp only [k0, k1, k5, k6, k8, k9, sl_]; first | done | omega) ?_)))))))))))))))))))))
    refine wsq (wrg (vQ3 tab rfl rfl rfl (vT rfl callable_59 (refboot_as hr ⟨rfl, rfl, rfl, rfl, by decide⟩ (by decide) (by omega) (by omega)) ?_)))
    refine vQ2 tab rfl rfl (vS tab rfl (vQ tab rfl (vnl (qth (vw_ret (q_ret (q_thenr ?_)))))))
    exact out_mk [8, 9, 10, 11] (.inr rfl) ⟨rfl, rfl⟩ rfl
      (vrel_tuple (lrel_cons (vrel_agg (lrel_cons (ri rfl) (lrel_cons (ri rfl) (lrel_cons (ri rfl) (lrel_cons (rel_slice (sigma_at (i := 0) (by simp [ownNames, *]) rfl) rfl) (lrel_cons (rel_slice (sigma_at (i := 1) (by simp [ownNames, *]) rfl) rfl) (lrel_cons (rel_slice (sigma_at (i := 2) (by simp [ownNames, *]) rfl) rfl) (lrel_cons (rel_slice (sigma_at (i := 3) (by simp [ownNames, *]) rfl) rfl) lrel_nil)))))))) (lrel_cons (.bool _) lrel_nil)))
        (op_drop (op_drop (op_drop (op_drop (op_cons (sigma_at (i := 0) (by simp [ownNames, *]) rfl) rfl rfl (ov_opn userR rfl) rfl (op_cons (sigma_at (i := 1) (by simp [ownNames, *]) rfl) rfl rfl (ov_opn sessR rfl) rfl (op_cons (sigma_at (i := 2) (by simp [ownNames, *]) rfl) rfl rfl (ov_opn addrR rfl) rfl (op_cons (sigma_at (i := 3) (by simp [ownNames, *]) rfl) rfl rfl (ov_opn (intR .i64) rfl) rfl op_nil))))))))
        (told_of (by simp [ownNames, stM]))
  rw [show applF cf s ev = s from if_neg hk0]
  obtain ⟨hu, hx, ha, hp, hn⟩ := h
  simp only [List.nodup_cons, List.mem_cons, List.not_mem_nil, or_false, not_or, List.nodup_nil, and_true, not_false_eq_true] at hn
  obtain ⟨⟨d1, d2, d3⟩, ⟨e1, e2⟩, f1⟩ := hn
  simp only [List.mem_cons, List.not_mem_nil, or_false, forall_eq_or_imp, forall_eq] at hi
  obtain ⟨l1, l2, l3, l4⟩ := hi
  refine call_of_vw (K := 4) (argsI := [confV cf, .agg #[.int .i64 s.boots, .int .i64 s.epoch, .int .i64 s.next, .slice (some ⟨0, 0, none⟩) s.users.length 0, .slice (some ⟨1, 0, none⟩) s.sess.length 0, .slice (some ⟨2, 0, none⟩) s.addrs.length 0, .slice (some ⟨3, 0, none⟩) s.spent.length 0], evtV ev]) tab Tryz.func31 rfl rfl (by simp [Tryz.f31]) [.own u, .own x, .own a, .own p] [.opn (userR.cells s.users) 76 9, .opn (sessR.cells s.sess) 78 4, .opn (addrR.cells s.addrs) 80 3, .opn ((intR .i64).cells s.spent) 3 1] rfl (.own hu (ov_opn userR rfl) (.own hx (ov_opn sessR rfl) (.own ha (ov_opn addrR rfl) (.own hp (ov_opn (intR .i64) rfl) .nil)))) (by simp [ownNames, *]) (by simp [ownNames, lookNames, *]) (by simp [ownNames, *]) (al_cons (.val (confRel cf)) (al_cons (ar_agg (al_cons (.val (.int _ _)) (al_cons (.val (.int _ _)) (al_cons (.val (.int _ _)) (al_cons (.val (rel_slice rfl rfl)) (al_cons (.val (rel_slice rfl rfl)) (al_cons (.val (rel_slice rfl rfl)) (al_cons (.val (rel_slice rfl rfl)) al_nil)))))))) (al_cons (.val (evtRel ev)) al_nil))) (seen_of (sn_own (sn_own (sn_own (sn_own sn_nil))))) ?_
  unfold doesE at hE
  rcases kind_split hm with hk | hk | hk | hk | hk | hk | hk
  · exact absurd hk hk0
  · skip
    have k0 : (ev.kind == 0) = false := by rw [hk]; rfl
    have k1 : (ev.kind == 1) = true := by rw [hk]; rfl
    have k5 : (ev.kind == 5) = false := by rw [hk]; rfl
    have k6 : (ev.kind == 6) = false := by rw [hk]; rfl
    have k8 : (ev.kind == 8) = false := by rw [hk]; rfl
    have k9 : (ev.kind == 9) = false := by rw [hk]; rfl
    simp only [hk, if_true, if_false, show ¬ (1 : Int) = 0 by decide] at hE
    unfold userE at hE
    cases hk1 : userAt s.users ev.user with
    | none => rw [hk1] at hE; cases hE
    | some j =>
    refine wsq (wrg (vN tab rfl (vN tab rfl (vN tab rfl (vN tab rfl (vQ tab rfl (vnl (qth (wsq (wsq (wrg (vQ2 tab rfl rfl (vnl (qth (wbk (wsq (wrg (vQ2 tab rfl rfl (vnl (qth (vcd_false rfl (by simp only [k0, k1, k5, k6, k8, k9, sl_]; first | done | omega) ?_)))))))))))))))))))))
    refine wsq (wrg (vQ2 tab rfl rfl (vnl (qth (vcd_false rfl (by simp only [k0, k1, k5, k6, k8, k9, sl_]; first | done | omega) ?_)))))
    refine wsq (wrg (vQ2 tab rfl rfl (vnl (qth (vcd_false rfl (by simp only [k0, k1, k5, k6, k8, k9, sl_]; first | done | omega) ?_)))))
    refine wsq (wrg (vQ2 tab rfl rfl (vnl (qth (vcd_false rfl (by simp only [k0, k1, k5, k6, k8, k9, sl_]; first | done | omega) ?_)))))
    refine wsq (wrg (vQ2 tab rfl rfl (vnl (qth (vcd_false rfl (by simp only [k0, k1, k5, k6, k8, k9, sl_]; first | done | omega) ?_)))))
    refine wsq (wrg (vQ2 tab rfl rfl (vnl (qth (vcd_true rfl (by simp only [k0, k1, k5, k6, k8, k9, sl_]; first | done | omega) ?_)))))
    refine wsq (wrg (vQ2 tab rfl rfl (vT rfl callable_63 (refadd_no (s := s) ⟨rfl, rfl, rfl, rfl, by decide⟩ (by decide) hb1 hk1) ?_)))
    refine vQ2 tab rfl rfl (vS tab rfl (vQ tab rfl (vnl (qth (vw_ret (q_ret (q_thenr ?_)))))))
    exact out_mk [8, 9, 10, 11] (.inr rfl) ⟨rfl, rfl⟩ rfl
      (vrel_tuple (lrel_cons (vrel_agg (lrel_cons (ri rfl) (lrel_cons (ri rfl) (lrel_cons (ri rfl) (lrel_cons (rel_slice (sigma_at (i := 0) (by simp [ownNames, *]) rfl) rfl) (lrel_cons (rel_slice (sigma_at (i := 1) (by simp [ownNames, *]) rfl) rfl) (lrel_cons (rel_slice (sigma_at (i := 2) (by simp [ownNames, *]) rfl) rfl) (lrel_cons (rel_slice (sigma_at (i := 3) (by simp [ownNames, *]) rfl) rfl) lrel_nil)))))))) (lrel_cons (.bool _) lrel_nil)))
        (op_drop (op_drop (op_drop (op_drop (op_cons (sigma_at (i := 0) (by simp [ownNames, *]) rfl) rfl rfl (ov_opn userR rfl) rfl (op_cons (sigma_at (i := 1) (by simp [ownNames, *]) rfl) rfl rfl (ov_opn sessR rfl) rfl (op_cons (sigma_at (i := 2) (by simp [ownNames, *]) rfl) rfl rfl (ov_opn addrR rfl) rfl (op_cons (sigma_at (i := 3) (by simp [ownNames, *]) rfl) rfl rfl (ov_opn (intR .i64) rfl) rfl op_nil))))))))
        (told_of (by simp [ownNames, stM]))
  · skip
    have k0 : (ev.kind == 0) = false := by rw [hk]; rfl
    have k1 : (ev.kind == 1) = false := by rw [hk]; rfl
    have k5 : (ev.kind == 5) = true := by rw [hk]; rfl
    have k6 : (ev.kind == 6) = false := by rw [hk]; rfl
    have k8 : (ev.kind == 8) = false := by rw [hk]; rfl
    have k9 : (ev.kind == 9) = false := by rw [hk]; rfl
    simp only [hk, if_true, if_false, show ¬ (5 : Int) = 0 by decide, show ¬ (5 : Int) = 1 by decide] at hE
    refine wsq (wrg (vN tab rfl (vN tab rfl (vN tab rfl (vN tab rfl (vQ tab rfl (vnl (qth (wsq (wsq (wrg (vQ2 tab rfl rfl (vnl (qth (wbk (wsq (wrg (vQ2 tab rfl rfl (vnl (qth (vcd_false rfl (by simp only [k0, k1, k5, k6, k8, k9, sl_]; first | done | omega) ?_)))))))))))))))))))))
    refine wsq (wrg (vQ2 tab rfl rfl (vnl (qth (vcd_true rfl (by simp only [k0, k1, k5, k6, k8, k9, sl_]; first | done | omega) ?_)))))
    refine wsq (wrg (vQ3 tab rfl rfl rfl (vT rfl callable_60 (reflease_no (s := s) ⟨rfl, rfl, rfl, rfl, by decide⟩ (by decide) hb1 hb2 hb3 hE) ?_)))
    refine vQ2 tab rfl rfl (vS tab rfl (vQ tab rfl (vnl (qth (vw_ret (q_ret (q_thenr ?_)))))))
    exact out_mk [8, 9, 10, 11] (.inr rfl) ⟨rfl, rfl⟩ rfl
      (vrel_tuple (lrel_cons (vrel_agg (lrel_cons (ri rfl) (lrel_cons (ri rfl) (lrel_cons (ri rfl) (lrel_cons (rel_slice (sigma_at (i := 0) (by simp [ownNames, *]) rfl) rfl) (lrel_cons (rel_slice (sigma_at (i := 1) (by simp [ownNames, *]) rfl) rfl) (lrel_cons (rel_slice (sigma_at (i := 2) (by simp [ownNames, *]) rfl) rfl) (lrel_cons (rel_slice (sigma_at (i := 3) (by simp [ownNames, *]) rfl) rfl) lrel_nil)))))))) (lrel_cons (.bool _) lrel_nil)))
        (op_drop (op_drop (op_drop (op_drop (op_cons (sigma_at (i := 0) (by simp [ownNames, *]) rfl) rfl rfl (ov_opn userR rfl) rfl (op_cons (sigma_at (i := 1) (by simp [ownNames, *]) rfl) rfl rfl (ov_opn sessR rfl) rfl (op_cons (sigma_at (i := 2) (by simp [ownNames, *]) rfl) rfl rfl (ov_opn addrR rfl) rfl (op_cons (sigma_at (i := 3) (by simp [ownNames, *]) rfl) rfl rfl (ov_opn (intR .i64) rfl) rfl op_nil))))))))
        (told_of (by simp [ownNames, stM]))
  · skip
    have k0 : (ev.kind == 0) = false := by rw [hk]; rfl
    have k1 : (ev.kind == 1) = false := by rw [hk]; rfl
    have k5 : (ev.kind == 5) = false := by rw [hk]; rfl
    have k6 : (ev.kind == 6) = true := by rw [hk]; rfl
    have k8 : (ev.kind == 8) = false := by rw [hk]; rfl
    have k9 : (ev.kind == 9) = false := by rw [hk]; rfl
    simp only [hk, if_true, if_false, show ¬ (6 : Int) = 0 by decide, show ¬ (6 : Int) = 1 by decide, show ¬ (6 : Int) = 5 by decide] at hE
    refine wsq (wrg (vN tab rfl (vN tab rfl (vN tab rfl (vN tab rfl (vQ tab rfl (vnl (qth (wsq (wsq (wrg (vQ2 tab rfl rfl (vnl (qth (wbk (wsq (wrg (vQ2 tab rfl rfl (vnl (qth (vcd_false rfl (by simp only [k0, k1, k5, k6, k8, k9, sl_]; first | done | omega) ?_)))))))))))))))))))))
    refine wsq (wrg (vQ2 tab rfl rfl (vnl (qth (vcd_false rfl (by simp only [k0, k1, k5, k6, k8, k9, sl_]; first | done | omega) ?_)))))
    refine wsq (wrg (vQ2 tab rfl rfl (vnl (qth (vcd_true rfl (by simp only [k0, k1, k5, k6, k8, k9, sl_]; first | done | omega) ?_)))))
    refine wsq (wrg (vQ2 tab rfl rfl (vT rfl callable_61 (refclose_no (s := s) ⟨rfl, rfl, rfl, rfl, by decide⟩ (by decide) hb1 hb2 hb3 hE) ?_)))
    refine vQ2 tab rfl rfl (vS tab rfl (vQ tab rfl (vnl (qth (vw_ret (q_ret (q_thenr ?_)))))))
    exact out_mk [8, 9, 10, 11] (.inr rfl) ⟨rfl, rfl⟩ rfl
      (vrel_tuple (lrel_cons (vrel_agg (lrel_cons (ri rfl) (lrel_cons (ri rfl) (lrel_cons (ri rfl) (lrel_cons (rel_slice (sigma_at (i := 0) (by simp [ownNames, *]) rfl) rfl) (lrel_cons (rel_slice (sigma_at (i := 1) (by simp [ownNames, *]) rfl) rfl) (lrel_cons (rel_slice (sigma_at (i := 2) (by simp [ownNames, *]) rfl) rfl) (lrel_cons (rel_slice (sigma_at (i := 3) (by simp [ownNames, *]) rfl) rfl) lrel_nil)))))))) (lrel_cons (.bool _) lrel_nil)))
        (op_drop (op_drop (op_drop (op_drop (op_cons (sigma_at (i := 0) (by simp [ownNames, *]) rfl) rfl rfl (ov_opn userR rfl) rfl (op_cons (sigma_at (i := 1) (by simp [ownNames, *]) rfl) rfl rfl (ov_opn sessR rfl) rfl (op_cons (sigma_at (i := 2) (by simp [ownNames, *]) rfl) rfl rfl (ov_opn addrR rfl) rfl (op_cons (sigma_at (i := 3) (by simp [ownNames, *]) rfl) rfl rfl (ov_opn (intR .i64) rfl) rfl op_nil))))))))
        (told_of (by simp [ownNames, stM]))
  · skip
    have k0 : (ev.kind == 0) = false := by rw [hk]; rfl
    have k1 : (ev.kind == 1) = false := by rw [hk]; rfl
    have k5 : (ev.kind == 5) = false := by rw [hk]; rfl
    have k6 : (ev.kind == 6) = false := by rw [hk]; rfl
    have k8 : (ev.kind == 8) = true := by rw [hk]; rfl
    have k9 : (ev.kind == 9) = false := by rw [hk]; rfl
    simp only [hk, if_true, if_false, show ¬ (8 : Int) = 0 by decide, show ¬ (8 : Int) = 1 by decide, show ¬ (8 : Int) = 5 by decide, show ¬ (8 : Int) = 6 by decide] at hE
    split at hE
    case isTrue => cases hE
    rename_i hq
    refine wsq (wrg (vN tab rfl (vN tab rfl (vN tab rfl (vN tab rfl (vQ tab rfl (vnl (qth (wsq (wsq (wrg (vQ2 tab rfl rfl (vnl (qth (wbk (wsq (wrg (vQ2 tab rfl rfl (vnl (qth (vcd_false rfl (by simp only [k0, k1, k5, k6, k8, k9, sl_]; first | done | omega) ?_)))))))))))))))))))))
    refine wsq (wrg (vQ2 tab rfl rfl (vnl (qth (vcd_false rfl (by simp only [k0, k1, k5, k6, k8, k9, sl_]; first | done | omega) ?_)))))
    refine wsq (wrg (vQ2 tab rfl rfl (vnl (qth (vcd_false rfl (by simp only [k0, k1, k5, k6, k8, k9, sl_]; first | done | omega) ?_)))))
    refine wsq (wrg (vQ2 tab rfl rfl (vnl (qth (vcd_true rfl (by simp only [k0, k1, k5, k6, k8, k9, sl_]; first | done | omega) ?_)))))
    refine wsq (wsq (wrg (vQ3 tab rfl rfl rfl (vnl (qth (vcd_true rfl (by simp only [k0, k1, k5, k6, k8, k9, sl_]; first | done | omega) ?_))))))
    refine wsq (wrg (vQ tab rfl (vS tab rfl (vQ tab rfl (vnl (qth (vw_ret (q_thenr (q_ret (q_thenr ?_))))))))))
    exact out_mk [0, 1, 2, 3] (.inr rfl) ⟨rfl, rfl⟩ rfl
      (vrel_tuple (lrel_cons (vrel_agg (lrel_cons (ri rfl) (lrel_cons (ri rfl) (lrel_cons (ri rfl) (lrel_cons (rel_slice (sigma_at (i := 0) (by simp [ownNames, *]) rfl) rfl) (lrel_cons (rel_slice (sigma_at (i := 1) (by simp [ownNames, *]) rfl) rfl) (lrel_cons (rel_slice (sigma_at (i := 2) (by simp [ownNames, *]) rfl) rfl) (lrel_cons (rel_slice (sigma_at (i := 3) (by simp [ownNames, *]) rfl) rfl) lrel_nil)))))))) (lrel_cons (.bool _) lrel_nil)))
        (op_drop (op_drop (op_drop (op_drop (op_cons (sigma_at (i := 0) (by simp [ownNames, *]) rfl) rfl rfl (ov_opn userR rfl) rfl (op_cons (sigma_at (i := 1) (by simp [ownNames, *]) rfl) rfl rfl (ov_opn sessR rfl) rfl (op_cons (sigma_at (i := 2) (by simp [ownNames, *]) rfl) rfl rfl (ov_opn addrR rfl) rfl (op_cons (sigma_at (i := 3) (by simp [ownNames, *]) rfl) rfl rfl (ov_opn (intR .i64) rfl) rfl op_nil))))))))
        (told_of (by simp [ownNames, stM]))
  · skip
    have k0 : (ev.kind == 0) = false := by rw [hk]; rfl
    have k1 : (ev.kind == 1) = false := by rw [hk]; rfl
    have k5 : (ev.kind == 5) = false := by rw [hk]; rfl
    have k6 : (ev.kind == 6) = false := by rw [hk]; rfl
    have k8 : (ev.kind == 8) = false := by rw [hk]; rfl
    have k9 : (ev.kind == 9) = true := by rw [hk]; rfl
    simp only [hk, if_true, if_false, show ¬ (9 : Int) = 0 by decide, show ¬ (9 : Int) = 1 by decide, show ¬ (9 : Int) = 5 by decide, show ¬ (9 : Int) = 6 by decide, show ¬ (9 : Int) = 8 by decide] at hE
    unfold spendE at hE
    split at hE
    case isFalse => cases hE
    rename_i hq
    refine wsq (wrg (vN tab rfl (vN tab rfl (vN tab rfl (vN tab rfl (vQ tab rfl (vnl (qth (wsq (wsq (wrg (vQ2 tab rfl rfl (vnl (qth (wbk (wsq (wrg (vQ2 tab rfl rfl (vnl (qth (vcd_false rfl (by simp only [k0, k1, k5, k6, k8, k9, hq, sl_]; first | done | omega) ?_)))))))))))))))))))))
    refine wsq (wrg (vQ2 tab rfl rfl (vnl (qth (vcd_false rfl (by simp only [k0, k1, k5, k6, k8, k9, hq, sl_]; first | done | omega) ?_)))))
    refine wsq (wrg (vQ2 tab rfl rfl (vnl (qth (vcd_false rfl (by simp only [k0, k1, k5, k6, k8, k9, hq, sl_]; first | done | omega) ?_)))))
    refine wsq (wrg (vQ2 tab rfl rfl (vnl (qth (vcd_false rfl (by simp only [k0, k1, k5, k6, k8, k9, hq, sl_]; first | done | omega) ?_)))))
    refine wsq (wrg (vQ2 tab rfl rfl (vnl (qth (vcd_true rfl (by simp only [k0, k1, k5, k6, k8, k9, hq, sl_]; first | done | omega) ?_)))))
    refine wsq (wsq (wrg (vQ3 tab rfl rfl rfl (vR rfl callable_62 (refspent_tri (s := s) (looks_opn userR rfl rfl) (looks_opn sessR rfl rfl) (looks_opn addrR rfl rfl) (looks_opn (intR .i64) rfl rfl) (by omega) _) ?_))))
    refine vnl (qth (vcd_true rfl (by simp only [k0, k1, k5, k6, k8, k9, hq, sl_]; first | done | omega) ?_))
    refine wsq (wrg (vQ tab rfl (vS tab rfl (vQ tab rfl (vnl (qth (vw_ret (q_thenr (q_ret (q_thenr ?_))))))))))
    exact out_mk [0, 1, 2, 3] (.inr rfl) ⟨rfl, rfl⟩ rfl
      (vrel_tuple (lrel_cons (vrel_agg (lrel_cons (ri rfl) (lrel_cons (ri rfl) (lrel_cons (ri rfl) (lrel_cons (rel_slice (sigma_at (i := 0) (by simp [ownNames, *]) rfl) rfl) (lrel_cons (rel_slice (sigma_at (i := 1) (by simp [ownNames, *]) rfl) rfl) (lrel_cons (rel_slice (sigma_at (i := 2) (by simp [ownNames, *]) rfl) rfl) (lrel_cons (rel_slice (sigma_at (i := 3) (by simp [ownNames, *]) rfl) rfl) lrel_nil)))))))) (lrel_cons (.bool _) lrel_nil)))
        (op_drop (op_drop (op_drop (op_drop (op_cons (sigma_at (i := 0) (by simp [ownNames, *]) rfl) rfl rfl (ov_opn userR rfl) rfl (op_cons (sigma_at (i := 1) (by simp [ownNames, *]) rfl) rfl rfl (ov_opn sessR rfl) rfl (op_cons (sigma_at (i := 2) (by simp [ownNames, *]) rfl) rfl rfl (ov_opn addrR rfl) rfl (op_cons (sigma_at (i := 3) (by simp [ownNames, *]) rfl) rfl rfl (ov_opn (intR .i64) rfl) rfl op_nil))))))))
        (told_of (by simp [ownNames, stM]))
  · skip
    have k0 : (ev.kind == 0) = false := by rcases hk with hk | hk | hk | hk <;> (rw [hk]; rfl)
    have k1 : (ev.kind == 1) = false := by rcases hk with hk | hk | hk | hk <;> (rw [hk]; rfl)
    have k5 : (ev.kind == 5) = false := by rcases hk with hk | hk | hk | hk <;> (rw [hk]; rfl)
    have k6 : (ev.kind == 6) = false := by rcases hk with hk | hk | hk | hk <;> (rw [hk]; rfl)
    have k8 : (ev.kind == 8) = false := by rcases hk with hk | hk | hk | hk <;> (rw [hk]; rfl)
    have k9 : (ev.kind == 9) = false := by rcases hk with hk | hk | hk | hk <;> (rw [hk]; rfl)
    have hq : ev.kind = 2 ∨ ev.kind = 3 ∨ ev.kind = 4 ∨ ev.kind = 7 := hk
    have hE : ofE cf s ev = none := by
      rcases hk with hk | hk | hk | hk <;> (rw [hk] at hE; simpa using hE)
    cases hk1 : userAt s.users ev.user with
    | none =>
      have hfi := user_absent hk1
      refine wsq (wrg (vN tab rfl (vN tab rfl (vN tab rfl (vN tab rfl (vQ tab rfl (vnl (qth (wsq (wsq (wrg (vQ2 tab rfl rfl (vnl (qth (wbk (wsq (wrg (vQ2 tab rfl rfl (vnl (qth (vcd_false rfl (by simp only [k0, k1, k5, k6, k8, k9, sl_]; first | done | omega) ?_)))))))))))))))))))))
      refine wsq (wrg (vQ2 tab rfl rfl (vnl (qth (vcd_false rfl (by simp only [k0, k1, k5, k6, k8, k9, sl_]; first | done | omega) ?_)))))
      refine wsq (wrg (vQ2 tab rfl rfl (vnl (qth (vcd_false rfl (by simp only [k0, k1, k5, k6, k8, k9, sl_]; first | done | omega) ?_)))))
      refine wsq (wrg (vQ2 tab rfl rfl (vnl (qth (vcd_false rfl (by simp only [k0, k1, k5, k6, k8, k9, sl_]; first | done | omega) ?_)))))
      refine wsq (wrg (vQ2 tab rfl rfl (vnl (qth (vcd_false rfl (by simp only [k0, k1, k5, k6, k8, k9, sl_]; first | done | omega) ?_)))))
      refine wsq (wrg (vQ2 tab rfl rfl (vnl (qth (vcd_false rfl (by simp only [k0, k1, k5, k6, k8, k9, sl_]; first | done | omega) ?_)))))
      refine vw_skip (q_norm (qth (wsq (wrg (vQ3 tab rfl rfl rfl (vR rfl callable_64 (refuser_as (s := s) _ hfi (looks_opn userR rfl rfl) (looks_opn sessR rfl rfl) (looks_opn addrR rfl rfl) (looks_opn (intR .i64) rfl rfl) (by omega)) ?_))))))
      refine vQ tab rfl (vnl (qth (wsq (wsq (wrg (vQ2 tab rfl rfl (vnl (qth (vc_true rfl (wsq (wrg (vQ tab rfl (vS tab rfl (vQ tab rfl (vnl (qth (vw_ret (q_thenr ?_))))))))))))))))))
      exact out_mk [0, 1, 2, 3] (.inr rfl) ⟨rfl, rfl⟩ rfl
        (vrel_tuple (lrel_cons (vrel_agg (lrel_cons (ri rfl) (lrel_cons (ri rfl) (lrel_cons (ri rfl) (lrel_cons (rel_slice (sigma_at (i := 0) (by simp [ownNames, *]) rfl) rfl) (lrel_cons (rel_slice (sigma_at (i := 1) (by simp [ownNames, *]) rfl) rfl) (lrel_cons (rel_slice (sigma_at (i := 2) (by simp [ownNames, *]) rfl) rfl) (lrel_cons (rel_slice (sigma_at (i := 3) (by simp [ownNames, *]) rfl) rfl) lrel_nil)))))))) (lrel_cons (.bool _) lrel_nil)))
          (op_drop (op_drop (op_drop (op_drop (op_cons (sigma_at (i := 0) (by simp [ownNames, *]) rfl) rfl rfl (ov_opn userR rfl) rfl (op_cons (sigma_at (i := 1) (by simp [ownNames, *]) rfl) rfl rfl (ov_opn sessR rfl) rfl (op_cons (sigma_at (i := 2) (by simp [ownNames, *]) rfl) rfl rfl (ov_opn addrR rfl) rfl (op_cons (sigma_at (i := 3) (by simp [ownNames, *]) rfl) rfl rfl (ov_opn (intR .i64) rfl) rfl op_nil))))))))
          (told_of (by simp [ownNames, stM]))
    | some j =>
    obtain ⟨hjl, hfi⟩ := user_found hk1
    have hj : s.users[j]? = some s.users[j] := List.getElem?_eq_getElem hjl
    rw [ofE_eq hk1 hj] at hE
    cases hw : ofU cf ev s.users[j] with
    | some w => rw [hw] at hE; cases hE
    | none =>
    refine wsq (wrg (vN tab rfl (vN tab rfl (vN tab rfl (vN tab rfl (vQ tab rfl (vnl (qth (wsq (wsq (wrg (vQ2 tab rfl rfl (vnl (qth (wbk (wsq (wrg (vQ2 tab rfl rfl (vnl (qth (vcd_false rfl (by simp only [k0, k1, k5, k6, k8, k9, sl_]; first | done | omega) ?_)))))))))))))))))))))
    refine wsq (wrg (vQ2 tab rfl rfl (vnl (qth (vcd_false rfl (by simp only [k0, k1, k5, k6, k8, k9, sl_]; first | done | omega) ?_)))))
    refine wsq (wrg (vQ2 tab rfl rfl (vnl (qth (vcd_false rfl (by simp only [k0, k1, k5, k6, k8, k9, sl_]; first | done | omega) ?_)))))
    refine wsq (wrg (vQ2 tab rfl rfl (vnl (qth (vcd_false rfl (by simp only [k0, k1, k5, k6, k8, k9, sl_]; first | done | omega) ?_)))))
    refine wsq (wrg (vQ2 tab rfl rfl (vnl (qth (vcd_false rfl (by simp only [k0, k1, k5, k6, k8, k9, sl_]; first | done | omega) ?_)))))
    refine wsq (wrg (vQ2 tab rfl rfl (vnl (qth (vcd_false rfl (by simp only [k0, k1, k5, k6, k8, k9, sl_]; first | done | omega) ?_)))))
    refine vw_skip (q_norm (qth (wsq (wrg (vQ3 tab rfl rfl rfl (vR rfl callable_64 (refuser_as (s := s) _ hfi (looks_opn userR rfl rfl) (looks_opn sessR rfl rfl) (looks_opn addrR rfl rfl) (looks_opn (intR .i64) rfl rfl) (by omega)) ?_))))))
    refine vQ tab rfl (vnl (qth (wsq (wsq (wrg (vQ2 tab rfl rfl (vnl (qth (vc_false rfl (vw_skip (qth (wsq (wrg (vQ4 tab rfl rfl rfl rfl (vT rfl callable_65 (refturn_no (s := s) ⟨rfl, rfl, rfl, rfl, by decide⟩ (by decide) hb1 hj hq hw) ?_)))))))))))))))
    refine vQ2 tab rfl rfl (vS tab rfl (vQ tab rfl (vnl (qth (vw_ret ?_)))))
    exact out_mk [8, 9, 10, 11] (.inr rfl) ⟨rfl, rfl⟩ rfl
      (vrel_tuple (lrel_cons (vrel_agg (lrel_cons (ri rfl) (lrel_cons (ri rfl) (lrel_cons (ri rfl) (lrel_cons (rel_slice (sigma_at (i := 0) (by simp [ownNames, *]) rfl) rfl) (lrel_cons (rel_slice (sigma_at (i := 1) (by simp [ownNames, *]) rfl) rfl) (lrel_cons (rel_slice (sigma_at (i := 2) (by simp [ownNames, *]) rfl) rfl) (lrel_cons (rel_slice (sigma_at (i := 3) (by simp [ownNames, *]) rfl) rfl) lrel_nil)))))))) (lrel_cons (.bool _) lrel_nil)))
        (op_drop (op_drop (op_drop (op_drop (op_cons (sigma_at (i := 0) (by simp [ownNames, *]) rfl) rfl rfl (ov_opn userR rfl) rfl (op_cons (sigma_at (i := 1) (by simp [ownNames, *]) rfl) rfl rfl (ov_opn sessR rfl) rfl (op_cons (sigma_at (i := 2) (by simp [ownNames, *]) rfl) rfl rfl (ov_opn addrR rfl) rfl (op_cons (sigma_at (i := 3) (by simp [ownNames, *]) rfl) rfl rfl (ov_opn (intR .i64) rfl) rfl op_nil))))))))
        (told_of (by simp [ownNames, stM]))
end
end Go.Proofs.YtcjfidfealifhaaGreat
