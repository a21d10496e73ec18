/- The calls of package lock, what they give. -/
import Derived.Test.YtcjfidfealifhaaVg1
import Derived.Test.YtcjfidfealifhaaPl2
namespace Go.Proofs.Ytcjfidfealifhaa
open Go Vm IntWalk
set_option linter.unusedVariables false
set_option linter.unusedSimpArgs false
theorem open_fun (f u t : Int) : Fun Try.prog 66 [.agg #[.int .i64 f, .int .i64 u], .int .i64 t] (.bool (decide (u ≤ t))) := by
  refine fun_of_vw tab Try.func66 rfl rfl (by simp [Try.f66]) (lrel_cons (vrel_agg (lrel_cons (.int _ _) (lrel_cons (.int _ _) lrel_nil))) (lrel_cons (.int _ _) lrel_nil)) (.bool _) ?_
  refine wsq (wrg (vN tab rfl (vQ tab rfl (vnl (qth (wsq (wrg (vQ tab rfl (vQ tab rfl (vQ tab rfl (vQ tab rfl (vQ tab rfl (vnl (qth (vw_ret ?_)))))))))))))))
  exact ⟨.inr rfl, rfl⟩
def failBad (f u t m o : Int) : Prop := f < 0 ∨ 8 < f ∨ u < 0 ∨ 1114111 < u ∨ ¬ (0 ≤ t ∧ t ≤ 1048575) ∨ m < 1 ∨ 8 < m ∨ o < 1 ∨ 65536 < o ∨ t < u
instance (f u t m o : Int) : Decidable (failBad f u t m o) := by unfold failBad; infer_instance
def failF (f m : Int) : Int := (if m ≤ f then 0 else f) + 1
def failR (f u t m o : Int) : Int × Int × Int := if failBad f u t m o then (0, 0, 1300) else (failF f m, if failF f m = m then t + o else u, 0)
theorem failR_bad {f u t m o : Int} (h : failBad f u t m o) : failR f u t m o = (0, 0, 1300) := if_pos h
set_option maxHeartbeats 4000000 in
theorem fail_fun (f u t m o : Int) : Fun Try.prog 54 [.agg #[.int .i64 f, .int .i64 u], .int .i64 t, .int .i64 m, .int .i64 o]
    (.tuple #[.agg #[.int .i64 (failR f u t m o).1, .int .i64 (failR f u t m o).2.1], .int .i64 (failR f u t m o).2.2]) := by
  refine fun_of_vw tab Try.func54 rfl rfl (by simp [Try.f54])
    (lrel_cons (vrel_agg (lrel_cons (.int _ _) (lrel_cons (.int _ _) lrel_nil))) (lrel_cons (.int _ _) (lrel_cons (.int _ _) (lrel_cons (.int _ _) lrel_nil))))
    (vrel_tuple (lrel_cons (vrel_agg (lrel_cons (.int _ _) (lrel_cons (.int _ _) lrel_nil))) (lrel_cons (.int _ _) lrel_nil))) ?_
  refine wsq (wrg (vN tab rfl (vN tab rfl (vQ tab rfl (vnl (qth (wsq (wbk (wsq (wrg (vQ tab rfl (vQ tab rfl (vQ tab rfl (vQ tab rfl ?_))))))))))))))
  refine vg_op rfl rfl rfl (fun _ => ?_) (fun _ => ?_)
  refine vQ tab rfl (vQ tab rfl (vQ tab rfl (vQ tab rfl (vQ tab rfl ?_))))
  refine vg_op rfl rfl rfl (fun _ => ?_) (fun _ => ?_)
  refine vQ tab rfl (vQ tab rfl (vQ tab rfl (vQ tab rfl (vQ tab rfl ?_))))
  refine vg_op rfl rfl rfl (fun _ => ?_) (fun _ => ?_)
  refine vQ tab rfl (vQ tab rfl (vQ tab rfl (vQ tab rfl (vQ tab rfl ?_))))
  refine vg_op rfl rfl rfl (fun _ => ?_) (fun _ => ?_)
  refine vQ tab rfl (vF rfl callable_65 (tickmay_fun _) (vQ tab rfl (vQ tab rfl (vQ tab rfl (vnl (qth ?_))))))
  refine vc_part rfl (fun _ => ?_) (fun _ => ?_)
  refine wsq (wrg (vQ tab rfl (vS tab rfl (vQ tab rfl (vnl (qth (vw_ret (q_ret (q_thenr ?_)))))))))
  rotate_left
  refine wsq (wrg (vQ tab rfl (vQ tab rfl (vQ tab rfl ?_))))
  refine vg_op rfl rfl rfl (fun _ => ?_) (fun _ => ?_)
  refine vQ tab rfl (vQ tab rfl (vQ tab rfl (vQ tab rfl ?_)))
  refine vg_op rfl rfl rfl (fun _ => ?_) (fun _ => ?_)
  refine vQ tab rfl (vQ tab rfl (vQ tab rfl (vQ tab rfl ?_)))
  refine vg_op rfl rfl rfl (fun _ => ?_) (fun _ => ?_)
  refine vQ tab rfl (vQ tab rfl (vQ tab rfl (vQ tab rfl ?_)))
  refine vg_op rfl rfl rfl (fun _ => ?_) (fun _ => ?_)
  refine vQ tab rfl (vQ tab rfl (vF rfl callable_66 (open_fun _ _ _) (vQ tab rfl (vQ tab rfl (vQ tab rfl (vnl (qth ?_)))))))
  refine vc_part rfl (fun _ => ?_) (fun _ => ?_)
  refine wsq (wrg (vQ tab rfl (vS tab rfl (vQ tab rfl (vnl (qth (vw_ret (q_ret (q_thenr ?_)))))))))
  rotate_left
  refine vw_skip (q_norm (qth (wsq (wsq (wrg (vQ tab rfl (vQ tab rfl (vQ tab rfl (vQ tab rfl (vnl (qth ?_)))))))))))
  refine vc_part rfl (fun _ => ?_) (fun _ => ?_)
  refine wrg (vQ tab rfl (vS tab rfl (vnl (qth (wsq (wrg (vQ tab rfl (vQ tab rfl (vQ tab rfl (vQ tab rfl (vS tab rfl (vnl (qth (wsq (wsq (wrg (vQ tab rfl (vQ tab rfl (vQ tab rfl (vQ tab rfl (vnl (qth ?_))))))))))))))))))))))
  refine vc_part rfl (fun _ => ?_) (fun _ => ?_)
  refine wrg (vQ tab rfl (vQ tab rfl (vQ tab rfl (vQ tab rfl (vS tab rfl (vnl (qth (wsq (wrg (vQ tab rfl (vS tab rfl (vQ tab rfl (vnl (qth (vw_ret ?_)))))))))))))))
  rotate_left
  refine vw_skip (qth (wsq (wrg (vQ tab rfl (vS tab rfl (vQ tab rfl (vnl (qth (vw_ret ?_)))))))))
  rotate_left
  refine vw_skip (qth (wsq (wrg (vQ tab rfl (vQ tab rfl (vQ tab rfl (vQ tab rfl (vS tab rfl (vnl (qth (wsq (wsq (wrg (vQ tab rfl (vQ tab rfl (vQ tab rfl (vQ tab rfl (vnl (qth ?_)))))))))))))))))))
  refine vc_part rfl (fun _ => ?_) (fun _ => ?_)
  refine wrg (vQ tab rfl (vQ tab rfl (vQ tab rfl (vQ tab rfl (vS tab rfl (vnl (qth (wsq (wrg (vQ tab rfl (vS tab rfl (vQ tab rfl (vnl (qth (vw_ret ?_)))))))))))))))
  rotate_left
  refine vw_skip (qth (wsq (wrg (vQ tab rfl (vS tab rfl (vQ tab rfl (vnl (qth (vw_ret ?_)))))))))
  rotate_left
  refine vK rfl (vK rfl (vK rfl (vK rfl (vQ tab rfl (vQ tab rfl (vnl (qth (vc_true rfl (wsq (wrg (vQ tab rfl (vS tab rfl (vQ tab rfl (vnl (qth (vw_ret (q_ret (q_thenr ?_))))))))))))))))))
  rotate_left
  refine vK rfl (vK rfl (vQ tab rfl (vQ tab rfl (vK rfl (vK rfl (vK rfl (vK rfl (vQ tab rfl (vQ tab rfl (vnl (qth (vc_true rfl (wsq (wrg (vQ tab rfl (vS tab rfl (vQ tab rfl (vnl (qth (vw_ret (q_ret (q_thenr ?_))))))))))))))))))))))
  rotate_left
  refine vK rfl (vK rfl (vQ tab rfl (vQ tab rfl (vK rfl (vK rfl (vQ tab rfl (vQ tab rfl (vK rfl (vK rfl (vK rfl (vK rfl (vQ tab rfl (vQ tab rfl (vnl (qth (vc_true rfl (wsq (wrg (vQ tab rfl (vS tab rfl (vQ tab rfl (vnl (qth ?_)))))))))))))))))))))))
  refine vw_ret (q_ret (q_thenr ?_))
  rotate_left
  refine vK rfl (vK rfl (vQ tab rfl (vQ tab rfl (vK rfl (vK rfl (vQ tab rfl (vQ tab rfl (vK rfl (vK rfl (vQ tab rfl (vQ tab rfl (vK rfl (vK rfl (vK rfl (vK rfl (vQ tab rfl (vQ tab rfl (vnl (qth (vc_true rfl (wsq (wrg (vQ tab rfl ?_)))))))))))))))))))))))
  refine vS tab rfl (vQ tab rfl (vnl (qth (vw_ret (q_ret (q_thenr ?_))))))
  rotate_left
  refine vK rfl (vK rfl (vK rfl (vQ tab rfl (vQ tab rfl (vnl (qth (vc_true rfl (wsq (wrg (vQ tab rfl (vS tab rfl (vQ tab rfl (vnl (qth (vw_ret (q_ret (q_thenr ?_)))))))))))))))))
  rotate_left
  refine vK rfl (vK rfl (vK rfl (vQ tab rfl (vQ tab rfl (vK rfl (vK rfl (vK rfl (vQ tab rfl (vQ tab rfl (vnl (qth (vc_true rfl (wsq (wrg (vQ tab rfl (vS tab rfl (vQ tab rfl (vnl (qth (vw_ret (q_ret (q_thenr ?_))))))))))))))))))))))
  rotate_left
  refine vK rfl (vK rfl (vK rfl (vQ tab rfl (vQ tab rfl (vK rfl (vK rfl (vK rfl (vQ tab rfl (vQ tab rfl (vK rfl (vK rfl (vK rfl (vQ tab rfl (vQ tab rfl (vnl (qth (vc_true rfl (wsq (wrg (vQ tab rfl (vS tab rfl (vQ tab rfl (vnl ?_)))))))))))))))))))))))
  refine qth (vw_ret (q_ret (q_thenr ?_)))
  rotate_left
  refine vK rfl (vK rfl (vK rfl (vQ tab rfl (vQ tab rfl (vK rfl (vK rfl (vK rfl (vQ tab rfl (vQ tab rfl (vK rfl (vK rfl (vK rfl (vQ tab rfl (vQ tab rfl (vK rfl (vK rfl (vK rfl (vQ tab rfl (vQ tab rfl (vnl (qth (vc_true rfl (wsq ?_)))))))))))))))))))))))
  refine wrg (vQ tab rfl (vS tab rfl (vQ tab rfl (vnl (qth (vw_ret (q_ret (q_thenr ?_))))))))
  rotate_left
  all_goals
    refine ⟨.inr rfl, Eq.trans (b := some _) rfl (congrArg some ?_)⟩
  all_goals
    simp only [Bool.and_eq_true, Bool.and_eq_false_iff, decide_eq_true_eq, decide_eq_false_iff_not, Bool.not_eq_eq_eq_not, Bool.not_true, Bool.not_false, beq_iff_eq, beq_eq_false_iff_ne, ne_eq, i64_in 1 (by omega), Int.zero_add] at *
    first
      | (rw [failR_bad (by unfold failBad; omega)]; rfl)
      | (have hw1 := i64_in (f + 1) (by omega)
         have hw2 := i64_in (t + o) (by omega)
         simp only [hw1, hw2] at *
         rw [failR, if_neg (by unfold failBad; omega), failF]
         simp [ti47, setCells, splice, Value.cells, *]
         done)
theorem fail_at {f u t m o a b c : Int} (h : failR f u t m o = (a, b, c)) : Fun Try.prog 54 [.agg #[.int .i64 f, .int .i64 u], .int .i64 t, .int .i64 m, .int .i64 o] (.tuple #[.agg #[.int .i64 a, .int .i64 b], .int .i64 c]) := by
  have := fail_fun f u t m o
  rw [h] at this
  exact this
theorem fail_bad {f u t m o : Int} (h : failBad f u t m o) : Fun Try.prog 54 [.agg #[.int .i64 f, .int .i64 u], .int .i64 t, .int .i64 m, .int .i64 o] (.tuple #[.agg #[.int .i64 0, .int .i64 0], .int .i64 1300]) :=
  fail_at (failR_bad h)
end Go.Proofs.Ytcjfidfealifhaa
