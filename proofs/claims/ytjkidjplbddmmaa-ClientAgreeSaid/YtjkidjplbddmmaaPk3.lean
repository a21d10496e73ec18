/- The document's packet. -/
import Derived.Test.YtjkidjplbddmmaaVg1
import Derived.Test.YtjkidjplbddmmaaPk2
import Derived.Test.YtjkidjplbddmmaaFd1
namespace Go.Proofs.Ytjkidjplbddmmaa
open Go Vm IntWalk
set_option linter.unusedVariables false
set_option linter.unusedSimpArgs false
set_option maxHeartbeats 32000000 in
theorem refpkt_may (a : PacketV) : Fun Try.prog 48 [pktV a] (.bool (pktMay a)) := by
  refine fun_of_vw tab Try.func48 rfl rfl (by simp [Try.f48]) (lrel_cons (pktRel a) lrel_nil) (.bool _) ?_
  obtain ⟨k, f1, f2, f3, f4, f5, f6, f7, d⟩ := a
  rcases (show k = 0 ∨ k = 1 ∨ k = 2 ∨ k = 3 ∨ k = 4 ∨ (k ≠ 0 ∧ k ≠ 1 ∧ k ≠ 2 ∧ k ≠ 3 ∧ k ≠ 4) by omega) with rfl | rfl | rfl | rfl | rfl | hk
  · refine wsq (wrg (vN tab rfl (vQ tab rfl (vnl (qth (wsq (wsq (wrg (vQ tab rfl (vQ tab rfl (vQ tab rfl (vQ tab rfl (vQ tab rfl ?_)))))))))))))
    refine vg_op rfl rfl rfl (fun _ => ?_) (fun _ => ?_)
    refine vQ tab rfl (vQ tab rfl (vQ tab rfl (vQ tab rfl (vQ tab rfl ?_))))
    refine vg_op rfl rfl rfl (fun _ => ?_) (fun _ => ?_)
    refine vQ tab rfl (vQ tab rfl (vQ tab rfl (vQ tab rfl (vQ tab rfl ?_))))
    refine vg_op rfl rfl rfl (fun _ => ?_) (fun _ => ?_)
    refine vQ tab rfl (vQ tab rfl (vF rfl callable_73 (refnum_fun _) (vQ tab rfl (vQ tab rfl (vQ tab rfl ?_)))))
    refine vg_op rfl rfl rfl (fun _ => ?_) (fun _ => ?_)
    refine vQ tab rfl (vQ tab rfl (vF rfl callable_73 (refnum_fun _) (vQ tab rfl (vQ tab rfl (vQ tab rfl ?_)))))
    refine vg_op rfl rfl rfl (fun _ => ?_) (fun _ => ?_)
    refine vQ tab rfl (vQ tab rfl (vF rfl callable_73 (refnum_fun _) (vQ tab rfl (vQ tab rfl (vQ tab rfl ?_)))))
    refine vg_op rfl rfl rfl (fun _ => ?_) (fun _ => ?_)
    refine vQ tab rfl (vQ tab rfl (vF rfl callable_73 (refnum_fun _) (vQ tab rfl (vQ tab rfl (vQ tab rfl ?_)))))
    refine vg_op rfl rfl rfl (fun _ => ?_) (fun _ => ?_)
    refine vQ tab rfl (vQ tab rfl (vF rfl callable_73 (refnum_fun _) (vQ tab rfl (vQ tab rfl (vQ tab rfl ?_)))))
    refine vg_op rfl rfl rfl (fun _ => ?_) (fun _ => ?_)
    refine vQ tab rfl (vQ tab rfl (vF rfl callable_73 (refnum_fun _) (vQ tab rfl (vQ tab rfl (vnl (qth ?_))))))
    refine vc_part rfl (fun _ => ?_) (fun _ => ?_)
    refine wsq (wrg (vQ tab rfl (vnl (qth (vw_ret (q_thenr ?_))))))
    rotate_left
    refine vw_skip (qth (wsq (wrg (vQ tab rfl (vQ tab rfl (vQ tab rfl (vN tab rfl (vS tab rfl (vnl (qth (wsq (wsq (wrg (vQ tab rfl (vQ tab rfl (vnl (qth (wbk (wsq (wrg (vQ tab rfl (vQ tab rfl (vnl ?_)))))))))))))))))))))))
    refine qth (vc_true rfl (wsq (wrg (vQ tab rfl (vQ tab rfl (vQ tab rfl (vS tab rfl (vnl (qth (wrg (vQ tab rfl (vQ tab rfl (vQ tab rfl (vS tab rfl (vnl (q_norm (qth (wsq (wrg (vQ tab rfl (vQ tab rfl (vq_op tab rfl rfl rfl (ev_eql rfl rfl rfl (pkt_eq ⟨0, f1, f2, f3, f4, f5, f6, f7, d⟩ ⟨0, f1, f2, 0, 0, 0, 0, 0, ⟨#[]⟩⟩)) (vQ tab rfl ?_)))))))))))))))))))))))
    refine vnl (qth (vw_ret ?_))
    rotate_left
    refine vK rfl (vK rfl (vK rfl (vK rfl (vQ tab rfl (vnl (qth (vc_true rfl (wsq (wrg (vQ tab rfl (vnl (qth (vw_ret (q_thenr ?_))))))))))))))
    rotate_left
    refine vK rfl (vK rfl (vK rfl (vK rfl (vQ tab rfl (vQ tab rfl (vK rfl (vK rfl (vK rfl (vK rfl (vQ tab rfl (vnl (qth (vc_true rfl (wsq (wrg (vQ tab rfl (vnl (qth (vw_ret (q_thenr ?_))))))))))))))))))))
    rotate_left
    refine vK rfl (vK rfl (vK rfl (vK rfl (vQ tab rfl (vQ tab rfl (vK rfl (vK rfl (vK rfl (vK rfl (vQ tab rfl (vQ tab rfl (vK rfl (vK rfl (vK rfl (vK rfl (vQ tab rfl (vnl (qth (vc_true rfl (wsq (wrg (vQ tab rfl (vnl ?_)))))))))))))))))))))))
    refine qth (vw_ret (q_thenr ?_))
    rotate_left
    refine vK rfl (vK rfl (vK rfl (vK rfl (vQ tab rfl (vQ tab rfl (vK rfl (vK rfl (vK rfl (vK rfl (vQ tab rfl (vQ tab rfl (vK rfl (vK rfl (vK rfl (vK rfl (vQ tab rfl (vQ tab rfl (vK rfl (vK rfl (vK rfl (vK rfl (vQ tab rfl (vnl ?_)))))))))))))))))))))))
    refine qth (vc_true rfl (wsq (wrg (vQ tab rfl (vnl (qth (vw_ret (q_thenr ?_))))))))
    rotate_left
    refine vK rfl (vK rfl (vK rfl (vK rfl (vQ tab rfl (vQ tab rfl (vK rfl (vK rfl (vK rfl (vK rfl (vQ tab rfl (vQ tab rfl (vK rfl (vK rfl (vK rfl (vK rfl (vQ tab rfl (vQ tab rfl (vK rfl (vK rfl (vK rfl (vK rfl (vQ tab rfl (vQ tab rfl ?_)))))))))))))))))))))))
    refine vK rfl (vK rfl (vK rfl (vK rfl (vQ tab rfl (vnl (qth (vc_true rfl (wsq (wrg (vQ tab rfl (vnl (qth (vw_ret (q_thenr ?_))))))))))))))
    rotate_left
    refine vK rfl (vK rfl (vK rfl (vK rfl (vQ tab rfl (vQ tab rfl (vK rfl (vK rfl (vK rfl (vK rfl (vQ tab rfl (vQ tab rfl (vK rfl (vK rfl (vK rfl (vK rfl (vQ tab rfl (vQ tab rfl (vK rfl (vK rfl (vK rfl (vK rfl (vQ tab rfl (vQ tab rfl ?_)))))))))))))))))))))))
    refine vK rfl (vK rfl (vK rfl (vK rfl (vQ tab rfl (vQ tab rfl (vK rfl (vK rfl (vK rfl (vK rfl (vQ tab rfl (vnl (qth (vc_true rfl (wsq (wrg (vQ tab rfl (vnl (qth (vw_ret (q_thenr ?_))))))))))))))))))))
    rotate_left
    refine vK rfl (vK rfl (vK rfl (vQ tab rfl (vQ tab rfl (vK rfl (vK rfl (vK rfl (vK rfl (vQ tab rfl (vQ tab rfl (vK rfl (vK rfl (vK rfl (vK rfl (vQ tab rfl (vQ tab rfl (vK rfl (vK rfl (vK rfl (vK rfl (vQ tab rfl (vQ tab rfl (vK rfl ?_)))))))))))))))))))))))
    refine vK rfl (vK rfl (vK rfl (vQ tab rfl (vQ tab rfl (vK rfl (vK rfl (vK rfl (vK rfl (vQ tab rfl (vQ tab rfl (vK rfl (vK rfl (vK rfl (vK rfl (vQ tab rfl (vnl (qth (vc_true rfl (wsq (wrg (vQ tab rfl (vnl (qth ?_)))))))))))))))))))))))
    refine vw_ret (q_thenr ?_)
    rotate_left
    refine vK rfl (vK rfl (vK rfl (vQ tab rfl (vQ tab rfl (vK rfl (vK rfl (vK rfl (vQ tab rfl (vQ tab rfl (vK rfl (vK rfl (vK rfl (vK rfl (vQ tab rfl (vQ tab rfl (vK rfl (vK rfl (vK rfl (vK rfl (vQ tab rfl (vQ tab rfl (vK rfl (vK rfl ?_)))))))))))))))))))))))
    refine vK rfl (vK rfl (vQ tab rfl (vQ tab rfl (vK rfl (vK rfl (vK rfl (vK rfl (vQ tab rfl (vQ tab rfl (vK rfl (vK rfl (vK rfl (vK rfl (vQ tab rfl (vQ tab rfl (vK rfl (vK rfl (vK rfl (vK rfl (vQ tab rfl (vnl (qth (vc_true rfl ?_)))))))))))))))))))))))
    refine wsq (wrg (vQ tab rfl (vnl (qth (vw_ret (q_thenr ?_))))))
    rotate_left
    all_goals exact ⟨.inr rfl, Eq.trans (b := some (.bool _)) rfl (congrArg (fun b => some (Value.bool b)) (by unfold pktMay pktPlain; simp_all [pktNums, pktMake, pktText, okN, sz0] <;> (intros; first | omega | (rintro rfl; simp_all [sz0]; done))))⟩
  · refine wsq (wrg (vN tab rfl (vQ tab rfl (vnl (qth (wsq (wsq (wrg (vQ tab rfl (vQ tab rfl (vQ tab rfl (vQ tab rfl (vQ tab rfl ?_)))))))))))))
    refine vg_op rfl rfl rfl (fun _ => ?_) (fun _ => ?_)
    refine vQ tab rfl (vQ tab rfl (vQ tab rfl (vQ tab rfl (vQ tab rfl ?_))))
    refine vg_op rfl rfl rfl (fun _ => ?_) (fun _ => ?_)
    refine vQ tab rfl (vQ tab rfl (vQ tab rfl (vQ tab rfl (vQ tab rfl ?_))))
    refine vg_op rfl rfl rfl (fun _ => ?_) (fun _ => ?_)
    refine vQ tab rfl (vQ tab rfl (vF rfl callable_73 (refnum_fun _) (vQ tab rfl (vQ tab rfl (vQ tab rfl ?_)))))
    refine vg_op rfl rfl rfl (fun _ => ?_) (fun _ => ?_)
    refine vQ tab rfl (vQ tab rfl (vF rfl callable_73 (refnum_fun _) (vQ tab rfl (vQ tab rfl (vQ tab rfl ?_)))))
    refine vg_op rfl rfl rfl (fun _ => ?_) (fun _ => ?_)
    refine vQ tab rfl (vQ tab rfl (vF rfl callable_73 (refnum_fun _) (vQ tab rfl (vQ tab rfl (vQ tab rfl ?_)))))
    refine vg_op rfl rfl rfl (fun _ => ?_) (fun _ => ?_)
    refine vQ tab rfl (vQ tab rfl (vF rfl callable_73 (refnum_fun _) (vQ tab rfl (vQ tab rfl (vQ tab rfl ?_)))))
    refine vg_op rfl rfl rfl (fun _ => ?_) (fun _ => ?_)
    refine vQ tab rfl (vQ tab rfl (vF rfl callable_73 (refnum_fun _) (vQ tab rfl (vQ tab rfl (vQ tab rfl ?_)))))
    refine vg_op rfl rfl rfl (fun _ => ?_) (fun _ => ?_)
    refine vQ tab rfl (vQ tab rfl (vF rfl callable_73 (refnum_fun _) (vQ tab rfl (vQ tab rfl (vnl (qth ?_))))))
    refine vc_part rfl (fun _ => ?_) (fun _ => ?_)
    refine wsq (wrg (vQ tab rfl (vnl (qth (vw_ret (q_thenr ?_))))))
    rotate_left
    refine vw_skip (qth (wsq (wrg (vQ tab rfl (vQ tab rfl (vQ tab rfl (vN tab rfl (vS tab rfl (vnl (qth (wsq (wsq (wrg (vQ tab rfl (vQ tab rfl (vnl (qth (wbk (wsq (wrg (vQ tab rfl (vQ tab rfl (vnl ?_)))))))))))))))))))))))
    refine qth (vc_false rfl (wsq (wrg (vQ tab rfl (vQ tab rfl (vnl (qth (vc_true rfl (wsq (wrg (vQ tab rfl (vQ tab rfl (vQ tab rfl (vS tab rfl (vnl (qth (wsq (wrg (vQ tab rfl (vQ tab rfl (vQ tab rfl (vS tab rfl (vnl ?_)))))))))))))))))))))))
    refine qth (wrg (vQ tab rfl (vQ tab rfl (vQ tab rfl (vS tab rfl (vnl (q_norm (qth (wsq (wrg (vQ tab rfl (vQ tab rfl (vq_op tab rfl rfl rfl (ev_eql rfl rfl rfl (pkt_eq ⟨1, f1, f2, f3, f4, f5, f6, f7, d⟩ ⟨1, 0, 0, f3, f4, f5, 0, 0, ⟨#[]⟩⟩)) (vQ tab rfl (vnl (qth (vw_ret ?_)))))))))))))))))
    rotate_left
    refine vK rfl (vK rfl (vK rfl (vK rfl (vQ tab rfl (vnl (qth (vc_true rfl (wsq (wrg (vQ tab rfl (vnl (qth (vw_ret (q_thenr ?_))))))))))))))
    rotate_left
    refine vK rfl (vK rfl (vK rfl (vK rfl (vQ tab rfl (vQ tab rfl (vK rfl (vK rfl (vK rfl (vK rfl (vQ tab rfl (vnl (qth (vc_true rfl (wsq (wrg (vQ tab rfl (vnl (qth (vw_ret (q_thenr ?_))))))))))))))))))))
    rotate_left
    refine vK rfl (vK rfl (vK rfl (vK rfl (vQ tab rfl (vQ tab rfl (vK rfl (vK rfl (vK rfl (vK rfl (vQ tab rfl (vQ tab rfl (vK rfl (vK rfl (vK rfl (vK rfl (vQ tab rfl (vnl (qth (vc_true rfl (wsq (wrg (vQ tab rfl (vnl ?_)))))))))))))))))))))))
    refine qth (vw_ret (q_thenr ?_))
    rotate_left
    refine vK rfl (vK rfl (vK rfl (vK rfl (vQ tab rfl (vQ tab rfl (vK rfl (vK rfl (vK rfl (vK rfl (vQ tab rfl (vQ tab rfl (vK rfl (vK rfl (vK rfl (vK rfl (vQ tab rfl (vQ tab rfl (vK rfl (vK rfl (vK rfl (vK rfl (vQ tab rfl (vnl ?_)))))))))))))))))))))))
    refine qth (vc_true rfl (wsq (wrg (vQ tab rfl (vnl (qth (vw_ret (q_thenr ?_))))))))
    rotate_left
    refine vK rfl (vK rfl (vK rfl (vK rfl (vQ tab rfl (vQ tab rfl (vK rfl (vK rfl (vK rfl (vK rfl (vQ tab rfl (vQ tab rfl (vK rfl (vK rfl (vK rfl (vK rfl (vQ tab rfl (vQ tab rfl (vK rfl (vK rfl (vK rfl (vK rfl (vQ tab rfl (vQ tab rfl ?_)))))))))))))))))))))))
    refine vK rfl (vK rfl (vK rfl (vK rfl (vQ tab rfl (vnl (qth (vc_true rfl (wsq (wrg (vQ tab rfl (vnl (qth (vw_ret (q_thenr ?_))))))))))))))
    rotate_left
    refine vK rfl (vK rfl (vK rfl (vK rfl (vQ tab rfl (vQ tab rfl (vK rfl (vK rfl (vK rfl (vK rfl (vQ tab rfl (vQ tab rfl (vK rfl (vK rfl (vK rfl (vK rfl (vQ tab rfl (vQ tab rfl (vK rfl (vK rfl (vK rfl (vK rfl (vQ tab rfl (vQ tab rfl ?_)))))))))))))))))))))))
    refine vK rfl (vK rfl (vK rfl (vK rfl (vQ tab rfl (vQ tab rfl (vK rfl (vK rfl (vK rfl (vK rfl (vQ tab rfl (vnl (qth (vc_true rfl (wsq (wrg (vQ tab rfl (vnl (qth (vw_ret (q_thenr ?_))))))))))))))))))))
    rotate_left
    refine vK rfl (vK rfl (vK rfl (vQ tab rfl (vQ tab rfl (vK rfl (vK rfl (vK rfl (vK rfl (vQ tab rfl (vQ tab rfl (vK rfl (vK rfl (vK rfl (vK rfl (vQ tab rfl (vQ tab rfl (vK rfl (vK rfl (vK rfl (vK rfl (vQ tab rfl (vQ tab rfl (vK rfl ?_)))))))))))))))))))))))
    refine vK rfl (vK rfl (vK rfl (vQ tab rfl (vQ tab rfl (vK rfl (vK rfl (vK rfl (vK rfl (vQ tab rfl (vQ tab rfl (vK rfl (vK rfl (vK rfl (vK rfl (vQ tab rfl (vnl (qth (vc_true rfl (wsq (wrg (vQ tab rfl (vnl (qth ?_)))))))))))))))))))))))
    refine vw_ret (q_thenr ?_)
    rotate_left
    refine vK rfl (vK rfl (vK rfl (vQ tab rfl (vQ tab rfl (vK rfl (vK rfl (vK rfl (vQ tab rfl (vQ tab rfl (vK rfl (vK rfl (vK rfl (vK rfl (vQ tab rfl (vQ tab rfl (vK rfl (vK rfl (vK rfl (vK rfl (vQ tab rfl (vQ tab rfl (vK rfl (vK rfl ?_)))))))))))))))))))))))
    refine vK rfl (vK rfl (vQ tab rfl (vQ tab rfl (vK rfl (vK rfl (vK rfl (vK rfl (vQ tab rfl (vQ tab rfl (vK rfl (vK rfl (vK rfl (vK rfl (vQ tab rfl (vQ tab rfl (vK rfl (vK rfl (vK rfl (vK rfl (vQ tab rfl (vnl (qth (vc_true rfl ?_)))))))))))))))))))))))
    refine wsq (wrg (vQ tab rfl (vnl (qth (vw_ret (q_thenr ?_))))))
    rotate_left
    all_goals exact ⟨.inr rfl, Eq.trans (b := some (.bool _)) rfl (congrArg (fun b => some (Value.bool b)) (by unfold pktMay pktPlain; simp_all [pktNums, pktMake, pktText, okN, sz0] <;> (intros; first | omega | (rintro rfl; simp_all [sz0]; done))))⟩
  · refine wsq (wrg (vN tab rfl (vQ tab rfl (vnl (qth (wsq (wsq (wrg (vQ tab rfl (vQ tab rfl (vQ tab rfl (vQ tab rfl (vQ tab rfl ?_)))))))))))))
    refine vg_op rfl rfl rfl (fun _ => ?_) (fun _ => ?_)
    refine vQ tab rfl (vQ tab rfl (vQ tab rfl (vQ tab rfl (vQ tab rfl ?_))))
    refine vg_op rfl rfl rfl (fun _ => ?_) (fun _ => ?_)
    refine vQ tab rfl (vQ tab rfl (vQ tab rfl (vQ tab rfl (vQ tab rfl ?_))))
    refine vg_op rfl rfl rfl (fun _ => ?_) (fun _ => ?_)
    refine vQ tab rfl (vQ tab rfl (vF rfl callable_73 (refnum_fun _) (vQ tab rfl (vQ tab rfl (vQ tab rfl ?_)))))
    refine vg_op rfl rfl rfl (fun _ => ?_) (fun _ => ?_)
    refine vQ tab rfl (vQ tab rfl (vF rfl callable_73 (refnum_fun _) (vQ tab rfl (vQ tab rfl (vQ tab rfl ?_)))))
    refine vg_op rfl rfl rfl (fun _ => ?_) (fun _ => ?_)
    refine vQ tab rfl (vQ tab rfl (vF rfl callable_73 (refnum_fun _) (vQ tab rfl (vQ tab rfl (vQ tab rfl ?_)))))
    refine vg_op rfl rfl rfl (fun _ => ?_) (fun _ => ?_)
    refine vQ tab rfl (vQ tab rfl (vF rfl callable_73 (refnum_fun _) (vQ tab rfl (vQ tab rfl (vQ tab rfl ?_)))))
    refine vg_op rfl rfl rfl (fun _ => ?_) (fun _ => ?_)
    refine vQ tab rfl (vQ tab rfl (vF rfl callable_73 (refnum_fun _) (vQ tab rfl (vQ tab rfl (vQ tab rfl ?_)))))
    refine vg_op rfl rfl rfl (fun _ => ?_) (fun _ => ?_)
    refine vQ tab rfl (vQ tab rfl (vF rfl callable_73 (refnum_fun _) (vQ tab rfl (vQ tab rfl (vnl (qth ?_))))))
    refine vc_part rfl (fun _ => ?_) (fun _ => ?_)
    refine wsq (wrg (vQ tab rfl (vnl (qth (vw_ret (q_thenr ?_))))))
    rotate_left
    refine vw_skip (qth (wsq (wrg (vQ tab rfl (vQ tab rfl (vQ tab rfl (vN tab rfl (vS tab rfl (vnl (qth (wsq (wsq (wrg (vQ tab rfl (vQ tab rfl (vnl (qth (wbk (wsq (wrg (vQ tab rfl (vQ tab rfl (vnl ?_)))))))))))))))))))))))
    refine qth (vc_false rfl (wsq (wrg (vQ tab rfl (vQ tab rfl (vnl (qth (vc_false rfl (wsq (wrg (vQ tab rfl (vQ tab rfl (vnl (qth (vc_true rfl (wsq (wrg (vQ tab rfl (vQ tab rfl (vQ tab rfl (vS tab rfl (vnl (qth ?_)))))))))))))))))))))))
    refine wsq (wrg (vQ tab rfl (vQ tab rfl (vQ tab rfl (vS tab rfl (vnl (qth (wrg (vQ tab rfl (vQ tab rfl (vQ tab rfl (vS tab rfl (vnl (q_norm (qth (wsq (wrg (vQ tab rfl (vQ tab rfl (vq_op tab rfl rfl rfl (ev_eql rfl rfl rfl (pkt_eq ⟨2, f1, f2, f3, f4, f5, f6, f7, d⟩ ⟨2, 0, f2, 0, f4, f5, 0, 0, ⟨#[]⟩⟩)) (vQ tab rfl (vnl (qth ?_)))))))))))))))))))))))
    refine vw_ret ?_
    rotate_left
    refine vK rfl (vK rfl (vK rfl (vK rfl (vQ tab rfl (vnl (qth (vc_true rfl (wsq (wrg (vQ tab rfl (vnl (qth (vw_ret (q_thenr ?_))))))))))))))
    rotate_left
    refine vK rfl (vK rfl (vK rfl (vK rfl (vQ tab rfl (vQ tab rfl (vK rfl (vK rfl (vK rfl (vK rfl (vQ tab rfl (vnl (qth (vc_true rfl (wsq (wrg (vQ tab rfl (vnl (qth (vw_ret (q_thenr ?_))))))))))))))))))))
    rotate_left
    refine vK rfl (vK rfl (vK rfl (vK rfl (vQ tab rfl (vQ tab rfl (vK rfl (vK rfl (vK rfl (vK rfl (vQ tab rfl (vQ tab rfl (vK rfl (vK rfl (vK rfl (vK rfl (vQ tab rfl (vnl (qth (vc_true rfl (wsq (wrg (vQ tab rfl (vnl ?_)))))))))))))))))))))))
    refine qth (vw_ret (q_thenr ?_))
    rotate_left
    refine vK rfl (vK rfl (vK rfl (vK rfl (vQ tab rfl (vQ tab rfl (vK rfl (vK rfl (vK rfl (vK rfl (vQ tab rfl (vQ tab rfl (vK rfl (vK rfl (vK rfl (vK rfl (vQ tab rfl (vQ tab rfl (vK rfl (vK rfl (vK rfl (vK rfl (vQ tab rfl (vnl ?_)))))))))))))))))))))))
    refine qth (vc_true rfl (wsq (wrg (vQ tab rfl (vnl (qth (vw_ret (q_thenr ?_))))))))
    rotate_left
    refine vK rfl (vK rfl (vK rfl (vK rfl (vQ tab rfl (vQ tab rfl (vK rfl (vK rfl (vK rfl (vK rfl (vQ tab rfl (vQ tab rfl (vK rfl (vK rfl (vK rfl (vK rfl (vQ tab rfl (vQ tab rfl (vK rfl (vK rfl (vK rfl (vK rfl (vQ tab rfl (vQ tab rfl ?_)))))))))))))))))))))))
    refine vK rfl (vK rfl (vK rfl (vK rfl (vQ tab rfl (vnl (qth (vc_true rfl (wsq (wrg (vQ tab rfl (vnl (qth (vw_ret (q_thenr ?_))))))))))))))
    rotate_left
    refine vK rfl (vK rfl (vK rfl (vK rfl (vQ tab rfl (vQ tab rfl (vK rfl (vK rfl (vK rfl (vK rfl (vQ tab rfl (vQ tab rfl (vK rfl (vK rfl (vK rfl (vK rfl (vQ tab rfl (vQ tab rfl (vK rfl (vK rfl (vK rfl (vK rfl (vQ tab rfl (vQ tab rfl ?_)))))))))))))))))))))))
    refine vK rfl (vK rfl (vK rfl (vK rfl (vQ tab rfl (vQ tab rfl (vK rfl (vK rfl (vK rfl (vK rfl (vQ tab rfl (vnl (qth (vc_true rfl (wsq (wrg (vQ tab rfl (vnl (qth (vw_ret (q_thenr ?_))))))))))))))))))))
    rotate_left
    refine vK rfl (vK rfl (vK rfl (vQ tab rfl (vQ tab rfl (vK rfl (vK rfl (vK rfl (vK rfl (vQ tab rfl (vQ tab rfl (vK rfl (vK rfl (vK rfl (vK rfl (vQ tab rfl (vQ tab rfl (vK rfl (vK rfl (vK rfl (vK rfl (vQ tab rfl (vQ tab rfl (vK rfl ?_)))))))))))))))))))))))
    refine vK rfl (vK rfl (vK rfl (vQ tab rfl (vQ tab rfl (vK rfl (vK rfl (vK rfl (vK rfl (vQ tab rfl (vQ tab rfl (vK rfl (vK rfl (vK rfl (vK rfl (vQ tab rfl (vnl (qth (vc_true rfl (wsq (wrg (vQ tab rfl (vnl (qth ?_)))))))))))))))))))))))
    refine vw_ret (q_thenr ?_)
    rotate_left
    refine vK rfl (vK rfl (vK rfl (vQ tab rfl (vQ tab rfl (vK rfl (vK rfl (vK rfl (vQ tab rfl (vQ tab rfl (vK rfl (vK rfl (vK rfl (vK rfl (vQ tab rfl (vQ tab rfl (vK rfl (vK rfl (vK rfl (vK rfl (vQ tab rfl (vQ tab rfl (vK rfl (vK rfl ?_)))))))))))))))))))))))
    refine vK rfl (vK rfl (vQ tab rfl (vQ tab rfl (vK rfl (vK rfl (vK rfl (vK rfl (vQ tab rfl (vQ tab rfl (vK rfl (vK rfl (vK rfl (vK rfl (vQ tab rfl (vQ tab rfl (vK rfl (vK rfl (vK rfl (vK rfl (vQ tab rfl (vnl (qth (vc_true rfl ?_)))))))))))))))))))))))
    refine wsq (wrg (vQ tab rfl (vnl (qth (vw_ret (q_thenr ?_))))))
    rotate_left
    all_goals exact ⟨.inr rfl, Eq.trans (b := some (.bool _)) rfl (congrArg (fun b => some (Value.bool b)) (by unfold pktMay pktPlain; simp_all [pktNums, pktMake, pktText, okN, sz0] <;> (intros; first | omega | (rintro rfl; simp_all [sz0]; done))))⟩
  · refine wsq (wrg (vN tab rfl (vQ tab rfl (vnl (qth (wsq (wsq (wrg (vQ tab rfl (vQ tab rfl (vQ tab rfl (vQ tab rfl (vQ tab rfl ?_)))))))))))))
    refine vg_op rfl rfl rfl (fun _ => ?_) (fun _ => ?_)
    refine vQ tab rfl (vQ tab rfl (vQ tab rfl (vQ tab rfl (vQ tab rfl ?_))))
    refine vg_op rfl rfl rfl (fun _ => ?_) (fun _ => ?_)
    refine vQ tab rfl (vQ tab rfl (vQ tab rfl (vQ tab rfl (vQ tab rfl ?_))))
    refine vg_op rfl rfl rfl (fun _ => ?_) (fun _ => ?_)
    refine vQ tab rfl (vQ tab rfl (vF rfl callable_73 (refnum_fun _) (vQ tab rfl (vQ tab rfl (vQ tab rfl ?_)))))
    refine vg_op rfl rfl rfl (fun _ => ?_) (fun _ => ?_)
    refine vQ tab rfl (vQ tab rfl (vF rfl callable_73 (refnum_fun _) (vQ tab rfl (vQ tab rfl (vQ tab rfl ?_)))))
    refine vg_op rfl rfl rfl (fun _ => ?_) (fun _ => ?_)
    refine vQ tab rfl (vQ tab rfl (vF rfl callable_73 (refnum_fun _) (vQ tab rfl (vQ tab rfl (vQ tab rfl ?_)))))
    refine vg_op rfl rfl rfl (fun _ => ?_) (fun _ => ?_)
    refine vQ tab rfl (vQ tab rfl (vF rfl callable_73 (refnum_fun _) (vQ tab rfl (vQ tab rfl (vQ tab rfl ?_)))))
    refine vg_op rfl rfl rfl (fun _ => ?_) (fun _ => ?_)
    refine vQ tab rfl (vQ tab rfl (vF rfl callable_73 (refnum_fun _) (vQ tab rfl (vQ tab rfl (vQ tab rfl ?_)))))
    refine vg_op rfl rfl rfl (fun _ => ?_) (fun _ => ?_)
    refine vQ tab rfl (vQ tab rfl (vF rfl callable_73 (refnum_fun _) (vQ tab rfl (vQ tab rfl (vnl (qth ?_))))))
    refine vc_part rfl (fun _ => ?_) (fun _ => ?_)
    refine wsq (wrg (vQ tab rfl (vnl (qth (vw_ret (q_thenr ?_))))))
    rotate_left
    refine vw_skip (qth (wsq (wrg (vQ tab rfl (vQ tab rfl (vQ tab rfl (vN tab rfl (vS tab rfl (vnl (qth (wsq (wsq (wrg (vQ tab rfl (vQ tab rfl (vnl (qth (wbk (wsq (wrg (vQ tab rfl (vQ tab rfl (vnl ?_)))))))))))))))))))))))
    refine qth (vc_false rfl (wsq (wrg (vQ tab rfl (vQ tab rfl (vnl (qth (vc_false rfl (wsq (wrg (vQ tab rfl (vQ tab rfl (vnl (qth (vc_false rfl (wsq (wrg (vQ tab rfl (vQ tab rfl (vnl (qth (vc_true rfl (wsq ?_)))))))))))))))))))))))
    refine wrg (vQ tab rfl (vQ tab rfl (vQ tab rfl (vS tab rfl (vnl (qth (wsq (wrg (vQ tab rfl (vQ tab rfl (vQ tab rfl (vS tab rfl (vnl (qth (wsq (wrg (vQ tab rfl (vQ tab rfl (vQ tab rfl (vS tab rfl (vnl (qth (wrg ?_)))))))))))))))))))))))
    refine vQ tab rfl (vQ tab rfl (vQ tab rfl (vS tab rfl (vnl (q_norm (qth (wsq (wrg (vQ tab rfl (vQ tab rfl (vq_op tab rfl rfl rfl (ev_eql rfl rfl rfl (pkt_eq ⟨3, f1, f2, f3, f4, f5, f6, f7, d⟩ ⟨3, 0, 0, 0, f4, 0, f6, f7, d⟩)) (vQ tab rfl (vnl (qth (vw_ret ?_)))))))))))))))
    rotate_left
    refine vK rfl (vK rfl (vK rfl (vK rfl (vQ tab rfl (vnl (qth (vc_true rfl (wsq (wrg (vQ tab rfl (vnl (qth (vw_ret (q_thenr ?_))))))))))))))
    rotate_left
    refine vK rfl (vK rfl (vK rfl (vK rfl (vQ tab rfl (vQ tab rfl (vK rfl (vK rfl (vK rfl (vK rfl (vQ tab rfl (vnl (qth (vc_true rfl (wsq (wrg (vQ tab rfl (vnl (qth (vw_ret (q_thenr ?_))))))))))))))))))))
    rotate_left
    refine vK rfl (vK rfl (vK rfl (vK rfl (vQ tab rfl (vQ tab rfl (vK rfl (vK rfl (vK rfl (vK rfl (vQ tab rfl (vQ tab rfl (vK rfl (vK rfl (vK rfl (vK rfl (vQ tab rfl (vnl (qth (vc_true rfl (wsq (wrg (vQ tab rfl (vnl ?_)))))))))))))))))))))))
    refine qth (vw_ret (q_thenr ?_))
    rotate_left
    refine vK rfl (vK rfl (vK rfl (vK rfl (vQ tab rfl (vQ tab rfl (vK rfl (vK rfl (vK rfl (vK rfl (vQ tab rfl (vQ tab rfl (vK rfl (vK rfl (vK rfl (vK rfl (vQ tab rfl (vQ tab rfl (vK rfl (vK rfl (vK rfl (vK rfl (vQ tab rfl (vnl ?_)))))))))))))))))))))))
    refine qth (vc_true rfl (wsq (wrg (vQ tab rfl (vnl (qth (vw_ret (q_thenr ?_))))))))
    rotate_left
    refine vK rfl (vK rfl (vK rfl (vK rfl (vQ tab rfl (vQ tab rfl (vK rfl (vK rfl (vK rfl (vK rfl (vQ tab rfl (vQ tab rfl (vK rfl (vK rfl (vK rfl (vK rfl (vQ tab rfl (vQ tab rfl (vK rfl (vK rfl (vK rfl (vK rfl (vQ tab rfl (vQ tab rfl ?_)))))))))))))))))))))))
    refine vK rfl (vK rfl (vK rfl (vK rfl (vQ tab rfl (vnl (qth (vc_true rfl (wsq (wrg (vQ tab rfl (vnl (qth (vw_ret (q_thenr ?_))))))))))))))
    rotate_left
    refine vK rfl (vK rfl (vK rfl (vK rfl (vQ tab rfl (vQ tab rfl (vK rfl (vK rfl (vK rfl (vK rfl (vQ tab rfl (vQ tab rfl (vK rfl (vK rfl (vK rfl (vK rfl (vQ tab rfl (vQ tab rfl (vK rfl (vK rfl (vK rfl (vK rfl (vQ tab rfl (vQ tab rfl ?_)))))))))))))))))))))))
    refine vK rfl (vK rfl (vK rfl (vK rfl (vQ tab rfl (vQ tab rfl (vK rfl (vK rfl (vK rfl (vK rfl (vQ tab rfl (vnl (qth (vc_true rfl (wsq (wrg (vQ tab rfl (vnl (qth (vw_ret (q_thenr ?_))))))))))))))))))))
    rotate_left
    refine vK rfl (vK rfl (vK rfl (vQ tab rfl (vQ tab rfl (vK rfl (vK rfl (vK rfl (vK rfl (vQ tab rfl (vQ tab rfl (vK rfl (vK rfl (vK rfl (vK rfl (vQ tab rfl (vQ tab rfl (vK rfl (vK rfl (vK rfl (vK rfl (vQ tab rfl (vQ tab rfl (vK rfl ?_)))))))))))))))))))))))
    refine vK rfl (vK rfl (vK rfl (vQ tab rfl (vQ tab rfl (vK rfl (vK rfl (vK rfl (vK rfl (vQ tab rfl (vQ tab rfl (vK rfl (vK rfl (vK rfl (vK rfl (vQ tab rfl (vnl (qth (vc_true rfl (wsq (wrg (vQ tab rfl (vnl (qth ?_)))))))))))))))))))))))
    refine vw_ret (q_thenr ?_)
    rotate_left
    refine vK rfl (vK rfl (vK rfl (vQ tab rfl (vQ tab rfl (vK rfl (vK rfl (vK rfl (vQ tab rfl (vQ tab rfl (vK rfl (vK rfl (vK rfl (vK rfl (vQ tab rfl (vQ tab rfl (vK rfl (vK rfl (vK rfl (vK rfl (vQ tab rfl (vQ tab rfl (vK rfl (vK rfl ?_)))))))))))))))))))))))
    refine vK rfl (vK rfl (vQ tab rfl (vQ tab rfl (vK rfl (vK rfl (vK rfl (vK rfl (vQ tab rfl (vQ tab rfl (vK rfl (vK rfl (vK rfl (vK rfl (vQ tab rfl (vQ tab rfl (vK rfl (vK rfl (vK rfl (vK rfl (vQ tab rfl (vnl (qth (vc_true rfl ?_)))))))))))))))))))))))
    refine wsq (wrg (vQ tab rfl (vnl (qth (vw_ret (q_thenr ?_))))))
    rotate_left
    all_goals exact ⟨.inr rfl, Eq.trans (b := some (.bool _)) rfl (congrArg (fun b => some (Value.bool b)) (by unfold pktMay pktPlain; simp_all [pktNums, pktMake, pktText, okN, sz0] <;> (intros; first | omega | (rintro rfl; simp_all [sz0]; done))))⟩
  · refine wsq (wrg (vN tab rfl (vQ tab rfl (vnl (qth (wsq (wsq (wrg (vQ tab rfl (vQ tab rfl (vQ tab rfl (vQ tab rfl (vQ tab rfl ?_)))))))))))))
    refine vg_op rfl rfl rfl (fun _ => ?_) (fun _ => ?_)
    refine vQ tab rfl (vQ tab rfl (vQ tab rfl (vQ tab rfl (vQ tab rfl ?_))))
    refine vg_op rfl rfl rfl (fun _ => ?_) (fun _ => ?_)
    refine vQ tab rfl (vQ tab rfl (vQ tab rfl (vQ tab rfl (vQ tab rfl ?_))))
    refine vg_op rfl rfl rfl (fun _ => ?_) (fun _ => ?_)
    refine vQ tab rfl (vQ tab rfl (vF rfl callable_73 (refnum_fun _) (vQ tab rfl (vQ tab rfl (vQ tab rfl ?_)))))
    refine vg_op rfl rfl rfl (fun _ => ?_) (fun _ => ?_)
    refine vQ tab rfl (vQ tab rfl (vF rfl callable_73 (refnum_fun _) (vQ tab rfl (vQ tab rfl (vQ tab rfl ?_)))))
    refine vg_op rfl rfl rfl (fun _ => ?_) (fun _ => ?_)
    refine vQ tab rfl (vQ tab rfl (vF rfl callable_73 (refnum_fun _) (vQ tab rfl (vQ tab rfl (vQ tab rfl ?_)))))
    refine vg_op rfl rfl rfl (fun _ => ?_) (fun _ => ?_)
    refine vQ tab rfl (vQ tab rfl (vF rfl callable_73 (refnum_fun _) (vQ tab rfl (vQ tab rfl (vQ tab rfl ?_)))))
    refine vg_op rfl rfl rfl (fun _ => ?_) (fun _ => ?_)
    refine vQ tab rfl (vQ tab rfl (vF rfl callable_73 (refnum_fun _) (vQ tab rfl (vQ tab rfl (vQ tab rfl ?_)))))
    refine vg_op rfl rfl rfl (fun _ => ?_) (fun _ => ?_)
    refine vQ tab rfl (vQ tab rfl (vF rfl callable_73 (refnum_fun _) (vQ tab rfl (vQ tab rfl (vnl (qth ?_))))))
    refine vc_part rfl (fun _ => ?_) (fun _ => ?_)
    refine wsq (wrg (vQ tab rfl (vnl (qth (vw_ret (q_thenr ?_))))))
    rotate_left
    refine vw_skip (qth (wsq (wrg (vQ tab rfl (vQ tab rfl (vQ tab rfl (vN tab rfl (vS tab rfl (vnl (qth (wsq (wsq (wrg (vQ tab rfl (vQ tab rfl (vnl (qth (wbk (wsq (wrg (vQ tab rfl (vQ tab rfl (vnl ?_)))))))))))))))))))))))
    refine qth (vc_false rfl (wsq (wrg (vQ tab rfl (vQ tab rfl (vnl (qth (vc_false rfl (wsq (wrg (vQ tab rfl (vQ tab rfl (vnl (qth (vc_false rfl (wsq (wrg (vQ tab rfl (vQ tab rfl (vnl (qth (vc_false rfl (wsq ?_)))))))))))))))))))))))
    refine wrg (vQ tab rfl (vQ tab rfl (vnl (qth (vc_true rfl (wsq (wrg (vQ tab rfl (vQ tab rfl (vQ tab rfl (vS tab rfl (vnl (qth (wrg (vQ tab rfl (vQ tab rfl (vQ tab rfl (vS tab rfl (vnl (q_norm (qth (wsq (wrg ?_)))))))))))))))))))))))
    refine vQ tab rfl (vQ tab rfl (vq_op tab rfl rfl rfl (ev_eql rfl rfl rfl (pkt_eq ⟨4, f1, f2, f3, f4, f5, f6, f7, d⟩ ⟨4, 0, 0, 0, f4, 0, f6, 0, ⟨#[]⟩⟩)) (vQ tab rfl (vnl (qth (vw_ret ?_))))))
    rotate_left
    refine vK rfl (vK rfl (vK rfl (vK rfl (vQ tab rfl (vnl (qth (vc_true rfl (wsq (wrg (vQ tab rfl (vnl (qth (vw_ret (q_thenr ?_))))))))))))))
    rotate_left
    refine vK rfl (vK rfl (vK rfl (vK rfl (vQ tab rfl (vQ tab rfl (vK rfl (vK rfl (vK rfl (vK rfl (vQ tab rfl (vnl (qth (vc_true rfl (wsq (wrg (vQ tab rfl (vnl (qth (vw_ret (q_thenr ?_))))))))))))))))))))
    rotate_left
    refine vK rfl (vK rfl (vK rfl (vK rfl (vQ tab rfl (vQ tab rfl (vK rfl (vK rfl (vK rfl (vK rfl (vQ tab rfl (vQ tab rfl (vK rfl (vK rfl (vK rfl (vK rfl (vQ tab rfl (vnl (qth (vc_true rfl (wsq (wrg (vQ tab rfl (vnl ?_)))))))))))))))))))))))
    refine qth (vw_ret (q_thenr ?_))
    rotate_left
    refine vK rfl (vK rfl (vK rfl (vK rfl (vQ tab rfl (vQ tab rfl (vK rfl (vK rfl (vK rfl (vK rfl (vQ tab rfl (vQ tab rfl (vK rfl (vK rfl (vK rfl (vK rfl (vQ tab rfl (vQ tab rfl (vK rfl (vK rfl (vK rfl (vK rfl (vQ tab rfl (vnl ?_)))))))))))))))))))))))
    refine qth (vc_true rfl (wsq (wrg (vQ tab rfl (vnl (qth (vw_ret (q_thenr ?_))))))))
    rotate_left
    refine vK rfl (vK rfl (vK rfl (vK rfl (vQ tab rfl (vQ tab rfl (vK rfl (vK rfl (vK rfl (vK rfl (vQ tab rfl (vQ tab rfl (vK rfl (vK rfl (vK rfl (vK rfl (vQ tab rfl (vQ tab rfl (vK rfl (vK rfl (vK rfl (vK rfl (vQ tab rfl (vQ tab rfl ?_)))))))))))))))))))))))
    refine vK rfl (vK rfl (vK rfl (vK rfl (vQ tab rfl (vnl (qth (vc_true rfl (wsq (wrg (vQ tab rfl (vnl (qth (vw_ret (q_thenr ?_))))))))))))))
    rotate_left
    refine vK rfl (vK rfl (vK rfl (vK rfl (vQ tab rfl (vQ tab rfl (vK rfl (vK rfl (vK rfl (vK rfl (vQ tab rfl (vQ tab rfl (vK rfl (vK rfl (vK rfl (vK rfl (vQ tab rfl (vQ tab rfl (vK rfl (vK rfl (vK rfl (vK rfl (vQ tab rfl (vQ tab rfl ?_)))))))))))))))))))))))
    refine vK rfl (vK rfl (vK rfl (vK rfl (vQ tab rfl (vQ tab rfl (vK rfl (vK rfl (vK rfl (vK rfl (vQ tab rfl (vnl (qth (vc_true rfl (wsq (wrg (vQ tab rfl (vnl (qth (vw_ret (q_thenr ?_))))))))))))))))))))
    rotate_left
    refine vK rfl (vK rfl (vK rfl (vQ tab rfl (vQ tab rfl (vK rfl (vK rfl (vK rfl (vK rfl (vQ tab rfl (vQ tab rfl (vK rfl (vK rfl (vK rfl (vK rfl (vQ tab rfl (vQ tab rfl (vK rfl (vK rfl (vK rfl (vK rfl (vQ tab rfl (vQ tab rfl (vK rfl ?_)))))))))))))))))))))))
    refine vK rfl (vK rfl (vK rfl (vQ tab rfl (vQ tab rfl (vK rfl (vK rfl (vK rfl (vK rfl (vQ tab rfl (vQ tab rfl (vK rfl (vK rfl (vK rfl (vK rfl (vQ tab rfl (vnl (qth (vc_true rfl (wsq (wrg (vQ tab rfl (vnl (qth ?_)))))))))))))))))))))))
    refine vw_ret (q_thenr ?_)
    rotate_left
    refine vK rfl (vK rfl (vK rfl (vQ tab rfl (vQ tab rfl (vK rfl (vK rfl (vK rfl (vQ tab rfl (vQ tab rfl (vK rfl (vK rfl (vK rfl (vK rfl (vQ tab rfl (vQ tab rfl (vK rfl (vK rfl (vK rfl (vK rfl (vQ tab rfl (vQ tab rfl (vK rfl (vK rfl ?_)))))))))))))))))))))))
    refine vK rfl (vK rfl (vQ tab rfl (vQ tab rfl (vK rfl (vK rfl (vK rfl (vK rfl (vQ tab rfl (vQ tab rfl (vK rfl (vK rfl (vK rfl (vK rfl (vQ tab rfl (vQ tab rfl (vK rfl (vK rfl (vK rfl (vK rfl (vQ tab rfl (vnl (qth (vc_true rfl ?_)))))))))))))))))))))))
    refine wsq (wrg (vQ tab rfl (vnl (qth (vw_ret (q_thenr ?_))))))
    rotate_left
    all_goals exact ⟨.inr rfl, Eq.trans (b := some (.bool _)) rfl (congrArg (fun b => some (Value.bool b)) (by unfold pktMay pktPlain; simp_all [pktNums, pktMake, pktText, okN, sz0] <;> (intros; first | omega | (rintro rfl; simp_all [sz0]; done))))⟩
  · have hkb : (decide (0 ≤ k) && decide (k ≤ 4)) = false := by rw [Bool.and_eq_false_iff, decide_eq_false_iff_not, decide_eq_false_iff_not]; omega
    refine wsq (wrg (vN tab rfl (vQ tab rfl (vnl (qth (wsq (wsq (wrg (vQ tab rfl (vQ tab rfl (vQ tab rfl (vQ tab rfl (vQ tab rfl ?_)))))))))))))
    refine vg_op rfl rfl rfl (fun _ => ?_) (fun _ => ?_)
    refine vQ tab rfl (vQ tab rfl (vQ tab rfl (vQ tab rfl (vQ tab rfl ?_))))
    refine vg_op rfl rfl rfl (fun _ => ?_) (fun _ => ?_)
    refine vQ tab rfl (vQ tab rfl (vQ tab rfl (vQ tab rfl (vQ tab rfl ?_))))
    refine vg_op rfl rfl rfl (fun _ => ?_) (fun _ => ?_)
    refine vQ tab rfl (vQ tab rfl (vF rfl callable_73 (refnum_fun _) (vQ tab rfl (vQ tab rfl (vQ tab rfl ?_)))))
    refine vg_op rfl rfl rfl (fun _ => ?_) (fun _ => ?_)
    refine vQ tab rfl (vQ tab rfl (vF rfl callable_73 (refnum_fun _) (vQ tab rfl (vQ tab rfl (vQ tab rfl ?_)))))
    refine vg_op rfl rfl rfl (fun _ => ?_) (fun _ => ?_)
    refine vQ tab rfl (vQ tab rfl (vF rfl callable_73 (refnum_fun _) (vQ tab rfl (vQ tab rfl (vQ tab rfl ?_)))))
    refine vg_op rfl rfl rfl (fun _ => ?_) (fun _ => ?_)
    refine vQ tab rfl (vQ tab rfl (vF rfl callable_73 (refnum_fun _) (vQ tab rfl (vQ tab rfl (vQ tab rfl ?_)))))
    refine vg_op rfl rfl rfl (fun _ => ?_) (fun _ => ?_)
    refine vQ tab rfl (vQ tab rfl (vF rfl callable_73 (refnum_fun _) (vQ tab rfl (vQ tab rfl (vQ tab rfl ?_)))))
    refine vg_op rfl rfl rfl (fun _ => ?_) (fun _ => ?_)
    refine vQ tab rfl (vQ tab rfl (vF rfl callable_73 (refnum_fun _) (vQ tab rfl (vQ tab rfl (vnl (qth ?_))))))
    refine vc_part rfl (fun _ => ?_) (fun _ => ?_)
    refine wsq (wrg (vQ tab rfl (vnl (qth (vw_ret (q_thenr ?_))))))
    rotate_left
    refine vw_skip (qth (wsq (wrg (vQ tab rfl (vQ tab rfl (vQ tab rfl (vN tab rfl (vS tab rfl (vnl (qth (wsq (wsq (wrg (vQ tab rfl (vQ tab rfl (vnl (qth (wbk (wsq (wrg (vQ tab rfl (vQ tab rfl (vnl ?_)))))))))))))))))))))))
    refine qth (vcd_false rfl (by simp only [hkb, decide_eq_true_eq, decide_eq_false_iff_not, Bool.not_eq_eq_eq_not, Bool.not_true, Bool.not_false, bne_iff_ne, bne_eq_false_iff_eq, beq_iff_eq, beq_eq_false_iff_ne, ne_eq, beq_self_eq_true, bne_self_eq_false, Bool.and_eq_true, Bool.and_eq_false_iff, Bool.or_eq_true, Bool.or_eq_false_iff, and_self, and_true, true_and, Bool.false_eq_true, Bool.true_eq_false, not_false_eq_true, not_true_eq_false]; first | done | omega) ?_)
    refine wsq (wrg (vQ tab rfl (vQ tab rfl (vnl (qth (vcd_false rfl (by simp only [hkb, decide_eq_true_eq, decide_eq_false_iff_not, Bool.not_eq_eq_eq_not, Bool.not_true, Bool.not_false, bne_iff_ne, bne_eq_false_iff_eq, beq_iff_eq, beq_eq_false_iff_ne, ne_eq, beq_self_eq_true, bne_self_eq_false, Bool.and_eq_true, Bool.and_eq_false_iff, Bool.or_eq_true, Bool.or_eq_false_iff, and_self, and_true, true_and, Bool.false_eq_true, Bool.true_eq_false, not_false_eq_true, not_true_eq_false]; first | done | omega) ?_))))))
    refine wsq (wrg (vQ tab rfl (vQ tab rfl (vnl (qth (vcd_false rfl (by simp only [hkb, decide_eq_true_eq, decide_eq_false_iff_not, Bool.not_eq_eq_eq_not, Bool.not_true, Bool.not_false, bne_iff_ne, bne_eq_false_iff_eq, beq_iff_eq, beq_eq_false_iff_ne, ne_eq, beq_self_eq_true, bne_self_eq_false, Bool.and_eq_true, Bool.and_eq_false_iff, Bool.or_eq_true, Bool.or_eq_false_iff, and_self, and_true, true_and, Bool.false_eq_true, Bool.true_eq_false, not_false_eq_true, not_true_eq_false]; first | done | omega) ?_))))))
    refine wsq (wrg (vQ tab rfl (vQ tab rfl (vnl (qth (vcd_false rfl (by simp only [hkb, decide_eq_true_eq, decide_eq_false_iff_not, Bool.not_eq_eq_eq_not, Bool.not_true, Bool.not_false, bne_iff_ne, bne_eq_false_iff_eq, beq_iff_eq, beq_eq_false_iff_ne, ne_eq, beq_self_eq_true, bne_self_eq_false, Bool.and_eq_true, Bool.and_eq_false_iff, Bool.or_eq_true, Bool.or_eq_false_iff, and_self, and_true, true_and, Bool.false_eq_true, Bool.true_eq_false, not_false_eq_true, not_true_eq_false]; first | done | omega) ?_))))))
    refine wsq (wrg (vQ tab rfl (vQ tab rfl (vnl (qth (vcd_false rfl (by simp only [hkb, decide_eq_true_eq, decide_eq_false_iff_not, Bool.not_eq_eq_eq_not, Bool.not_true, Bool.not_false, bne_iff_ne, bne_eq_false_iff_eq, beq_iff_eq, beq_eq_false_iff_ne, ne_eq, beq_self_eq_true, bne_self_eq_false, Bool.and_eq_true, Bool.and_eq_false_iff, Bool.or_eq_true, Bool.or_eq_false_iff, and_self, and_true, true_and, Bool.false_eq_true, Bool.true_eq_false, not_false_eq_true, not_true_eq_false]; first | done | omega) ?_))))))
    refine wsq (wrg (vQ tab rfl (vnl (qth (vw_ret (q_ret (q_thenr ?_)))))))
    rotate_left
    refine vK rfl (vK rfl (vK rfl (vK rfl (vQ tab rfl (vnl (qth (vc_true rfl (wsq (wrg (vQ tab rfl (vnl (qth (vw_ret (q_thenr ?_))))))))))))))
    rotate_left
    refine vK rfl (vK rfl (vK rfl (vK rfl (vQ tab rfl (vQ tab rfl (vK rfl (vK rfl (vK rfl (vK rfl (vQ tab rfl (vnl (qth (vc_true rfl (wsq (wrg (vQ tab rfl (vnl (qth (vw_ret (q_thenr ?_))))))))))))))))))))
    rotate_left
    refine vK rfl (vK rfl (vK rfl (vK rfl (vQ tab rfl (vQ tab rfl (vK rfl (vK rfl (vK rfl (vK rfl (vQ tab rfl (vQ tab rfl (vK rfl (vK rfl (vK rfl (vK rfl (vQ tab rfl (vnl (qth (vc_true rfl (wsq (wrg (vQ tab rfl (vnl ?_)))))))))))))))))))))))
    refine qth (vw_ret (q_thenr ?_))
    rotate_left
    refine vK rfl (vK rfl (vK rfl (vK rfl (vQ tab rfl (vQ tab rfl (vK rfl (vK rfl (vK rfl (vK rfl (vQ tab rfl (vQ tab rfl (vK rfl (vK rfl (vK rfl (vK rfl (vQ tab rfl (vQ tab rfl (vK rfl (vK rfl (vK rfl (vK rfl (vQ tab rfl (vnl ?_)))))))))))))))))))))))
    refine qth (vc_true rfl (wsq (wrg (vQ tab rfl (vnl (qth (vw_ret (q_thenr ?_))))))))
    rotate_left
    refine vK rfl (vK rfl (vK rfl (vK rfl (vQ tab rfl (vQ tab rfl (vK rfl (vK rfl (vK rfl (vK rfl (vQ tab rfl (vQ tab rfl (vK rfl (vK rfl (vK rfl (vK rfl (vQ tab rfl (vQ tab rfl (vK rfl (vK rfl (vK rfl (vK rfl (vQ tab rfl (vQ tab rfl ?_)))))))))))))))))))))))
    refine vK rfl (vK rfl (vK rfl (vK rfl (vQ tab rfl (vnl (qth (vc_true rfl (wsq (wrg (vQ tab rfl (vnl (qth (vw_ret (q_thenr ?_))))))))))))))
    rotate_left
    refine vK rfl (vK rfl (vK rfl (vK rfl (vQ tab rfl (vQ tab rfl (vK rfl (vK rfl (vK rfl (vK rfl (vQ tab rfl (vQ tab rfl (vK rfl (vK rfl (vK rfl (vK rfl (vQ tab rfl (vQ tab rfl (vK rfl (vK rfl (vK rfl (vK rfl (vQ tab rfl (vQ tab rfl ?_)))))))))))))))))))))))
    refine vK rfl (vK rfl (vK rfl (vK rfl (vQ tab rfl (vQ tab rfl (vK rfl (vK rfl (vK rfl (vK rfl (vQ tab rfl (vnl (qth (vc_true rfl (wsq (wrg (vQ tab rfl (vnl (qth (vw_ret (q_thenr ?_))))))))))))))))))))
    rotate_left
    refine vK rfl (vK rfl (vK rfl (vQ tab rfl (vQ tab rfl (vK rfl (vK rfl (vK rfl (vK rfl (vQ tab rfl (vQ tab rfl (vK rfl (vK rfl (vK rfl (vK rfl (vQ tab rfl (vQ tab rfl (vK rfl (vK rfl (vK rfl (vK rfl (vQ tab rfl (vQ tab rfl (vK rfl ?_)))))))))))))))))))))))
    refine vK rfl (vK rfl (vK rfl (vQ tab rfl (vQ tab rfl (vK rfl (vK rfl (vK rfl (vK rfl (vQ tab rfl (vQ tab rfl (vK rfl (vK rfl (vK rfl (vK rfl (vQ tab rfl (vnl (qth (vc_true rfl (wsq (wrg (vQ tab rfl (vnl (qth ?_)))))))))))))))))))))))
    refine vw_ret (q_thenr ?_)
    rotate_left
    refine vK rfl (vK rfl (vK rfl (vQ tab rfl (vQ tab rfl (vK rfl (vK rfl (vK rfl (vQ tab rfl (vQ tab rfl (vK rfl (vK rfl (vK rfl (vK rfl (vQ tab rfl (vQ tab rfl (vK rfl (vK rfl (vK rfl (vK rfl (vQ tab rfl (vQ tab rfl (vK rfl (vK rfl ?_)))))))))))))))))))))))
    refine vK rfl (vK rfl (vQ tab rfl (vQ tab rfl (vK rfl (vK rfl (vK rfl (vK rfl (vQ tab rfl (vQ tab rfl (vK rfl (vK rfl (vK rfl (vK rfl (vQ tab rfl (vQ tab rfl (vK rfl (vK rfl (vK rfl (vK rfl (vQ tab rfl (vnl (qth (vc_true rfl ?_)))))))))))))))))))))))
    refine wsq (wrg (vQ tab rfl (vnl (qth (vw_ret (q_thenr ?_))))))
    rotate_left
    all_goals exact ⟨.inr rfl, Eq.trans (b := some (.bool _)) rfl (congrArg (fun b => some (Value.bool b)) (by unfold pktMay pktPlain; simp_all [pktNums, pktMake, pktText, okN, sz0] <;> (intros; first | omega | (rintro rfl; simp_all [sz0]; done))))⟩
end Go.Proofs.Ytjkidjplbddmmaa
