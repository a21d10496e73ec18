/- Texts of this claim, one behind the other (4 of 7). -/
import Derived.Test.YtcjfidfealifhaaGreatPa2
namespace Go.Proofs.YtcjfidfealifhaaGreat
open Go Vm IntWalk
set_option linter.unusedVariables false
set_option linter.unusedSimpArgs false
abbrev evtO (a : EventV) : VObj := .cells (evtL a) 45 (0, 0)
theorem ov_evt {σ : Ren} {a b : EventV} (h : a = b) : OV σ (evtO a) (evtO b) := by rw [h]; exact .cells _ _ (evtR.flat b).rel
set_option maxHeartbeats 4000000 in
theorem evt_parts0 {V : Heap} {n i : Nat} {f1 f2 f3 f4 f5 f6 f7 : Int} (hV : V i = some (.cells (evtL ⟨0, f1, f2, f3, f4, f5, f6, f7⟩) 45 (0, 0))) (hin : i < n) :
    Tri Tryz.prog 41 [.pointer (some ⟨i, 0, none⟩)] n 1 V (fun u L => u = .slice (some ⟨n, 0, none⟩) 1 0 ∧ L = [(i, some (.cells (evtL ⟨0, f1, f2, f3, f4, f5, f6, f7⟩) 45 (0, 0))), (n, some (.opn [.pointer (some ⟨i, 7, none⟩)] 86 1))]) := by
  refine call_of_vw (K := 1) (argsI := [.pointer (some ⟨0, 0, none⟩)]) tab Tryz.func41 rfl rfl (by simp [Tryz.f41]) [.own i] [.cells (evtL ⟨0, f1, f2, f3, f4, f5, f6, f7⟩) 45 (0, 0)] rfl (.own hV (ov_evt rfl) .nil) (by simp [ownNames, *]) (by simp [ownNames, lookNames, *]) (by simp [ownNames, *]) (al_cons (.val (rel_ptr rfl)) al_nil) (seen_of (sn_own sn_nil)) ?_
  refine wsq (wrg (vQ tab rfl (vnl (qth (wsq (wrg (vQ tab rfl (vnl (qth (wsq (wsq (wrg (vQ4 tab rfl rfl rfl rfl (vnl (qth (wbk (wsq (wbk (wsq (wbk ?_))))))))))))))))))))
  refine wsq (wbk (wsq (wbk (wsq (wbk (wsq (wbk (wsq (wbk (wsq (wbk (wsq (wsq (wsq (wrg (vQ2 tab rfl rfl (vnl (qth (vc_false rfl (vw_skip (qth (wsq ?_))))))))))))))))))))))
  refine wsq (wrg (vQ2 tab rfl rfl (vnl (qth (vc_false rfl (vw_skip (qth (wsq (wsq (wsq (wrg (vQ2 tab rfl rfl (vnl (qth (vc_false rfl (wrg (vQ2 tab rfl rfl (vnl (qth (vc_false rfl ?_))))))))))))))))))))
  refine vw_skip (qth (wsq (wsq (wrg (vQ2 tab rfl rfl (vnl (qth (vc_false rfl (vw_skip (qth (wsq (wsq (wrg (vQ2 tab rfl rfl (vnl (qth (vc_false rfl (vw_skip (qth (wsq (wsq ?_)))))))))))))))))))))
  refine wrg (vQ2 tab rfl rfl (vnl (qth (vc_false rfl (vw_skip (qth (wsq (wsq (wrg (vQ2 tab rfl rfl (vnl (qth (vc_false rfl (vw_skip (qth (wsq (wrg (vQ2 tab rfl rfl (vnl (qth ?_))))))))))))))))))))
  refine vc_true rfl (vw_exit (q_thenx (q_out rfl (q_thenx (q_out rfl (q_thenx (q_out rfl (q_thenx (q_out rfl (q_thenx (q_out rfl (q_thenx (q_out rfl (q_thenx (q_out rfl (q_thenx (q_here (qth (wsq (wsq (wrg (vQ tab rfl (vQ tab rfl ?_)))))))))))))))))))))))
  refine vQ tab rfl (vN tab rfl (vQ tab rfl (vnl (qth (vw_ret (q_thenr (q_ret (q_thenr ?_))))))))
  exact out_mk [1] (.inr rfl) ⟨rfl, rfl⟩ rfl (rel_slice (sigma_at (i := 0) (by simp [ownNames, *]) rfl) rfl) (op_cons (sigma_own (a := 0) (by simp [ownNames]) rfl) rfl rfl (ov_evt rfl) rfl (op_cons (sigma_at (i := 0) (by simp [ownNames, *]) rfl) rfl rfl (.opn _ _ (lrel_cons (rel_ptr (sigma_own (a := 0) (by simp [ownNames]) rfl)) lrel_nil)) rfl op_nil)) ⟨fun _ => by simp [lkp], trivial⟩
set_option maxHeartbeats 4000000 in
theorem evt_parts1 {V : Heap} {n i : Nat} {f1 f2 f3 f4 f5 f6 f7 : Int} (hV : V i = some (.cells (evtL ⟨1, f1, f2, f3, f4, f5, f6, f7⟩) 45 (0, 0))) (hin : i < n) :
    Tri Tryz.prog 41 [.pointer (some ⟨i, 0, none⟩)] n 1 V (fun u L => u = .slice (some ⟨n, 0, none⟩) 4 0 ∧ L = [(i, some (.cells (evtL ⟨1, f1, f2, f3, f4, f5, f6, f7⟩) 45 (0, 0))), (n, some (.opn [.pointer (some ⟨i, 1, none⟩), .pointer (some ⟨i, 4, none⟩), .pointer (some ⟨i, 5, none⟩), .pointer (some ⟨i, 6, none⟩)] 86 1))]) := by
  refine call_of_vw (K := 1) (argsI := [.pointer (some ⟨0, 0, none⟩)]) tab Tryz.func41 rfl rfl (by simp [Tryz.f41]) [.own i] [.cells (evtL ⟨1, f1, f2, f3, f4, f5, f6, f7⟩) 45 (0, 0)] rfl (.own hV (ov_evt rfl) .nil) (by simp [ownNames, *]) (by simp [ownNames, lookNames, *]) (by simp [ownNames, *]) (al_cons (.val (rel_ptr rfl)) al_nil) (seen_of (sn_own sn_nil)) ?_
  refine wsq (wrg (vQ tab rfl (vnl (qth (wsq (wrg (vQ tab rfl (vnl (qth (wsq (wsq (wrg (vQ4 tab rfl rfl rfl rfl (vnl (qth (wbk (wsq (wbk (wsq (wbk ?_))))))))))))))))))))
  refine wsq (wbk (wsq (wbk (wsq (wbk (wsq (wbk (wsq (wbk (wsq (wbk (wsq (wsq (wsq (wrg (vQ2 tab rfl rfl (vnl (qth (vc_true rfl (vw_exit (q_thenx (q_thenx ?_))))))))))))))))))))))
  refine q_here (qth (wsq (wsq (vw_draw mixed (dq_op tab rfl rfl rfl rfl (dq_op tab rfl rfl rfl rfl (dq_op tab rfl rfl rfl rfl (dq_op tab rfl rfl rfl rfl (dq_op tab rfl rfl rfl rfl (dq_op tab rfl rfl rfl rfl (dq_op tab rfl rfl rfl rfl (dq_op tab rfl rfl rfl rfl (dq_op tab rfl rfl rfl rfl (dq_op tab rfl rfl rfl rfl (dq_op tab rfl rfl rfl rfl (dq_op tab rfl rfl rfl rfl (do_op [1] rfl rfl (opr_ev tab rfl) (dq_op tab rfl rfl rfl rfl (vd_nil (by kernel_rfl) ?_)))))))))))))))))))
  refine qth (vw_ret (q_thenr (q_ret (q_thenr (q_ret (q_thenr (q_ret (q_thenr (q_ret (q_thenr (q_ret (q_thenr (q_ret (q_thenr (q_ret (q_thenr (q_ret (q_thenr ?_))))))))))))))))))
  exact out_mk [1] (.inr rfl) ⟨rfl, rfl⟩ rfl (rel_slice (sigma_at (i := 0) (by simp [ownNames, *]) rfl) rfl) (op_cons (sigma_own (a := 0) (by simp [ownNames]) rfl) rfl rfl (ov_evt rfl) rfl (op_cons (sigma_at (i := 0) (by simp [ownNames, *]) rfl) rfl rfl (.opn _ _ (lrel_cons (rel_ptr (sigma_own (a := 0) (by simp [ownNames]) rfl)) (lrel_cons (rel_ptr (sigma_own (a := 0) (by simp [ownNames]) rfl)) (lrel_cons (rel_ptr (sigma_own (a := 0) (by simp [ownNames]) rfl)) (lrel_cons (rel_ptr (sigma_own (a := 0) (by simp [ownNames]) rfl)) lrel_nil))))) rfl op_nil)) ⟨fun _ => by simp [lkp], trivial⟩
set_option maxHeartbeats 4000000 in
theorem evt_parts2 {V : Heap} {n i : Nat} {f1 f2 f3 f4 f5 f6 f7 : Int} (hV : V i = some (.cells (evtL ⟨2, f1, f2, f3, f4, f5, f6, f7⟩) 45 (0, 0))) (hin : i < n) :
    Tri Tryz.prog 41 [.pointer (some ⟨i, 0, none⟩)] n 1 V (fun u L => u = .slice (some ⟨n, 0, none⟩) 2 0 ∧ L = [(i, some (.cells (evtL ⟨2, f1, f2, f3, f4, f5, f6, f7⟩) 45 (0, 0))), (n, some (.opn [.pointer (some ⟨i, 1, none⟩), .pointer (some ⟨i, 7, none⟩)] 86 1))]) := by
  refine call_of_vw (K := 1) (argsI := [.pointer (some ⟨0, 0, none⟩)]) tab Tryz.func41 rfl rfl (by simp [Tryz.f41]) [.own i] [.cells (evtL ⟨2, f1, f2, f3, f4, f5, f6, f7⟩) 45 (0, 0)] rfl (.own hV (ov_evt rfl) .nil) (by simp [ownNames, *]) (by simp [ownNames, lookNames, *]) (by simp [ownNames, *]) (al_cons (.val (rel_ptr rfl)) al_nil) (seen_of (sn_own sn_nil)) ?_
  refine wsq (wrg (vQ tab rfl (vnl (qth (wsq (wrg (vQ tab rfl (vnl (qth (wsq (wsq (wrg (vQ4 tab rfl rfl rfl rfl (vnl (qth (wbk (wsq (wbk (wsq (wbk ?_))))))))))))))))))))
  refine wsq (wbk (wsq (wbk (wsq (wbk (wsq (wbk (wsq (wbk (wsq (wbk (wsq (wsq (wsq (wrg (vQ2 tab rfl rfl (vnl (qth (vc_false rfl (vw_skip (qth (wsq ?_))))))))))))))))))))))
  refine wsq (wrg (vQ2 tab rfl rfl (vnl (qth (vc_false rfl (vw_skip (qth (wsq (wsq (wsq (wrg (vQ2 tab rfl rfl (vnl (qth (vc_false rfl (wrg (vQ2 tab rfl rfl (vnl (qth (vc_false rfl ?_))))))))))))))))))))
  refine vw_skip (qth (wsq (wsq (wrg (vQ2 tab rfl rfl (vnl (qth (vc_true rfl (vw_exit (q_thenx (q_thenx (q_out rfl (q_thenx (q_out rfl (q_thenx (q_out rfl (q_thenx (q_here (qth (wsq (wsq (vw_draw mixed ?_))))))))))))))))))))))
  refine dq_op tab rfl rfl rfl rfl (dq_op tab rfl rfl rfl rfl (dq_op tab rfl rfl rfl rfl (dq_op tab rfl rfl rfl rfl (dq_op tab rfl rfl rfl rfl (dq_op tab rfl rfl rfl rfl (do_op [1] rfl rfl (opr_ev tab rfl) (dq_op tab rfl rfl rfl rfl (vd_nil (by kernel_rfl) ?_))))))))
  refine qth (vw_ret (q_thenr (q_ret (q_thenr (q_ret (q_thenr (q_ret (q_thenr (q_ret (q_thenr (q_ret (q_thenr ?_))))))))))))
  exact out_mk [1] (.inr rfl) ⟨rfl, rfl⟩ rfl (rel_slice (sigma_at (i := 0) (by simp [ownNames, *]) rfl) rfl) (op_cons (sigma_own (a := 0) (by simp [ownNames]) rfl) rfl rfl (ov_evt rfl) rfl (op_cons (sigma_at (i := 0) (by simp [ownNames, *]) rfl) rfl rfl (.opn _ _ (lrel_cons (rel_ptr (sigma_own (a := 0) (by simp [ownNames]) rfl)) (lrel_cons (rel_ptr (sigma_own (a := 0) (by simp [ownNames]) rfl)) lrel_nil))) rfl op_nil)) ⟨fun _ => by simp [lkp], trivial⟩
set_option maxHeartbeats 4000000 in
theorem evt_parts3 {V : Heap} {n i : Nat} {f1 f2 f3 f4 f5 f6 f7 : Int} (hV : V i = some (.cells (evtL ⟨3, f1, f2, f3, f4, f5, f6, f7⟩) 45 (0, 0))) (hin : i < n) :
    Tri Tryz.prog 41 [.pointer (some ⟨i, 0, none⟩)] n 1 V (fun u L => u = .slice (some ⟨n, 0, none⟩) 2 0 ∧ L = [(i, some (.cells (evtL ⟨3, f1, f2, f3, f4, f5, f6, f7⟩) 45 (0, 0))), (n, some (.opn [.pointer (some ⟨i, 1, none⟩), .pointer (some ⟨i, 4, none⟩)] 86 1))]) := by
  refine call_of_vw (K := 1) (argsI := [.pointer (some ⟨0, 0, none⟩)]) tab Tryz.func41 rfl rfl (by simp [Tryz.f41]) [.own i] [.cells (evtL ⟨3, f1, f2, f3, f4, f5, f6, f7⟩) 45 (0, 0)] rfl (.own hV (ov_evt rfl) .nil) (by simp [ownNames, *]) (by simp [ownNames, lookNames, *]) (by simp [ownNames, *]) (al_cons (.val (rel_ptr rfl)) al_nil) (seen_of (sn_own sn_nil)) ?_
  refine wsq (wrg (vQ tab rfl (vnl (qth (wsq (wrg (vQ tab rfl (vnl (qth (wsq (wsq (wrg (vQ4 tab rfl rfl rfl rfl (vnl (qth (wbk (wsq (wbk (wsq (wbk ?_))))))))))))))))))))
  refine wsq (wbk (wsq (wbk (wsq (wbk (wsq (wbk (wsq (wbk (wsq (wbk (wsq (wsq (wsq (wrg (vQ2 tab rfl rfl (vnl (qth (vc_false rfl (vw_skip (qth (wsq ?_))))))))))))))))))))))
  refine wsq (wrg (vQ2 tab rfl rfl (vnl (qth (vc_true rfl (vw_exit (q_thenx (q_thenx (q_out rfl (q_thenx (q_here (qth (wrg (vQ3 tab rfl rfl rfl (vN tab rfl (vQ tab rfl (vnl (q_norm (qth (wsq ?_))))))))))))))))))))
  refine wsq (wrg (vQ3 tab rfl rfl rfl (vN tab rfl (vQ tab rfl (vo_op rfl rfl rfl (opr_ev tab rfl) (vQ tab rfl (vnl (qth (vw_ret (q_thenr (q_ret (q_thenr (q_ret (q_thenr (q_ret (q_thenr (q_ret (q_thenr (q_ret (q_thenr (q_ret ?_)))))))))))))))))))))
  refine q_thenr ?_
  exact out_mk [3] (.inr rfl) ⟨rfl, rfl⟩ rfl (rel_slice (sigma_at (i := 0) (by simp [ownNames, *]) rfl) rfl) (op_cons (sigma_own (a := 0) (by simp [ownNames]) rfl) rfl rfl (ov_evt rfl) rfl (op_cons (sigma_at (i := 0) (by simp [ownNames, *]) rfl) rfl rfl (.opn _ _ (lrel_cons (rel_ptr (sigma_own (a := 0) (by simp [ownNames]) rfl)) (lrel_cons (rel_ptr (sigma_own (a := 0) (by simp [ownNames]) rfl)) lrel_nil))) rfl op_nil)) ⟨fun _ => by simp [lkp], trivial⟩
set_option maxHeartbeats 4000000 in
theorem evt_parts4 {V : Heap} {n i : Nat} {f1 f2 f3 f4 f5 f6 f7 : Int} (hV : V i = some (.cells (evtL ⟨4, f1, f2, f3, f4, f5, f6, f7⟩) 45 (0, 0))) (hin : i < n) :
    Tri Tryz.prog 41 [.pointer (some ⟨i, 0, none⟩)] n 1 V (fun u L => u = .slice (some ⟨n, 0, none⟩) 1 0 ∧ L = [(i, some (.cells (evtL ⟨4, f1, f2, f3, f4, f5, f6, f7⟩) 45 (0, 0))), (n, some (.opn [.pointer (some ⟨i, 1, none⟩)] 86 1))]) := by
  refine call_of_vw (K := 1) (argsI := [.pointer (some ⟨0, 0, none⟩)]) tab Tryz.func41 rfl rfl (by simp [Tryz.f41]) [.own i] [.cells (evtL ⟨4, f1, f2, f3, f4, f5, f6, f7⟩) 45 (0, 0)] rfl (.own hV (ov_evt rfl) .nil) (by simp [ownNames, *]) (by simp [ownNames, lookNames, *]) (by simp [ownNames, *]) (al_cons (.val (rel_ptr rfl)) al_nil) (seen_of (sn_own sn_nil)) ?_
  refine wsq (wrg (vQ tab rfl (vnl (qth (wsq (wrg (vQ tab rfl (vnl (qth (wsq (wsq (wrg (vQ4 tab rfl rfl rfl rfl (vnl (qth (wbk (wsq (wbk (wsq (wbk ?_))))))))))))))))))))
  refine wsq (wbk (wsq (wbk (wsq (wbk (wsq (wbk (wsq (wbk (wsq (wbk (wsq (wsq (wsq (wrg (vQ2 tab rfl rfl (vnl (qth (vc_false rfl (vw_skip (qth (wsq ?_))))))))))))))))))))))
  refine wsq (wrg (vQ2 tab rfl rfl (vnl (qth (vc_false rfl (vw_skip (qth (wsq (wsq (wsq (wrg (vQ2 tab rfl rfl (vnl (qth (vc_true rfl (vw_skip (qth (vc_true rfl (vw_exit (q_thenx (q_thenx ?_)))))))))))))))))))))
  refine q_out rfl (q_thenx (q_out rfl (q_thenx (q_here (qth (wsq (wsq (wrg (vQ3 tab rfl rfl rfl (vN tab rfl (vQ tab rfl (vo_op rfl rfl rfl (opr_ev tab rfl) (vQ tab rfl (vnl (qth (vw_ret (q_thenr (q_ret (q_thenr (q_ret (q_thenr ?_)))))))))))))))))))))
  refine q_ret (q_thenr (q_ret (q_thenr (q_ret (q_thenr (q_ret (q_thenr ?_)))))))
  exact out_mk [2] (.inr rfl) ⟨rfl, rfl⟩ rfl (rel_slice (sigma_at (i := 0) (by simp [ownNames, *]) rfl) rfl) (op_cons (sigma_own (a := 0) (by simp [ownNames]) rfl) rfl rfl (ov_evt rfl) rfl (op_cons (sigma_at (i := 0) (by simp [ownNames, *]) rfl) rfl rfl (.opn _ _ (lrel_cons (rel_ptr (sigma_own (a := 0) (by simp [ownNames]) rfl)) lrel_nil)) rfl op_nil)) ⟨fun _ => by simp [lkp], trivial⟩
set_option maxHeartbeats 4000000 in
theorem evt_parts5 {V : Heap} {n i : Nat} {f1 f2 f3 f4 f5 f6 f7 : Int} (hV : V i = some (.cells (evtL ⟨5, f1, f2, f3, f4, f5, f6, f7⟩) 45 (0, 0))) (hin : i < n) :
    Tri Tryz.prog 41 [.pointer (some ⟨i, 0, none⟩)] n 1 V (fun u L => u = .slice (some ⟨n, 0, none⟩) 4 0 ∧ L = [(i, some (.cells (evtL ⟨5, f1, f2, f3, f4, f5, f6, f7⟩) 45 (0, 0))), (n, some (.opn [.pointer (some ⟨i, 2, none⟩), .pointer (some ⟨i, 1, none⟩), .pointer (some ⟨i, 3, none⟩), .pointer (some ⟨i, 7, none⟩)] 86 1))]) := by
  refine call_of_vw (K := 1) (argsI := [.pointer (some ⟨0, 0, none⟩)]) tab Tryz.func41 rfl rfl (by simp [Tryz.f41]) [.own i] [.cells (evtL ⟨5, f1, f2, f3, f4, f5, f6, f7⟩) 45 (0, 0)] rfl (.own hV (ov_evt rfl) .nil) (by simp [ownNames, *]) (by simp [ownNames, lookNames, *]) (by simp [ownNames, *]) (al_cons (.val (rel_ptr rfl)) al_nil) (seen_of (sn_own sn_nil)) ?_
  refine wsq (wrg (vQ tab rfl (vnl (qth (wsq (wrg (vQ tab rfl (vnl (qth (wsq (wsq (wrg (vQ4 tab rfl rfl rfl rfl (vnl (qth (wbk (wsq (wbk (wsq (wbk ?_))))))))))))))))))))
  refine wsq (wbk (wsq (wbk (wsq (wbk (wsq (wbk (wsq (wbk (wsq (wbk (wsq (wsq (wsq (wrg (vQ2 tab rfl rfl (vnl (qth (vc_false rfl (vw_skip (qth (wsq ?_))))))))))))))))))))))
  refine wsq (wrg (vQ2 tab rfl rfl (vnl (qth (vc_false rfl (vw_skip (qth (wsq (wsq (wsq (wrg (vQ2 tab rfl rfl (vnl (qth (vc_false rfl (wrg (vQ2 tab rfl rfl (vnl (qth (vc_false rfl ?_))))))))))))))))))))
  refine vw_skip (qth (wsq (wsq (wrg (vQ2 tab rfl rfl (vnl (qth (vc_false rfl (vw_skip (qth (wsq (wsq (wrg (vQ2 tab rfl rfl (vnl (qth (vc_true rfl (vw_exit (q_thenx (q_thenx (q_out rfl ?_)))))))))))))))))))))
  refine q_thenx (q_out rfl (q_thenx (q_out rfl (q_thenx (q_out rfl (q_thenx (q_here (qth (wsq (wsq (vw_draw mixed (dq_op tab rfl rfl rfl rfl (dq_op tab rfl rfl rfl rfl (dq_op tab rfl rfl rfl rfl (dq_op tab rfl rfl rfl rfl (dq_op tab rfl rfl rfl rfl (dq_op tab rfl rfl rfl rfl (dq_op tab rfl rfl rfl rfl (dq_op tab rfl rfl rfl rfl (dq_op tab rfl rfl rfl rfl (dq_op tab rfl rfl rfl rfl (dq_op tab rfl rfl rfl rfl (dq_op tab rfl rfl rfl rfl ?_)))))))))))))))))))))))
  refine do_op [1] rfl rfl (opr_ev tab rfl) (dq_op tab rfl rfl rfl rfl (vd_nil (by kernel_rfl) ?_))
  refine qth (vw_ret (q_thenr (q_ret (q_thenr (q_ret (q_thenr (q_ret (q_thenr (q_ret (q_thenr ?_))))))))))
  exact out_mk [1] (.inr rfl) ⟨rfl, rfl⟩ rfl (rel_slice (sigma_at (i := 0) (by simp [ownNames, *]) rfl) rfl) (op_cons (sigma_own (a := 0) (by simp [ownNames]) rfl) rfl rfl (ov_evt rfl) rfl (op_cons (sigma_at (i := 0) (by simp [ownNames, *]) rfl) rfl rfl (.opn _ _ (lrel_cons (rel_ptr (sigma_own (a := 0) (by simp [ownNames]) rfl)) (lrel_cons (rel_ptr (sigma_own (a := 0) (by simp [ownNames]) rfl)) (lrel_cons (rel_ptr (sigma_own (a := 0) (by simp [ownNames]) rfl)) (lrel_cons (rel_ptr (sigma_own (a := 0) (by simp [ownNames]) rfl)) lrel_nil))))) rfl op_nil)) ⟨fun _ => by simp [lkp], trivial⟩
set_option maxHeartbeats 4000000 in
theorem evt_parts6 {V : Heap} {n i : Nat} {f1 f2 f3 f4 f5 f6 f7 : Int} (hV : V i = some (.cells (evtL ⟨6, f1, f2, f3, f4, f5, f6, f7⟩) 45 (0, 0))) (hin : i < n) :
    Tri Tryz.prog 41 [.pointer (some ⟨i, 0, none⟩)] n 1 V (fun u L => u = .slice (some ⟨n, 0, none⟩) 4 0 ∧ L = [(i, some (.cells (evtL ⟨6, f1, f2, f3, f4, f5, f6, f7⟩) 45 (0, 0))), (n, some (.opn [.pointer (some ⟨i, 2, none⟩), .pointer (some ⟨i, 4, none⟩), .pointer (some ⟨i, 5, none⟩), .pointer (some ⟨i, 7, none⟩)] 86 1))]) := by
  refine call_of_vw (K := 1) (argsI := [.pointer (some ⟨0, 0, none⟩)]) tab Tryz.func41 rfl rfl (by simp [Tryz.f41]) [.own i] [.cells (evtL ⟨6, f1, f2, f3, f4, f5, f6, f7⟩) 45 (0, 0)] rfl (.own hV (ov_evt rfl) .nil) (by simp [ownNames, *]) (by simp [ownNames, lookNames, *]) (by simp [ownNames, *]) (al_cons (.val (rel_ptr rfl)) al_nil) (seen_of (sn_own sn_nil)) ?_
  refine wsq (wrg (vQ tab rfl (vnl (qth (wsq (wrg (vQ tab rfl (vnl (qth (wsq (wsq (wrg (vQ4 tab rfl rfl rfl rfl (vnl (qth (wbk (wsq (wbk (wsq (wbk ?_))))))))))))))))))))
  refine wsq (wbk (wsq (wbk (wsq (wbk (wsq (wbk (wsq (wbk (wsq (wbk (wsq (wsq (wsq (wrg (vQ2 tab rfl rfl (vnl (qth (vc_false rfl (vw_skip (qth (wsq ?_))))))))))))))))))))))
  refine wsq (wrg (vQ2 tab rfl rfl (vnl (qth (vc_false rfl (vw_skip (qth (wsq (wsq (wsq (wrg (vQ2 tab rfl rfl (vnl (qth (vc_false rfl (wrg (vQ2 tab rfl rfl (vnl (qth (vc_false rfl ?_))))))))))))))))))))
  refine vw_skip (qth (wsq (wsq (wrg (vQ2 tab rfl rfl (vnl (qth (vc_false rfl (vw_skip (qth (wsq (wsq (wrg (vQ2 tab rfl rfl (vnl (qth (vc_false rfl (vw_skip (qth (wsq (wsq ?_)))))))))))))))))))))
  refine wrg (vQ2 tab rfl rfl (vnl (qth (vc_true rfl (vw_exit (q_thenx (q_thenx (q_out rfl (q_thenx (q_out rfl (q_thenx (q_out rfl (q_thenx (q_out rfl (q_thenx (q_out rfl (q_thenx (q_here (qth (vw_draw mixed (dq_op tab rfl rfl rfl rfl (dq_op tab rfl rfl rfl rfl ?_))))))))))))))))))))))
  refine dq_op tab rfl rfl rfl rfl (dq_op tab rfl rfl rfl rfl (dq_op tab rfl rfl rfl rfl (dq_op tab rfl rfl rfl rfl (dq_op tab rfl rfl rfl rfl (dq_op tab rfl rfl rfl rfl (dq_op tab rfl rfl rfl rfl (do_op [1] rfl rfl (opr_ev tab rfl) (dq_op tab rfl rfl rfl rfl (vd_nil (by kernel_rfl) ?_)))))))))
  refine q_norm (qth (wsq (wsq (wrg (vQ3 tab rfl rfl rfl (vN tab rfl (vQ tab rfl (vo_op rfl rfl rfl (opr_ev tab rfl) (vQ tab rfl (vnl (qth (vw_ret (q_thenr (q_ret (q_thenr (q_ret (q_thenr ?_)))))))))))))))))
  exact out_mk [3] (.inr rfl) ⟨rfl, rfl⟩ rfl (rel_slice (sigma_at (i := 0) (by simp [ownNames, *]) rfl) rfl) (op_cons (sigma_own (a := 0) (by simp [ownNames]) rfl) rfl rfl (ov_evt rfl) rfl (op_cons (sigma_at (i := 0) (by simp [ownNames, *]) rfl) rfl rfl (.opn _ _ (lrel_cons (rel_ptr (sigma_own (a := 0) (by simp [ownNames]) rfl)) (lrel_cons (rel_ptr (sigma_own (a := 0) (by simp [ownNames]) rfl)) (lrel_cons (rel_ptr (sigma_own (a := 0) (by simp [ownNames]) rfl)) (lrel_cons (rel_ptr (sigma_own (a := 0) (by simp [ownNames]) rfl)) lrel_nil))))) rfl op_nil)) ⟨fun _ => by simp [lkp], trivial⟩
set_option maxHeartbeats 4000000 in
theorem evt_parts7 {V : Heap} {n i : Nat} {f1 f2 f3 f4 f5 f6 f7 : Int} (hV : V i = some (.cells (evtL ⟨7, f1, f2, f3, f4, f5, f6, f7⟩) 45 (0, 0))) (hin : i < n) :
    Tri Tryz.prog 41 [.pointer (some ⟨i, 0, none⟩)] n 1 V (fun u L => u = .slice (some ⟨n, 0, none⟩) 1 0 ∧ L = [(i, some (.cells (evtL ⟨7, f1, f2, f3, f4, f5, f6, f7⟩) 45 (0, 0))), (n, some (.opn [.pointer (some ⟨i, 1, none⟩)] 86 1))]) := by
  refine call_of_vw (K := 1) (argsI := [.pointer (some ⟨0, 0, none⟩)]) tab Tryz.func41 rfl rfl (by simp [Tryz.f41]) [.own i] [.cells (evtL ⟨7, f1, f2, f3, f4, f5, f6, f7⟩) 45 (0, 0)] rfl (.own hV (ov_evt rfl) .nil) (by simp [ownNames, *]) (by simp [ownNames, lookNames, *]) (by simp [ownNames, *]) (al_cons (.val (rel_ptr rfl)) al_nil) (seen_of (sn_own sn_nil)) ?_
  refine wsq (wrg (vQ tab rfl (vnl (qth (wsq (wrg (vQ tab rfl (vnl (qth (wsq (wsq (wrg (vQ4 tab rfl rfl rfl rfl (vnl (qth (wbk (wsq (wbk (wsq (wbk ?_))))))))))))))))))))
  refine wsq (wbk (wsq (wbk (wsq (wbk (wsq (wbk (wsq (wbk (wsq (wbk (wsq (wsq (wsq (wrg (vQ2 tab rfl rfl (vnl (qth (vc_false rfl (vw_skip (qth (wsq ?_))))))))))))))))))))))
  refine wsq (wrg (vQ2 tab rfl rfl (vnl (qth (vc_false rfl (vw_skip (qth (wsq (wsq (wsq (wrg (vQ2 tab rfl rfl (vnl (qth (vc_false rfl (wrg (vQ2 tab rfl rfl (vnl (qth (vc_true rfl ?_))))))))))))))))))))
  refine vw_exit (q_thenx (q_thenx (q_out rfl (q_thenx (q_out rfl (q_thenx (q_here (qth (wsq (wsq (wrg (vQ3 tab rfl rfl rfl (vN tab rfl (vQ tab rfl (vo_op rfl rfl rfl (opr_ev tab rfl) (vQ tab rfl (vnl (qth (vw_ret (q_thenr (q_ret ?_)))))))))))))))))))))
  refine q_thenr (q_ret (q_thenr (q_ret (q_thenr (q_ret (q_thenr (q_ret (q_thenr (q_ret (q_thenr ?_))))))))))
  exact out_mk [2] (.inr rfl) ⟨rfl, rfl⟩ rfl (rel_slice (sigma_at (i := 0) (by simp [ownNames, *]) rfl) rfl) (op_cons (sigma_own (a := 0) (by simp [ownNames]) rfl) rfl rfl (ov_evt rfl) rfl (op_cons (sigma_at (i := 0) (by simp [ownNames, *]) rfl) rfl rfl (.opn _ _ (lrel_cons (rel_ptr (sigma_own (a := 0) (by simp [ownNames]) rfl)) lrel_nil)) rfl op_nil)) ⟨fun _ => by simp [lkp], trivial⟩
set_option maxHeartbeats 4000000 in
theorem evt_parts9 {V : Heap} {n i : Nat} {f1 f2 f3 f4 f5 f6 f7 : Int} (hV : V i = some (.cells (evtL ⟨9, f1, f2, f3, f4, f5, f6, f7⟩) 45 (0, 0))) (hin : i < n) :
    Tri Tryz.prog 41 [.pointer (some ⟨i, 0, none⟩)] n 1 V (fun u L => u = .slice (some ⟨n, 0, none⟩) 1 0 ∧ L = [(i, some (.cells (evtL ⟨9, f1, f2, f3, f4, f5, f6, f7⟩) 45 (0, 0))), (n, some (.opn [.pointer (some ⟨i, 2, none⟩)] 86 1))]) := by
  refine call_of_vw (K := 1) (argsI := [.pointer (some ⟨0, 0, none⟩)]) tab Tryz.func41 rfl rfl (by simp [Tryz.f41]) [.own i] [.cells (evtL ⟨9, f1, f2, f3, f4, f5, f6, f7⟩) 45 (0, 0)] rfl (.own hV (ov_evt rfl) .nil) (by simp [ownNames, *]) (by simp [ownNames, lookNames, *]) (by simp [ownNames, *]) (al_cons (.val (rel_ptr rfl)) al_nil) (seen_of (sn_own sn_nil)) ?_
  refine wsq (wrg (vQ tab rfl (vnl (qth (wsq (wrg (vQ tab rfl (vnl (qth (wsq (wsq (wrg (vQ4 tab rfl rfl rfl rfl (vnl (qth (wbk (wsq (wbk (wsq (wbk ?_))))))))))))))))))))
  refine wsq (wbk (wsq (wbk (wsq (wbk (wsq (wbk (wsq (wbk (wsq (wbk (wsq (wsq (wsq (wrg (vQ2 tab rfl rfl (vnl (qth (vc_false rfl (vw_skip (qth (wsq ?_))))))))))))))))))))))
  refine wsq (wrg (vQ2 tab rfl rfl (vnl (qth (vc_false rfl (vw_skip (qth (wsq (wsq (wsq (wrg (vQ2 tab rfl rfl (vnl (qth (vc_false rfl (wrg (vQ2 tab rfl rfl (vnl (qth (vc_false rfl ?_))))))))))))))))))))
  refine vw_skip (qth (wsq (wsq (wrg (vQ2 tab rfl rfl (vnl (qth (vc_false rfl (vw_skip (qth (wsq (wsq (wrg (vQ2 tab rfl rfl (vnl (qth (vc_false rfl (vw_skip (qth (wsq (wsq ?_)))))))))))))))))))))
  refine wrg (vQ2 tab rfl rfl (vnl (qth (vc_false rfl (vw_skip (qth (wsq (wsq (wrg (vQ2 tab rfl rfl (vnl (qth (vc_true rfl (vw_exit (q_thenx (q_thenx (q_out rfl (q_thenx (q_out rfl (q_thenx (q_out rfl ?_)))))))))))))))))))))
  refine q_thenx (q_out rfl (q_thenx (q_out rfl (q_thenx (q_out rfl (q_thenx (q_here (qth (wsq (wsq (wrg (vQ3 tab rfl rfl rfl (vN tab rfl (vQ tab rfl (vo_op rfl rfl rfl (opr_ev tab rfl) (vQ tab rfl (vnl (qth (vw_ret (q_thenr (q_ret ?_)))))))))))))))))))))
  refine q_thenr (q_ret (q_thenr ?_))
  exact out_mk [2] (.inr rfl) ⟨rfl, rfl⟩ rfl (rel_slice (sigma_at (i := 0) (by simp [ownNames, *]) rfl) rfl) (op_cons (sigma_own (a := 0) (by simp [ownNames]) rfl) rfl rfl (ov_evt rfl) rfl (op_cons (sigma_at (i := 0) (by simp [ownNames, *]) rfl) rfl rfl (.opn _ _ (lrel_cons (rel_ptr (sigma_own (a := 0) (by simp [ownNames]) rfl)) lrel_nil)) rfl op_nil)) ⟨fun _ => by simp [lkp], trivial⟩
set_option maxHeartbeats 4000000 in
theorem evt_partsN {V : Heap} {n i : Nat} {k : Int} {f1 f2 f3 f4 f5 f6 f7 : Int} (hV : V i = some (.cells (evtL ⟨k, f1, f2, f3, f4, f5, f6, f7⟩) 45 (0, 0))) (hk : k ≠ 0 ∧ k ≠ 1 ∧ k ≠ 2 ∧ k ≠ 3 ∧ k ≠ 4 ∧ k ≠ 5 ∧ k ≠ 6 ∧ k ≠ 7 ∧ k ≠ 9) :
    Tri Tryz.prog 41 [.pointer (some ⟨i, 0, none⟩)] n 0 V (fun u L => u = .slice none 0 0 ∧ L = []) := by
  refine reads_of_vw (K := 1) (argsI := [.pointer (some ⟨0, 0, none⟩)]) tab Tryz.func41 rfl rfl (by simp [Tryz.f41]) [.own i] [.cells (evtL ⟨k, f1, f2, f3, f4, f5, f6, f7⟩) 45 (0, 0)] rfl (.own hV (ov_evt rfl) .nil) (by simp [ownNames, *]) (by simp [ownNames, lookNames, *]) (al_cons (.val (rel_ptr rfl)) al_nil) (seen_of (sn_own sn_nil)) (.nilSlice) ?_
  refine wsq (wrg (vQ tab rfl (vnl (qth (wsq (wrg (vQ tab rfl (vnl (qth (wsq (wsq (wrg (vQ4 tab rfl rfl rfl rfl (vnl (qth (wbk (wsq (wbk (wsq (wbk ?_))))))))))))))))))))
  refine wsq (wbk (wsq (wbk (wsq (wbk (wsq (wbk (wsq (wbk (wsq (wbk (wsq (wsq (wsq (wrg (vQ2 tab rfl rfl (vnl (qth (vcd_false rfl (by simp only [sl_]; first | done | omega) ?_)))))))))))))))))))
  refine vw_skip (qth (wsq (wsq (wrg (vQ2 tab rfl rfl (vnl (qth (vcd_false rfl (by simp only [sl_]; first | done | omega) ?_))))))))
  refine vw_skip (qth (wsq (wsq (wsq (wrg (vQ2 tab rfl rfl (vnl (qth (vcd_false rfl (by simp only [sl_]; first | done | omega) ?_)))))))))
  refine wrg (vQ2 tab rfl rfl (vnl (qth (vcd_false rfl (by simp only [sl_]; first | done | omega) ?_))))
  refine vw_skip (qth (wsq (wsq (wrg (vQ2 tab rfl rfl (vnl (qth (vcd_false rfl (by simp only [sl_]; first | done | omega) ?_))))))))
  refine vw_skip (qth (wsq (wsq (wrg (vQ2 tab rfl rfl (vnl (qth (vcd_false rfl (by simp only [sl_]; first | done | omega) ?_))))))))
  refine vw_skip (qth (wsq (wsq (wrg (vQ2 tab rfl rfl (vnl (qth (vcd_false rfl (by simp only [sl_]; first | done | omega) ?_))))))))
  refine vw_skip (qth (wsq (wsq (wrg (vQ2 tab rfl rfl (vnl (qth (vcd_false rfl (by simp only [sl_]; first | done | omega) ?_))))))))
  refine vw_skip (qth (wsq (wrg (vQ2 tab rfl rfl (vnl (qth (vcd_false rfl (by simp only [sl_]; first | done | omega) ?_)))))))
  refine vw_skip (qth (vw_exit (q_out rfl (q_thenx (q_out rfl (q_thenx (q_out rfl (q_thenx (q_out rfl (q_thenx (q_out rfl (q_thenx (q_out rfl (q_thenx (q_out rfl (q_thenx (q_out rfl (q_thenx (q_here (qth (wsq (wrg (vQ tab rfl ?_)))))))))))))))))))))))
  refine vnl (qth (vw_ret ?_))
  exact ⟨⟨.inr rfl, rfl⟩, fun _ => rfl, trivial⟩
set_option maxHeartbeats 16000000 in
theorem evt_plain {V : Heap} {n i : Nat} (a : EventV) (hV : V i = some (evtO a)) :
    Tri Tryz.prog 43 [.pointer (some ⟨i, 0, none⟩)] n 0 V (fun u L => u = evtV (evtPlain a) ∧ L = []) := by
  obtain ⟨k, f1, f2, f3, f4, f5, f6, f7⟩ := a
  refine reads_of_vw (K := 1) (argsI := [.pointer (some ⟨0, 0, none⟩)]) tab Tryz.func43 rfl rfl (by simp [Tryz.f43]) [.own i] [evtO ⟨k, f1, f2, f3, f4, f5, f6, f7⟩] rfl (.own hV (ov_evt rfl) .nil) (by simp [ownNames, *]) (by simp [ownNames, lookNames, *]) (al_cons (.val (rel_ptr rfl)) al_nil) (seen_of (sn_own sn_nil)) (evtRel _) ?_
  rcases (show k = 0 ∨ k = 1 ∨ k = 2 ∨ k = 3 ∨ k = 4 ∨ k = 5 ∨ k = 6 ∨ k = 7 ∨ k = 8 ∨ k = 9 ∨ (k ≠ 0 ∧ k ≠ 1 ∧ k ≠ 2 ∧ k ≠ 3 ∧ k ≠ 4 ∧ k ≠ 5 ∧ k ≠ 6 ∧ k ≠ 7 ∧ k ≠ 8 ∧ k ≠ 9) by omega) with rfl | rfl | rfl | rfl | rfl | rfl | rfl | rfl | rfl | rfl | hk
  · refine wsq (wrg (vN tab rfl (vnl (qth (wsq (wrg (vQ4 tab rfl rfl rfl rfl (vQ tab rfl (vN tab rfl (vS tab rfl (vnl (qth (wsq (wrg (vT rfl callable_41 (evt_parts0 (f1 := 0) (f2 := 0) (f3 := 0) (f4 := 0) (f5 := 0) (f6 := 0) (f7 := 0) rfl (by decide)) ?_)))))))))))))))
    refine vQ tab rfl (vnl (qth (wsq (wsq (wrg (vQ tab rfl (vT rfl callable_41 (evt_parts0 (f1 := f1) (f2 := f2) (f3 := f3) (f4 := f4) (f5 := f5) (f6 := f6) (f7 := f7) rfl (by decide)) ?_)))))))
    refine vQ2 tab rfl rfl (vnl (qth (wbk (vw_rounds 5 (rd_step (wsq (wrg (vQ tab rfl (vnl (qth (wsq (vc_true rfl (vw_skip (qth (wsq (wbk (wsq (wrg (vQ3 tab rfl rfl rfl (vQ tab rfl ?_))))))))))))))))))))
    refine vQ tab rfl (vnl (qth (vw_draw mixed (dq_op tab rfl rfl rfl rfl (dq_op tab rfl rfl rfl rfl (dq_op tab rfl rfl rfl rfl (dq_op tab rfl rfl rfl rfl (dq_op tab rfl rfl rfl rfl (dq_op tab rfl rfl rfl rfl (dq_op tab rfl rfl rfl rfl (dq_op tab rfl rfl rfl rfl (ds_op tab rfl rfl rfl rfl (vd_nil (by kernel_rfl) ?_)))))))))))))
    refine q_norm (qth (wrg (vQ2 tab rfl rfl (vnl (qth (rd_step (wsq (wrg (vQ tab rfl (vnl (qth (wsq (vc_false rfl (vw_exit (q_thenx (q_thenx (q_here (qth (wsq (wrg (vQ tab rfl (vS tab rfl ?_))))))))))))))))))))))
    refine vnl (qth (vw_ret ?_))
    exact ⟨⟨.inr rfl, rfl⟩, fun _ => rfl, trivial⟩
  · refine wsq (wrg (vN tab rfl (vnl (qth (wsq (wrg (vQ4 tab rfl rfl rfl rfl (vQ tab rfl (vN tab rfl (vS tab rfl (vnl (qth (wsq (wrg (vT rfl callable_41 (evt_parts1 (f1 := 0) (f2 := 0) (f3 := 0) (f4 := 0) (f5 := 0) (f6 := 0) (f7 := 0) rfl (by decide)) ?_)))))))))))))))
    refine vQ tab rfl (vnl (qth (wsq (wsq (wrg (vQ tab rfl (vT rfl callable_41 (evt_parts1 (f1 := f1) (f2 := f2) (f3 := f3) (f4 := f4) (f5 := f5) (f6 := f6) (f7 := f7) rfl (by decide)) ?_)))))))
    refine vQ2 tab rfl rfl (vnl (qth (wbk (vw_rounds 5 (rd_step (wsq (wrg (vQ tab rfl (vnl (qth (wsq (vc_true rfl (vw_skip (qth (wsq (wbk (wsq (wrg (vQ3 tab rfl rfl rfl (vQ tab rfl ?_))))))))))))))))))))
    refine vQ tab rfl (vnl (qth (vw_draw mixed (dq_op tab rfl rfl rfl rfl (dq_op tab rfl rfl rfl rfl (dq_op tab rfl rfl rfl rfl (dq_op tab rfl rfl rfl rfl (dq_op tab rfl rfl rfl rfl (dq_op tab rfl rfl rfl rfl (dq_op tab rfl rfl rfl rfl (dq_op tab rfl rfl rfl rfl (ds_op tab rfl rfl rfl rfl (vd_nil (by kernel_rfl) ?_)))))))))))))
    refine q_norm (qth (wrg (vQ2 tab rfl rfl (vnl (qth (rd_step (wsq (wrg (vQ tab rfl (vnl (qth (wsq (vc_true rfl (vw_skip (qth (wsq (wbk (wsq (wrg (vQ2 tab rfl rfl (vQ tab rfl ?_)))))))))))))))))))))
    refine vQ2 tab rfl rfl (vnl (qth (vw_draw mixed (dq_op tab rfl rfl rfl rfl (dq_op tab rfl rfl rfl rfl (dq_op tab rfl rfl rfl rfl (dq_op tab rfl rfl rfl rfl (dq_op tab rfl rfl rfl rfl (dq_op tab rfl rfl rfl rfl (dq_op tab rfl rfl rfl rfl (dq_op tab rfl rfl rfl rfl (ds_op tab rfl rfl rfl rfl (vd_nil (by kernel_rfl) ?_)))))))))))))
    refine q_norm (qth (wrg (vQ2 tab rfl rfl (vnl (qth (rd_step (wsq (wrg (vQ tab rfl (vnl (qth (wsq (vc_true rfl (vw_skip (qth (wsq (wbk (wsq (wrg (vQ2 tab rfl rfl (vQ tab rfl ?_)))))))))))))))))))))
    refine vQ2 tab rfl rfl (vnl (qth (vw_draw mixed (dq_op tab rfl rfl rfl rfl (dq_op tab rfl rfl rfl rfl (dq_op tab rfl rfl rfl rfl (dq_op tab rfl rfl rfl rfl (dq_op tab rfl rfl rfl rfl (dq_op tab rfl rfl rfl rfl (dq_op tab rfl rfl rfl rfl (dq_op tab rfl rfl rfl rfl (ds_op tab rfl rfl rfl rfl (vd_nil (by kernel_rfl) ?_)))))))))))))
    refine q_norm (qth (wrg (vQ2 tab rfl rfl (vnl (qth (rd_step (wsq (wrg (vQ tab rfl (vnl (qth (wsq (vc_true rfl (vw_skip (qth (wsq (wbk (wsq (wrg (vQ2 tab rfl rfl (vQ tab rfl ?_)))))))))))))))))))))
    refine vQ2 tab rfl rfl (vnl (qth (vw_draw mixed (dq_op tab rfl rfl rfl rfl (dq_op tab rfl rfl rfl rfl (dq_op tab rfl rfl rfl rfl (dq_op tab rfl rfl rfl rfl (dq_op tab rfl rfl rfl rfl (dq_op tab rfl rfl rfl rfl (dq_op tab rfl rfl rfl rfl (dq_op tab rfl rfl rfl rfl (ds_op tab rfl rfl rfl rfl (vd_nil (by kernel_rfl) ?_)))))))))))))
    refine q_norm (qth (wrg (vQ2 tab rfl rfl (vnl (qth (rd_step (wsq (wrg (vQ tab rfl (vnl (qth (wsq (vc_false rfl (vw_exit (q_thenx (q_thenx (q_here (qth (wsq (wrg (vQ tab rfl (vS tab rfl ?_))))))))))))))))))))))
    refine vnl (qth (vw_ret ?_))
    exact ⟨⟨.inr rfl, rfl⟩, fun _ => rfl, trivial⟩
  · refine wsq (wrg (vN tab rfl (vnl (qth (wsq (wrg (vQ4 tab rfl rfl rfl rfl (vQ tab rfl (vN tab rfl (vS tab rfl (vnl (qth (wsq (wrg (vT rfl callable_41 (evt_parts2 (f1 := 0) (f2 := 0) (f3 := 0) (f4 := 0) (f5 := 0) (f6 := 0) (f7 := 0) rfl (by decide)) ?_)))))))))))))))
    refine vQ tab rfl (vnl (qth (wsq (wsq (wrg (vQ tab rfl (vT rfl callable_41 (evt_parts2 (f1 := f1) (f2 := f2) (f3 := f3) (f4 := f4) (f5 := f5) (f6 := f6) (f7 := f7) rfl (by decide)) ?_)))))))
    refine vQ2 tab rfl rfl (vnl (qth (wbk (vw_rounds 5 (rd_step (wsq (wrg (vQ tab rfl (vnl (qth (wsq (vc_true rfl (vw_skip (qth (wsq (wbk (wsq (wrg (vQ3 tab rfl rfl rfl (vQ tab rfl ?_))))))))))))))))))))
    refine vQ tab rfl (vnl (qth (vw_draw mixed (dq_op tab rfl rfl rfl rfl (dq_op tab rfl rfl rfl rfl (dq_op tab rfl rfl rfl rfl (dq_op tab rfl rfl rfl rfl (dq_op tab rfl rfl rfl rfl (dq_op tab rfl rfl rfl rfl (dq_op tab rfl rfl rfl rfl (dq_op tab rfl rfl rfl rfl (ds_op tab rfl rfl rfl rfl (vd_nil (by kernel_rfl) ?_)))))))))))))
    refine q_norm (qth (wrg (vQ2 tab rfl rfl (vnl (qth (rd_step (wsq (wrg (vQ tab rfl (vnl (qth (wsq (vc_true rfl (vw_skip (qth (wsq (wbk (wsq (wrg (vQ2 tab rfl rfl (vQ tab rfl ?_)))))))))))))))))))))
    refine vQ2 tab rfl rfl (vnl (qth (vw_draw mixed (dq_op tab rfl rfl rfl rfl (dq_op tab rfl rfl rfl rfl (dq_op tab rfl rfl rfl rfl (dq_op tab rfl rfl rfl rfl (dq_op tab rfl rfl rfl rfl (dq_op tab rfl rfl rfl rfl (dq_op tab rfl rfl rfl rfl (dq_op tab rfl rfl rfl rfl (ds_op tab rfl rfl rfl rfl (vd_nil (by kernel_rfl) ?_)))))))))))))
    refine q_norm (qth (wrg (vQ2 tab rfl rfl (vnl (qth (rd_step (wsq (wrg (vQ tab rfl (vnl (qth (wsq (vc_false rfl (vw_exit (q_thenx (q_thenx (q_here (qth (wsq (wrg (vQ tab rfl (vS tab rfl ?_))))))))))))))))))))))
    refine vnl (qth (vw_ret ?_))
    exact ⟨⟨.inr rfl, rfl⟩, fun _ => rfl, trivial⟩
  · refine wsq (wrg (vN tab rfl (vnl (qth (wsq (wrg (vQ4 tab rfl rfl rfl rfl (vQ tab rfl (vN tab rfl (vS tab rfl (vnl (qth (wsq (wrg (vT rfl callable_41 (evt_parts3 (f1 := 0) (f2 := 0) (f3 := 0) (f4 := 0) (f5 := 0) (f6 := 0) (f7 := 0) rfl (by decide)) ?_)))))))))))))))
    refine vQ tab rfl (vnl (qth (wsq (wsq (wrg (vQ tab rfl (vT rfl callable_41 (evt_parts3 (f1 := f1) (f2 := f2) (f3 := f3) (f4 := f4) (f5 := f5) (f6 := f6) (f7 := f7) rfl (by decide)) ?_)))))))
    refine vQ2 tab rfl rfl (vnl (qth (wbk (vw_rounds 5 (rd_step (wsq (wrg (vQ tab rfl (vnl (qth (wsq (vc_true rfl (vw_skip (qth (wsq (wbk (wsq (wrg (vQ3 tab rfl rfl rfl (vQ tab rfl ?_))))))))))))))))))))
    refine vQ tab rfl (vnl (qth (vw_draw mixed (dq_op tab rfl rfl rfl rfl (dq_op tab rfl rfl rfl rfl (dq_op tab rfl rfl rfl rfl (dq_op tab rfl rfl rfl rfl (dq_op tab rfl rfl rfl rfl (dq_op tab rfl rfl rfl rfl (dq_op tab rfl rfl rfl rfl (dq_op tab rfl rfl rfl rfl (ds_op tab rfl rfl rfl rfl (vd_nil (by kernel_rfl) ?_)))))))))))))
    refine q_norm (qth (wrg (vQ2 tab rfl rfl (vnl (qth (rd_step (wsq (wrg (vQ tab rfl (vnl (qth (wsq (vc_true rfl (vw_skip (qth (wsq (wbk (wsq (wrg (vQ2 tab rfl rfl (vQ tab rfl ?_)))))))))))))))))))))
    refine vQ2 tab rfl rfl (vnl (qth (vw_draw mixed (dq_op tab rfl rfl rfl rfl (dq_op tab rfl rfl rfl rfl (dq_op tab rfl rfl rfl rfl (dq_op tab rfl rfl rfl rfl (dq_op tab rfl rfl rfl rfl (dq_op tab rfl rfl rfl rfl (dq_op tab rfl rfl rfl rfl (dq_op tab rfl rfl rfl rfl (ds_op tab rfl rfl rfl rfl (vd_nil (by kernel_rfl) ?_)))))))))))))
    refine q_norm (qth (wrg (vQ2 tab rfl rfl (vnl (qth (rd_step (wsq (wrg (vQ tab rfl (vnl (qth (wsq (vc_false rfl (vw_exit (q_thenx (q_thenx (q_here (qth (wsq (wrg (vQ tab rfl (vS tab rfl ?_))))))))))))))))))))))
    refine vnl (qth (vw_ret ?_))
    exact ⟨⟨.inr rfl, rfl⟩, fun _ => rfl, trivial⟩
  · refine wsq (wrg (vN tab rfl (vnl (qth (wsq (wrg (vQ4 tab rfl rfl rfl rfl (vQ tab rfl (vN tab rfl (vS tab rfl (vnl (qth (wsq (wrg (vT rfl callable_41 (evt_parts4 (f1 := 0) (f2 := 0) (f3 := 0) (f4 := 0) (f5 := 0) (f6 := 0) (f7 := 0) rfl (by decide)) ?_)))))))))))))))
    refine vQ tab rfl (vnl (qth (wsq (wsq (wrg (vQ tab rfl (vT rfl callable_41 (evt_parts4 (f1 := f1) (f2 := f2) (f3 := f3) (f4 := f4) (f5 := f5) (f6 := f6) (f7 := f7) rfl (by decide)) ?_)))))))
    refine vQ2 tab rfl rfl (vnl (qth (wbk (vw_rounds 5 (rd_step (wsq (wrg (vQ tab rfl (vnl (qth (wsq (vc_true rfl (vw_skip (qth (wsq (wbk (wsq (wrg (vQ3 tab rfl rfl rfl (vQ tab rfl ?_))))))))))))))))))))
    refine vQ tab rfl (vnl (qth (vw_draw mixed (dq_op tab rfl rfl rfl rfl (dq_op tab rfl rfl rfl rfl (dq_op tab rfl rfl rfl rfl (dq_op tab rfl rfl rfl rfl (dq_op tab rfl rfl rfl rfl (dq_op tab rfl rfl rfl rfl (dq_op tab rfl rfl rfl rfl (dq_op tab rfl rfl rfl rfl (ds_op tab rfl rfl rfl rfl (vd_nil (by kernel_rfl) ?_)))))))))))))
    refine q_norm (qth (wrg (vQ2 tab rfl rfl (vnl (qth (rd_step (wsq (wrg (vQ tab rfl (vnl (qth (wsq (vc_false rfl (vw_exit (q_thenx (q_thenx (q_here (qth (wsq (wrg (vQ tab rfl (vS tab rfl ?_))))))))))))))))))))))
    refine vnl (qth (vw_ret ?_))
    exact ⟨⟨.inr rfl, rfl⟩, fun _ => rfl, trivial⟩
  · refine wsq (wrg (vN tab rfl (vnl (qth (wsq (wrg (vQ4 tab rfl rfl rfl rfl (vQ tab rfl (vN tab rfl (vS tab rfl (vnl (qth (wsq (wrg (vT rfl callable_41 (evt_parts5 (f1 := 0) (f2 := 0) (f3 := 0) (f4 := 0) (f5 := 0) (f6 := 0) (f7 := 0) rfl (by decide)) ?_)))))))))))))))
    refine vQ tab rfl (vnl (qth (wsq (wsq (wrg (vQ tab rfl (vT rfl callable_41 (evt_parts5 (f1 := f1) (f2 := f2) (f3 := f3) (f4 := f4) (f5 := f5) (f6 := f6) (f7 := f7) rfl (by decide)) ?_)))))))
    refine vQ2 tab rfl rfl (vnl (qth (wbk (vw_rounds 5 (rd_step (wsq (wrg (vQ tab rfl (vnl (qth (wsq (vc_true rfl (vw_skip (qth (wsq (wbk (wsq (wrg (vQ3 tab rfl rfl rfl (vQ tab rfl ?_))))))))))))))))))))
    refine vQ tab rfl (vnl (qth (vw_draw mixed (dq_op tab rfl rfl rfl rfl (dq_op tab rfl rfl rfl rfl (dq_op tab rfl rfl rfl rfl (dq_op tab rfl rfl rfl rfl (dq_op tab rfl rfl rfl rfl (dq_op tab rfl rfl rfl rfl (dq_op tab rfl rfl rfl rfl (dq_op tab rfl rfl rfl rfl (ds_op tab rfl rfl rfl rfl (vd_nil (by kernel_rfl) ?_)))))))))))))
    refine q_norm (qth (wrg (vQ2 tab rfl rfl (vnl (qth (rd_step (wsq (wrg (vQ tab rfl (vnl (qth (wsq (vc_true rfl (vw_skip (qth (wsq (wbk (wsq (wrg (vQ2 tab rfl rfl (vQ tab rfl ?_)))))))))))))))))))))
    refine vQ2 tab rfl rfl (vnl (qth (vw_draw mixed (dq_op tab rfl rfl rfl rfl (dq_op tab rfl rfl rfl rfl (dq_op tab rfl rfl rfl rfl (dq_op tab rfl rfl rfl rfl (dq_op tab rfl rfl rfl rfl (dq_op tab rfl rfl rfl rfl (dq_op tab rfl rfl rfl rfl (dq_op tab rfl rfl rfl rfl (ds_op tab rfl rfl rfl rfl (vd_nil (by kernel_rfl) ?_)))))))))))))
    refine q_norm (qth (wrg (vQ2 tab rfl rfl (vnl (qth (rd_step (wsq (wrg (vQ tab rfl (vnl (qth (wsq (vc_true rfl (vw_skip (qth (wsq (wbk (wsq (wrg (vQ2 tab rfl rfl (vQ tab rfl ?_)))))))))))))))))))))
    refine vQ2 tab rfl rfl (vnl (qth (vw_draw mixed (dq_op tab rfl rfl rfl rfl (dq_op tab rfl rfl rfl rfl (dq_op tab rfl rfl rfl rfl (dq_op tab rfl rfl rfl rfl (dq_op tab rfl rfl rfl rfl (dq_op tab rfl rfl rfl rfl (dq_op tab rfl rfl rfl rfl (dq_op tab rfl rfl rfl rfl (ds_op tab rfl rfl rfl rfl (vd_nil (by kernel_rfl) ?_)))))))))))))
    refine q_norm (qth (wrg (vQ2 tab rfl rfl (vnl (qth (rd_step (wsq (wrg (vQ tab rfl (vnl (qth (wsq (vc_true rfl (vw_skip (qth (wsq (wbk (wsq (wrg (vQ2 tab rfl rfl (vQ tab rfl ?_)))))))))))))))))))))
    refine vQ2 tab rfl rfl (vnl (qth (vw_draw mixed (dq_op tab rfl rfl rfl rfl (dq_op tab rfl rfl rfl rfl (dq_op tab rfl rfl rfl rfl (dq_op tab rfl rfl rfl rfl (dq_op tab rfl rfl rfl rfl (dq_op tab rfl rfl rfl rfl (dq_op tab rfl rfl rfl rfl (dq_op tab rfl rfl rfl rfl (ds_op tab rfl rfl rfl rfl (vd_nil (by kernel_rfl) ?_)))))))))))))
    refine q_norm (qth (wrg (vQ2 tab rfl rfl (vnl (qth (rd_step (wsq (wrg (vQ tab rfl (vnl (qth (wsq (vc_false rfl (vw_exit (q_thenx (q_thenx (q_here (qth (wsq (wrg (vQ tab rfl (vS tab rfl ?_))))))))))))))))))))))
    refine vnl (qth (vw_ret ?_))
    exact ⟨⟨.inr rfl, rfl⟩, fun _ => rfl, trivial⟩
  · refine wsq (wrg (vN tab rfl (vnl (qth (wsq (wrg (vQ4 tab rfl rfl rfl rfl (vQ tab rfl (vN tab rfl (vS tab rfl (vnl (qth (wsq (wrg (vT rfl callable_41 (evt_parts6 (f1 := 0) (f2 := 0) (f3 := 0) (f4 := 0) (f5 := 0) (f6 := 0) (f7 := 0) rfl (by decide)) ?_)))))))))))))))
    refine vQ tab rfl (vnl (qth (wsq (wsq (wrg (vQ tab rfl (vT rfl callable_41 (evt_parts6 (f1 := f1) (f2 := f2) (f3 := f3) (f4 := f4) (f5 := f5) (f6 := f6) (f7 := f7) rfl (by decide)) ?_)))))))
    refine vQ2 tab rfl rfl (vnl (qth (wbk (vw_rounds 5 (rd_step (wsq (wrg (vQ tab rfl (vnl (qth (wsq (vc_true rfl (vw_skip (qth (wsq (wbk (wsq (wrg (vQ3 tab rfl rfl rfl (vQ tab rfl ?_))))))))))))))))))))
    refine vQ tab rfl (vnl (qth (vw_draw mixed (dq_op tab rfl rfl rfl rfl (dq_op tab rfl rfl rfl rfl (dq_op tab rfl rfl rfl rfl (dq_op tab rfl rfl rfl rfl (dq_op tab rfl rfl rfl rfl (dq_op tab rfl rfl rfl rfl (dq_op tab rfl rfl rfl rfl (dq_op tab rfl rfl rfl rfl (ds_op tab rfl rfl rfl rfl (vd_nil (by kernel_rfl) ?_)))))))))))))
    refine q_norm (qth (wrg (vQ2 tab rfl rfl (vnl (qth (rd_step (wsq (wrg (vQ tab rfl (vnl (qth (wsq (vc_true rfl (vw_skip (qth (wsq (wbk (wsq (wrg (vQ2 tab rfl rfl (vQ tab rfl ?_)))))))))))))))))))))
    refine vQ2 tab rfl rfl (vnl (qth (vw_draw mixed (dq_op tab rfl rfl rfl rfl (dq_op tab rfl rfl rfl rfl (dq_op tab rfl rfl rfl rfl (dq_op tab rfl rfl rfl rfl (dq_op tab rfl rfl rfl rfl (dq_op tab rfl rfl rfl rfl (dq_op tab rfl rfl rfl rfl (dq_op tab rfl rfl rfl rfl (ds_op tab rfl rfl rfl rfl (vd_nil (by kernel_rfl) ?_)))))))))))))
    refine q_norm (qth (wrg (vQ2 tab rfl rfl (vnl (qth (rd_step (wsq (wrg (vQ tab rfl (vnl (qth (wsq (vc_true rfl (vw_skip (qth (wsq (wbk (wsq (wrg (vQ2 tab rfl rfl (vQ tab rfl ?_)))))))))))))))))))))
    refine vQ2 tab rfl rfl (vnl (qth (vw_draw mixed (dq_op tab rfl rfl rfl rfl (dq_op tab rfl rfl rfl rfl (dq_op tab rfl rfl rfl rfl (dq_op tab rfl rfl rfl rfl (dq_op tab rfl rfl rfl rfl (dq_op tab rfl rfl rfl rfl (dq_op tab rfl rfl rfl rfl (dq_op tab rfl rfl rfl rfl (ds_op tab rfl rfl rfl rfl (vd_nil (by kernel_rfl) ?_)))))))))))))
    refine q_norm (qth (wrg (vQ2 tab rfl rfl (vnl (qth (rd_step (wsq (wrg (vQ tab rfl (vnl (qth (wsq (vc_true rfl (vw_skip (qth (wsq (wbk (wsq (wrg (vQ2 tab rfl rfl (vQ tab rfl ?_)))))))))))))))))))))
    refine vQ2 tab rfl rfl (vnl (qth (vw_draw mixed (dq_op tab rfl rfl rfl rfl (dq_op tab rfl rfl rfl rfl (dq_op tab rfl rfl rfl rfl (dq_op tab rfl rfl rfl rfl (dq_op tab rfl rfl rfl rfl (dq_op tab rfl rfl rfl rfl (dq_op tab rfl rfl rfl rfl (dq_op tab rfl rfl rfl rfl (ds_op tab rfl rfl rfl rfl (vd_nil (by kernel_rfl) ?_)))))))))))))
    refine q_norm (qth (wrg (vQ2 tab rfl rfl (vnl (qth (rd_step (wsq (wrg (vQ tab rfl (vnl (qth (wsq (vc_false rfl (vw_exit (q_thenx (q_thenx (q_here (qth (wsq (wrg (vQ tab rfl (vS tab rfl ?_))))))))))))))))))))))
    refine vnl (qth (vw_ret ?_))
    exact ⟨⟨.inr rfl, rfl⟩, fun _ => rfl, trivial⟩
  · refine wsq (wrg (vN tab rfl (vnl (qth (wsq (wrg (vQ4 tab rfl rfl rfl rfl (vQ tab rfl (vN tab rfl (vS tab rfl (vnl (qth (wsq (wrg (vT rfl callable_41 (evt_parts7 (f1 := 0) (f2 := 0) (f3 := 0) (f4 := 0) (f5 := 0) (f6 := 0) (f7 := 0) rfl (by decide)) ?_)))))))))))))))
    refine vQ tab rfl (vnl (qth (wsq (wsq (wrg (vQ tab rfl (vT rfl callable_41 (evt_parts7 (f1 := f1) (f2 := f2) (f3 := f3) (f4 := f4) (f5 := f5) (f6 := f6) (f7 := f7) rfl (by decide)) ?_)))))))
    refine vQ2 tab rfl rfl (vnl (qth (wbk (vw_rounds 5 (rd_step (wsq (wrg (vQ tab rfl (vnl (qth (wsq (vc_true rfl (vw_skip (qth (wsq (wbk (wsq (wrg (vQ3 tab rfl rfl rfl (vQ tab rfl ?_))))))))))))))))))))
    refine vQ tab rfl (vnl (qth (vw_draw mixed (dq_op tab rfl rfl rfl rfl (dq_op tab rfl rfl rfl rfl (dq_op tab rfl rfl rfl rfl (dq_op tab rfl rfl rfl rfl (dq_op tab rfl rfl rfl rfl (dq_op tab rfl rfl rfl rfl (dq_op tab rfl rfl rfl rfl (dq_op tab rfl rfl rfl rfl (ds_op tab rfl rfl rfl rfl (vd_nil (by kernel_rfl) ?_)))))))))))))
    refine q_norm (qth (wrg (vQ2 tab rfl rfl (vnl (qth (rd_step (wsq (wrg (vQ tab rfl (vnl (qth (wsq (vc_false rfl (vw_exit (q_thenx (q_thenx (q_here (qth (wsq (wrg (vQ tab rfl (vS tab rfl ?_))))))))))))))))))))))
    refine vnl (qth (vw_ret ?_))
    exact ⟨⟨.inr rfl, rfl⟩, fun _ => rfl, trivial⟩
  · refine wsq (wrg (vN tab rfl (vnl (qth (wsq (wrg (vQ4 tab rfl rfl rfl rfl (vQ tab rfl (vN tab rfl (vS tab rfl (vnl (qth (wsq (wrg (vR rfl callable_41 (evt_partsN (k := 8) (f1 := 0) (f2 := 0) (f3 := 0) (f4 := 0) (f5 := 0) (f6 := 0) (f7 := 0) rfl (by omega)) ?_)))))))))))))))
    refine vQ tab rfl (vnl (qth (wsq (wsq (wrg (vQ tab rfl (vR rfl callable_41 (evt_partsN (k := 8) (f1 := f1) (f2 := f2) (f3 := f3) (f4 := f4) (f5 := f5) (f6 := f6) (f7 := f7) rfl (by omega)) ?_)))))))
    refine vQ2 tab rfl rfl (vnl (qth (wbk (vw_rounds 5 (rd_step (wsq (wrg (vQ tab rfl (vnl (qth (wsq (vc_false rfl (vw_exit (q_thenx (q_thenx (q_here (qth (wsq (wrg (vQ tab rfl (vS tab rfl (vnl ?_))))))))))))))))))))))
    refine qth (vw_ret ?_)
    exact ⟨⟨.inr rfl, rfl⟩, fun _ => rfl, trivial⟩
  · refine wsq (wrg (vN tab rfl (vnl (qth (wsq (wrg (vQ4 tab rfl rfl rfl rfl (vQ tab rfl (vN tab rfl (vS tab rfl (vnl (qth (wsq (wrg (vT rfl callable_41 (evt_parts9 (f1 := 0) (f2 := 0) (f3 := 0) (f4 := 0) (f5 := 0) (f6 := 0) (f7 := 0) rfl (by decide)) ?_)))))))))))))))
    refine vQ tab rfl (vnl (qth (wsq (wsq (wrg (vQ tab rfl (vT rfl callable_41 (evt_parts9 (f1 := f1) (f2 := f2) (f3 := f3) (f4 := f4) (f5 := f5) (f6 := f6) (f7 := f7) rfl (by decide)) ?_)))))))
    refine vQ2 tab rfl rfl (vnl (qth (wbk (vw_rounds 5 (rd_step (wsq (wrg (vQ tab rfl (vnl (qth (wsq (vc_true rfl (vw_skip (qth (wsq (wbk (wsq (wrg (vQ3 tab rfl rfl rfl (vQ tab rfl ?_))))))))))))))))))))
    refine vQ tab rfl (vnl (qth (vw_draw mixed (dq_op tab rfl rfl rfl rfl (dq_op tab rfl rfl rfl rfl (dq_op tab rfl rfl rfl rfl (dq_op tab rfl rfl rfl rfl (dq_op tab rfl rfl rfl rfl (dq_op tab rfl rfl rfl rfl (dq_op tab rfl rfl rfl rfl (dq_op tab rfl rfl rfl rfl (ds_op tab rfl rfl rfl rfl (vd_nil (by kernel_rfl) ?_)))))))))))))
    refine q_norm (qth (wrg (vQ2 tab rfl rfl (vnl (qth (rd_step (wsq (wrg (vQ tab rfl (vnl (qth (wsq (vc_false rfl (vw_exit (q_thenx (q_thenx (q_here (qth (wsq (wrg (vQ tab rfl (vS tab rfl ?_))))))))))))))))))))))
    refine vnl (qth (vw_ret ?_))
    exact ⟨⟨.inr rfl, rfl⟩, fun _ => rfl, trivial⟩
  · refine wsq (wrg (vN tab rfl (vnl (qth (wsq (wrg (vQ4 tab rfl rfl rfl rfl (vQ tab rfl (vN tab rfl (vS tab rfl (vnl (qth (wsq (wrg (vR rfl callable_41 (evt_partsN (k := k) (f1 := 0) (f2 := 0) (f3 := 0) (f4 := 0) (f5 := 0) (f6 := 0) (f7 := 0) rfl (by omega)) ?_)))))))))))))))
    refine vQ tab rfl (vnl (qth (wsq (wsq (wrg (vQ tab rfl (vR rfl callable_41 (evt_partsN (k := k) (f1 := f1) (f2 := f2) (f3 := f3) (f4 := f4) (f5 := f5) (f6 := f6) (f7 := f7) rfl (by omega)) ?_)))))))
    refine vQ2 tab rfl rfl (vnl (qth (wbk (vw_rounds 5 (rd_step (wsq (wrg (vQ tab rfl (vnl (qth (wsq (vc_false rfl (vw_exit (q_thenx (q_thenx (q_here (qth (wsq (wrg (vQ tab rfl (vS tab rfl (vnl ?_))))))))))))))))))))))
    refine qth (vw_ret ?_)
    have hp : evtPlain ⟨k, f1, f2, f3, f4, f5, f6, f7⟩ = ⟨k, 0, 0, 0, 0, 0, 0, 0⟩ := by simp [evtPlain, evtMake, evtNums, evtText, hk]
    rw [hp]
    exact ⟨⟨.inr rfl, rfl⟩, fun _ => rfl, trivial⟩
set_option maxHeartbeats 16000000 in
theorem evt_may (a : EventV) : Fun Tryz.prog 26 [evtV a] (.bool (evtMay a)) := by
  refine fun_of_vw tab Tryz.func26 rfl rfl (by simp [Tryz.f26]) (lrel_cons (evtRel a) lrel_nil) (.bool _) ?_
  obtain ⟨k, f1, f2, f3, f4, f5, f6, f7⟩ := a
  rcases (show k = 0 ∨ k = 1 ∨ k = 2 ∨ k = 3 ∨ k = 4 ∨ k = 5 ∨ k = 6 ∨ k = 7 ∨ k = 8 ∨ k = 9 ∨ (k ≠ 0 ∧ k ≠ 1 ∧ k ≠ 2 ∧ k ≠ 3 ∧ k ≠ 4 ∧ k ≠ 5 ∧ k ≠ 6 ∧ k ≠ 7 ∧ k ≠ 8 ∧ k ≠ 9) by omega) with rfl | rfl | rfl | rfl | rfl | rfl | rfl | rfl | rfl | rfl | hk
  · refine wsq (wrg (vN tab rfl (vQ tab rfl (vnl (qth (wsq (wsq (wrg (vQ4 tab rfl rfl rfl rfl (vQ4 tab rfl rfl rfl rfl (vQ4 tab rfl rfl rfl rfl (vQ tab rfl (vK rfl (vK rfl ?_))))))))))))))
    refine vK rfl (vQ2 tab rfl rfl (vnl (qth (vc_false rfl (vw_skip (qth (wsq (wsq (wrg (vT rfl callable_41 (evt_parts0 (f1 := f1) (f2 := f2) (f3 := f3) (f4 := f4) (f5 := f5) (f6 := f6) (f7 := f7) rfl (by decide)) ?_))))))))))
    refine vQ2 tab rfl rfl (vnl (qth (wbk (vw_rounds 5 (rd_step (wsq (wrg (vQ tab rfl (vnl (qth (wsq (vc_true rfl (vw_skip (qth (wsq (wbk (wsq (wrg (vQ3 tab rfl rfl rfl (vnl ?_))))))))))))))))))))
    refine qth (wsq (wrg (vQ3 tab rfl rfl rfl (vF rfl callable_42 (nummay_fun _) (vQ tab rfl (vnl (qth ?_)))))))
    refine vc_part rfl (fun _ => ?_) (fun _ => ?_)
    refine wsq (wrg (vQ tab rfl (vnl (qth (vw_ret (q_ret (q_thenr (q_thenr (q_ret (q_thenr ?_))))))))))
    rotate_left
    refine vw_skip (q_norm (qth (wrg (vQ2 tab rfl rfl (vnl (qth (rd_step (wsq (wrg (vQ tab rfl (vnl (qth (wsq (vc_false rfl (vw_exit (q_thenx (q_thenx (q_here (qth (wsq (vw_draw mixed (dq_op tab rfl rfl rfl rfl ?_))))))))))))))))))))))
    refine dq_op tab rfl rfl rfl rfl (dq_op tab rfl rfl rfl rfl (dq_op tab rfl rfl rfl rfl ?_))
    refine dg_op rfl rfl rfl (fun _ => ?_) (fun _ => ?_)
    refine dq_op tab ⟨_, _, rfl, rfl, rfl⟩ rfl rfl rfl (dq_op tab ⟨_, _, rfl, rfl, rfl⟩ rfl rfl rfl (dq_op tab ⟨_, _, rfl, rfl, rfl⟩ rfl rfl rfl (dq_op tab rfl rfl rfl rfl (dq_op tab rfl rfl rfl rfl ?_))))
    refine dg_op rfl rfl rfl (fun _ => ?_) (fun _ => ?_)
    refine dq_op tab ⟨_, _, rfl, rfl, rfl⟩ rfl rfl rfl (dq_op tab ⟨_, _, rfl, rfl, rfl⟩ rfl rfl rfl (dq_op tab ⟨_, _, rfl, rfl, rfl⟩ rfl rfl rfl (dq_op tab rfl rfl rfl rfl (dq_op tab rfl rfl rfl rfl ?_))))
    refine dg_op rfl rfl rfl (fun _ => ?_) (fun _ => ?_)
    refine dq_op tab ⟨_, _, rfl, rfl, rfl⟩ rfl rfl rfl (dq_op tab ⟨_, _, rfl, rfl, rfl⟩ rfl rfl rfl (dq_op tab ⟨_, _, rfl, rfl, rfl⟩ rfl rfl rfl (dq_op tab rfl rfl rfl rfl (dq_op tab rfl rfl rfl rfl ?_))))
    refine dg_op rfl rfl rfl (fun _ => ?_) (fun _ => ?_)
    refine dq_op tab ⟨_, _, rfl, rfl, rfl⟩ rfl rfl rfl (dr_op ⟨_, _, rfl, rfl, rfl⟩ rfl rfl rfl rfl callable_43 (evt_plain ⟨0, f1, f2, f3, f4, f5, f6, f7⟩ rfl) (dq_op tab ⟨_, _, rfl, rfl, rfl⟩ rfl (ev_eql rfl rfl rfl (evt_eq ⟨0, f1, f2, f3, f4, f5, f6, f7⟩ (evtPlain ⟨0, f1, f2, f3, f4, f5, f6, f7⟩))) (ev_eql rfl rfl rfl (evt_eq ⟨0, f1, f2, f3, f4, f5, f6, f7⟩ (evtPlain ⟨0, f1, f2, f3, f4, f5, f6, f7⟩))) (dq_op tab rfl rfl rfl rfl (dq_op tab rfl rfl rfl rfl (vd_nil (by kernel_rfl) ?_)))))
    refine qth (vw_ret ?_)
    rotate_left
    refine dk_op ⟨_, _, rfl, rfl, rfl⟩ rfl (dk_op ⟨_, _, rfl, rfl, rfl⟩ rfl (dk_op ⟨_, _, rfl, rfl, rfl⟩ rfl (dq_op tab rfl rfl rfl rfl (dq_op tab rfl rfl rfl rfl (vd_nil (by kernel_rfl) ?_)))))
    refine qth (vw_ret ?_)
    rotate_left
    refine dk_op ⟨_, _, rfl, rfl, rfl⟩ rfl (dk_op ⟨_, _, rfl, rfl, rfl⟩ rfl (dk_op ⟨_, _, rfl, rfl, rfl⟩ rfl (dq_op tab rfl rfl rfl rfl (dq_op tab rfl rfl rfl rfl (dk_op ⟨_, _, rfl, rfl, rfl⟩ rfl (dk_op ⟨_, _, rfl, rfl, rfl⟩ rfl (dk_op ⟨_, _, rfl, rfl, rfl⟩ rfl (dq_op tab rfl rfl rfl rfl (dq_op tab rfl rfl rfl rfl (vd_nil (by kernel_rfl) ?_))))))))))
    refine qth (vw_ret ?_)
    rotate_left
    refine dk_op ⟨_, _, rfl, rfl, rfl⟩ rfl (dk_op ⟨_, _, rfl, rfl, rfl⟩ rfl (dk_op ⟨_, _, rfl, rfl, rfl⟩ rfl (dq_op tab rfl rfl rfl rfl (dq_op tab rfl rfl rfl rfl (dk_op ⟨_, _, rfl, rfl, rfl⟩ rfl (dk_op ⟨_, _, rfl, rfl, rfl⟩ rfl (dk_op ⟨_, _, rfl, rfl, rfl⟩ rfl (dq_op tab rfl rfl rfl rfl (dq_op tab rfl rfl rfl rfl (dk_op ⟨_, _, rfl, rfl, rfl⟩ rfl (dk_op ⟨_, _, rfl, rfl, rfl⟩ rfl (dk_op ⟨_, _, rfl, rfl, rfl⟩ rfl (dq_op tab rfl rfl rfl rfl (dq_op tab rfl rfl rfl rfl (vd_nil (by kernel_rfl) ?_)))))))))))))))
    refine qth (vw_ret ?_)
    rotate_left
    refine dk_op ⟨_, _, rfl, rfl, rfl⟩ rfl (dk_op ⟨_, _, rfl, rfl, rfl⟩ rfl (dk_op ⟨_, _, rfl, rfl, rfl⟩ rfl (dq_op tab rfl rfl rfl rfl (dq_op tab rfl rfl rfl rfl (dk_op ⟨_, _, rfl, rfl, rfl⟩ rfl (dk_op ⟨_, _, rfl, rfl, rfl⟩ rfl (dk_op ⟨_, _, rfl, rfl, rfl⟩ rfl (dq_op tab rfl rfl rfl rfl (dq_op tab rfl rfl rfl rfl (dk_op ⟨_, _, rfl, rfl, rfl⟩ rfl (dk_op ⟨_, _, rfl, rfl, rfl⟩ rfl (dk_op ⟨_, _, rfl, rfl, rfl⟩ rfl (dq_op tab rfl rfl rfl rfl (dq_op tab rfl rfl rfl rfl (dk_op ⟨_, _, rfl, rfl, rfl⟩ rfl (dk_op ⟨_, _, rfl, rfl, rfl⟩ rfl (dk_op ⟨_, _, rfl, rfl, rfl⟩ rfl (dq_op tab rfl rfl rfl rfl (dq_op tab rfl rfl rfl rfl (vd_nil (by kernel_rfl) ?_))))))))))))))))))))
    refine qth (vw_ret ?_)
    rotate_left
    all_goals exact ⟨.inr rfl, Eq.trans (b := some (.bool _)) rfl (congrArg (fun b => some (Value.bool b)) (by simp_all [evtMay, evtNums] <;> (intros; omega)))⟩
  · refine wsq (wrg (vN tab rfl (vQ tab rfl (vnl (qth (wsq (wsq (wrg (vQ4 tab rfl rfl rfl rfl (vQ4 tab rfl rfl rfl rfl (vQ4 tab rfl rfl rfl rfl (vQ tab rfl (vK rfl (vK rfl ?_))))))))))))))
    refine vK rfl (vQ2 tab rfl rfl (vnl (qth (vc_false rfl (vw_skip (qth (wsq (wsq (wrg (vT rfl callable_41 (evt_parts1 (f1 := f1) (f2 := f2) (f3 := f3) (f4 := f4) (f5 := f5) (f6 := f6) (f7 := f7) rfl (by decide)) ?_))))))))))
    refine vQ2 tab rfl rfl (vnl (qth (wbk (vw_rounds 5 (rd_step (wsq (wrg (vQ tab rfl (vnl (qth (wsq (vc_true rfl (vw_skip (qth (wsq (wbk (wsq (wrg (vQ3 tab rfl rfl rfl (vnl ?_))))))))))))))))))))
    refine qth (wsq (wrg (vQ3 tab rfl rfl rfl (vF rfl callable_42 (nummay_fun _) (vQ tab rfl (vnl (qth ?_)))))))
    refine vc_part rfl (fun _ => ?_) (fun _ => ?_)
    refine wsq (wrg (vQ tab rfl (vnl (qth (vw_ret (q_ret (q_thenr (q_thenr (q_ret (q_thenr ?_))))))))))
    rotate_left
    refine vw_skip (q_norm (qth (wrg (vQ2 tab rfl rfl (vnl (qth (rd_step (wsq (wrg (vQ tab rfl (vnl (qth (wsq (vc_true rfl (vw_skip (qth (wsq (wbk (wsq (wrg (vQ tab rfl (vQ tab rfl ?_))))))))))))))))))))))
    refine vQ tab rfl (vnl (qth (wsq (wrg (vQ3 tab rfl rfl rfl (vF rfl callable_42 (nummay_fun _) (vQ tab rfl (vnl (qth ?_)))))))))
    refine vc_part rfl (fun _ => ?_) (fun _ => ?_)
    refine wsq (wrg (vQ tab rfl (vnl (qth (vw_ret (q_ret (q_thenr (q_thenr (q_ret (q_thenr ?_))))))))))
    rotate_left
    refine vw_skip (q_norm (qth (wrg (vQ2 tab rfl rfl (vnl (qth (rd_step (wsq (wrg (vQ tab rfl (vnl (qth (wsq (vc_true rfl (vw_skip (qth (wsq (wbk (wsq (wrg (vQ tab rfl (vQ tab rfl ?_))))))))))))))))))))))
    refine vQ tab rfl (vnl (qth (wsq (wrg (vQ3 tab rfl rfl rfl (vF rfl callable_42 (nummay_fun _) (vQ tab rfl (vnl (qth ?_)))))))))
    refine vc_part rfl (fun _ => ?_) (fun _ => ?_)
    refine wsq (wrg (vQ tab rfl (vnl (qth (vw_ret (q_ret (q_thenr (q_thenr (q_ret (q_thenr ?_))))))))))
    rotate_left
    refine vw_skip (q_norm (qth (wrg (vQ2 tab rfl rfl (vnl (qth (rd_step (wsq (wrg (vQ tab rfl (vnl (qth (wsq (vc_true rfl (vw_skip (qth (wsq (wbk (wsq (wrg (vQ tab rfl (vQ tab rfl ?_))))))))))))))))))))))
    refine vQ tab rfl (vnl (qth (wsq (wrg (vQ3 tab rfl rfl rfl (vF rfl callable_42 (nummay_fun _) (vQ tab rfl (vnl (qth ?_)))))))))
    refine vc_part rfl (fun _ => ?_) (fun _ => ?_)
    refine wsq (wrg (vQ tab rfl (vnl (qth (vw_ret (q_ret (q_thenr (q_thenr (q_ret (q_thenr ?_))))))))))
    rotate_left
    refine vw_skip (q_norm (qth (wrg (vQ2 tab rfl rfl (vnl (qth (rd_step (wsq (wrg (vQ tab rfl (vnl (qth (wsq (vc_false rfl (vw_exit (q_thenx (q_thenx (q_here (qth (wsq (vw_draw mixed (dq_op tab rfl rfl rfl rfl ?_))))))))))))))))))))))
    refine dq_op tab rfl rfl rfl rfl (dq_op tab rfl rfl rfl rfl (dq_op tab rfl rfl rfl rfl ?_))
    refine dg_op rfl rfl rfl (fun _ => ?_) (fun _ => ?_)
    refine dq_op tab ⟨_, _, rfl, rfl, rfl⟩ rfl rfl rfl (dq_op tab ⟨_, _, rfl, rfl, rfl⟩ rfl rfl rfl (dq_op tab ⟨_, _, rfl, rfl, rfl⟩ rfl rfl rfl (dq_op tab rfl rfl rfl rfl (dq_op tab rfl rfl rfl rfl ?_))))
    refine dg_op rfl rfl rfl (fun _ => ?_) (fun _ => ?_)
    refine dq_op tab ⟨_, _, rfl, rfl, rfl⟩ rfl rfl rfl (dq_op tab ⟨_, _, rfl, rfl, rfl⟩ rfl rfl rfl (dq_op tab ⟨_, _, rfl, rfl, rfl⟩ rfl rfl rfl (dq_op tab rfl rfl rfl rfl (dq_op tab rfl rfl rfl rfl ?_))))
    refine dg_op rfl rfl rfl (fun _ => ?_) (fun _ => ?_)
    refine dq_op tab ⟨_, _, rfl, rfl, rfl⟩ rfl rfl rfl (dq_op tab ⟨_, _, rfl, rfl, rfl⟩ rfl rfl rfl (dq_op tab ⟨_, _, rfl, rfl, rfl⟩ rfl rfl rfl (dq_op tab rfl rfl rfl rfl (dq_op tab rfl rfl rfl rfl ?_))))
    refine dg_op rfl rfl rfl (fun _ => ?_) (fun _ => ?_)
    refine dq_op tab ⟨_, _, rfl, rfl, rfl⟩ rfl rfl rfl (dr_op ⟨_, _, rfl, rfl, rfl⟩ rfl rfl rfl rfl callable_43 (evt_plain ⟨1, f1, f2, f3, f4, f5, f6, f7⟩ rfl) (dq_op tab ⟨_, _, rfl, rfl, rfl⟩ rfl (ev_eql rfl rfl rfl (evt_eq ⟨1, f1, f2, f3, f4, f5, f6, f7⟩ (evtPlain ⟨1, f1, f2, f3, f4, f5, f6, f7⟩))) (ev_eql rfl rfl rfl (evt_eq ⟨1, f1, f2, f3, f4, f5, f6, f7⟩ (evtPlain ⟨1, f1, f2, f3, f4, f5, f6, f7⟩))) (dq_op tab rfl rfl rfl rfl (dq_op tab rfl rfl rfl rfl (vd_nil (by kernel_rfl) ?_)))))
    refine qth (vw_ret ?_)
    rotate_left
    refine dk_op ⟨_, _, rfl, rfl, rfl⟩ rfl (dk_op ⟨_, _, rfl, rfl, rfl⟩ rfl (dk_op ⟨_, _, rfl, rfl, rfl⟩ rfl (dq_op tab rfl rfl rfl rfl (dq_op tab rfl rfl rfl rfl (vd_nil (by kernel_rfl) ?_)))))
    refine qth (vw_ret ?_)
    rotate_left
    refine dk_op ⟨_, _, rfl, rfl, rfl⟩ rfl (dk_op ⟨_, _, rfl, rfl, rfl⟩ rfl (dk_op ⟨_, _, rfl, rfl, rfl⟩ rfl (dq_op tab rfl rfl rfl rfl (dq_op tab rfl rfl rfl rfl (dk_op ⟨_, _, rfl, rfl, rfl⟩ rfl (dk_op ⟨_, _, rfl, rfl, rfl⟩ rfl (dk_op ⟨_, _, rfl, rfl, rfl⟩ rfl (dq_op tab rfl rfl rfl rfl (dq_op tab rfl rfl rfl rfl (vd_nil (by kernel_rfl) ?_))))))))))
    refine qth (vw_ret ?_)
    rotate_left
    refine dk_op ⟨_, _, rfl, rfl, rfl⟩ rfl (dk_op ⟨_, _, rfl, rfl, rfl⟩ rfl (dk_op ⟨_, _, rfl, rfl, rfl⟩ rfl (dq_op tab rfl rfl rfl rfl (dq_op tab rfl rfl rfl rfl (dk_op ⟨_, _, rfl, rfl, rfl⟩ rfl (dk_op ⟨_, _, rfl, rfl, rfl⟩ rfl (dk_op ⟨_, _, rfl, rfl, rfl⟩ rfl (dq_op tab rfl rfl rfl rfl (dq_op tab rfl rfl rfl rfl (dk_op ⟨_, _, rfl, rfl, rfl⟩ rfl (dk_op ⟨_, _, rfl, rfl, rfl⟩ rfl (dk_op ⟨_, _, rfl, rfl, rfl⟩ rfl (dq_op tab rfl rfl rfl rfl (dq_op tab rfl rfl rfl rfl (vd_nil (by kernel_rfl) ?_)))))))))))))))
    refine qth (vw_ret ?_)
    rotate_left
    refine dk_op ⟨_, _, rfl, rfl, rfl⟩ rfl (dk_op ⟨_, _, rfl, rfl, rfl⟩ rfl (dk_op ⟨_, _, rfl, rfl, rfl⟩ rfl (dq_op tab rfl rfl rfl rfl (dq_op tab rfl rfl rfl rfl (dk_op ⟨_, _, rfl, rfl, rfl⟩ rfl (dk_op ⟨_, _, rfl, rfl, rfl⟩ rfl (dk_op ⟨_, _, rfl, rfl, rfl⟩ rfl (dq_op tab rfl rfl rfl rfl (dq_op tab rfl rfl rfl rfl (dk_op ⟨_, _, rfl, rfl, rfl⟩ rfl (dk_op ⟨_, _, rfl, rfl, rfl⟩ rfl (dk_op ⟨_, _, rfl, rfl, rfl⟩ rfl (dq_op tab rfl rfl rfl rfl (dq_op tab rfl rfl rfl rfl (dk_op ⟨_, _, rfl, rfl, rfl⟩ rfl (dk_op ⟨_, _, rfl, rfl, rfl⟩ rfl (dk_op ⟨_, _, rfl, rfl, rfl⟩ rfl (dq_op tab rfl rfl rfl rfl (dq_op tab rfl rfl rfl rfl (vd_nil (by kernel_rfl) ?_))))))))))))))))))))
    refine qth (vw_ret ?_)
    rotate_left
    all_goals exact ⟨.inr rfl, Eq.trans (b := some (.bool _)) rfl (congrArg (fun b => some (Value.bool b)) (by simp_all [evtMay, evtNums] <;> (intros; omega)))⟩
  · refine wsq (wrg (vN tab rfl (vQ tab rfl (vnl (qth (wsq (wsq (wrg (vQ4 tab rfl rfl rfl rfl (vQ4 tab rfl rfl rfl rfl (vQ4 tab rfl rfl rfl rfl (vQ tab rfl (vK rfl (vK rfl ?_))))))))))))))
    refine vK rfl (vQ2 tab rfl rfl (vnl (qth (vc_false rfl (vw_skip (qth (wsq (wsq (wrg (vT rfl callable_41 (evt_parts2 (f1 := f1) (f2 := f2) (f3 := f3) (f4 := f4) (f5 := f5) (f6 := f6) (f7 := f7) rfl (by decide)) ?_))))))))))
    refine vQ2 tab rfl rfl (vnl (qth (wbk (vw_rounds 5 (rd_step (wsq (wrg (vQ tab rfl (vnl (qth (wsq (vc_true rfl (vw_skip (qth (wsq (wbk (wsq (wrg (vQ3 tab rfl rfl rfl (vnl ?_))))))))))))))))))))
    refine qth (wsq (wrg (vQ3 tab rfl rfl rfl (vF rfl callable_42 (nummay_fun _) (vQ tab rfl (vnl (qth ?_)))))))
    refine vc_part rfl (fun _ => ?_) (fun _ => ?_)
    refine wsq (wrg (vQ tab rfl (vnl (qth (vw_ret (q_ret (q_thenr (q_thenr (q_ret (q_thenr ?_))))))))))
    rotate_left
    refine vw_skip (q_norm (qth (wrg (vQ2 tab rfl rfl (vnl (qth (rd_step (wsq (wrg (vQ tab rfl (vnl (qth (wsq (vc_true rfl (vw_skip (qth (wsq (wbk (wsq (wrg (vQ tab rfl (vQ tab rfl ?_))))))))))))))))))))))
    refine vQ tab rfl (vnl (qth (wsq (wrg (vQ3 tab rfl rfl rfl (vF rfl callable_42 (nummay_fun _) (vQ tab rfl (vnl (qth ?_)))))))))
    refine vc_part rfl (fun _ => ?_) (fun _ => ?_)
    refine wsq (wrg (vQ tab rfl (vnl (qth (vw_ret (q_ret (q_thenr (q_thenr (q_ret (q_thenr ?_))))))))))
    rotate_left
    refine vw_skip (q_norm (qth (wrg (vQ2 tab rfl rfl (vnl (qth (rd_step (wsq (wrg (vQ tab rfl (vnl (qth (wsq (vc_false rfl (vw_exit (q_thenx (q_thenx (q_here (qth (wsq (vw_draw mixed (dq_op tab rfl rfl rfl rfl ?_))))))))))))))))))))))
    refine dq_op tab rfl rfl rfl rfl (dq_op tab rfl rfl rfl rfl (dq_op tab rfl rfl rfl rfl ?_))
    refine dg_op rfl rfl rfl (fun _ => ?_) (fun _ => ?_)
    refine dq_op tab ⟨_, _, rfl, rfl, rfl⟩ rfl rfl rfl (dq_op tab ⟨_, _, rfl, rfl, rfl⟩ rfl rfl rfl (dq_op tab ⟨_, _, rfl, rfl, rfl⟩ rfl rfl rfl (dq_op tab rfl rfl rfl rfl (dq_op tab rfl rfl rfl rfl ?_))))
    refine dg_op rfl rfl rfl (fun _ => ?_) (fun _ => ?_)
    refine dq_op tab ⟨_, _, rfl, rfl, rfl⟩ rfl rfl rfl (dq_op tab ⟨_, _, rfl, rfl, rfl⟩ rfl rfl rfl (dq_op tab ⟨_, _, rfl, rfl, rfl⟩ rfl rfl rfl (dq_op tab rfl rfl rfl rfl (dq_op tab rfl rfl rfl rfl ?_))))
    refine dg_op rfl rfl rfl (fun _ => ?_) (fun _ => ?_)
    refine dq_op tab ⟨_, _, rfl, rfl, rfl⟩ rfl rfl rfl (dq_op tab ⟨_, _, rfl, rfl, rfl⟩ rfl rfl rfl (dq_op tab ⟨_, _, rfl, rfl, rfl⟩ rfl rfl rfl (dq_op tab rfl rfl rfl rfl (dq_op tab rfl rfl rfl rfl ?_))))
    refine dg_op rfl rfl rfl (fun _ => ?_) (fun _ => ?_)
    refine dq_op tab ⟨_, _, rfl, rfl, rfl⟩ rfl rfl rfl (dr_op ⟨_, _, rfl, rfl, rfl⟩ rfl rfl rfl rfl callable_43 (evt_plain ⟨2, f1, f2, f3, f4, f5, f6, f7⟩ rfl) (dq_op tab ⟨_, _, rfl, rfl, rfl⟩ rfl (ev_eql rfl rfl rfl (evt_eq ⟨2, f1, f2, f3, f4, f5, f6, f7⟩ (evtPlain ⟨2, f1, f2, f3, f4, f5, f6, f7⟩))) (ev_eql rfl rfl rfl (evt_eq ⟨2, f1, f2, f3, f4, f5, f6, f7⟩ (evtPlain ⟨2, f1, f2, f3, f4, f5, f6, f7⟩))) (dq_op tab rfl rfl rfl rfl (dq_op tab rfl rfl rfl rfl (vd_nil (by kernel_rfl) ?_)))))
    refine qth (vw_ret ?_)
    rotate_left
    refine dk_op ⟨_, _, rfl, rfl, rfl⟩ rfl (dk_op ⟨_, _, rfl, rfl, rfl⟩ rfl (dk_op ⟨_, _, rfl, rfl, rfl⟩ rfl (dq_op tab rfl rfl rfl rfl (dq_op tab rfl rfl rfl rfl (vd_nil (by kernel_rfl) ?_)))))
    refine qth (vw_ret ?_)
    rotate_left
    refine dk_op ⟨_, _, rfl, rfl, rfl⟩ rfl (dk_op ⟨_, _, rfl, rfl, rfl⟩ rfl (dk_op ⟨_, _, rfl, rfl, rfl⟩ rfl (dq_op tab rfl rfl rfl rfl (dq_op tab rfl rfl rfl rfl (dk_op ⟨_, _, rfl, rfl, rfl⟩ rfl (dk_op ⟨_, _, rfl, rfl, rfl⟩ rfl (dk_op ⟨_, _, rfl, rfl, rfl⟩ rfl (dq_op tab rfl rfl rfl rfl (dq_op tab rfl rfl rfl rfl (vd_nil (by kernel_rfl) ?_))))))))))
    refine qth (vw_ret ?_)
    rotate_left
    refine dk_op ⟨_, _, rfl, rfl, rfl⟩ rfl (dk_op ⟨_, _, rfl, rfl, rfl⟩ rfl (dk_op ⟨_, _, rfl, rfl, rfl⟩ rfl (dq_op tab rfl rfl rfl rfl (dq_op tab rfl rfl rfl rfl (dk_op ⟨_, _, rfl, rfl, rfl⟩ rfl (dk_op ⟨_, _, rfl, rfl, rfl⟩ rfl (dk_op ⟨_, _, rfl, rfl, rfl⟩ rfl (dq_op tab rfl rfl rfl rfl (dq_op tab rfl rfl rfl rfl (dk_op ⟨_, _, rfl, rfl, rfl⟩ rfl (dk_op ⟨_, _, rfl, rfl, rfl⟩ rfl (dk_op ⟨_, _, rfl, rfl, rfl⟩ rfl (dq_op tab rfl rfl rfl rfl (dq_op tab rfl rfl rfl rfl (vd_nil (by kernel_rfl) ?_)))))))))))))))
    refine qth (vw_ret ?_)
    rotate_left
    refine dk_op ⟨_, _, rfl, rfl, rfl⟩ rfl (dk_op ⟨_, _, rfl, rfl, rfl⟩ rfl (dk_op ⟨_, _, rfl, rfl, rfl⟩ rfl (dq_op tab rfl rfl rfl rfl (dq_op tab rfl rfl rfl rfl (dk_op ⟨_, _, rfl, rfl, rfl⟩ rfl (dk_op ⟨_, _, rfl, rfl, rfl⟩ rfl (dk_op ⟨_, _, rfl, rfl, rfl⟩ rfl (dq_op tab rfl rfl rfl rfl (dq_op tab rfl rfl rfl rfl (dk_op ⟨_, _, rfl, rfl, rfl⟩ rfl (dk_op ⟨_, _, rfl, rfl, rfl⟩ rfl (dk_op ⟨_, _, rfl, rfl, rfl⟩ rfl (dq_op tab rfl rfl rfl rfl (dq_op tab rfl rfl rfl rfl (dk_op ⟨_, _, rfl, rfl, rfl⟩ rfl (dk_op ⟨_, _, rfl, rfl, rfl⟩ rfl (dk_op ⟨_, _, rfl, rfl, rfl⟩ rfl (dq_op tab rfl rfl rfl rfl (dq_op tab rfl rfl rfl rfl (vd_nil (by kernel_rfl) ?_))))))))))))))))))))
    refine qth (vw_ret ?_)
    rotate_left
    all_goals exact ⟨.inr rfl, Eq.trans (b := some (.bool _)) rfl (congrArg (fun b => some (Value.bool b)) (by simp_all [evtMay, evtNums] <;> (intros; omega)))⟩
  · refine wsq (wrg (vN tab rfl (vQ tab rfl (vnl (qth (wsq (wsq (wrg (vQ4 tab rfl rfl rfl rfl (vQ4 tab rfl rfl rfl rfl (vQ4 tab rfl rfl rfl rfl (vQ tab rfl (vK rfl (vK rfl ?_))))))))))))))
    refine vK rfl (vQ2 tab rfl rfl (vnl (qth (vc_false rfl (vw_skip (qth (wsq (wsq (wrg (vT rfl callable_41 (evt_parts3 (f1 := f1) (f2 := f2) (f3 := f3) (f4 := f4) (f5 := f5) (f6 := f6) (f7 := f7) rfl (by decide)) ?_))))))))))
    refine vQ2 tab rfl rfl (vnl (qth (wbk (vw_rounds 5 (rd_step (wsq (wrg (vQ tab rfl (vnl (qth (wsq (vc_true rfl (vw_skip (qth (wsq (wbk (wsq (wrg (vQ3 tab rfl rfl rfl (vnl ?_))))))))))))))))))))
    refine qth (wsq (wrg (vQ3 tab rfl rfl rfl (vF rfl callable_42 (nummay_fun _) (vQ tab rfl (vnl (qth ?_)))))))
    refine vc_part rfl (fun _ => ?_) (fun _ => ?_)
    refine wsq (wrg (vQ tab rfl (vnl (qth (vw_ret (q_ret (q_thenr (q_thenr (q_ret (q_thenr ?_))))))))))
    rotate_left
    refine vw_skip (q_norm (qth (wrg (vQ2 tab rfl rfl (vnl (qth (rd_step (wsq (wrg (vQ tab rfl (vnl (qth (wsq (vc_true rfl (vw_skip (qth (wsq (wbk (wsq (wrg (vQ tab rfl (vQ tab rfl ?_))))))))))))))))))))))
    refine vQ tab rfl (vnl (qth (wsq (wrg (vQ3 tab rfl rfl rfl (vF rfl callable_42 (nummay_fun _) (vQ tab rfl (vnl (qth ?_)))))))))
    refine vc_part rfl (fun _ => ?_) (fun _ => ?_)
    refine wsq (wrg (vQ tab rfl (vnl (qth (vw_ret (q_ret (q_thenr (q_thenr (q_ret (q_thenr ?_))))))))))
    rotate_left
    refine vw_skip (q_norm (qth (wrg (vQ2 tab rfl rfl (vnl (qth (rd_step (wsq (wrg (vQ tab rfl (vnl (qth (wsq (vc_false rfl (vw_exit (q_thenx (q_thenx (q_here (qth (wsq (vw_draw mixed (dq_op tab rfl rfl rfl rfl ?_))))))))))))))))))))))
    refine dq_op tab rfl rfl rfl rfl (dq_op tab rfl rfl rfl rfl (dq_op tab rfl rfl rfl rfl ?_))
    refine dg_op rfl rfl rfl (fun _ => ?_) (fun _ => ?_)
    refine dq_op tab ⟨_, _, rfl, rfl, rfl⟩ rfl rfl rfl (dq_op tab ⟨_, _, rfl, rfl, rfl⟩ rfl rfl rfl (dq_op tab ⟨_, _, rfl, rfl, rfl⟩ rfl rfl rfl (dq_op tab rfl rfl rfl rfl (dq_op tab rfl rfl rfl rfl ?_))))
    refine dg_op rfl rfl rfl (fun _ => ?_) (fun _ => ?_)
    refine dq_op tab ⟨_, _, rfl, rfl, rfl⟩ rfl rfl rfl (dq_op tab ⟨_, _, rfl, rfl, rfl⟩ rfl rfl rfl (dq_op tab ⟨_, _, rfl, rfl, rfl⟩ rfl rfl rfl (dq_op tab rfl rfl rfl rfl (dq_op tab rfl rfl rfl rfl ?_))))
    refine dg_op rfl rfl rfl (fun _ => ?_) (fun _ => ?_)
    refine dq_op tab ⟨_, _, rfl, rfl, rfl⟩ rfl rfl rfl (dq_op tab ⟨_, _, rfl, rfl, rfl⟩ rfl rfl rfl (dq_op tab ⟨_, _, rfl, rfl, rfl⟩ rfl rfl rfl (dq_op tab rfl rfl rfl rfl (dq_op tab rfl rfl rfl rfl ?_))))
    refine dg_op rfl rfl rfl (fun _ => ?_) (fun _ => ?_)
    refine dq_op tab ⟨_, _, rfl, rfl, rfl⟩ rfl rfl rfl (dr_op ⟨_, _, rfl, rfl, rfl⟩ rfl rfl rfl rfl callable_43 (evt_plain ⟨3, f1, f2, f3, f4, f5, f6, f7⟩ rfl) (dq_op tab ⟨_, _, rfl, rfl, rfl⟩ rfl (ev_eql rfl rfl rfl (evt_eq ⟨3, f1, f2, f3, f4, f5, f6, f7⟩ (evtPlain ⟨3, f1, f2, f3, f4, f5, f6, f7⟩))) (ev_eql rfl rfl rfl (evt_eq ⟨3, f1, f2, f3, f4, f5, f6, f7⟩ (evtPlain ⟨3, f1, f2, f3, f4, f5, f6, f7⟩))) (dq_op tab rfl rfl rfl rfl (dq_op tab rfl rfl rfl rfl (vd_nil (by kernel_rfl) ?_)))))
    refine qth (vw_ret ?_)
    rotate_left
    refine dk_op ⟨_, _, rfl, rfl, rfl⟩ rfl (dk_op ⟨_, _, rfl, rfl, rfl⟩ rfl (dk_op ⟨_, _, rfl, rfl, rfl⟩ rfl (dq_op tab rfl rfl rfl rfl (dq_op tab rfl rfl rfl rfl (vd_nil (by kernel_rfl) ?_)))))
    refine qth (vw_ret ?_)
    rotate_left
    refine dk_op ⟨_, _, rfl, rfl, rfl⟩ rfl (dk_op ⟨_, _, rfl, rfl, rfl⟩ rfl (dk_op ⟨_, _, rfl, rfl, rfl⟩ rfl (dq_op tab rfl rfl rfl rfl (dq_op tab rfl rfl rfl rfl (dk_op ⟨_, _, rfl, rfl, rfl⟩ rfl (dk_op ⟨_, _, rfl, rfl, rfl⟩ rfl (dk_op ⟨_, _, rfl, rfl, rfl⟩ rfl (dq_op tab rfl rfl rfl rfl (dq_op tab rfl rfl rfl rfl (vd_nil (by kernel_rfl) ?_))))))))))
    refine qth (vw_ret ?_)
    rotate_left
    refine dk_op ⟨_, _, rfl, rfl, rfl⟩ rfl (dk_op ⟨_, _, rfl, rfl, rfl⟩ rfl (dk_op ⟨_, _, rfl, rfl, rfl⟩ rfl (dq_op tab rfl rfl rfl rfl (dq_op tab rfl rfl rfl rfl (dk_op ⟨_, _, rfl, rfl, rfl⟩ rfl (dk_op ⟨_, _, rfl, rfl, rfl⟩ rfl (dk_op ⟨_, _, rfl, rfl, rfl⟩ rfl (dq_op tab rfl rfl rfl rfl (dq_op tab rfl rfl rfl rfl (dk_op ⟨_, _, rfl, rfl, rfl⟩ rfl (dk_op ⟨_, _, rfl, rfl, rfl⟩ rfl (dk_op ⟨_, _, rfl, rfl, rfl⟩ rfl (dq_op tab rfl rfl rfl rfl (dq_op tab rfl rfl rfl rfl (vd_nil (by kernel_rfl) ?_)))))))))))))))
    refine qth (vw_ret ?_)
    rotate_left
    refine dk_op ⟨_, _, rfl, rfl, rfl⟩ rfl (dk_op ⟨_, _, rfl, rfl, rfl⟩ rfl (dk_op ⟨_, _, rfl, rfl, rfl⟩ rfl (dq_op tab rfl rfl rfl rfl (dq_op tab rfl rfl rfl rfl (dk_op ⟨_, _, rfl, rfl, rfl⟩ rfl (dk_op ⟨_, _, rfl, rfl, rfl⟩ rfl (dk_op ⟨_, _, rfl, rfl, rfl⟩ rfl (dq_op tab rfl rfl rfl rfl (dq_op tab rfl rfl rfl rfl (dk_op ⟨_, _, rfl, rfl, rfl⟩ rfl (dk_op ⟨_, _, rfl, rfl, rfl⟩ rfl (dk_op ⟨_, _, rfl, rfl, rfl⟩ rfl (dq_op tab rfl rfl rfl rfl (dq_op tab rfl rfl rfl rfl (dk_op ⟨_, _, rfl, rfl, rfl⟩ rfl (dk_op ⟨_, _, rfl, rfl, rfl⟩ rfl (dk_op ⟨_, _, rfl, rfl, rfl⟩ rfl (dq_op tab rfl rfl rfl rfl (dq_op tab rfl rfl rfl rfl (vd_nil (by kernel_rfl) ?_))))))))))))))))))))
    refine qth (vw_ret ?_)
    rotate_left
    all_goals exact ⟨.inr rfl, Eq.trans (b := some (.bool _)) rfl (congrArg (fun b => some (Value.bool b)) (by simp_all [evtMay, evtNums] <;> (intros; omega)))⟩
  · refine wsq (wrg (vN tab rfl (vQ tab rfl (vnl (qth (wsq (wsq (wrg (vQ4 tab rfl rfl rfl rfl (vQ4 tab rfl rfl rfl rfl (vQ4 tab rfl rfl rfl rfl (vQ tab rfl (vK rfl (vK rfl ?_))))))))))))))
    refine vK rfl (vQ2 tab rfl rfl (vnl (qth (vc_false rfl (vw_skip (qth (wsq (wsq (wrg (vT rfl callable_41 (evt_parts4 (f1 := f1) (f2 := f2) (f3 := f3) (f4 := f4) (f5 := f5) (f6 := f6) (f7 := f7) rfl (by decide)) ?_))))))))))
    refine vQ2 tab rfl rfl (vnl (qth (wbk (vw_rounds 5 (rd_step (wsq (wrg (vQ tab rfl (vnl (qth (wsq (vc_true rfl (vw_skip (qth (wsq (wbk (wsq (wrg (vQ3 tab rfl rfl rfl (vnl ?_))))))))))))))))))))
    refine qth (wsq (wrg (vQ3 tab rfl rfl rfl (vF rfl callable_42 (nummay_fun _) (vQ tab rfl (vnl (qth ?_)))))))
    refine vc_part rfl (fun _ => ?_) (fun _ => ?_)
    refine wsq (wrg (vQ tab rfl (vnl (qth (vw_ret (q_ret (q_thenr (q_thenr (q_ret (q_thenr ?_))))))))))
    rotate_left
    refine vw_skip (q_norm (qth (wrg (vQ2 tab rfl rfl (vnl (qth (rd_step (wsq (wrg (vQ tab rfl (vnl (qth (wsq (vc_false rfl (vw_exit (q_thenx (q_thenx (q_here (qth (wsq (vw_draw mixed (dq_op tab rfl rfl rfl rfl ?_))))))))))))))))))))))
    refine dq_op tab rfl rfl rfl rfl (dq_op tab rfl rfl rfl rfl (dq_op tab rfl rfl rfl rfl ?_))
    refine dg_op rfl rfl rfl (fun _ => ?_) (fun _ => ?_)
    refine dq_op tab ⟨_, _, rfl, rfl, rfl⟩ rfl rfl rfl (dq_op tab ⟨_, _, rfl, rfl, rfl⟩ rfl rfl rfl (dq_op tab ⟨_, _, rfl, rfl, rfl⟩ rfl rfl rfl (dq_op tab rfl rfl rfl rfl (dq_op tab rfl rfl rfl rfl ?_))))
    refine dg_op rfl rfl rfl (fun _ => ?_) (fun _ => ?_)
    refine dq_op tab ⟨_, _, rfl, rfl, rfl⟩ rfl rfl rfl (dq_op tab ⟨_, _, rfl, rfl, rfl⟩ rfl rfl rfl (dq_op tab ⟨_, _, rfl, rfl, rfl⟩ rfl rfl rfl (dq_op tab rfl rfl rfl rfl (dq_op tab rfl rfl rfl rfl ?_))))
    refine dg_op rfl rfl rfl (fun _ => ?_) (fun _ => ?_)
    refine dq_op tab ⟨_, _, rfl, rfl, rfl⟩ rfl rfl rfl (dq_op tab ⟨_, _, rfl, rfl, rfl⟩ rfl rfl rfl (dq_op tab ⟨_, _, rfl, rfl, rfl⟩ rfl rfl rfl (dq_op tab rfl rfl rfl rfl (dq_op tab rfl rfl rfl rfl ?_))))
    refine dg_op rfl rfl rfl (fun _ => ?_) (fun _ => ?_)
    refine dq_op tab ⟨_, _, rfl, rfl, rfl⟩ rfl rfl rfl (dr_op ⟨_, _, rfl, rfl, rfl⟩ rfl rfl rfl rfl callable_43 (evt_plain ⟨4, f1, f2, f3, f4, f5, f6, f7⟩ rfl) (dq_op tab ⟨_, _, rfl, rfl, rfl⟩ rfl (ev_eql rfl rfl rfl (evt_eq ⟨4, f1, f2, f3, f4, f5, f6, f7⟩ (evtPlain ⟨4, f1, f2, f3, f4, f5, f6, f7⟩))) (ev_eql rfl rfl rfl (evt_eq ⟨4, f1, f2, f3, f4, f5, f6, f7⟩ (evtPlain ⟨4, f1, f2, f3, f4, f5, f6, f7⟩))) (dq_op tab rfl rfl rfl rfl (dq_op tab rfl rfl rfl rfl (vd_nil (by kernel_rfl) ?_)))))
    refine qth (vw_ret ?_)
    rotate_left
    refine dk_op ⟨_, _, rfl, rfl, rfl⟩ rfl (dk_op ⟨_, _, rfl, rfl, rfl⟩ rfl (dk_op ⟨_, _, rfl, rfl, rfl⟩ rfl (dq_op tab rfl rfl rfl rfl (dq_op tab rfl rfl rfl rfl (vd_nil (by kernel_rfl) ?_)))))
    refine qth (vw_ret ?_)
    rotate_left
    refine dk_op ⟨_, _, rfl, rfl, rfl⟩ rfl (dk_op ⟨_, _, rfl, rfl, rfl⟩ rfl (dk_op ⟨_, _, rfl, rfl, rfl⟩ rfl (dq_op tab rfl rfl rfl rfl (dq_op tab rfl rfl rfl rfl (dk_op ⟨_, _, rfl, rfl, rfl⟩ rfl (dk_op ⟨_, _, rfl, rfl, rfl⟩ rfl (dk_op ⟨_, _, rfl, rfl, rfl⟩ rfl (dq_op tab rfl rfl rfl rfl (dq_op tab rfl rfl rfl rfl (vd_nil (by kernel_rfl) ?_))))))))))
    refine qth (vw_ret ?_)
    rotate_left
    refine dk_op ⟨_, _, rfl, rfl, rfl⟩ rfl (dk_op ⟨_, _, rfl, rfl, rfl⟩ rfl (dk_op ⟨_, _, rfl, rfl, rfl⟩ rfl (dq_op tab rfl rfl rfl rfl (dq_op tab rfl rfl rfl rfl (dk_op ⟨_, _, rfl, rfl, rfl⟩ rfl (dk_op ⟨_, _, rfl, rfl, rfl⟩ rfl (dk_op ⟨_, _, rfl, rfl, rfl⟩ rfl (dq_op tab rfl rfl rfl rfl (dq_op tab rfl rfl rfl rfl (dk_op ⟨_, _, rfl, rfl, rfl⟩ rfl (dk_op ⟨_, _, rfl, rfl, rfl⟩ rfl (dk_op ⟨_, _, rfl, rfl, rfl⟩ rfl (dq_op tab rfl rfl rfl rfl (dq_op tab rfl rfl rfl rfl (vd_nil (by kernel_rfl) ?_)))))))))))))))
    refine qth (vw_ret ?_)
    rotate_left
    refine dk_op ⟨_, _, rfl, rfl, rfl⟩ rfl (dk_op ⟨_, _, rfl, rfl, rfl⟩ rfl (dk_op ⟨_, _, rfl, rfl, rfl⟩ rfl (dq_op tab rfl rfl rfl rfl (dq_op tab rfl rfl rfl rfl (dk_op ⟨_, _, rfl, rfl, rfl⟩ rfl (dk_op ⟨_, _, rfl, rfl, rfl⟩ rfl (dk_op ⟨_, _, rfl, rfl, rfl⟩ rfl (dq_op tab rfl rfl rfl rfl (dq_op tab rfl rfl rfl rfl (dk_op ⟨_, _, rfl, rfl, rfl⟩ rfl (dk_op ⟨_, _, rfl, rfl, rfl⟩ rfl (dk_op ⟨_, _, rfl, rfl, rfl⟩ rfl (dq_op tab rfl rfl rfl rfl (dq_op tab rfl rfl rfl rfl (dk_op ⟨_, _, rfl, rfl, rfl⟩ rfl (dk_op ⟨_, _, rfl, rfl, rfl⟩ rfl (dk_op ⟨_, _, rfl, rfl, rfl⟩ rfl (dq_op tab rfl rfl rfl rfl (dq_op tab rfl rfl rfl rfl (vd_nil (by kernel_rfl) ?_))))))))))))))))))))
    refine qth (vw_ret ?_)
    rotate_left
    all_goals exact ⟨.inr rfl, Eq.trans (b := some (.bool _)) rfl (congrArg (fun b => some (Value.bool b)) (by simp_all [evtMay, evtNums] <;> (intros; omega)))⟩
  · refine wsq (wrg (vN tab rfl (vQ tab rfl (vnl (qth (wsq (wsq (wrg (vQ4 tab rfl rfl rfl rfl (vQ4 tab rfl rfl rfl rfl (vQ4 tab rfl rfl rfl rfl (vQ tab rfl (vK rfl (vK rfl ?_))))))))))))))
    refine vK rfl (vQ2 tab rfl rfl (vnl (qth (vc_false rfl (vw_skip (qth (wsq (wsq (wrg (vT rfl callable_41 (evt_parts5 (f1 := f1) (f2 := f2) (f3 := f3) (f4 := f4) (f5 := f5) (f6 := f6) (f7 := f7) rfl (by decide)) ?_))))))))))
    refine vQ2 tab rfl rfl (vnl (qth (wbk (vw_rounds 5 (rd_step (wsq (wrg (vQ tab rfl (vnl (qth (wsq (vc_true rfl (vw_skip (qth (wsq (wbk (wsq (wrg (vQ3 tab rfl rfl rfl (vnl ?_))))))))))))))))))))
    refine qth (wsq (wrg (vQ3 tab rfl rfl rfl (vF rfl callable_42 (nummay_fun _) (vQ tab rfl (vnl (qth ?_)))))))
    refine vc_part rfl (fun _ => ?_) (fun _ => ?_)
    refine wsq (wrg (vQ tab rfl (vnl (qth (vw_ret (q_ret (q_thenr (q_thenr (q_ret (q_thenr ?_))))))))))
    rotate_left
    refine vw_skip (q_norm (qth (wrg (vQ2 tab rfl rfl (vnl (qth (rd_step (wsq (wrg (vQ tab rfl (vnl (qth (wsq (vc_true rfl (vw_skip (qth (wsq (wbk (wsq (wrg (vQ tab rfl (vQ tab rfl ?_))))))))))))))))))))))
    refine vQ tab rfl (vnl (qth (wsq (wrg (vQ3 tab rfl rfl rfl (vF rfl callable_42 (nummay_fun _) (vQ tab rfl (vnl (qth ?_)))))))))
    refine vc_part rfl (fun _ => ?_) (fun _ => ?_)
    refine wsq (wrg (vQ tab rfl (vnl (qth (vw_ret (q_ret (q_thenr (q_thenr (q_ret (q_thenr ?_))))))))))
    rotate_left
    refine vw_skip (q_norm (qth (wrg (vQ2 tab rfl rfl (vnl (qth (rd_step (wsq (wrg (vQ tab rfl (vnl (qth (wsq (vc_true rfl (vw_skip (qth (wsq (wbk (wsq (wrg (vQ tab rfl (vQ tab rfl ?_))))))))))))))))))))))
    refine vQ tab rfl (vnl (qth (wsq (wrg (vQ3 tab rfl rfl rfl (vF rfl callable_42 (nummay_fun _) (vQ tab rfl (vnl (qth ?_)))))))))
    refine vc_part rfl (fun _ => ?_) (fun _ => ?_)
    refine wsq (wrg (vQ tab rfl (vnl (qth (vw_ret (q_ret (q_thenr (q_thenr (q_ret (q_thenr ?_))))))))))
    rotate_left
    refine vw_skip (q_norm (qth (wrg (vQ2 tab rfl rfl (vnl (qth (rd_step (wsq (wrg (vQ tab rfl (vnl (qth (wsq (vc_true rfl (vw_skip (qth (wsq (wbk (wsq (wrg (vQ tab rfl (vQ tab rfl ?_))))))))))))))))))))))
    refine vQ tab rfl (vnl (qth (wsq (wrg (vQ3 tab rfl rfl rfl (vF rfl callable_42 (nummay_fun _) (vQ tab rfl (vnl (qth ?_)))))))))
    refine vc_part rfl (fun _ => ?_) (fun _ => ?_)
    refine wsq (wrg (vQ tab rfl (vnl (qth (vw_ret (q_ret (q_thenr (q_thenr (q_ret (q_thenr ?_))))))))))
    rotate_left
    refine vw_skip (q_norm (qth (wrg (vQ2 tab rfl rfl (vnl (qth (rd_step (wsq (wrg (vQ tab rfl (vnl (qth (wsq (vc_false rfl (vw_exit (q_thenx (q_thenx (q_here (qth (wsq (vw_draw mixed (dq_op tab rfl rfl rfl rfl ?_))))))))))))))))))))))
    refine dq_op tab rfl rfl rfl rfl (dq_op tab rfl rfl rfl rfl (dq_op tab rfl rfl rfl rfl ?_))
    refine dg_op rfl rfl rfl (fun _ => ?_) (fun _ => ?_)
    refine dq_op tab ⟨_, _, rfl, rfl, rfl⟩ rfl rfl rfl (dq_op tab ⟨_, _, rfl, rfl, rfl⟩ rfl rfl rfl (dq_op tab ⟨_, _, rfl, rfl, rfl⟩ rfl rfl rfl (dq_op tab rfl rfl rfl rfl (dq_op tab rfl rfl rfl rfl ?_))))
    refine dg_op rfl rfl rfl (fun _ => ?_) (fun _ => ?_)
    refine dq_op tab ⟨_, _, rfl, rfl, rfl⟩ rfl rfl rfl (dq_op tab ⟨_, _, rfl, rfl, rfl⟩ rfl rfl rfl (dq_op tab ⟨_, _, rfl, rfl, rfl⟩ rfl rfl rfl (dq_op tab rfl rfl rfl rfl (dq_op tab rfl rfl rfl rfl ?_))))
    refine dg_op rfl rfl rfl (fun _ => ?_) (fun _ => ?_)
    refine dq_op tab ⟨_, _, rfl, rfl, rfl⟩ rfl rfl rfl (dq_op tab ⟨_, _, rfl, rfl, rfl⟩ rfl rfl rfl (dq_op tab ⟨_, _, rfl, rfl, rfl⟩ rfl rfl rfl (dq_op tab rfl rfl rfl rfl (dq_op tab rfl rfl rfl rfl ?_))))
    refine dg_op rfl rfl rfl (fun _ => ?_) (fun _ => ?_)
    refine dq_op tab ⟨_, _, rfl, rfl, rfl⟩ rfl rfl rfl (dr_op ⟨_, _, rfl, rfl, rfl⟩ rfl rfl rfl rfl callable_43 (evt_plain ⟨5, f1, f2, f3, f4, f5, f6, f7⟩ rfl) (dq_op tab ⟨_, _, rfl, rfl, rfl⟩ rfl (ev_eql rfl rfl rfl (evt_eq ⟨5, f1, f2, f3, f4, f5, f6, f7⟩ (evtPlain ⟨5, f1, f2, f3, f4, f5, f6, f7⟩))) (ev_eql rfl rfl rfl (evt_eq ⟨5, f1, f2, f3, f4, f5, f6, f7⟩ (evtPlain ⟨5, f1, f2, f3, f4, f5, f6, f7⟩))) (dq_op tab rfl rfl rfl rfl (dq_op tab rfl rfl rfl rfl (vd_nil (by kernel_rfl) ?_)))))
    refine qth (vw_ret ?_)
    rotate_left
    refine dk_op ⟨_, _, rfl, rfl, rfl⟩ rfl (dk_op ⟨_, _, rfl, rfl, rfl⟩ rfl (dk_op ⟨_, _, rfl, rfl, rfl⟩ rfl (dq_op tab rfl rfl rfl rfl (dq_op tab rfl rfl rfl rfl (vd_nil (by kernel_rfl) ?_)))))
    refine qth (vw_ret ?_)
    rotate_left
    refine dk_op ⟨_, _, rfl, rfl, rfl⟩ rfl (dk_op ⟨_, _, rfl, rfl, rfl⟩ rfl (dk_op ⟨_, _, rfl, rfl, rfl⟩ rfl (dq_op tab rfl rfl rfl rfl (dq_op tab rfl rfl rfl rfl (dk_op ⟨_, _, rfl, rfl, rfl⟩ rfl (dk_op ⟨_, _, rfl, rfl, rfl⟩ rfl (dk_op ⟨_, _, rfl, rfl, rfl⟩ rfl (dq_op tab rfl rfl rfl rfl (dq_op tab rfl rfl rfl rfl (vd_nil (by kernel_rfl) ?_))))))))))
    refine qth (vw_ret ?_)
    rotate_left
    refine dk_op ⟨_, _, rfl, rfl, rfl⟩ rfl (dk_op ⟨_, _, rfl, rfl, rfl⟩ rfl (dk_op ⟨_, _, rfl, rfl, rfl⟩ rfl (dq_op tab rfl rfl rfl rfl (dq_op tab rfl rfl rfl rfl (dk_op ⟨_, _, rfl, rfl, rfl⟩ rfl (dk_op ⟨_, _, rfl, rfl, rfl⟩ rfl (dk_op ⟨_, _, rfl, rfl, rfl⟩ rfl (dq_op tab rfl rfl rfl rfl (dq_op tab rfl rfl rfl rfl (dk_op ⟨_, _, rfl, rfl, rfl⟩ rfl (dk_op ⟨_, _, rfl, rfl, rfl⟩ rfl (dk_op ⟨_, _, rfl, rfl, rfl⟩ rfl (dq_op tab rfl rfl rfl rfl (dq_op tab rfl rfl rfl rfl (vd_nil (by kernel_rfl) ?_)))))))))))))))
    refine qth (vw_ret ?_)
    rotate_left
    refine dk_op ⟨_, _, rfl, rfl, rfl⟩ rfl (dk_op ⟨_, _, rfl, rfl, rfl⟩ rfl (dk_op ⟨_, _, rfl, rfl, rfl⟩ rfl (dq_op tab rfl rfl rfl rfl (dq_op tab rfl rfl rfl rfl (dk_op ⟨_, _, rfl, rfl, rfl⟩ rfl (dk_op ⟨_, _, rfl, rfl, rfl⟩ rfl (dk_op ⟨_, _, rfl, rfl, rfl⟩ rfl (dq_op tab rfl rfl rfl rfl (dq_op tab rfl rfl rfl rfl (dk_op ⟨_, _, rfl, rfl, rfl⟩ rfl (dk_op ⟨_, _, rfl, rfl, rfl⟩ rfl (dk_op ⟨_, _, rfl, rfl, rfl⟩ rfl (dq_op tab rfl rfl rfl rfl (dq_op tab rfl rfl rfl rfl (dk_op ⟨_, _, rfl, rfl, rfl⟩ rfl (dk_op ⟨_, _, rfl, rfl, rfl⟩ rfl (dk_op ⟨_, _, rfl, rfl, rfl⟩ rfl (dq_op tab rfl rfl rfl rfl (dq_op tab rfl rfl rfl rfl (vd_nil (by kernel_rfl) ?_))))))))))))))))))))
    refine qth (vw_ret ?_)
    rotate_left
    all_goals exact ⟨.inr rfl, Eq.trans (b := some (.bool _)) rfl (congrArg (fun b => some (Value.bool b)) (by simp_all [evtMay, evtNums] <;> (intros; omega)))⟩
  · refine wsq (wrg (vN tab rfl (vQ tab rfl (vnl (qth (wsq (wsq (wrg (vQ4 tab rfl rfl rfl rfl (vQ4 tab rfl rfl rfl rfl (vQ4 tab rfl rfl rfl rfl (vQ2 tab rfl rfl (vQ tab rfl ?_)))))))))))))
    refine vQ3 tab rfl rfl rfl (vnl (qth ?_))
    refine vc_part rfl (fun _ => ?_) (fun _ => ?_)
    refine wsq (wrg (vQ tab rfl (vnl (qth (vw_ret (q_thenr ?_))))))
    rotate_left
    refine vw_skip (qth (wsq (wsq (wrg (vT rfl callable_41 (evt_parts6 (f1 := f1) (f2 := f2) (f3 := f3) (f4 := f4) (f5 := f5) (f6 := f6) (f7 := f7) rfl (by decide)) ?_)))))
    refine vQ2 tab rfl rfl (vnl (qth (wbk (vw_rounds 5 (rd_step (wsq (wrg (vQ tab rfl (vnl (qth (wsq (vc_true rfl (vw_skip (qth (wsq (wbk (wsq (wrg (vQ3 tab rfl rfl rfl (vnl ?_))))))))))))))))))))
    refine qth (wsq (wrg (vQ3 tab rfl rfl rfl (vF rfl callable_42 (nummay_fun _) (vQ tab rfl (vnl (qth ?_)))))))
    refine vc_part rfl (fun _ => ?_) (fun _ => ?_)
    refine wsq (wrg (vQ tab rfl (vnl (qth (vw_ret (q_ret (q_thenr (q_thenr (q_ret (q_thenr ?_))))))))))
    rotate_left
    refine vw_skip (q_norm (qth (wrg (vQ2 tab rfl rfl (vnl (qth (rd_step (wsq (wrg (vQ tab rfl (vnl (qth (wsq (vc_true rfl (vw_skip (qth (wsq (wbk (wsq (wrg (vQ tab rfl (vQ tab rfl ?_))))))))))))))))))))))
    refine vQ tab rfl (vnl (qth (wsq (wrg (vQ3 tab rfl rfl rfl (vF rfl callable_42 (nummay_fun _) (vQ tab rfl (vnl (qth ?_)))))))))
    refine vc_part rfl (fun _ => ?_) (fun _ => ?_)
    refine wsq (wrg (vQ tab rfl (vnl (qth (vw_ret (q_ret (q_thenr (q_thenr (q_ret (q_thenr ?_))))))))))
    rotate_left
    refine vw_skip (q_norm (qth (wrg (vQ2 tab rfl rfl (vnl (qth (rd_step (wsq (wrg (vQ tab rfl (vnl (qth (wsq (vc_true rfl (vw_skip (qth (wsq (wbk (wsq (wrg (vQ tab rfl (vQ tab rfl ?_))))))))))))))))))))))
    refine vQ tab rfl (vnl (qth (wsq (wrg (vQ3 tab rfl rfl rfl (vF rfl callable_42 (nummay_fun _) (vQ tab rfl (vnl (qth ?_)))))))))
    refine vc_part rfl (fun _ => ?_) (fun _ => ?_)
    refine wsq (wrg (vQ tab rfl (vnl (qth (vw_ret (q_ret (q_thenr (q_thenr (q_ret (q_thenr ?_))))))))))
    rotate_left
    refine vw_skip (q_norm (qth (wrg (vQ2 tab rfl rfl (vnl (qth (rd_step (wsq (wrg (vQ tab rfl (vnl (qth (wsq (vc_true rfl (vw_skip (qth (wsq (wbk (wsq (wrg (vQ tab rfl (vQ tab rfl ?_))))))))))))))))))))))
    refine vQ tab rfl (vnl (qth (wsq (wrg (vQ3 tab rfl rfl rfl (vF rfl callable_42 (nummay_fun _) (vQ tab rfl (vnl (qth ?_)))))))))
    refine vc_part rfl (fun _ => ?_) (fun _ => ?_)
    refine wsq (wrg (vQ tab rfl (vnl (qth (vw_ret (q_ret (q_thenr (q_thenr (q_ret (q_thenr ?_))))))))))
    rotate_left
    refine vw_skip (q_norm (qth (wrg (vQ2 tab rfl rfl (vnl (qth (rd_step (wsq (wrg (vQ tab rfl (vnl (qth (wsq (vc_false rfl (vw_exit (q_thenx (q_thenx (q_here (qth (wsq (vw_draw mixed (dq_op tab rfl rfl rfl rfl ?_))))))))))))))))))))))
    refine dq_op tab rfl rfl rfl rfl (dq_op tab rfl rfl rfl rfl (dq_op tab rfl rfl rfl rfl ?_))
    refine dg_op rfl rfl rfl (fun _ => ?_) (fun _ => ?_)
    refine dq_op tab ⟨_, _, rfl, rfl, rfl⟩ rfl rfl rfl (dq_op tab ⟨_, _, rfl, rfl, rfl⟩ rfl rfl rfl (dq_op tab ⟨_, _, rfl, rfl, rfl⟩ rfl rfl rfl (dq_op tab rfl rfl rfl rfl (dq_op tab rfl rfl rfl rfl ?_))))
    refine dg_op rfl rfl rfl (fun _ => ?_) (fun _ => ?_)
    refine dq_op tab ⟨_, _, rfl, rfl, rfl⟩ rfl rfl rfl (dq_op tab ⟨_, _, rfl, rfl, rfl⟩ rfl rfl rfl (dq_op tab ⟨_, _, rfl, rfl, rfl⟩ rfl rfl rfl (dq_op tab rfl rfl rfl rfl (dq_op tab rfl rfl rfl rfl ?_))))
    refine dg_op rfl rfl rfl (fun _ => ?_) (fun _ => ?_)
    refine dq_op tab ⟨_, _, rfl, rfl, rfl⟩ rfl rfl rfl (dq_op tab ⟨_, _, rfl, rfl, rfl⟩ rfl rfl rfl (dq_op tab ⟨_, _, rfl, rfl, rfl⟩ rfl rfl rfl (dq_op tab rfl rfl rfl rfl (dq_op tab rfl rfl rfl rfl ?_))))
    refine dg_op rfl rfl rfl (fun _ => ?_) (fun _ => ?_)
    refine dq_op tab ⟨_, _, rfl, rfl, rfl⟩ rfl rfl rfl (dr_op ⟨_, _, rfl, rfl, rfl⟩ rfl rfl rfl rfl callable_43 (evt_plain ⟨6, f1, f2, f3, f4, f5, f6, f7⟩ rfl) (dq_op tab ⟨_, _, rfl, rfl, rfl⟩ rfl (ev_eql rfl rfl rfl (evt_eq ⟨6, f1, f2, f3, f4, f5, f6, f7⟩ (evtPlain ⟨6, f1, f2, f3, f4, f5, f6, f7⟩))) (ev_eql rfl rfl rfl (evt_eq ⟨6, f1, f2, f3, f4, f5, f6, f7⟩ (evtPlain ⟨6, f1, f2, f3, f4, f5, f6, f7⟩))) (dq_op tab rfl rfl rfl rfl (dq_op tab rfl rfl rfl rfl (vd_nil (by kernel_rfl) ?_)))))
    refine qth (vw_ret ?_)
    rotate_left
    refine dk_op ⟨_, _, rfl, rfl, rfl⟩ rfl (dk_op ⟨_, _, rfl, rfl, rfl⟩ rfl (dk_op ⟨_, _, rfl, rfl, rfl⟩ rfl (dq_op tab rfl rfl rfl rfl (dq_op tab rfl rfl rfl rfl (vd_nil (by kernel_rfl) ?_)))))
    refine qth (vw_ret ?_)
    rotate_left
    refine dk_op ⟨_, _, rfl, rfl, rfl⟩ rfl (dk_op ⟨_, _, rfl, rfl, rfl⟩ rfl (dk_op ⟨_, _, rfl, rfl, rfl⟩ rfl (dq_op tab rfl rfl rfl rfl (dq_op tab rfl rfl rfl rfl (dk_op ⟨_, _, rfl, rfl, rfl⟩ rfl (dk_op ⟨_, _, rfl, rfl, rfl⟩ rfl (dk_op ⟨_, _, rfl, rfl, rfl⟩ rfl (dq_op tab rfl rfl rfl rfl (dq_op tab rfl rfl rfl rfl (vd_nil (by kernel_rfl) ?_))))))))))
    refine qth (vw_ret ?_)
    rotate_left
    refine dk_op ⟨_, _, rfl, rfl, rfl⟩ rfl (dk_op ⟨_, _, rfl, rfl, rfl⟩ rfl (dk_op ⟨_, _, rfl, rfl, rfl⟩ rfl (dq_op tab rfl rfl rfl rfl (dq_op tab rfl rfl rfl rfl (dk_op ⟨_, _, rfl, rfl, rfl⟩ rfl (dk_op ⟨_, _, rfl, rfl, rfl⟩ rfl (dk_op ⟨_, _, rfl, rfl, rfl⟩ rfl (dq_op tab rfl rfl rfl rfl (dq_op tab rfl rfl rfl rfl (dk_op ⟨_, _, rfl, rfl, rfl⟩ rfl (dk_op ⟨_, _, rfl, rfl, rfl⟩ rfl (dk_op ⟨_, _, rfl, rfl, rfl⟩ rfl (dq_op tab rfl rfl rfl rfl (dq_op tab rfl rfl rfl rfl (vd_nil (by kernel_rfl) ?_)))))))))))))))
    refine qth (vw_ret ?_)
    rotate_left
    refine dk_op ⟨_, _, rfl, rfl, rfl⟩ rfl (dk_op ⟨_, _, rfl, rfl, rfl⟩ rfl (dk_op ⟨_, _, rfl, rfl, rfl⟩ rfl (dq_op tab rfl rfl rfl rfl (dq_op tab rfl rfl rfl rfl (dk_op ⟨_, _, rfl, rfl, rfl⟩ rfl (dk_op ⟨_, _, rfl, rfl, rfl⟩ rfl (dk_op ⟨_, _, rfl, rfl, rfl⟩ rfl (dq_op tab rfl rfl rfl rfl (dq_op tab rfl rfl rfl rfl (dk_op ⟨_, _, rfl, rfl, rfl⟩ rfl (dk_op ⟨_, _, rfl, rfl, rfl⟩ rfl (dk_op ⟨_, _, rfl, rfl, rfl⟩ rfl (dq_op tab rfl rfl rfl rfl (dq_op tab rfl rfl rfl rfl (dk_op ⟨_, _, rfl, rfl, rfl⟩ rfl (dk_op ⟨_, _, rfl, rfl, rfl⟩ rfl (dk_op ⟨_, _, rfl, rfl, rfl⟩ rfl (dq_op tab rfl rfl rfl rfl (dq_op tab rfl rfl rfl rfl (vd_nil (by kernel_rfl) ?_))))))))))))))))))))
    refine qth (vw_ret ?_)
    rotate_left
    all_goals exact ⟨.inr rfl, Eq.trans (b := some (.bool _)) rfl (congrArg (fun b => some (Value.bool b)) (by simp_all [evtMay, evtNums] <;> (intros; omega)))⟩
  · refine wsq (wrg (vN tab rfl (vQ tab rfl (vnl (qth (wsq (wsq (wrg (vQ4 tab rfl rfl rfl rfl (vQ4 tab rfl rfl rfl rfl (vQ4 tab rfl rfl rfl rfl (vQ tab rfl (vK rfl (vK rfl ?_))))))))))))))
    refine vK rfl (vQ2 tab rfl rfl (vnl (qth (vc_false rfl (vw_skip (qth (wsq (wsq (wrg (vT rfl callable_41 (evt_parts7 (f1 := f1) (f2 := f2) (f3 := f3) (f4 := f4) (f5 := f5) (f6 := f6) (f7 := f7) rfl (by decide)) ?_))))))))))
    refine vQ2 tab rfl rfl (vnl (qth (wbk (vw_rounds 5 (rd_step (wsq (wrg (vQ tab rfl (vnl (qth (wsq (vc_true rfl (vw_skip (qth (wsq (wbk (wsq (wrg (vQ3 tab rfl rfl rfl (vnl ?_))))))))))))))))))))
    refine qth (wsq (wrg (vQ3 tab rfl rfl rfl (vF rfl callable_42 (nummay_fun _) (vQ tab rfl (vnl (qth ?_)))))))
    refine vc_part rfl (fun _ => ?_) (fun _ => ?_)
    refine wsq (wrg (vQ tab rfl (vnl (qth (vw_ret (q_ret (q_thenr (q_thenr (q_ret (q_thenr ?_))))))))))
    rotate_left
    refine vw_skip (q_norm (qth (wrg (vQ2 tab rfl rfl (vnl (qth (rd_step (wsq (wrg (vQ tab rfl (vnl (qth (wsq (vc_false rfl (vw_exit (q_thenx (q_thenx (q_here (qth (wsq (vw_draw mixed (dq_op tab rfl rfl rfl rfl ?_))))))))))))))))))))))
    refine dq_op tab rfl rfl rfl rfl (dq_op tab rfl rfl rfl rfl (dq_op tab rfl rfl rfl rfl ?_))
    refine dg_op rfl rfl rfl (fun _ => ?_) (fun _ => ?_)
    refine dq_op tab ⟨_, _, rfl, rfl, rfl⟩ rfl rfl rfl (dq_op tab ⟨_, _, rfl, rfl, rfl⟩ rfl rfl rfl (dq_op tab ⟨_, _, rfl, rfl, rfl⟩ rfl rfl rfl (dq_op tab rfl rfl rfl rfl (dq_op tab rfl rfl rfl rfl ?_))))
    refine dg_op rfl rfl rfl (fun _ => ?_) (fun _ => ?_)
    refine dq_op tab ⟨_, _, rfl, rfl, rfl⟩ rfl rfl rfl (dq_op tab ⟨_, _, rfl, rfl, rfl⟩ rfl rfl rfl (dq_op tab ⟨_, _, rfl, rfl, rfl⟩ rfl rfl rfl (dq_op tab rfl rfl rfl rfl (dq_op tab rfl rfl rfl rfl ?_))))
    refine dg_op rfl rfl rfl (fun _ => ?_) (fun _ => ?_)
    refine dq_op tab ⟨_, _, rfl, rfl, rfl⟩ rfl rfl rfl (dq_op tab ⟨_, _, rfl, rfl, rfl⟩ rfl rfl rfl (dq_op tab ⟨_, _, rfl, rfl, rfl⟩ rfl rfl rfl (dq_op tab rfl rfl rfl rfl (dq_op tab rfl rfl rfl rfl ?_))))
    refine dg_op rfl rfl rfl (fun _ => ?_) (fun _ => ?_)
    refine dq_op tab ⟨_, _, rfl, rfl, rfl⟩ rfl rfl rfl (dr_op ⟨_, _, rfl, rfl, rfl⟩ rfl rfl rfl rfl callable_43 (evt_plain ⟨7, f1, f2, f3, f4, f5, f6, f7⟩ rfl) (dq_op tab ⟨_, _, rfl, rfl, rfl⟩ rfl (ev_eql rfl rfl rfl (evt_eq ⟨7, f1, f2, f3, f4, f5, f6, f7⟩ (evtPlain ⟨7, f1, f2, f3, f4, f5, f6, f7⟩))) (ev_eql rfl rfl rfl (evt_eq ⟨7, f1, f2, f3, f4, f5, f6, f7⟩ (evtPlain ⟨7, f1, f2, f3, f4, f5, f6, f7⟩))) (dq_op tab rfl rfl rfl rfl (dq_op tab rfl rfl rfl rfl (vd_nil (by kernel_rfl) ?_)))))
    refine qth (vw_ret ?_)
    rotate_left
    refine dk_op ⟨_, _, rfl, rfl, rfl⟩ rfl (dk_op ⟨_, _, rfl, rfl, rfl⟩ rfl (dk_op ⟨_, _, rfl, rfl, rfl⟩ rfl (dq_op tab rfl rfl rfl rfl (dq_op tab rfl rfl rfl rfl (vd_nil (by kernel_rfl) ?_)))))
    refine qth (vw_ret ?_)
    rotate_left
    refine dk_op ⟨_, _, rfl, rfl, rfl⟩ rfl (dk_op ⟨_, _, rfl, rfl, rfl⟩ rfl (dk_op ⟨_, _, rfl, rfl, rfl⟩ rfl (dq_op tab rfl rfl rfl rfl (dq_op tab rfl rfl rfl rfl (dk_op ⟨_, _, rfl, rfl, rfl⟩ rfl (dk_op ⟨_, _, rfl, rfl, rfl⟩ rfl (dk_op ⟨_, _, rfl, rfl, rfl⟩ rfl (dq_op tab rfl rfl rfl rfl (dq_op tab rfl rfl rfl rfl (vd_nil (by kernel_rfl) ?_))))))))))
    refine qth (vw_ret ?_)
    rotate_left
    refine dk_op ⟨_, _, rfl, rfl, rfl⟩ rfl (dk_op ⟨_, _, rfl, rfl, rfl⟩ rfl (dk_op ⟨_, _, rfl, rfl, rfl⟩ rfl (dq_op tab rfl rfl rfl rfl (dq_op tab rfl rfl rfl rfl (dk_op ⟨_, _, rfl, rfl, rfl⟩ rfl (dk_op ⟨_, _, rfl, rfl, rfl⟩ rfl (dk_op ⟨_, _, rfl, rfl, rfl⟩ rfl (dq_op tab rfl rfl rfl rfl (dq_op tab rfl rfl rfl rfl (dk_op ⟨_, _, rfl, rfl, rfl⟩ rfl (dk_op ⟨_, _, rfl, rfl, rfl⟩ rfl (dk_op ⟨_, _, rfl, rfl, rfl⟩ rfl (dq_op tab rfl rfl rfl rfl (dq_op tab rfl rfl rfl rfl (vd_nil (by kernel_rfl) ?_)))))))))))))))
    refine qth (vw_ret ?_)
    rotate_left
    refine dk_op ⟨_, _, rfl, rfl, rfl⟩ rfl (dk_op ⟨_, _, rfl, rfl, rfl⟩ rfl (dk_op ⟨_, _, rfl, rfl, rfl⟩ rfl (dq_op tab rfl rfl rfl rfl (dq_op tab rfl rfl rfl rfl (dk_op ⟨_, _, rfl, rfl, rfl⟩ rfl (dk_op ⟨_, _, rfl, rfl, rfl⟩ rfl (dk_op ⟨_, _, rfl, rfl, rfl⟩ rfl (dq_op tab rfl rfl rfl rfl (dq_op tab rfl rfl rfl rfl (dk_op ⟨_, _, rfl, rfl, rfl⟩ rfl (dk_op ⟨_, _, rfl, rfl, rfl⟩ rfl (dk_op ⟨_, _, rfl, rfl, rfl⟩ rfl (dq_op tab rfl rfl rfl rfl (dq_op tab rfl rfl rfl rfl (dk_op ⟨_, _, rfl, rfl, rfl⟩ rfl (dk_op ⟨_, _, rfl, rfl, rfl⟩ rfl (dk_op ⟨_, _, rfl, rfl, rfl⟩ rfl (dq_op tab rfl rfl rfl rfl (dq_op tab rfl rfl rfl rfl (vd_nil (by kernel_rfl) ?_))))))))))))))))))))
    refine qth (vw_ret ?_)
    rotate_left
    all_goals exact ⟨.inr rfl, Eq.trans (b := some (.bool _)) rfl (congrArg (fun b => some (Value.bool b)) (by simp_all [evtMay, evtNums] <;> (intros; omega)))⟩
  · refine wsq (wrg (vN tab rfl (vQ tab rfl (vnl (qth (wsq (wsq (wrg (vQ4 tab rfl rfl rfl rfl (vQ4 tab rfl rfl rfl rfl (vQ4 tab rfl rfl rfl rfl (vQ tab rfl (vK rfl (vK rfl ?_))))))))))))))
    refine vK rfl (vQ2 tab rfl rfl (vnl (qth (vc_false rfl (vw_skip (qth (wsq (wsq (wrg (vR rfl callable_41 (evt_partsN (k := 8) (f1 := f1) (f2 := f2) (f3 := f3) (f4 := f4) (f5 := f5) (f6 := f6) (f7 := f7) rfl (by omega)) ?_))))))))))
    refine vQ2 tab rfl rfl (vnl (qth (wbk (vw_rounds 5 (rd_step (wsq (wrg (vQ tab rfl (vnl (qth (wsq (vc_false rfl (vw_exit (q_thenx (q_thenx (q_here (qth (wsq (vw_draw mixed (dq_op tab rfl rfl rfl rfl (dq_op tab rfl rfl rfl rfl (dq_op tab rfl rfl rfl rfl ?_))))))))))))))))))))))
    refine dq_op tab rfl rfl rfl rfl ?_
    refine dg_op rfl rfl rfl (fun _ => ?_) (fun _ => ?_)
    refine dq_op tab ⟨_, _, rfl, rfl, rfl⟩ rfl rfl rfl (dq_op tab ⟨_, _, rfl, rfl, rfl⟩ rfl rfl rfl (dq_op tab ⟨_, _, rfl, rfl, rfl⟩ rfl rfl rfl (dq_op tab rfl rfl rfl rfl (dq_op tab rfl rfl rfl rfl ?_))))
    refine dg_op rfl rfl rfl (fun _ => ?_) (fun _ => ?_)
    refine dq_op tab ⟨_, _, rfl, rfl, rfl⟩ rfl rfl rfl (dq_op tab ⟨_, _, rfl, rfl, rfl⟩ rfl rfl rfl (dq_op tab ⟨_, _, rfl, rfl, rfl⟩ rfl rfl rfl (dq_op tab rfl rfl rfl rfl (dq_op tab rfl rfl rfl rfl ?_))))
    refine dg_op rfl rfl rfl (fun _ => ?_) (fun _ => ?_)
    refine dq_op tab ⟨_, _, rfl, rfl, rfl⟩ rfl rfl rfl (dq_op tab ⟨_, _, rfl, rfl, rfl⟩ rfl rfl rfl (dq_op tab ⟨_, _, rfl, rfl, rfl⟩ rfl rfl rfl (dq_op tab rfl rfl rfl rfl (dq_op tab rfl rfl rfl rfl ?_))))
    refine dg_op rfl rfl rfl (fun _ => ?_) (fun _ => ?_)
    refine dq_op tab ⟨_, _, rfl, rfl, rfl⟩ rfl rfl rfl (dr_op ⟨_, _, rfl, rfl, rfl⟩ rfl rfl rfl rfl callable_43 (evt_plain ⟨8, f1, f2, f3, f4, f5, f6, f7⟩ rfl) (dq_op tab ⟨_, _, rfl, rfl, rfl⟩ rfl (ev_eql rfl rfl rfl (evt_eq ⟨8, f1, f2, f3, f4, f5, f6, f7⟩ (evtPlain ⟨8, f1, f2, f3, f4, f5, f6, f7⟩))) (ev_eql rfl rfl rfl (evt_eq ⟨8, f1, f2, f3, f4, f5, f6, f7⟩ (evtPlain ⟨8, f1, f2, f3, f4, f5, f6, f7⟩))) (dq_op tab rfl rfl rfl rfl (dq_op tab rfl rfl rfl rfl (vd_nil (by kernel_rfl) ?_)))))
    refine qth (vw_ret ?_)
    rotate_left
    refine dk_op ⟨_, _, rfl, rfl, rfl⟩ rfl (dk_op ⟨_, _, rfl, rfl, rfl⟩ rfl (dk_op ⟨_, _, rfl, rfl, rfl⟩ rfl (dq_op tab rfl rfl rfl rfl (dq_op tab rfl rfl rfl rfl (vd_nil (by kernel_rfl) ?_)))))
    refine qth (vw_ret ?_)
    rotate_left
    refine dk_op ⟨_, _, rfl, rfl, rfl⟩ rfl (dk_op ⟨_, _, rfl, rfl, rfl⟩ rfl (dk_op ⟨_, _, rfl, rfl, rfl⟩ rfl (dq_op tab rfl rfl rfl rfl (dq_op tab rfl rfl rfl rfl (dk_op ⟨_, _, rfl, rfl, rfl⟩ rfl (dk_op ⟨_, _, rfl, rfl, rfl⟩ rfl (dk_op ⟨_, _, rfl, rfl, rfl⟩ rfl (dq_op tab rfl rfl rfl rfl (dq_op tab rfl rfl rfl rfl (vd_nil (by kernel_rfl) ?_))))))))))
    refine qth (vw_ret ?_)
    rotate_left
    refine dk_op ⟨_, _, rfl, rfl, rfl⟩ rfl (dk_op ⟨_, _, rfl, rfl, rfl⟩ rfl (dk_op ⟨_, _, rfl, rfl, rfl⟩ rfl (dq_op tab rfl rfl rfl rfl (dq_op tab rfl rfl rfl rfl (dk_op ⟨_, _, rfl, rfl, rfl⟩ rfl (dk_op ⟨_, _, rfl, rfl, rfl⟩ rfl (dk_op ⟨_, _, rfl, rfl, rfl⟩ rfl (dq_op tab rfl rfl rfl rfl (dq_op tab rfl rfl rfl rfl (dk_op ⟨_, _, rfl, rfl, rfl⟩ rfl (dk_op ⟨_, _, rfl, rfl, rfl⟩ rfl (dk_op ⟨_, _, rfl, rfl, rfl⟩ rfl (dq_op tab rfl rfl rfl rfl (dq_op tab rfl rfl rfl rfl (vd_nil (by kernel_rfl) ?_)))))))))))))))
    refine qth (vw_ret ?_)
    rotate_left
    refine dk_op ⟨_, _, rfl, rfl, rfl⟩ rfl (dk_op ⟨_, _, rfl, rfl, rfl⟩ rfl (dk_op ⟨_, _, rfl, rfl, rfl⟩ rfl (dq_op tab rfl rfl rfl rfl (dq_op tab rfl rfl rfl rfl (dk_op ⟨_, _, rfl, rfl, rfl⟩ rfl (dk_op ⟨_, _, rfl, rfl, rfl⟩ rfl (dk_op ⟨_, _, rfl, rfl, rfl⟩ rfl (dq_op tab rfl rfl rfl rfl (dq_op tab rfl rfl rfl rfl (dk_op ⟨_, _, rfl, rfl, rfl⟩ rfl (dk_op ⟨_, _, rfl, rfl, rfl⟩ rfl (dk_op ⟨_, _, rfl, rfl, rfl⟩ rfl (dq_op tab rfl rfl rfl rfl (dq_op tab rfl rfl rfl rfl (dk_op ⟨_, _, rfl, rfl, rfl⟩ rfl (dk_op ⟨_, _, rfl, rfl, rfl⟩ rfl (dk_op ⟨_, _, rfl, rfl, rfl⟩ rfl (dq_op tab rfl rfl rfl rfl (dq_op tab rfl rfl rfl rfl (vd_nil (by kernel_rfl) ?_))))))))))))))))))))
    refine qth (vw_ret ?_)
    rotate_left
    all_goals exact ⟨.inr rfl, Eq.trans (b := some (.bool _)) rfl (congrArg (fun b => some (Value.bool b)) (by simp_all [evtMay, evtNums] <;> (intros; omega)))⟩
  · refine wsq (wrg (vN tab rfl (vQ tab rfl (vnl (qth (wsq (wsq (wrg (vQ4 tab rfl rfl rfl rfl (vQ4 tab rfl rfl rfl rfl (vQ4 tab rfl rfl rfl rfl (vQ tab rfl (vK rfl (vK rfl ?_))))))))))))))
    refine vK rfl (vQ2 tab rfl rfl (vnl (qth (vc_false rfl (vw_skip (qth (wsq (wsq (wrg (vT rfl callable_41 (evt_parts9 (f1 := f1) (f2 := f2) (f3 := f3) (f4 := f4) (f5 := f5) (f6 := f6) (f7 := f7) rfl (by decide)) ?_))))))))))
    refine vQ2 tab rfl rfl (vnl (qth (wbk (vw_rounds 5 (rd_step (wsq (wrg (vQ tab rfl (vnl (qth (wsq (vc_true rfl (vw_skip (qth (wsq (wbk (wsq (wrg (vQ3 tab rfl rfl rfl (vnl ?_))))))))))))))))))))
    refine qth (wsq (wrg (vQ3 tab rfl rfl rfl (vF rfl callable_42 (nummay_fun _) (vQ tab rfl (vnl (qth ?_)))))))
    refine vc_part rfl (fun _ => ?_) (fun _ => ?_)
    refine wsq (wrg (vQ tab rfl (vnl (qth (vw_ret (q_ret (q_thenr (q_thenr (q_ret (q_thenr ?_))))))))))
    rotate_left
    refine vw_skip (q_norm (qth (wrg (vQ2 tab rfl rfl (vnl (qth (rd_step (wsq (wrg (vQ tab rfl (vnl (qth (wsq (vc_false rfl (vw_exit (q_thenx (q_thenx (q_here (qth (wsq (vw_draw mixed (dq_op tab rfl rfl rfl rfl ?_))))))))))))))))))))))
    refine dq_op tab rfl rfl rfl rfl (dq_op tab rfl rfl rfl rfl (dq_op tab rfl rfl rfl rfl ?_))
    refine dg_op rfl rfl rfl (fun _ => ?_) (fun _ => ?_)
    refine dq_op tab ⟨_, _, rfl, rfl, rfl⟩ rfl rfl rfl (dq_op tab ⟨_, _, rfl, rfl, rfl⟩ rfl rfl rfl (dq_op tab ⟨_, _, rfl, rfl, rfl⟩ rfl rfl rfl (dq_op tab rfl rfl rfl rfl (dq_op tab rfl rfl rfl rfl ?_))))
    refine dg_op rfl rfl rfl (fun _ => ?_) (fun _ => ?_)
    refine dq_op tab ⟨_, _, rfl, rfl, rfl⟩ rfl rfl rfl (dq_op tab ⟨_, _, rfl, rfl, rfl⟩ rfl rfl rfl (dq_op tab ⟨_, _, rfl, rfl, rfl⟩ rfl rfl rfl (dq_op tab rfl rfl rfl rfl (dq_op tab rfl rfl rfl rfl ?_))))
    refine dg_op rfl rfl rfl (fun _ => ?_) (fun _ => ?_)
    refine dq_op tab ⟨_, _, rfl, rfl, rfl⟩ rfl rfl rfl (dq_op tab ⟨_, _, rfl, rfl, rfl⟩ rfl rfl rfl (dq_op tab ⟨_, _, rfl, rfl, rfl⟩ rfl rfl rfl (dq_op tab rfl rfl rfl rfl (dq_op tab rfl rfl rfl rfl ?_))))
    refine dg_op rfl rfl rfl (fun _ => ?_) (fun _ => ?_)
    refine dq_op tab ⟨_, _, rfl, rfl, rfl⟩ rfl rfl rfl (dr_op ⟨_, _, rfl, rfl, rfl⟩ rfl rfl rfl rfl callable_43 (evt_plain ⟨9, f1, f2, f3, f4, f5, f6, f7⟩ rfl) (dq_op tab ⟨_, _, rfl, rfl, rfl⟩ rfl (ev_eql rfl rfl rfl (evt_eq ⟨9, f1, f2, f3, f4, f5, f6, f7⟩ (evtPlain ⟨9, f1, f2, f3, f4, f5, f6, f7⟩))) (ev_eql rfl rfl rfl (evt_eq ⟨9, f1, f2, f3, f4, f5, f6, f7⟩ (evtPlain ⟨9, f1, f2, f3, f4, f5, f6, f7⟩))) (dq_op tab rfl rfl rfl rfl (dq_op tab rfl rfl rfl rfl (vd_nil (by kernel_rfl) ?_)))))
    refine qth (vw_ret ?_)
    rotate_left
    refine dk_op ⟨_, _, rfl, rfl, rfl⟩ rfl (dk_op ⟨_, _, rfl, rfl, rfl⟩ rfl (dk_op ⟨_, _, rfl, rfl, rfl⟩ rfl (dq_op tab rfl rfl rfl rfl (dq_op tab rfl rfl rfl rfl (vd_nil (by kernel_rfl) ?_)))))
    refine qth (vw_ret ?_)
    rotate_left
    refine dk_op ⟨_, _, rfl, rfl, rfl⟩ rfl (dk_op ⟨_, _, rfl, rfl, rfl⟩ rfl (dk_op ⟨_, _, rfl, rfl, rfl⟩ rfl (dq_op tab rfl rfl rfl rfl (dq_op tab rfl rfl rfl rfl (dk_op ⟨_, _, rfl, rfl, rfl⟩ rfl (dk_op ⟨_, _, rfl, rfl, rfl⟩ rfl (dk_op ⟨_, _, rfl, rfl, rfl⟩ rfl (dq_op tab rfl rfl rfl rfl (dq_op tab rfl rfl rfl rfl (vd_nil (by kernel_rfl) ?_))))))))))
    refine qth (vw_ret ?_)
    rotate_left
    refine dk_op ⟨_, _, rfl, rfl, rfl⟩ rfl (dk_op ⟨_, _, rfl, rfl, rfl⟩ rfl (dk_op ⟨_, _, rfl, rfl, rfl⟩ rfl (dq_op tab rfl rfl rfl rfl (dq_op tab rfl rfl rfl rfl (dk_op ⟨_, _, rfl, rfl, rfl⟩ rfl (dk_op ⟨_, _, rfl, rfl, rfl⟩ rfl (dk_op ⟨_, _, rfl, rfl, rfl⟩ rfl (dq_op tab rfl rfl rfl rfl (dq_op tab rfl rfl rfl rfl (dk_op ⟨_, _, rfl, rfl, rfl⟩ rfl (dk_op ⟨_, _, rfl, rfl, rfl⟩ rfl (dk_op ⟨_, _, rfl, rfl, rfl⟩ rfl (dq_op tab rfl rfl rfl rfl (dq_op tab rfl rfl rfl rfl (vd_nil (by kernel_rfl) ?_)))))))))))))))
    refine qth (vw_ret ?_)
    rotate_left
    refine dk_op ⟨_, _, rfl, rfl, rfl⟩ rfl (dk_op ⟨_, _, rfl, rfl, rfl⟩ rfl (dk_op ⟨_, _, rfl, rfl, rfl⟩ rfl (dq_op tab rfl rfl rfl rfl (dq_op tab rfl rfl rfl rfl (dk_op ⟨_, _, rfl, rfl, rfl⟩ rfl (dk_op ⟨_, _, rfl, rfl, rfl⟩ rfl (dk_op ⟨_, _, rfl, rfl, rfl⟩ rfl (dq_op tab rfl rfl rfl rfl (dq_op tab rfl rfl rfl rfl (dk_op ⟨_, _, rfl, rfl, rfl⟩ rfl (dk_op ⟨_, _, rfl, rfl, rfl⟩ rfl (dk_op ⟨_, _, rfl, rfl, rfl⟩ rfl (dq_op tab rfl rfl rfl rfl (dq_op tab rfl rfl rfl rfl (dk_op ⟨_, _, rfl, rfl, rfl⟩ rfl (dk_op ⟨_, _, rfl, rfl, rfl⟩ rfl (dk_op ⟨_, _, rfl, rfl, rfl⟩ rfl (dq_op tab rfl rfl rfl rfl (dq_op tab rfl rfl rfl rfl (vd_nil (by kernel_rfl) ?_))))))))))))))))))))
    refine qth (vw_ret ?_)
    rotate_left
    all_goals exact ⟨.inr rfl, Eq.trans (b := some (.bool _)) rfl (congrArg (fun b => some (Value.bool b)) (by simp_all [evtMay, evtNums] <;> (intros; omega)))⟩
  · refine wsq (wrg (vN tab rfl (vQ tab rfl (vnl (qth (wsq (wsq (wrg (vQ3 tab rfl rfl rfl (vQ tab rfl ?_))))))))))
    refine vg_op rfl rfl rfl (fun _ => ?_) (fun _ => ?_)
    refine vQ4 tab rfl rfl rfl rfl (vQ tab rfl ?_)
    refine vg_op rfl rfl rfl (fun _ => ?_) (fun _ => ?_)
    refine vQ4 tab rfl rfl rfl rfl (vgd_op false rfl rfl rfl (by simp only [sl_]; first | done | omega) ?_)
    refine vK3 rfl rfl rfl (vQ2 tab rfl rfl (vnl (qth (vc_false rfl (vw_skip (qth (wsq (wsq (wrg (vR rfl callable_41 (evt_partsN (k := k) (f1 := f1) (f2 := f2) (f3 := f3) (f4 := f4) (f5 := f5) (f6 := f6) (f7 := f7) rfl (by omega)) ?_))))))))))
    refine vQ2 tab rfl rfl (vnl (qth (wbk (vw_rounds 5 (rd_step (wsq (wrg (vQ tab rfl (vnl (qth (wsq (vc_false rfl (vw_exit (q_thenx (q_thenx (q_here (qth (wsq (vw_draw mixed (dq_op tab rfl rfl rfl rfl (dq_op tab rfl rfl rfl rfl (dq_op tab rfl rfl rfl rfl ?_))))))))))))))))))))))
    refine dq_op tab rfl rfl rfl rfl ?_
    refine dg_op rfl rfl rfl (fun _ => ?_) (fun _ => ?_)
    refine dq_op tab ⟨_, _, rfl, rfl, rfl⟩ rfl rfl rfl (dq_op tab ⟨_, _, rfl, rfl, rfl⟩ rfl rfl rfl (dq_op tab ⟨_, _, rfl, rfl, rfl⟩ rfl rfl rfl (dq_op tab rfl rfl rfl rfl (dq_op tab rfl rfl rfl rfl ?_))))
    refine dg_op rfl rfl rfl (fun _ => ?_) (fun _ => ?_)
    refine dq_op tab ⟨_, _, rfl, rfl, rfl⟩ rfl rfl rfl (dq_op tab ⟨_, _, rfl, rfl, rfl⟩ rfl rfl rfl (dq_op tab ⟨_, _, rfl, rfl, rfl⟩ rfl rfl rfl (dq_op tab rfl rfl rfl rfl (dq_op tab rfl rfl rfl rfl ?_))))
    refine dg_op rfl rfl rfl (fun _ => ?_) (fun _ => ?_)
    refine dq_op tab ⟨_, _, rfl, rfl, rfl⟩ rfl rfl rfl (dq_op tab ⟨_, _, rfl, rfl, rfl⟩ rfl rfl rfl (dq_op tab ⟨_, _, rfl, rfl, rfl⟩ rfl rfl rfl (dq_op tab rfl rfl rfl rfl (dq_op tab rfl rfl rfl rfl ?_))))
    refine dg_op rfl rfl rfl (fun _ => ?_) (fun _ => ?_)
    refine dq_op tab ⟨_, _, rfl, rfl, rfl⟩ rfl rfl rfl (dr_op ⟨_, _, rfl, rfl, rfl⟩ rfl rfl rfl rfl callable_43 (evt_plain ⟨k, f1, f2, f3, f4, f5, f6, f7⟩ rfl) (dq_op tab ⟨_, _, rfl, rfl, rfl⟩ rfl (ev_eql rfl rfl rfl (evt_eq ⟨k, f1, f2, f3, f4, f5, f6, f7⟩ (evtPlain ⟨k, f1, f2, f3, f4, f5, f6, f7⟩))) (ev_eql rfl rfl rfl (evt_eq ⟨k, f1, f2, f3, f4, f5, f6, f7⟩ (evtPlain ⟨k, f1, f2, f3, f4, f5, f6, f7⟩))) (dq_op tab rfl rfl rfl rfl (dq_op tab rfl rfl rfl rfl (vd_nil (by kernel_rfl) ?_)))))
    refine qth (vw_ret ?_)
    rotate_left
    refine dk_op ⟨_, _, rfl, rfl, rfl⟩ rfl (dk_op ⟨_, _, rfl, rfl, rfl⟩ rfl (dk_op ⟨_, _, rfl, rfl, rfl⟩ rfl (dq_op tab rfl rfl rfl rfl (dq_op tab rfl rfl rfl rfl (vd_nil (by kernel_rfl) ?_)))))
    refine qth (vw_ret ?_)
    rotate_left
    refine dk_op ⟨_, _, rfl, rfl, rfl⟩ rfl (dk_op ⟨_, _, rfl, rfl, rfl⟩ rfl (dk_op ⟨_, _, rfl, rfl, rfl⟩ rfl (dq_op tab rfl rfl rfl rfl (dq_op tab rfl rfl rfl rfl (dk_op ⟨_, _, rfl, rfl, rfl⟩ rfl (dk_op ⟨_, _, rfl, rfl, rfl⟩ rfl (dk_op ⟨_, _, rfl, rfl, rfl⟩ rfl (dq_op tab rfl rfl rfl rfl (dq_op tab rfl rfl rfl rfl (vd_nil (by kernel_rfl) ?_))))))))))
    refine qth (vw_ret ?_)
    rotate_left
    refine dk_op ⟨_, _, rfl, rfl, rfl⟩ rfl (dk_op ⟨_, _, rfl, rfl, rfl⟩ rfl (dk_op ⟨_, _, rfl, rfl, rfl⟩ rfl (dq_op tab rfl rfl rfl rfl (dq_op tab rfl rfl rfl rfl (dk_op ⟨_, _, rfl, rfl, rfl⟩ rfl (dk_op ⟨_, _, rfl, rfl, rfl⟩ rfl (dk_op ⟨_, _, rfl, rfl, rfl⟩ rfl (dq_op tab rfl rfl rfl rfl (dq_op tab rfl rfl rfl rfl (dk_op ⟨_, _, rfl, rfl, rfl⟩ rfl (dk_op ⟨_, _, rfl, rfl, rfl⟩ rfl (dk_op ⟨_, _, rfl, rfl, rfl⟩ rfl (dq_op tab rfl rfl rfl rfl (dq_op tab rfl rfl rfl rfl (vd_nil (by kernel_rfl) ?_)))))))))))))))
    refine qth (vw_ret ?_)
    rotate_left
    refine dk_op ⟨_, _, rfl, rfl, rfl⟩ rfl (dk_op ⟨_, _, rfl, rfl, rfl⟩ rfl (dk_op ⟨_, _, rfl, rfl, rfl⟩ rfl (dq_op tab rfl rfl rfl rfl (dq_op tab rfl rfl rfl rfl (dk_op ⟨_, _, rfl, rfl, rfl⟩ rfl (dk_op ⟨_, _, rfl, rfl, rfl⟩ rfl (dk_op ⟨_, _, rfl, rfl, rfl⟩ rfl (dq_op tab rfl rfl rfl rfl (dq_op tab rfl rfl rfl rfl (dk_op ⟨_, _, rfl, rfl, rfl⟩ rfl (dk_op ⟨_, _, rfl, rfl, rfl⟩ rfl (dk_op ⟨_, _, rfl, rfl, rfl⟩ rfl (dq_op tab rfl rfl rfl rfl (dq_op tab rfl rfl rfl rfl (dk_op ⟨_, _, rfl, rfl, rfl⟩ rfl (dk_op ⟨_, _, rfl, rfl, rfl⟩ rfl (dk_op ⟨_, _, rfl, rfl, rfl⟩ rfl (dq_op tab rfl rfl rfl rfl (dq_op tab rfl rfl rfl rfl (vd_nil (by kernel_rfl) ?_))))))))))))))))))))
    refine qth (vw_ret ?_)
    rotate_left
    refine vK4 rfl rfl rfl rfl (vku_op rfl rfl rfl rfl rfl (vku_op rfl rfl rfl rfl rfl (vku_op rfl rfl rfl rfl rfl (vK rfl (vQ tab rfl (vnl (qth (vc_true rfl (wsq (wrg (vQ tab rfl (vnl (qth (vw_ret (q_thenr ?_)))))))))))))))
    rotate_left
    refine vK3 rfl rfl rfl (vQ2 tab rfl rfl (vK4 rfl rfl rfl rfl (vku_op rfl rfl rfl rfl rfl (vku_op rfl rfl rfl rfl rfl (vku_op rfl rfl rfl rfl rfl (vK rfl (vQ tab rfl (vnl (qth (vc_true rfl (wsq (wrg (vQ tab rfl (vnl (qth (vw_ret (q_thenr ?_)))))))))))))))))
    rotate_left
    all_goals exact ⟨.inr rfl, Eq.trans (b := some (.bool _)) rfl (congrArg (fun b => some (Value.bool b)) (by simp_all [evtMay, evtNums] <;> (intros; omega)))⟩
end Go.Proofs.YtcjfidfealifhaaGreat
namespace Go.Proofs.YtcjfidfealifhaaGreat
open Go Vm IntWalk
set_option linter.unusedVariables false
set_option linter.unusedSimpArgs false
theorem betw_fun (x l h : Int) : Fun Tryz.prog 39 [.int .i64 x, .int .i64 l, .int .i64 h] (.bool (betw x l h)) := by
  refine fun_of_vw tab Tryz.func39 rfl rfl (by simp [Tryz.f39]) (lrel_cons (.int _ _) (lrel_cons (.int _ _) (lrel_cons (.int _ _) lrel_nil))) (.bool _) ?_
  refine wsq (wrg (vQ tab rfl (vnl (qth (wsq (wrg (vQ3 tab rfl rfl rfl (vQ tab rfl ?_))))))))
  refine vg_op rfl rfl rfl (fun _ => ?_) (fun _ => ?_)
  refine vQ4 tab rfl rfl rfl rfl (vQ tab rfl (vnl (qth (vw_ret ?_))))
  rotate_left
  refine vK3 rfl rfl rfl (vQ2 tab rfl rfl (vnl (qth (vw_ret ?_))))
  rotate_left
  all_goals exact ⟨.inr rfl, Eq.trans (b := some (.bool _)) rfl (congrArg (fun b => some (Value.bool b)) (by simp_all [betw] <;> (intros; omega)))⟩
set_option maxHeartbeats 4000000 in
theorem life_tri {V : Heap} {n : Nat} {sv : Value} {xs : List Int} (hl : Looks V 1 sv ((intR .i64).cells xs) xs.length) (hx : xs.length ≤ 1000) :
    Tri Tryz.prog 40 [sv] n 0 V (fun u L => u = .bool (xs.all lifeOk) ∧ L = []) := by
  refine reads_of_vw (K := 1) (argsI := [.slice (some ⟨0, 0, none⟩) xs.length 0]) tab Tryz.func40 rfl rfl (by simp [Tryz.f40]) [.look sv xs.length 1] [.win ((intR .i64).cells xs) 1] rfl (.look hl ((intR .i64).flat_cells xs) .nil) (by simp [ownNames]) (by simp [ownNames, lookNames]) (al_cons (.look (a := 0) rfl) al_nil) (seen_of (sn_look (seen_top (j := 0) rfl) sn_nil)) (.bool _) ?_
  refine wsq (wrg (vQ tab rfl (vnl (qth (wsq (wsq (wrg (vQ3 tab rfl rfl rfl (vnl (qth (wbk ?_)))))))))))
  refine vw_loop_env (fun k env => ∃ j : Int, 0 ≤ j ∧ j ≤ xs.length ∧ k = (xs.length - j).toNat ∧ (xs.take j.toNat).all lifeOk = true ∧
      env = [(5, .slice (some ⟨0, 0, none⟩) xs.length 0), (6, .int .i64 xs.length), (7, .int .i64 j)]) (xs.length - 0)
    ⟨_, se_cons rfl (se_cons rfl (se_cons rfl se_nil)), 0, by omega, by omega, by simp, by simp, rfl⟩ ?_
  rintro k env ⟨j, h0, h1, rfl, ha, rfl⟩
  by_cases hj : j < (xs.length : Int)
  case neg =>
    rw [show j.toNat = xs.length by omega, List.take_length] at *
    rw [ha]
    refine wsq (wrg (vQ tab rfl (vnl (qth (wsq (vcd_false rfl (by simp only [sl_]; first | done | omega) ?_))))))
    refine vw_exit (q_thenx (q_thenx (q_here (qth (wsq (wrg (vQ tab rfl (vnl (qth (vw_ret ?_))))))))))
    exact ⟨⟨.inr rfl, rfl⟩, trivial⟩
  obtain ⟨x, hxa⟩ := get_some h0 hj
  have hi : IntKind.i64.wrap (j + 1) = j + 1 := i64_in _ (by omega)
  have hjn : (j + 1).toNat = j.toNat + 1 := by omega
  by_cases h : 1 ≤ x ∧ x ≤ 65536
  case neg =>
    have hk : lifeOk x = false := by unfold lifeOk; rw [Bool.and_eq_false_iff, decide_eq_false_iff_not, decide_eq_false_iff_not]; omega
    have hall : xs.all lifeOk = false := by
      rw [← Bool.not_eq_true, List.all_eq_true]
      intro h; have := h x (List.mem_of_getElem? hxa); rw [hk] at this; cases this
    rw [hall]
    rcases (show x < 1 ∨ (¬ x < 1 ∧ 65536 < x) by omega) with g | g
    all_goals
      first
        | refine wsq (wrg (vQ tab rfl (vnl (qth (wsq (vcd_true rfl (by simp only [sl_]; first | done | omega) ?_))))))
          refine vw_skip (qth (wsq (wbk (wsq (wrg (vq_op tab rfl rfl rfl (ev_index rfl rfl rfl rfl rfl (by omega) (by omega)) ?_))))))
          refine vq_op tab rfl rfl rfl (ev_val (intR .i64) rfl rfl rfl rfl rfl hxa rfl) (vQ tab rfl (vnl (qth (wsq (wrg (vQ3 tab rfl rfl rfl (vgd_op true rfl rfl rfl (by simp only [sl_]; first | done | omega) ?_)))))))
          refine vK2 rfl rfl (vQ tab rfl (vnl (qth (vc_true rfl (wsq (wrg (vQ tab rfl (vnl (qth (vw_ret (q_ret (q_thenr (q_thenr (q_ret (q_thenr ?_)))))))))))))))
        | refine wsq (wrg (vQ tab rfl (vnl (qth (wsq (vcd_true rfl (by simp only [sl_]; first | done | omega) ?_))))))
          refine vw_skip (qth (wsq (wbk (wsq (wrg (vq_op tab rfl rfl rfl (ev_index rfl rfl rfl rfl rfl (by omega) (by omega)) ?_))))))
          refine vq_op tab rfl rfl rfl (ev_val (intR .i64) rfl rfl rfl rfl rfl hxa rfl) (vQ tab rfl (vnl (qth (wsq (wrg (vQ3 tab rfl rfl rfl (vgd_op false rfl rfl rfl (by simp only [sl_]; first | done | omega) ?_)))))))
          refine vQ3 tab rfl rfl rfl (vnl (qth (vcd_true rfl (by simp only [sl_]; first | done | omega) ?_)))
          refine wsq (wrg (vQ tab rfl (vnl (qth (vw_ret (q_ret (q_thenr (q_thenr (q_ret (q_thenr ?_))))))))))
      exact ⟨⟨.inr rfl, rfl⟩, trivial⟩
  have hk : lifeOk x = true := by unfold lifeOk; simp [h]
  refine wsq (wrg (vQ tab rfl (vnl (qth (wsq (vcd_true rfl (by simp only [hi, sl_]; first | done | omega) ?_))))))
  refine vw_skip (qth (wsq (wbk (wsq (wrg (vq_op tab rfl rfl rfl (ev_index rfl rfl rfl rfl rfl (by omega) (by omega)) ?_))))))
  refine vq_op tab rfl rfl rfl (ev_val (intR .i64) rfl rfl rfl rfl rfl hxa rfl) (vQ tab rfl (vnl (qth (wsq (wrg (vQ3 tab rfl rfl rfl (vgd_op false rfl rfl rfl (by simp only [hi, sl_]; first | done | omega) ?_)))))))
  refine vQ3 tab rfl rfl rfl (vnl (qth (vcd_false rfl (by simp only [hi, sl_]; first | done | omega) ?_)))
  refine vw_skip (q_norm (qth (wrg (vQ2 tab rfl rfl (vnl (qth ?_))))))
  refine ⟨rfl, rfl, (xs.length - (j + 1)).toNat, _, by omega, se_cons rfl (se_cons rfl (se_cons (se_int rfl hi) se_nil)), j + 1, by omega, by omega, rfl, ?_, rfl⟩
  rw [hjn, List.take_add_one, hxa, List.all_append, ha]; simp [hk]
theorem conf_tri {V : Heap} {n i : Nat} (c : ConfV) (hV : V i = some (confO c)) :
    Tri Tryz.prog 25 [.pointer (some ⟨i, 0, none⟩)] n 0 V (fun u L => u = .bool (confMay c) ∧ L = []) := by
  refine reads_of_vw (K := 1) (argsI := [.pointer (some ⟨0, 0, none⟩)]) tab Tryz.func25 rfl rfl (by simp [Tryz.f25]) [.own i] [confO c] rfl (.own hV (ov_conf rfl) .nil) (by simp [ownNames, *]) (by simp [ownNames, lookNames, *]) (al_cons (.val (rel_ptr rfl)) al_nil) (seen_of (sn_own sn_nil)) (.bool _) ?_
  refine wsq (wrg (vQ tab rfl (vnl (qth (wsq (vw_draw mixed (dq_op tab rfl rfl rfl rfl (dq_op tab rfl rfl rfl rfl (dq_op tab rfl rfl rfl rfl (dq_op tab rfl rfl rfl rfl (df_op rfl rfl rfl rfl rfl callable_39 (betw_fun _ _ _) (dq_op tab rfl rfl rfl rfl ?_))))))))))))
  refine dg_op rfl rfl rfl (fun _ => ?_) (fun _ => ?_)
  refine dq_op tab ⟨_, _, rfl, rfl, rfl⟩ rfl rfl rfl (dq_op tab ⟨_, _, rfl, rfl, rfl⟩ rfl rfl rfl (dq_op tab ⟨_, _, rfl, rfl, rfl⟩ rfl rfl rfl (dq_op tab ⟨_, _, rfl, rfl, rfl⟩ rfl rfl rfl (df_op ⟨_, _, rfl, rfl, rfl⟩ rfl rfl rfl rfl callable_39 (betw_fun _ _ _) (dq_op tab rfl rfl rfl rfl (dq_op tab rfl rfl rfl rfl ?_))))))
  refine dg_op rfl rfl rfl (fun _ => ?_) (fun _ => ?_)
  refine dq_op tab ⟨_, _, rfl, rfl, rfl⟩ rfl rfl rfl (dq_op tab ⟨_, _, rfl, rfl, rfl⟩ rfl rfl rfl (dq_op tab ⟨_, _, rfl, rfl, rfl⟩ rfl rfl rfl (dq_op tab ⟨_, _, rfl, rfl, rfl⟩ rfl rfl rfl (df_op ⟨_, _, rfl, rfl, rfl⟩ rfl rfl rfl rfl callable_39 (betw_fun _ _ _) (dq_op tab rfl rfl rfl rfl (dq_op tab rfl rfl rfl rfl ?_))))))
  refine dg_op rfl rfl rfl (fun _ => ?_) (fun _ => ?_)
  refine dq_op tab ⟨_, _, rfl, rfl, rfl⟩ rfl rfl rfl (dq_op tab ⟨_, _, rfl, rfl, rfl⟩ rfl rfl rfl (dq_op tab ⟨_, _, rfl, rfl, rfl⟩ rfl rfl rfl (dq_op tab ⟨_, _, rfl, rfl, rfl⟩ rfl rfl rfl (df_op ⟨_, _, rfl, rfl, rfl⟩ rfl rfl rfl rfl callable_39 (betw_fun _ _ _) (dq_op tab rfl rfl rfl rfl (dq_op tab rfl rfl rfl rfl ?_))))))
  refine dg_op rfl rfl rfl (fun _ => ?_) (fun _ => ?_)
  refine dq_op tab ⟨_, _, rfl, rfl, rfl⟩ rfl rfl rfl (dq_op tab ⟨_, _, rfl, rfl, rfl⟩ rfl rfl rfl (dq_op tab ⟨_, _, rfl, rfl, rfl⟩ rfl rfl rfl (dq_op tab ⟨_, _, rfl, rfl, rfl⟩ rfl rfl rfl (df_op ⟨_, _, rfl, rfl, rfl⟩ rfl rfl rfl rfl callable_39 (betw_fun _ _ _) (dq_op tab rfl rfl rfl rfl (dq_op tab rfl rfl rfl rfl ?_))))))
  refine dg_op rfl rfl rfl (fun _ => ?_) (fun _ => ?_)
  refine dq_op tab ⟨_, _, rfl, rfl, rfl⟩ rfl rfl rfl (dq_op tab ⟨_, _, rfl, rfl, rfl⟩ rfl rfl rfl (dq_op tab ⟨_, _, rfl, rfl, rfl⟩ rfl rfl rfl (dq_op tab ⟨_, _, rfl, rfl, rfl⟩ rfl rfl rfl (df_op ⟨_, _, rfl, rfl, rfl⟩ rfl rfl rfl rfl callable_39 (betw_fun _ _ _) (dq_op tab rfl rfl rfl rfl (dq_op tab rfl rfl rfl rfl ?_))))))
  refine dg_op rfl rfl rfl (fun _ => ?_) (fun _ => ?_)
  refine dq_op tab ⟨_, _, rfl, rfl, rfl⟩ rfl rfl rfl (dq_op tab ⟨_, _, rfl, rfl, rfl⟩ rfl rfl rfl (dq_op tab ⟨_, _, rfl, rfl, rfl⟩ rfl rfl rfl (dq_op tab ⟨_, _, rfl, rfl, rfl⟩ rfl rfl rfl (dq_op tab ⟨_, _, rfl, rfl, rfl⟩ rfl rfl rfl (dq_op tab ⟨_, _, rfl, rfl, rfl⟩ rfl rfl rfl (dq_op tab ⟨_, _, rfl, rfl, rfl⟩ rfl rfl rfl (dq_op tab ⟨_, _, rfl, rfl, rfl⟩ rfl rfl rfl (dq_op tab ⟨_, _, rfl, rfl, rfl⟩ rfl rfl rfl (dq_op tab ⟨_, _, rfl, rfl, rfl⟩ rfl rfl rfl (dq_op tab ⟨_, _, rfl, rfl, rfl⟩ rfl rfl rfl (dq_op tab ⟨_, _, rfl, rfl, rfl⟩ rfl rfl rfl (dq_op tab ⟨_, _, rfl, rfl, rfl⟩ rfl rfl rfl (dq_op tab ⟨_, _, rfl, rfl, rfl⟩ rfl rfl rfl (dq_op tab ⟨_, _, rfl, rfl, rfl⟩ rfl rfl rfl (dq_op tab ⟨_, _, rfl, rfl, rfl⟩ rfl rfl rfl (dq_op tab ⟨_, _, rfl, rfl, rfl⟩ rfl rfl rfl (dq_op tab ⟨_, _, rfl, rfl, rfl⟩ rfl rfl rfl (dq_op tab ⟨_, _, rfl, rfl, rfl⟩ rfl rfl rfl (dq_op tab ⟨_, _, rfl, rfl, rfl⟩ rfl rfl rfl (dq_op tab ⟨_, _, rfl, rfl, rfl⟩ rfl rfl rfl (dq_op tab ⟨_, _, rfl, rfl, rfl⟩ rfl rfl rfl (dq_op tab ⟨_, _, rfl, rfl, rfl⟩ rfl rfl rfl (dq_op tab ⟨_, _, rfl, rfl, rfl⟩ rfl rfl rfl ?_)))))))))))))))))))))))
  refine dn_op tab ⟨_, _, rfl, rfl, rfl⟩ rfl rfl rfl (dr_op ⟨_, _, rfl, rfl, rfl⟩ rfl rfl rfl rfl callable_40 (life_tri (xs := [c.lockout, c.halfLife, c.idle, c.absolute, c.quarantine, c.ticketLife]) (looks_opn (intR .i64) rfl rfl) (by simp)) ?_)
  refine dq_op tab rfl rfl rfl rfl (dq_op tab rfl rfl rfl rfl (vd_nil (by kernel_rfl) ?_))
  refine qth (vw_ret ?_)
  rotate_left
  refine dk_op ⟨_, _, rfl, rfl, rfl⟩ rfl (dk_op ⟨_, _, rfl, rfl, rfl⟩ rfl (dk_op ⟨_, _, rfl, rfl, rfl⟩ rfl (dk_op ⟨_, _, rfl, rfl, rfl⟩ rfl (dk_op ⟨_, _, rfl, rfl, rfl⟩ rfl (dk_op ⟨_, _, rfl, rfl, rfl⟩ rfl (dk_op ⟨_, _, rfl, rfl, rfl⟩ rfl (dk_op ⟨_, _, rfl, rfl, rfl⟩ rfl (dk_op ⟨_, _, rfl, rfl, rfl⟩ rfl (dk_op ⟨_, _, rfl, rfl, rfl⟩ rfl (dk_op ⟨_, _, rfl, rfl, rfl⟩ rfl (dk_op ⟨_, _, rfl, rfl, rfl⟩ rfl (dk_op ⟨_, _, rfl, rfl, rfl⟩ rfl (dk_op ⟨_, _, rfl, rfl, rfl⟩ rfl (dk_op ⟨_, _, rfl, rfl, rfl⟩ rfl (dk_op ⟨_, _, rfl, rfl, rfl⟩ rfl (dk_op ⟨_, _, rfl, rfl, rfl⟩ rfl (dk_op ⟨_, _, rfl, rfl, rfl⟩ rfl (dk_op ⟨_, _, rfl, rfl, rfl⟩ rfl (dk_op ⟨_, _, rfl, rfl, rfl⟩ rfl (dk_op ⟨_, _, rfl, rfl, rfl⟩ rfl (dk_op ⟨_, _, rfl, rfl, rfl⟩ rfl (dk_op ⟨_, _, rfl, rfl, rfl⟩ rfl (dk_op ⟨_, _, rfl, rfl, rfl⟩ rfl ?_)))))))))))))))))))))))
  refine dk_op ⟨_, _, rfl, rfl, rfl⟩ rfl (dk_op ⟨_, _, rfl, rfl, rfl⟩ rfl (dq_op tab rfl rfl rfl rfl (dq_op tab rfl rfl rfl rfl (vd_nil (by kernel_rfl) ?_))))
  refine qth (vw_ret ?_)
  rotate_left
  refine dk_op ⟨_, _, rfl, rfl, rfl⟩ rfl (dk_op ⟨_, _, rfl, rfl, rfl⟩ rfl (dk_op ⟨_, _, rfl, rfl, rfl⟩ rfl (dk_op ⟨_, _, rfl, rfl, rfl⟩ rfl (dk_op ⟨_, _, rfl, rfl, rfl⟩ rfl (dq_op tab rfl rfl rfl rfl (dq_op tab rfl rfl rfl rfl (dk_op ⟨_, _, rfl, rfl, rfl⟩ rfl (dk_op ⟨_, _, rfl, rfl, rfl⟩ rfl (dk_op ⟨_, _, rfl, rfl, rfl⟩ rfl (dk_op ⟨_, _, rfl, rfl, rfl⟩ rfl (dk_op ⟨_, _, rfl, rfl, rfl⟩ rfl (dk_op ⟨_, _, rfl, rfl, rfl⟩ rfl (dk_op ⟨_, _, rfl, rfl, rfl⟩ rfl (dk_op ⟨_, _, rfl, rfl, rfl⟩ rfl (dk_op ⟨_, _, rfl, rfl, rfl⟩ rfl (dk_op ⟨_, _, rfl, rfl, rfl⟩ rfl (dk_op ⟨_, _, rfl, rfl, rfl⟩ rfl (dk_op ⟨_, _, rfl, rfl, rfl⟩ rfl (dk_op ⟨_, _, rfl, rfl, rfl⟩ rfl (dk_op ⟨_, _, rfl, rfl, rfl⟩ rfl (dk_op ⟨_, _, rfl, rfl, rfl⟩ rfl (dk_op ⟨_, _, rfl, rfl, rfl⟩ rfl (dk_op ⟨_, _, rfl, rfl, rfl⟩ rfl ?_)))))))))))))))))))))))
  refine dk_op ⟨_, _, rfl, rfl, rfl⟩ rfl (dk_op ⟨_, _, rfl, rfl, rfl⟩ rfl (dk_op ⟨_, _, rfl, rfl, rfl⟩ rfl (dk_op ⟨_, _, rfl, rfl, rfl⟩ rfl (dk_op ⟨_, _, rfl, rfl, rfl⟩ rfl (dk_op ⟨_, _, rfl, rfl, rfl⟩ rfl (dk_op ⟨_, _, rfl, rfl, rfl⟩ rfl (dk_op ⟨_, _, rfl, rfl, rfl⟩ rfl (dk_op ⟨_, _, rfl, rfl, rfl⟩ rfl (dq_op tab rfl rfl rfl rfl (dq_op tab rfl rfl rfl rfl (vd_nil (by kernel_rfl) ?_)))))))))))
  refine qth (vw_ret ?_)
  rotate_left
  refine dk_op ⟨_, _, rfl, rfl, rfl⟩ rfl (dk_op ⟨_, _, rfl, rfl, rfl⟩ rfl (dk_op ⟨_, _, rfl, rfl, rfl⟩ rfl (dk_op ⟨_, _, rfl, rfl, rfl⟩ rfl (dk_op ⟨_, _, rfl, rfl, rfl⟩ rfl (dq_op tab rfl rfl rfl rfl (dq_op tab rfl rfl rfl rfl (dk_op ⟨_, _, rfl, rfl, rfl⟩ rfl (dk_op ⟨_, _, rfl, rfl, rfl⟩ rfl (dk_op ⟨_, _, rfl, rfl, rfl⟩ rfl (dk_op ⟨_, _, rfl, rfl, rfl⟩ rfl (dk_op ⟨_, _, rfl, rfl, rfl⟩ rfl (dq_op tab rfl rfl rfl rfl (dq_op tab rfl rfl rfl rfl (dk_op ⟨_, _, rfl, rfl, rfl⟩ rfl (dk_op ⟨_, _, rfl, rfl, rfl⟩ rfl (dk_op ⟨_, _, rfl, rfl, rfl⟩ rfl (dk_op ⟨_, _, rfl, rfl, rfl⟩ rfl (dk_op ⟨_, _, rfl, rfl, rfl⟩ rfl (dk_op ⟨_, _, rfl, rfl, rfl⟩ rfl (dk_op ⟨_, _, rfl, rfl, rfl⟩ rfl (dk_op ⟨_, _, rfl, rfl, rfl⟩ rfl (dk_op ⟨_, _, rfl, rfl, rfl⟩ rfl (dk_op ⟨_, _, rfl, rfl, rfl⟩ rfl ?_)))))))))))))))))))))))
  refine dk_op ⟨_, _, rfl, rfl, rfl⟩ rfl (dk_op ⟨_, _, rfl, rfl, rfl⟩ rfl (dk_op ⟨_, _, rfl, rfl, rfl⟩ rfl (dk_op ⟨_, _, rfl, rfl, rfl⟩ rfl (dk_op ⟨_, _, rfl, rfl, rfl⟩ rfl (dk_op ⟨_, _, rfl, rfl, rfl⟩ rfl (dk_op ⟨_, _, rfl, rfl, rfl⟩ rfl (dk_op ⟨_, _, rfl, rfl, rfl⟩ rfl (dk_op ⟨_, _, rfl, rfl, rfl⟩ rfl (dk_op ⟨_, _, rfl, rfl, rfl⟩ rfl (dk_op ⟨_, _, rfl, rfl, rfl⟩ rfl (dk_op ⟨_, _, rfl, rfl, rfl⟩ rfl (dk_op ⟨_, _, rfl, rfl, rfl⟩ rfl (dk_op ⟨_, _, rfl, rfl, rfl⟩ rfl (dk_op ⟨_, _, rfl, rfl, rfl⟩ rfl (dk_op ⟨_, _, rfl, rfl, rfl⟩ rfl (dq_op tab rfl rfl rfl rfl (dq_op tab rfl rfl rfl rfl (vd_nil (by kernel_rfl) ?_))))))))))))))))))
  refine qth (vw_ret ?_)
  rotate_left
  refine dk_op ⟨_, _, rfl, rfl, rfl⟩ rfl (dk_op ⟨_, _, rfl, rfl, rfl⟩ rfl (dk_op ⟨_, _, rfl, rfl, rfl⟩ rfl (dk_op ⟨_, _, rfl, rfl, rfl⟩ rfl (dk_op ⟨_, _, rfl, rfl, rfl⟩ rfl (dq_op tab rfl rfl rfl rfl (dq_op tab rfl rfl rfl rfl (dk_op ⟨_, _, rfl, rfl, rfl⟩ rfl (dk_op ⟨_, _, rfl, rfl, rfl⟩ rfl (dk_op ⟨_, _, rfl, rfl, rfl⟩ rfl (dk_op ⟨_, _, rfl, rfl, rfl⟩ rfl (dk_op ⟨_, _, rfl, rfl, rfl⟩ rfl (dq_op tab rfl rfl rfl rfl (dq_op tab rfl rfl rfl rfl (dk_op ⟨_, _, rfl, rfl, rfl⟩ rfl (dk_op ⟨_, _, rfl, rfl, rfl⟩ rfl (dk_op ⟨_, _, rfl, rfl, rfl⟩ rfl (dk_op ⟨_, _, rfl, rfl, rfl⟩ rfl (dk_op ⟨_, _, rfl, rfl, rfl⟩ rfl (dq_op tab rfl rfl rfl rfl (dq_op tab rfl rfl rfl rfl (dk_op ⟨_, _, rfl, rfl, rfl⟩ rfl (dk_op ⟨_, _, rfl, rfl, rfl⟩ rfl (dk_op ⟨_, _, rfl, rfl, rfl⟩ rfl ?_)))))))))))))))))))))))
  refine dk_op ⟨_, _, rfl, rfl, rfl⟩ rfl (dk_op ⟨_, _, rfl, rfl, rfl⟩ rfl (dk_op ⟨_, _, rfl, rfl, rfl⟩ rfl (dk_op ⟨_, _, rfl, rfl, rfl⟩ rfl (dk_op ⟨_, _, rfl, rfl, rfl⟩ rfl (dk_op ⟨_, _, rfl, rfl, rfl⟩ rfl (dk_op ⟨_, _, rfl, rfl, rfl⟩ rfl (dk_op ⟨_, _, rfl, rfl, rfl⟩ rfl (dk_op ⟨_, _, rfl, rfl, rfl⟩ rfl (dk_op ⟨_, _, rfl, rfl, rfl⟩ rfl (dk_op ⟨_, _, rfl, rfl, rfl⟩ rfl (dk_op ⟨_, _, rfl, rfl, rfl⟩ rfl (dk_op ⟨_, _, rfl, rfl, rfl⟩ rfl (dk_op ⟨_, _, rfl, rfl, rfl⟩ rfl (dk_op ⟨_, _, rfl, rfl, rfl⟩ rfl (dk_op ⟨_, _, rfl, rfl, rfl⟩ rfl (dk_op ⟨_, _, rfl, rfl, rfl⟩ rfl (dk_op ⟨_, _, rfl, rfl, rfl⟩ rfl (dk_op ⟨_, _, rfl, rfl, rfl⟩ rfl (dk_op ⟨_, _, rfl, rfl, rfl⟩ rfl (dk_op ⟨_, _, rfl, rfl, rfl⟩ rfl (dk_op ⟨_, _, rfl, rfl, rfl⟩ rfl (dk_op ⟨_, _, rfl, rfl, rfl⟩ rfl (dq_op tab rfl rfl rfl rfl ?_)))))))))))))))))))))))
  refine dq_op tab rfl rfl rfl rfl (vd_nil (by kernel_rfl) ?_)
  refine qth (vw_ret ?_)
  rotate_left
  refine dk_op ⟨_, _, rfl, rfl, rfl⟩ rfl (dk_op ⟨_, _, rfl, rfl, rfl⟩ rfl (dk_op ⟨_, _, rfl, rfl, rfl⟩ rfl (dk_op ⟨_, _, rfl, rfl, rfl⟩ rfl (dk_op ⟨_, _, rfl, rfl, rfl⟩ rfl (dq_op tab rfl rfl rfl rfl (dq_op tab rfl rfl rfl rfl (dk_op ⟨_, _, rfl, rfl, rfl⟩ rfl (dk_op ⟨_, _, rfl, rfl, rfl⟩ rfl (dk_op ⟨_, _, rfl, rfl, rfl⟩ rfl (dk_op ⟨_, _, rfl, rfl, rfl⟩ rfl (dk_op ⟨_, _, rfl, rfl, rfl⟩ rfl (dq_op tab rfl rfl rfl rfl (dq_op tab rfl rfl rfl rfl (dk_op ⟨_, _, rfl, rfl, rfl⟩ rfl (dk_op ⟨_, _, rfl, rfl, rfl⟩ rfl (dk_op ⟨_, _, rfl, rfl, rfl⟩ rfl (dk_op ⟨_, _, rfl, rfl, rfl⟩ rfl (dk_op ⟨_, _, rfl, rfl, rfl⟩ rfl (dq_op tab rfl rfl rfl rfl (dq_op tab rfl rfl rfl rfl (dk_op ⟨_, _, rfl, rfl, rfl⟩ rfl (dk_op ⟨_, _, rfl, rfl, rfl⟩ rfl (dk_op ⟨_, _, rfl, rfl, rfl⟩ rfl ?_)))))))))))))))))))))))
  refine dk_op ⟨_, _, rfl, rfl, rfl⟩ rfl (dk_op ⟨_, _, rfl, rfl, rfl⟩ rfl (dq_op tab rfl rfl rfl rfl (dq_op tab rfl rfl rfl rfl (dk_op ⟨_, _, rfl, rfl, rfl⟩ rfl (dk_op ⟨_, _, rfl, rfl, rfl⟩ rfl (dk_op ⟨_, _, rfl, rfl, rfl⟩ rfl (dk_op ⟨_, _, rfl, rfl, rfl⟩ rfl (dk_op ⟨_, _, rfl, rfl, rfl⟩ rfl (dk_op ⟨_, _, rfl, rfl, rfl⟩ rfl (dk_op ⟨_, _, rfl, rfl, rfl⟩ rfl (dk_op ⟨_, _, rfl, rfl, rfl⟩ rfl (dk_op ⟨_, _, rfl, rfl, rfl⟩ rfl (dk_op ⟨_, _, rfl, rfl, rfl⟩ rfl (dk_op ⟨_, _, rfl, rfl, rfl⟩ rfl (dk_op ⟨_, _, rfl, rfl, rfl⟩ rfl (dk_op ⟨_, _, rfl, rfl, rfl⟩ rfl (dk_op ⟨_, _, rfl, rfl, rfl⟩ rfl (dk_op ⟨_, _, rfl, rfl, rfl⟩ rfl (dk_op ⟨_, _, rfl, rfl, rfl⟩ rfl (dk_op ⟨_, _, rfl, rfl, rfl⟩ rfl (dk_op ⟨_, _, rfl, rfl, rfl⟩ rfl (dk_op ⟨_, _, rfl, rfl, rfl⟩ rfl (dk_op ⟨_, _, rfl, rfl, rfl⟩ rfl ?_)))))))))))))))))))))))
  refine dk_op ⟨_, _, rfl, rfl, rfl⟩ rfl (dk_op ⟨_, _, rfl, rfl, rfl⟩ rfl (dk_op ⟨_, _, rfl, rfl, rfl⟩ rfl (dk_op ⟨_, _, rfl, rfl, rfl⟩ rfl (dk_op ⟨_, _, rfl, rfl, rfl⟩ rfl (dk_op ⟨_, _, rfl, rfl, rfl⟩ rfl (dq_op tab rfl rfl rfl rfl (dq_op tab rfl rfl rfl rfl (vd_nil (by kernel_rfl) ?_))))))))
  refine qth (vw_ret ?_)
  rotate_left
  refine dk_op ⟨_, _, rfl, rfl, rfl⟩ rfl (dk_op ⟨_, _, rfl, rfl, rfl⟩ rfl (dk_op ⟨_, _, rfl, rfl, rfl⟩ rfl (dk_op ⟨_, _, rfl, rfl, rfl⟩ rfl (dk_op ⟨_, _, rfl, rfl, rfl⟩ rfl (dq_op tab rfl rfl rfl rfl (dq_op tab rfl rfl rfl rfl (dk_op ⟨_, _, rfl, rfl, rfl⟩ rfl (dk_op ⟨_, _, rfl, rfl, rfl⟩ rfl (dk_op ⟨_, _, rfl, rfl, rfl⟩ rfl (dk_op ⟨_, _, rfl, rfl, rfl⟩ rfl (dk_op ⟨_, _, rfl, rfl, rfl⟩ rfl (dq_op tab rfl rfl rfl rfl (dq_op tab rfl rfl rfl rfl (dk_op ⟨_, _, rfl, rfl, rfl⟩ rfl (dk_op ⟨_, _, rfl, rfl, rfl⟩ rfl (dk_op ⟨_, _, rfl, rfl, rfl⟩ rfl (dk_op ⟨_, _, rfl, rfl, rfl⟩ rfl (dk_op ⟨_, _, rfl, rfl, rfl⟩ rfl (dq_op tab rfl rfl rfl rfl (dq_op tab rfl rfl rfl rfl (dk_op ⟨_, _, rfl, rfl, rfl⟩ rfl (dk_op ⟨_, _, rfl, rfl, rfl⟩ rfl (dk_op ⟨_, _, rfl, rfl, rfl⟩ rfl ?_)))))))))))))))))))))))
  refine dk_op ⟨_, _, rfl, rfl, rfl⟩ rfl (dk_op ⟨_, _, rfl, rfl, rfl⟩ rfl (dq_op tab rfl rfl rfl rfl (dq_op tab rfl rfl rfl rfl (dk_op ⟨_, _, rfl, rfl, rfl⟩ rfl (dk_op ⟨_, _, rfl, rfl, rfl⟩ rfl (dk_op ⟨_, _, rfl, rfl, rfl⟩ rfl (dk_op ⟨_, _, rfl, rfl, rfl⟩ rfl (dk_op ⟨_, _, rfl, rfl, rfl⟩ rfl (dq_op tab rfl rfl rfl rfl (dq_op tab rfl rfl rfl rfl (dk_op ⟨_, _, rfl, rfl, rfl⟩ rfl (dk_op ⟨_, _, rfl, rfl, rfl⟩ rfl (dk_op ⟨_, _, rfl, rfl, rfl⟩ rfl (dk_op ⟨_, _, rfl, rfl, rfl⟩ rfl (dk_op ⟨_, _, rfl, rfl, rfl⟩ rfl (dk_op ⟨_, _, rfl, rfl, rfl⟩ rfl (dk_op ⟨_, _, rfl, rfl, rfl⟩ rfl (dk_op ⟨_, _, rfl, rfl, rfl⟩ rfl (dk_op ⟨_, _, rfl, rfl, rfl⟩ rfl (dk_op ⟨_, _, rfl, rfl, rfl⟩ rfl (dk_op ⟨_, _, rfl, rfl, rfl⟩ rfl (dk_op ⟨_, _, rfl, rfl, rfl⟩ rfl (dk_op ⟨_, _, rfl, rfl, rfl⟩ rfl ?_)))))))))))))))))))))))
  refine dk_op ⟨_, _, rfl, rfl, rfl⟩ rfl (dk_op ⟨_, _, rfl, rfl, rfl⟩ rfl (dk_op ⟨_, _, rfl, rfl, rfl⟩ rfl (dk_op ⟨_, _, rfl, rfl, rfl⟩ rfl (dk_op ⟨_, _, rfl, rfl, rfl⟩ rfl (dk_op ⟨_, _, rfl, rfl, rfl⟩ rfl (dk_op ⟨_, _, rfl, rfl, rfl⟩ rfl (dk_op ⟨_, _, rfl, rfl, rfl⟩ rfl (dk_op ⟨_, _, rfl, rfl, rfl⟩ rfl (dk_op ⟨_, _, rfl, rfl, rfl⟩ rfl (dk_op ⟨_, _, rfl, rfl, rfl⟩ rfl (dk_op ⟨_, _, rfl, rfl, rfl⟩ rfl (dk_op ⟨_, _, rfl, rfl, rfl⟩ rfl (dq_op tab rfl rfl rfl rfl (dq_op tab rfl rfl rfl rfl (vd_nil (by kernel_rfl) ?_)))))))))))))))
  refine qth (vw_ret ?_)
  rotate_left
  all_goals exact ⟨⟨.inr rfl, Eq.trans (b := some (.bool _)) rfl (congrArg (fun b => some (Value.bool b)) (by simp_all [confMay, Bool.and_assoc]))⟩, fun _ => rfl, trivial⟩
set_option maxHeartbeats 4000000 in
theorem clone_users {V : Heap} {n : Nat} {sv : Value} {xs : List UserV} (hl : Looks V 9 sv (userR.cells xs) xs.length) (hb : xs.length * 72 ≤ 140737488355328) :
    Tri Tryz.prog 44 [sv] n 1 V (fun u L => u = .slice (some ⟨n, 0, none⟩) xs.length 0 ∧ L = [(n, some (.opn (userR.cells xs) 76 9))]) := by
  refine call_of_vw (K := 1) (argsI := [.slice (some ⟨0, 0, none⟩) xs.length 0]) tab Tryz.func44 rfl rfl (by simp [Tryz.f44]) [.look sv xs.length 9] [.win (userR.cells xs) 9] rfl (.look hl (userR.flat_cells xs) .nil) (by simp [ownNames]) (by simp [ownNames, lookNames]) (by simp [ownNames, *]) (al_cons (.look (a := 0) rfl) al_nil) (seen_of (sn_look (seen_top (j := 0) rfl) sn_nil)) ?_
  refine wsq (wrg (vQ tab rfl (vnl (qth (wsq (wsq (wrg (vQ tab rfl ?_))))))))
  refine vnil_op tab rfl rfl rfl rfl rfl rfl rfl (fun hz => ?_) ?_
  refine vnl (qth (vc_true rfl (wsq (wrg (vQ tab rfl (vnl (qth (vw_ret (q_thenr ?_)))))))))
  rotate_left
  refine vnl (qth (vc_false rfl (vw_skip (qth (wsq (wrg (vN tab rfl (vQ tab rfl (vo_op rfl rfl rfl (opr_ev tab (ev_app userR (xs := []) (ys := xs) (m := xs.length) rfl rfl rfl rfl rfl rfl (news_all userR rfl rfl) rfl rfl (by rw [Nat.zero_add]; exact hb) (by omega))) ?_)))))))))
  refine vQ tab rfl (vnl (qth (vw_ret ?_)))
  rotate_left
  · obtain rfl := List.length_eq_zero_iff.1 hz
    exact out_mk [NIL] (.inr rfl) ⟨rfl, rfl⟩ rfl (rel_nil (sigma_nil (i := 0) rfl) rfl) (op_void (sigma_nil (i := 0) rfl) rfl rfl rfl op_nil) trivial
  · exact out_mk [2] (.inr rfl) ⟨rfl, rfl⟩ rfl (rel_slice (sigma_look (i := 0) rfl) (by omega)) (op_cons (sigma_look (i := 0) rfl) rfl rfl (ov_opn userR rfl) rfl op_nil) trivial
set_option maxHeartbeats 4000000 in
theorem clone_sess {V : Heap} {n : Nat} {sv : Value} {xs : List SessV} (hl : Looks V 4 sv (sessR.cells xs) xs.length) (hb : xs.length * 32 ≤ 140737488355328) :
    Tri Tryz.prog 45 [sv] n 1 V (fun u L => u = .slice (some ⟨n, 0, none⟩) xs.length 0 ∧ L = [(n, some (.opn (sessR.cells xs) 78 4))]) := by
  refine call_of_vw (K := 1) (argsI := [.slice (some ⟨0, 0, none⟩) xs.length 0]) tab Tryz.func45 rfl rfl (by simp [Tryz.f45]) [.look sv xs.length 4] [.win (sessR.cells xs) 4] rfl (.look hl (sessR.flat_cells xs) .nil) (by simp [ownNames]) (by simp [ownNames, lookNames]) (by simp [ownNames, *]) (al_cons (.look (a := 0) rfl) al_nil) (seen_of (sn_look (seen_top (j := 0) rfl) sn_nil)) ?_
  refine wsq (wrg (vQ tab rfl (vnl (qth (wsq (wsq (wrg (vQ tab rfl ?_))))))))
  refine vnil_op tab rfl rfl rfl rfl rfl rfl rfl (fun hz => ?_) ?_
  refine vnl (qth (vc_true rfl (wsq (wrg (vQ tab rfl (vnl (qth (vw_ret (q_thenr ?_)))))))))
  rotate_left
  refine vnl (qth (vc_false rfl (vw_skip (qth (wsq (wrg (vN tab rfl (vQ tab rfl (vo_op rfl rfl rfl (opr_ev tab (ev_app sessR (xs := []) (ys := xs) (m := xs.length) rfl rfl rfl rfl rfl rfl (news_all sessR rfl rfl) rfl rfl (by rw [Nat.zero_add]; exact hb) (by omega))) ?_)))))))))
  refine vQ tab rfl (vnl (qth (vw_ret ?_)))
  rotate_left
  · obtain rfl := List.length_eq_zero_iff.1 hz
    exact out_mk [NIL] (.inr rfl) ⟨rfl, rfl⟩ rfl (rel_nil (sigma_nil (i := 0) rfl) rfl) (op_void (sigma_nil (i := 0) rfl) rfl rfl rfl op_nil) trivial
  · exact out_mk [2] (.inr rfl) ⟨rfl, rfl⟩ rfl (rel_slice (sigma_look (i := 0) rfl) (by omega)) (op_cons (sigma_look (i := 0) rfl) rfl rfl (ov_opn sessR rfl) rfl op_nil) trivial
set_option maxHeartbeats 4000000 in
theorem clone_ints {V : Heap} {n : Nat} {sv : Value} {xs : List Int} (hl : Looks V 1 sv ((intR .i64).cells xs) xs.length) (hb : xs.length * 8 ≤ 140737488355328) :
    Tri Tryz.prog 47 [sv] n 1 V (fun u L => u = .slice (some ⟨n, 0, none⟩) xs.length 0 ∧ L = [(n, some (.opn ((intR .i64).cells xs) 3 1))]) := by
  refine call_of_vw (K := 1) (argsI := [.slice (some ⟨0, 0, none⟩) xs.length 0]) tab Tryz.func47 rfl rfl (by simp [Tryz.f47]) [.look sv xs.length 1] [.win ((intR .i64).cells xs) 1] rfl (.look hl ((intR .i64).flat_cells xs) .nil) (by simp [ownNames]) (by simp [ownNames, lookNames]) (by simp [ownNames, *]) (al_cons (.look (a := 0) rfl) al_nil) (seen_of (sn_look (seen_top (j := 0) rfl) sn_nil)) ?_
  refine wsq (wrg (vQ tab rfl (vnl (qth (wsq (wsq (wrg (vQ tab rfl ?_))))))))
  refine vnil_op tab rfl rfl rfl rfl rfl rfl rfl (fun hz => ?_) ?_
  refine vnl (qth (vc_true rfl (wsq (wrg (vQ tab rfl (vnl (qth (vw_ret (q_thenr ?_)))))))))
  rotate_left
  refine vnl (qth (vc_false rfl (vw_skip (qth (wsq (wrg (vN tab rfl (vQ tab rfl (vo_op rfl rfl rfl (opr_ev tab (ev_app (intR .i64) (xs := []) (ys := xs) (m := xs.length) rfl rfl rfl rfl rfl rfl (news_all (intR .i64) rfl rfl) rfl rfl (by rw [Nat.zero_add]; exact hb) (by omega))) ?_)))))))))
  refine vQ tab rfl (vnl (qth (vw_ret ?_)))
  rotate_left
  · obtain rfl := List.length_eq_zero_iff.1 hz
    exact out_mk [NIL] (.inr rfl) ⟨rfl, rfl⟩ rfl (rel_nil (sigma_nil (i := 0) rfl) rfl) (op_void (sigma_nil (i := 0) rfl) rfl rfl rfl op_nil) trivial
  · exact out_mk [2] (.inr rfl) ⟨rfl, rfl⟩ rfl (rel_slice (sigma_look (i := 0) rfl) (by omega)) (op_cons (sigma_look (i := 0) rfl) rfl rfl (ov_opn (intR .i64) rfl) rfl op_nil) trivial
set_option maxHeartbeats 4000000 in
theorem indexfunc_users {V : Heap} {n : Nat} {sv : Value} {xs : List UserV} {F' : FuncId} {caps : List Value} (capsI : List Value) (p : UserV → Bool) (is : List Nat) (os : List VObj) (hl : Looks V 9 sv (userR.cells xs) xs.length) (hx : xs.length ≤ 140737488355328)
    (he : EList V (.look sv xs.length 9 :: is.map .own) (is.map .own) os) (hn : is.Nodup) (hd : ∀ x ∈ lookNames [.look sv xs.length 9], x ∉ is) (hcaps : LRel (ownR (.look sv xs.length 9 :: is.map .own)) capsI caps) (hF : Callable Tryz.prog F')
    (hcall : ∀ n' (V' : Heap), (∀ (a : Nat) (o : VObj), os[a]? = some o → V' (1 + a) = some o) → ∀ x ∈ xs, Tri Tryz.prog F' (.agg (userR.f x).toArray :: capsI) n' 0 V' (fun u L => u = .bool (p x) ∧ L = [])) :
    Tri Tryz.prog 69 [sv, .func (.func F') #[] caps.toArray] n 0 V (fun u L => u = .int .i64 (findI p xs) ∧ L = []) := by
  refine reads_of_vw (argsI := [.slice (some ⟨0, 0, none⟩) xs.length 0, .func (.func F') #[] capsI.toArray]) tab Tryz.func69 rfl rfl (by simp [Tryz.f69]) (.look sv xs.length 9 :: is.map .own) (.win (userR.cells xs) 9 :: os) rfl (.look hl (userR.flat_cells xs) he)
    (by show (ownNames (is.map .own)).Nodup; rw [ownNames_map]; exact hn) ?_ (al_cons (.look (a := 0) rfl) (al_cons (.val (rel_func hcaps)) al_nil)) (seen_of (sn_look (seen_top (j := 0) rfl) (seen_owns is))) (.int _ _) ?_
  · have e : ownNames (.look sv xs.length 9 :: is.map .own) = is := ownNames_map is
    rw [e]
    rw [lookNames_one]; exact hd
  have hos : ∀ (a : Nat) (o : VObj), os[a]? = some o → lkp (oHeap 0 (.win (userR.cells xs) 9 :: os)) (1 + a) = some o := fun a o h => by
    have := oHeap_get (k := 0) (os := .win (userR.cells xs) 9 :: os) (a := a + 1) (o := o) (by simpa using h)
    rw [Nat.zero_add, Nat.add_comm] at this; exact this
  have hst : Stays (lkp (oHeap 0 (.win (userR.cells xs) 9 :: os))) 0 (.look sv xs.length 9 :: is.map .own) (.win (userR.cells xs) 9 :: os) := stays_self fun a o h => oHeap_get h
  refine wsq (wrg (vQ tab rfl (vnl (qth (wsq (wsq (wrg (vQ3 tab rfl rfl rfl (vnl (qth (wbk ?_)))))))))))
  refine vw_loop_env (fun k env => ∃ j : Int, 0 ≤ j ∧ j ≤ xs.length ∧ (xs.take j.toNat).any p = false ∧ k = (xs.length - j).toNat ∧
      env = [(0, .slice (some ⟨0, 0, none⟩) xs.length 0), (1, .func (.func F') #[] capsI.toArray), (7, .int .i64 xs.length), (8, .int .i64 j)]) (xs.length - 0)
    ⟨_, se_cons rfl (se_cons rfl (se_cons rfl (se_cons rfl se_nil))), 0, by omega, by omega, by simp, by simp, rfl⟩ ?_
  rintro k env ⟨j, h0, h1, ht, rfl, rfl⟩
  by_cases hj : j < (xs.length : Int)
  case neg =>
    rw [show j.toNat = xs.length by omega, List.take_length] at ht
    refine wsq (wrg (vQ tab rfl (vnl (qth (wsq (vcd_false rfl (by simp only [sl_]; first | done | omega) ?_))))))
    refine vw_exit (q_thenx (q_thenx (q_here (qth (wsq (wrg (vQ tab rfl (vnl (qth (vw_ret ?_))))))))))
    exact ⟨⟨.inr rfl, by rw [findI_none ht]; rfl⟩, hst⟩
  obtain ⟨a, hxa⟩ := get_some h0 hj
  have hi : IntKind.i64.wrap (j + 1) = j + 1 := i64_in _ (by omega)
  have hjn : (j + 1).toNat = j.toNat + 1 := by omega
  have hT := fun n' => hcall n' (lkp (oHeap 0 (.win (userR.cells xs) 9 :: os))) hos a (List.mem_of_getElem? hxa)
  cases hp : p a with
  | true =>
    refine wsq (wrg (vQ tab rfl (vnl (qth (wsq (vcd_true rfl (by simp only [hi, hp, sl_]; first | done | omega) ?_))))))
    refine vw_skip (qth (wsq (wbk (wsq (wrg (vQ2 tab rfl rfl (vnl (qth (wsq (wrg (vQ3 tab rfl rfl rfl (vq_op tab rfl rfl rfl (ev_index rfl rfl rfl rfl rfl (by omega) (by omega)) ?_))))))))))))
    refine vq_op tab rfl rfl rfl (ev_loadrow userR rfl rfl rfl rfl rfl rfl hxa) (vclr_op rfl rfl rfl rfl rfl rfl hF (hT _) (vnl (qth (vcd_true rfl (by simp only [hi, hp, sl_]; first | done | omega) ?_))))
    refine wsq (wrg (vQ2 tab rfl rfl (vnl (qth (vw_ret (q_ret (q_thenr (q_thenr (q_ret (q_thenr ?_))))))))))
    exact ⟨⟨.inr rfl, by rw [findI_some hxa hp ht]; exact congrArg (fun j => some (Value.int .i64 j)) (by omega)⟩, hst⟩
  | false =>
    refine wsq (wrg (vQ tab rfl (vnl (qth (wsq (vcd_true rfl (by simp only [hi, hp, sl_]; first | done | omega) ?_))))))
    refine vw_skip (qth (wsq (wbk (wsq (wrg (vQ2 tab rfl rfl (vnl (qth (wsq (wrg (vQ3 tab rfl rfl rfl (vq_op tab rfl rfl rfl (ev_index rfl rfl rfl rfl rfl (by omega) (by omega)) ?_))))))))))))
    refine vq_op tab rfl rfl rfl (ev_loadrow userR rfl rfl rfl rfl rfl rfl hxa) (vclr_op rfl rfl rfl rfl rfl rfl hF (hT _) (vnl (qth (vcd_false rfl (by simp only [hi, hp, sl_]; first | done | omega) ?_))))
    refine vw_skip (q_norm (qth (wrg (vQ2 tab rfl rfl (vnl (qth ?_))))))
    exact ⟨rfl, rfl, (xs.length - (j + 1)).toNat, _, by omega, se_cons rfl (se_cons rfl (se_cons rfl (se_cons (se_int rfl hi) se_nil))), j + 1, by omega, by omega, by rw [hjn]; exact any_take hxa hp ht, rfl, rfl⟩
theorem user1_tri {V : Heap} {n i : Nat} {u : Int} (a : UserV) (hV : V i = some (.cells [.int .i64 u] 3 (0, 0))) :
    Tri Tryz.prog 78 [.agg (userR.f a).toArray, .pointer (some ⟨i, 0, none⟩)] n 0 V (fun r L => r = .bool (a.user == u) ∧ L = []) := by
  refine reads_of_vw (K := 1) (argsI := [userV a, .pointer (some ⟨0, 0, none⟩)]) tab Tryz.func78 rfl rfl (by simp [Tryz.f78]) [.own i] [.cells [.int .i64 u] 3 (0, 0)] rfl (.own hV (ov_cells _ _ rfl) .nil) (by simp [ownNames, *]) (by simp [ownNames, lookNames, *]) (al_cons (.val (userRel a)) (al_cons (.val (rel_ptr rfl)) al_nil)) (seen_of (sn_own sn_nil)) (.bool _) ?_
  refine wsq (wrg (vN tab rfl (vQ tab rfl (vnl (qth (wsq (wrg (vQ4 tab rfl rfl rfl rfl (vQ tab rfl (vnl (qth (vw_ret ?_))))))))))))
  exact ⟨⟨.inr rfl, rfl⟩, fun _ => rfl, trivial⟩
end Go.Proofs.YtcjfidfealifhaaGreat
namespace Go.Proofs.YtcjfidfealifhaaGreat
open Go Vm IntWalk
set_option linter.unusedVariables false
set_option linter.unusedSimpArgs false
abbrev stV (u x a p : Nat) (s : StV) : Value := .agg #[.int .i64 s.boots, .int .i64 s.epoch, .int .i64 s.next, .slice (some ⟨u, 0, none⟩) s.users.length 0, .slice (some ⟨x, 0, none⟩) s.sess.length 0, .slice (some ⟨a, 0, none⟩) s.addrs.length 0, .slice (some ⟨p, 0, none⟩) s.spent.length 0]
abbrev turnO (c u x a p e : Nat) (s : StV) : VObj := .cells [.pointer (some ⟨c, 0, none⟩), .int .i64 s.boots, .int .i64 s.epoch, .int .i64 s.next, .slice (some ⟨u, 0, none⟩) s.users.length 0, .slice (some ⟨x, 0, none⟩) s.sess.length 0, .slice (some ⟨a, 0, none⟩) s.addrs.length 0, .slice (some ⟨p, 0, none⟩) s.spent.length 0, .pointer (some ⟨e, 0, none⟩)] 64 (0, 0)
theorem ov_turn {σ : Ren} {c u x a p e c' u' x' a' p' e' : Nat} {s s' : StV} (hs : s = s') (hc : VRel σ (.pointer (some ⟨c, 0, none⟩)) (.pointer (some ⟨c', 0, none⟩))) (hu : VRel σ (.slice (some ⟨u, 0, none⟩) s'.users.length 0) (.slice (some ⟨u', 0, none⟩) s'.users.length 0)) (hx : VRel σ (.slice (some ⟨x, 0, none⟩) s'.sess.length 0) (.slice (some ⟨x', 0, none⟩) s'.sess.length 0)) (ha : VRel σ (.slice (some ⟨a, 0, none⟩) s'.addrs.length 0) (.slice (some ⟨a', 0, none⟩) s'.addrs.length 0)) (hp : VRel σ (.slice (some ⟨p, 0, none⟩) s'.spent.length 0) (.slice (some ⟨p', 0, none⟩) s'.spent.length 0)) (he : VRel σ (.pointer (some ⟨e, 0, none⟩)) (.pointer (some ⟨e', 0, none⟩))) :
    OV σ (turnO c u x a p e s) (turnO c' u' x' a' p' e' s') := by
  subst hs
  exact .cells _ _ (lrel_cons hc (lrel_cons (.int _ _) (lrel_cons (.int _ _) (lrel_cons (.int _ _) (lrel_cons hu (lrel_cons hx (lrel_cons ha (lrel_cons hp (lrel_cons he lrel_nil)))))))))
def TurnAt (V : Heap) (t c e u x a p : Nat) (cf : ConfV) (ev : EventV) (s : StV) : Prop :=
  V t = some (turnO c u x a p e s) ∧ V c = some (confO cf) ∧ V e = some (evtO ev) ∧ V u = some (.opn (userR.cells s.users) 76 9) ∧ V x = some (.opn (sessR.cells s.sess) 78 4) ∧
  V a = some (.opn (addrR.cells s.addrs) 80 3) ∧ V p = some (.opn ((intR .i64).cells s.spent) 3 1) ∧ [t, c, e, u, x, a, p].Nodup
def stL (n : Nat) (s : StV) : List (Nat × Option VObj) := [(n, some (.opn (userR.cells s.users) 76 9)), (n + 1, some (.opn (sessR.cells s.sess) 78 4)), (n + 2, some (.opn (addrR.cells s.addrs) 80 3)), (n + 3, some (.opn ((intR .i64).cells s.spent) 3 1))]
set_option maxHeartbeats 4000000 in
theorem copy_tri {V : Heap} {n : Nat} {v1 v2 v3 v4 : Value} {s : StV} (h1 : Looks V 9 v1 (userR.cells s.users) s.users.length) (h2 : Looks V 4 v2 (sessR.cells s.sess) s.sess.length) (h3 : Looks V 3 v3 (addrR.cells s.addrs) s.addrs.length) (h4 : Looks V 1 v4 ((intR .i64).cells s.spent) s.spent.length)
    (b1 : s.users.length * 72 ≤ 140737488355328) (b2 : s.sess.length * 32 ≤ 140737488355328) (b3 : s.addrs.length * 24 ≤ 140737488355328) (b4 : s.spent.length * 8 ≤ 140737488355328) :
    Tri Tryz.prog 27 [.agg #[.int .i64 s.boots, .int .i64 s.epoch, .int .i64 s.next, v1, v2, v3, v4]] n 4 V (fun r L => r = stV n (n + 1) (n + 2) (n + 3) s ∧ L = stL n s) := by
  refine call_of_vw (K := 4) (argsI := [.agg #[.int .i64 s.boots, .int .i64 s.epoch, .int .i64 s.next, .slice (some ⟨0, 0, none⟩) s.users.length 0, .slice (some ⟨1, 0, none⟩) s.sess.length 0, .slice (some ⟨2, 0, none⟩) s.addrs.length 0, .slice (some ⟨3, 0, none⟩) s.spent.length 0]]) tab Tryz.func27 rfl rfl (by simp [Tryz.f27]) [.look v1 s.users.length 9, .look v2 s.sess.length 4, .look v3 s.addrs.length 3, .look v4 s.spent.length 1] [.win (userR.cells s.users) 9, .win (sessR.cells s.sess) 4, .win (addrR.cells s.addrs) 3, .win ((intR .i64).cells s.spent) 1] rfl (.look h1 (userR.flat_cells s.users) (.look h2 (sessR.flat_cells s.sess) (.look h3 (addrR.flat_cells s.addrs) (.look h4 ((intR .i64).flat_cells s.spent) .nil)))) (by simp [ownNames]) (by simp [ownNames, lookNames]) (by simp [ownNames, *]) (al_cons (ar_agg (al_cons (.val (.int _ _)) (al_cons (.val (.int _ _)) (al_cons (.val (.int _ _)) (al_cons (.look (a := 0) rfl) (al_cons (.look (a := 1) rfl) (al_cons (.look (a := 2) rfl) (al_cons (.look (a := 3) rfl) al_nil)))))))) al_nil) (seen_of (sn_look (seen_agg (j := 0) (i := 3) rfl rfl) (sn_look (seen_agg (j := 0) (i := 4) rfl rfl) (sn_look (seen_agg (j := 0) (i := 5) rfl rfl) (sn_look (seen_agg (j := 0) (i := 6) rfl rfl) sn_nil))))) ?_
  refine wsq (wrg (vN tab rfl (vN tab rfl (vnl (qth (wsq (vw_draw mixed (dq_op tab rfl rfl rfl rfl (dq_op tab rfl rfl rfl rfl (dt_op [0] rfl rfl rfl rfl rfl callable_44 (clone_users (xs := s.users) (looks_win userR rfl rfl) b1) (dq_op tab rfl rfl rfl rfl (dq_op tab rfl rfl rfl rfl (dt_op [1] rfl rfl rfl rfl rfl callable_45 (clone_sess (xs := s.sess) (looks_win sessR rfl rfl) b2) (dq_op tab rfl rfl rfl rfl (ds_op tab rfl rfl rfl rfl (dq_op tab rfl rfl rfl rfl (ds_op tab rfl rfl rfl rfl (vd_nil (by kernel_rfl) ?_))))))))))))))))))
  refine qth (wsq (vw_draw mixed (dq_op tab rfl rfl rfl rfl (dq_op tab rfl rfl rfl rfl (dt_op [2] rfl rfl rfl rfl rfl callable_46 (clone_addrs (xs := s.addrs) (looks_win addrR rfl rfl) b3) (dq_op tab rfl rfl rfl rfl (dq_op tab rfl rfl rfl rfl (dt_op [3] rfl rfl rfl rfl rfl callable_47 (clone_ints (xs := s.spent) (looks_win (intR .i64) rfl rfl) b4) (dq_op tab rfl rfl rfl rfl (ds_op tab rfl rfl rfl rfl (dq_op tab rfl rfl rfl rfl (ds_op tab rfl rfl rfl rfl (vd_nil (by kernel_rfl) ?_)))))))))))))
  refine qth (wsq (wrg (vQ tab rfl (vS tab rfl (vnl (qth (vw_ret ?_)))))))
  exact out_mk [6, 7, 8, 9] (.inr rfl) ⟨rfl, rfl⟩ rfl (vrel_agg (lrel_cons (.int _ _) (lrel_cons (.int _ _) (lrel_cons (.int _ _) (lrel_cons (rel_slice (sigma_look (i := 0) rfl) rfl) (lrel_cons (rel_slice (sigma_look (i := 1) rfl) rfl) (lrel_cons (rel_slice (sigma_look (i := 2) rfl) rfl) (lrel_cons (rel_slice (sigma_look (i := 3) rfl) rfl) lrel_nil))))))))
    (op_cons (sigma_look (i := 0) rfl) rfl rfl (ov_opn userR rfl) rfl (op_cons (sigma_look (i := 1) rfl) rfl rfl (ov_opn sessR rfl) rfl (op_cons (sigma_look (i := 2) rfl) rfl rfl (ov_opn addrR rfl) rfl (op_cons (sigma_look (i := 3) rfl) rfl rfl (ov_opn (intR .i64) rfl) rfl op_nil)))) trivial
end Go.Proofs.YtcjfidfealifhaaGreat
namespace Go.Proofs.YtcjfidfealifhaaGreat.Vm
open Go
set_option linter.unusedVariables false
section
variable {P : Program} {τ : Nat → Option TI} {m : Nat}
theorem readsp_of_vw (hτ : Tab P τ) {F : FuncId} {fn : Func} {c : Code} {args argsI : List Value} {n K : Nat} {V : Heap} {v vI : Value} (hf : P.funcs[F]? = some fn) (hb : fn.body = some c) (hm : fn.ntmps = m) (hlen : argsI.length ≤ m)
    (src : List Src) (os : List VObj) (hK : src.length = K) (he : EList V src src os) (hn : (ownNames src).Nodup) (hd : ∀ i ∈ lookNames src, i ∉ ownNames src)
    (ha : AList src argsI args) (hs : ∀ (a : Nat) (v : Value) (m sz : Nat), src[a]? = some (Src.look v m sz) → Seen V args v) (hv : ∀ σ : Ren, (∀ (a i : Nat), src[a]? = some (.own i) → σ i = some ⟨a, none, 0⟩) → VRel σ v vI)
    (h : VW P m K c (fun e s => ((e = .normal ∨ e = .ret) ∧ evResults τ s fn.results.toList = some vI) ∧ Stays s.heap 0 src os) ⟨argEnv 0 argsI, lkp (oHeap 0 os), K⟩) : Tri P F args n 0 V (fun u L => u = v ∧ L = []) := by
  refine tri_drop ?_
  refine tri_of_vw hτ hf hb hm hlen K src os (elist_len he ▸ hK) (enter_of he hn hd) ha hs (h.mono ?_)
  rintro e s ⟨⟨h1, h2⟩, h3⟩
  let σ : Ren := fun j => (place 0 src j).map (⟨·, none, 0⟩)
  have hσ : ∀ j t, σ j = some t → src[t.blk]? = some (.own j) ∧ t = ⟨t.blk, none, 0⟩ := by
    intro j t h
    obtain ⟨a, hx, rfl⟩ := Option.map_eq_some_iff.1 h
    have := (place_some hx).2
    exact ⟨by simpa using this, rfl⟩
  have hov : ∀ {o o1 : VObj}, OV (ownR src) o o1 → OV σ o1 o := fun k => ov_inv (fun a s ha => by
    obtain ⟨h1, h2⟩ := ownR_some ha
    exact ⟨h2, by simp only [σ, place_of hn h1, Nat.zero_add]; rfl⟩) k
  refine ⟨h1, v, backs V src, σ, vI, ⟨rfl, ?_⟩, h2, hv σ (fun a i h => by simp only [σ, place_of hn h, Nat.zero_add]; rfl), ⟨fun j t h => by rw [(hσ j t h).2]; exact .inr ⟨rfl, rfl⟩, fun j t h => .inr ⟨by rw [(hσ j t h).2]; rfl, (hσ j t h).1⟩, fun i j t u hi hj _ _ e => ?_, fun i o hi => ?_, fun a o i hao ho hi => ?_⟩⟩
  · funext j
    unfold over
    cases hx : lkp (backs V src) j with
    | none => rfl
    | some x =>
      obtain ⟨a, o, g1, g2, _, rfl⟩ := lkp_backs hx
      exact g2.symm
  · have g1 := (hσ i t hi).1
    have g2 := (hσ j u hj).1
    rw [e, g2] at g1; cases g1; rfl
  · obtain ⟨a, o', g1, g2, g3, g4⟩ := lkp_backs hi
    cases g4
    have hlt : a < os.length := elist_len he ▸ (List.getElem?_eq_some_iff.1 g1).1
    obtain ⟨sr, p1, p2⟩ := elist_get he a os[a] (by simp [hlt])
    rw [g1] at p1; cases p1
    obtain ⟨o1, p3, p4⟩ := p2
    rw [g2] at p3; cases p3
    have hfx : os[a].fixed = false := p4.fixed ▸ g3
    have hst := stays_get h3 a os[a] i (by simp [hlt]) hfx g1
    rw [Nat.zero_add] at hst
    refine ⟨g3, ⟨a, none, 0⟩, by simp only [σ, place_of hn g1, Nat.zero_add]; rfl, .inr ⟨rfl, os[a], hst, .same (hov p4)⟩⟩
  · obtain ⟨sr, p1, p2⟩ := elist_get he a o hao
    rw [hi] at p1; cases p1
    obtain ⟨o1, p3, p4⟩ := p2
    exact lkp_backs_ne hi p3 (p4.fixed.trans ho)

end
end Go.Proofs.YtcjfidfealifhaaGreat.Vm
namespace Go.Proofs.YtcjfidfealifhaaGreat
open Go Vm IntWalk
set_option linter.unusedVariables false
set_option linter.unusedSimpArgs false
def usrP (u : Nat) (us : List UserV) (k : Int) : Value := match userAt us k with
  | none => .pointer none
  | some j => .pointer (some ⟨u, 0 + j * 9, none⟩)
theorem user_found {us : List UserV} {k : Int} {j : Nat} (h : userAt us k = some j) : j < us.length ∧ findI (fun a : UserV => a.user == k) us = j := by
  unfold userAt at h
  refine ⟨?_, by unfold findI; rw [h]⟩
  rw [List.findIdx?_eq_some_iff_getElem] at h
  exact h.1
set_option maxHeartbeats 4000000 in
theorem usr_tri {V : Heap} {n t c e u x a p : Nat} {cf : ConfV} {ev : EventV} {s : StV} (h : TurnAt V t c e u x a p cf ev s) (hb : s.users.length * 72 ≤ 140737488355328) (k : Int) :
    Tri Tryz.prog 55 [.pointer (some ⟨t, 1, none⟩), .int .i64 k] n 0 V (fun r L => r = usrP u s.users k ∧ L = []) := by
  obtain ⟨ht, hc, he, hu, hx, ha, hp, hn⟩ := h
  simp only [List.nodup_cons, List.mem_cons, List.not_mem_nil, or_false, not_or, List.nodup_nil, and_true, not_false_eq_true] at hn
  obtain ⟨⟨d1, d2, d3, d4, d5, d6⟩, ⟨e1, e2, e3, e4, e5⟩, ⟨f1, f2, f3, f4⟩, ⟨g1, g2, g3⟩, ⟨i1, i2⟩, j1⟩ := hn
  cases hf : userAt s.users k with
  | none =>
    have hr : usrP u s.users k = .pointer none := by unfold usrP; rw [hf]
    have hfi : findI (fun a : UserV => a.user == k) s.users = -1 := by unfold findI; unfold userAt at hf; rw [hf]
    have hd : decide (findI (fun a : UserV => a.user == k) s.users < 0) = true := by rw [hfi]; rfl
    rw [hr]
    refine readsp_of_vw (K := 7) (argsI := [.pointer (some ⟨0, 1, none⟩), .int .i64 k]) tab Tryz.func55 rfl rfl (by simp [Tryz.f55]) [.own t, .own c, .own e, .own u, .own x, .own a, .own p] [turnO 1 3 4 5 6 2 s, confO cf, evtO ev, .opn (userR.cells s.users) 76 9, .opn (sessR.cells s.sess) 78 4, .opn (addrR.cells s.addrs) 80 3, .opn ((intR .i64).cells s.spent) 3 1] rfl (.own ht (ov_turn rfl (rel_ptr rfl) (rel_slice rfl rfl) (rel_slice rfl rfl) (rel_slice rfl rfl) (rel_slice rfl rfl) (rel_ptr rfl)) (.own hc (ov_conf rfl) (.own he (ov_evt rfl) (.own hu (ov_opn userR rfl) (.own hx (ov_opn sessR rfl) (.own ha (ov_opn addrR rfl) (.own hp (ov_opn (intR .i64) rfl) .nil))))))) (by simp [ownNames, *]) (by simp [ownNames, lookNames, *]) (al_cons (.val (rel_ptr rfl)) (al_cons (.val (.int _ _)) al_nil)) (seen_of (sn_own (sn_own (sn_own (sn_own (sn_own (sn_own (sn_own sn_nil)))))))) (fun _ _ => .nilPtr) ?_
    refine wsq (wrg (vN tab rfl (vQ tab rfl (vnl (qth (wsq (wrg (vQ4 tab rfl rfl rfl rfl (vQ tab rfl (vR rfl callable_69 (indexfunc_users (caps := [.pointer (some ⟨7, 0, none⟩)]) [.pointer (some ⟨1, 0, none⟩)] (fun a : UserV => a.user == k) [7] [.cells [.int .i64 k] 3 (0, 0)] (looks_opn userR (xs := s.users) rfl rfl) (by omega) (.own rfl (ov_cells _ _ rfl) .nil) (by decide) (by simp [lookNames]) (lrel_cons (rel_ptr rfl) lrel_nil) callable_78 (fun _ _ h x _ => user1_tri x (h 0 _ rfl))) ?_))))))))))
    refine vQ tab rfl (vnl (qth (wsq (wsq (wrg (vQ2 tab rfl rfl (vnl (qth (vcd_true rfl (by simp only [hd, sl_]; first | done | omega) ?_)))))))))
    refine wsq (wrg (vQ tab rfl (vnl (qth (vw_ret (q_thenr ?_))))))
    exact ⟨⟨.inr rfl, rfl⟩, fun _ => rfl, fun _ => rfl, fun _ => rfl, fun _ => rfl, fun _ => rfl, fun _ => rfl, fun _ => rfl, trivial⟩
  | some j =>
    have hr : usrP u s.users k = .pointer (some ⟨u, 0 + j * 9, none⟩) := by unfold usrP; rw [hf]
    obtain ⟨hj, hfi⟩ := user_found hf
    have hd : decide (findI (fun a : UserV => a.user == k) s.users < 0) = false := decide_eq_false (by rw [hfi]; omega)
    rw [hr]
    refine readsp_of_vw (K := 7) (argsI := [.pointer (some ⟨0, 1, none⟩), .int .i64 k]) tab Tryz.func55 rfl rfl (by simp [Tryz.f55]) [.own t, .own c, .own e, .own u, .own x, .own a, .own p] [turnO 1 3 4 5 6 2 s, confO cf, evtO ev, .opn (userR.cells s.users) 76 9, .opn (sessR.cells s.sess) 78 4, .opn (addrR.cells s.addrs) 80 3, .opn ((intR .i64).cells s.spent) 3 1] rfl (.own ht (ov_turn rfl (rel_ptr rfl) (rel_slice rfl rfl) (rel_slice rfl rfl) (rel_slice rfl rfl) (rel_slice rfl rfl) (rel_ptr rfl)) (.own hc (ov_conf rfl) (.own he (ov_evt rfl) (.own hu (ov_opn userR rfl) (.own hx (ov_opn sessR rfl) (.own ha (ov_opn addrR rfl) (.own hp (ov_opn (intR .i64) rfl) .nil))))))) (by simp [ownNames, *]) (by simp [ownNames, lookNames, *]) (al_cons (.val (rel_ptr rfl)) (al_cons (.val (.int _ _)) al_nil)) (seen_of (sn_own (sn_own (sn_own (sn_own (sn_own (sn_own (sn_own sn_nil)))))))) (fun σ hσ => rel_ptr (j := 3) (off := 0 + j * 9) (hσ 3 _ rfl)) ?_
    refine wsq (wrg (vN tab rfl (vQ tab rfl (vnl (qth (wsq (wrg (vQ4 tab rfl rfl rfl rfl (vQ tab rfl (vR rfl callable_69 (indexfunc_users (caps := [.pointer (some ⟨7, 0, none⟩)]) [.pointer (some ⟨1, 0, none⟩)] (fun a : UserV => a.user == k) [7] [.cells [.int .i64 k] 3 (0, 0)] (looks_opn userR (xs := s.users) rfl rfl) (by omega) (.own rfl (ov_cells _ _ rfl) .nil) (by decide) (by simp [lookNames]) (lrel_cons (rel_ptr rfl) lrel_nil) callable_78 (fun _ _ h x _ => user1_tri x (h 0 _ rfl))) ?_))))))))))
    refine vQ tab rfl (vnl (qth (wsq (wsq (wrg (vQ2 tab rfl rfl (vnl (qth (vcd_false rfl (by simp only [hd, sl_]; first | done | omega) ?_)))))))))
    refine vw_skip (qth (wsq (wrg (vQ4 tab rfl rfl rfl rfl (vQ tab rfl (vq_op tab rfl rfl rfl (ev_index rfl rfl rfl rfl rfl (by omega) (by omega)) ?_))))))
    refine vQ tab rfl (vnl (qth (vw_ret ?_)))
    exact ⟨⟨.inr rfl, by rw [hfi]; rfl⟩, fun _ => rfl, fun _ => rfl, fun _ => rfl, fun _ => rfl, fun _ => rfl, fun _ => rfl, fun _ => rfl, trivial⟩
end Go.Proofs.YtcjfidfealifhaaGreat
namespace Go.Proofs.YtcjfidfealifhaaGreat
open Go Vm IntWalk
set_option linter.unusedVariables false
set_option linter.unusedSimpArgs false
def turnL (t c e u x a p n : Nat) (s : StV) : List (Nat × Option VObj) := (t, some (turnO c n (n + 1) (n + 2) (n + 3) e s)) :: (c, none) :: (e, none) :: (u, none) :: (x, none) :: (a, none) :: (p, none) :: stL n s
def turnN (t c e u x a p : Nat) : List (Nat × Option VObj) := [(t, none), (c, none), (e, none), (u, none), (x, none), (a, none), (p, none)]
section
variable {V : Heap} {n t c e u x a p : Nat} {cf : ConfV} {ev : EventV} {s : StV}
theorem rotate_tri (h : TurnAt V t c e u x a p cf ev s) (hi : ∀ i ∈ [t, c, e, u, x, a, p], i < n) :
    Tri Tryz.prog 52 [.pointer (some ⟨t, 1, none⟩)] n 4 V (fun r L => r = .bool true ∧ L = turnL t c e u x a p n { s with epoch := IntKind.i64.wrap (s.epoch + 1) }) := by
  obtain ⟨ht, hc, he, hu, hx, ha, hp, hn⟩ := h
  simp only [List.nodup_cons, List.mem_cons, List.not_mem_nil, or_false, not_or, List.nodup_nil, and_true, not_false_eq_true] at hn
  obtain ⟨⟨d1, d2, d3, d4, d5, d6⟩, ⟨e1, e2, e3, e4, e5⟩, ⟨f1, f2, f3, f4⟩, ⟨g1, g2, g3⟩, ⟨i1, i2⟩, j1⟩ := hn
  simp only [List.mem_cons, List.not_mem_nil, or_false, forall_eq_or_imp, forall_eq] at hi
  obtain ⟨l1, l2, l3, l4, l5, l6, l7⟩ := hi
  refine call_of_vw (K := 7) (argsI := [.pointer (some ⟨0, 1, none⟩)]) tab Tryz.func52 rfl rfl (by simp [Tryz.f52]) [.own t, .own c, .own e, .own u, .own x, .own a, .own p] [turnO 1 3 4 5 6 2 s, confO cf, evtO ev, .opn (userR.cells s.users) 76 9, .opn (sessR.cells s.sess) 78 4, .opn (addrR.cells s.addrs) 80 3, .opn ((intR .i64).cells s.spent) 3 1] rfl (.own ht (ov_turn rfl (rel_ptr rfl) (rel_slice rfl rfl) (rel_slice rfl rfl) (rel_slice rfl rfl) (rel_slice rfl rfl) (rel_ptr rfl)) (.own hc (ov_conf rfl) (.own he (ov_evt rfl) (.own hu (ov_opn userR rfl) (.own hx (ov_opn sessR rfl) (.own ha (ov_opn addrR rfl) (.own hp (ov_opn (intR .i64) rfl) .nil))))))) (by simp [ownNames, *]) (by simp [ownNames, lookNames, *]) (by simp [ownNames, *]) (al_cons (.val (rel_ptr rfl)) al_nil) (seen_of (sn_own (sn_own (sn_own (sn_own (sn_own (sn_own (sn_own sn_nil)))))))) ?_
  refine wsq (wrg (vQ tab rfl (vnl (qth (wsq (wrg (vQ4 tab rfl rfl rfl rfl (vQ3 tab rfl rfl rfl (vS tab rfl (vnl (qth (wsq (wrg (vQ tab rfl (vnl (qth (vw_ret ?_)))))))))))))))))
  exact out_mk [3, 4, 5, 6] (.inr rfl) ⟨rfl, rfl⟩ rfl (.bool _)
    (op_cons (sigma_own (a := 0) (by simp [ownNames, *]) rfl) rfl rfl (ov_turn rfl (rel_ptr (sigma_own (a := 1) (by simp [ownNames, *]) rfl)) (rel_slice (sigma_at (i := 0) (by simp [ownNames, *]) rfl) rfl) (rel_slice (sigma_at (i := 1) (by simp [ownNames, *]) rfl) rfl) (rel_slice (sigma_at (i := 2) (by simp [ownNames, *]) rfl) rfl) (rel_slice (sigma_at (i := 3) (by simp [ownNames, *]) rfl) rfl) (rel_ptr (sigma_own (a := 2) (by simp [ownNames, *]) rfl))) rfl
      (op_drop (op_drop (op_drop (op_drop (op_drop (op_drop
        (op_cons (sigma_at (i := 0) (by simp [ownNames, *]) rfl) rfl rfl (ov_opn userR rfl) rfl (op_cons (sigma_at (i := 1) (by simp [ownNames, *]) rfl) rfl rfl (ov_opn sessR rfl) rfl (op_cons (sigma_at (i := 2) (by simp [ownNames, *]) rfl) rfl rfl (ov_opn addrR rfl) rfl (op_cons (sigma_at (i := 3) (by simp [ownNames, *]) rfl) rfl rfl (ov_opn (intR .i64) rfl) rfl op_nil)))))))))))
    (told_of (by simp [ownNames, turnL]))
end
end Go.Proofs.YtcjfidfealifhaaGreat
namespace Go.Proofs.YtcjfidfealifhaaGreat
open Go Vm IntWalk
set_option linter.unusedVariables false
set_option linter.unusedSimpArgs false
set_option maxHeartbeats 4000000
theorem ov_turn2 {σ : Ren} {c u x a p e c' u' x' a' p' e' m0 m1 m2 m3 k0 k1 k2 k3 : Nat} {b1 b2 b3 : Int} (hc : VRel σ (.pointer (some ⟨c, 0, none⟩)) (.pointer (some ⟨c', 0, none⟩))) (hu : VRel σ (.slice (some ⟨u, 0, none⟩) m0 0) (.slice (some ⟨u', 0, none⟩) k0 0)) (hx : VRel σ (.slice (some ⟨x, 0, none⟩) m1 0) (.slice (some ⟨x', 0, none⟩) k1 0)) (ha : VRel σ (.slice (some ⟨a, 0, none⟩) m2 0) (.slice (some ⟨a', 0, none⟩) k2 0)) (hp : VRel σ (.slice (some ⟨p, 0, none⟩) m3 0) (.slice (some ⟨p', 0, none⟩) k3 0)) (he : VRel σ (.pointer (some ⟨e, 0, none⟩)) (.pointer (some ⟨e', 0, none⟩))) :
    OV σ (.cells [.pointer (some ⟨c, 0, none⟩), .int .i64 b1, .int .i64 b2, .int .i64 b3, .slice (some ⟨u, 0, none⟩) m0 0, .slice (some ⟨x, 0, none⟩) m1 0, .slice (some ⟨a, 0, none⟩) m2 0, .slice (some ⟨p, 0, none⟩) m3 0, .pointer (some ⟨e, 0, none⟩)] 64 (0, 0))
      (.cells [.pointer (some ⟨c', 0, none⟩), .int .i64 b1, .int .i64 b2, .int .i64 b3, .slice (some ⟨u', 0, none⟩) k0 0, .slice (some ⟨x', 0, none⟩) k1 0, .slice (some ⟨a', 0, none⟩) k2 0, .slice (some ⟨p', 0, none⟩) k3 0, .pointer (some ⟨e', 0, none⟩)] 64 (0, 0)) :=
  .cells _ _ (lrel_cons hc (lrel_cons (.int _ _) (lrel_cons (.int _ _) (lrel_cons (.int _ _) (lrel_cons hu (lrel_cons hx (lrel_cons ha (lrel_cons hp (lrel_cons he lrel_nil)))))))))
theorem index_ints {V : Heap} {n : Nat} {sv : Value} {xs : List Int} (v : Int) (hl : Looks V 1 sv ((intR .i64).cells xs) xs.length) (hx : xs.length ≤ 140737488355328) :
    Tri Tryz.prog 93 [sv, .int .i64 v] n 0 V (fun u L => u = .int .i64 (findI (v == ·) xs) ∧ L = []) := by
  refine reads_of_vw (K := 1) (argsI := [.slice (some ⟨0, 0, none⟩) xs.length 0, .int .i64 v]) tab Tryz.func93 rfl rfl (by simp [Tryz.f93]) [.look sv xs.length 1] [.win ((intR .i64).cells xs) 1] rfl (.look hl ((intR .i64).flat_cells xs) .nil) (by simp [ownNames]) (by simp [ownNames, lookNames]) (al_cons (.look (a := 0) rfl) (al_cons (.val (.int _ _)) al_nil)) (seen_of (sn_look (seen_top (j := 0) rfl) sn_nil)) (.int _ _) ?_
  refine wsq (wrg (vQ tab rfl (vnl (qth (wsq (wsq (wrg (vQ3 tab rfl rfl rfl (vnl (qth (wbk ?_)))))))))))
  refine vw_loop_env (fun k env => ∃ j : Int, 0 ≤ j ∧ j ≤ xs.length ∧ (xs.take j.toNat).any (v == ·) = false ∧ k = (xs.length - j).toNat ∧
      env = [(0, .slice (some ⟨0, 0, none⟩) xs.length 0), (1, .int .i64 v), (7, .int .i64 xs.length), (8, .int .i64 j)]) (xs.length - 0)
    ⟨_, se_cons rfl (se_cons rfl (se_cons rfl (se_cons rfl se_nil))), 0, by omega, by omega, by simp, by simp, rfl⟩ ?_
  rintro k env ⟨j, h0, h1, ht, rfl, rfl⟩
  by_cases hj : j < (xs.length : Int)
  case neg =>
    rw [show j.toNat = xs.length by omega, List.take_length] at ht
    refine wsq (wrg (vQ tab rfl (vnl (qth (wsq (vcd_false rfl (by simp only [sl_]; first | done | omega) ?_))))))
    refine vw_exit (q_thenx (q_thenx (q_here (qth (wsq (wrg (vQ tab rfl (vnl (qth (vw_ret ?_))))))))))
    exact ⟨⟨.inr rfl, by rw [findI_none ht]; rfl⟩, trivial⟩
  obtain ⟨a, hxa⟩ := get_some h0 hj
  have hi : IntKind.i64.wrap (j + 1) = j + 1 := i64_in _ (by omega)
  have hjn : (j + 1).toNat = j.toNat + 1 := by omega
  cases hp : (v == a) with
  | true =>
    refine wsq (wrg (vQ tab rfl (vnl (qth (wsq (vcd_true rfl (by simp only [hi, hp, sl_]; first | done | omega) ?_))))))
    refine vw_skip (qth (wsq (wbk (wsq (wrg (vQ2 tab rfl rfl (vnl (qth (wsq (wrg (vQ3 tab rfl rfl rfl (vq_op tab rfl rfl rfl (ev_index rfl rfl rfl rfl rfl (by omega) (by omega)) ?_))))))))))))
    refine vq_op tab rfl rfl rfl (ev_val (intR .i64) rfl rfl rfl rfl rfl hxa rfl) (vQ tab rfl (vnl (qth (vcd_true rfl (by simp only [hi, hp, sl_]; first | done | omega) ?_))))
    refine wsq (wrg (vQ2 tab rfl rfl (vnl (qth (vw_ret (q_ret (q_thenr (q_thenr (q_ret (q_thenr ?_))))))))))
    exact ⟨⟨.inr rfl, by rw [findI_some hxa hp ht]; exact congrArg (fun j => some (Value.int .i64 j)) (by omega)⟩, trivial⟩
  | false =>
    refine wsq (wrg (vQ tab rfl (vnl (qth (wsq (vcd_true rfl (by simp only [hi, hp, sl_]; first | done | omega) ?_))))))
    refine vw_skip (qth (wsq (wbk (wsq (wrg (vQ2 tab rfl rfl (vnl (qth (wsq (wrg (vQ3 tab rfl rfl rfl (vq_op tab rfl rfl rfl (ev_index rfl rfl rfl rfl rfl (by omega) (by omega)) ?_))))))))))))
    refine vq_op tab rfl rfl rfl (ev_val (intR .i64) rfl rfl rfl rfl rfl hxa rfl) (vQ tab rfl (vnl (qth (vcd_false rfl (by simp only [hi, hp, sl_]; first | done | omega) ?_))))
    refine vw_skip (q_norm (qth (wrg (vQ2 tab rfl rfl (vnl (qth ?_))))))
    exact ⟨rfl, rfl, (xs.length - (j + 1)).toNat, _, by omega, se_cons rfl (se_cons rfl (se_cons rfl (se_cons (se_int rfl hi) se_nil))), j + 1, by omega, by omega, by rw [hjn]; exact any_take hxa hp ht, rfl, rfl⟩
theorem contains_ints {V : Heap} {n : Nat} {sv : Value} {xs : List Int} (v : Int) (hl : Looks V 1 sv ((intR .i64).cells xs) xs.length) (hx : xs.length ≤ 140737488355328) :
    Tri Tryz.prog 76 [sv, .int .i64 v] n 0 V (fun u L => u = .bool (xs.contains v) ∧ L = []) := by
  refine reads_of_vw (K := 1) (argsI := [.slice (some ⟨0, 0, none⟩) xs.length 0, .int .i64 v]) tab Tryz.func76 rfl rfl (by simp [Tryz.f76]) [.look sv xs.length 1] [.win ((intR .i64).cells xs) 1] rfl (.look hl ((intR .i64).flat_cells xs) .nil) (by simp [ownNames]) (by simp [ownNames, lookNames]) (al_cons (.look (a := 0) rfl) (al_cons (.val (.int _ _)) al_nil)) (seen_of (sn_look (seen_top (j := 0) rfl) sn_nil)) (.bool _) ?_
  refine wsq (wrg (vQ tab rfl (vnl (qth (wsq (wrg (vQ2 tab rfl rfl (vR rfl callable_93 (index_ints v (looks_win (intR .i64) rfl rfl) hx) (vQ2 tab rfl rfl (vnl (qth (vw_ret ?_))))))))))))
  exact ⟨⟨.inr rfl, Eq.trans (b := some (.bool (decide (0 ≤ findI (v == ·) xs)))) rfl (congrArg (fun b => some (Value.bool b)) (by rw [findI_any, List.contains_eq_any_beq]))⟩, trivial⟩
section
variable {V : Heap} {n t c e u x a p : Nat} {cf : ConfV} {ev : EventV} {s : StV}
theorem spend_no (h : TurnAt V t c e u x a p cf ev s) (hi : ∀ i ∈ [t, c, e, u, x, a, p], i < n) (hb : s.spent.length * 8 ≤ 140737488355000) (hk : s.spent.contains ev.session = true) :
    Tri Tryz.prog 53 [.pointer (some ⟨t, 0, none⟩)] n 0 V (fun r L => r = .bool false ∧ L = turnN t c e u x a p) := by
  obtain ⟨ht, hc, he, hu, hx, ha, hp, hn⟩ := h
  simp only [List.nodup_cons, List.mem_cons, List.not_mem_nil, or_false, not_or, List.nodup_nil, and_true, not_false_eq_true] at hn
  obtain ⟨⟨d1, d2, d3, d4, d5, d6⟩, ⟨e1, e2, e3, e4, e5⟩, ⟨f1, f2, f3, f4⟩, ⟨g1, g2, g3⟩, ⟨i1, i2⟩, j1⟩ := hn
  simp only [List.mem_cons, List.not_mem_nil, or_false, forall_eq_or_imp, forall_eq] at hi
  obtain ⟨l1, l2, l3, l4, l5, l6, l7⟩ := hi
  refine call_of_vw (K := 7) (argsI := [.pointer (some ⟨0, 0, none⟩)]) tab Tryz.func53 rfl rfl (by simp [Tryz.f53]) [.own t, .own c, .own e, .own u, .own x, .own a, .own p] [turnO 1 3 4 5 6 2 s, confO cf, evtO ev, .opn (userR.cells s.users) 76 9, .opn (sessR.cells s.sess) 78 4, .opn (addrR.cells s.addrs) 80 3, .opn ((intR .i64).cells s.spent) 3 1] rfl (.own ht (ov_turn rfl (rel_ptr rfl) (rel_slice rfl rfl) (rel_slice rfl rfl) (rel_slice rfl rfl) (rel_slice rfl rfl) (rel_ptr rfl)) (.own hc (ov_conf rfl) (.own he (ov_evt rfl) (.own hu (ov_opn userR rfl) (.own hx (ov_opn sessR rfl) (.own ha (ov_opn addrR rfl) (.own hp (ov_opn (intR .i64) rfl) .nil))))))) (by simp [ownNames, *]) (by simp [ownNames, lookNames, *]) (by simp [ownNames, *]) (al_cons (.val (rel_ptr rfl)) al_nil) (seen_of (sn_own (sn_own (sn_own (sn_own (sn_own (sn_own (sn_own sn_nil)))))))) ?_
  refine wsq (wrg (vQ tab rfl (vnl (qth (wsq (wsq (vw_draw mixed (dq_op tab rfl rfl rfl rfl (dq_op tab rfl rfl rfl rfl (dq_op tab rfl rfl rfl rfl (dq_op tab rfl rfl rfl rfl (dq_op tab rfl rfl rfl rfl (dq_op tab rfl rfl rfl rfl (dq_op tab rfl rfl rfl rfl (dq_op tab rfl rfl rfl rfl (dq_op tab rfl rfl rfl rfl (dq_op tab rfl rfl rfl rfl (dq_op tab rfl rfl rfl rfl (dq_op tab rfl rfl rfl rfl (dr_op rfl rfl rfl rfl rfl callable_76 (contains_ints ev.session (looks_opn (intR .i64) (xs := s.spent) rfl rfl) (by omega)) ?_))))))))))))))))))))
  refine vd_nil (by kernel_rfl) ?_
  refine qth (vcd_true rfl (by simp only [hk, sl_]; first | done | omega) ?_)
  refine wsq (wrg (vQ tab rfl (vnl (qth (vw_ret (q_thenr ?_))))))
  exact out_mk [] (.inr rfl) ⟨rfl, rfl⟩ rfl (.bool _) (op_drop (op_drop (op_drop (op_drop (op_drop (op_drop (op_drop op_nil))))))) (told_of (by simp [ownNames, turnN]))
theorem spend_ok (h : TurnAt V t c e u x a p cf ev s) (hi : ∀ i ∈ [t, c, e, u, x, a, p], i < n) (hb : s.spent.length * 8 ≤ 140737488355000) (hk : s.spent.contains ev.session = false) :
    Tri Tryz.prog 53 [.pointer (some ⟨t, 0, none⟩)] n 4 V (fun r L => r = .bool true ∧ L = turnL t c e u x a p n { s with spent := s.spent ++ [ev.session] }) := by
  obtain ⟨ht, hc, he, hu, hx, ha, hp, hn⟩ := h
  simp only [List.nodup_cons, List.mem_cons, List.not_mem_nil, or_false, not_or, List.nodup_nil, and_true, not_false_eq_true] at hn
  obtain ⟨⟨d1, d2, d3, d4, d5, d6⟩, ⟨e1, e2, e3, e4, e5⟩, ⟨f1, f2, f3, f4⟩, ⟨g1, g2, g3⟩, ⟨i1, i2⟩, j1⟩ := hn
  simp only [List.mem_cons, List.not_mem_nil, or_false, forall_eq_or_imp, forall_eq] at hi
  obtain ⟨l1, l2, l3, l4, l5, l6, l7⟩ := hi
  refine call_of_vw (K := 7) (argsI := [.pointer (some ⟨0, 0, none⟩)]) tab Tryz.func53 rfl rfl (by simp [Tryz.f53]) [.own t, .own c, .own e, .own u, .own x, .own a, .own p] [turnO 1 3 4 5 6 2 s, confO cf, evtO ev, .opn (userR.cells s.users) 76 9, .opn (sessR.cells s.sess) 78 4, .opn (addrR.cells s.addrs) 80 3, .opn ((intR .i64).cells s.spent) 3 1] rfl (.own ht (ov_turn rfl (rel_ptr rfl) (rel_slice rfl rfl) (rel_slice rfl rfl) (rel_slice rfl rfl) (rel_slice rfl rfl) (rel_ptr rfl)) (.own hc (ov_conf rfl) (.own he (ov_evt rfl) (.own hu (ov_opn userR rfl) (.own hx (ov_opn sessR rfl) (.own ha (ov_opn addrR rfl) (.own hp (ov_opn (intR .i64) rfl) .nil))))))) (by simp [ownNames, *]) (by simp [ownNames, lookNames, *]) (by simp [ownNames, *]) (al_cons (.val (rel_ptr rfl)) al_nil) (seen_of (sn_own (sn_own (sn_own (sn_own (sn_own (sn_own (sn_own sn_nil)))))))) ?_
  refine wsq (wrg (vQ tab rfl (vnl (qth (wsq (wsq (vw_draw mixed (dq_op tab rfl rfl rfl rfl (dq_op tab rfl rfl rfl rfl (dq_op tab rfl rfl rfl rfl (dq_op tab rfl rfl rfl rfl (dq_op tab rfl rfl rfl rfl (dq_op tab rfl rfl rfl rfl (dq_op tab rfl rfl rfl rfl (dq_op tab rfl rfl rfl rfl (dq_op tab rfl rfl rfl rfl (dq_op tab rfl rfl rfl rfl (dq_op tab rfl rfl rfl rfl (dq_op tab rfl rfl rfl rfl (dr_op rfl rfl rfl rfl rfl callable_76 (contains_ints ev.session (looks_opn (intR .i64) (xs := s.spent) rfl rfl) (by omega)) ?_))))))))))))))))))))
  refine vd_nil (by kernel_rfl) ?_
  refine qth (vcd_false rfl (by simp only [hk, sl_]; first | done | omega) ?_)
  refine vw_skip (qth (wsq (vw_draw mixed (dq_op tab rfl rfl rfl rfl (dq_op tab rfl rfl rfl rfl (dq_op tab rfl rfl rfl rfl (dq_op tab rfl rfl rfl rfl (dq_op tab rfl rfl rfl rfl (dq_op tab rfl rfl rfl rfl (dq_op tab rfl rfl rfl rfl (dq_op tab rfl rfl rfl rfl (dq_op tab rfl rfl rfl rfl (dq_op tab rfl rfl rfl rfl (dq_op tab rfl rfl rfl rfl (dq_op tab rfl rfl rfl rfl (dq_op tab rfl rfl rfl rfl (dn_op tab rfl rfl rfl rfl (do_op [6, 7] rfl rfl (opr_ev tab (ev_app (intR .i64) (xs := s.spent) (ys := [ev.session]) (m := 1) rfl rfl rfl rfl rfl rfl rfl rfl rfl (by show (_ + 1) * 8 ≤ _; omega) (by omega))) ?_))))))))))))))))))
  refine dq_op tab rfl rfl rfl rfl (dq_op tab rfl rfl rfl rfl (dq_op tab rfl rfl rfl rfl (ds_op tab rfl rfl rfl rfl (vd_nil (by kernel_rfl) ?_))))
  refine qth (wsq (wrg (vQ tab rfl (vnl (qth (vw_ret ?_))))))
  exact out_mk [3, 4, 5, 8] (.inr rfl) ⟨rfl, rfl⟩ rfl (.bool _)
    (op_cons (sigma_own (a := 0) (by simp [ownNames, *]) rfl) rfl rfl (ov_turn2 (rel_ptr (sigma_own (a := 1) (by simp [ownNames, *]) rfl)) (rel_slice (sigma_at (i := 0) (by simp [ownNames, *]) rfl) rfl) (rel_slice (sigma_at (i := 1) (by simp [ownNames, *]) rfl) rfl) (rel_slice (sigma_at (i := 2) (by simp [ownNames, *]) rfl) rfl) (rel_slice (sigma_at (i := 3) (by simp [ownNames, *]) rfl) (by simp)) (rel_ptr (sigma_own (a := 2) (by simp [ownNames, *]) rfl))) rfl
      (op_drop (op_drop (op_drop (op_drop (op_drop (op_drop
        (op_cons (sigma_at (i := 0) (by simp [ownNames, *]) rfl) rfl rfl (ov_opn userR rfl) rfl (op_cons (sigma_at (i := 1) (by simp [ownNames, *]) rfl) rfl rfl (ov_opn sessR rfl) rfl (op_cons (sigma_at (i := 2) (by simp [ownNames, *]) rfl) rfl rfl (ov_opn addrR rfl) rfl (op_cons (sigma_at (i := 3) (by simp [ownNames, *]) rfl) rfl rfl (ov_opn (intR .i64) rfl) rfl op_nil)))))))))))
    (told_of (by simp [ownNames, turnL]))
end
end Go.Proofs.YtcjfidfealifhaaGreat
namespace Go.Proofs.YtcjfidfealifhaaGreat
open Go Vm IntWalk
set_option linter.unusedVariables false
set_option linter.unusedSimpArgs false
set_option maxHeartbeats 8000000
theorem ptake_as {V : Heap} {n : Nat} {sv : Value} {xs : List AddrV} {i b : Int} (r : List AddrV × Int) (hr : takeA xs i b = r) (hl : Looks V 3 sv (addrR.cells xs) xs.length) (hb : xs.length * 24 ≤ 140737488355328) :
    Tri Tryz.prog 72 [sv, .int .i64 i, .int .i64 b] n 1 V (fun u L => u = .tuple #[.slice (some ⟨n, 0, none⟩) r.1.length 0, .int .i64 r.2] ∧ L = [(n, some (.opn (addrR.cells r.1) 80 3))]) := by subst hr; exact ptake_tri i b hl hb
section
variable {V : Heap} {n t c e u x a p : Nat} {cf : ConfV} {ev : EventV} {s : StV}
theorem usr_no {k : Int} (hr : userAt s.users k = none) (h : TurnAt V t c e u x a p cf ev s) (hb : s.users.length * 72 ≤ 140737488355328) :
    Tri Tryz.prog 55 [.pointer (some ⟨t, 1, none⟩), .int .i64 k] n 0 V (fun v L => v = .pointer none ∧ L = []) := by
  have := usr_tri (n := n) h hb k; unfold usrP at this; rw [hr] at this; exact this
theorem usr_ok {k : Int} {j : Nat} (hr : userAt s.users k = some j) (h : TurnAt V t c e u x a p cf ev s) (hb : s.users.length * 72 ≤ 140737488355328) :
    Tri Tryz.prog 55 [.pointer (some ⟨t, 1, none⟩), .int .i64 k] n 0 V (fun v L => v = .pointer (some ⟨u, 0 + j * 9, none⟩) ∧ L = []) := by
  have := usr_tri (n := n) h hb k; unfold usrP at this; rw [hr] at this; exact this
theorem lease_ok {j : Nat} (h : TurnAt V t c e u x a p cf ev s) (hi : ∀ i ∈ [t, c, e, u, x, a, p], i < n) (hb : s.users.length * 72 ≤ 140737488355328) (hb2 : s.sess.length * 32 ≤ 140737488355000) (hb3 : s.addrs.length * 24 ≤ 140737488355328)
    (hk : takeC s.addrs ev.address ev.user = true) (h1 : ev.session = s.next) (hf : userAt s.users ev.user = some j) (h3 : (s.sess.length : Int) < cf.sessions) :
    Tri Tryz.prog 50 [.pointer (some ⟨t, 0, none⟩)] n 4 V (fun r L => r = .bool true ∧ L = turnL t c e u x a p n { s with addrs := (takeA s.addrs ev.address ev.user).1, sess := s.sess ++ [⟨ev.session, ev.user, ev.address, ev.tick⟩], next := IntKind.i64.wrap (s.next + 1) }) := by
  obtain ⟨ht, hc, he, hu, hx, ha, hp, hn⟩ := h
  simp only [List.nodup_cons, List.mem_cons, List.not_mem_nil, or_false, not_or, List.nodup_nil, and_true, not_false_eq_true] at hn
  obtain ⟨⟨d1, d2, d3, d4, d5, d6⟩, ⟨e1, e2, e3, e4, e5⟩, ⟨f1, f2, f3, f4⟩, ⟨g1, g2, g3⟩, ⟨i1, i2⟩, j1⟩ := hn
  simp only [List.mem_cons, List.not_mem_nil, or_false, forall_eq_or_imp, forall_eq] at hi
  obtain ⟨l1, l2, l3, l4, l5, l6, l7⟩ := hi
  refine call_of_vw (K := 7) (argsI := [.pointer (some ⟨0, 0, none⟩)]) tab Tryz.func50 rfl rfl (by simp [Tryz.f50]) [.own t, .own c, .own e, .own u, .own x, .own a, .own p] [turnO 1 3 4 5 6 2 s, confO cf, evtO ev, .opn (userR.cells s.users) 76 9, .opn (sessR.cells s.sess) 78 4, .opn (addrR.cells s.addrs) 80 3, .opn ((intR .i64).cells s.spent) 3 1] rfl (.own ht (ov_turn rfl (rel_ptr rfl) (rel_slice rfl rfl) (rel_slice rfl rfl) (rel_slice rfl rfl) (rel_slice rfl rfl) (rel_ptr rfl)) (.own hc (ov_conf rfl) (.own he (ov_evt rfl) (.own hu (ov_opn userR rfl) (.own hx (ov_opn sessR rfl) (.own ha (ov_opn addrR rfl) (.own hp (ov_opn (intR .i64) rfl) .nil))))))) (by simp [ownNames, *]) (by simp [ownNames, lookNames, *]) (by simp [ownNames, *]) (al_cons (.val (rel_ptr rfl)) al_nil) (seen_of (sn_own (sn_own (sn_own (sn_own (sn_own (sn_own (sn_own sn_nil)))))))) ?_
  have e1 := takeA_ok hk
  rw [e1]
  have c1 : (ev.session != s.next) = false := by rw [h1]; simp
  have c2 : decide (cf.sessions ≤ (s.sess.length : Int)) = false := decide_eq_false (by omega)
  refine wsq (wrg (vQ tab rfl (vnl (qth (wsq (vw_draw mixed (dq_op tab rfl rfl rfl rfl (dq_op tab rfl rfl rfl rfl (dq_op tab rfl rfl rfl rfl (dq_op tab rfl rfl rfl rfl (dq_op tab rfl rfl rfl rfl (dq_op tab rfl rfl rfl rfl (dq_op tab rfl rfl rfl rfl (dq_op tab rfl rfl rfl rfl (dq_op tab rfl rfl rfl rfl (dq_op tab rfl rfl rfl rfl (dq_op tab rfl rfl rfl rfl (dq_op tab rfl rfl rfl rfl (dq_op tab rfl rfl rfl rfl (dq_op tab rfl rfl rfl rfl (dq_op tab rfl rfl rfl rfl (dq_op tab rfl rfl rfl rfl (dq_op tab rfl rfl rfl rfl ?_)))))))))))))))))))))))
  refine dq_op tab rfl rfl rfl rfl (dq_op tab rfl rfl rfl rfl (dt_op [5] rfl rfl rfl rfl rfl callable_72 (ptake_as _ e1 (looks_opn addrR (xs := s.addrs) rfl rfl) hb3) (dq_op tab rfl rfl rfl rfl (dq_op tab rfl rfl rfl rfl (dq_op tab rfl rfl rfl rfl (dq_op tab rfl rfl rfl rfl (dq_op tab rfl rfl rfl rfl (vd_nil (by kernel_rfl) ?_))))))))
  refine qth (wsq (wsq (vw_draw mixed (dq_op tab rfl rfl rfl rfl (dq_op tab rfl rfl rfl rfl (dq_op tab rfl rfl rfl rfl (dq_op tab rfl rfl rfl rfl (dq_op tab rfl rfl rfl rfl (dq_op tab rfl rfl rfl rfl (dq_op tab rfl rfl rfl rfl (dq_op tab rfl rfl rfl rfl (dq_op tab rfl rfl rfl rfl (dq_op tab rfl rfl rfl rfl (dq_op tab rfl rfl rfl rfl (dq_op tab rfl rfl rfl rfl (dq_op tab rfl rfl rfl rfl (dq_op tab rfl rfl rfl rfl (dgd_op false rfl rfl rfl (by simp only [c1, c2, sl_]; first | done | omega) ?_))))))))))))))))))
  refine dq_op tab ⟨_, _, rfl, rfl, rfl⟩ rfl rfl rfl (dq_op tab ⟨_, _, rfl, rfl, rfl⟩ rfl rfl rfl (dq_op tab ⟨_, _, rfl, rfl, rfl⟩ rfl rfl rfl (dq_op tab ⟨_, _, rfl, rfl, rfl⟩ rfl rfl rfl (dq_op tab ⟨_, _, rfl, rfl, rfl⟩ rfl rfl rfl (dq_op tab ⟨_, _, rfl, rfl, rfl⟩ rfl rfl rfl (dq_op tab ⟨_, _, rfl, rfl, rfl⟩ rfl rfl rfl (dq_op tab ⟨_, _, rfl, rfl, rfl⟩ rfl rfl rfl (dq_op tab ⟨_, _, rfl, rfl, rfl⟩ rfl rfl rfl (dq_op tab ⟨_, _, rfl, rfl, rfl⟩ rfl rfl rfl (dt_op [0, 1, 2, 3, 4, 5, 6] ⟨_, _, rfl, rfl, rfl⟩ rfl rfl rfl rfl callable_55 (usr_ok (s := s) (cf := cf) (ev := ev) hf ⟨rfl, rfl, rfl, rfl, rfl, rfl, rfl, by decide⟩ hb) (dq_op tab ⟨_, _, rfl, rfl, rfl⟩ rfl rfl rfl (dq_op tab rfl rfl rfl rfl (dq_op tab rfl rfl rfl rfl (dq_op tab ⟨_, _, rfl, rfl, rfl⟩ rfl rfl rfl (dq_op tab ⟨_, _, rfl, rfl, rfl⟩ rfl rfl rfl (dq_op tab rfl rfl rfl rfl (dq_op tab rfl rfl rfl rfl (dq_op tab ⟨_, _, rfl, rfl, rfl⟩ rfl rfl rfl (dq_op tab ⟨_, _, rfl, rfl, rfl⟩ rfl rfl rfl (dq_op tab ⟨_, _, rfl, rfl, rfl⟩ rfl rfl rfl (dq_op tab ⟨_, _, rfl, rfl, rfl⟩ rfl rfl rfl (dq_op tab ⟨_, _, rfl, rfl, rfl⟩ rfl rfl rfl (dq_op tab ⟨_, _, rfl, rfl, rfl⟩ rfl rfl rfl ?_)))))))))))))))))))))))
  refine dq_op tab ⟨_, _, rfl, rfl, rfl⟩ rfl rfl rfl (dq_op tab ⟨_, _, rfl, rfl, rfl⟩ rfl rfl rfl (dq_op tab ⟨_, _, rfl, rfl, rfl⟩ rfl rfl rfl (dq_op tab ⟨_, _, rfl, rfl, rfl⟩ rfl rfl rfl (dq_op tab ⟨_, _, rfl, rfl, rfl⟩ rfl rfl rfl (dq_op tab ⟨_, _, rfl, rfl, rfl⟩ rfl rfl rfl (dq_op tab ⟨_, _, rfl, rfl, rfl⟩ rfl rfl rfl (dq_op tab ⟨_, _, rfl, rfl, rfl⟩ rfl rfl rfl (dq_op tab rfl rfl rfl rfl (vd_nil (by kernel_rfl) ?_)))))))))
  refine qth (vcd_false rfl (by simp only [c1, c2, sl_]; first | done | omega) ?_)
  refine vw_skip (qth (wsq (wrg (vQ4 tab rfl rfl rfl rfl (vQ tab rfl (vS tab rfl (vnl (qth (wsq (vw_draw mixed (dq_op tab rfl rfl rfl rfl (dq_op tab rfl rfl rfl rfl (dq_op tab rfl rfl rfl rfl (dq_op tab rfl rfl rfl rfl (dq_op tab rfl rfl rfl rfl (dq_op tab rfl rfl rfl rfl (dq_op tab rfl rfl rfl rfl (dq_op tab rfl rfl rfl rfl (dq_op tab rfl rfl rfl rfl (dq_op tab rfl rfl rfl rfl ?_))))))))))))))))))))
  refine dq_op tab rfl rfl rfl rfl (dq_op tab rfl rfl rfl rfl (dq_op tab rfl rfl rfl rfl (dq_op tab rfl rfl rfl rfl (dq_op tab rfl rfl rfl rfl (dq_op tab rfl rfl rfl rfl (dq_op tab rfl rfl rfl rfl (dq_op tab rfl rfl rfl rfl (dq_op tab rfl rfl rfl rfl (dq_op tab rfl rfl rfl rfl (dq_op tab rfl rfl rfl rfl (dq_op tab rfl rfl rfl rfl (dq_op tab rfl rfl rfl rfl (dq_op tab rfl rfl rfl rfl (dq_op tab rfl rfl rfl rfl (dq_op tab rfl rfl rfl rfl (dq_op tab rfl rfl rfl rfl (dq_op tab rfl rfl rfl rfl (dq_op tab rfl rfl rfl rfl (dq_op tab rfl rfl rfl rfl (dq_op tab rfl rfl rfl rfl (dq_op tab rfl rfl rfl rfl (dq_op tab rfl rfl rfl rfl (dq_op tab rfl rfl rfl rfl ?_)))))))))))))))))))))))
  refine dq_op tab rfl rfl rfl rfl (dn_op tab rfl rfl rfl rfl (do_op [4, 8] rfl rfl (opr_ev tab (ev_app sessR (xs := s.sess) (ys := [⟨ev.session, ev.user, ev.address, ev.tick⟩]) (m := 1) rfl rfl rfl rfl rfl rfl rfl rfl rfl (by show (_ + 1) * 32 ≤ _; omega) (by omega))) ?_))
  refine dq_op tab rfl rfl rfl rfl (dq_op tab rfl rfl rfl rfl (dq_op tab rfl rfl rfl rfl (ds_op tab rfl rfl rfl rfl (vd_nil (by kernel_rfl) ?_))))
  refine qth (wsq (wrg (vQ4 tab rfl rfl rfl rfl (vQ4 tab rfl rfl rfl rfl (vQ tab rfl (vS tab rfl (vnl (qth (wsq (wrg (vQ tab rfl (vnl (qth (vw_ret ?_))))))))))))))
  exact out_mk [3, 9, 7, 6] (.inr rfl) ⟨rfl, rfl⟩ rfl (.bool _)
    (op_cons (sigma_own (a := 0) (by simp [ownNames, *]) rfl) rfl rfl (ov_turn2 (rel_ptr (sigma_own (a := 1) (by simp [ownNames, *]) rfl)) (rel_slice (sigma_at (i := 0) (by simp [ownNames, *]) rfl) rfl) (rel_slice (sigma_at (i := 1) (by simp [ownNames, *]) rfl) (by simp)) (rel_slice (sigma_at (i := 2) (by simp [ownNames, *]) rfl) (by simp)) (rel_slice (sigma_at (i := 3) (by simp [ownNames, *]) rfl) rfl) (rel_ptr (sigma_own (a := 2) (by simp [ownNames, *]) rfl))) rfl
      (op_drop (op_drop (op_drop (op_drop (op_drop (op_drop
        (op_cons (sigma_at (i := 0) (by simp [ownNames, *]) rfl) rfl rfl (ov_opn userR rfl) rfl (op_cons (sigma_at (i := 1) (by simp [ownNames, *]) rfl) rfl rfl (ov_opn sessR rfl) rfl (op_cons (sigma_at (i := 2) (by simp [ownNames, *]) rfl) rfl rfl (ov_opn addrR rfl) rfl (op_cons (sigma_at (i := 3) (by simp [ownNames, *]) rfl) rfl rfl (ov_opn (intR .i64) rfl) rfl op_nil)))))))))))
    (told_of (by simp [ownNames, turnL]))
end
end Go.Proofs.YtcjfidfealifhaaGreat
namespace Go.Proofs.YtcjfidfealifhaaGreat
open Go Vm IntWalk
set_option linter.unusedVariables false
set_option linter.unusedSimpArgs false
set_option maxHeartbeats 8000000
section
variable {V : Heap} {n t c e u x a p : Nat} {cf : ConfV} {ev : EventV} {s : StV}
theorem lease_no (h : TurnAt V t c e u x a p cf ev s) (hi : ∀ i ∈ [t, c, e, u, x, a, p], i < n) (hb : s.users.length * 72 ≤ 140737488355328) (hb3 : s.addrs.length * 24 ≤ 140737488355328) (hk : leaseE cf s ev = none) :
    Tri Tryz.prog 50 [.pointer (some ⟨t, 0, none⟩)] n 0 V (fun r L => r = .bool false ∧ L = turnN t c e u x a p) := by
  obtain ⟨ht, hc, he, hu, hx, ha, hp, hn⟩ := h
  simp only [List.nodup_cons, List.mem_cons, List.not_mem_nil, or_false, not_or, List.nodup_nil, and_true, not_false_eq_true] at hn
  obtain ⟨⟨d1, d2, d3, d4, d5, d6⟩, ⟨e1, e2, e3, e4, e5⟩, ⟨f1, f2, f3, f4⟩, ⟨g1, g2, g3⟩, ⟨i1, i2⟩, j1⟩ := hn
  simp only [List.mem_cons, List.not_mem_nil, or_false, forall_eq_or_imp, forall_eq] at hi
  obtain ⟨l1, l2, l3, l4, l5, l6, l7⟩ := hi
  refine call_of_vw (K := 7) (argsI := [.pointer (some ⟨0, 0, none⟩)]) tab Tryz.func50 rfl rfl (by simp [Tryz.f50]) [.own t, .own c, .own e, .own u, .own x, .own a, .own p] [turnO 1 3 4 5 6 2 s, confO cf, evtO ev, .opn (userR.cells s.users) 76 9, .opn (sessR.cells s.sess) 78 4, .opn (addrR.cells s.addrs) 80 3, .opn ((intR .i64).cells s.spent) 3 1] rfl (.own ht (ov_turn rfl (rel_ptr rfl) (rel_slice rfl rfl) (rel_slice rfl rfl) (rel_slice rfl rfl) (rel_slice rfl rfl) (rel_ptr rfl)) (.own hc (ov_conf rfl) (.own he (ov_evt rfl) (.own hu (ov_opn userR rfl) (.own hx (ov_opn sessR rfl) (.own ha (ov_opn addrR rfl) (.own hp (ov_opn (intR .i64) rfl) .nil))))))) (by simp [ownNames, *]) (by simp [ownNames, lookNames, *]) (by simp [ownNames, *]) (al_cons (.val (rel_ptr rfl)) al_nil) (seen_of (sn_own (sn_own (sn_own (sn_own (sn_own (sn_own (sn_own sn_nil)))))))) ?_
  unfold leaseE at hk
  cases c1 : (ev.session != s.next) with
  | true =>
    refine wsq (wrg (vQ tab rfl (vnl (qth (wsq (vw_draw mixed (dq_op tab rfl rfl rfl rfl (dq_op tab rfl rfl rfl rfl (dq_op tab rfl rfl rfl rfl (dq_op tab rfl rfl rfl rfl (dq_op tab rfl rfl rfl rfl (dq_op tab rfl rfl rfl rfl (dq_op tab rfl rfl rfl rfl (dq_op tab rfl rfl rfl rfl (dq_op tab rfl rfl rfl rfl (dq_op tab rfl rfl rfl rfl (dq_op tab rfl rfl rfl rfl (dq_op tab rfl rfl rfl rfl (dq_op tab rfl rfl rfl rfl (dq_op tab rfl rfl rfl rfl (dq_op tab rfl rfl rfl rfl (dq_op tab rfl rfl rfl rfl (dq_op tab rfl rfl rfl rfl ?_)))))))))))))))))))))))
    refine dq_op tab rfl rfl rfl rfl (dq_op tab rfl rfl rfl rfl (dt_op [5] rfl rfl rfl rfl rfl callable_72 (ptake_as _ rfl (looks_opn addrR (xs := s.addrs) rfl rfl) hb3) (dq_op tab rfl rfl rfl rfl (dq_op tab rfl rfl rfl rfl (dq_op tab rfl rfl rfl rfl (dq_op tab rfl rfl rfl rfl (dq_op tab rfl rfl rfl rfl (vd_nil (by kernel_rfl) ?_))))))))
    refine qth (wsq (wsq (vw_draw mixed (dq_op tab rfl rfl rfl rfl (dq_op tab rfl rfl rfl rfl (dq_op tab rfl rfl rfl rfl (dq_op tab rfl rfl rfl rfl (dq_op tab rfl rfl rfl rfl (dq_op tab rfl rfl rfl rfl (dq_op tab rfl rfl rfl rfl (dq_op tab rfl rfl rfl rfl (dq_op tab rfl rfl rfl rfl (dq_op tab rfl rfl rfl rfl (dq_op tab rfl rfl rfl rfl (dq_op tab rfl rfl rfl rfl (dq_op tab rfl rfl rfl rfl (dq_op tab rfl rfl rfl rfl (dgd_op true rfl rfl rfl (by simp only [c1, sl_]; first | done | omega) ?_))))))))))))))))))
    refine dk_op ⟨_, _, rfl, rfl, rfl⟩ rfl (dk_op ⟨_, _, rfl, rfl, rfl⟩ rfl (dk_op ⟨_, _, rfl, rfl, rfl⟩ rfl (dk_op ⟨_, _, rfl, rfl, rfl⟩ rfl (dk_op ⟨_, _, rfl, rfl, rfl⟩ rfl (dk_op ⟨_, _, rfl, rfl, rfl⟩ rfl (dk_op ⟨_, _, rfl, rfl, rfl⟩ rfl (dk_op ⟨_, _, rfl, rfl, rfl⟩ rfl (dk_op ⟨_, _, rfl, rfl, rfl⟩ rfl (dk_op ⟨_, _, rfl, rfl, rfl⟩ rfl (dk_op ⟨_, _, rfl, rfl, rfl⟩ rfl (dk_op ⟨_, _, rfl, rfl, rfl⟩ rfl (dq_op tab rfl rfl rfl rfl (dq_op tab rfl rfl rfl rfl (dk_op ⟨_, _, rfl, rfl, rfl⟩ rfl (dk_op ⟨_, _, rfl, rfl, rfl⟩ rfl (dq_op tab rfl rfl rfl rfl (dq_op tab rfl rfl rfl rfl (dk_op ⟨_, _, rfl, rfl, rfl⟩ rfl (dk_op ⟨_, _, rfl, rfl, rfl⟩ rfl (dk_op ⟨_, _, rfl, rfl, rfl⟩ rfl (dk_op ⟨_, _, rfl, rfl, rfl⟩ rfl (dk_op ⟨_, _, rfl, rfl, rfl⟩ rfl (dk_op ⟨_, _, rfl, rfl, rfl⟩ rfl ?_)))))))))))))))))))))))
    refine dk_op ⟨_, _, rfl, rfl, rfl⟩ rfl (dk_op ⟨_, _, rfl, rfl, rfl⟩ rfl (dk_op ⟨_, _, rfl, rfl, rfl⟩ rfl (dk_op ⟨_, _, rfl, rfl, rfl⟩ rfl (dk_op ⟨_, _, rfl, rfl, rfl⟩ rfl (dk_op ⟨_, _, rfl, rfl, rfl⟩ rfl (dk_op ⟨_, _, rfl, rfl, rfl⟩ rfl (dk_op ⟨_, _, rfl, rfl, rfl⟩ rfl (dq_op tab rfl rfl rfl rfl (vd_nil (by kernel_rfl) ?_)))))))))
    refine qth (vc_true rfl (wsq (wrg (vQ tab rfl (vnl (qth (vw_ret (q_thenr ?_))))))))
    exact out_mk [] (.inr rfl) ⟨rfl, rfl⟩ rfl (.bool _) (op_drop (op_drop (op_drop (op_drop (op_drop (op_drop (op_drop op_nil))))))) (told_of (by simp [ownNames, turnN]))
  | false =>
    have h1 : ev.session = s.next := by simpa using c1
    cases hf : userAt s.users ev.user with
    | none =>
      refine wsq (wrg (vQ tab rfl (vnl (qth (wsq (vw_draw mixed (dq_op tab rfl rfl rfl rfl (dq_op tab rfl rfl rfl rfl (dq_op tab rfl rfl rfl rfl (dq_op tab rfl rfl rfl rfl (dq_op tab rfl rfl rfl rfl (dq_op tab rfl rfl rfl rfl (dq_op tab rfl rfl rfl rfl (dq_op tab rfl rfl rfl rfl (dq_op tab rfl rfl rfl rfl (dq_op tab rfl rfl rfl rfl (dq_op tab rfl rfl rfl rfl (dq_op tab rfl rfl rfl rfl (dq_op tab rfl rfl rfl rfl (dq_op tab rfl rfl rfl rfl (dq_op tab rfl rfl rfl rfl (dq_op tab rfl rfl rfl rfl (dq_op tab rfl rfl rfl rfl ?_)))))))))))))))))))))))
      refine dq_op tab rfl rfl rfl rfl (dq_op tab rfl rfl rfl rfl (dt_op [5] rfl rfl rfl rfl rfl callable_72 (ptake_as _ rfl (looks_opn addrR (xs := s.addrs) rfl rfl) hb3) (dq_op tab rfl rfl rfl rfl (dq_op tab rfl rfl rfl rfl (dq_op tab rfl rfl rfl rfl (dq_op tab rfl rfl rfl rfl (dq_op tab rfl rfl rfl rfl (vd_nil (by kernel_rfl) ?_))))))))
      refine qth (wsq (wsq (vw_draw mixed (dq_op tab rfl rfl rfl rfl (dq_op tab rfl rfl rfl rfl (dq_op tab rfl rfl rfl rfl (dq_op tab rfl rfl rfl rfl (dq_op tab rfl rfl rfl rfl (dq_op tab rfl rfl rfl rfl (dq_op tab rfl rfl rfl rfl (dq_op tab rfl rfl rfl rfl (dq_op tab rfl rfl rfl rfl (dq_op tab rfl rfl rfl rfl (dq_op tab rfl rfl rfl rfl (dq_op tab rfl rfl rfl rfl (dq_op tab rfl rfl rfl rfl (dq_op tab rfl rfl rfl rfl (dgd_op false rfl rfl rfl (by simp only [c1, sl_]; first | done | omega) ?_))))))))))))))))))
      refine dq_op tab ⟨_, _, rfl, rfl, rfl⟩ rfl rfl rfl (dq_op tab ⟨_, _, rfl, rfl, rfl⟩ rfl rfl rfl (dq_op tab ⟨_, _, rfl, rfl, rfl⟩ rfl rfl rfl (dq_op tab ⟨_, _, rfl, rfl, rfl⟩ rfl rfl rfl (dq_op tab ⟨_, _, rfl, rfl, rfl⟩ rfl rfl rfl (dq_op tab ⟨_, _, rfl, rfl, rfl⟩ rfl rfl rfl (dq_op tab ⟨_, _, rfl, rfl, rfl⟩ rfl rfl rfl (dq_op tab ⟨_, _, rfl, rfl, rfl⟩ rfl rfl rfl (dq_op tab ⟨_, _, rfl, rfl, rfl⟩ rfl rfl rfl (dq_op tab ⟨_, _, rfl, rfl, rfl⟩ rfl rfl rfl (dt_op [0, 1, 2, 3, 4, 5, 6] ⟨_, _, rfl, rfl, rfl⟩ rfl rfl rfl rfl callable_55 (usr_no (s := s) (cf := cf) (ev := ev) hf ⟨rfl, rfl, rfl, rfl, rfl, rfl, rfl, by decide⟩ hb) (dq_op tab ⟨_, _, rfl, rfl, rfl⟩ rfl rfl rfl (dq_op tab rfl rfl rfl rfl (dq_op tab rfl rfl rfl rfl (dk_op ⟨_, _, rfl, rfl, rfl⟩ rfl (dk_op ⟨_, _, rfl, rfl, rfl⟩ rfl (dq_op tab rfl rfl rfl rfl (dq_op tab rfl rfl rfl rfl (dk_op ⟨_, _, rfl, rfl, rfl⟩ rfl (dk_op ⟨_, _, rfl, rfl, rfl⟩ rfl (dk_op ⟨_, _, rfl, rfl, rfl⟩ rfl (dk_op ⟨_, _, rfl, rfl, rfl⟩ rfl (dk_op ⟨_, _, rfl, rfl, rfl⟩ rfl (dk_op ⟨_, _, rfl, rfl, rfl⟩ rfl ?_)))))))))))))))))))))))
      refine dk_op ⟨_, _, rfl, rfl, rfl⟩ rfl (dk_op ⟨_, _, rfl, rfl, rfl⟩ rfl (dk_op ⟨_, _, rfl, rfl, rfl⟩ rfl (dk_op ⟨_, _, rfl, rfl, rfl⟩ rfl (dk_op ⟨_, _, rfl, rfl, rfl⟩ rfl (dk_op ⟨_, _, rfl, rfl, rfl⟩ rfl (dk_op ⟨_, _, rfl, rfl, rfl⟩ rfl (dk_op ⟨_, _, rfl, rfl, rfl⟩ rfl (dq_op tab rfl rfl rfl rfl (vd_nil (by kernel_rfl) ?_)))))))))
      refine qth (vc_true rfl (wsq (wrg (vQ tab rfl (vnl (qth (vw_ret (q_thenr ?_))))))))
      exact out_mk [] (.inr rfl) ⟨rfl, rfl⟩ rfl (.bool _) (op_drop (op_drop (op_drop (op_drop (op_drop (op_drop (op_drop op_nil))))))) (told_of (by simp [ownNames, turnN]))
    | some j =>
      cases hc1 : takeC s.addrs ev.address ev.user with
      | false =>
        have e1 := takeA_bad hc1
        refine wsq (wrg (vQ tab rfl (vnl (qth (wsq (vw_draw mixed (dq_op tab rfl rfl rfl rfl (dq_op tab rfl rfl rfl rfl (dq_op tab rfl rfl rfl rfl (dq_op tab rfl rfl rfl rfl (dq_op tab rfl rfl rfl rfl (dq_op tab rfl rfl rfl rfl (dq_op tab rfl rfl rfl rfl (dq_op tab rfl rfl rfl rfl (dq_op tab rfl rfl rfl rfl (dq_op tab rfl rfl rfl rfl (dq_op tab rfl rfl rfl rfl (dq_op tab rfl rfl rfl rfl (dq_op tab rfl rfl rfl rfl (dq_op tab rfl rfl rfl rfl (dq_op tab rfl rfl rfl rfl (dq_op tab rfl rfl rfl rfl (dq_op tab rfl rfl rfl rfl ?_)))))))))))))))))))))))
        refine dq_op tab rfl rfl rfl rfl (dq_op tab rfl rfl rfl rfl (dt_op [5] rfl rfl rfl rfl rfl callable_72 (ptake_as _ e1 (looks_opn addrR (xs := s.addrs) rfl rfl) hb3) (dq_op tab rfl rfl rfl rfl (dq_op tab rfl rfl rfl rfl (dq_op tab rfl rfl rfl rfl (dq_op tab rfl rfl rfl rfl (dq_op tab rfl rfl rfl rfl (vd_nil (by kernel_rfl) ?_))))))))
        refine qth (wsq (wsq (vw_draw mixed (dq_op tab rfl rfl rfl rfl (dq_op tab rfl rfl rfl rfl (dq_op tab rfl rfl rfl rfl (dq_op tab rfl rfl rfl rfl (dq_op tab rfl rfl rfl rfl (dq_op tab rfl rfl rfl rfl (dq_op tab rfl rfl rfl rfl (dq_op tab rfl rfl rfl rfl (dq_op tab rfl rfl rfl rfl (dq_op tab rfl rfl rfl rfl (dq_op tab rfl rfl rfl rfl (dq_op tab rfl rfl rfl rfl (dq_op tab rfl rfl rfl rfl (dq_op tab rfl rfl rfl rfl (dgd_op false rfl rfl rfl (by simp only [c1, sl_]; first | done | omega) ?_))))))))))))))))))
        refine dq_op tab ⟨_, _, rfl, rfl, rfl⟩ rfl rfl rfl (dq_op tab ⟨_, _, rfl, rfl, rfl⟩ rfl rfl rfl (dq_op tab ⟨_, _, rfl, rfl, rfl⟩ rfl rfl rfl (dq_op tab ⟨_, _, rfl, rfl, rfl⟩ rfl rfl rfl (dq_op tab ⟨_, _, rfl, rfl, rfl⟩ rfl rfl rfl (dq_op tab ⟨_, _, rfl, rfl, rfl⟩ rfl rfl rfl (dq_op tab ⟨_, _, rfl, rfl, rfl⟩ rfl rfl rfl (dq_op tab ⟨_, _, rfl, rfl, rfl⟩ rfl rfl rfl (dq_op tab ⟨_, _, rfl, rfl, rfl⟩ rfl rfl rfl (dq_op tab ⟨_, _, rfl, rfl, rfl⟩ rfl rfl rfl (dt_op [0, 1, 2, 3, 4, 5, 6] ⟨_, _, rfl, rfl, rfl⟩ rfl rfl rfl rfl callable_55 (usr_ok (s := s) (cf := cf) (ev := ev) hf ⟨rfl, rfl, rfl, rfl, rfl, rfl, rfl, by decide⟩ hb) (dq_op tab ⟨_, _, rfl, rfl, rfl⟩ rfl rfl rfl (dq_op tab rfl rfl rfl rfl (dq_op tab rfl rfl rfl rfl (dq_op tab ⟨_, _, rfl, rfl, rfl⟩ rfl rfl rfl (dq_op tab ⟨_, _, rfl, rfl, rfl⟩ rfl rfl rfl (dq_op tab rfl rfl rfl rfl (dq_op tab rfl rfl rfl rfl (dk_op ⟨_, _, rfl, rfl, rfl⟩ rfl (dk_op ⟨_, _, rfl, rfl, rfl⟩ rfl (dk_op ⟨_, _, rfl, rfl, rfl⟩ rfl (dk_op ⟨_, _, rfl, rfl, rfl⟩ rfl (dk_op ⟨_, _, rfl, rfl, rfl⟩ rfl (dk_op ⟨_, _, rfl, rfl, rfl⟩ rfl ?_)))))))))))))))))))))))
        refine dk_op ⟨_, _, rfl, rfl, rfl⟩ rfl (dk_op ⟨_, _, rfl, rfl, rfl⟩ rfl (dk_op ⟨_, _, rfl, rfl, rfl⟩ rfl (dk_op ⟨_, _, rfl, rfl, rfl⟩ rfl (dk_op ⟨_, _, rfl, rfl, rfl⟩ rfl (dk_op ⟨_, _, rfl, rfl, rfl⟩ rfl (dk_op ⟨_, _, rfl, rfl, rfl⟩ rfl (dk_op ⟨_, _, rfl, rfl, rfl⟩ rfl (dq_op tab rfl rfl rfl rfl (vd_nil (by kernel_rfl) ?_)))))))))
        refine qth (vc_true rfl (wsq (wrg (vQ tab rfl (vnl (qth (vw_ret (q_thenr ?_))))))))
        exact out_mk [] (.inr rfl) ⟨rfl, rfl⟩ rfl (.bool _) (op_drop (op_drop (op_drop (op_drop (op_drop (op_drop (op_drop op_nil))))))) (told_of (by simp [ownNames, turnN]))
      | true =>
        have e1 := takeA_ok hc1
        have h3 : ¬ (s.sess.length : Int) < cf.sessions := by
          intro q; rw [if_pos ⟨hc1, h1, by rw [hf]; rfl, q⟩] at hk; cases hk
        have c2 : decide (cf.sessions ≤ (s.sess.length : Int)) = true := decide_eq_true (by omega)
        refine wsq (wrg (vQ tab rfl (vnl (qth (wsq (vw_draw mixed (dq_op tab rfl rfl rfl rfl (dq_op tab rfl rfl rfl rfl (dq_op tab rfl rfl rfl rfl (dq_op tab rfl rfl rfl rfl (dq_op tab rfl rfl rfl rfl (dq_op tab rfl rfl rfl rfl (dq_op tab rfl rfl rfl rfl (dq_op tab rfl rfl rfl rfl (dq_op tab rfl rfl rfl rfl (dq_op tab rfl rfl rfl rfl (dq_op tab rfl rfl rfl rfl (dq_op tab rfl rfl rfl rfl (dq_op tab rfl rfl rfl rfl (dq_op tab rfl rfl rfl rfl (dq_op tab rfl rfl rfl rfl (dq_op tab rfl rfl rfl rfl (dq_op tab rfl rfl rfl rfl ?_)))))))))))))))))))))))
        refine dq_op tab rfl rfl rfl rfl (dq_op tab rfl rfl rfl rfl (dt_op [5] rfl rfl rfl rfl rfl callable_72 (ptake_as _ e1 (looks_opn addrR (xs := s.addrs) rfl rfl) hb3) (dq_op tab rfl rfl rfl rfl (dq_op tab rfl rfl rfl rfl (dq_op tab rfl rfl rfl rfl (dq_op tab rfl rfl rfl rfl (dq_op tab rfl rfl rfl rfl (vd_nil (by kernel_rfl) ?_))))))))
        refine qth (wsq (wsq (vw_draw mixed (dq_op tab rfl rfl rfl rfl (dq_op tab rfl rfl rfl rfl (dq_op tab rfl rfl rfl rfl (dq_op tab rfl rfl rfl rfl (dq_op tab rfl rfl rfl rfl (dq_op tab rfl rfl rfl rfl (dq_op tab rfl rfl rfl rfl (dq_op tab rfl rfl rfl rfl (dq_op tab rfl rfl rfl rfl (dq_op tab rfl rfl rfl rfl (dq_op tab rfl rfl rfl rfl (dq_op tab rfl rfl rfl rfl (dq_op tab rfl rfl rfl rfl (dq_op tab rfl rfl rfl rfl (dgd_op false rfl rfl rfl (by simp only [c1, c2, sl_]; first | done | omega) ?_))))))))))))))))))
        refine dq_op tab ⟨_, _, rfl, rfl, rfl⟩ rfl rfl rfl (dq_op tab ⟨_, _, rfl, rfl, rfl⟩ rfl rfl rfl (dq_op tab ⟨_, _, rfl, rfl, rfl⟩ rfl rfl rfl (dq_op tab ⟨_, _, rfl, rfl, rfl⟩ rfl rfl rfl (dq_op tab ⟨_, _, rfl, rfl, rfl⟩ rfl rfl rfl (dq_op tab ⟨_, _, rfl, rfl, rfl⟩ rfl rfl rfl (dq_op tab ⟨_, _, rfl, rfl, rfl⟩ rfl rfl rfl (dq_op tab ⟨_, _, rfl, rfl, rfl⟩ rfl rfl rfl (dq_op tab ⟨_, _, rfl, rfl, rfl⟩ rfl rfl rfl (dq_op tab ⟨_, _, rfl, rfl, rfl⟩ rfl rfl rfl (dt_op [0, 1, 2, 3, 4, 5, 6] ⟨_, _, rfl, rfl, rfl⟩ rfl rfl rfl rfl callable_55 (usr_ok (s := s) (cf := cf) (ev := ev) hf ⟨rfl, rfl, rfl, rfl, rfl, rfl, rfl, by decide⟩ hb) (dq_op tab ⟨_, _, rfl, rfl, rfl⟩ rfl rfl rfl (dq_op tab rfl rfl rfl rfl (dq_op tab rfl rfl rfl rfl (dq_op tab ⟨_, _, rfl, rfl, rfl⟩ rfl rfl rfl (dq_op tab ⟨_, _, rfl, rfl, rfl⟩ rfl rfl rfl (dq_op tab rfl rfl rfl rfl (dq_op tab rfl rfl rfl rfl (dq_op tab ⟨_, _, rfl, rfl, rfl⟩ rfl rfl rfl (dq_op tab ⟨_, _, rfl, rfl, rfl⟩ rfl rfl rfl (dq_op tab ⟨_, _, rfl, rfl, rfl⟩ rfl rfl rfl (dq_op tab ⟨_, _, rfl, rfl, rfl⟩ rfl rfl rfl (dq_op tab ⟨_, _, rfl, rfl, rfl⟩ rfl rfl rfl (dq_op tab ⟨_, _, rfl, rfl, rfl⟩ rfl rfl rfl ?_)))))))))))))))))))))))
        refine dq_op tab ⟨_, _, rfl, rfl, rfl⟩ rfl rfl rfl (dq_op tab ⟨_, _, rfl, rfl, rfl⟩ rfl rfl rfl (dq_op tab ⟨_, _, rfl, rfl, rfl⟩ rfl rfl rfl (dq_op tab ⟨_, _, rfl, rfl, rfl⟩ rfl rfl rfl (dq_op tab ⟨_, _, rfl, rfl, rfl⟩ rfl rfl rfl (dq_op tab ⟨_, _, rfl, rfl, rfl⟩ rfl rfl rfl (dq_op tab ⟨_, _, rfl, rfl, rfl⟩ rfl rfl rfl (dq_op tab ⟨_, _, rfl, rfl, rfl⟩ rfl rfl rfl (dq_op tab rfl rfl rfl rfl (vd_nil (by kernel_rfl) ?_)))))))))
        refine qth (vcd_true rfl (by simp only [c1, c2, sl_]; first | done | omega) ?_)
        refine wsq (wrg (vQ tab rfl (vnl (qth (vw_ret (q_thenr ?_))))))
        exact out_mk [] (.inr rfl) ⟨rfl, rfl⟩ rfl (.bool _) (op_drop (op_drop (op_drop (op_drop (op_drop (op_drop (op_drop op_nil))))))) (told_of (by simp [ownNames, turnN]))
end
end Go.Proofs.YtcjfidfealifhaaGreat
namespace Go.Proofs.YtcjfidfealifhaaGreat.Vm
open Go
set_option linter.unusedVariables false
section
variable {α : Type} (R : Rw α) {P : Program} {τ : Nat → Option TI} {env : List (Nat × Value)} {V : Heap} {n : Nat}
theorem ev_load2 {t b p j q : Nat} {x : Operand} {ti : TI} {xs : List α} {a : α} {v w : Value} (hx : rd env x = some (.pointer (some ⟨b, p, none⟩))) (hp : p = 0 + j * R.sz + q) (ht : τ t = some ti) (ha : isAggB ti.desc = true) (hs : ti.size = 2)
    (hV : (V b).bind cellsOf = some (R.cells xs)) (hj : xs[j]? = some a) (hq : q + 2 ≤ R.sz) (hk : ((R.f a).drop q).take 2 = [v, w]) : evOp τ env V n (.load t x) = some ⟨.agg #[v, w], [], 0, [b]⟩ := by
  subst hp
  have hlt := (List.getElem?_eq_some_iff.1 hj).1
  have hle : 0 + j * R.sz + q + 2 ≤ (R.cells xs).length := by
    have := Nat.mul_le_mul_right R.sz hlt
    rw [R.length]; rw [Nat.succ_mul] at this; omega
  have hrow := R.row hj
  have hpart : ((R.cells xs).drop (0 + j * R.sz + q)).take 2 = [v, w] := by
    rw [← hk, ← hrow, Nat.zero_add, ← List.drop_drop, List.drop_take, List.take_take, Nat.min_eq_left (by omega)]
  simp only [evOp, hx, Option.bind_some, evLoad, ht, hV, ha, if_true, hs]
  rw [if_pos hle, hpart]; rfl
theorem ev_store2 {t b p j q : Nat} {x y : Operand} {ti : TI} {xs : List α} {a a1 a2 : α} {v w : Value} {e : TypeId} (hx : rd env x = some (.pointer (some ⟨b, p, none⟩))) (hy : rd env y = some (.agg #[v, w])) (hp : p = 0 + j * R.sz + q) (ht : τ t = some ti) (hs : ti.size = 2) (hV : V b = some (.opn (R.cells xs) e R.sz))
    (hj : xs[j]? = some a) (hv : [v, w].all Value.oneCell' = true) (h1 : (R.f a).set q v = R.f a1) (h2 : (R.f a1).set (q + 1) w = R.f a2) (hq : q + 2 ≤ R.sz) : evOp τ env V n (.store t x y) = some ⟨undef, [(b, some (.opn (R.cells (xs.set j a2)) e R.sz))], 0, [b]⟩ := by
  subst hp
  have hlt := (List.getElem?_eq_some_iff.1 hj).1
  have hle : 0 + j * R.sz + q + 2 ≤ (R.cells xs).length := by
    have := Nat.mul_le_mul_right R.sz hlt
    rw [R.length]; rw [Nat.succ_mul] at this; omega
  have hset : setCells (R.cells xs) (0 + j * R.sz + q) [v, w] = R.cells (xs.set j a2) := by
    rw [setCells_eq _ _ _ hle, splice_cons _ _ _ _ (by omega), splice_cons _ _ _ _ (by rw [List.length_set]; omega), splice_nil, Nat.zero_add, R.set_cell hj h1 (by omega)]
    have hj1 : (xs.set j a1)[j]? = some a1 := by rw [List.getElem?_set_self hlt]
    rw [show j * R.sz + q + 1 = j * R.sz + (q + 1) by omega, R.set_cell hj1 h2 (by omega), List.set_set]
  have hc : (#[v, w] : Array Value).size = 2 ∧ 0 + j * R.sz + q + 2 ≤ (R.cells xs).length ∧ [v, w].all Value.oneCell' = true := ⟨rfl, hle, hv⟩
  simp only [evOp, hx, hy, evStore, ht, hV, hs, Value.cells]
  rw [if_pos hc, hset]
end
end Go.Proofs.YtcjfidfealifhaaGreat.Vm
namespace Go.Proofs.YtcjfidfealifhaaGreat
open Go Vm IntWalk
set_option linter.unusedVariables false
set_option linter.unusedSimpArgs false
set_option maxHeartbeats 8000000
def turnK (t c e u x a p a' : Nat) (cf : ConfV) (ev : EventV) (s : StV) : List (Nat × Option VObj) := (t, some (turnO c u x a' p e s)) :: (c, some (confO cf)) :: (e, some (evtO ev)) :: (u, some (.opn (userR.cells s.users) 76 9)) :: (x, some (.opn (sessR.cells s.sess) 78 4)) :: (a, none) ::
  (p, some (.opn ((intR .i64).cells s.spent) 3 1)) :: (a', some (.opn (addrR.cells s.addrs) 80 3)) :: []
theorem pfree_as {V : Heap} {n : Nat} {sv : Value} {xs : List AddrV} {i b : Int} (r : List AddrV × Int) (hr : freeA xs i b = r) (hl : Looks V 3 sv (addrR.cells xs) xs.length) (hb : xs.length * 24 ≤ 140737488355328) :
    Tri Tryz.prog 86 [sv, .int .i64 i, .int .i64 b] n 1 V (fun u L => u = .tuple #[.slice (some ⟨n, 0, none⟩) r.1.length 0, .int .i64 r.2] ∧ L = [(n, some (.opn (addrR.cells r.1) 80 3))]) := by subst hr; exact pfree_tri i b hl hb
theorem rises_ok {V : Heap} {n u j : Nat} {us : List UserV} {y : UserV} (hu : V u = some (.opn (userR.cells us) 76 9)) (hj : us[j]? = some y) (hg : 0 ≤ y.gen ∧ y.gen ≤ 1073741822) (hin : u < n) :
    Tri Tryz.prog 68 [.pointer (some ⟨u, 0 + j * 9 + 8, none⟩)] n 0 V (fun r L => r = .bool true ∧ L = [(u, some (.opn (userR.cells (us.set j { y with gen := y.gen + 1 })) 76 9))]) := by
  refine call_of_vw (K := 1) (argsI := [.pointer (some ⟨0, 0 + j * 9 + 8, none⟩)]) tab Tryz.func68 rfl rfl (by simp [Tryz.f68]) [.own u] [.opn (userR.cells us) 76 9] rfl (.own hu (ov_opn userR rfl) .nil) (by simp [ownNames, *]) (by simp [ownNames, lookNames, *]) (by simp [ownNames, *]) (al_cons (.val (rel_ptr rfl)) al_nil) (seen_of (sn_own sn_nil)) ?_
  have hb : betw y.gen 0 1073741822 = true := by unfold betw; rw [decide_eq_true hg.1, decide_eq_true hg.2]; rfl
  have hw : IntKind.i64.wrap (y.gen + 1) = y.gen + 1 := i64_in _ (by omega)
  refine wsq (wrg (vQ tab rfl (vnl (qth (wsq (wsq (wrg (vQ2 tab rfl rfl (vq_op tab rfl rfl rfl (ev_loadcell userR rfl rfl rfl rfl rfl hj rfl) (vF rfl callable_39 (betw_fun _ _ _) (vQ tab rfl (vnl (qth (vcd_false rfl (by simp only [hb, sl_]; first | done | omega) ?_))))))))))))))
  refine vw_skip (qth (wsq (wrg (vQ2 tab rfl rfl (vq_op tab rfl rfl rfl (ev_loadcell userR rfl rfl rfl rfl rfl hj rfl) (vQ2 tab rfl rfl (vs_op tab rfl rfl (ev_storecell userR rfl rfl rfl rfl rfl rfl hj (a' := { y with gen := IntKind.i64.wrap (y.gen + 1) }) rfl rfl (by decide)) ?_)))))))
  refine vnl (qth (wsq (wrg (vQ tab rfl (vnl (qth (vw_ret ?_)))))))
  exact out_mk [] (.inr rfl) ⟨rfl, rfl⟩ rfl (.bool _) (op_cons (sigma_own (a := 0) (by simp [ownNames]) rfl) rfl rfl (ov_opn userR (by rw [hw])) rfl op_nil) (told_of (by simp [ownNames]))
theorem rises_no {V : Heap} {n u j : Nat} {us : List UserV} {y : UserV} (hu : V u = some (.opn (userR.cells us) 76 9)) (hj : us[j]? = some y) (hg : ¬ (0 ≤ y.gen ∧ y.gen ≤ 1073741822)) :
    Tri Tryz.prog 68 [.pointer (some ⟨u, 0 + j * 9 + 8, none⟩)] n 0 V (fun r L => r = .bool false ∧ L = []) := by
  refine reads_of_vw (K := 1) (argsI := [.pointer (some ⟨0, 0 + j * 9 + 8, none⟩)]) tab Tryz.func68 rfl rfl (by simp [Tryz.f68]) [.own u] [.opn (userR.cells us) 76 9] rfl (.own hu (ov_opn userR rfl) .nil) (by simp [ownNames, *]) (by simp [ownNames, lookNames, *]) (al_cons (.val (rel_ptr rfl)) al_nil) (seen_of (sn_own sn_nil)) (.bool _) ?_
  have hb : betw y.gen 0 1073741822 = false := by
    unfold betw
    by_cases h : 0 ≤ y.gen
    · rw [decide_eq_false (show ¬ y.gen ≤ 1073741822 from fun q => hg ⟨h, q⟩), Bool.and_false]
    · rw [decide_eq_false h, Bool.false_and]
  refine wsq (wrg (vQ tab rfl (vnl (qth (wsq (wsq (wrg (vQ2 tab rfl rfl (vq_op tab rfl rfl rfl (ev_loadcell userR rfl rfl rfl rfl rfl hj rfl) (vF rfl callable_39 (betw_fun _ _ _) (vQ tab rfl (vnl (qth (vcd_true rfl (by simp only [hb, sl_]; first | done | omega) ?_))))))))))))))
  refine wsq (wrg (vQ tab rfl (vnl (qth (vw_ret (q_thenr ?_))))))
  exact ⟨⟨.inr rfl, rfl⟩, fun _ => rfl, trivial⟩
section
variable {V : Heap} {n t c e u x a p : Nat} {cf : ConfV} {ev : EventV} {s : StV}
theorem free_ok {i b : Int} (h : TurnAt V t c e u x a p cf ev s) (hi : ∀ i ∈ [t, c, e, u, x, a, p], i < n) (hb3 : s.addrs.length * 24 ≤ 140737488355328) (hk : freeC s.addrs i b = true) :
    Tri Tryz.prog 67 [.pointer (some ⟨t, 0, none⟩), .int .i64 i, .int .i64 b] n 1 V (fun r L => r = .bool true ∧ L = turnK t c e u x a p n cf ev { s with addrs := (freeA s.addrs i b).1 }) := by
  obtain ⟨ht, hc, he, hu, hx, ha, hp, hn⟩ := h
  simp only [List.nodup_cons, List.mem_cons, List.not_mem_nil, or_false, not_or, List.nodup_nil, and_true, not_false_eq_true] at hn
  obtain ⟨⟨d1, d2, d3, d4, d5, d6⟩, ⟨e1, e2, e3, e4, e5⟩, ⟨f1, f2, f3, f4⟩, ⟨g1, g2, g3⟩, ⟨i1, i2⟩, j1⟩ := hn
  simp only [List.mem_cons, List.not_mem_nil, or_false, forall_eq_or_imp, forall_eq] at hi
  obtain ⟨l1, l2, l3, l4, l5, l6, l7⟩ := hi
  refine call_of_vw (K := 7) (argsI := [.pointer (some ⟨0, 0, none⟩), .int .i64 i, .int .i64 b]) tab Tryz.func67 rfl rfl (by simp [Tryz.f67]) [.own t, .own c, .own e, .own u, .own x, .own a, .own p] [turnO 1 3 4 5 6 2 s, confO cf, evtO ev, .opn (userR.cells s.users) 76 9, .opn (sessR.cells s.sess) 78 4, .opn (addrR.cells s.addrs) 80 3, .opn ((intR .i64).cells s.spent) 3 1] rfl (.own ht (ov_turn rfl (rel_ptr rfl) (rel_slice rfl rfl) (rel_slice rfl rfl) (rel_slice rfl rfl) (rel_slice rfl rfl) (rel_ptr rfl)) (.own hc (ov_conf rfl) (.own he (ov_evt rfl) (.own hu (ov_opn userR rfl) (.own hx (ov_opn sessR rfl) (.own ha (ov_opn addrR rfl) (.own hp (ov_opn (intR .i64) rfl) .nil))))))) (by simp [ownNames, *]) (by simp [ownNames, lookNames, *]) (by simp [ownNames, *]) (al_cons (.val (rel_ptr rfl)) (al_cons (.val (.int _ _)) (al_cons (.val (.int _ _)) al_nil))) (seen_of (sn_own (sn_own (sn_own (sn_own (sn_own (sn_own (sn_own sn_nil)))))))) ?_
  have e1 := freeA_ok hk
  rw [e1]
  refine wsq (wrg (vQ tab rfl (vnl (qth (wsq (wrg (vQ4 tab rfl rfl rfl rfl (vQ3 tab rfl rfl rfl (vT rfl callable_86 (pfree_as _ e1 (looks_opn addrR (xs := s.addrs) rfl rfl) hb3) (vQ4 tab rfl rfl rfl rfl (vQ tab rfl (vnl (qth (wsq (wsq ?_)))))))))))))))
  refine wrg (vQ2 tab rfl rfl (vnl (qth (vc_true rfl (wrg (vQ4 tab rfl rfl rfl rfl (vQ tab rfl (vS tab rfl (vnl (qth (wsq (wrg (vQ3 tab rfl rfl rfl (vnl (qth (vw_ret ?_))))))))))))))))
  exact out_mk [7] (.inr rfl) ⟨rfl, rfl⟩ rfl (.bool _)
    (op_cons (sigma_own (a := 0) (by simp [ownNames, *]) rfl) rfl rfl (ov_turn2 (rel_ptr (sigma_own (a := 1) (by simp [ownNames, *]) rfl)) (rel_slice (sigma_own (a := 3) (by simp [ownNames, *]) rfl) rfl) (rel_slice (sigma_own (a := 4) (by simp [ownNames, *]) rfl) rfl) (rel_slice (sigma_at (i := 0) (by simp [ownNames, *]) rfl) (by simp)) (rel_slice (sigma_own (a := 6) (by simp [ownNames, *]) rfl) rfl) (rel_ptr (sigma_own (a := 2) (by simp [ownNames, *]) rfl))) rfl
      (op_cons (sigma_own (a := 1) (by simp [ownNames, *]) rfl) rfl rfl (ov_conf rfl) rfl (op_cons (sigma_own (a := 2) (by simp [ownNames, *]) rfl) rfl rfl (ov_evt rfl) rfl
        (op_cons (sigma_own (a := 3) (by simp [ownNames, *]) rfl) rfl rfl (ov_opn userR rfl) rfl (op_cons (sigma_own (a := 4) (by simp [ownNames, *]) rfl) rfl rfl (ov_opn sessR rfl) rfl (op_drop (op_cons (sigma_own (a := 6) (by simp [ownNames, *]) rfl) rfl rfl (ov_opn (intR .i64) rfl) rfl
          (op_cons (sigma_at (i := 0) (by simp [ownNames, *]) rfl) rfl rfl (ov_opn addrR rfl) rfl op_nil))))))))
    (told_of (by simp [ownNames, turnK]))
theorem free_no {i b : Int} (h : TurnAt V t c e u x a p cf ev s) (hi : ∀ i ∈ [t, c, e, u, x, a, p], i < n) (hb3 : s.addrs.length * 24 ≤ 140737488355328) (hk : freeC s.addrs i b = false) :
    Tri Tryz.prog 67 [.pointer (some ⟨t, 0, none⟩), .int .i64 i, .int .i64 b] n 0 V (fun r L => r = .bool false ∧ L = turnN t c e u x a p) := by
  obtain ⟨ht, hc, he, hu, hx, ha, hp, hn⟩ := h
  simp only [List.nodup_cons, List.mem_cons, List.not_mem_nil, or_false, not_or, List.nodup_nil, and_true, not_false_eq_true] at hn
  obtain ⟨⟨d1, d2, d3, d4, d5, d6⟩, ⟨e1, e2, e3, e4, e5⟩, ⟨f1, f2, f3, f4⟩, ⟨g1, g2, g3⟩, ⟨i1, i2⟩, j1⟩ := hn
  simp only [List.mem_cons, List.not_mem_nil, or_false, forall_eq_or_imp, forall_eq] at hi
  obtain ⟨l1, l2, l3, l4, l5, l6, l7⟩ := hi
  refine call_of_vw (K := 7) (argsI := [.pointer (some ⟨0, 0, none⟩), .int .i64 i, .int .i64 b]) tab Tryz.func67 rfl rfl (by simp [Tryz.f67]) [.own t, .own c, .own e, .own u, .own x, .own a, .own p] [turnO 1 3 4 5 6 2 s, confO cf, evtO ev, .opn (userR.cells s.users) 76 9, .opn (sessR.cells s.sess) 78 4, .opn (addrR.cells s.addrs) 80 3, .opn ((intR .i64).cells s.spent) 3 1] rfl (.own ht (ov_turn rfl (rel_ptr rfl) (rel_slice rfl rfl) (rel_slice rfl rfl) (rel_slice rfl rfl) (rel_slice rfl rfl) (rel_ptr rfl)) (.own hc (ov_conf rfl) (.own he (ov_evt rfl) (.own hu (ov_opn userR rfl) (.own hx (ov_opn sessR rfl) (.own ha (ov_opn addrR rfl) (.own hp (ov_opn (intR .i64) rfl) .nil))))))) (by simp [ownNames, *]) (by simp [ownNames, lookNames, *]) (by simp [ownNames, *]) (al_cons (.val (rel_ptr rfl)) (al_cons (.val (.int _ _)) (al_cons (.val (.int _ _)) al_nil))) (seen_of (sn_own (sn_own (sn_own (sn_own (sn_own (sn_own (sn_own sn_nil)))))))) ?_
  have e1 := freeA_bad hk
  refine wsq (wrg (vQ tab rfl (vnl (qth (wsq (wrg (vQ4 tab rfl rfl rfl rfl (vQ3 tab rfl rfl rfl (vT rfl callable_86 (pfree_as _ e1 (looks_opn addrR (xs := s.addrs) rfl rfl) hb3) (vQ4 tab rfl rfl rfl rfl (vQ tab rfl (vnl (qth (wsq (wsq ?_)))))))))))))))
  refine wrg (vQ2 tab rfl rfl (vnl (qth (vc_false rfl (vw_skip (qth (wsq (wrg (vQ3 tab rfl rfl rfl (vnl (qth (vw_ret ?_))))))))))))
  exact out_mk [] (.inr rfl) ⟨rfl, rfl⟩ rfl (.bool _) (op_drop (op_drop (op_drop (op_drop (op_drop (op_drop (op_drop op_nil))))))) (told_of (by simp [ownNames, turnN]))
end
end Go.Proofs.YtcjfidfealifhaaGreat
namespace Go.Proofs.YtcjfidfealifhaaGreat
open Go Vm IntWalk
set_option linter.unusedVariables false
set_option linter.unusedSimpArgs false
set_option maxHeartbeats 16000000
theorem ov_turn3 {σ : Ren} {c e c' e' : Nat} {b1 b1' b2 b3 : Int} {v1 v2 v3 v4 w1 w2 w3 w4 : Value} (hb : b1 = b1') (hc : VRel σ (.pointer (some ⟨c, 0, none⟩)) (.pointer (some ⟨c', 0, none⟩))) (h1 : VRel σ v1 w1) (h2 : VRel σ v2 w2) (h3 : VRel σ v3 w3) (h4 : VRel σ v4 w4) (he : VRel σ (.pointer (some ⟨e, 0, none⟩)) (.pointer (some ⟨e', 0, none⟩))) :
    OV σ (.cells [.pointer (some ⟨c, 0, none⟩), .int .i64 b1, .int .i64 b2, .int .i64 b3, v1, v2, v3, v4, .pointer (some ⟨e, 0, none⟩)] 64 (0, 0)) (.cells [.pointer (some ⟨c', 0, none⟩), .int .i64 b1', .int .i64 b2, .int .i64 b3, w1, w2, w3, w4, .pointer (some ⟨e', 0, none⟩)] 64 (0, 0)) := by
  subst hb; exact .cells _ _ (lrel_cons hc (lrel_cons (.int _ _) (lrel_cons (.int _ _) (lrel_cons (.int _ _) (lrel_cons h1 (lrel_cons h2 (lrel_cons h3 (lrel_cons h4 (lrel_cons he lrel_nil)))))))))
abbrev turnB (c u a p e : Nat) (s : StV) : VObj := .cells [.pointer (some ⟨c, 0, none⟩), .int .i64 s.boots, .int .i64 s.epoch, .int .i64 s.next, .slice (some ⟨u, 0, none⟩) s.users.length 0, .slice none 0 0, .slice (some ⟨a, 0, none⟩) s.addrs.length 0, .slice (some ⟨p, 0, none⟩) s.spent.length 0, .pointer (some ⟨e, 0, none⟩)] 64 (0, 0)
def TurnB (V : Heap) (t c e u a p : Nat) (cf : ConfV) (ev : EventV) (s : StV) : Prop := V t = some (turnB c u a p e s) ∧ V c = some (confO cf) ∧ V e = some (evtO ev) ∧ V u = some (.opn (userR.cells s.users) 76 9) ∧ V a = some (.opn (addrR.cells s.addrs) 80 3) ∧ V p = some (.opn ((intR .i64).cells s.spent) 3 1) ∧ [t, c, e, u, a, p].Nodup
theorem freeAll_step {W : Int} {xs : List SessV} {j : Nat} {x : SessV} {aa : List AddrV} (h : xs[j]? = some x) : freeAll W (xs.drop j) aa = if freeC aa x.address W = true then freeAll W (xs.drop (j + 1)) (freeA aa x.address W).1 else none := by
  have hi := (List.getElem?_eq_some_iff.1 h).1
  rw [List.drop_eq_getElem_cons hi, (List.getElem?_eq_some_iff.1 h).2]; rfl
theorem freeA_lenOk {xs : List AddrV} {i b : Int} (h : freeC xs i b = true) : (freeA xs i b).1.length = xs.length := by rw [freeA_ok h]; simp
section
variable {V : Heap} {n t c e u x a p : Nat} {cf : ConfV} {ev : EventV} {s : StV}
theorem riseb_ok (h : TurnB V t c e u a p cf ev s) (hi : ∀ i ∈ [t, c, e, u, a, p], i < n) (hg : 0 ≤ s.boots ∧ s.boots ≤ 1073741822) :
    Tri Tryz.prog 68 [.pointer (some ⟨t, 1, none⟩)] n 0 V (fun r L => r = .bool true ∧ L = [(t, some (turnB c u a p e { s with boots := s.boots + 1 })), (c, some (confO cf)), (e, some (evtO ev)), (u, some (.opn (userR.cells s.users) 76 9)), (a, some (.opn (addrR.cells s.addrs) 80 3)), (p, some (.opn ((intR .i64).cells s.spent) 3 1))]) := by
  obtain ⟨ht, hc, he, hu, ha, hp, hn⟩ := h
  simp only [List.nodup_cons, List.mem_cons, List.not_mem_nil, or_false, not_or, List.nodup_nil, and_true, not_false_eq_true] at hn
  obtain ⟨⟨d1, d2, d3, d4, d5⟩, ⟨e1, e2, e3, e4⟩, ⟨f1, f2, f3⟩, ⟨g1, g2⟩, i1⟩ := hn
  simp only [List.mem_cons, List.not_mem_nil, or_false, forall_eq_or_imp, forall_eq] at hi
  obtain ⟨l1, l2, l3, l4, l5, l6⟩ := hi
  refine call_of_vw (K := 6) (argsI := [.pointer (some ⟨0, 1, none⟩)]) tab Tryz.func68 rfl rfl (by simp [Tryz.f68]) [.own t, .own c, .own e, .own u, .own a, .own p] [turnB 1 3 4 5 2 s, confO cf, evtO ev, .opn (userR.cells s.users) 76 9, .opn (addrR.cells s.addrs) 80 3, .opn ((intR .i64).cells s.spent) 3 1] rfl (.own ht (ov_turn3 rfl (rel_ptr rfl) (rel_slice rfl rfl) .nilSlice (rel_slice rfl rfl) (rel_slice rfl rfl) (rel_ptr rfl)) (.own hc (ov_conf rfl) (.own he (ov_evt rfl) (.own hu (ov_opn userR rfl) (.own ha (ov_opn addrR rfl) (.own hp (ov_opn (intR .i64) rfl) .nil)))))) (by simp [ownNames, *]) (by simp [ownNames, lookNames, *]) (by simp [ownNames, *]) (al_cons (.val (rel_ptr rfl)) al_nil) (seen_of (sn_own (sn_own (sn_own (sn_own (sn_own (sn_own sn_nil))))))) ?_
  have hb : betw s.boots 0 1073741822 = true := by unfold betw; rw [decide_eq_true hg.1, decide_eq_true hg.2]; rfl
  have hw : IntKind.i64.wrap (s.boots + 1) = s.boots + 1 := i64_in _ (by omega)
  refine wsq (wrg (vQ tab rfl (vnl (qth (wsq (wsq (wrg (vQ3 tab rfl rfl rfl (vF rfl callable_39 (betw_fun _ _ _) (vQ tab rfl (vnl (qth (vcd_false rfl (by simp only [hb, hw, sl_]; first | done | omega) ?_)))))))))))))
  refine vw_skip (qth (wsq (wrg (vQ4 tab rfl rfl rfl rfl (vQ tab rfl (vS tab rfl (vnl (qth (wsq (wrg (vQ tab rfl (vnl (qth (vw_ret ?_))))))))))))))
  exact out_mk [] (.inr rfl) ⟨rfl, rfl⟩ rfl (.bool _) (op_cons (sigma_own (a := 0) (by simp [ownNames, *]) rfl) rfl rfl (ov_turn3 hw.symm (rel_ptr (sigma_own (a := 1) (by simp [ownNames, *]) rfl)) (rel_slice (sigma_own (a := 3) (by simp [ownNames, *]) rfl) rfl) .nilSlice (rel_slice (sigma_own (a := 4) (by simp [ownNames, *]) rfl) rfl) (rel_slice (sigma_own (a := 5) (by simp [ownNames, *]) rfl) rfl) (rel_ptr (sigma_own (a := 2) (by simp [ownNames, *]) rfl))) rfl (op_cons (sigma_own (a := 1) (by simp [ownNames, *]) rfl) rfl rfl (ov_conf rfl) rfl (op_cons (sigma_own (a := 2) (by simp [ownNames, *]) rfl) rfl rfl (ov_evt rfl) rfl (op_cons (sigma_own (a := 3) (by simp [ownNames, *]) rfl) rfl rfl (ov_opn userR rfl) rfl (op_cons (sigma_own (a := 4) (by simp [ownNames, *]) rfl) rfl rfl (ov_opn addrR rfl) rfl (op_cons (sigma_own (a := 5) (by simp [ownNames, *]) rfl) rfl rfl (ov_opn (intR .i64) rfl) rfl op_nil)))))) (told_of (by simp [ownNames]))
theorem riseb_no (h : TurnB V t c e u a p cf ev s) (hg : ¬ (0 ≤ s.boots ∧ s.boots ≤ 1073741822)) :
    Tri Tryz.prog 68 [.pointer (some ⟨t, 1, none⟩)] n 0 V (fun r L => r = .bool false ∧ L = []) := by
  obtain ⟨ht, hc, he, hu, ha, hp, hn⟩ := h
  simp only [List.nodup_cons, List.mem_cons, List.not_mem_nil, or_false, not_or, List.nodup_nil, and_true, not_false_eq_true] at hn
  obtain ⟨⟨d1, d2, d3, d4, d5⟩, ⟨e1, e2, e3, e4⟩, ⟨f1, f2, f3⟩, ⟨g1, g2⟩, i1⟩ := hn
  refine reads_of_vw (K := 6) (argsI := [.pointer (some ⟨0, 1, none⟩)]) tab Tryz.func68 rfl rfl (by simp [Tryz.f68]) [.own t, .own c, .own e, .own u, .own a, .own p] [turnB 1 3 4 5 2 s, confO cf, evtO ev, .opn (userR.cells s.users) 76 9, .opn (addrR.cells s.addrs) 80 3, .opn ((intR .i64).cells s.spent) 3 1] rfl (.own ht (ov_turn3 rfl (rel_ptr rfl) (rel_slice rfl rfl) .nilSlice (rel_slice rfl rfl) (rel_slice rfl rfl) (rel_ptr rfl)) (.own hc (ov_conf rfl) (.own he (ov_evt rfl) (.own hu (ov_opn userR rfl) (.own ha (ov_opn addrR rfl) (.own hp (ov_opn (intR .i64) rfl) .nil)))))) (by simp [ownNames, *]) (by simp [ownNames, lookNames, *]) (al_cons (.val (rel_ptr rfl)) al_nil) (seen_of (sn_own (sn_own (sn_own (sn_own (sn_own (sn_own sn_nil))))))) (.bool _) ?_
  have hb : betw s.boots 0 1073741822 = false := by
    unfold betw
    by_cases h : 0 ≤ s.boots
    · rw [decide_eq_false (show ¬ s.boots ≤ 1073741822 from fun q => hg ⟨h, q⟩), Bool.and_false]
    · rw [decide_eq_false h, Bool.false_and]
  refine wsq (wrg (vQ tab rfl (vnl (qth (wsq (wsq (wrg (vQ3 tab rfl rfl rfl (vF rfl callable_39 (betw_fun _ _ _) (vQ tab rfl (vnl (qth (vcd_true rfl (by simp only [hb, sl_]; first | done | omega) ?_)))))))))))))
  refine wsq (wrg (vQ tab rfl (vnl (qth (vw_ret (q_thenr ?_))))))
  exact ⟨⟨.inr rfl, rfl⟩, fun _ => rfl, fun _ => rfl, fun _ => rfl, fun _ => rfl, fun _ => rfl, fun _ => rfl, trivial⟩
theorem boot_ok {R : Option (List AddrV)} {fin : List AddrV} (h : TurnAt V t c e u x a p cf ev s) (hi : ∀ i ∈ [t, c, e, u, x, a, p], i < n) (hb3 : s.addrs.length * 24 ≤ 140737488355328) (hb2 : s.sess.length * 32 ≤ 140737488355328) (hR : freeAll (IntKind.i64.wrap (ev.tick + cf.quarantine)) s.sess s.addrs = R) (hE : R = some fin) (hg : 0 ≤ s.boots ∧ s.boots ≤ 1073741822) :
    Tri Tryz.prog 48 [.pointer (some ⟨t, 0, none⟩)] n 4 V (fun r L => r = .bool true ∧ L = turnL t c e u x a p n { s with boots := s.boots + 1, addrs := fin, sess := [] }) := by
  obtain ⟨ht, hc, he, hu, hx, ha, hp, hn⟩ := h
  simp only [List.nodup_cons, List.mem_cons, List.not_mem_nil, or_false, not_or, List.nodup_nil, and_true, not_false_eq_true] at hn
  obtain ⟨⟨d1, d2, d3, d4, d5, d6⟩, ⟨e1, e2, e3, e4, e5⟩, ⟨f1, f2, f3, f4⟩, ⟨g1, g2, g3⟩, ⟨i1, i2⟩, j1⟩ := hn
  simp only [List.mem_cons, List.not_mem_nil, or_false, forall_eq_or_imp, forall_eq] at hi
  obtain ⟨l1, l2, l3, l4, l5, l6, l7⟩ := hi
  refine call_of_vw (K := 7) (argsI := [.pointer (some ⟨0, 0, none⟩)]) tab Tryz.func48 rfl rfl (by simp [Tryz.f48]) [.own t, .own c, .own e, .own u, .own x, .own a, .own p] [turnO 1 3 4 5 6 2 s, confO cf, evtO ev, .opn (userR.cells s.users) 76 9, .opn (sessR.cells s.sess) 78 4, .opn (addrR.cells s.addrs) 80 3, .opn ((intR .i64).cells s.spent) 3 1] rfl (.own ht (ov_turn rfl (rel_ptr rfl) (rel_slice rfl rfl) (rel_slice rfl rfl) (rel_slice rfl rfl) (rel_slice rfl rfl) (rel_ptr rfl)) (.own hc (ov_conf rfl) (.own he (ov_evt rfl) (.own hu (ov_opn userR rfl) (.own hx (ov_opn sessR rfl) (.own ha (ov_opn addrR rfl) (.own hp (ov_opn (intR .i64) rfl) .nil))))))) (by simp [ownNames, *]) (by simp [ownNames, lookNames, *]) (by simp [ownNames, *]) (al_cons (.val (rel_ptr rfl)) al_nil) (seen_of (sn_own (sn_own (sn_own (sn_own (sn_own (sn_own (sn_own sn_nil)))))))) ?_
  refine wsq (wrg (vQ tab rfl (vnl (qth (wsq (wsq (wrg (vQ4 tab rfl rfl rfl rfl (vQ3 tab rfl rfl rfl (vnl (qth (wbk ?_))))))))))))
  refine vw_loop_sub (fun k st => ∃ (j : Int) (aa : List AddrV), 0 ≤ j ∧ j ≤ s.sess.length ∧ aa.length = s.addrs.length ∧ freeAll (IntKind.i64.wrap (ev.tick + cf.quarantine)) (s.sess.drop j.toNat) aa = R ∧ k = (s.sess.length - j).toNat ∧
      ((j = 0 ∧ aa = s.addrs ∧ st = ⟨[(0, .pointer (some ⟨0, 0, none⟩)), (9, .slice (some ⟨4, 0, none⟩) s.sess.length 0), (10, .int .i64 s.sess.length), (11, .int .i64 j)], lkp [(0, turnO 1 3 4 5 6 2 { s with addrs := s.addrs }), (1, confO cf), (2, evtO ev), (3, .opn (userR.cells s.users) 76 9), (4, .opn (sessR.cells s.sess) 78 4), (6, .opn ((intR .i64).cells s.spent) 3 1), (5, .opn (addrR.cells s.addrs) 80 3)], 7⟩) ∨ st = ⟨[(0, .pointer (some ⟨0, 0, none⟩)), (9, .slice (some ⟨4, 0, none⟩) s.sess.length 0), (10, .int .i64 s.sess.length), (11, .int .i64 j)], lkp [(0, turnO 1 3 4 7 6 2 { s with addrs := aa }), (1, confO cf), (2, evtO ev), (3, .opn (userR.cells s.users) 76 9), (4, .opn (sessR.cells s.sess) 78 4), (6, .opn ((intR .i64).cells s.spent) 3 1), (7, .opn (addrR.cells aa) 80 3)], 8⟩)) (s.sess.length - 0)
    ⟨_, (sub_of (g := 7) [] (by decide) (by decide) (by repeat' first | exact ep_nil | exact ov_turn3 rfl (rel_ptr rfl) (rel_slice rfl rfl) (rel_slice rfl rfl) (rel_slice rfl (by simp [*])) (rel_slice rfl rfl) (rel_ptr rfl) | exact ov_conf rfl | exact ov_evt rfl | refine ep_cons rfl ?_ ?_ | exact .int _ _ | exact .bool _ | exact .string _ | exact rel_slice rfl rfl | exact rel_nil rfl rfl | exact rel_ptr rfl | exact .nilPtr | exact .nilIface | exact .nilSlice) (by repeat' first | exact hp_nil | exact ov_turn3 rfl (rel_ptr rfl) (rel_slice rfl rfl) (rel_slice rfl rfl) (rel_slice rfl (by simp [*])) (rel_slice rfl rfl) (rel_ptr rfl) | exact ov_conf rfl | exact ov_evt rfl | refine hp_cons rfl rfl ?_ ?_ | refine hp_void rfl rfl ?_ | exact ov_win _ | exact ov_opn _ rfl | exact ov_cells _ _ (by decide))), 0, s.addrs, by omega, by omega, rfl, by simpa using hR, by simp, .inl ⟨rfl, rfl, rfl⟩⟩ ?_
  rintro k st ⟨j, aa, h0, h1, hl, hf, rfl, hst⟩
  by_cases hj : j < (s.sess.length : Int)
  case neg =>
    rw [List.drop_eq_nil_of_le (by omega)] at hf
    have hf : some aa = R := hf
    rw [hE] at hf; rw [← Option.some.inj hf]
    rcases hst with ⟨rfl, rfl, rfl⟩ | rfl
    · refine wsq (wrg (vQ tab rfl (vnl (qth (wsq (vcd_false rfl (by simp only [sl_]; first | done | omega) ?_))))))
      refine vw_exit (q_thenx (q_thenx (q_here (qth (wsq (wrg (vQ4 tab rfl rfl rfl rfl (vS tab rfl (vnl (qth (wsq (wrg (vQ4 tab rfl rfl rfl rfl (vT rfl callable_68 (riseb_ok (s := { s with sess := [], addrs := s.addrs }) (cf := cf) (ev := ev) ⟨rfl, rfl, rfl, rfl, rfl, rfl, by decide⟩ (by decide) hg) ?_))))))))))))))
      refine vQ tab rfl (vnl (qth (vw_ret ?_)))
      exact out_mk [3, NIL, 5, 6] (.inr rfl) ⟨rfl, rfl⟩ rfl (.bool _)
        (op_cons (sigma_own (a := 0) (by simp [ownNames, *]) rfl) rfl rfl (ov_turn3 rfl (rel_ptr (sigma_own (a := 1) (by simp [ownNames, *]) rfl)) (rel_slice (sigma_at (i := 0) (by simp [ownNames, *]) rfl) rfl) (rel_nil (sigma_none (i := 1) (by simp [ownNames, *]) rfl) rfl) (rel_slice (sigma_at (i := 2) (by simp [ownNames, *]) rfl) rfl) (rel_slice (sigma_at (i := 3) (by simp [ownNames, *]) rfl) rfl) (rel_ptr (sigma_own (a := 2) (by simp [ownNames, *]) rfl))) rfl
          (op_drop (op_drop (op_drop (op_drop (op_drop (op_drop (op_cons (sigma_at (i := 0) (by simp [ownNames, *]) rfl) rfl rfl (ov_opn userR rfl) rfl (op_void (sigma_none (i := 1) (by simp [ownNames, *]) rfl) rfl rfl rfl (op_cons (sigma_at (i := 2) (by simp [ownNames, *]) rfl) rfl rfl (ov_opn addrR rfl) rfl (op_cons (sigma_at (i := 3) (by simp [ownNames, *]) rfl) rfl rfl (ov_opn (intR .i64) rfl) rfl op_nil)))))))))))
        (told_of (by simp [ownNames, turnL]))
    · refine wsq (wrg (vQ tab rfl (vnl (qth (wsq (vcd_false rfl (by simp only [sl_]; first | done | omega) ?_))))))
      refine vw_exit (q_thenx (q_thenx (q_here (qth (wsq (wrg (vQ4 tab rfl rfl rfl rfl (vS tab rfl (vnl (qth (wsq (wrg (vQ4 tab rfl rfl rfl rfl (vT rfl callable_68 (riseb_ok (s := { s with sess := [], addrs := aa }) (cf := cf) (ev := ev) ⟨rfl, rfl, rfl, rfl, rfl, rfl, by decide⟩ (by decide) hg) ?_))))))))))))))
      refine vQ tab rfl (vnl (qth (vw_ret ?_)))
      exact out_mk [3, NIL, 7, 6] (.inr rfl) ⟨rfl, rfl⟩ rfl (.bool _)
        (op_cons (sigma_own (a := 0) (by simp [ownNames, *]) rfl) rfl rfl (ov_turn3 rfl (rel_ptr (sigma_own (a := 1) (by simp [ownNames, *]) rfl)) (rel_slice (sigma_at (i := 0) (by simp [ownNames, *]) rfl) rfl) (rel_nil (sigma_none (i := 1) (by simp [ownNames, *]) rfl) rfl) (rel_slice (sigma_at (i := 2) (by simp [ownNames, *]) rfl) rfl) (rel_slice (sigma_at (i := 3) (by simp [ownNames, *]) rfl) rfl) (rel_ptr (sigma_own (a := 2) (by simp [ownNames, *]) rfl))) rfl
          (op_drop (op_drop (op_drop (op_drop (op_drop (op_drop (op_cons (sigma_at (i := 0) (by simp [ownNames, *]) rfl) rfl rfl (ov_opn userR rfl) rfl (op_void (sigma_none (i := 1) (by simp [ownNames, *]) rfl) rfl rfl rfl (op_cons (sigma_at (i := 2) (by simp [ownNames, *]) rfl) rfl rfl (ov_opn addrR rfl) rfl (op_cons (sigma_at (i := 3) (by simp [ownNames, *]) rfl) rfl rfl (ov_opn (intR .i64) rfl) rfl op_nil)))))))))))
        (told_of (by simp [ownNames, turnL]))
  obtain ⟨y, hy⟩ := get_some h0 hj
  have hi : IntKind.i64.wrap (j + 1) = j + 1 := i64_in _ (by omega)
  have hjn : (j + 1).toNat = j.toNat + 1 := by omega
  rw [freeAll_step hy] at hf
  cases hc1 : freeC aa y.address (IntKind.i64.wrap (ev.tick + cf.quarantine)) with
  | false =>
    rw [if_neg (by rw [hc1]; decide)] at hf
    rw [hE] at hf; cases hf
  | true =>
    rw [if_pos hc1] at hf
    have hl2 := freeA_lenOk hc1
    rcases hst with ⟨rfl, rfl, rfl⟩ | rfl
    · refine wsq (wrg (vQ tab rfl (vnl (qth (wsq (vcd_true rfl (by simp only [sl_]; first | done | omega) ?_))))))
      refine vw_skip (qth (wsq (wbk (wsq (wrg (vq_op tab rfl rfl rfl (ev_index rfl rfl rfl rfl rfl (by omega) (by omega)) ?_))))))
      refine vq_op tab rfl rfl rfl (ev_loadrow sessR rfl rfl rfl rfl rfl rfl hy) (vN tab rfl (vS tab rfl (vnl (qth (wsq (vw_draw mixed (dq_op tab rfl rfl rfl rfl (dq_op tab rfl rfl rfl rfl (dq_op tab rfl rfl rfl rfl (dq_op tab rfl rfl rfl rfl (dq_op tab rfl rfl rfl rfl (dq_op tab rfl rfl rfl rfl (dq_op tab rfl rfl rfl rfl (dq_op tab rfl rfl rfl rfl (dq_op tab rfl rfl rfl rfl (dq_op tab rfl rfl rfl rfl (dq_op tab rfl rfl rfl rfl (dq_op tab rfl rfl rfl rfl (dq_op tab rfl rfl rfl rfl (dq_op tab rfl rfl rfl rfl (dq_op tab rfl rfl rfl rfl (dq_op tab rfl rfl rfl rfl (dq_op tab rfl rfl rfl rfl ?_)))))))))))))))))))))))
      refine dq_op tab rfl rfl rfl rfl (dt_op [0, 1, 2, 3, 4, 5, 6] rfl rfl rfl rfl rfl callable_67 (free_ok (s := { s with addrs := s.addrs }) (cf := cf) (ev := ev) ⟨rfl, rfl, rfl, rfl, rfl, rfl, rfl, by decide⟩ (by decide) (by show s.addrs.length * 24 ≤ _; omega) hc1) ?_)
      refine dq_op tab rfl rfl rfl rfl (vd_nil (by kernel_rfl) ?_)
      refine qth (vc_false rfl (vw_skip (q_norm (qth (wrg (vQ2 tab rfl rfl (vnl (qth ?_))))))))
      exact ⟨((s.sess.length : Int) - (0 + 1)).toNat, _, by omega, (sub_of (g := 7) [8] (by decide) (by decide) (by repeat' first | exact ep_nil | exact ri hi.symm | exact ov_turn3 rfl (rel_ptr rfl) (rel_slice rfl rfl) (rel_slice rfl rfl) (rel_slice rfl (by simp [*])) (rel_slice rfl rfl) (rel_ptr rfl) | exact ov_conf rfl | exact ov_evt rfl | refine ep_cons rfl ?_ ?_ | exact .int _ _ | exact .bool _ | exact .string _ | exact rel_slice rfl rfl | exact rel_nil rfl rfl | exact rel_ptr rfl | exact .nilPtr | exact .nilIface | exact .nilSlice) (by repeat' first | exact hp_nil | exact ri hi.symm | exact ov_turn3 rfl (rel_ptr rfl) (rel_slice rfl rfl) (rel_slice rfl rfl) (rel_slice rfl (by simp [*])) (rel_slice rfl rfl) (rel_ptr rfl) | exact ov_conf rfl | exact ov_evt rfl | refine hp_cons rfl rfl ?_ ?_ | refine hp_void rfl rfl ?_ | exact ov_win _ | exact ov_opn _ rfl | exact ov_cells _ _ (by decide))), 0 + 1, _, by omega, by omega, by rw [hl2, hl], by rw [hjn]; exact hf, rfl, .inr rfl⟩
    · refine wsq (wrg (vQ tab rfl (vnl (qth (wsq (vcd_true rfl (by simp only [sl_]; first | done | omega) ?_))))))
      refine vw_skip (qth (wsq (wbk (wsq (wrg (vq_op tab rfl rfl rfl (ev_index rfl rfl rfl rfl rfl (by omega) (by omega)) ?_))))))
      refine vq_op tab rfl rfl rfl (ev_loadrow sessR rfl rfl rfl rfl rfl rfl hy) (vN tab rfl (vS tab rfl (vnl (qth (wsq (vw_draw mixed (dq_op tab rfl rfl rfl rfl (dq_op tab rfl rfl rfl rfl (dq_op tab rfl rfl rfl rfl (dq_op tab rfl rfl rfl rfl (dq_op tab rfl rfl rfl rfl (dq_op tab rfl rfl rfl rfl (dq_op tab rfl rfl rfl rfl (dq_op tab rfl rfl rfl rfl (dq_op tab rfl rfl rfl rfl (dq_op tab rfl rfl rfl rfl (dq_op tab rfl rfl rfl rfl (dq_op tab rfl rfl rfl rfl (dq_op tab rfl rfl rfl rfl (dq_op tab rfl rfl rfl rfl (dq_op tab rfl rfl rfl rfl (dq_op tab rfl rfl rfl rfl (dq_op tab rfl rfl rfl rfl ?_)))))))))))))))))))))))
      refine dq_op tab rfl rfl rfl rfl (dt_op [0, 1, 2, 3, 4, 7, 6] rfl rfl rfl rfl rfl callable_67 (free_ok (s := { s with addrs := aa }) (cf := cf) (ev := ev) ⟨rfl, rfl, rfl, rfl, rfl, rfl, rfl, by decide⟩ (by decide) (by show aa.length * 24 ≤ _; omega) hc1) ?_)
      refine dq_op tab rfl rfl rfl rfl (vd_nil (by kernel_rfl) ?_)
      refine qth (vc_false rfl (vw_skip (q_norm (qth (wrg (vQ2 tab rfl rfl (vnl (qth ?_))))))))
      exact ⟨(s.sess.length - (j + 1)).toNat, _, by omega, (sub_of (g := 7) [9] (by decide) (by decide) (by repeat' first | exact ep_nil | exact ri hi.symm | exact ov_turn3 rfl (rel_ptr rfl) (rel_slice rfl rfl) (rel_slice rfl rfl) (rel_slice rfl (by simp [*])) (rel_slice rfl rfl) (rel_ptr rfl) | exact ov_conf rfl | exact ov_evt rfl | refine ep_cons rfl ?_ ?_ | exact .int _ _ | exact .bool _ | exact .string _ | exact rel_slice rfl rfl | exact rel_nil rfl rfl | exact rel_ptr rfl | exact .nilPtr | exact .nilIface | exact .nilSlice) (by repeat' first | exact hp_nil | exact ri hi.symm | exact ov_turn3 rfl (rel_ptr rfl) (rel_slice rfl rfl) (rel_slice rfl rfl) (rel_slice rfl (by simp [*])) (rel_slice rfl rfl) (rel_ptr rfl) | exact ov_conf rfl | exact ov_evt rfl | refine hp_cons rfl rfl ?_ ?_ | refine hp_void rfl rfl ?_ | exact ov_win _ | exact ov_opn _ rfl | exact ov_cells _ _ (by decide))), j + 1, _, by omega, by omega, by rw [hl2, hl], by rw [hjn]; exact hf, rfl, .inr rfl⟩
theorem boot_no {R : Option (List AddrV)} (h : TurnAt V t c e u x a p cf ev s) (hi : ∀ i ∈ [t, c, e, u, x, a, p], i < n) (hb3 : s.addrs.length * 24 ≤ 140737488355328) (hb2 : s.sess.length * 32 ≤ 140737488355328) (hR : freeAll (IntKind.i64.wrap (ev.tick + cf.quarantine)) s.sess s.addrs = R) (hg : ∀ fin, R = some fin → ¬ (0 ≤ s.boots ∧ s.boots ≤ 1073741822)) :
    Tri Tryz.prog 48 [.pointer (some ⟨t, 0, none⟩)] n 0 V (fun r L => r = .bool false ∧ L = turnN t c e u x a p) := by
  obtain ⟨ht, hc, he, hu, hx, ha, hp, hn⟩ := h
  simp only [List.nodup_cons, List.mem_cons, List.not_mem_nil, or_false, not_or, List.nodup_nil, and_true, not_false_eq_true] at hn
  obtain ⟨⟨d1, d2, d3, d4, d5, d6⟩, ⟨e1, e2, e3, e4, e5⟩, ⟨f1, f2, f3, f4⟩, ⟨g1, g2, g3⟩, ⟨i1, i2⟩, j1⟩ := hn
  simp only [List.mem_cons, List.not_mem_nil, or_false, forall_eq_or_imp, forall_eq] at hi
  obtain ⟨l1, l2, l3, l4, l5, l6, l7⟩ := hi
  refine call_of_vw (K := 7) (argsI := [.pointer (some ⟨0, 0, none⟩)]) tab Tryz.func48 rfl rfl (by simp [Tryz.f48]) [.own t, .own c, .own e, .own u, .own x, .own a, .own p] [turnO 1 3 4 5 6 2 s, confO cf, evtO ev, .opn (userR.cells s.users) 76 9, .opn (sessR.cells s.sess) 78 4, .opn (addrR.cells s.addrs) 80 3, .opn ((intR .i64).cells s.spent) 3 1] rfl (.own ht (ov_turn rfl (rel_ptr rfl) (rel_slice rfl rfl) (rel_slice rfl rfl) (rel_slice rfl rfl) (rel_slice rfl rfl) (rel_ptr rfl)) (.own hc (ov_conf rfl) (.own he (ov_evt rfl) (.own hu (ov_opn userR rfl) (.own hx (ov_opn sessR rfl) (.own ha (ov_opn addrR rfl) (.own hp (ov_opn (intR .i64) rfl) .nil))))))) (by simp [ownNames, *]) (by simp [ownNames, lookNames, *]) (by simp [ownNames, *]) (al_cons (.val (rel_ptr rfl)) al_nil) (seen_of (sn_own (sn_own (sn_own (sn_own (sn_own (sn_own (sn_own sn_nil)))))))) ?_
  refine wsq (wrg (vQ tab rfl (vnl (qth (wsq (wsq (wrg (vQ4 tab rfl rfl rfl rfl (vQ3 tab rfl rfl rfl (vnl (qth (wbk ?_))))))))))))
  refine vw_loop_sub (fun k st => ∃ (j : Int) (aa : List AddrV), 0 ≤ j ∧ j ≤ s.sess.length ∧ aa.length = s.addrs.length ∧ freeAll (IntKind.i64.wrap (ev.tick + cf.quarantine)) (s.sess.drop j.toNat) aa = R ∧ k = (s.sess.length - j).toNat ∧
      ((j = 0 ∧ aa = s.addrs ∧ st = ⟨[(0, .pointer (some ⟨0, 0, none⟩)), (9, .slice (some ⟨4, 0, none⟩) s.sess.length 0), (10, .int .i64 s.sess.length), (11, .int .i64 j)], lkp [(0, turnO 1 3 4 5 6 2 { s with addrs := s.addrs }), (1, confO cf), (2, evtO ev), (3, .opn (userR.cells s.users) 76 9), (4, .opn (sessR.cells s.sess) 78 4), (6, .opn ((intR .i64).cells s.spent) 3 1), (5, .opn (addrR.cells s.addrs) 80 3)], 7⟩) ∨ st = ⟨[(0, .pointer (some ⟨0, 0, none⟩)), (9, .slice (some ⟨4, 0, none⟩) s.sess.length 0), (10, .int .i64 s.sess.length), (11, .int .i64 j)], lkp [(0, turnO 1 3 4 7 6 2 { s with addrs := aa }), (1, confO cf), (2, evtO ev), (3, .opn (userR.cells s.users) 76 9), (4, .opn (sessR.cells s.sess) 78 4), (6, .opn ((intR .i64).cells s.spent) 3 1), (7, .opn (addrR.cells aa) 80 3)], 8⟩)) (s.sess.length - 0)
    ⟨_, (sub_of (g := 7) [] (by decide) (by decide) (by repeat' first | exact ep_nil | exact ov_turn3 rfl (rel_ptr rfl) (rel_slice rfl rfl) (rel_slice rfl rfl) (rel_slice rfl (by simp [*])) (rel_slice rfl rfl) (rel_ptr rfl) | exact ov_conf rfl | exact ov_evt rfl | refine ep_cons rfl ?_ ?_ | exact .int _ _ | exact .bool _ | exact .string _ | exact rel_slice rfl rfl | exact rel_nil rfl rfl | exact rel_ptr rfl | exact .nilPtr | exact .nilIface | exact .nilSlice) (by repeat' first | exact hp_nil | exact ov_turn3 rfl (rel_ptr rfl) (rel_slice rfl rfl) (rel_slice rfl rfl) (rel_slice rfl (by simp [*])) (rel_slice rfl rfl) (rel_ptr rfl) | exact ov_conf rfl | exact ov_evt rfl | refine hp_cons rfl rfl ?_ ?_ | refine hp_void rfl rfl ?_ | exact ov_win _ | exact ov_opn _ rfl | exact ov_cells _ _ (by decide))), 0, s.addrs, by omega, by omega, rfl, by simpa using hR, by simp, .inl ⟨rfl, rfl, rfl⟩⟩ ?_
  rintro k st ⟨j, aa, h0, h1, hl, hf, rfl, hst⟩
  by_cases hj : j < (s.sess.length : Int)
  case neg =>
    rw [List.drop_eq_nil_of_le (by omega)] at hf
    have hf : some aa = R := hf
    rcases hst with ⟨rfl, rfl, rfl⟩ | rfl
    · refine wsq (wrg (vQ tab rfl (vnl (qth (wsq (vcd_false rfl (by simp only [sl_]; first | done | omega) ?_))))))
      refine vw_exit (q_thenx (q_thenx (q_here (qth (wsq (wrg (vQ4 tab rfl rfl rfl rfl (vS tab rfl (vnl (qth (wsq (wrg (vQ4 tab rfl rfl rfl rfl (vT rfl callable_68 (riseb_no (s := { s with sess := [], addrs := s.addrs }) (cf := cf) (ev := ev) ⟨rfl, rfl, rfl, rfl, rfl, rfl, by decide⟩ (hg _ hf.symm)) (vQ tab rfl (vnl (qth ?_)))))))))))))))))
      refine vw_ret ?_
      exact out_mk [] (.inr rfl) ⟨rfl, rfl⟩ rfl (.bool _) (op_drop (op_drop (op_drop (op_drop (op_drop (op_drop (op_drop op_nil))))))) (told_of (by simp [ownNames, turnN]))
    · refine wsq (wrg (vQ tab rfl (vnl (qth (wsq (vcd_false rfl (by simp only [sl_]; first | done | omega) ?_))))))
      refine vw_exit (q_thenx (q_thenx (q_here (qth (wsq (wrg (vQ4 tab rfl rfl rfl rfl (vS tab rfl (vnl (qth (wsq (wrg (vQ4 tab rfl rfl rfl rfl (vT rfl callable_68 (riseb_no (s := { s with sess := [], addrs := aa }) (cf := cf) (ev := ev) ⟨rfl, rfl, rfl, rfl, rfl, rfl, by decide⟩ (hg _ hf.symm)) (vQ tab rfl (vnl (qth ?_)))))))))))))))))
      refine vw_ret ?_
      exact out_mk [] (.inr rfl) ⟨rfl, rfl⟩ rfl (.bool _) (op_drop (op_drop (op_drop (op_drop (op_drop (op_drop (op_drop op_nil))))))) (told_of (by simp [ownNames, turnN]))
  obtain ⟨y, hy⟩ := get_some h0 hj
  have hi : IntKind.i64.wrap (j + 1) = j + 1 := i64_in _ (by omega)
  have hjn : (j + 1).toNat = j.toNat + 1 := by omega
  rw [freeAll_step hy] at hf
  cases hc1 : freeC aa y.address (IntKind.i64.wrap (ev.tick + cf.quarantine)) with
  | false =>
    rw [if_neg (by rw [hc1]; decide)] at hf
    rcases hst with ⟨rfl, rfl, rfl⟩ | rfl
    · refine wsq (wrg (vQ tab rfl (vnl (qth (wsq (vcd_true rfl (by simp only [sl_]; first | done | omega) ?_))))))
      refine vw_skip (qth (wsq (wbk (wsq (wrg (vq_op tab rfl rfl rfl (ev_index rfl rfl rfl rfl rfl (by omega) (by omega)) ?_))))))
      refine vq_op tab rfl rfl rfl (ev_loadrow sessR rfl rfl rfl rfl rfl rfl hy) (vN tab rfl (vS tab rfl (vnl (qth (wsq (vw_draw mixed (dq_op tab rfl rfl rfl rfl (dq_op tab rfl rfl rfl rfl (dq_op tab rfl rfl rfl rfl (dq_op tab rfl rfl rfl rfl (dq_op tab rfl rfl rfl rfl (dq_op tab rfl rfl rfl rfl (dq_op tab rfl rfl rfl rfl (dq_op tab rfl rfl rfl rfl (dq_op tab rfl rfl rfl rfl (dq_op tab rfl rfl rfl rfl (dq_op tab rfl rfl rfl rfl (dq_op tab rfl rfl rfl rfl (dq_op tab rfl rfl rfl rfl (dq_op tab rfl rfl rfl rfl (dq_op tab rfl rfl rfl rfl (dq_op tab rfl rfl rfl rfl (dq_op tab rfl rfl rfl rfl ?_)))))))))))))))))))))))
      refine dq_op tab rfl rfl rfl rfl (dt_op [0, 1, 2, 3, 4, 5, 6] rfl rfl rfl rfl rfl callable_67 (free_no (s := { s with addrs := s.addrs }) (cf := cf) (ev := ev) ⟨rfl, rfl, rfl, rfl, rfl, rfl, rfl, by decide⟩ (by decide) (by show s.addrs.length * 24 ≤ _; omega) hc1) ?_)
      refine dq_op tab rfl rfl rfl rfl (vd_nil (by kernel_rfl) ?_)
      refine qth (vc_true rfl (wsq (wrg (vQ tab rfl (vnl (qth (vw_ret (q_ret (q_thenr (q_thenr (q_ret (q_thenr ?_))))))))))))
      exact out_mk [] (.inr rfl) ⟨rfl, rfl⟩ rfl (.bool _) (op_drop (op_drop (op_drop (op_drop (op_drop (op_drop (op_drop op_nil))))))) (told_of (by simp [ownNames, turnN]))
    · refine wsq (wrg (vQ tab rfl (vnl (qth (wsq (vcd_true rfl (by simp only [sl_]; first | done | omega) ?_))))))
      refine vw_skip (qth (wsq (wbk (wsq (wrg (vq_op tab rfl rfl rfl (ev_index rfl rfl rfl rfl rfl (by omega) (by omega)) ?_))))))
      refine vq_op tab rfl rfl rfl (ev_loadrow sessR rfl rfl rfl rfl rfl rfl hy) (vN tab rfl (vS tab rfl (vnl (qth (wsq (vw_draw mixed (dq_op tab rfl rfl rfl rfl (dq_op tab rfl rfl rfl rfl (dq_op tab rfl rfl rfl rfl (dq_op tab rfl rfl rfl rfl (dq_op tab rfl rfl rfl rfl (dq_op tab rfl rfl rfl rfl (dq_op tab rfl rfl rfl rfl (dq_op tab rfl rfl rfl rfl (dq_op tab rfl rfl rfl rfl (dq_op tab rfl rfl rfl rfl (dq_op tab rfl rfl rfl rfl (dq_op tab rfl rfl rfl rfl (dq_op tab rfl rfl rfl rfl (dq_op tab rfl rfl rfl rfl (dq_op tab rfl rfl rfl rfl (dq_op tab rfl rfl rfl rfl (dq_op tab rfl rfl rfl rfl ?_)))))))))))))))))))))))
      refine dq_op tab rfl rfl rfl rfl (dt_op [0, 1, 2, 3, 4, 7, 6] rfl rfl rfl rfl rfl callable_67 (free_no (s := { s with addrs := aa }) (cf := cf) (ev := ev) ⟨rfl, rfl, rfl, rfl, rfl, rfl, rfl, by decide⟩ (by decide) (by show aa.length * 24 ≤ _; omega) hc1) ?_)
      refine dq_op tab rfl rfl rfl rfl (vd_nil (by kernel_rfl) ?_)
      refine qth (vc_true rfl (wsq (wrg (vQ tab rfl (vnl (qth (vw_ret (q_ret (q_thenr (q_thenr (q_ret (q_thenr ?_))))))))))))
      exact out_mk [] (.inr rfl) ⟨rfl, rfl⟩ rfl (.bool _) (op_drop (op_drop (op_drop (op_drop (op_drop (op_drop (op_drop op_nil))))))) (told_of (by simp [ownNames, turnN]))
  | true =>
    rw [if_pos hc1] at hf
    have hl2 := freeA_lenOk hc1
    rcases hst with ⟨rfl, rfl, rfl⟩ | rfl
    · refine wsq (wrg (vQ tab rfl (vnl (qth (wsq (vcd_true rfl (by simp only [sl_]; first | done | omega) ?_))))))
      refine vw_skip (qth (wsq (wbk (wsq (wrg (vq_op tab rfl rfl rfl (ev_index rfl rfl rfl rfl rfl (by omega) (by omega)) ?_))))))
      refine vq_op tab rfl rfl rfl (ev_loadrow sessR rfl rfl rfl rfl rfl rfl hy) (vN tab rfl (vS tab rfl (vnl (qth (wsq (vw_draw mixed (dq_op tab rfl rfl rfl rfl (dq_op tab rfl rfl rfl rfl (dq_op tab rfl rfl rfl rfl (dq_op tab rfl rfl rfl rfl (dq_op tab rfl rfl rfl rfl (dq_op tab rfl rfl rfl rfl (dq_op tab rfl rfl rfl rfl (dq_op tab rfl rfl rfl rfl (dq_op tab rfl rfl rfl rfl (dq_op tab rfl rfl rfl rfl (dq_op tab rfl rfl rfl rfl (dq_op tab rfl rfl rfl rfl (dq_op tab rfl rfl rfl rfl (dq_op tab rfl rfl rfl rfl (dq_op tab rfl rfl rfl rfl (dq_op tab rfl rfl rfl rfl (dq_op tab rfl rfl rfl rfl ?_)))))))))))))))))))))))
      refine dq_op tab rfl rfl rfl rfl (dt_op [0, 1, 2, 3, 4, 5, 6] rfl rfl rfl rfl rfl callable_67 (free_ok (s := { s with addrs := s.addrs }) (cf := cf) (ev := ev) ⟨rfl, rfl, rfl, rfl, rfl, rfl, rfl, by decide⟩ (by decide) (by show s.addrs.length * 24 ≤ _; omega) hc1) ?_)
      refine dq_op tab rfl rfl rfl rfl (vd_nil (by kernel_rfl) ?_)
      refine qth (vc_false rfl (vw_skip (q_norm (qth (wrg (vQ2 tab rfl rfl (vnl (qth ?_))))))))
      exact ⟨((s.sess.length : Int) - (0 + 1)).toNat, _, by omega, (sub_of (g := 7) [8] (by decide) (by decide) (by repeat' first | exact ep_nil | exact ri hi.symm | exact ov_turn3 rfl (rel_ptr rfl) (rel_slice rfl rfl) (rel_slice rfl rfl) (rel_slice rfl (by simp [*])) (rel_slice rfl rfl) (rel_ptr rfl) | exact ov_conf rfl | exact ov_evt rfl | refine ep_cons rfl ?_ ?_ | exact .int _ _ | exact .bool _ | exact .string _ | exact rel_slice rfl rfl | exact rel_nil rfl rfl | exact rel_ptr rfl | exact .nilPtr | exact .nilIface | exact .nilSlice) (by repeat' first | exact hp_nil | exact ri hi.symm | exact ov_turn3 rfl (rel_ptr rfl) (rel_slice rfl rfl) (rel_slice rfl rfl) (rel_slice rfl (by simp [*])) (rel_slice rfl rfl) (rel_ptr rfl) | exact ov_conf rfl | exact ov_evt rfl | refine hp_cons rfl rfl ?_ ?_ | refine hp_void rfl rfl ?_ | exact ov_win _ | exact ov_opn _ rfl | exact ov_cells _ _ (by decide))), 0 + 1, _, by omega, by omega, by rw [hl2, hl], by rw [hjn]; exact hf, rfl, .inr rfl⟩
    · refine wsq (wrg (vQ tab rfl (vnl (qth (wsq (vcd_true rfl (by simp only [sl_]; first | done | omega) ?_))))))
      refine vw_skip (qth (wsq (wbk (wsq (wrg (vq_op tab rfl rfl rfl (ev_index rfl rfl rfl rfl rfl (by omega) (by omega)) ?_))))))
      refine vq_op tab rfl rfl rfl (ev_loadrow sessR rfl rfl rfl rfl rfl rfl hy) (vN tab rfl (vS tab rfl (vnl (qth (wsq (vw_draw mixed (dq_op tab rfl rfl rfl rfl (dq_op tab rfl rfl rfl rfl (dq_op tab rfl rfl rfl rfl (dq_op tab rfl rfl rfl rfl (dq_op tab rfl rfl rfl rfl (dq_op tab rfl rfl rfl rfl (dq_op tab rfl rfl rfl rfl (dq_op tab rfl rfl rfl rfl (dq_op tab rfl rfl rfl rfl (dq_op tab rfl rfl rfl rfl (dq_op tab rfl rfl rfl rfl (dq_op tab rfl rfl rfl rfl (dq_op tab rfl rfl rfl rfl (dq_op tab rfl rfl rfl rfl (dq_op tab rfl rfl rfl rfl (dq_op tab rfl rfl rfl rfl (dq_op tab rfl rfl rfl rfl ?_)))))))))))))))))))))))
      refine dq_op tab rfl rfl rfl rfl (dt_op [0, 1, 2, 3, 4, 7, 6] rfl rfl rfl rfl rfl callable_67 (free_ok (s := { s with addrs := aa }) (cf := cf) (ev := ev) ⟨rfl, rfl, rfl, rfl, rfl, rfl, rfl, by decide⟩ (by decide) (by show aa.length * 24 ≤ _; omega) hc1) ?_)
      refine dq_op tab rfl rfl rfl rfl (vd_nil (by kernel_rfl) ?_)
      refine qth (vc_false rfl (vw_skip (q_norm (qth (wrg (vQ2 tab rfl rfl (vnl (qth ?_))))))))
      exact ⟨(s.sess.length - (j + 1)).toNat, _, by omega, (sub_of (g := 7) [9] (by decide) (by decide) (by repeat' first | exact ep_nil | exact ri hi.symm | exact ov_turn3 rfl (rel_ptr rfl) (rel_slice rfl rfl) (rel_slice rfl rfl) (rel_slice rfl (by simp [*])) (rel_slice rfl rfl) (rel_ptr rfl) | exact ov_conf rfl | exact ov_evt rfl | refine ep_cons rfl ?_ ?_ | exact .int _ _ | exact .bool _ | exact .string _ | exact rel_slice rfl rfl | exact rel_nil rfl rfl | exact rel_ptr rfl | exact .nilPtr | exact .nilIface | exact .nilSlice) (by repeat' first | exact hp_nil | exact ri hi.symm | exact ov_turn3 rfl (rel_ptr rfl) (rel_slice rfl rfl) (rel_slice rfl rfl) (rel_slice rfl (by simp [*])) (rel_slice rfl rfl) (rel_ptr rfl) | exact ov_conf rfl | exact ov_evt rfl | refine hp_cons rfl rfl ?_ ?_ | refine hp_void rfl rfl ?_ | exact ov_win _ | exact ov_opn _ rfl | exact ov_cells _ _ (by decide))), j + 1, _, by omega, by omega, by rw [hl2, hl], by rw [hjn]; exact hf, rfl, .inr rfl⟩
end
end Go.Proofs.YtcjfidfealifhaaGreat
namespace Go.Proofs.YtcjfidfealifhaaGreat
open Go Vm IntWalk
set_option linter.unusedVariables false
set_option linter.unusedSimpArgs false
set_option maxHeartbeats 16000000
def ofU (c : ConfV) (e : EventV) (u : UserV) : Option UserV :=
  if e.kind = 7 then (if 0 ≤ u.gen ∧ u.gen ≤ 1073741822 then some { u with gen := u.gen + 1 } else none)
  else if e.kind = 2 then (match failR u.fails u.until_ e.tick c.fails c.lockout with
    | (f, t, r) => if r = 0 then some { u with fails := f, until_ := t } else none)
  else if e.kind = 3 then (if e.a ≤ u.step then none else some { u with step := e.a, fails := 0, until_ := 0 })
  else some { u with fails := 0, until_ := 0 }
theorem ofE_eq {c : ConfV} {s : StV} {e : EventV} {j : Nat} {u : UserV} (h : userAt s.users e.user = some j) (hu : s.users[j]? = some u) : ofE c s e = (ofU c e u).map fun y => { s with users := s.users.set j y } := by
  unfold ofE ofU; rw [h]; simp only [hu]
  by_cases h7 : e.kind = 7
  · simp only [if_pos h7]; split <;> rfl
  simp only [if_neg h7]
  by_cases h2 : e.kind = 2
  · simp only [if_pos h2]; split <;> rfl
  simp only [if_neg h2]
  by_cases h3 : e.kind = 3
  · simp only [if_pos h3]; split <;> rfl
  simp only [if_neg h3]; rfl
theorem ofE_none {c : ConfV} {s : StV} {e : EventV} (h : userAt s.users e.user = none) : ofE c s e = none := by unfold ofE; rw [h]
section
variable {V : Heap} {n t c e u x a p : Nat} {cf : ConfV} {ev : EventV} {s : StV}
theorem of_nil (h : TurnAt V t c e u x a p cf ev s) (hi : ∀ i ∈ [t, c, e, u, x, a, p], i < n) :
    Tri Tryz.prog 54 [.pointer (some ⟨t, 0, none⟩), .pointer none] n 0 V (fun r L => r = .bool false ∧ L = turnN t c e u x a p) := by
  obtain ⟨ht, hc, he, hu, hx, ha, hp, hn⟩ := h
  simp only [List.nodup_cons, List.mem_cons, List.not_mem_nil, or_false, not_or, List.nodup_nil, and_true, not_false_eq_true] at hn
  obtain ⟨⟨d1, d2, d3, d4, d5, d6⟩, ⟨e1, e2, e3, e4, e5⟩, ⟨f1, f2, f3, f4⟩, ⟨g1, g2, g3⟩, ⟨i1, i2⟩, j1⟩ := hn
  simp only [List.mem_cons, List.not_mem_nil, or_false, forall_eq_or_imp, forall_eq] at hi
  obtain ⟨l1, l2, l3, l4, l5, l6, l7⟩ := hi
  refine call_of_vw (K := 7) (argsI := [.pointer (some ⟨0, 0, none⟩), .pointer none]) tab Tryz.func54 rfl rfl (by simp [Tryz.f54]) [.own t, .own c, .own e, .own u, .own x, .own a, .own p] [turnO 1 3 4 5 6 2 s, confO cf, evtO ev, .opn (userR.cells s.users) 76 9, .opn (sessR.cells s.sess) 78 4, .opn (addrR.cells s.addrs) 80 3, .opn ((intR .i64).cells s.spent) 3 1] rfl (.own ht (ov_turn rfl (rel_ptr rfl) (rel_slice rfl rfl) (rel_slice rfl rfl) (rel_slice rfl rfl) (rel_slice rfl rfl) (rel_ptr rfl)) (.own hc (ov_conf rfl) (.own he (ov_evt rfl) (.own hu (ov_opn userR rfl) (.own hx (ov_opn sessR rfl) (.own ha (ov_opn addrR rfl) (.own hp (ov_opn (intR .i64) rfl) .nil))))))) (by simp [ownNames, *]) (by simp [ownNames, lookNames, *]) (by simp [ownNames, *]) (al_cons (.val (rel_ptr rfl)) (al_cons (.val (.nilPtr)) al_nil)) (seen_of (sn_own (sn_own (sn_own (sn_own (sn_own (sn_own (sn_own sn_nil)))))))) ?_
  refine wsq (wrg (vQ tab rfl (vnl (qth (wsq (wsq (wrg (vQ2 tab rfl rfl (vnl (qth (vc_true rfl (wsq (wrg (vQ tab rfl (vnl (qth (vw_ret (q_thenr ?_))))))))))))))))))
  exact out_mk [] (.inr rfl) ⟨rfl, rfl⟩ rfl (.bool _) (op_drop (op_drop (op_drop (op_drop (op_drop (op_drop (op_drop op_nil))))))) (told_of (by simp [ownNames, turnN]))
theorem of_ok {j : Nat} {y y' : UserV} (h : TurnAt V t c e u x a p cf ev s) (hi : ∀ i ∈ [t, c, e, u, x, a, p], i < n) (hj : s.users[j]? = some y) (hk : ev.kind = 2 ∨ ev.kind = 3 ∨ ev.kind = 4 ∨ ev.kind = 7) (hE : ofU cf ev y = some y') :
    Tri Tryz.prog 54 [.pointer (some ⟨t, 0, none⟩), .pointer (some ⟨u, 0 + j * 9, none⟩)] n 4 V (fun r L => r = .bool true ∧ L = turnL t c e u x a p n { s with users := s.users.set j y' }) := by
  obtain ⟨ht, hc, he, hu, hx, ha, hp, hn⟩ := h
  simp only [List.nodup_cons, List.mem_cons, List.not_mem_nil, or_false, not_or, List.nodup_nil, and_true, not_false_eq_true] at hn
  obtain ⟨⟨d1, d2, d3, d4, d5, d6⟩, ⟨e1, e2, e3, e4, e5⟩, ⟨f1, f2, f3, f4⟩, ⟨g1, g2, g3⟩, ⟨i1, i2⟩, j1⟩ := hn
  simp only [List.mem_cons, List.not_mem_nil, or_false, forall_eq_or_imp, forall_eq] at hi
  obtain ⟨l1, l2, l3, l4, l5, l6, l7⟩ := hi
  refine call_of_vw (K := 7) (argsI := [.pointer (some ⟨0, 0, none⟩), .pointer (some ⟨3, 0 + j * 9, none⟩)]) tab Tryz.func54 rfl rfl (by simp [Tryz.f54]) [.own t, .own c, .own e, .own u, .own x, .own a, .own p] [turnO 1 3 4 5 6 2 s, confO cf, evtO ev, .opn (userR.cells s.users) 76 9, .opn (sessR.cells s.sess) 78 4, .opn (addrR.cells s.addrs) 80 3, .opn ((intR .i64).cells s.spent) 3 1] rfl (.own ht (ov_turn rfl (rel_ptr rfl) (rel_slice rfl rfl) (rel_slice rfl rfl) (rel_slice rfl rfl) (rel_slice rfl rfl) (rel_ptr rfl)) (.own hc (ov_conf rfl) (.own he (ov_evt rfl) (.own hu (ov_opn userR rfl) (.own hx (ov_opn sessR rfl) (.own ha (ov_opn addrR rfl) (.own hp (ov_opn (intR .i64) rfl) .nil))))))) (by simp [ownNames, *]) (by simp [ownNames, lookNames, *]) (by simp [ownNames, *]) (al_cons (.val (rel_ptr rfl)) (al_cons (.val (rel_ptr rfl)) al_nil)) (seen_of (sn_own (sn_own (sn_own (sn_own (sn_own (sn_own (sn_own sn_nil)))))))) ?_
  have hjl := (List.getElem?_eq_some_iff.1 hj).1
  have h1 : ∀ z, (s.users.set j z)[j]? = some z := fun z => List.getElem?_set_self hjl
  rcases hk with hk | hk | hk | hk
  · skip
    have k7 : (ev.kind == 7) = false := by rw [hk]; rfl
    have k2 : (ev.kind == 2) = true := by rw [hk]; rfl
    have k3 : (ev.kind == 3) = false := by rw [hk]; rfl
    have k4 : (ev.kind == 4) = false := by rw [hk]; rfl
    unfold ofU at hE; simp only [hk] at hE
    obtain ⟨f, u1, r, hr⟩ : ∃ f u1 r, failR y.fails y.until_ ev.tick cf.fails cf.lockout = (f, u1, r) := ⟨_, _, _, rfl⟩
    rw [hr] at hE
    by_cases hr0 : r = 0
    case neg => simp [hr0] at hE
    subst hr0
    simp at hE; subst hE
    refine wsq (wrg (vQ tab rfl (vnl (qth (wsq (wsq (wrg (vQ2 tab rfl rfl (vnl (qth (vc_false rfl (vw_skip (qth (wsq (wsq (wrg (vQ4 tab rfl rfl rfl rfl (vQ tab rfl (vQ tab rfl ?_)))))))))))))))))))
    refine vQ tab rfl (vnl (qth (wbk (wsq (wbk (wsq (wbk (wsq (wbk (wsq (wbk (wsq (wsq (wsq (wrg (vQ2 tab rfl rfl (vnl (qth (vcd_false rfl (by simp only [k7, k2, k3, k4, sl_]; first | done | omega) ?_)))))))))))))))))))
    refine vw_skip (qth (wsq (wsq (wrg (vQ2 tab rfl rfl (vnl (qth (vcd_true rfl (by simp only [k7, k2, k3, k4, sl_]; first | done | omega) ?_))))))))
    refine vw_exit (q_thenx (q_thenx (q_out rfl (q_thenx (q_here (qth (wsq (wsq (vw_draw mixed (dq_op tab rfl rfl rfl rfl (dq_op tab rfl rfl rfl rfl (dq_op tab rfl rfl rfl rfl (dq_op tab rfl rfl (ev_load2 userR (q := 5) rfl rfl rfl rfl rfl rfl hj (by decide) rfl) (ev_load2 userR (q := 5) rfl rfl rfl rfl rfl rfl hj (by decide) rfl) ?_)))))))))))))
    refine dq_op tab rfl rfl rfl rfl (dq_op tab rfl rfl rfl rfl (dq_op tab rfl rfl rfl rfl (dq_op tab rfl rfl rfl rfl (dq_op tab rfl rfl rfl rfl (dq_op tab rfl rfl rfl rfl (dq_op tab rfl rfl rfl rfl (dq_op tab rfl rfl rfl rfl (dq_op tab rfl rfl rfl rfl (dq_op tab rfl rfl rfl rfl (dq_op tab rfl rfl rfl rfl (dq_op tab rfl rfl rfl rfl (dq_op tab rfl rfl rfl rfl (dq_op tab rfl rfl rfl rfl (dq_op tab rfl rfl rfl rfl (dq_op tab rfl rfl rfl rfl (dq_op tab rfl rfl rfl rfl (dq_op tab rfl rfl rfl rfl (dq_op tab rfl rfl rfl rfl (dq_op tab rfl rfl rfl rfl (dq_op tab rfl rfl rfl rfl (df_op rfl rfl rfl rfl rfl callable_77 (fail_at hr) (dq_op tab rfl rfl rfl rfl (dq_op tab rfl rfl rfl rfl ?_)))))))))))))))))))))))
    refine dq_op tab rfl rfl rfl rfl (dn_op tab rfl rfl rfl rfl (ds_op tab rfl rfl rfl rfl (dq_op tab rfl rfl rfl rfl (vd_nil (by kernel_rfl) ?_))))
    refine qth (wsq (wsq (wrg (vQ2 tab rfl rfl (vnl (qth (vc_true rfl (wrg (vQ4 tab rfl rfl rfl rfl (vs_op tab rfl rfl (ev_store2 userR (q := 5) (j := j) rfl rfl rfl rfl rfl rfl hj rfl (a1 := { y with fails := f }) (a2 := { y with fails := f, until_ := u1 }) rfl rfl (by decide)) ?_))))))))))
    refine vnl (qth (wsq (wrg (vQ3 tab rfl rfl rfl (vnl (qth (vw_ret (q_thenr (q_ret (q_thenr (q_ret (q_thenr (q_ret (q_thenr ?_))))))))))))))
    exact out_mk [3, 4, 5, 6] (.inr rfl) ⟨rfl, rfl⟩ rfl (.bool _)
      (op_cons (sigma_own (a := 0) (by simp [ownNames, *]) rfl) rfl rfl (ov_turn2 (rel_ptr (sigma_own (a := 1) (by simp [ownNames, *]) rfl)) (rel_slice (sigma_at (i := 0) (by simp [ownNames, *]) rfl) (by simp)) (rel_slice (sigma_at (i := 1) (by simp [ownNames, *]) rfl) rfl) (rel_slice (sigma_at (i := 2) (by simp [ownNames, *]) rfl) rfl) (rel_slice (sigma_at (i := 3) (by simp [ownNames, *]) rfl) rfl) (rel_ptr (sigma_own (a := 2) (by simp [ownNames, *]) rfl))) rfl
        (op_drop (op_drop (op_drop (op_drop (op_drop (op_drop
          (op_cons (sigma_at (i := 0) (by simp [ownNames, *]) rfl) rfl rfl (ov_opn userR rfl) rfl (op_cons (sigma_at (i := 1) (by simp [ownNames, *]) rfl) rfl rfl (ov_opn sessR rfl) rfl (op_cons (sigma_at (i := 2) (by simp [ownNames, *]) rfl) rfl rfl (ov_opn addrR rfl) rfl (op_cons (sigma_at (i := 3) (by simp [ownNames, *]) rfl) rfl rfl (ov_opn (intR .i64) rfl) rfl op_nil)))))))))))
      (told_of (by simp [ownNames, turnL]))
  · skip
    have k7 : (ev.kind == 7) = false := by rw [hk]; rfl
    have k2 : (ev.kind == 2) = false := by rw [hk]; rfl
    have k3 : (ev.kind == 3) = true := by rw [hk]; rfl
    have k4 : (ev.kind == 4) = false := by rw [hk]; rfl
    unfold ofU at hE; simp only [hk] at hE
    by_cases ha : ev.a ≤ y.step
    case pos => simp [ha] at hE
    simp [ha] at hE; subst hE
    have hd := decide_eq_false ha
    refine wsq (wrg (vQ tab rfl (vnl (qth (wsq (wsq (wrg (vQ2 tab rfl rfl (vnl (qth (vc_false rfl (vw_skip (qth (wsq (wsq (wrg (vQ4 tab rfl rfl rfl rfl (vQ tab rfl (vQ tab rfl ?_)))))))))))))))))))
    refine vQ tab rfl (vnl (qth (wbk (wsq (wbk (wsq (wbk (wsq (wbk (wsq (wbk (wsq (wsq (wsq (wrg (vQ2 tab rfl rfl (vnl (qth (vcd_false rfl (by simp only [k7, k2, k3, k4, hd, sl_]; first | done | omega) ?_)))))))))))))))))))
    refine vw_skip (qth (wsq (wsq (wrg (vQ2 tab rfl rfl (vnl (qth (vcd_false rfl (by simp only [k7, k2, k3, k4, hd, sl_]; first | done | omega) ?_))))))))
    refine vw_skip (qth (wsq (wsq (wrg (vQ2 tab rfl rfl (vnl (qth (vcd_true rfl (by simp only [k7, k2, k3, k4, hd, sl_]; first | done | omega) ?_))))))))
    refine vw_exit (q_thenx (q_thenx (q_out rfl (q_thenx (q_out rfl (q_thenx (q_here (qth (wsq (wsq (vw_draw mixed (dq_op tab rfl rfl rfl rfl (dq_op tab rfl rfl rfl rfl (dq_op tab rfl rfl rfl rfl (dq_op tab rfl rfl rfl rfl (dq_op tab rfl rfl rfl rfl (dq_op tab rfl rfl rfl rfl (dq_op tab rfl rfl rfl rfl (dq_op tab rfl rfl rfl rfl (dq_op tab rfl rfl rfl rfl (dq_op tab rfl rfl rfl rfl (dq_op tab rfl rfl (ev_loadcell userR rfl rfl rfl rfl rfl hj rfl) (ev_loadcell userR rfl rfl rfl rfl rfl hj rfl) (dq_op tab rfl rfl rfl rfl ?_)))))))))))))))))))))))
    refine vd_nil (by kernel_rfl) ?_
    refine qth (vcd_false rfl (by simp only [k7, k2, k3, k4, hd, sl_]; first | done | omega) ?_)
    refine vw_skip (qth (wrg (vQ4 tab rfl rfl rfl rfl (vQ4 tab rfl rfl rfl rfl (vQ2 tab rfl rfl (vs_op tab rfl rfl (ev_storecell userR rfl rfl rfl rfl rfl rfl hj (a' := { y with step := ev.a }) rfl rfl (by decide)) ?_))))))
    refine vnl (q_norm (qth (wsq (wrg (vQ4 tab rfl rfl rfl rfl (vs_op tab rfl rfl (ev_store2 userR (q := 5) (j := j) rfl rfl rfl rfl rfl rfl (h1 _) rfl (a1 := { y with step := ev.a, fails := 0 }) (a2 := { y with step := ev.a, fails := 0, until_ := 0 }) rfl rfl (by decide)) ?_))))))
    refine vnl (qth (vw_exit (q_here (qth (wsq (wrg (vQ tab rfl (vnl (qth (vw_ret ?_))))))))))
    rw [List.set_set]
    exact out_mk [3, 4, 5, 6] (.inr rfl) ⟨rfl, rfl⟩ rfl (.bool _)
      (op_cons (sigma_own (a := 0) (by simp [ownNames, *]) rfl) rfl rfl (ov_turn2 (rel_ptr (sigma_own (a := 1) (by simp [ownNames, *]) rfl)) (rel_slice (sigma_at (i := 0) (by simp [ownNames, *]) rfl) (by simp)) (rel_slice (sigma_at (i := 1) (by simp [ownNames, *]) rfl) rfl) (rel_slice (sigma_at (i := 2) (by simp [ownNames, *]) rfl) rfl) (rel_slice (sigma_at (i := 3) (by simp [ownNames, *]) rfl) rfl) (rel_ptr (sigma_own (a := 2) (by simp [ownNames, *]) rfl))) rfl
        (op_drop (op_drop (op_drop (op_drop (op_drop (op_drop
          (op_cons (sigma_at (i := 0) (by simp [ownNames, *]) rfl) rfl rfl (ov_opn userR rfl) rfl (op_cons (sigma_at (i := 1) (by simp [ownNames, *]) rfl) rfl rfl (ov_opn sessR rfl) rfl (op_cons (sigma_at (i := 2) (by simp [ownNames, *]) rfl) rfl rfl (ov_opn addrR rfl) rfl (op_cons (sigma_at (i := 3) (by simp [ownNames, *]) rfl) rfl rfl (ov_opn (intR .i64) rfl) rfl op_nil)))))))))))
      (told_of (by simp [ownNames, turnL]))
  · skip
    have k7 : (ev.kind == 7) = false := by rw [hk]; rfl
    have k2 : (ev.kind == 2) = false := by rw [hk]; rfl
    have k3 : (ev.kind == 3) = false := by rw [hk]; rfl
    have k4 : (ev.kind == 4) = true := by rw [hk]; rfl
    unfold ofU at hE; simp only [hk] at hE
    simp at hE; subst hE
    refine wsq (wrg (vQ tab rfl (vnl (qth (wsq (wsq (wrg (vQ2 tab rfl rfl (vnl (qth (vc_false rfl (vw_skip (qth (wsq (wsq (wrg (vQ4 tab rfl rfl rfl rfl (vQ tab rfl (vQ tab rfl ?_)))))))))))))))))))
    refine vQ tab rfl (vnl (qth (wbk (wsq (wbk (wsq (wbk (wsq (wbk (wsq (wbk (wsq (wsq (wsq (wrg (vQ2 tab rfl rfl (vnl (qth (vcd_false rfl (by simp only [k7, k2, k3, k4, sl_]; first | done | omega) ?_)))))))))))))))))))
    refine vw_skip (qth (wsq (wsq (wrg (vQ2 tab rfl rfl (vnl (qth (vcd_false rfl (by simp only [k7, k2, k3, k4, sl_]; first | done | omega) ?_))))))))
    refine vw_skip (qth (wsq (wsq (wrg (vQ2 tab rfl rfl (vnl (qth (vcd_false rfl (by simp only [k7, k2, k3, k4, sl_]; first | done | omega) ?_))))))))
    refine vw_skip (qth (wsq (wrg (vQ2 tab rfl rfl (vnl (qth (vcd_true rfl (by simp only [k7, k2, k3, k4, sl_]; first | done | omega) ?_)))))))
    refine vw_exit (q_thenx (q_out rfl (q_thenx (q_out rfl (q_thenx (q_out rfl (q_thenx (q_here (qth (wsq (wrg (vQ4 tab rfl rfl rfl rfl (vs_op tab rfl rfl (ev_store2 userR (q := 5) (j := j) rfl rfl rfl rfl rfl rfl hj rfl (a1 := { y with fails := 0 }) (a2 := { y with fails := 0, until_ := 0 }) rfl rfl (by decide)) ?_)))))))))))))
    refine vnl (qth (vw_exit (q_here (qth (wsq (wrg (vQ tab rfl (vnl (qth (vw_ret ?_))))))))))
    exact out_mk [3, 4, 5, 6] (.inr rfl) ⟨rfl, rfl⟩ rfl (.bool _)
      (op_cons (sigma_own (a := 0) (by simp [ownNames, *]) rfl) rfl rfl (ov_turn2 (rel_ptr (sigma_own (a := 1) (by simp [ownNames, *]) rfl)) (rel_slice (sigma_at (i := 0) (by simp [ownNames, *]) rfl) (by simp)) (rel_slice (sigma_at (i := 1) (by simp [ownNames, *]) rfl) rfl) (rel_slice (sigma_at (i := 2) (by simp [ownNames, *]) rfl) rfl) (rel_slice (sigma_at (i := 3) (by simp [ownNames, *]) rfl) rfl) (rel_ptr (sigma_own (a := 2) (by simp [ownNames, *]) rfl))) rfl
        (op_drop (op_drop (op_drop (op_drop (op_drop (op_drop
          (op_cons (sigma_at (i := 0) (by simp [ownNames, *]) rfl) rfl rfl (ov_opn userR rfl) rfl (op_cons (sigma_at (i := 1) (by simp [ownNames, *]) rfl) rfl rfl (ov_opn sessR rfl) rfl (op_cons (sigma_at (i := 2) (by simp [ownNames, *]) rfl) rfl rfl (ov_opn addrR rfl) rfl (op_cons (sigma_at (i := 3) (by simp [ownNames, *]) rfl) rfl rfl (ov_opn (intR .i64) rfl) rfl op_nil)))))))))))
      (told_of (by simp [ownNames, turnL]))
  · skip
    have k7 : (ev.kind == 7) = true := by rw [hk]; rfl
    have k2 : (ev.kind == 2) = false := by rw [hk]; rfl
    have k3 : (ev.kind == 3) = false := by rw [hk]; rfl
    have k4 : (ev.kind == 4) = false := by rw [hk]; rfl
    unfold ofU at hE; simp only [hk] at hE
    by_cases hg : 0 ≤ y.gen ∧ y.gen ≤ 1073741822
    case neg => simp [hg] at hE
    simp [hg] at hE; subst hE
    refine wsq (wrg (vQ tab rfl (vnl (qth (wsq (wsq (wrg (vQ2 tab rfl rfl (vnl (qth (vc_false rfl (vw_skip (qth (wsq (wsq (wrg (vQ4 tab rfl rfl rfl rfl (vQ tab rfl (vQ tab rfl ?_)))))))))))))))))))
    refine vQ tab rfl (vnl (qth (wbk (wsq (wbk (wsq (wbk (wsq (wbk (wsq (wbk (wsq (wsq (wsq (wrg (vQ2 tab rfl rfl (vnl (qth (vcd_true rfl (by simp only [k7, k2, k3, k4, sl_]; first | done | omega) ?_)))))))))))))))))))
    refine vw_exit (q_thenx (q_thenx (q_here (qth (wsq (wsq (wrg (vQ3 tab rfl rfl rfl (vT rfl callable_68 (rises_ok (us := s.users) rfl hj hg (by decide)) ?_)))))))))
    refine vQ tab rfl (vnl (qth (vw_ret (q_thenr (q_ret (q_thenr (q_ret (q_thenr (q_ret (q_thenr (q_ret (q_thenr ?_))))))))))))
    exact out_mk [3, 4, 5, 6] (.inr rfl) ⟨rfl, rfl⟩ rfl (.bool _)
      (op_cons (sigma_own (a := 0) (by simp [ownNames, *]) rfl) rfl rfl (ov_turn2 (rel_ptr (sigma_own (a := 1) (by simp [ownNames, *]) rfl)) (rel_slice (sigma_at (i := 0) (by simp [ownNames, *]) rfl) (by simp)) (rel_slice (sigma_at (i := 1) (by simp [ownNames, *]) rfl) rfl) (rel_slice (sigma_at (i := 2) (by simp [ownNames, *]) rfl) rfl) (rel_slice (sigma_at (i := 3) (by simp [ownNames, *]) rfl) rfl) (rel_ptr (sigma_own (a := 2) (by simp [ownNames, *]) rfl))) rfl
        (op_drop (op_drop (op_drop (op_drop (op_drop (op_drop
          (op_cons (sigma_at (i := 0) (by simp [ownNames, *]) rfl) rfl rfl (ov_opn userR rfl) rfl (op_cons (sigma_at (i := 1) (by simp [ownNames, *]) rfl) rfl rfl (ov_opn sessR rfl) rfl (op_cons (sigma_at (i := 2) (by simp [ownNames, *]) rfl) rfl rfl (ov_opn addrR rfl) rfl (op_cons (sigma_at (i := 3) (by simp [ownNames, *]) rfl) rfl rfl (ov_opn (intR .i64) rfl) rfl op_nil)))))))))))
      (told_of (by simp [ownNames, turnL]))
theorem of_no {j : Nat} {y : UserV} (h : TurnAt V t c e u x a p cf ev s) (hi : ∀ i ∈ [t, c, e, u, x, a, p], i < n) (hj : s.users[j]? = some y) (hk : ev.kind = 2 ∨ ev.kind = 3 ∨ ev.kind = 4 ∨ ev.kind = 7) (hE : ofU cf ev y = none) :
    Tri Tryz.prog 54 [.pointer (some ⟨t, 0, none⟩), .pointer (some ⟨u, 0 + j * 9, none⟩)] n 0 V (fun r L => r = .bool false ∧ L = turnN t c e u x a p) := by
  obtain ⟨ht, hc, he, hu, hx, ha, hp, hn⟩ := h
  simp only [List.nodup_cons, List.mem_cons, List.not_mem_nil, or_false, not_or, List.nodup_nil, and_true, not_false_eq_true] at hn
  obtain ⟨⟨d1, d2, d3, d4, d5, d6⟩, ⟨e1, e2, e3, e4, e5⟩, ⟨f1, f2, f3, f4⟩, ⟨g1, g2, g3⟩, ⟨i1, i2⟩, j1⟩ := hn
  simp only [List.mem_cons, List.not_mem_nil, or_false, forall_eq_or_imp, forall_eq] at hi
  obtain ⟨l1, l2, l3, l4, l5, l6, l7⟩ := hi
  refine call_of_vw (K := 7) (argsI := [.pointer (some ⟨0, 0, none⟩), .pointer (some ⟨3, 0 + j * 9, none⟩)]) tab Tryz.func54 rfl rfl (by simp [Tryz.f54]) [.own t, .own c, .own e, .own u, .own x, .own a, .own p] [turnO 1 3 4 5 6 2 s, confO cf, evtO ev, .opn (userR.cells s.users) 76 9, .opn (sessR.cells s.sess) 78 4, .opn (addrR.cells s.addrs) 80 3, .opn ((intR .i64).cells s.spent) 3 1] rfl (.own ht (ov_turn rfl (rel_ptr rfl) (rel_slice rfl rfl) (rel_slice rfl rfl) (rel_slice rfl rfl) (rel_slice rfl rfl) (rel_ptr rfl)) (.own hc (ov_conf rfl) (.own he (ov_evt rfl) (.own hu (ov_opn userR rfl) (.own hx (ov_opn sessR rfl) (.own ha (ov_opn addrR rfl) (.own hp (ov_opn (intR .i64) rfl) .nil))))))) (by simp [ownNames, *]) (by simp [ownNames, lookNames, *]) (by simp [ownNames, *]) (al_cons (.val (rel_ptr rfl)) (al_cons (.val (rel_ptr rfl)) al_nil)) (seen_of (sn_own (sn_own (sn_own (sn_own (sn_own (sn_own (sn_own sn_nil)))))))) ?_
  rcases hk with hk | hk | hk | hk
  · skip
    have k7 : (ev.kind == 7) = false := by rw [hk]; rfl
    have k2 : (ev.kind == 2) = true := by rw [hk]; rfl
    have k3 : (ev.kind == 3) = false := by rw [hk]; rfl
    have k4 : (ev.kind == 4) = false := by rw [hk]; rfl
    unfold ofU at hE; simp only [hk] at hE
    obtain ⟨f, u1, r, hr⟩ : ∃ f u1 r, failR y.fails y.until_ ev.tick cf.fails cf.lockout = (f, u1, r) := ⟨_, _, _, rfl⟩
    rw [hr] at hE
    by_cases hr0 : r = 0
    case pos => simp [hr0] at hE
    have hrb : (r == 0) = false := by simpa using hr0
    refine wsq (wrg (vQ tab rfl (vnl (qth (wsq (wsq (wrg (vQ2 tab rfl rfl (vnl (qth (vc_false rfl (vw_skip (qth (wsq (wsq (wrg (vQ4 tab rfl rfl rfl rfl (vQ tab rfl (vQ tab rfl ?_)))))))))))))))))))
    refine vQ tab rfl (vnl (qth (wbk (wsq (wbk (wsq (wbk (wsq (wbk (wsq (wbk (wsq (wsq (wsq (wrg (vQ2 tab rfl rfl (vnl (qth (vcd_false rfl (by simp only [k7, k2, k3, k4, hrb, sl_]; first | done | omega) ?_)))))))))))))))))))
    refine vw_skip (qth (wsq (wsq (wrg (vQ2 tab rfl rfl (vnl (qth (vcd_true rfl (by simp only [k7, k2, k3, k4, hrb, sl_]; first | done | omega) ?_))))))))
    refine vw_exit (q_thenx (q_thenx (q_out rfl (q_thenx (q_here (qth (wsq (wsq (vw_draw mixed (dq_op tab rfl rfl rfl rfl (dq_op tab rfl rfl rfl rfl (dq_op tab rfl rfl rfl rfl (dq_op tab rfl rfl (ev_load2 userR (q := 5) rfl rfl rfl rfl rfl rfl hj (by decide) rfl) (ev_load2 userR (q := 5) rfl rfl rfl rfl rfl rfl hj (by decide) rfl) ?_)))))))))))))
    refine dq_op tab rfl rfl rfl rfl (dq_op tab rfl rfl rfl rfl (dq_op tab rfl rfl rfl rfl (dq_op tab rfl rfl rfl rfl (dq_op tab rfl rfl rfl rfl (dq_op tab rfl rfl rfl rfl (dq_op tab rfl rfl rfl rfl (dq_op tab rfl rfl rfl rfl (dq_op tab rfl rfl rfl rfl (dq_op tab rfl rfl rfl rfl (dq_op tab rfl rfl rfl rfl (dq_op tab rfl rfl rfl rfl (dq_op tab rfl rfl rfl rfl (dq_op tab rfl rfl rfl rfl (dq_op tab rfl rfl rfl rfl (dq_op tab rfl rfl rfl rfl (dq_op tab rfl rfl rfl rfl (dq_op tab rfl rfl rfl rfl (dq_op tab rfl rfl rfl rfl (dq_op tab rfl rfl rfl rfl (dq_op tab rfl rfl rfl rfl (df_op rfl rfl rfl rfl rfl callable_77 (fail_at hr) (dq_op tab rfl rfl rfl rfl (dq_op tab rfl rfl rfl rfl ?_)))))))))))))))))))))))
    refine dq_op tab rfl rfl rfl rfl (dn_op tab rfl rfl rfl rfl (ds_op tab rfl rfl rfl rfl (dq_op tab rfl rfl rfl rfl (vd_nil (by kernel_rfl) ?_))))
    refine qth (wsq (wsq (wrg (vQ2 tab rfl rfl (vnl (qth (vcd_false rfl (by simp only [k7, k2, k3, k4, hrb, sl_]; first | done | omega) ?_)))))))
    refine vw_skip (qth (wsq (wrg (vQ3 tab rfl rfl rfl (vnl (qth (vw_ret (q_thenr (q_ret (q_thenr (q_ret (q_thenr (q_ret (q_thenr ?_))))))))))))))
    exact out_mk [] (.inr rfl) ⟨rfl, rfl⟩ rfl (by rw [hrb]; exact .bool _) (op_drop (op_drop (op_drop (op_drop (op_drop (op_drop (op_drop op_nil))))))) (told_of (by simp [ownNames, turnN]))
  · skip
    have k7 : (ev.kind == 7) = false := by rw [hk]; rfl
    have k2 : (ev.kind == 2) = false := by rw [hk]; rfl
    have k3 : (ev.kind == 3) = true := by rw [hk]; rfl
    have k4 : (ev.kind == 4) = false := by rw [hk]; rfl
    unfold ofU at hE; simp only [hk] at hE
    by_cases ha : ev.a ≤ y.step
    case neg => simp [ha] at hE
    have hd := decide_eq_true ha
    refine wsq (wrg (vQ tab rfl (vnl (qth (wsq (wsq (wrg (vQ2 tab rfl rfl (vnl (qth (vc_false rfl (vw_skip (qth (wsq (wsq (wrg (vQ4 tab rfl rfl rfl rfl (vQ tab rfl (vQ tab rfl ?_)))))))))))))))))))
    refine vQ tab rfl (vnl (qth (wbk (wsq (wbk (wsq (wbk (wsq (wbk (wsq (wbk (wsq (wsq (wsq (wrg (vQ2 tab rfl rfl (vnl (qth (vcd_false rfl (by simp only [k7, k2, k3, k4, hd, sl_]; first | done | omega) ?_)))))))))))))))))))
    refine vw_skip (qth (wsq (wsq (wrg (vQ2 tab rfl rfl (vnl (qth (vcd_false rfl (by simp only [k7, k2, k3, k4, hd, sl_]; first | done | omega) ?_))))))))
    refine vw_skip (qth (wsq (wsq (wrg (vQ2 tab rfl rfl (vnl (qth (vcd_true rfl (by simp only [k7, k2, k3, k4, hd, sl_]; first | done | omega) ?_))))))))
    refine vw_exit (q_thenx (q_thenx (q_out rfl (q_thenx (q_out rfl (q_thenx (q_here (qth (wsq (wsq (vw_draw mixed (dq_op tab rfl rfl rfl rfl (dq_op tab rfl rfl rfl rfl (dq_op tab rfl rfl rfl rfl (dq_op tab rfl rfl rfl rfl (dq_op tab rfl rfl rfl rfl (dq_op tab rfl rfl rfl rfl (dq_op tab rfl rfl rfl rfl (dq_op tab rfl rfl rfl rfl (dq_op tab rfl rfl rfl rfl (dq_op tab rfl rfl rfl rfl (dq_op tab rfl rfl (ev_loadcell userR rfl rfl rfl rfl rfl hj rfl) (ev_loadcell userR rfl rfl rfl rfl rfl hj rfl) (dq_op tab rfl rfl rfl rfl ?_)))))))))))))))))))))))
    refine vd_nil (by kernel_rfl) ?_
    refine qth (vcd_true rfl (by simp only [k7, k2, k3, k4, hd, sl_]; first | done | omega) ?_)
    refine wsq (wrg (vQ tab rfl (vnl (qth (vw_ret (q_thenr (q_ret (q_thenr (q_ret (q_thenr ?_))))))))))
    exact out_mk [] (.inr rfl) ⟨rfl, rfl⟩ rfl (.bool _) (op_drop (op_drop (op_drop (op_drop (op_drop (op_drop (op_drop op_nil))))))) (told_of (by simp [ownNames, turnN]))
  · skip
    have k7 : (ev.kind == 7) = false := by rw [hk]; rfl
    have k2 : (ev.kind == 2) = false := by rw [hk]; rfl
    have k3 : (ev.kind == 3) = false := by rw [hk]; rfl
    have k4 : (ev.kind == 4) = true := by rw [hk]; rfl
    unfold ofU at hE; simp only [hk] at hE
    simp at hE
  · skip
    have k7 : (ev.kind == 7) = true := by rw [hk]; rfl
    have k2 : (ev.kind == 2) = false := by rw [hk]; rfl
    have k3 : (ev.kind == 3) = false := by rw [hk]; rfl
    have k4 : (ev.kind == 4) = false := by rw [hk]; rfl
    unfold ofU at hE; simp only [hk] at hE
    by_cases hg : 0 ≤ y.gen ∧ y.gen ≤ 1073741822
    case pos => simp [hg] at hE
    refine wsq (wrg (vQ tab rfl (vnl (qth (wsq (wsq (wrg (vQ2 tab rfl rfl (vnl (qth (vc_false rfl (vw_skip (qth (wsq (wsq (wrg (vQ4 tab rfl rfl rfl rfl (vQ tab rfl (vQ tab rfl ?_)))))))))))))))))))
    refine vQ tab rfl (vnl (qth (wbk (wsq (wbk (wsq (wbk (wsq (wbk (wsq (wbk (wsq (wsq (wsq (wrg (vQ2 tab rfl rfl (vnl (qth (vcd_true rfl (by simp only [k7, k2, k3, k4, sl_]; first | done | omega) ?_)))))))))))))))))))
    refine vw_exit (q_thenx (q_thenx (q_here (qth (wsq (wsq (wrg (vQ3 tab rfl rfl rfl (vR rfl callable_68 (rises_no (us := s.users) rfl hj hg) (vQ tab rfl (vnl (qth (vw_ret (q_thenr (q_ret (q_thenr (q_ret (q_thenr (q_ret (q_thenr (q_ret ?_)))))))))))))))))))))
    refine q_thenr ?_
    exact out_mk [] (.inr rfl) ⟨rfl, rfl⟩ rfl (.bool _) (op_drop (op_drop (op_drop (op_drop (op_drop (op_drop (op_drop op_nil))))))) (told_of (by simp [ownNames, turnN]))
end
end Go.Proofs.YtcjfidfealifhaaGreat
