/- Package event: parts, plain, May. -/
import Derived.Test.YtcjfidfealifhaaVg1
import Derived.Test.YtcjfidfealifhaaEv0
import Derived.Test.YtcjfidfealifhaaFd0
namespace Go.Proofs.Ytcjfidfealifhaa
open Go Vm IntWalk
set_option linter.unusedVariables false
set_option linter.unusedSimpArgs false
abbrev evtO (a : EventV) : VObj := .cells (evtL a) 40 (0, 0)
theorem ov_evt {σ : Ren} {a b : EventV} (h : a = b) : OV σ (evtO a) (evtO b) := by rw [h]; exact .cells _ _ (evtR.flat b).rel
set_option maxHeartbeats 4000000 in
theorem evt_parts0 {V : Heap} {n i : Nat} {f1 f2 f3 f4 f5 f6 f7 : Int} (hV : V i = some (.cells (evtL ⟨0, f1, f2, f3, f4, f5, f6, f7⟩) 40 (0, 0))) (hin : i < n) :
    Tri Try.prog 28 [.pointer (some ⟨i, 0, none⟩)] n 1 V (fun u L => u = .slice (some ⟨n, 0, none⟩) 1 0 ∧ L = [(i, some (.cells (evtL ⟨0, f1, f2, f3, f4, f5, f6, f7⟩) 40 (0, 0))), (n, some (.opn [.pointer (some ⟨i, 7, none⟩)] 74 1))]) := by
  refine call_of_vw (K := 1) (argsI := [.pointer (some ⟨0, 0, none⟩)]) tab Try.func28 rfl rfl (by simp [Try.f28]) [.own i] [.cells (evtL ⟨0, f1, f2, f3, f4, f5, f6, f7⟩) 40 (0, 0)] rfl (.own hV (ov_evt rfl) .nil) (by simp [ownNames, *]) (by simp [ownNames, lookNames, *]) (by simp [ownNames, *]) (al_cons (.val (rel_ptr rfl)) al_nil) (seen_of (sn_own sn_nil)) ?_
  refine wsq (wrg (vQ tab rfl (vnl (qth (wsq (wrg (vQ tab rfl (vnl (qth (wsq (wsq (wrg (vQ tab rfl (vQ tab rfl (vQ tab rfl (vQ tab rfl (vnl (qth (wbk (wsq (wbk (wsq (wbk ?_)))))))))))))))))))))))
  refine wsq (wbk (wsq (wbk (wsq (wbk (wsq (wbk (wsq (wbk (wsq (wbk (wsq (wsq (wsq (wrg (vQ tab rfl (vQ tab rfl (vnl (qth (vc_false rfl (vw_skip (qth (wsq ?_)))))))))))))))))))))))
  refine wsq (wrg (vQ tab rfl (vQ tab rfl (vnl (qth (vc_false rfl (vw_skip (qth (wsq (wsq (wsq (wrg (vQ tab rfl (vQ tab rfl (vnl (qth (vc_false rfl (wrg (vQ tab rfl (vQ tab rfl (vnl (qth (vc_false rfl ?_)))))))))))))))))))))))
  refine vw_skip (qth (wsq (wsq (wrg (vQ tab rfl (vQ tab rfl (vnl (qth (vc_false rfl (vw_skip (qth (wsq (wsq (wrg (vQ tab rfl (vQ tab rfl (vnl (qth (vc_false rfl (vw_skip (qth (wsq (wsq ?_)))))))))))))))))))))))
  refine wrg (vQ tab rfl (vQ tab rfl (vnl (qth (vc_false rfl (vw_skip (qth (wsq (wsq (wrg (vQ tab rfl (vQ tab rfl (vnl (qth (vc_false rfl (vw_skip (qth (wsq (wrg (vQ tab rfl (vQ tab rfl (vnl (qth ?_)))))))))))))))))))))))
  refine vc_true rfl (vw_exit (q_thenx (q_out rfl (q_thenx (q_out rfl (q_thenx (q_out rfl (q_thenx (q_out rfl (q_thenx (q_out rfl (q_thenx (q_out rfl (q_thenx (q_out rfl (q_thenx (q_here (qth (wsq (wsq (wrg (vQ tab rfl (vQ tab rfl ?_)))))))))))))))))))))))
  refine vQ tab rfl (vN tab rfl (vQ tab rfl (vnl (qth (vw_ret (q_thenr (q_ret (q_thenr ?_))))))))
  exact out_mk [1] (.inr rfl) ⟨rfl, rfl⟩ rfl (rel_slice (sigma_at (i := 0) (by simp [ownNames, *]) rfl) rfl) (op_cons (sigma_own (a := 0) (by simp [ownNames]) rfl) rfl rfl (ov_evt rfl) rfl (op_cons (sigma_at (i := 0) (by simp [ownNames, *]) rfl) rfl rfl (.opn _ _ (lrel_cons (rel_ptr (sigma_own (a := 0) (by simp [ownNames]) rfl)) lrel_nil)) rfl op_nil)) ⟨fun _ => by simp [lkp], trivial⟩
set_option maxHeartbeats 4000000 in
theorem evt_parts1 {V : Heap} {n i : Nat} {f1 f2 f3 f4 f5 f6 f7 : Int} (hV : V i = some (.cells (evtL ⟨1, f1, f2, f3, f4, f5, f6, f7⟩) 40 (0, 0))) (hin : i < n) :
    Tri Try.prog 28 [.pointer (some ⟨i, 0, none⟩)] n 1 V (fun u L => u = .slice (some ⟨n, 0, none⟩) 4 0 ∧ L = [(i, some (.cells (evtL ⟨1, f1, f2, f3, f4, f5, f6, f7⟩) 40 (0, 0))), (n, some (.opn [.pointer (some ⟨i, 1, none⟩), .pointer (some ⟨i, 4, none⟩), .pointer (some ⟨i, 5, none⟩), .pointer (some ⟨i, 6, none⟩)] 74 1))]) := by
  refine call_of_vw (K := 1) (argsI := [.pointer (some ⟨0, 0, none⟩)]) tab Try.func28 rfl rfl (by simp [Try.f28]) [.own i] [.cells (evtL ⟨1, f1, f2, f3, f4, f5, f6, f7⟩) 40 (0, 0)] rfl (.own hV (ov_evt rfl) .nil) (by simp [ownNames, *]) (by simp [ownNames, lookNames, *]) (by simp [ownNames, *]) (al_cons (.val (rel_ptr rfl)) al_nil) (seen_of (sn_own sn_nil)) ?_
  refine wsq (wrg (vQ tab rfl (vnl (qth (wsq (wrg (vQ tab rfl (vnl (qth (wsq (wsq (wrg (vQ tab rfl (vQ tab rfl (vQ tab rfl (vQ tab rfl (vnl (qth (wbk (wsq (wbk (wsq (wbk ?_)))))))))))))))))))))))
  refine wsq (wbk (wsq (wbk (wsq (wbk (wsq (wbk (wsq (wbk (wsq (wbk (wsq (wsq (wsq (wrg (vQ tab rfl (vQ tab rfl (vnl (qth (vc_true rfl (vw_exit (q_thenx (q_thenx ?_)))))))))))))))))))))))
  refine q_here (qth (wsq (wsq (vw_draw mixed (dq_op tab rfl rfl rfl rfl (dq_op tab rfl rfl rfl rfl (dq_op tab rfl rfl rfl rfl (dq_op tab rfl rfl rfl rfl (dq_op tab rfl rfl rfl rfl (dq_op tab rfl rfl rfl rfl (dq_op tab rfl rfl rfl rfl (dq_op tab rfl rfl rfl rfl (dq_op tab rfl rfl rfl rfl (dq_op tab rfl rfl rfl rfl (dq_op tab rfl rfl rfl rfl (dq_op tab rfl rfl rfl rfl (do_op [1] rfl rfl (opr_ev tab rfl) (dq_op tab rfl rfl rfl rfl (vd_nil (by kernel_rfl) ?_)))))))))))))))))))
  refine qth (vw_ret (q_thenr (q_ret (q_thenr (q_ret (q_thenr (q_ret (q_thenr (q_ret (q_thenr (q_ret (q_thenr (q_ret (q_thenr (q_ret (q_thenr (q_ret (q_thenr ?_))))))))))))))))))
  exact out_mk [1] (.inr rfl) ⟨rfl, rfl⟩ rfl (rel_slice (sigma_at (i := 0) (by simp [ownNames, *]) rfl) rfl) (op_cons (sigma_own (a := 0) (by simp [ownNames]) rfl) rfl rfl (ov_evt rfl) rfl (op_cons (sigma_at (i := 0) (by simp [ownNames, *]) rfl) rfl rfl (.opn _ _ (lrel_cons (rel_ptr (sigma_own (a := 0) (by simp [ownNames]) rfl)) (lrel_cons (rel_ptr (sigma_own (a := 0) (by simp [ownNames]) rfl)) (lrel_cons (rel_ptr (sigma_own (a := 0) (by simp [ownNames]) rfl)) (lrel_cons (rel_ptr (sigma_own (a := 0) (by simp [ownNames]) rfl)) lrel_nil))))) rfl op_nil)) ⟨fun _ => by simp [lkp], trivial⟩
set_option maxHeartbeats 4000000 in
theorem evt_parts2 {V : Heap} {n i : Nat} {f1 f2 f3 f4 f5 f6 f7 : Int} (hV : V i = some (.cells (evtL ⟨2, f1, f2, f3, f4, f5, f6, f7⟩) 40 (0, 0))) (hin : i < n) :
    Tri Try.prog 28 [.pointer (some ⟨i, 0, none⟩)] n 1 V (fun u L => u = .slice (some ⟨n, 0, none⟩) 2 0 ∧ L = [(i, some (.cells (evtL ⟨2, f1, f2, f3, f4, f5, f6, f7⟩) 40 (0, 0))), (n, some (.opn [.pointer (some ⟨i, 1, none⟩), .pointer (some ⟨i, 7, none⟩)] 74 1))]) := by
  refine call_of_vw (K := 1) (argsI := [.pointer (some ⟨0, 0, none⟩)]) tab Try.func28 rfl rfl (by simp [Try.f28]) [.own i] [.cells (evtL ⟨2, f1, f2, f3, f4, f5, f6, f7⟩) 40 (0, 0)] rfl (.own hV (ov_evt rfl) .nil) (by simp [ownNames, *]) (by simp [ownNames, lookNames, *]) (by simp [ownNames, *]) (al_cons (.val (rel_ptr rfl)) al_nil) (seen_of (sn_own sn_nil)) ?_
  refine wsq (wrg (vQ tab rfl (vnl (qth (wsq (wrg (vQ tab rfl (vnl (qth (wsq (wsq (wrg (vQ tab rfl (vQ tab rfl (vQ tab rfl (vQ tab rfl (vnl (qth (wbk (wsq (wbk (wsq (wbk ?_)))))))))))))))))))))))
  refine wsq (wbk (wsq (wbk (wsq (wbk (wsq (wbk (wsq (wbk (wsq (wbk (wsq (wsq (wsq (wrg (vQ tab rfl (vQ tab rfl (vnl (qth (vc_false rfl (vw_skip (qth (wsq ?_)))))))))))))))))))))))
  refine wsq (wrg (vQ tab rfl (vQ tab rfl (vnl (qth (vc_false rfl (vw_skip (qth (wsq (wsq (wsq (wrg (vQ tab rfl (vQ tab rfl (vnl (qth (vc_false rfl (wrg (vQ tab rfl (vQ tab rfl (vnl (qth (vc_false rfl ?_)))))))))))))))))))))))
  refine vw_skip (qth (wsq (wsq (wrg (vQ tab rfl (vQ tab rfl (vnl (qth (vc_true rfl (vw_exit (q_thenx (q_thenx (q_out rfl (q_thenx (q_out rfl (q_thenx (q_out rfl (q_thenx (q_here (qth (wsq (wsq (vw_draw mixed ?_)))))))))))))))))))))))
  refine dq_op tab rfl rfl rfl rfl (dq_op tab rfl rfl rfl rfl (dq_op tab rfl rfl rfl rfl (dq_op tab rfl rfl rfl rfl (dq_op tab rfl rfl rfl rfl (dq_op tab rfl rfl rfl rfl (do_op [1] rfl rfl (opr_ev tab rfl) (dq_op tab rfl rfl rfl rfl (vd_nil (by kernel_rfl) ?_))))))))
  refine qth (vw_ret (q_thenr (q_ret (q_thenr (q_ret (q_thenr (q_ret (q_thenr (q_ret (q_thenr (q_ret (q_thenr ?_))))))))))))
  exact out_mk [1] (.inr rfl) ⟨rfl, rfl⟩ rfl (rel_slice (sigma_at (i := 0) (by simp [ownNames, *]) rfl) rfl) (op_cons (sigma_own (a := 0) (by simp [ownNames]) rfl) rfl rfl (ov_evt rfl) rfl (op_cons (sigma_at (i := 0) (by simp [ownNames, *]) rfl) rfl rfl (.opn _ _ (lrel_cons (rel_ptr (sigma_own (a := 0) (by simp [ownNames]) rfl)) (lrel_cons (rel_ptr (sigma_own (a := 0) (by simp [ownNames]) rfl)) lrel_nil))) rfl op_nil)) ⟨fun _ => by simp [lkp], trivial⟩
set_option maxHeartbeats 4000000 in
theorem evt_parts3 {V : Heap} {n i : Nat} {f1 f2 f3 f4 f5 f6 f7 : Int} (hV : V i = some (.cells (evtL ⟨3, f1, f2, f3, f4, f5, f6, f7⟩) 40 (0, 0))) (hin : i < n) :
    Tri Try.prog 28 [.pointer (some ⟨i, 0, none⟩)] n 1 V (fun u L => u = .slice (some ⟨n, 0, none⟩) 2 0 ∧ L = [(i, some (.cells (evtL ⟨3, f1, f2, f3, f4, f5, f6, f7⟩) 40 (0, 0))), (n, some (.opn [.pointer (some ⟨i, 1, none⟩), .pointer (some ⟨i, 4, none⟩)] 74 1))]) := by
  refine call_of_vw (K := 1) (argsI := [.pointer (some ⟨0, 0, none⟩)]) tab Try.func28 rfl rfl (by simp [Try.f28]) [.own i] [.cells (evtL ⟨3, f1, f2, f3, f4, f5, f6, f7⟩) 40 (0, 0)] rfl (.own hV (ov_evt rfl) .nil) (by simp [ownNames, *]) (by simp [ownNames, lookNames, *]) (by simp [ownNames, *]) (al_cons (.val (rel_ptr rfl)) al_nil) (seen_of (sn_own sn_nil)) ?_
  refine wsq (wrg (vQ tab rfl (vnl (qth (wsq (wrg (vQ tab rfl (vnl (qth (wsq (wsq (wrg (vQ tab rfl (vQ tab rfl (vQ tab rfl (vQ tab rfl (vnl (qth (wbk (wsq (wbk (wsq (wbk ?_)))))))))))))))))))))))
  refine wsq (wbk (wsq (wbk (wsq (wbk (wsq (wbk (wsq (wbk (wsq (wbk (wsq (wsq (wsq (wrg (vQ tab rfl (vQ tab rfl (vnl (qth (vc_false rfl (vw_skip (qth (wsq ?_)))))))))))))))))))))))
  refine wsq (wrg (vQ tab rfl (vQ tab rfl (vnl (qth (vc_true rfl (vw_exit (q_thenx (q_thenx (q_out rfl (q_thenx (q_here (qth (wrg (vQ tab rfl (vQ tab rfl (vQ tab rfl (vN tab rfl (vQ tab rfl (vnl (q_norm (qth (wsq ?_)))))))))))))))))))))))
  refine wsq (wrg (vQ tab rfl (vQ tab rfl (vQ tab rfl (vN tab rfl (vQ tab rfl (vo_op rfl rfl rfl (opr_ev tab rfl) (vQ tab rfl (vnl (qth (vw_ret (q_thenr (q_ret (q_thenr (q_ret (q_thenr (q_ret (q_thenr (q_ret (q_thenr (q_ret (q_thenr (q_ret ?_)))))))))))))))))))))))
  refine q_thenr ?_
  exact out_mk [3] (.inr rfl) ⟨rfl, rfl⟩ rfl (rel_slice (sigma_at (i := 0) (by simp [ownNames, *]) rfl) rfl) (op_cons (sigma_own (a := 0) (by simp [ownNames]) rfl) rfl rfl (ov_evt rfl) rfl (op_cons (sigma_at (i := 0) (by simp [ownNames, *]) rfl) rfl rfl (.opn _ _ (lrel_cons (rel_ptr (sigma_own (a := 0) (by simp [ownNames]) rfl)) (lrel_cons (rel_ptr (sigma_own (a := 0) (by simp [ownNames]) rfl)) lrel_nil))) rfl op_nil)) ⟨fun _ => by simp [lkp], trivial⟩
set_option maxHeartbeats 4000000 in
theorem evt_parts4 {V : Heap} {n i : Nat} {f1 f2 f3 f4 f5 f6 f7 : Int} (hV : V i = some (.cells (evtL ⟨4, f1, f2, f3, f4, f5, f6, f7⟩) 40 (0, 0))) (hin : i < n) :
    Tri Try.prog 28 [.pointer (some ⟨i, 0, none⟩)] n 1 V (fun u L => u = .slice (some ⟨n, 0, none⟩) 1 0 ∧ L = [(i, some (.cells (evtL ⟨4, f1, f2, f3, f4, f5, f6, f7⟩) 40 (0, 0))), (n, some (.opn [.pointer (some ⟨i, 1, none⟩)] 74 1))]) := by
  refine call_of_vw (K := 1) (argsI := [.pointer (some ⟨0, 0, none⟩)]) tab Try.func28 rfl rfl (by simp [Try.f28]) [.own i] [.cells (evtL ⟨4, f1, f2, f3, f4, f5, f6, f7⟩) 40 (0, 0)] rfl (.own hV (ov_evt rfl) .nil) (by simp [ownNames, *]) (by simp [ownNames, lookNames, *]) (by simp [ownNames, *]) (al_cons (.val (rel_ptr rfl)) al_nil) (seen_of (sn_own sn_nil)) ?_
  refine wsq (wrg (vQ tab rfl (vnl (qth (wsq (wrg (vQ tab rfl (vnl (qth (wsq (wsq (wrg (vQ tab rfl (vQ tab rfl (vQ tab rfl (vQ tab rfl (vnl (qth (wbk (wsq (wbk (wsq (wbk ?_)))))))))))))))))))))))
  refine wsq (wbk (wsq (wbk (wsq (wbk (wsq (wbk (wsq (wbk (wsq (wbk (wsq (wsq (wsq (wrg (vQ tab rfl (vQ tab rfl (vnl (qth (vc_false rfl (vw_skip (qth (wsq ?_)))))))))))))))))))))))
  refine wsq (wrg (vQ tab rfl (vQ tab rfl (vnl (qth (vc_false rfl (vw_skip (qth (wsq (wsq (wsq (wrg (vQ tab rfl (vQ tab rfl (vnl (qth (vc_true rfl (vw_skip (qth (vc_true rfl (vw_exit (q_thenx (q_thenx ?_)))))))))))))))))))))))
  refine q_out rfl (q_thenx (q_out rfl (q_thenx (q_here (qth (wsq (wsq (wrg (vQ tab rfl (vQ tab rfl (vQ tab rfl (vN tab rfl (vQ tab rfl (vo_op rfl rfl rfl (opr_ev tab rfl) (vQ tab rfl (vnl (qth (vw_ret (q_thenr (q_ret (q_thenr (q_ret (q_thenr ?_)))))))))))))))))))))))
  refine q_ret (q_thenr (q_ret (q_thenr (q_ret (q_thenr (q_ret (q_thenr ?_)))))))
  exact out_mk [2] (.inr rfl) ⟨rfl, rfl⟩ rfl (rel_slice (sigma_at (i := 0) (by simp [ownNames, *]) rfl) rfl) (op_cons (sigma_own (a := 0) (by simp [ownNames]) rfl) rfl rfl (ov_evt rfl) rfl (op_cons (sigma_at (i := 0) (by simp [ownNames, *]) rfl) rfl rfl (.opn _ _ (lrel_cons (rel_ptr (sigma_own (a := 0) (by simp [ownNames]) rfl)) lrel_nil)) rfl op_nil)) ⟨fun _ => by simp [lkp], trivial⟩
set_option maxHeartbeats 4000000 in
theorem evt_parts5 {V : Heap} {n i : Nat} {f1 f2 f3 f4 f5 f6 f7 : Int} (hV : V i = some (.cells (evtL ⟨5, f1, f2, f3, f4, f5, f6, f7⟩) 40 (0, 0))) (hin : i < n) :
    Tri Try.prog 28 [.pointer (some ⟨i, 0, none⟩)] n 1 V (fun u L => u = .slice (some ⟨n, 0, none⟩) 4 0 ∧ L = [(i, some (.cells (evtL ⟨5, f1, f2, f3, f4, f5, f6, f7⟩) 40 (0, 0))), (n, some (.opn [.pointer (some ⟨i, 2, none⟩), .pointer (some ⟨i, 1, none⟩), .pointer (some ⟨i, 3, none⟩), .pointer (some ⟨i, 7, none⟩)] 74 1))]) := by
  refine call_of_vw (K := 1) (argsI := [.pointer (some ⟨0, 0, none⟩)]) tab Try.func28 rfl rfl (by simp [Try.f28]) [.own i] [.cells (evtL ⟨5, f1, f2, f3, f4, f5, f6, f7⟩) 40 (0, 0)] rfl (.own hV (ov_evt rfl) .nil) (by simp [ownNames, *]) (by simp [ownNames, lookNames, *]) (by simp [ownNames, *]) (al_cons (.val (rel_ptr rfl)) al_nil) (seen_of (sn_own sn_nil)) ?_
  refine wsq (wrg (vQ tab rfl (vnl (qth (wsq (wrg (vQ tab rfl (vnl (qth (wsq (wsq (wrg (vQ tab rfl (vQ tab rfl (vQ tab rfl (vQ tab rfl (vnl (qth (wbk (wsq (wbk (wsq (wbk ?_)))))))))))))))))))))))
  refine wsq (wbk (wsq (wbk (wsq (wbk (wsq (wbk (wsq (wbk (wsq (wbk (wsq (wsq (wsq (wrg (vQ tab rfl (vQ tab rfl (vnl (qth (vc_false rfl (vw_skip (qth (wsq ?_)))))))))))))))))))))))
  refine wsq (wrg (vQ tab rfl (vQ tab rfl (vnl (qth (vc_false rfl (vw_skip (qth (wsq (wsq (wsq (wrg (vQ tab rfl (vQ tab rfl (vnl (qth (vc_false rfl (wrg (vQ tab rfl (vQ tab rfl (vnl (qth (vc_false rfl ?_)))))))))))))))))))))))
  refine vw_skip (qth (wsq (wsq (wrg (vQ tab rfl (vQ tab rfl (vnl (qth (vc_false rfl (vw_skip (qth (wsq (wsq (wrg (vQ tab rfl (vQ tab rfl (vnl (qth (vc_true rfl (vw_exit (q_thenx (q_thenx (q_out rfl ?_)))))))))))))))))))))))
  refine q_thenx (q_out rfl (q_thenx (q_out rfl (q_thenx (q_out rfl (q_thenx (q_here (qth (wsq (wsq (vw_draw mixed (dq_op tab rfl rfl rfl rfl (dq_op tab rfl rfl rfl rfl (dq_op tab rfl rfl rfl rfl (dq_op tab rfl rfl rfl rfl (dq_op tab rfl rfl rfl rfl (dq_op tab rfl rfl rfl rfl (dq_op tab rfl rfl rfl rfl (dq_op tab rfl rfl rfl rfl (dq_op tab rfl rfl rfl rfl (dq_op tab rfl rfl rfl rfl (dq_op tab rfl rfl rfl rfl (dq_op tab rfl rfl rfl rfl ?_)))))))))))))))))))))))
  refine do_op [1] rfl rfl (opr_ev tab rfl) (dq_op tab rfl rfl rfl rfl (vd_nil (by kernel_rfl) ?_))
  refine qth (vw_ret (q_thenr (q_ret (q_thenr (q_ret (q_thenr (q_ret (q_thenr (q_ret (q_thenr ?_))))))))))
  exact out_mk [1] (.inr rfl) ⟨rfl, rfl⟩ rfl (rel_slice (sigma_at (i := 0) (by simp [ownNames, *]) rfl) rfl) (op_cons (sigma_own (a := 0) (by simp [ownNames]) rfl) rfl rfl (ov_evt rfl) rfl (op_cons (sigma_at (i := 0) (by simp [ownNames, *]) rfl) rfl rfl (.opn _ _ (lrel_cons (rel_ptr (sigma_own (a := 0) (by simp [ownNames]) rfl)) (lrel_cons (rel_ptr (sigma_own (a := 0) (by simp [ownNames]) rfl)) (lrel_cons (rel_ptr (sigma_own (a := 0) (by simp [ownNames]) rfl)) (lrel_cons (rel_ptr (sigma_own (a := 0) (by simp [ownNames]) rfl)) lrel_nil))))) rfl op_nil)) ⟨fun _ => by simp [lkp], trivial⟩
set_option maxHeartbeats 4000000 in
theorem evt_parts6 {V : Heap} {n i : Nat} {f1 f2 f3 f4 f5 f6 f7 : Int} (hV : V i = some (.cells (evtL ⟨6, f1, f2, f3, f4, f5, f6, f7⟩) 40 (0, 0))) (hin : i < n) :
    Tri Try.prog 28 [.pointer (some ⟨i, 0, none⟩)] n 1 V (fun u L => u = .slice (some ⟨n, 0, none⟩) 4 0 ∧ L = [(i, some (.cells (evtL ⟨6, f1, f2, f3, f4, f5, f6, f7⟩) 40 (0, 0))), (n, some (.opn [.pointer (some ⟨i, 2, none⟩), .pointer (some ⟨i, 4, none⟩), .pointer (some ⟨i, 5, none⟩), .pointer (some ⟨i, 7, none⟩)] 74 1))]) := by
  refine call_of_vw (K := 1) (argsI := [.pointer (some ⟨0, 0, none⟩)]) tab Try.func28 rfl rfl (by simp [Try.f28]) [.own i] [.cells (evtL ⟨6, f1, f2, f3, f4, f5, f6, f7⟩) 40 (0, 0)] rfl (.own hV (ov_evt rfl) .nil) (by simp [ownNames, *]) (by simp [ownNames, lookNames, *]) (by simp [ownNames, *]) (al_cons (.val (rel_ptr rfl)) al_nil) (seen_of (sn_own sn_nil)) ?_
  refine wsq (wrg (vQ tab rfl (vnl (qth (wsq (wrg (vQ tab rfl (vnl (qth (wsq (wsq (wrg (vQ tab rfl (vQ tab rfl (vQ tab rfl (vQ tab rfl (vnl (qth (wbk (wsq (wbk (wsq (wbk ?_)))))))))))))))))))))))
  refine wsq (wbk (wsq (wbk (wsq (wbk (wsq (wbk (wsq (wbk (wsq (wbk (wsq (wsq (wsq (wrg (vQ tab rfl (vQ tab rfl (vnl (qth (vc_false rfl (vw_skip (qth (wsq ?_)))))))))))))))))))))))
  refine wsq (wrg (vQ tab rfl (vQ tab rfl (vnl (qth (vc_false rfl (vw_skip (qth (wsq (wsq (wsq (wrg (vQ tab rfl (vQ tab rfl (vnl (qth (vc_false rfl (wrg (vQ tab rfl (vQ tab rfl (vnl (qth (vc_false rfl ?_)))))))))))))))))))))))
  refine vw_skip (qth (wsq (wsq (wrg (vQ tab rfl (vQ tab rfl (vnl (qth (vc_false rfl (vw_skip (qth (wsq (wsq (wrg (vQ tab rfl (vQ tab rfl (vnl (qth (vc_false rfl (vw_skip (qth (wsq (wsq ?_)))))))))))))))))))))))
  refine wrg (vQ tab rfl (vQ tab rfl (vnl (qth (vc_true rfl (vw_exit (q_thenx (q_thenx (q_out rfl (q_thenx (q_out rfl (q_thenx (q_out rfl (q_thenx (q_out rfl (q_thenx (q_out rfl (q_thenx (q_here (qth (vw_draw mixed (dq_op tab rfl rfl rfl rfl (dq_op tab rfl rfl rfl rfl ?_)))))))))))))))))))))))
  refine dq_op tab rfl rfl rfl rfl (dq_op tab rfl rfl rfl rfl (dq_op tab rfl rfl rfl rfl (dq_op tab rfl rfl rfl rfl (dq_op tab rfl rfl rfl rfl (dq_op tab rfl rfl rfl rfl (dq_op tab rfl rfl rfl rfl (do_op [1] rfl rfl (opr_ev tab rfl) (dq_op tab rfl rfl rfl rfl (vd_nil (by kernel_rfl) ?_)))))))))
  refine q_norm (qth (wsq (wsq (wrg (vQ tab rfl (vQ tab rfl (vQ tab rfl (vN tab rfl (vQ tab rfl (vo_op rfl rfl rfl (opr_ev tab rfl) (vQ tab rfl (vnl (qth (vw_ret (q_thenr (q_ret (q_thenr (q_ret (q_thenr ?_)))))))))))))))))))
  exact out_mk [3] (.inr rfl) ⟨rfl, rfl⟩ rfl (rel_slice (sigma_at (i := 0) (by simp [ownNames, *]) rfl) rfl) (op_cons (sigma_own (a := 0) (by simp [ownNames]) rfl) rfl rfl (ov_evt rfl) rfl (op_cons (sigma_at (i := 0) (by simp [ownNames, *]) rfl) rfl rfl (.opn _ _ (lrel_cons (rel_ptr (sigma_own (a := 0) (by simp [ownNames]) rfl)) (lrel_cons (rel_ptr (sigma_own (a := 0) (by simp [ownNames]) rfl)) (lrel_cons (rel_ptr (sigma_own (a := 0) (by simp [ownNames]) rfl)) (lrel_cons (rel_ptr (sigma_own (a := 0) (by simp [ownNames]) rfl)) lrel_nil))))) rfl op_nil)) ⟨fun _ => by simp [lkp], trivial⟩
set_option maxHeartbeats 4000000 in
theorem evt_parts7 {V : Heap} {n i : Nat} {f1 f2 f3 f4 f5 f6 f7 : Int} (hV : V i = some (.cells (evtL ⟨7, f1, f2, f3, f4, f5, f6, f7⟩) 40 (0, 0))) (hin : i < n) :
    Tri Try.prog 28 [.pointer (some ⟨i, 0, none⟩)] n 1 V (fun u L => u = .slice (some ⟨n, 0, none⟩) 1 0 ∧ L = [(i, some (.cells (evtL ⟨7, f1, f2, f3, f4, f5, f6, f7⟩) 40 (0, 0))), (n, some (.opn [.pointer (some ⟨i, 1, none⟩)] 74 1))]) := by
  refine call_of_vw (K := 1) (argsI := [.pointer (some ⟨0, 0, none⟩)]) tab Try.func28 rfl rfl (by simp [Try.f28]) [.own i] [.cells (evtL ⟨7, f1, f2, f3, f4, f5, f6, f7⟩) 40 (0, 0)] rfl (.own hV (ov_evt rfl) .nil) (by simp [ownNames, *]) (by simp [ownNames, lookNames, *]) (by simp [ownNames, *]) (al_cons (.val (rel_ptr rfl)) al_nil) (seen_of (sn_own sn_nil)) ?_
  refine wsq (wrg (vQ tab rfl (vnl (qth (wsq (wrg (vQ tab rfl (vnl (qth (wsq (wsq (wrg (vQ tab rfl (vQ tab rfl (vQ tab rfl (vQ tab rfl (vnl (qth (wbk (wsq (wbk (wsq (wbk ?_)))))))))))))))))))))))
  refine wsq (wbk (wsq (wbk (wsq (wbk (wsq (wbk (wsq (wbk (wsq (wbk (wsq (wsq (wsq (wrg (vQ tab rfl (vQ tab rfl (vnl (qth (vc_false rfl (vw_skip (qth (wsq ?_)))))))))))))))))))))))
  refine wsq (wrg (vQ tab rfl (vQ tab rfl (vnl (qth (vc_false rfl (vw_skip (qth (wsq (wsq (wsq (wrg (vQ tab rfl (vQ tab rfl (vnl (qth (vc_false rfl (wrg (vQ tab rfl (vQ tab rfl (vnl (qth (vc_true rfl ?_)))))))))))))))))))))))
  refine vw_exit (q_thenx (q_thenx (q_out rfl (q_thenx (q_out rfl (q_thenx (q_here (qth (wsq (wsq (wrg (vQ tab rfl (vQ tab rfl (vQ tab rfl (vN tab rfl (vQ tab rfl (vo_op rfl rfl rfl (opr_ev tab rfl) (vQ tab rfl (vnl (qth (vw_ret (q_thenr (q_ret ?_)))))))))))))))))))))))
  refine q_thenr (q_ret (q_thenr (q_ret (q_thenr (q_ret (q_thenr (q_ret (q_thenr (q_ret (q_thenr ?_))))))))))
  exact out_mk [2] (.inr rfl) ⟨rfl, rfl⟩ rfl (rel_slice (sigma_at (i := 0) (by simp [ownNames, *]) rfl) rfl) (op_cons (sigma_own (a := 0) (by simp [ownNames]) rfl) rfl rfl (ov_evt rfl) rfl (op_cons (sigma_at (i := 0) (by simp [ownNames, *]) rfl) rfl rfl (.opn _ _ (lrel_cons (rel_ptr (sigma_own (a := 0) (by simp [ownNames]) rfl)) lrel_nil)) rfl op_nil)) ⟨fun _ => by simp [lkp], trivial⟩
set_option maxHeartbeats 4000000 in
theorem evt_parts9 {V : Heap} {n i : Nat} {f1 f2 f3 f4 f5 f6 f7 : Int} (hV : V i = some (.cells (evtL ⟨9, f1, f2, f3, f4, f5, f6, f7⟩) 40 (0, 0))) (hin : i < n) :
    Tri Try.prog 28 [.pointer (some ⟨i, 0, none⟩)] n 1 V (fun u L => u = .slice (some ⟨n, 0, none⟩) 1 0 ∧ L = [(i, some (.cells (evtL ⟨9, f1, f2, f3, f4, f5, f6, f7⟩) 40 (0, 0))), (n, some (.opn [.pointer (some ⟨i, 2, none⟩)] 74 1))]) := by
  refine call_of_vw (K := 1) (argsI := [.pointer (some ⟨0, 0, none⟩)]) tab Try.func28 rfl rfl (by simp [Try.f28]) [.own i] [.cells (evtL ⟨9, f1, f2, f3, f4, f5, f6, f7⟩) 40 (0, 0)] rfl (.own hV (ov_evt rfl) .nil) (by simp [ownNames, *]) (by simp [ownNames, lookNames, *]) (by simp [ownNames, *]) (al_cons (.val (rel_ptr rfl)) al_nil) (seen_of (sn_own sn_nil)) ?_
  refine wsq (wrg (vQ tab rfl (vnl (qth (wsq (wrg (vQ tab rfl (vnl (qth (wsq (wsq (wrg (vQ tab rfl (vQ tab rfl (vQ tab rfl (vQ tab rfl (vnl (qth (wbk (wsq (wbk (wsq (wbk ?_)))))))))))))))))))))))
  refine wsq (wbk (wsq (wbk (wsq (wbk (wsq (wbk (wsq (wbk (wsq (wbk (wsq (wsq (wsq (wrg (vQ tab rfl (vQ tab rfl (vnl (qth (vc_false rfl (vw_skip (qth (wsq ?_)))))))))))))))))))))))
  refine wsq (wrg (vQ tab rfl (vQ tab rfl (vnl (qth (vc_false rfl (vw_skip (qth (wsq (wsq (wsq (wrg (vQ tab rfl (vQ tab rfl (vnl (qth (vc_false rfl (wrg (vQ tab rfl (vQ tab rfl (vnl (qth (vc_false rfl ?_)))))))))))))))))))))))
  refine vw_skip (qth (wsq (wsq (wrg (vQ tab rfl (vQ tab rfl (vnl (qth (vc_false rfl (vw_skip (qth (wsq (wsq (wrg (vQ tab rfl (vQ tab rfl (vnl (qth (vc_false rfl (vw_skip (qth (wsq (wsq ?_)))))))))))))))))))))))
  refine wrg (vQ tab rfl (vQ tab rfl (vnl (qth (vc_false rfl (vw_skip (qth (wsq (wsq (wrg (vQ tab rfl (vQ tab rfl (vnl (qth (vc_true rfl (vw_exit (q_thenx (q_thenx (q_out rfl (q_thenx (q_out rfl (q_thenx (q_out rfl ?_)))))))))))))))))))))))
  refine q_thenx (q_out rfl (q_thenx (q_out rfl (q_thenx (q_out rfl (q_thenx (q_here (qth (wsq (wsq (wrg (vQ tab rfl (vQ tab rfl (vQ tab rfl (vN tab rfl (vQ tab rfl (vo_op rfl rfl rfl (opr_ev tab rfl) (vQ tab rfl (vnl (qth (vw_ret (q_thenr (q_ret ?_)))))))))))))))))))))))
  refine q_thenr (q_ret (q_thenr ?_))
  exact out_mk [2] (.inr rfl) ⟨rfl, rfl⟩ rfl (rel_slice (sigma_at (i := 0) (by simp [ownNames, *]) rfl) rfl) (op_cons (sigma_own (a := 0) (by simp [ownNames]) rfl) rfl rfl (ov_evt rfl) rfl (op_cons (sigma_at (i := 0) (by simp [ownNames, *]) rfl) rfl rfl (.opn _ _ (lrel_cons (rel_ptr (sigma_own (a := 0) (by simp [ownNames]) rfl)) lrel_nil)) rfl op_nil)) ⟨fun _ => by simp [lkp], trivial⟩
set_option maxHeartbeats 4000000 in
theorem evt_partsN {V : Heap} {n i : Nat} {k : Int} {f1 f2 f3 f4 f5 f6 f7 : Int} (hV : V i = some (.cells (evtL ⟨k, f1, f2, f3, f4, f5, f6, f7⟩) 40 (0, 0))) (hk : k ≠ 0 ∧ k ≠ 1 ∧ k ≠ 2 ∧ k ≠ 3 ∧ k ≠ 4 ∧ k ≠ 5 ∧ k ≠ 6 ∧ k ≠ 7 ∧ k ≠ 9) :
    Tri Try.prog 28 [.pointer (some ⟨i, 0, none⟩)] n 0 V (fun u L => u = .slice none 0 0 ∧ L = []) := by
  refine reads_of_vw (K := 1) (argsI := [.pointer (some ⟨0, 0, none⟩)]) tab Try.func28 rfl rfl (by simp [Try.f28]) [.own i] [.cells (evtL ⟨k, f1, f2, f3, f4, f5, f6, f7⟩) 40 (0, 0)] rfl (.own hV (ov_evt rfl) .nil) (by simp [ownNames, *]) (by simp [ownNames, lookNames, *]) (al_cons (.val (rel_ptr rfl)) al_nil) (seen_of (sn_own sn_nil)) (.nilSlice) ?_
  refine wsq (wrg (vQ tab rfl (vnl (qth (wsq (wrg (vQ tab rfl (vnl (qth (wsq (wsq (wrg (vQ tab rfl (vQ tab rfl (vQ tab rfl (vQ tab rfl (vnl (qth (wbk (wsq (wbk (wsq (wbk ?_)))))))))))))))))))))))
  refine wsq (wbk (wsq (wbk (wsq (wbk (wsq (wbk (wsq (wbk (wsq (wbk (wsq (wsq (wsq (wrg (vQ tab rfl (vQ tab rfl (vnl (qth (vcd_false rfl (by simp only [decide_eq_true_eq, decide_eq_false_iff_not, Bool.not_eq_eq_eq_not, Bool.not_true, Bool.not_false, bne_iff_ne, bne_eq_false_iff_eq, beq_iff_eq, beq_eq_false_iff_ne, ne_eq, beq_self_eq_true, bne_self_eq_false, Bool.and_eq_true, Bool.and_eq_false_iff, Bool.or_eq_true, Bool.or_eq_false_iff, and_self, and_true, true_and, Bool.false_eq_true, Bool.true_eq_false, not_false_eq_true, not_true_eq_false]; first | done | omega) ?_))))))))))))))))))))
  refine vw_skip (qth (wsq (wsq (wrg (vQ tab rfl (vQ tab rfl (vnl (qth (vcd_false rfl (by simp only [decide_eq_true_eq, decide_eq_false_iff_not, Bool.not_eq_eq_eq_not, Bool.not_true, Bool.not_false, bne_iff_ne, bne_eq_false_iff_eq, beq_iff_eq, beq_eq_false_iff_ne, ne_eq, beq_self_eq_true, bne_self_eq_false, Bool.and_eq_true, Bool.and_eq_false_iff, Bool.or_eq_true, Bool.or_eq_false_iff, and_self, and_true, true_and, Bool.false_eq_true, Bool.true_eq_false, not_false_eq_true, not_true_eq_false]; first | done | omega) ?_)))))))))
  refine vw_skip (qth (wsq (wsq (wsq (wrg (vQ tab rfl (vQ tab rfl (vnl (qth (vcd_false rfl (by simp only [decide_eq_true_eq, decide_eq_false_iff_not, Bool.not_eq_eq_eq_not, Bool.not_true, Bool.not_false, bne_iff_ne, bne_eq_false_iff_eq, beq_iff_eq, beq_eq_false_iff_ne, ne_eq, beq_self_eq_true, bne_self_eq_false, Bool.and_eq_true, Bool.and_eq_false_iff, Bool.or_eq_true, Bool.or_eq_false_iff, and_self, and_true, true_and, Bool.false_eq_true, Bool.true_eq_false, not_false_eq_true, not_true_eq_false]; first | done | omega) ?_))))))))))
  refine wrg (vQ tab rfl (vQ tab rfl (vnl (qth (vcd_false rfl (by simp only [decide_eq_true_eq, decide_eq_false_iff_not, Bool.not_eq_eq_eq_not, Bool.not_true, Bool.not_false, bne_iff_ne, bne_eq_false_iff_eq, beq_iff_eq, beq_eq_false_iff_ne, ne_eq, beq_self_eq_true, bne_self_eq_false, Bool.and_eq_true, Bool.and_eq_false_iff, Bool.or_eq_true, Bool.or_eq_false_iff, and_self, and_true, true_and, Bool.false_eq_true, Bool.true_eq_false, not_false_eq_true, not_true_eq_false]; first | done | omega) ?_)))))
  refine vw_skip (qth (wsq (wsq (wrg (vQ tab rfl (vQ tab rfl (vnl (qth (vcd_false rfl (by simp only [decide_eq_true_eq, decide_eq_false_iff_not, Bool.not_eq_eq_eq_not, Bool.not_true, Bool.not_false, bne_iff_ne, bne_eq_false_iff_eq, beq_iff_eq, beq_eq_false_iff_ne, ne_eq, beq_self_eq_true, bne_self_eq_false, Bool.and_eq_true, Bool.and_eq_false_iff, Bool.or_eq_true, Bool.or_eq_false_iff, and_self, and_true, true_and, Bool.false_eq_true, Bool.true_eq_false, not_false_eq_true, not_true_eq_false]; first | done | omega) ?_)))))))))
  refine vw_skip (qth (wsq (wsq (wrg (vQ tab rfl (vQ tab rfl (vnl (qth (vcd_false rfl (by simp only [decide_eq_true_eq, decide_eq_false_iff_not, Bool.not_eq_eq_eq_not, Bool.not_true, Bool.not_false, bne_iff_ne, bne_eq_false_iff_eq, beq_iff_eq, beq_eq_false_iff_ne, ne_eq, beq_self_eq_true, bne_self_eq_false, Bool.and_eq_true, Bool.and_eq_false_iff, Bool.or_eq_true, Bool.or_eq_false_iff, and_self, and_true, true_and, Bool.false_eq_true, Bool.true_eq_false, not_false_eq_true, not_true_eq_false]; first | done | omega) ?_)))))))))
  refine vw_skip (qth (wsq (wsq (wrg (vQ tab rfl (vQ tab rfl (vnl (qth (vcd_false rfl (by simp only [decide_eq_true_eq, decide_eq_false_iff_not, Bool.not_eq_eq_eq_not, Bool.not_true, Bool.not_false, bne_iff_ne, bne_eq_false_iff_eq, beq_iff_eq, beq_eq_false_iff_ne, ne_eq, beq_self_eq_true, bne_self_eq_false, Bool.and_eq_true, Bool.and_eq_false_iff, Bool.or_eq_true, Bool.or_eq_false_iff, and_self, and_true, true_and, Bool.false_eq_true, Bool.true_eq_false, not_false_eq_true, not_true_eq_false]; first | done | omega) ?_)))))))))
  refine vw_skip (qth (wsq (wsq (wrg (vQ tab rfl (vQ tab rfl (vnl (qth (vcd_false rfl (by simp only [decide_eq_true_eq, decide_eq_false_iff_not, Bool.not_eq_eq_eq_not, Bool.not_true, Bool.not_false, bne_iff_ne, bne_eq_false_iff_eq, beq_iff_eq, beq_eq_false_iff_ne, ne_eq, beq_self_eq_true, bne_self_eq_false, Bool.and_eq_true, Bool.and_eq_false_iff, Bool.or_eq_true, Bool.or_eq_false_iff, and_self, and_true, true_and, Bool.false_eq_true, Bool.true_eq_false, not_false_eq_true, not_true_eq_false]; first | done | omega) ?_)))))))))
  refine vw_skip (qth (wsq (wrg (vQ tab rfl (vQ tab rfl (vnl (qth (vcd_false rfl (by simp only [decide_eq_true_eq, decide_eq_false_iff_not, Bool.not_eq_eq_eq_not, Bool.not_true, Bool.not_false, bne_iff_ne, bne_eq_false_iff_eq, beq_iff_eq, beq_eq_false_iff_ne, ne_eq, beq_self_eq_true, bne_self_eq_false, Bool.and_eq_true, Bool.and_eq_false_iff, Bool.or_eq_true, Bool.or_eq_false_iff, and_self, and_true, true_and, Bool.false_eq_true, Bool.true_eq_false, not_false_eq_true, not_true_eq_false]; first | done | omega) ?_))))))))
  refine vw_skip (qth (vw_exit (q_out rfl (q_thenx (q_out rfl (q_thenx (q_out rfl (q_thenx (q_out rfl (q_thenx (q_out rfl (q_thenx (q_out rfl (q_thenx (q_out rfl (q_thenx (q_out rfl (q_thenx (q_here (qth (wsq (wrg (vQ tab rfl ?_)))))))))))))))))))))))
  refine vnl (qth (vw_ret ?_))
  exact ⟨⟨.inr rfl, rfl⟩, fun _ => rfl, trivial⟩
set_option maxHeartbeats 16000000 in
theorem evt_plain {V : Heap} {n i : Nat} (a : EventV) (hV : V i = some (evtO a)) :
    Tri Try.prog 30 [.pointer (some ⟨i, 0, none⟩)] n 0 V (fun u L => u = evtV (evtPlain a) ∧ L = []) := by
  obtain ⟨k, f1, f2, f3, f4, f5, f6, f7⟩ := a
  refine reads_of_vw (K := 1) (argsI := [.pointer (some ⟨0, 0, none⟩)]) tab Try.func30 rfl rfl (by simp [Try.f30]) [.own i] [evtO ⟨k, f1, f2, f3, f4, f5, f6, f7⟩] rfl (.own hV (ov_evt rfl) .nil) (by simp [ownNames, *]) (by simp [ownNames, lookNames, *]) (al_cons (.val (rel_ptr rfl)) al_nil) (seen_of (sn_own sn_nil)) (evtRel _) ?_
  rcases (show k = 0 ∨ k = 1 ∨ k = 2 ∨ k = 3 ∨ k = 4 ∨ k = 5 ∨ k = 6 ∨ k = 7 ∨ k = 8 ∨ k = 9 ∨ (k ≠ 0 ∧ k ≠ 1 ∧ k ≠ 2 ∧ k ≠ 3 ∧ k ≠ 4 ∧ k ≠ 5 ∧ k ≠ 6 ∧ k ≠ 7 ∧ k ≠ 8 ∧ k ≠ 9) by omega) with rfl | rfl | rfl | rfl | rfl | rfl | rfl | rfl | rfl | rfl | hk
  · refine wsq (wrg (vN tab rfl (vnl (qth (wsq (wrg (vQ tab rfl (vQ tab rfl (vQ tab rfl (vQ tab rfl (vQ tab rfl (vN tab rfl (vS tab rfl (vnl (qth (wsq (wrg (vT rfl callable_28 (evt_parts0 (f1 := 0) (f2 := 0) (f3 := 0) (f4 := 0) (f5 := 0) (f6 := 0) (f7 := 0) rfl (by decide)) ?_))))))))))))))))))
    refine vQ tab rfl (vnl (qth (wsq (wsq (wrg (vQ tab rfl (vT rfl callable_28 (evt_parts0 (f1 := f1) (f2 := f2) (f3 := f3) (f4 := f4) (f5 := f5) (f6 := f6) (f7 := f7) rfl (by decide)) ?_)))))))
    refine vQ tab rfl (vQ tab rfl (vnl (qth (wbk (vw_rounds 5 (rd_step (wsq (wrg (vQ tab rfl (vnl (qth (wsq (vc_true rfl (vw_skip (qth (wsq (wbk (wsq (wrg (vQ tab rfl (vQ tab rfl (vQ tab rfl (vQ tab rfl ?_)))))))))))))))))))))))
    refine vQ tab rfl (vnl (qth (vw_draw mixed (dq_op tab rfl rfl rfl rfl (dq_op tab rfl rfl rfl rfl (dq_op tab rfl rfl rfl rfl (dq_op tab rfl rfl rfl rfl (dq_op tab rfl rfl rfl rfl (dq_op tab rfl rfl rfl rfl (dq_op tab rfl rfl rfl rfl (dq_op tab rfl rfl rfl rfl (ds_op tab rfl rfl rfl rfl (vd_nil (by kernel_rfl) ?_)))))))))))))
    refine q_norm (qth (wrg (vQ tab rfl (vQ tab rfl (vnl (qth (rd_step (wsq (wrg (vQ tab rfl (vnl (qth (wsq (vc_false rfl (vw_exit (q_thenx (q_thenx (q_here (qth (wsq (wrg (vQ tab rfl (vS tab rfl ?_)))))))))))))))))))))))
    refine vnl (qth (vw_ret ?_))
    exact ⟨⟨.inr rfl, rfl⟩, fun _ => rfl, trivial⟩
  · refine wsq (wrg (vN tab rfl (vnl (qth (wsq (wrg (vQ tab rfl (vQ tab rfl (vQ tab rfl (vQ tab rfl (vQ tab rfl (vN tab rfl (vS tab rfl (vnl (qth (wsq (wrg (vT rfl callable_28 (evt_parts1 (f1 := 0) (f2 := 0) (f3 := 0) (f4 := 0) (f5 := 0) (f6 := 0) (f7 := 0) rfl (by decide)) ?_))))))))))))))))))
    refine vQ tab rfl (vnl (qth (wsq (wsq (wrg (vQ tab rfl (vT rfl callable_28 (evt_parts1 (f1 := f1) (f2 := f2) (f3 := f3) (f4 := f4) (f5 := f5) (f6 := f6) (f7 := f7) rfl (by decide)) ?_)))))))
    refine vQ tab rfl (vQ tab rfl (vnl (qth (wbk (vw_rounds 5 (rd_step (wsq (wrg (vQ tab rfl (vnl (qth (wsq (vc_true rfl (vw_skip (qth (wsq (wbk (wsq (wrg (vQ tab rfl (vQ tab rfl (vQ tab rfl (vQ tab rfl ?_)))))))))))))))))))))))
    refine vQ tab rfl (vnl (qth (vw_draw mixed (dq_op tab rfl rfl rfl rfl (dq_op tab rfl rfl rfl rfl (dq_op tab rfl rfl rfl rfl (dq_op tab rfl rfl rfl rfl (dq_op tab rfl rfl rfl rfl (dq_op tab rfl rfl rfl rfl (dq_op tab rfl rfl rfl rfl (dq_op tab rfl rfl rfl rfl (ds_op tab rfl rfl rfl rfl (vd_nil (by kernel_rfl) ?_)))))))))))))
    refine q_norm (qth (wrg (vQ tab rfl (vQ tab rfl (vnl (qth (rd_step (wsq (wrg (vQ tab rfl (vnl (qth (wsq (vc_true rfl (vw_skip (qth (wsq (wbk (wsq (wrg (vQ tab rfl (vQ tab rfl (vQ tab rfl ?_)))))))))))))))))))))))
    refine vQ tab rfl (vQ tab rfl (vnl (qth (vw_draw mixed (dq_op tab rfl rfl rfl rfl (dq_op tab rfl rfl rfl rfl (dq_op tab rfl rfl rfl rfl (dq_op tab rfl rfl rfl rfl (dq_op tab rfl rfl rfl rfl (dq_op tab rfl rfl rfl rfl (dq_op tab rfl rfl rfl rfl (dq_op tab rfl rfl rfl rfl (ds_op tab rfl rfl rfl rfl (vd_nil (by kernel_rfl) ?_))))))))))))))
    refine q_norm (qth (wrg (vQ tab rfl (vQ tab rfl (vnl (qth (rd_step (wsq (wrg (vQ tab rfl (vnl (qth (wsq (vc_true rfl (vw_skip (qth (wsq (wbk (wsq (wrg (vQ tab rfl (vQ tab rfl (vQ tab rfl ?_)))))))))))))))))))))))
    refine vQ tab rfl (vQ tab rfl (vnl (qth (vw_draw mixed (dq_op tab rfl rfl rfl rfl (dq_op tab rfl rfl rfl rfl (dq_op tab rfl rfl rfl rfl (dq_op tab rfl rfl rfl rfl (dq_op tab rfl rfl rfl rfl (dq_op tab rfl rfl rfl rfl (dq_op tab rfl rfl rfl rfl (dq_op tab rfl rfl rfl rfl (ds_op tab rfl rfl rfl rfl (vd_nil (by kernel_rfl) ?_))))))))))))))
    refine q_norm (qth (wrg (vQ tab rfl (vQ tab rfl (vnl (qth (rd_step (wsq (wrg (vQ tab rfl (vnl (qth (wsq (vc_true rfl (vw_skip (qth (wsq (wbk (wsq (wrg (vQ tab rfl (vQ tab rfl (vQ tab rfl ?_)))))))))))))))))))))))
    refine vQ tab rfl (vQ tab rfl (vnl (qth (vw_draw mixed (dq_op tab rfl rfl rfl rfl (dq_op tab rfl rfl rfl rfl (dq_op tab rfl rfl rfl rfl (dq_op tab rfl rfl rfl rfl (dq_op tab rfl rfl rfl rfl (dq_op tab rfl rfl rfl rfl (dq_op tab rfl rfl rfl rfl (dq_op tab rfl rfl rfl rfl (ds_op tab rfl rfl rfl rfl (vd_nil (by kernel_rfl) ?_))))))))))))))
    refine q_norm (qth (wrg (vQ tab rfl (vQ tab rfl (vnl (qth (rd_step (wsq (wrg (vQ tab rfl (vnl (qth (wsq (vc_false rfl (vw_exit (q_thenx (q_thenx (q_here (qth (wsq (wrg (vQ tab rfl (vS tab rfl ?_)))))))))))))))))))))))
    refine vnl (qth (vw_ret ?_))
    exact ⟨⟨.inr rfl, rfl⟩, fun _ => rfl, trivial⟩
  · refine wsq (wrg (vN tab rfl (vnl (qth (wsq (wrg (vQ tab rfl (vQ tab rfl (vQ tab rfl (vQ tab rfl (vQ tab rfl (vN tab rfl (vS tab rfl (vnl (qth (wsq (wrg (vT rfl callable_28 (evt_parts2 (f1 := 0) (f2 := 0) (f3 := 0) (f4 := 0) (f5 := 0) (f6 := 0) (f7 := 0) rfl (by decide)) ?_))))))))))))))))))
    refine vQ tab rfl (vnl (qth (wsq (wsq (wrg (vQ tab rfl (vT rfl callable_28 (evt_parts2 (f1 := f1) (f2 := f2) (f3 := f3) (f4 := f4) (f5 := f5) (f6 := f6) (f7 := f7) rfl (by decide)) ?_)))))))
    refine vQ tab rfl (vQ tab rfl (vnl (qth (wbk (vw_rounds 5 (rd_step (wsq (wrg (vQ tab rfl (vnl (qth (wsq (vc_true rfl (vw_skip (qth (wsq (wbk (wsq (wrg (vQ tab rfl (vQ tab rfl (vQ tab rfl (vQ tab rfl ?_)))))))))))))))))))))))
    refine vQ tab rfl (vnl (qth (vw_draw mixed (dq_op tab rfl rfl rfl rfl (dq_op tab rfl rfl rfl rfl (dq_op tab rfl rfl rfl rfl (dq_op tab rfl rfl rfl rfl (dq_op tab rfl rfl rfl rfl (dq_op tab rfl rfl rfl rfl (dq_op tab rfl rfl rfl rfl (dq_op tab rfl rfl rfl rfl (ds_op tab rfl rfl rfl rfl (vd_nil (by kernel_rfl) ?_)))))))))))))
    refine q_norm (qth (wrg (vQ tab rfl (vQ tab rfl (vnl (qth (rd_step (wsq (wrg (vQ tab rfl (vnl (qth (wsq (vc_true rfl (vw_skip (qth (wsq (wbk (wsq (wrg (vQ tab rfl (vQ tab rfl (vQ tab rfl ?_)))))))))))))))))))))))
    refine vQ tab rfl (vQ tab rfl (vnl (qth (vw_draw mixed (dq_op tab rfl rfl rfl rfl (dq_op tab rfl rfl rfl rfl (dq_op tab rfl rfl rfl rfl (dq_op tab rfl rfl rfl rfl (dq_op tab rfl rfl rfl rfl (dq_op tab rfl rfl rfl rfl (dq_op tab rfl rfl rfl rfl (dq_op tab rfl rfl rfl rfl (ds_op tab rfl rfl rfl rfl (vd_nil (by kernel_rfl) ?_))))))))))))))
    refine q_norm (qth (wrg (vQ tab rfl (vQ tab rfl (vnl (qth (rd_step (wsq (wrg (vQ tab rfl (vnl (qth (wsq (vc_false rfl (vw_exit (q_thenx (q_thenx (q_here (qth (wsq (wrg (vQ tab rfl (vS tab rfl ?_)))))))))))))))))))))))
    refine vnl (qth (vw_ret ?_))
    exact ⟨⟨.inr rfl, rfl⟩, fun _ => rfl, trivial⟩
  · refine wsq (wrg (vN tab rfl (vnl (qth (wsq (wrg (vQ tab rfl (vQ tab rfl (vQ tab rfl (vQ tab rfl (vQ tab rfl (vN tab rfl (vS tab rfl (vnl (qth (wsq (wrg (vT rfl callable_28 (evt_parts3 (f1 := 0) (f2 := 0) (f3 := 0) (f4 := 0) (f5 := 0) (f6 := 0) (f7 := 0) rfl (by decide)) ?_))))))))))))))))))
    refine vQ tab rfl (vnl (qth (wsq (wsq (wrg (vQ tab rfl (vT rfl callable_28 (evt_parts3 (f1 := f1) (f2 := f2) (f3 := f3) (f4 := f4) (f5 := f5) (f6 := f6) (f7 := f7) rfl (by decide)) ?_)))))))
    refine vQ tab rfl (vQ tab rfl (vnl (qth (wbk (vw_rounds 5 (rd_step (wsq (wrg (vQ tab rfl (vnl (qth (wsq (vc_true rfl (vw_skip (qth (wsq (wbk (wsq (wrg (vQ tab rfl (vQ tab rfl (vQ tab rfl (vQ tab rfl ?_)))))))))))))))))))))))
    refine vQ tab rfl (vnl (qth (vw_draw mixed (dq_op tab rfl rfl rfl rfl (dq_op tab rfl rfl rfl rfl (dq_op tab rfl rfl rfl rfl (dq_op tab rfl rfl rfl rfl (dq_op tab rfl rfl rfl rfl (dq_op tab rfl rfl rfl rfl (dq_op tab rfl rfl rfl rfl (dq_op tab rfl rfl rfl rfl (ds_op tab rfl rfl rfl rfl (vd_nil (by kernel_rfl) ?_)))))))))))))
    refine q_norm (qth (wrg (vQ tab rfl (vQ tab rfl (vnl (qth (rd_step (wsq (wrg (vQ tab rfl (vnl (qth (wsq (vc_true rfl (vw_skip (qth (wsq (wbk (wsq (wrg (vQ tab rfl (vQ tab rfl (vQ tab rfl ?_)))))))))))))))))))))))
    refine vQ tab rfl (vQ tab rfl (vnl (qth (vw_draw mixed (dq_op tab rfl rfl rfl rfl (dq_op tab rfl rfl rfl rfl (dq_op tab rfl rfl rfl rfl (dq_op tab rfl rfl rfl rfl (dq_op tab rfl rfl rfl rfl (dq_op tab rfl rfl rfl rfl (dq_op tab rfl rfl rfl rfl (dq_op tab rfl rfl rfl rfl (ds_op tab rfl rfl rfl rfl (vd_nil (by kernel_rfl) ?_))))))))))))))
    refine q_norm (qth (wrg (vQ tab rfl (vQ tab rfl (vnl (qth (rd_step (wsq (wrg (vQ tab rfl (vnl (qth (wsq (vc_false rfl (vw_exit (q_thenx (q_thenx (q_here (qth (wsq (wrg (vQ tab rfl (vS tab rfl ?_)))))))))))))))))))))))
    refine vnl (qth (vw_ret ?_))
    exact ⟨⟨.inr rfl, rfl⟩, fun _ => rfl, trivial⟩
  · refine wsq (wrg (vN tab rfl (vnl (qth (wsq (wrg (vQ tab rfl (vQ tab rfl (vQ tab rfl (vQ tab rfl (vQ tab rfl (vN tab rfl (vS tab rfl (vnl (qth (wsq (wrg (vT rfl callable_28 (evt_parts4 (f1 := 0) (f2 := 0) (f3 := 0) (f4 := 0) (f5 := 0) (f6 := 0) (f7 := 0) rfl (by decide)) ?_))))))))))))))))))
    refine vQ tab rfl (vnl (qth (wsq (wsq (wrg (vQ tab rfl (vT rfl callable_28 (evt_parts4 (f1 := f1) (f2 := f2) (f3 := f3) (f4 := f4) (f5 := f5) (f6 := f6) (f7 := f7) rfl (by decide)) ?_)))))))
    refine vQ tab rfl (vQ tab rfl (vnl (qth (wbk (vw_rounds 5 (rd_step (wsq (wrg (vQ tab rfl (vnl (qth (wsq (vc_true rfl (vw_skip (qth (wsq (wbk (wsq (wrg (vQ tab rfl (vQ tab rfl (vQ tab rfl (vQ tab rfl ?_)))))))))))))))))))))))
    refine vQ tab rfl (vnl (qth (vw_draw mixed (dq_op tab rfl rfl rfl rfl (dq_op tab rfl rfl rfl rfl (dq_op tab rfl rfl rfl rfl (dq_op tab rfl rfl rfl rfl (dq_op tab rfl rfl rfl rfl (dq_op tab rfl rfl rfl rfl (dq_op tab rfl rfl rfl rfl (dq_op tab rfl rfl rfl rfl (ds_op tab rfl rfl rfl rfl (vd_nil (by kernel_rfl) ?_)))))))))))))
    refine q_norm (qth (wrg (vQ tab rfl (vQ tab rfl (vnl (qth (rd_step (wsq (wrg (vQ tab rfl (vnl (qth (wsq (vc_false rfl (vw_exit (q_thenx (q_thenx (q_here (qth (wsq (wrg (vQ tab rfl (vS tab rfl ?_)))))))))))))))))))))))
    refine vnl (qth (vw_ret ?_))
    exact ⟨⟨.inr rfl, rfl⟩, fun _ => rfl, trivial⟩
  · refine wsq (wrg (vN tab rfl (vnl (qth (wsq (wrg (vQ tab rfl (vQ tab rfl (vQ tab rfl (vQ tab rfl (vQ tab rfl (vN tab rfl (vS tab rfl (vnl (qth (wsq (wrg (vT rfl callable_28 (evt_parts5 (f1 := 0) (f2 := 0) (f3 := 0) (f4 := 0) (f5 := 0) (f6 := 0) (f7 := 0) rfl (by decide)) ?_))))))))))))))))))
    refine vQ tab rfl (vnl (qth (wsq (wsq (wrg (vQ tab rfl (vT rfl callable_28 (evt_parts5 (f1 := f1) (f2 := f2) (f3 := f3) (f4 := f4) (f5 := f5) (f6 := f6) (f7 := f7) rfl (by decide)) ?_)))))))
    refine vQ tab rfl (vQ tab rfl (vnl (qth (wbk (vw_rounds 5 (rd_step (wsq (wrg (vQ tab rfl (vnl (qth (wsq (vc_true rfl (vw_skip (qth (wsq (wbk (wsq (wrg (vQ tab rfl (vQ tab rfl (vQ tab rfl (vQ tab rfl ?_)))))))))))))))))))))))
    refine vQ tab rfl (vnl (qth (vw_draw mixed (dq_op tab rfl rfl rfl rfl (dq_op tab rfl rfl rfl rfl (dq_op tab rfl rfl rfl rfl (dq_op tab rfl rfl rfl rfl (dq_op tab rfl rfl rfl rfl (dq_op tab rfl rfl rfl rfl (dq_op tab rfl rfl rfl rfl (dq_op tab rfl rfl rfl rfl (ds_op tab rfl rfl rfl rfl (vd_nil (by kernel_rfl) ?_)))))))))))))
    refine q_norm (qth (wrg (vQ tab rfl (vQ tab rfl (vnl (qth (rd_step (wsq (wrg (vQ tab rfl (vnl (qth (wsq (vc_true rfl (vw_skip (qth (wsq (wbk (wsq (wrg (vQ tab rfl (vQ tab rfl (vQ tab rfl ?_)))))))))))))))))))))))
    refine vQ tab rfl (vQ tab rfl (vnl (qth (vw_draw mixed (dq_op tab rfl rfl rfl rfl (dq_op tab rfl rfl rfl rfl (dq_op tab rfl rfl rfl rfl (dq_op tab rfl rfl rfl rfl (dq_op tab rfl rfl rfl rfl (dq_op tab rfl rfl rfl rfl (dq_op tab rfl rfl rfl rfl (dq_op tab rfl rfl rfl rfl (ds_op tab rfl rfl rfl rfl (vd_nil (by kernel_rfl) ?_))))))))))))))
    refine q_norm (qth (wrg (vQ tab rfl (vQ tab rfl (vnl (qth (rd_step (wsq (wrg (vQ tab rfl (vnl (qth (wsq (vc_true rfl (vw_skip (qth (wsq (wbk (wsq (wrg (vQ tab rfl (vQ tab rfl (vQ tab rfl ?_)))))))))))))))))))))))
    refine vQ tab rfl (vQ tab rfl (vnl (qth (vw_draw mixed (dq_op tab rfl rfl rfl rfl (dq_op tab rfl rfl rfl rfl (dq_op tab rfl rfl rfl rfl (dq_op tab rfl rfl rfl rfl (dq_op tab rfl rfl rfl rfl (dq_op tab rfl rfl rfl rfl (dq_op tab rfl rfl rfl rfl (dq_op tab rfl rfl rfl rfl (ds_op tab rfl rfl rfl rfl (vd_nil (by kernel_rfl) ?_))))))))))))))
    refine q_norm (qth (wrg (vQ tab rfl (vQ tab rfl (vnl (qth (rd_step (wsq (wrg (vQ tab rfl (vnl (qth (wsq (vc_true rfl (vw_skip (qth (wsq (wbk (wsq (wrg (vQ tab rfl (vQ tab rfl (vQ tab rfl ?_)))))))))))))))))))))))
    refine vQ tab rfl (vQ tab rfl (vnl (qth (vw_draw mixed (dq_op tab rfl rfl rfl rfl (dq_op tab rfl rfl rfl rfl (dq_op tab rfl rfl rfl rfl (dq_op tab rfl rfl rfl rfl (dq_op tab rfl rfl rfl rfl (dq_op tab rfl rfl rfl rfl (dq_op tab rfl rfl rfl rfl (dq_op tab rfl rfl rfl rfl (ds_op tab rfl rfl rfl rfl (vd_nil (by kernel_rfl) ?_))))))))))))))
    refine q_norm (qth (wrg (vQ tab rfl (vQ tab rfl (vnl (qth (rd_step (wsq (wrg (vQ tab rfl (vnl (qth (wsq (vc_false rfl (vw_exit (q_thenx (q_thenx (q_here (qth (wsq (wrg (vQ tab rfl (vS tab rfl ?_)))))))))))))))))))))))
    refine vnl (qth (vw_ret ?_))
    exact ⟨⟨.inr rfl, rfl⟩, fun _ => rfl, trivial⟩
  · refine wsq (wrg (vN tab rfl (vnl (qth (wsq (wrg (vQ tab rfl (vQ tab rfl (vQ tab rfl (vQ tab rfl (vQ tab rfl (vN tab rfl (vS tab rfl (vnl (qth (wsq (wrg (vT rfl callable_28 (evt_parts6 (f1 := 0) (f2 := 0) (f3 := 0) (f4 := 0) (f5 := 0) (f6 := 0) (f7 := 0) rfl (by decide)) ?_))))))))))))))))))
    refine vQ tab rfl (vnl (qth (wsq (wsq (wrg (vQ tab rfl (vT rfl callable_28 (evt_parts6 (f1 := f1) (f2 := f2) (f3 := f3) (f4 := f4) (f5 := f5) (f6 := f6) (f7 := f7) rfl (by decide)) ?_)))))))
    refine vQ tab rfl (vQ tab rfl (vnl (qth (wbk (vw_rounds 5 (rd_step (wsq (wrg (vQ tab rfl (vnl (qth (wsq (vc_true rfl (vw_skip (qth (wsq (wbk (wsq (wrg (vQ tab rfl (vQ tab rfl (vQ tab rfl (vQ tab rfl ?_)))))))))))))))))))))))
    refine vQ tab rfl (vnl (qth (vw_draw mixed (dq_op tab rfl rfl rfl rfl (dq_op tab rfl rfl rfl rfl (dq_op tab rfl rfl rfl rfl (dq_op tab rfl rfl rfl rfl (dq_op tab rfl rfl rfl rfl (dq_op tab rfl rfl rfl rfl (dq_op tab rfl rfl rfl rfl (dq_op tab rfl rfl rfl rfl (ds_op tab rfl rfl rfl rfl (vd_nil (by kernel_rfl) ?_)))))))))))))
    refine q_norm (qth (wrg (vQ tab rfl (vQ tab rfl (vnl (qth (rd_step (wsq (wrg (vQ tab rfl (vnl (qth (wsq (vc_true rfl (vw_skip (qth (wsq (wbk (wsq (wrg (vQ tab rfl (vQ tab rfl (vQ tab rfl ?_)))))))))))))))))))))))
    refine vQ tab rfl (vQ tab rfl (vnl (qth (vw_draw mixed (dq_op tab rfl rfl rfl rfl (dq_op tab rfl rfl rfl rfl (dq_op tab rfl rfl rfl rfl (dq_op tab rfl rfl rfl rfl (dq_op tab rfl rfl rfl rfl (dq_op tab rfl rfl rfl rfl (dq_op tab rfl rfl rfl rfl (dq_op tab rfl rfl rfl rfl (ds_op tab rfl rfl rfl rfl (vd_nil (by kernel_rfl) ?_))))))))))))))
    refine q_norm (qth (wrg (vQ tab rfl (vQ tab rfl (vnl (qth (rd_step (wsq (wrg (vQ tab rfl (vnl (qth (wsq (vc_true rfl (vw_skip (qth (wsq (wbk (wsq (wrg (vQ tab rfl (vQ tab rfl (vQ tab rfl ?_)))))))))))))))))))))))
    refine vQ tab rfl (vQ tab rfl (vnl (qth (vw_draw mixed (dq_op tab rfl rfl rfl rfl (dq_op tab rfl rfl rfl rfl (dq_op tab rfl rfl rfl rfl (dq_op tab rfl rfl rfl rfl (dq_op tab rfl rfl rfl rfl (dq_op tab rfl rfl rfl rfl (dq_op tab rfl rfl rfl rfl (dq_op tab rfl rfl rfl rfl (ds_op tab rfl rfl rfl rfl (vd_nil (by kernel_rfl) ?_))))))))))))))
    refine q_norm (qth (wrg (vQ tab rfl (vQ tab rfl (vnl (qth (rd_step (wsq (wrg (vQ tab rfl (vnl (qth (wsq (vc_true rfl (vw_skip (qth (wsq (wbk (wsq (wrg (vQ tab rfl (vQ tab rfl (vQ tab rfl ?_)))))))))))))))))))))))
    refine vQ tab rfl (vQ tab rfl (vnl (qth (vw_draw mixed (dq_op tab rfl rfl rfl rfl (dq_op tab rfl rfl rfl rfl (dq_op tab rfl rfl rfl rfl (dq_op tab rfl rfl rfl rfl (dq_op tab rfl rfl rfl rfl (dq_op tab rfl rfl rfl rfl (dq_op tab rfl rfl rfl rfl (dq_op tab rfl rfl rfl rfl (ds_op tab rfl rfl rfl rfl (vd_nil (by kernel_rfl) ?_))))))))))))))
    refine q_norm (qth (wrg (vQ tab rfl (vQ tab rfl (vnl (qth (rd_step (wsq (wrg (vQ tab rfl (vnl (qth (wsq (vc_false rfl (vw_exit (q_thenx (q_thenx (q_here (qth (wsq (wrg (vQ tab rfl (vS tab rfl ?_)))))))))))))))))))))))
    refine vnl (qth (vw_ret ?_))
    exact ⟨⟨.inr rfl, rfl⟩, fun _ => rfl, trivial⟩
  · refine wsq (wrg (vN tab rfl (vnl (qth (wsq (wrg (vQ tab rfl (vQ tab rfl (vQ tab rfl (vQ tab rfl (vQ tab rfl (vN tab rfl (vS tab rfl (vnl (qth (wsq (wrg (vT rfl callable_28 (evt_parts7 (f1 := 0) (f2 := 0) (f3 := 0) (f4 := 0) (f5 := 0) (f6 := 0) (f7 := 0) rfl (by decide)) ?_))))))))))))))))))
    refine vQ tab rfl (vnl (qth (wsq (wsq (wrg (vQ tab rfl (vT rfl callable_28 (evt_parts7 (f1 := f1) (f2 := f2) (f3 := f3) (f4 := f4) (f5 := f5) (f6 := f6) (f7 := f7) rfl (by decide)) ?_)))))))
    refine vQ tab rfl (vQ tab rfl (vnl (qth (wbk (vw_rounds 5 (rd_step (wsq (wrg (vQ tab rfl (vnl (qth (wsq (vc_true rfl (vw_skip (qth (wsq (wbk (wsq (wrg (vQ tab rfl (vQ tab rfl (vQ tab rfl (vQ tab rfl ?_)))))))))))))))))))))))
    refine vQ tab rfl (vnl (qth (vw_draw mixed (dq_op tab rfl rfl rfl rfl (dq_op tab rfl rfl rfl rfl (dq_op tab rfl rfl rfl rfl (dq_op tab rfl rfl rfl rfl (dq_op tab rfl rfl rfl rfl (dq_op tab rfl rfl rfl rfl (dq_op tab rfl rfl rfl rfl (dq_op tab rfl rfl rfl rfl (ds_op tab rfl rfl rfl rfl (vd_nil (by kernel_rfl) ?_)))))))))))))
    refine q_norm (qth (wrg (vQ tab rfl (vQ tab rfl (vnl (qth (rd_step (wsq (wrg (vQ tab rfl (vnl (qth (wsq (vc_false rfl (vw_exit (q_thenx (q_thenx (q_here (qth (wsq (wrg (vQ tab rfl (vS tab rfl ?_)))))))))))))))))))))))
    refine vnl (qth (vw_ret ?_))
    exact ⟨⟨.inr rfl, rfl⟩, fun _ => rfl, trivial⟩
  · refine wsq (wrg (vN tab rfl (vnl (qth (wsq (wrg (vQ tab rfl (vQ tab rfl (vQ tab rfl (vQ tab rfl (vQ tab rfl (vN tab rfl (vS tab rfl (vnl (qth (wsq (wrg (vR rfl callable_28 (evt_partsN (k := 8) (f1 := 0) (f2 := 0) (f3 := 0) (f4 := 0) (f5 := 0) (f6 := 0) (f7 := 0) rfl (by omega)) ?_))))))))))))))))))
    refine vQ tab rfl (vnl (qth (wsq (wsq (wrg (vQ tab rfl (vR rfl callable_28 (evt_partsN (k := 8) (f1 := f1) (f2 := f2) (f3 := f3) (f4 := f4) (f5 := f5) (f6 := f6) (f7 := f7) rfl (by omega)) ?_)))))))
    refine vQ tab rfl (vQ tab rfl (vnl (qth (wbk (vw_rounds 5 (rd_step (wsq (wrg (vQ tab rfl (vnl (qth (wsq (vc_false rfl (vw_exit (q_thenx (q_thenx (q_here (qth (wsq (wrg (vQ tab rfl (vS tab rfl (vnl ?_)))))))))))))))))))))))
    refine qth (vw_ret ?_)
    exact ⟨⟨.inr rfl, rfl⟩, fun _ => rfl, trivial⟩
  · refine wsq (wrg (vN tab rfl (vnl (qth (wsq (wrg (vQ tab rfl (vQ tab rfl (vQ tab rfl (vQ tab rfl (vQ tab rfl (vN tab rfl (vS tab rfl (vnl (qth (wsq (wrg (vT rfl callable_28 (evt_parts9 (f1 := 0) (f2 := 0) (f3 := 0) (f4 := 0) (f5 := 0) (f6 := 0) (f7 := 0) rfl (by decide)) ?_))))))))))))))))))
    refine vQ tab rfl (vnl (qth (wsq (wsq (wrg (vQ tab rfl (vT rfl callable_28 (evt_parts9 (f1 := f1) (f2 := f2) (f3 := f3) (f4 := f4) (f5 := f5) (f6 := f6) (f7 := f7) rfl (by decide)) ?_)))))))
    refine vQ tab rfl (vQ tab rfl (vnl (qth (wbk (vw_rounds 5 (rd_step (wsq (wrg (vQ tab rfl (vnl (qth (wsq (vc_true rfl (vw_skip (qth (wsq (wbk (wsq (wrg (vQ tab rfl (vQ tab rfl (vQ tab rfl (vQ tab rfl ?_)))))))))))))))))))))))
    refine vQ tab rfl (vnl (qth (vw_draw mixed (dq_op tab rfl rfl rfl rfl (dq_op tab rfl rfl rfl rfl (dq_op tab rfl rfl rfl rfl (dq_op tab rfl rfl rfl rfl (dq_op tab rfl rfl rfl rfl (dq_op tab rfl rfl rfl rfl (dq_op tab rfl rfl rfl rfl (dq_op tab rfl rfl rfl rfl (ds_op tab rfl rfl rfl rfl (vd_nil (by kernel_rfl) ?_)))))))))))))
    refine q_norm (qth (wrg (vQ tab rfl (vQ tab rfl (vnl (qth (rd_step (wsq (wrg (vQ tab rfl (vnl (qth (wsq (vc_false rfl (vw_exit (q_thenx (q_thenx (q_here (qth (wsq (wrg (vQ tab rfl (vS tab rfl ?_)))))))))))))))))))))))
    refine vnl (qth (vw_ret ?_))
    exact ⟨⟨.inr rfl, rfl⟩, fun _ => rfl, trivial⟩
  · refine wsq (wrg (vN tab rfl (vnl (qth (wsq (wrg (vQ tab rfl (vQ tab rfl (vQ tab rfl (vQ tab rfl (vQ tab rfl (vN tab rfl (vS tab rfl (vnl (qth (wsq (wrg (vR rfl callable_28 (evt_partsN (k := k) (f1 := 0) (f2 := 0) (f3 := 0) (f4 := 0) (f5 := 0) (f6 := 0) (f7 := 0) rfl (by omega)) ?_))))))))))))))))))
    refine vQ tab rfl (vnl (qth (wsq (wsq (wrg (vQ tab rfl (vR rfl callable_28 (evt_partsN (k := k) (f1 := f1) (f2 := f2) (f3 := f3) (f4 := f4) (f5 := f5) (f6 := f6) (f7 := f7) rfl (by omega)) ?_)))))))
    refine vQ tab rfl (vQ tab rfl (vnl (qth (wbk (vw_rounds 5 (rd_step (wsq (wrg (vQ tab rfl (vnl (qth (wsq (vc_false rfl (vw_exit (q_thenx (q_thenx (q_here (qth (wsq (wrg (vQ tab rfl (vS tab rfl (vnl ?_)))))))))))))))))))))))
    refine qth (vw_ret ?_)
    have hp : evtPlain ⟨k, f1, f2, f3, f4, f5, f6, f7⟩ = ⟨k, 0, 0, 0, 0, 0, 0, 0⟩ := by simp [evtPlain, evtMake, evtNums, evtText, hk]
    rw [hp]
    exact ⟨⟨.inr rfl, rfl⟩, fun _ => rfl, trivial⟩
set_option maxHeartbeats 16000000 in
theorem evt_may (a : EventV) : Fun Try.prog 22 [evtV a] (.bool (evtMay a)) := by
  refine fun_of_vw tab Try.func22 rfl rfl (by simp [Try.f22]) (lrel_cons (evtRel a) lrel_nil) (.bool _) ?_
  obtain ⟨k, f1, f2, f3, f4, f5, f6, f7⟩ := a
  rcases (show k = 0 ∨ k = 1 ∨ k = 2 ∨ k = 3 ∨ k = 4 ∨ k = 5 ∨ k = 6 ∨ k = 7 ∨ k = 8 ∨ k = 9 ∨ (k ≠ 0 ∧ k ≠ 1 ∧ k ≠ 2 ∧ k ≠ 3 ∧ k ≠ 4 ∧ k ≠ 5 ∧ k ≠ 6 ∧ k ≠ 7 ∧ k ≠ 8 ∧ k ≠ 9) by omega) with rfl | rfl | rfl | rfl | rfl | rfl | rfl | rfl | rfl | rfl | hk
  · refine wsq (wrg (vN tab rfl (vQ tab rfl (vnl (qth (wsq (wsq (wrg (vQ tab rfl (vQ tab rfl (vQ tab rfl (vQ tab rfl (vQ tab rfl (vQ tab rfl (vQ tab rfl (vQ tab rfl (vQ tab rfl (vQ tab rfl (vQ tab rfl (vQ tab rfl (vQ tab rfl (vK rfl (vK rfl ?_)))))))))))))))))))))))
    refine vK rfl (vQ tab rfl (vQ tab rfl (vnl (qth (vc_false rfl (vw_skip (qth (wsq (wsq (wrg (vT rfl callable_28 (evt_parts0 (f1 := f1) (f2 := f2) (f3 := f3) (f4 := f4) (f5 := f5) (f6 := f6) (f7 := f7) rfl (by decide)) ?_)))))))))))
    refine vQ tab rfl (vQ tab rfl (vnl (qth (wbk (vw_rounds 5 (rd_step (wsq (wrg (vQ tab rfl (vnl (qth (wsq (vc_true rfl (vw_skip (qth (wsq (wbk (wsq (wrg (vQ tab rfl (vQ tab rfl (vQ tab rfl (vnl ?_)))))))))))))))))))))))
    refine qth (wsq (wrg (vQ tab rfl (vQ tab rfl (vQ tab rfl (vF rfl callable_29 (nummay_fun _) (vQ tab rfl (vnl (qth ?_)))))))))
    refine vc_part rfl (fun _ => ?_) (fun _ => ?_)
    refine wsq (wrg (vQ tab rfl (vnl (qth (vw_ret (q_ret (q_thenr (q_thenr (q_ret (q_thenr ?_))))))))))
    rotate_left
    refine vw_skip (q_norm (qth (wrg (vQ tab rfl (vQ tab rfl (vnl (qth (rd_step (wsq (wrg (vQ tab rfl (vnl (qth (wsq (vc_false rfl (vw_exit (q_thenx (q_thenx (q_here (qth (wsq (vw_draw mixed (dq_op tab rfl rfl rfl rfl ?_)))))))))))))))))))))))
    refine dq_op tab rfl rfl rfl rfl (dq_op tab rfl rfl rfl rfl (dq_op tab rfl rfl rfl rfl ?_))
    refine dg_op rfl rfl rfl (fun _ => ?_) (fun _ => ?_)
    refine dq_op tab ⟨_, _, rfl, rfl, rfl⟩ rfl rfl rfl (dq_op tab ⟨_, _, rfl, rfl, rfl⟩ rfl rfl rfl (dq_op tab ⟨_, _, rfl, rfl, rfl⟩ rfl rfl rfl (dq_op tab rfl rfl rfl rfl (dq_op tab rfl rfl rfl rfl ?_))))
    refine dg_op rfl rfl rfl (fun _ => ?_) (fun _ => ?_)
    refine dq_op tab ⟨_, _, rfl, rfl, rfl⟩ rfl rfl rfl (dq_op tab ⟨_, _, rfl, rfl, rfl⟩ rfl rfl rfl (dq_op tab ⟨_, _, rfl, rfl, rfl⟩ rfl rfl rfl (dq_op tab rfl rfl rfl rfl (dq_op tab rfl rfl rfl rfl ?_))))
    refine dg_op rfl rfl rfl (fun _ => ?_) (fun _ => ?_)
    refine dq_op tab ⟨_, _, rfl, rfl, rfl⟩ rfl rfl rfl (dq_op tab ⟨_, _, rfl, rfl, rfl⟩ rfl rfl rfl (dq_op tab ⟨_, _, rfl, rfl, rfl⟩ rfl rfl rfl (dq_op tab rfl rfl rfl rfl (dq_op tab rfl rfl rfl rfl ?_))))
    refine dg_op rfl rfl rfl (fun _ => ?_) (fun _ => ?_)
    refine dq_op tab ⟨_, _, rfl, rfl, rfl⟩ rfl rfl rfl (dr_op ⟨_, _, rfl, rfl, rfl⟩ rfl rfl rfl rfl callable_30 (evt_plain ⟨0, f1, f2, f3, f4, f5, f6, f7⟩ rfl) (dq_op tab ⟨_, _, rfl, rfl, rfl⟩ rfl (ev_eql rfl rfl rfl (evt_eq ⟨0, f1, f2, f3, f4, f5, f6, f7⟩ (evtPlain ⟨0, f1, f2, f3, f4, f5, f6, f7⟩))) (ev_eql rfl rfl rfl (evt_eq ⟨0, f1, f2, f3, f4, f5, f6, f7⟩ (evtPlain ⟨0, f1, f2, f3, f4, f5, f6, f7⟩))) (dq_op tab rfl rfl rfl rfl (dq_op tab rfl rfl rfl rfl (vd_nil (by kernel_rfl) ?_)))))
    refine qth (vw_ret ?_)
    rotate_left
    refine dk_op ⟨_, _, rfl, rfl, rfl⟩ rfl (dk_op ⟨_, _, rfl, rfl, rfl⟩ rfl (dk_op ⟨_, _, rfl, rfl, rfl⟩ rfl (dq_op tab rfl rfl rfl rfl (dq_op tab rfl rfl rfl rfl (vd_nil (by kernel_rfl) ?_)))))
    refine qth (vw_ret ?_)
    rotate_left
    refine dk_op ⟨_, _, rfl, rfl, rfl⟩ rfl (dk_op ⟨_, _, rfl, rfl, rfl⟩ rfl (dk_op ⟨_, _, rfl, rfl, rfl⟩ rfl (dq_op tab rfl rfl rfl rfl (dq_op tab rfl rfl rfl rfl (dk_op ⟨_, _, rfl, rfl, rfl⟩ rfl (dk_op ⟨_, _, rfl, rfl, rfl⟩ rfl (dk_op ⟨_, _, rfl, rfl, rfl⟩ rfl (dq_op tab rfl rfl rfl rfl (dq_op tab rfl rfl rfl rfl (vd_nil (by kernel_rfl) ?_))))))))))
    refine qth (vw_ret ?_)
    rotate_left
    refine dk_op ⟨_, _, rfl, rfl, rfl⟩ rfl (dk_op ⟨_, _, rfl, rfl, rfl⟩ rfl (dk_op ⟨_, _, rfl, rfl, rfl⟩ rfl (dq_op tab rfl rfl rfl rfl (dq_op tab rfl rfl rfl rfl (dk_op ⟨_, _, rfl, rfl, rfl⟩ rfl (dk_op ⟨_, _, rfl, rfl, rfl⟩ rfl (dk_op ⟨_, _, rfl, rfl, rfl⟩ rfl (dq_op tab rfl rfl rfl rfl (dq_op tab rfl rfl rfl rfl (dk_op ⟨_, _, rfl, rfl, rfl⟩ rfl (dk_op ⟨_, _, rfl, rfl, rfl⟩ rfl (dk_op ⟨_, _, rfl, rfl, rfl⟩ rfl (dq_op tab rfl rfl rfl rfl (dq_op tab rfl rfl rfl rfl (vd_nil (by kernel_rfl) ?_)))))))))))))))
    refine qth (vw_ret ?_)
    rotate_left
    refine dk_op ⟨_, _, rfl, rfl, rfl⟩ rfl (dk_op ⟨_, _, rfl, rfl, rfl⟩ rfl (dk_op ⟨_, _, rfl, rfl, rfl⟩ rfl (dq_op tab rfl rfl rfl rfl (dq_op tab rfl rfl rfl rfl (dk_op ⟨_, _, rfl, rfl, rfl⟩ rfl (dk_op ⟨_, _, rfl, rfl, rfl⟩ rfl (dk_op ⟨_, _, rfl, rfl, rfl⟩ rfl (dq_op tab rfl rfl rfl rfl (dq_op tab rfl rfl rfl rfl (dk_op ⟨_, _, rfl, rfl, rfl⟩ rfl (dk_op ⟨_, _, rfl, rfl, rfl⟩ rfl (dk_op ⟨_, _, rfl, rfl, rfl⟩ rfl (dq_op tab rfl rfl rfl rfl (dq_op tab rfl rfl rfl rfl (dk_op ⟨_, _, rfl, rfl, rfl⟩ rfl (dk_op ⟨_, _, rfl, rfl, rfl⟩ rfl (dk_op ⟨_, _, rfl, rfl, rfl⟩ rfl (dq_op tab rfl rfl rfl rfl (dq_op tab rfl rfl rfl rfl (vd_nil (by kernel_rfl) ?_))))))))))))))))))))
    refine qth (vw_ret ?_)
    rotate_left
    all_goals exact ⟨.inr rfl, Eq.trans (b := some (.bool _)) rfl (congrArg (fun b => some (Value.bool b)) (by simp_all [evtMay, evtNums] <;> (intros; omega)))⟩
  · refine wsq (wrg (vN tab rfl (vQ tab rfl (vnl (qth (wsq (wsq (wrg (vQ tab rfl (vQ tab rfl (vQ tab rfl (vQ tab rfl (vQ tab rfl (vQ tab rfl (vQ tab rfl (vQ tab rfl (vQ tab rfl (vQ tab rfl (vQ tab rfl (vQ tab rfl (vQ tab rfl (vK rfl (vK rfl ?_)))))))))))))))))))))))
    refine vK rfl (vQ tab rfl (vQ tab rfl (vnl (qth (vc_false rfl (vw_skip (qth (wsq (wsq (wrg (vT rfl callable_28 (evt_parts1 (f1 := f1) (f2 := f2) (f3 := f3) (f4 := f4) (f5 := f5) (f6 := f6) (f7 := f7) rfl (by decide)) ?_)))))))))))
    refine vQ tab rfl (vQ tab rfl (vnl (qth (wbk (vw_rounds 5 (rd_step (wsq (wrg (vQ tab rfl (vnl (qth (wsq (vc_true rfl (vw_skip (qth (wsq (wbk (wsq (wrg (vQ tab rfl (vQ tab rfl (vQ tab rfl (vnl ?_)))))))))))))))))))))))
    refine qth (wsq (wrg (vQ tab rfl (vQ tab rfl (vQ tab rfl (vF rfl callable_29 (nummay_fun _) (vQ tab rfl (vnl (qth ?_)))))))))
    refine vc_part rfl (fun _ => ?_) (fun _ => ?_)
    refine wsq (wrg (vQ tab rfl (vnl (qth (vw_ret (q_ret (q_thenr (q_thenr (q_ret (q_thenr ?_))))))))))
    rotate_left
    refine vw_skip (q_norm (qth (wrg (vQ tab rfl (vQ tab rfl (vnl (qth (rd_step (wsq (wrg (vQ tab rfl (vnl (qth (wsq (vc_true rfl (vw_skip (qth (wsq (wbk (wsq (wrg (vQ tab rfl (vQ tab rfl ?_)))))))))))))))))))))))
    refine vQ tab rfl (vnl (qth (wsq (wrg (vQ tab rfl (vQ tab rfl (vQ tab rfl (vF rfl callable_29 (nummay_fun _) (vQ tab rfl (vnl (qth ?_)))))))))))
    refine vc_part rfl (fun _ => ?_) (fun _ => ?_)
    refine wsq (wrg (vQ tab rfl (vnl (qth (vw_ret (q_ret (q_thenr (q_thenr (q_ret (q_thenr ?_))))))))))
    rotate_left
    refine vw_skip (q_norm (qth (wrg (vQ tab rfl (vQ tab rfl (vnl (qth (rd_step (wsq (wrg (vQ tab rfl (vnl (qth (wsq (vc_true rfl (vw_skip (qth (wsq (wbk (wsq (wrg (vQ tab rfl (vQ tab rfl ?_)))))))))))))))))))))))
    refine vQ tab rfl (vnl (qth (wsq (wrg (vQ tab rfl (vQ tab rfl (vQ tab rfl (vF rfl callable_29 (nummay_fun _) (vQ tab rfl (vnl (qth ?_)))))))))))
    refine vc_part rfl (fun _ => ?_) (fun _ => ?_)
    refine wsq (wrg (vQ tab rfl (vnl (qth (vw_ret (q_ret (q_thenr (q_thenr (q_ret (q_thenr ?_))))))))))
    rotate_left
    refine vw_skip (q_norm (qth (wrg (vQ tab rfl (vQ tab rfl (vnl (qth (rd_step (wsq (wrg (vQ tab rfl (vnl (qth (wsq (vc_true rfl (vw_skip (qth (wsq (wbk (wsq (wrg (vQ tab rfl (vQ tab rfl ?_)))))))))))))))))))))))
    refine vQ tab rfl (vnl (qth (wsq (wrg (vQ tab rfl (vQ tab rfl (vQ tab rfl (vF rfl callable_29 (nummay_fun _) (vQ tab rfl (vnl (qth ?_)))))))))))
    refine vc_part rfl (fun _ => ?_) (fun _ => ?_)
    refine wsq (wrg (vQ tab rfl (vnl (qth (vw_ret (q_ret (q_thenr (q_thenr (q_ret (q_thenr ?_))))))))))
    rotate_left
    refine vw_skip (q_norm (qth (wrg (vQ tab rfl (vQ tab rfl (vnl (qth (rd_step (wsq (wrg (vQ tab rfl (vnl (qth (wsq (vc_false rfl (vw_exit (q_thenx (q_thenx (q_here (qth (wsq (vw_draw mixed (dq_op tab rfl rfl rfl rfl ?_)))))))))))))))))))))))
    refine dq_op tab rfl rfl rfl rfl (dq_op tab rfl rfl rfl rfl (dq_op tab rfl rfl rfl rfl ?_))
    refine dg_op rfl rfl rfl (fun _ => ?_) (fun _ => ?_)
    refine dq_op tab ⟨_, _, rfl, rfl, rfl⟩ rfl rfl rfl (dq_op tab ⟨_, _, rfl, rfl, rfl⟩ rfl rfl rfl (dq_op tab ⟨_, _, rfl, rfl, rfl⟩ rfl rfl rfl (dq_op tab rfl rfl rfl rfl (dq_op tab rfl rfl rfl rfl ?_))))
    refine dg_op rfl rfl rfl (fun _ => ?_) (fun _ => ?_)
    refine dq_op tab ⟨_, _, rfl, rfl, rfl⟩ rfl rfl rfl (dq_op tab ⟨_, _, rfl, rfl, rfl⟩ rfl rfl rfl (dq_op tab ⟨_, _, rfl, rfl, rfl⟩ rfl rfl rfl (dq_op tab rfl rfl rfl rfl (dq_op tab rfl rfl rfl rfl ?_))))
    refine dg_op rfl rfl rfl (fun _ => ?_) (fun _ => ?_)
    refine dq_op tab ⟨_, _, rfl, rfl, rfl⟩ rfl rfl rfl (dq_op tab ⟨_, _, rfl, rfl, rfl⟩ rfl rfl rfl (dq_op tab ⟨_, _, rfl, rfl, rfl⟩ rfl rfl rfl (dq_op tab rfl rfl rfl rfl (dq_op tab rfl rfl rfl rfl ?_))))
    refine dg_op rfl rfl rfl (fun _ => ?_) (fun _ => ?_)
    refine dq_op tab ⟨_, _, rfl, rfl, rfl⟩ rfl rfl rfl (dr_op ⟨_, _, rfl, rfl, rfl⟩ rfl rfl rfl rfl callable_30 (evt_plain ⟨1, f1, f2, f3, f4, f5, f6, f7⟩ rfl) (dq_op tab ⟨_, _, rfl, rfl, rfl⟩ rfl (ev_eql rfl rfl rfl (evt_eq ⟨1, f1, f2, f3, f4, f5, f6, f7⟩ (evtPlain ⟨1, f1, f2, f3, f4, f5, f6, f7⟩))) (ev_eql rfl rfl rfl (evt_eq ⟨1, f1, f2, f3, f4, f5, f6, f7⟩ (evtPlain ⟨1, f1, f2, f3, f4, f5, f6, f7⟩))) (dq_op tab rfl rfl rfl rfl (dq_op tab rfl rfl rfl rfl (vd_nil (by kernel_rfl) ?_)))))
    refine qth (vw_ret ?_)
    rotate_left
    refine dk_op ⟨_, _, rfl, rfl, rfl⟩ rfl (dk_op ⟨_, _, rfl, rfl, rfl⟩ rfl (dk_op ⟨_, _, rfl, rfl, rfl⟩ rfl (dq_op tab rfl rfl rfl rfl (dq_op tab rfl rfl rfl rfl (vd_nil (by kernel_rfl) ?_)))))
    refine qth (vw_ret ?_)
    rotate_left
    refine dk_op ⟨_, _, rfl, rfl, rfl⟩ rfl (dk_op ⟨_, _, rfl, rfl, rfl⟩ rfl (dk_op ⟨_, _, rfl, rfl, rfl⟩ rfl (dq_op tab rfl rfl rfl rfl (dq_op tab rfl rfl rfl rfl (dk_op ⟨_, _, rfl, rfl, rfl⟩ rfl (dk_op ⟨_, _, rfl, rfl, rfl⟩ rfl (dk_op ⟨_, _, rfl, rfl, rfl⟩ rfl (dq_op tab rfl rfl rfl rfl (dq_op tab rfl rfl rfl rfl (vd_nil (by kernel_rfl) ?_))))))))))
    refine qth (vw_ret ?_)
    rotate_left
    refine dk_op ⟨_, _, rfl, rfl, rfl⟩ rfl (dk_op ⟨_, _, rfl, rfl, rfl⟩ rfl (dk_op ⟨_, _, rfl, rfl, rfl⟩ rfl (dq_op tab rfl rfl rfl rfl (dq_op tab rfl rfl rfl rfl (dk_op ⟨_, _, rfl, rfl, rfl⟩ rfl (dk_op ⟨_, _, rfl, rfl, rfl⟩ rfl (dk_op ⟨_, _, rfl, rfl, rfl⟩ rfl (dq_op tab rfl rfl rfl rfl (dq_op tab rfl rfl rfl rfl (dk_op ⟨_, _, rfl, rfl, rfl⟩ rfl (dk_op ⟨_, _, rfl, rfl, rfl⟩ rfl (dk_op ⟨_, _, rfl, rfl, rfl⟩ rfl (dq_op tab rfl rfl rfl rfl (dq_op tab rfl rfl rfl rfl (vd_nil (by kernel_rfl) ?_)))))))))))))))
    refine qth (vw_ret ?_)
    rotate_left
    refine dk_op ⟨_, _, rfl, rfl, rfl⟩ rfl (dk_op ⟨_, _, rfl, rfl, rfl⟩ rfl (dk_op ⟨_, _, rfl, rfl, rfl⟩ rfl (dq_op tab rfl rfl rfl rfl (dq_op tab rfl rfl rfl rfl (dk_op ⟨_, _, rfl, rfl, rfl⟩ rfl (dk_op ⟨_, _, rfl, rfl, rfl⟩ rfl (dk_op ⟨_, _, rfl, rfl, rfl⟩ rfl (dq_op tab rfl rfl rfl rfl (dq_op tab rfl rfl rfl rfl (dk_op ⟨_, _, rfl, rfl, rfl⟩ rfl (dk_op ⟨_, _, rfl, rfl, rfl⟩ rfl (dk_op ⟨_, _, rfl, rfl, rfl⟩ rfl (dq_op tab rfl rfl rfl rfl (dq_op tab rfl rfl rfl rfl (dk_op ⟨_, _, rfl, rfl, rfl⟩ rfl (dk_op ⟨_, _, rfl, rfl, rfl⟩ rfl (dk_op ⟨_, _, rfl, rfl, rfl⟩ rfl (dq_op tab rfl rfl rfl rfl (dq_op tab rfl rfl rfl rfl (vd_nil (by kernel_rfl) ?_))))))))))))))))))))
    refine qth (vw_ret ?_)
    rotate_left
    all_goals exact ⟨.inr rfl, Eq.trans (b := some (.bool _)) rfl (congrArg (fun b => some (Value.bool b)) (by simp_all [evtMay, evtNums] <;> (intros; omega)))⟩
  · refine wsq (wrg (vN tab rfl (vQ tab rfl (vnl (qth (wsq (wsq (wrg (vQ tab rfl (vQ tab rfl (vQ tab rfl (vQ tab rfl (vQ tab rfl (vQ tab rfl (vQ tab rfl (vQ tab rfl (vQ tab rfl (vQ tab rfl (vQ tab rfl (vQ tab rfl (vQ tab rfl (vK rfl (vK rfl ?_)))))))))))))))))))))))
    refine vK rfl (vQ tab rfl (vQ tab rfl (vnl (qth (vc_false rfl (vw_skip (qth (wsq (wsq (wrg (vT rfl callable_28 (evt_parts2 (f1 := f1) (f2 := f2) (f3 := f3) (f4 := f4) (f5 := f5) (f6 := f6) (f7 := f7) rfl (by decide)) ?_)))))))))))
    refine vQ tab rfl (vQ tab rfl (vnl (qth (wbk (vw_rounds 5 (rd_step (wsq (wrg (vQ tab rfl (vnl (qth (wsq (vc_true rfl (vw_skip (qth (wsq (wbk (wsq (wrg (vQ tab rfl (vQ tab rfl (vQ tab rfl (vnl ?_)))))))))))))))))))))))
    refine qth (wsq (wrg (vQ tab rfl (vQ tab rfl (vQ tab rfl (vF rfl callable_29 (nummay_fun _) (vQ tab rfl (vnl (qth ?_)))))))))
    refine vc_part rfl (fun _ => ?_) (fun _ => ?_)
    refine wsq (wrg (vQ tab rfl (vnl (qth (vw_ret (q_ret (q_thenr (q_thenr (q_ret (q_thenr ?_))))))))))
    rotate_left
    refine vw_skip (q_norm (qth (wrg (vQ tab rfl (vQ tab rfl (vnl (qth (rd_step (wsq (wrg (vQ tab rfl (vnl (qth (wsq (vc_true rfl (vw_skip (qth (wsq (wbk (wsq (wrg (vQ tab rfl (vQ tab rfl ?_)))))))))))))))))))))))
    refine vQ tab rfl (vnl (qth (wsq (wrg (vQ tab rfl (vQ tab rfl (vQ tab rfl (vF rfl callable_29 (nummay_fun _) (vQ tab rfl (vnl (qth ?_)))))))))))
    refine vc_part rfl (fun _ => ?_) (fun _ => ?_)
    refine wsq (wrg (vQ tab rfl (vnl (qth (vw_ret (q_ret (q_thenr (q_thenr (q_ret (q_thenr ?_))))))))))
    rotate_left
    refine vw_skip (q_norm (qth (wrg (vQ tab rfl (vQ tab rfl (vnl (qth (rd_step (wsq (wrg (vQ tab rfl (vnl (qth (wsq (vc_false rfl (vw_exit (q_thenx (q_thenx (q_here (qth (wsq (vw_draw mixed (dq_op tab rfl rfl rfl rfl ?_)))))))))))))))))))))))
    refine dq_op tab rfl rfl rfl rfl (dq_op tab rfl rfl rfl rfl (dq_op tab rfl rfl rfl rfl ?_))
    refine dg_op rfl rfl rfl (fun _ => ?_) (fun _ => ?_)
    refine dq_op tab ⟨_, _, rfl, rfl, rfl⟩ rfl rfl rfl (dq_op tab ⟨_, _, rfl, rfl, rfl⟩ rfl rfl rfl (dq_op tab ⟨_, _, rfl, rfl, rfl⟩ rfl rfl rfl (dq_op tab rfl rfl rfl rfl (dq_op tab rfl rfl rfl rfl ?_))))
    refine dg_op rfl rfl rfl (fun _ => ?_) (fun _ => ?_)
    refine dq_op tab ⟨_, _, rfl, rfl, rfl⟩ rfl rfl rfl (dq_op tab ⟨_, _, rfl, rfl, rfl⟩ rfl rfl rfl (dq_op tab ⟨_, _, rfl, rfl, rfl⟩ rfl rfl rfl (dq_op tab rfl rfl rfl rfl (dq_op tab rfl rfl rfl rfl ?_))))
    refine dg_op rfl rfl rfl (fun _ => ?_) (fun _ => ?_)
    refine dq_op tab ⟨_, _, rfl, rfl, rfl⟩ rfl rfl rfl (dq_op tab ⟨_, _, rfl, rfl, rfl⟩ rfl rfl rfl (dq_op tab ⟨_, _, rfl, rfl, rfl⟩ rfl rfl rfl (dq_op tab rfl rfl rfl rfl (dq_op tab rfl rfl rfl rfl ?_))))
    refine dg_op rfl rfl rfl (fun _ => ?_) (fun _ => ?_)
    refine dq_op tab ⟨_, _, rfl, rfl, rfl⟩ rfl rfl rfl (dr_op ⟨_, _, rfl, rfl, rfl⟩ rfl rfl rfl rfl callable_30 (evt_plain ⟨2, f1, f2, f3, f4, f5, f6, f7⟩ rfl) (dq_op tab ⟨_, _, rfl, rfl, rfl⟩ rfl (ev_eql rfl rfl rfl (evt_eq ⟨2, f1, f2, f3, f4, f5, f6, f7⟩ (evtPlain ⟨2, f1, f2, f3, f4, f5, f6, f7⟩))) (ev_eql rfl rfl rfl (evt_eq ⟨2, f1, f2, f3, f4, f5, f6, f7⟩ (evtPlain ⟨2, f1, f2, f3, f4, f5, f6, f7⟩))) (dq_op tab rfl rfl rfl rfl (dq_op tab rfl rfl rfl rfl (vd_nil (by kernel_rfl) ?_)))))
    refine qth (vw_ret ?_)
    rotate_left
    refine dk_op ⟨_, _, rfl, rfl, rfl⟩ rfl (dk_op ⟨_, _, rfl, rfl, rfl⟩ rfl (dk_op ⟨_, _, rfl, rfl, rfl⟩ rfl (dq_op tab rfl rfl rfl rfl (dq_op tab rfl rfl rfl rfl (vd_nil (by kernel_rfl) ?_)))))
    refine qth (vw_ret ?_)
    rotate_left
    refine dk_op ⟨_, _, rfl, rfl, rfl⟩ rfl (dk_op ⟨_, _, rfl, rfl, rfl⟩ rfl (dk_op ⟨_, _, rfl, rfl, rfl⟩ rfl (dq_op tab rfl rfl rfl rfl (dq_op tab rfl rfl rfl rfl (dk_op ⟨_, _, rfl, rfl, rfl⟩ rfl (dk_op ⟨_, _, rfl, rfl, rfl⟩ rfl (dk_op ⟨_, _, rfl, rfl, rfl⟩ rfl (dq_op tab rfl rfl rfl rfl (dq_op tab rfl rfl rfl rfl (vd_nil (by kernel_rfl) ?_))))))))))
    refine qth (vw_ret ?_)
    rotate_left
    refine dk_op ⟨_, _, rfl, rfl, rfl⟩ rfl (dk_op ⟨_, _, rfl, rfl, rfl⟩ rfl (dk_op ⟨_, _, rfl, rfl, rfl⟩ rfl (dq_op tab rfl rfl rfl rfl (dq_op tab rfl rfl rfl rfl (dk_op ⟨_, _, rfl, rfl, rfl⟩ rfl (dk_op ⟨_, _, rfl, rfl, rfl⟩ rfl (dk_op ⟨_, _, rfl, rfl, rfl⟩ rfl (dq_op tab rfl rfl rfl rfl (dq_op tab rfl rfl rfl rfl (dk_op ⟨_, _, rfl, rfl, rfl⟩ rfl (dk_op ⟨_, _, rfl, rfl, rfl⟩ rfl (dk_op ⟨_, _, rfl, rfl, rfl⟩ rfl (dq_op tab rfl rfl rfl rfl (dq_op tab rfl rfl rfl rfl (vd_nil (by kernel_rfl) ?_)))))))))))))))
    refine qth (vw_ret ?_)
    rotate_left
    refine dk_op ⟨_, _, rfl, rfl, rfl⟩ rfl (dk_op ⟨_, _, rfl, rfl, rfl⟩ rfl (dk_op ⟨_, _, rfl, rfl, rfl⟩ rfl (dq_op tab rfl rfl rfl rfl (dq_op tab rfl rfl rfl rfl (dk_op ⟨_, _, rfl, rfl, rfl⟩ rfl (dk_op ⟨_, _, rfl, rfl, rfl⟩ rfl (dk_op ⟨_, _, rfl, rfl, rfl⟩ rfl (dq_op tab rfl rfl rfl rfl (dq_op tab rfl rfl rfl rfl (dk_op ⟨_, _, rfl, rfl, rfl⟩ rfl (dk_op ⟨_, _, rfl, rfl, rfl⟩ rfl (dk_op ⟨_, _, rfl, rfl, rfl⟩ rfl (dq_op tab rfl rfl rfl rfl (dq_op tab rfl rfl rfl rfl (dk_op ⟨_, _, rfl, rfl, rfl⟩ rfl (dk_op ⟨_, _, rfl, rfl, rfl⟩ rfl (dk_op ⟨_, _, rfl, rfl, rfl⟩ rfl (dq_op tab rfl rfl rfl rfl (dq_op tab rfl rfl rfl rfl (vd_nil (by kernel_rfl) ?_))))))))))))))))))))
    refine qth (vw_ret ?_)
    rotate_left
    all_goals exact ⟨.inr rfl, Eq.trans (b := some (.bool _)) rfl (congrArg (fun b => some (Value.bool b)) (by simp_all [evtMay, evtNums] <;> (intros; omega)))⟩
  · refine wsq (wrg (vN tab rfl (vQ tab rfl (vnl (qth (wsq (wsq (wrg (vQ tab rfl (vQ tab rfl (vQ tab rfl (vQ tab rfl (vQ tab rfl (vQ tab rfl (vQ tab rfl (vQ tab rfl (vQ tab rfl (vQ tab rfl (vQ tab rfl (vQ tab rfl (vQ tab rfl (vK rfl (vK rfl ?_)))))))))))))))))))))))
    refine vK rfl (vQ tab rfl (vQ tab rfl (vnl (qth (vc_false rfl (vw_skip (qth (wsq (wsq (wrg (vT rfl callable_28 (evt_parts3 (f1 := f1) (f2 := f2) (f3 := f3) (f4 := f4) (f5 := f5) (f6 := f6) (f7 := f7) rfl (by decide)) ?_)))))))))))
    refine vQ tab rfl (vQ tab rfl (vnl (qth (wbk (vw_rounds 5 (rd_step (wsq (wrg (vQ tab rfl (vnl (qth (wsq (vc_true rfl (vw_skip (qth (wsq (wbk (wsq (wrg (vQ tab rfl (vQ tab rfl (vQ tab rfl (vnl ?_)))))))))))))))))))))))
    refine qth (wsq (wrg (vQ tab rfl (vQ tab rfl (vQ tab rfl (vF rfl callable_29 (nummay_fun _) (vQ tab rfl (vnl (qth ?_)))))))))
    refine vc_part rfl (fun _ => ?_) (fun _ => ?_)
    refine wsq (wrg (vQ tab rfl (vnl (qth (vw_ret (q_ret (q_thenr (q_thenr (q_ret (q_thenr ?_))))))))))
    rotate_left
    refine vw_skip (q_norm (qth (wrg (vQ tab rfl (vQ tab rfl (vnl (qth (rd_step (wsq (wrg (vQ tab rfl (vnl (qth (wsq (vc_true rfl (vw_skip (qth (wsq (wbk (wsq (wrg (vQ tab rfl (vQ tab rfl ?_)))))))))))))))))))))))
    refine vQ tab rfl (vnl (qth (wsq (wrg (vQ tab rfl (vQ tab rfl (vQ tab rfl (vF rfl callable_29 (nummay_fun _) (vQ tab rfl (vnl (qth ?_)))))))))))
    refine vc_part rfl (fun _ => ?_) (fun _ => ?_)
    refine wsq (wrg (vQ tab rfl (vnl (qth (vw_ret (q_ret (q_thenr (q_thenr (q_ret (q_thenr ?_))))))))))
    rotate_left
    refine vw_skip (q_norm (qth (wrg (vQ tab rfl (vQ tab rfl (vnl (qth (rd_step (wsq (wrg (vQ tab rfl (vnl (qth (wsq (vc_false rfl (vw_exit (q_thenx (q_thenx (q_here (qth (wsq (vw_draw mixed (dq_op tab rfl rfl rfl rfl ?_)))))))))))))))))))))))
    refine dq_op tab rfl rfl rfl rfl (dq_op tab rfl rfl rfl rfl (dq_op tab rfl rfl rfl rfl ?_))
    refine dg_op rfl rfl rfl (fun _ => ?_) (fun _ => ?_)
    refine dq_op tab ⟨_, _, rfl, rfl, rfl⟩ rfl rfl rfl (dq_op tab ⟨_, _, rfl, rfl, rfl⟩ rfl rfl rfl (dq_op tab ⟨_, _, rfl, rfl, rfl⟩ rfl rfl rfl (dq_op tab rfl rfl rfl rfl (dq_op tab rfl rfl rfl rfl ?_))))
    refine dg_op rfl rfl rfl (fun _ => ?_) (fun _ => ?_)
    refine dq_op tab ⟨_, _, rfl, rfl, rfl⟩ rfl rfl rfl (dq_op tab ⟨_, _, rfl, rfl, rfl⟩ rfl rfl rfl (dq_op tab ⟨_, _, rfl, rfl, rfl⟩ rfl rfl rfl (dq_op tab rfl rfl rfl rfl (dq_op tab rfl rfl rfl rfl ?_))))
    refine dg_op rfl rfl rfl (fun _ => ?_) (fun _ => ?_)
    refine dq_op tab ⟨_, _, rfl, rfl, rfl⟩ rfl rfl rfl (dq_op tab ⟨_, _, rfl, rfl, rfl⟩ rfl rfl rfl (dq_op tab ⟨_, _, rfl, rfl, rfl⟩ rfl rfl rfl (dq_op tab rfl rfl rfl rfl (dq_op tab rfl rfl rfl rfl ?_))))
    refine dg_op rfl rfl rfl (fun _ => ?_) (fun _ => ?_)
    refine dq_op tab ⟨_, _, rfl, rfl, rfl⟩ rfl rfl rfl (dr_op ⟨_, _, rfl, rfl, rfl⟩ rfl rfl rfl rfl callable_30 (evt_plain ⟨3, f1, f2, f3, f4, f5, f6, f7⟩ rfl) (dq_op tab ⟨_, _, rfl, rfl, rfl⟩ rfl (ev_eql rfl rfl rfl (evt_eq ⟨3, f1, f2, f3, f4, f5, f6, f7⟩ (evtPlain ⟨3, f1, f2, f3, f4, f5, f6, f7⟩))) (ev_eql rfl rfl rfl (evt_eq ⟨3, f1, f2, f3, f4, f5, f6, f7⟩ (evtPlain ⟨3, f1, f2, f3, f4, f5, f6, f7⟩))) (dq_op tab rfl rfl rfl rfl (dq_op tab rfl rfl rfl rfl (vd_nil (by kernel_rfl) ?_)))))
    refine qth (vw_ret ?_)
    rotate_left
    refine dk_op ⟨_, _, rfl, rfl, rfl⟩ rfl (dk_op ⟨_, _, rfl, rfl, rfl⟩ rfl (dk_op ⟨_, _, rfl, rfl, rfl⟩ rfl (dq_op tab rfl rfl rfl rfl (dq_op tab rfl rfl rfl rfl (vd_nil (by kernel_rfl) ?_)))))
    refine qth (vw_ret ?_)
    rotate_left
    refine dk_op ⟨_, _, rfl, rfl, rfl⟩ rfl (dk_op ⟨_, _, rfl, rfl, rfl⟩ rfl (dk_op ⟨_, _, rfl, rfl, rfl⟩ rfl (dq_op tab rfl rfl rfl rfl (dq_op tab rfl rfl rfl rfl (dk_op ⟨_, _, rfl, rfl, rfl⟩ rfl (dk_op ⟨_, _, rfl, rfl, rfl⟩ rfl (dk_op ⟨_, _, rfl, rfl, rfl⟩ rfl (dq_op tab rfl rfl rfl rfl (dq_op tab rfl rfl rfl rfl (vd_nil (by kernel_rfl) ?_))))))))))
    refine qth (vw_ret ?_)
    rotate_left
    refine dk_op ⟨_, _, rfl, rfl, rfl⟩ rfl (dk_op ⟨_, _, rfl, rfl, rfl⟩ rfl (dk_op ⟨_, _, rfl, rfl, rfl⟩ rfl (dq_op tab rfl rfl rfl rfl (dq_op tab rfl rfl rfl rfl (dk_op ⟨_, _, rfl, rfl, rfl⟩ rfl (dk_op ⟨_, _, rfl, rfl, rfl⟩ rfl (dk_op ⟨_, _, rfl, rfl, rfl⟩ rfl (dq_op tab rfl rfl rfl rfl (dq_op tab rfl rfl rfl rfl (dk_op ⟨_, _, rfl, rfl, rfl⟩ rfl (dk_op ⟨_, _, rfl, rfl, rfl⟩ rfl (dk_op ⟨_, _, rfl, rfl, rfl⟩ rfl (dq_op tab rfl rfl rfl rfl (dq_op tab rfl rfl rfl rfl (vd_nil (by kernel_rfl) ?_)))))))))))))))
    refine qth (vw_ret ?_)
    rotate_left
    refine dk_op ⟨_, _, rfl, rfl, rfl⟩ rfl (dk_op ⟨_, _, rfl, rfl, rfl⟩ rfl (dk_op ⟨_, _, rfl, rfl, rfl⟩ rfl (dq_op tab rfl rfl rfl rfl (dq_op tab rfl rfl rfl rfl (dk_op ⟨_, _, rfl, rfl, rfl⟩ rfl (dk_op ⟨_, _, rfl, rfl, rfl⟩ rfl (dk_op ⟨_, _, rfl, rfl, rfl⟩ rfl (dq_op tab rfl rfl rfl rfl (dq_op tab rfl rfl rfl rfl (dk_op ⟨_, _, rfl, rfl, rfl⟩ rfl (dk_op ⟨_, _, rfl, rfl, rfl⟩ rfl (dk_op ⟨_, _, rfl, rfl, rfl⟩ rfl (dq_op tab rfl rfl rfl rfl (dq_op tab rfl rfl rfl rfl (dk_op ⟨_, _, rfl, rfl, rfl⟩ rfl (dk_op ⟨_, _, rfl, rfl, rfl⟩ rfl (dk_op ⟨_, _, rfl, rfl, rfl⟩ rfl (dq_op tab rfl rfl rfl rfl (dq_op tab rfl rfl rfl rfl (vd_nil (by kernel_rfl) ?_))))))))))))))))))))
    refine qth (vw_ret ?_)
    rotate_left
    all_goals exact ⟨.inr rfl, Eq.trans (b := some (.bool _)) rfl (congrArg (fun b => some (Value.bool b)) (by simp_all [evtMay, evtNums] <;> (intros; omega)))⟩
  · refine wsq (wrg (vN tab rfl (vQ tab rfl (vnl (qth (wsq (wsq (wrg (vQ tab rfl (vQ tab rfl (vQ tab rfl (vQ tab rfl (vQ tab rfl (vQ tab rfl (vQ tab rfl (vQ tab rfl (vQ tab rfl (vQ tab rfl (vQ tab rfl (vQ tab rfl (vQ tab rfl (vK rfl (vK rfl ?_)))))))))))))))))))))))
    refine vK rfl (vQ tab rfl (vQ tab rfl (vnl (qth (vc_false rfl (vw_skip (qth (wsq (wsq (wrg (vT rfl callable_28 (evt_parts4 (f1 := f1) (f2 := f2) (f3 := f3) (f4 := f4) (f5 := f5) (f6 := f6) (f7 := f7) rfl (by decide)) ?_)))))))))))
    refine vQ tab rfl (vQ tab rfl (vnl (qth (wbk (vw_rounds 5 (rd_step (wsq (wrg (vQ tab rfl (vnl (qth (wsq (vc_true rfl (vw_skip (qth (wsq (wbk (wsq (wrg (vQ tab rfl (vQ tab rfl (vQ tab rfl (vnl ?_)))))))))))))))))))))))
    refine qth (wsq (wrg (vQ tab rfl (vQ tab rfl (vQ tab rfl (vF rfl callable_29 (nummay_fun _) (vQ tab rfl (vnl (qth ?_)))))))))
    refine vc_part rfl (fun _ => ?_) (fun _ => ?_)
    refine wsq (wrg (vQ tab rfl (vnl (qth (vw_ret (q_ret (q_thenr (q_thenr (q_ret (q_thenr ?_))))))))))
    rotate_left
    refine vw_skip (q_norm (qth (wrg (vQ tab rfl (vQ tab rfl (vnl (qth (rd_step (wsq (wrg (vQ tab rfl (vnl (qth (wsq (vc_false rfl (vw_exit (q_thenx (q_thenx (q_here (qth (wsq (vw_draw mixed (dq_op tab rfl rfl rfl rfl ?_)))))))))))))))))))))))
    refine dq_op tab rfl rfl rfl rfl (dq_op tab rfl rfl rfl rfl (dq_op tab rfl rfl rfl rfl ?_))
    refine dg_op rfl rfl rfl (fun _ => ?_) (fun _ => ?_)
    refine dq_op tab ⟨_, _, rfl, rfl, rfl⟩ rfl rfl rfl (dq_op tab ⟨_, _, rfl, rfl, rfl⟩ rfl rfl rfl (dq_op tab ⟨_, _, rfl, rfl, rfl⟩ rfl rfl rfl (dq_op tab rfl rfl rfl rfl (dq_op tab rfl rfl rfl rfl ?_))))
    refine dg_op rfl rfl rfl (fun _ => ?_) (fun _ => ?_)
    refine dq_op tab ⟨_, _, rfl, rfl, rfl⟩ rfl rfl rfl (dq_op tab ⟨_, _, rfl, rfl, rfl⟩ rfl rfl rfl (dq_op tab ⟨_, _, rfl, rfl, rfl⟩ rfl rfl rfl (dq_op tab rfl rfl rfl rfl (dq_op tab rfl rfl rfl rfl ?_))))
    refine dg_op rfl rfl rfl (fun _ => ?_) (fun _ => ?_)
    refine dq_op tab ⟨_, _, rfl, rfl, rfl⟩ rfl rfl rfl (dq_op tab ⟨_, _, rfl, rfl, rfl⟩ rfl rfl rfl (dq_op tab ⟨_, _, rfl, rfl, rfl⟩ rfl rfl rfl (dq_op tab rfl rfl rfl rfl (dq_op tab rfl rfl rfl rfl ?_))))
    refine dg_op rfl rfl rfl (fun _ => ?_) (fun _ => ?_)
    refine dq_op tab ⟨_, _, rfl, rfl, rfl⟩ rfl rfl rfl (dr_op ⟨_, _, rfl, rfl, rfl⟩ rfl rfl rfl rfl callable_30 (evt_plain ⟨4, f1, f2, f3, f4, f5, f6, f7⟩ rfl) (dq_op tab ⟨_, _, rfl, rfl, rfl⟩ rfl (ev_eql rfl rfl rfl (evt_eq ⟨4, f1, f2, f3, f4, f5, f6, f7⟩ (evtPlain ⟨4, f1, f2, f3, f4, f5, f6, f7⟩))) (ev_eql rfl rfl rfl (evt_eq ⟨4, f1, f2, f3, f4, f5, f6, f7⟩ (evtPlain ⟨4, f1, f2, f3, f4, f5, f6, f7⟩))) (dq_op tab rfl rfl rfl rfl (dq_op tab rfl rfl rfl rfl (vd_nil (by kernel_rfl) ?_)))))
    refine qth (vw_ret ?_)
    rotate_left
    refine dk_op ⟨_, _, rfl, rfl, rfl⟩ rfl (dk_op ⟨_, _, rfl, rfl, rfl⟩ rfl (dk_op ⟨_, _, rfl, rfl, rfl⟩ rfl (dq_op tab rfl rfl rfl rfl (dq_op tab rfl rfl rfl rfl (vd_nil (by kernel_rfl) ?_)))))
    refine qth (vw_ret ?_)
    rotate_left
    refine dk_op ⟨_, _, rfl, rfl, rfl⟩ rfl (dk_op ⟨_, _, rfl, rfl, rfl⟩ rfl (dk_op ⟨_, _, rfl, rfl, rfl⟩ rfl (dq_op tab rfl rfl rfl rfl (dq_op tab rfl rfl rfl rfl (dk_op ⟨_, _, rfl, rfl, rfl⟩ rfl (dk_op ⟨_, _, rfl, rfl, rfl⟩ rfl (dk_op ⟨_, _, rfl, rfl, rfl⟩ rfl (dq_op tab rfl rfl rfl rfl (dq_op tab rfl rfl rfl rfl (vd_nil (by kernel_rfl) ?_))))))))))
    refine qth (vw_ret ?_)
    rotate_left
    refine dk_op ⟨_, _, rfl, rfl, rfl⟩ rfl (dk_op ⟨_, _, rfl, rfl, rfl⟩ rfl (dk_op ⟨_, _, rfl, rfl, rfl⟩ rfl (dq_op tab rfl rfl rfl rfl (dq_op tab rfl rfl rfl rfl (dk_op ⟨_, _, rfl, rfl, rfl⟩ rfl (dk_op ⟨_, _, rfl, rfl, rfl⟩ rfl (dk_op ⟨_, _, rfl, rfl, rfl⟩ rfl (dq_op tab rfl rfl rfl rfl (dq_op tab rfl rfl rfl rfl (dk_op ⟨_, _, rfl, rfl, rfl⟩ rfl (dk_op ⟨_, _, rfl, rfl, rfl⟩ rfl (dk_op ⟨_, _, rfl, rfl, rfl⟩ rfl (dq_op tab rfl rfl rfl rfl (dq_op tab rfl rfl rfl rfl (vd_nil (by kernel_rfl) ?_)))))))))))))))
    refine qth (vw_ret ?_)
    rotate_left
    refine dk_op ⟨_, _, rfl, rfl, rfl⟩ rfl (dk_op ⟨_, _, rfl, rfl, rfl⟩ rfl (dk_op ⟨_, _, rfl, rfl, rfl⟩ rfl (dq_op tab rfl rfl rfl rfl (dq_op tab rfl rfl rfl rfl (dk_op ⟨_, _, rfl, rfl, rfl⟩ rfl (dk_op ⟨_, _, rfl, rfl, rfl⟩ rfl (dk_op ⟨_, _, rfl, rfl, rfl⟩ rfl (dq_op tab rfl rfl rfl rfl (dq_op tab rfl rfl rfl rfl (dk_op ⟨_, _, rfl, rfl, rfl⟩ rfl (dk_op ⟨_, _, rfl, rfl, rfl⟩ rfl (dk_op ⟨_, _, rfl, rfl, rfl⟩ rfl (dq_op tab rfl rfl rfl rfl (dq_op tab rfl rfl rfl rfl (dk_op ⟨_, _, rfl, rfl, rfl⟩ rfl (dk_op ⟨_, _, rfl, rfl, rfl⟩ rfl (dk_op ⟨_, _, rfl, rfl, rfl⟩ rfl (dq_op tab rfl rfl rfl rfl (dq_op tab rfl rfl rfl rfl (vd_nil (by kernel_rfl) ?_))))))))))))))))))))
    refine qth (vw_ret ?_)
    rotate_left
    all_goals exact ⟨.inr rfl, Eq.trans (b := some (.bool _)) rfl (congrArg (fun b => some (Value.bool b)) (by simp_all [evtMay, evtNums] <;> (intros; omega)))⟩
  · refine wsq (wrg (vN tab rfl (vQ tab rfl (vnl (qth (wsq (wsq (wrg (vQ tab rfl (vQ tab rfl (vQ tab rfl (vQ tab rfl (vQ tab rfl (vQ tab rfl (vQ tab rfl (vQ tab rfl (vQ tab rfl (vQ tab rfl (vQ tab rfl (vQ tab rfl (vQ tab rfl (vK rfl (vK rfl ?_)))))))))))))))))))))))
    refine vK rfl (vQ tab rfl (vQ tab rfl (vnl (qth (vc_false rfl (vw_skip (qth (wsq (wsq (wrg (vT rfl callable_28 (evt_parts5 (f1 := f1) (f2 := f2) (f3 := f3) (f4 := f4) (f5 := f5) (f6 := f6) (f7 := f7) rfl (by decide)) ?_)))))))))))
    refine vQ tab rfl (vQ tab rfl (vnl (qth (wbk (vw_rounds 5 (rd_step (wsq (wrg (vQ tab rfl (vnl (qth (wsq (vc_true rfl (vw_skip (qth (wsq (wbk (wsq (wrg (vQ tab rfl (vQ tab rfl (vQ tab rfl (vnl ?_)))))))))))))))))))))))
    refine qth (wsq (wrg (vQ tab rfl (vQ tab rfl (vQ tab rfl (vF rfl callable_29 (nummay_fun _) (vQ tab rfl (vnl (qth ?_)))))))))
    refine vc_part rfl (fun _ => ?_) (fun _ => ?_)
    refine wsq (wrg (vQ tab rfl (vnl (qth (vw_ret (q_ret (q_thenr (q_thenr (q_ret (q_thenr ?_))))))))))
    rotate_left
    refine vw_skip (q_norm (qth (wrg (vQ tab rfl (vQ tab rfl (vnl (qth (rd_step (wsq (wrg (vQ tab rfl (vnl (qth (wsq (vc_true rfl (vw_skip (qth (wsq (wbk (wsq (wrg (vQ tab rfl (vQ tab rfl ?_)))))))))))))))))))))))
    refine vQ tab rfl (vnl (qth (wsq (wrg (vQ tab rfl (vQ tab rfl (vQ tab rfl (vF rfl callable_29 (nummay_fun _) (vQ tab rfl (vnl (qth ?_)))))))))))
    refine vc_part rfl (fun _ => ?_) (fun _ => ?_)
    refine wsq (wrg (vQ tab rfl (vnl (qth (vw_ret (q_ret (q_thenr (q_thenr (q_ret (q_thenr ?_))))))))))
    rotate_left
    refine vw_skip (q_norm (qth (wrg (vQ tab rfl (vQ tab rfl (vnl (qth (rd_step (wsq (wrg (vQ tab rfl (vnl (qth (wsq (vc_true rfl (vw_skip (qth (wsq (wbk (wsq (wrg (vQ tab rfl (vQ tab rfl ?_)))))))))))))))))))))))
    refine vQ tab rfl (vnl (qth (wsq (wrg (vQ tab rfl (vQ tab rfl (vQ tab rfl (vF rfl callable_29 (nummay_fun _) (vQ tab rfl (vnl (qth ?_)))))))))))
    refine vc_part rfl (fun _ => ?_) (fun _ => ?_)
    refine wsq (wrg (vQ tab rfl (vnl (qth (vw_ret (q_ret (q_thenr (q_thenr (q_ret (q_thenr ?_))))))))))
    rotate_left
    refine vw_skip (q_norm (qth (wrg (vQ tab rfl (vQ tab rfl (vnl (qth (rd_step (wsq (wrg (vQ tab rfl (vnl (qth (wsq (vc_true rfl (vw_skip (qth (wsq (wbk (wsq (wrg (vQ tab rfl (vQ tab rfl ?_)))))))))))))))))))))))
    refine vQ tab rfl (vnl (qth (wsq (wrg (vQ tab rfl (vQ tab rfl (vQ tab rfl (vF rfl callable_29 (nummay_fun _) (vQ tab rfl (vnl (qth ?_)))))))))))
    refine vc_part rfl (fun _ => ?_) (fun _ => ?_)
    refine wsq (wrg (vQ tab rfl (vnl (qth (vw_ret (q_ret (q_thenr (q_thenr (q_ret (q_thenr ?_))))))))))
    rotate_left
    refine vw_skip (q_norm (qth (wrg (vQ tab rfl (vQ tab rfl (vnl (qth (rd_step (wsq (wrg (vQ tab rfl (vnl (qth (wsq (vc_false rfl (vw_exit (q_thenx (q_thenx (q_here (qth (wsq (vw_draw mixed (dq_op tab rfl rfl rfl rfl ?_)))))))))))))))))))))))
    refine dq_op tab rfl rfl rfl rfl (dq_op tab rfl rfl rfl rfl (dq_op tab rfl rfl rfl rfl ?_))
    refine dg_op rfl rfl rfl (fun _ => ?_) (fun _ => ?_)
    refine dq_op tab ⟨_, _, rfl, rfl, rfl⟩ rfl rfl rfl (dq_op tab ⟨_, _, rfl, rfl, rfl⟩ rfl rfl rfl (dq_op tab ⟨_, _, rfl, rfl, rfl⟩ rfl rfl rfl (dq_op tab rfl rfl rfl rfl (dq_op tab rfl rfl rfl rfl ?_))))
    refine dg_op rfl rfl rfl (fun _ => ?_) (fun _ => ?_)
    refine dq_op tab ⟨_, _, rfl, rfl, rfl⟩ rfl rfl rfl (dq_op tab ⟨_, _, rfl, rfl, rfl⟩ rfl rfl rfl (dq_op tab ⟨_, _, rfl, rfl, rfl⟩ rfl rfl rfl (dq_op tab rfl rfl rfl rfl (dq_op tab rfl rfl rfl rfl ?_))))
    refine dg_op rfl rfl rfl (fun _ => ?_) (fun _ => ?_)
    refine dq_op tab ⟨_, _, rfl, rfl, rfl⟩ rfl rfl rfl (dq_op tab ⟨_, _, rfl, rfl, rfl⟩ rfl rfl rfl (dq_op tab ⟨_, _, rfl, rfl, rfl⟩ rfl rfl rfl (dq_op tab rfl rfl rfl rfl (dq_op tab rfl rfl rfl rfl ?_))))
    refine dg_op rfl rfl rfl (fun _ => ?_) (fun _ => ?_)
    refine dq_op tab ⟨_, _, rfl, rfl, rfl⟩ rfl rfl rfl (dr_op ⟨_, _, rfl, rfl, rfl⟩ rfl rfl rfl rfl callable_30 (evt_plain ⟨5, f1, f2, f3, f4, f5, f6, f7⟩ rfl) (dq_op tab ⟨_, _, rfl, rfl, rfl⟩ rfl (ev_eql rfl rfl rfl (evt_eq ⟨5, f1, f2, f3, f4, f5, f6, f7⟩ (evtPlain ⟨5, f1, f2, f3, f4, f5, f6, f7⟩))) (ev_eql rfl rfl rfl (evt_eq ⟨5, f1, f2, f3, f4, f5, f6, f7⟩ (evtPlain ⟨5, f1, f2, f3, f4, f5, f6, f7⟩))) (dq_op tab rfl rfl rfl rfl (dq_op tab rfl rfl rfl rfl (vd_nil (by kernel_rfl) ?_)))))
    refine qth (vw_ret ?_)
    rotate_left
    refine dk_op ⟨_, _, rfl, rfl, rfl⟩ rfl (dk_op ⟨_, _, rfl, rfl, rfl⟩ rfl (dk_op ⟨_, _, rfl, rfl, rfl⟩ rfl (dq_op tab rfl rfl rfl rfl (dq_op tab rfl rfl rfl rfl (vd_nil (by kernel_rfl) ?_)))))
    refine qth (vw_ret ?_)
    rotate_left
    refine dk_op ⟨_, _, rfl, rfl, rfl⟩ rfl (dk_op ⟨_, _, rfl, rfl, rfl⟩ rfl (dk_op ⟨_, _, rfl, rfl, rfl⟩ rfl (dq_op tab rfl rfl rfl rfl (dq_op tab rfl rfl rfl rfl (dk_op ⟨_, _, rfl, rfl, rfl⟩ rfl (dk_op ⟨_, _, rfl, rfl, rfl⟩ rfl (dk_op ⟨_, _, rfl, rfl, rfl⟩ rfl (dq_op tab rfl rfl rfl rfl (dq_op tab rfl rfl rfl rfl (vd_nil (by kernel_rfl) ?_))))))))))
    refine qth (vw_ret ?_)
    rotate_left
    refine dk_op ⟨_, _, rfl, rfl, rfl⟩ rfl (dk_op ⟨_, _, rfl, rfl, rfl⟩ rfl (dk_op ⟨_, _, rfl, rfl, rfl⟩ rfl (dq_op tab rfl rfl rfl rfl (dq_op tab rfl rfl rfl rfl (dk_op ⟨_, _, rfl, rfl, rfl⟩ rfl (dk_op ⟨_, _, rfl, rfl, rfl⟩ rfl (dk_op ⟨_, _, rfl, rfl, rfl⟩ rfl (dq_op tab rfl rfl rfl rfl (dq_op tab rfl rfl rfl rfl (dk_op ⟨_, _, rfl, rfl, rfl⟩ rfl (dk_op ⟨_, _, rfl, rfl, rfl⟩ rfl (dk_op ⟨_, _, rfl, rfl, rfl⟩ rfl (dq_op tab rfl rfl rfl rfl (dq_op tab rfl rfl rfl rfl (vd_nil (by kernel_rfl) ?_)))))))))))))))
    refine qth (vw_ret ?_)
    rotate_left
    refine dk_op ⟨_, _, rfl, rfl, rfl⟩ rfl (dk_op ⟨_, _, rfl, rfl, rfl⟩ rfl (dk_op ⟨_, _, rfl, rfl, rfl⟩ rfl (dq_op tab rfl rfl rfl rfl (dq_op tab rfl rfl rfl rfl (dk_op ⟨_, _, rfl, rfl, rfl⟩ rfl (dk_op ⟨_, _, rfl, rfl, rfl⟩ rfl (dk_op ⟨_, _, rfl, rfl, rfl⟩ rfl (dq_op tab rfl rfl rfl rfl (dq_op tab rfl rfl rfl rfl (dk_op ⟨_, _, rfl, rfl, rfl⟩ rfl (dk_op ⟨_, _, rfl, rfl, rfl⟩ rfl (dk_op ⟨_, _, rfl, rfl, rfl⟩ rfl (dq_op tab rfl rfl rfl rfl (dq_op tab rfl rfl rfl rfl (dk_op ⟨_, _, rfl, rfl, rfl⟩ rfl (dk_op ⟨_, _, rfl, rfl, rfl⟩ rfl (dk_op ⟨_, _, rfl, rfl, rfl⟩ rfl (dq_op tab rfl rfl rfl rfl (dq_op tab rfl rfl rfl rfl (vd_nil (by kernel_rfl) ?_))))))))))))))))))))
    refine qth (vw_ret ?_)
    rotate_left
    all_goals exact ⟨.inr rfl, Eq.trans (b := some (.bool _)) rfl (congrArg (fun b => some (Value.bool b)) (by simp_all [evtMay, evtNums] <;> (intros; omega)))⟩
  · refine wsq (wrg (vN tab rfl (vQ tab rfl (vnl (qth (wsq (wsq (wrg (vQ tab rfl (vQ tab rfl (vQ tab rfl (vQ tab rfl (vQ tab rfl (vQ tab rfl (vQ tab rfl (vQ tab rfl (vQ tab rfl (vQ tab rfl (vQ tab rfl (vQ tab rfl (vQ tab rfl (vQ tab rfl (vQ tab rfl ?_)))))))))))))))))))))))
    refine vQ tab rfl (vQ tab rfl (vQ tab rfl (vnl (qth ?_))))
    refine vc_part rfl (fun _ => ?_) (fun _ => ?_)
    refine wsq (wrg (vQ tab rfl (vnl (qth (vw_ret (q_thenr ?_))))))
    rotate_left
    refine vw_skip (qth (wsq (wsq (wrg (vT rfl callable_28 (evt_parts6 (f1 := f1) (f2 := f2) (f3 := f3) (f4 := f4) (f5 := f5) (f6 := f6) (f7 := f7) rfl (by decide)) ?_)))))
    refine vQ tab rfl (vQ tab rfl (vnl (qth (wbk (vw_rounds 5 (rd_step (wsq (wrg (vQ tab rfl (vnl (qth (wsq (vc_true rfl (vw_skip (qth (wsq (wbk (wsq (wrg (vQ tab rfl (vQ tab rfl (vQ tab rfl (vnl ?_)))))))))))))))))))))))
    refine qth (wsq (wrg (vQ tab rfl (vQ tab rfl (vQ tab rfl (vF rfl callable_29 (nummay_fun _) (vQ tab rfl (vnl (qth ?_)))))))))
    refine vc_part rfl (fun _ => ?_) (fun _ => ?_)
    refine wsq (wrg (vQ tab rfl (vnl (qth (vw_ret (q_ret (q_thenr (q_thenr (q_ret (q_thenr ?_))))))))))
    rotate_left
    refine vw_skip (q_norm (qth (wrg (vQ tab rfl (vQ tab rfl (vnl (qth (rd_step (wsq (wrg (vQ tab rfl (vnl (qth (wsq (vc_true rfl (vw_skip (qth (wsq (wbk (wsq (wrg (vQ tab rfl (vQ tab rfl ?_)))))))))))))))))))))))
    refine vQ tab rfl (vnl (qth (wsq (wrg (vQ tab rfl (vQ tab rfl (vQ tab rfl (vF rfl callable_29 (nummay_fun _) (vQ tab rfl (vnl (qth ?_)))))))))))
    refine vc_part rfl (fun _ => ?_) (fun _ => ?_)
    refine wsq (wrg (vQ tab rfl (vnl (qth (vw_ret (q_ret (q_thenr (q_thenr (q_ret (q_thenr ?_))))))))))
    rotate_left
    refine vw_skip (q_norm (qth (wrg (vQ tab rfl (vQ tab rfl (vnl (qth (rd_step (wsq (wrg (vQ tab rfl (vnl (qth (wsq (vc_true rfl (vw_skip (qth (wsq (wbk (wsq (wrg (vQ tab rfl (vQ tab rfl ?_)))))))))))))))))))))))
    refine vQ tab rfl (vnl (qth (wsq (wrg (vQ tab rfl (vQ tab rfl (vQ tab rfl (vF rfl callable_29 (nummay_fun _) (vQ tab rfl (vnl (qth ?_)))))))))))
    refine vc_part rfl (fun _ => ?_) (fun _ => ?_)
    refine wsq (wrg (vQ tab rfl (vnl (qth (vw_ret (q_ret (q_thenr (q_thenr (q_ret (q_thenr ?_))))))))))
    rotate_left
    refine vw_skip (q_norm (qth (wrg (vQ tab rfl (vQ tab rfl (vnl (qth (rd_step (wsq (wrg (vQ tab rfl (vnl (qth (wsq (vc_true rfl (vw_skip (qth (wsq (wbk (wsq (wrg (vQ tab rfl (vQ tab rfl ?_)))))))))))))))))))))))
    refine vQ tab rfl (vnl (qth (wsq (wrg (vQ tab rfl (vQ tab rfl (vQ tab rfl (vF rfl callable_29 (nummay_fun _) (vQ tab rfl (vnl (qth ?_)))))))))))
    refine vc_part rfl (fun _ => ?_) (fun _ => ?_)
    refine wsq (wrg (vQ tab rfl (vnl (qth (vw_ret (q_ret (q_thenr (q_thenr (q_ret (q_thenr ?_))))))))))
    rotate_left
    refine vw_skip (q_norm (qth (wrg (vQ tab rfl (vQ tab rfl (vnl (qth (rd_step (wsq (wrg (vQ tab rfl (vnl (qth (wsq (vc_false rfl (vw_exit (q_thenx (q_thenx (q_here (qth (wsq (vw_draw mixed (dq_op tab rfl rfl rfl rfl ?_)))))))))))))))))))))))
    refine dq_op tab rfl rfl rfl rfl (dq_op tab rfl rfl rfl rfl (dq_op tab rfl rfl rfl rfl ?_))
    refine dg_op rfl rfl rfl (fun _ => ?_) (fun _ => ?_)
    refine dq_op tab ⟨_, _, rfl, rfl, rfl⟩ rfl rfl rfl (dq_op tab ⟨_, _, rfl, rfl, rfl⟩ rfl rfl rfl (dq_op tab ⟨_, _, rfl, rfl, rfl⟩ rfl rfl rfl (dq_op tab rfl rfl rfl rfl (dq_op tab rfl rfl rfl rfl ?_))))
    refine dg_op rfl rfl rfl (fun _ => ?_) (fun _ => ?_)
    refine dq_op tab ⟨_, _, rfl, rfl, rfl⟩ rfl rfl rfl (dq_op tab ⟨_, _, rfl, rfl, rfl⟩ rfl rfl rfl (dq_op tab ⟨_, _, rfl, rfl, rfl⟩ rfl rfl rfl (dq_op tab rfl rfl rfl rfl (dq_op tab rfl rfl rfl rfl ?_))))
    refine dg_op rfl rfl rfl (fun _ => ?_) (fun _ => ?_)
    refine dq_op tab ⟨_, _, rfl, rfl, rfl⟩ rfl rfl rfl (dq_op tab ⟨_, _, rfl, rfl, rfl⟩ rfl rfl rfl (dq_op tab ⟨_, _, rfl, rfl, rfl⟩ rfl rfl rfl (dq_op tab rfl rfl rfl rfl (dq_op tab rfl rfl rfl rfl ?_))))
    refine dg_op rfl rfl rfl (fun _ => ?_) (fun _ => ?_)
    refine dq_op tab ⟨_, _, rfl, rfl, rfl⟩ rfl rfl rfl (dr_op ⟨_, _, rfl, rfl, rfl⟩ rfl rfl rfl rfl callable_30 (evt_plain ⟨6, f1, f2, f3, f4, f5, f6, f7⟩ rfl) (dq_op tab ⟨_, _, rfl, rfl, rfl⟩ rfl (ev_eql rfl rfl rfl (evt_eq ⟨6, f1, f2, f3, f4, f5, f6, f7⟩ (evtPlain ⟨6, f1, f2, f3, f4, f5, f6, f7⟩))) (ev_eql rfl rfl rfl (evt_eq ⟨6, f1, f2, f3, f4, f5, f6, f7⟩ (evtPlain ⟨6, f1, f2, f3, f4, f5, f6, f7⟩))) (dq_op tab rfl rfl rfl rfl (dq_op tab rfl rfl rfl rfl (vd_nil (by kernel_rfl) ?_)))))
    refine qth (vw_ret ?_)
    rotate_left
    refine dk_op ⟨_, _, rfl, rfl, rfl⟩ rfl (dk_op ⟨_, _, rfl, rfl, rfl⟩ rfl (dk_op ⟨_, _, rfl, rfl, rfl⟩ rfl (dq_op tab rfl rfl rfl rfl (dq_op tab rfl rfl rfl rfl (vd_nil (by kernel_rfl) ?_)))))
    refine qth (vw_ret ?_)
    rotate_left
    refine dk_op ⟨_, _, rfl, rfl, rfl⟩ rfl (dk_op ⟨_, _, rfl, rfl, rfl⟩ rfl (dk_op ⟨_, _, rfl, rfl, rfl⟩ rfl (dq_op tab rfl rfl rfl rfl (dq_op tab rfl rfl rfl rfl (dk_op ⟨_, _, rfl, rfl, rfl⟩ rfl (dk_op ⟨_, _, rfl, rfl, rfl⟩ rfl (dk_op ⟨_, _, rfl, rfl, rfl⟩ rfl (dq_op tab rfl rfl rfl rfl (dq_op tab rfl rfl rfl rfl (vd_nil (by kernel_rfl) ?_))))))))))
    refine qth (vw_ret ?_)
    rotate_left
    refine dk_op ⟨_, _, rfl, rfl, rfl⟩ rfl (dk_op ⟨_, _, rfl, rfl, rfl⟩ rfl (dk_op ⟨_, _, rfl, rfl, rfl⟩ rfl (dq_op tab rfl rfl rfl rfl (dq_op tab rfl rfl rfl rfl (dk_op ⟨_, _, rfl, rfl, rfl⟩ rfl (dk_op ⟨_, _, rfl, rfl, rfl⟩ rfl (dk_op ⟨_, _, rfl, rfl, rfl⟩ rfl (dq_op tab rfl rfl rfl rfl (dq_op tab rfl rfl rfl rfl (dk_op ⟨_, _, rfl, rfl, rfl⟩ rfl (dk_op ⟨_, _, rfl, rfl, rfl⟩ rfl (dk_op ⟨_, _, rfl, rfl, rfl⟩ rfl (dq_op tab rfl rfl rfl rfl (dq_op tab rfl rfl rfl rfl (vd_nil (by kernel_rfl) ?_)))))))))))))))
    refine qth (vw_ret ?_)
    rotate_left
    refine dk_op ⟨_, _, rfl, rfl, rfl⟩ rfl (dk_op ⟨_, _, rfl, rfl, rfl⟩ rfl (dk_op ⟨_, _, rfl, rfl, rfl⟩ rfl (dq_op tab rfl rfl rfl rfl (dq_op tab rfl rfl rfl rfl (dk_op ⟨_, _, rfl, rfl, rfl⟩ rfl (dk_op ⟨_, _, rfl, rfl, rfl⟩ rfl (dk_op ⟨_, _, rfl, rfl, rfl⟩ rfl (dq_op tab rfl rfl rfl rfl (dq_op tab rfl rfl rfl rfl (dk_op ⟨_, _, rfl, rfl, rfl⟩ rfl (dk_op ⟨_, _, rfl, rfl, rfl⟩ rfl (dk_op ⟨_, _, rfl, rfl, rfl⟩ rfl (dq_op tab rfl rfl rfl rfl (dq_op tab rfl rfl rfl rfl (dk_op ⟨_, _, rfl, rfl, rfl⟩ rfl (dk_op ⟨_, _, rfl, rfl, rfl⟩ rfl (dk_op ⟨_, _, rfl, rfl, rfl⟩ rfl (dq_op tab rfl rfl rfl rfl (dq_op tab rfl rfl rfl rfl (vd_nil (by kernel_rfl) ?_))))))))))))))))))))
    refine qth (vw_ret ?_)
    rotate_left
    all_goals exact ⟨.inr rfl, Eq.trans (b := some (.bool _)) rfl (congrArg (fun b => some (Value.bool b)) (by simp_all [evtMay, evtNums] <;> (intros; omega)))⟩
  · refine wsq (wrg (vN tab rfl (vQ tab rfl (vnl (qth (wsq (wsq (wrg (vQ tab rfl (vQ tab rfl (vQ tab rfl (vQ tab rfl (vQ tab rfl (vQ tab rfl (vQ tab rfl (vQ tab rfl (vQ tab rfl (vQ tab rfl (vQ tab rfl (vQ tab rfl (vQ tab rfl (vK rfl (vK rfl ?_)))))))))))))))))))))))
    refine vK rfl (vQ tab rfl (vQ tab rfl (vnl (qth (vc_false rfl (vw_skip (qth (wsq (wsq (wrg (vT rfl callable_28 (evt_parts7 (f1 := f1) (f2 := f2) (f3 := f3) (f4 := f4) (f5 := f5) (f6 := f6) (f7 := f7) rfl (by decide)) ?_)))))))))))
    refine vQ tab rfl (vQ tab rfl (vnl (qth (wbk (vw_rounds 5 (rd_step (wsq (wrg (vQ tab rfl (vnl (qth (wsq (vc_true rfl (vw_skip (qth (wsq (wbk (wsq (wrg (vQ tab rfl (vQ tab rfl (vQ tab rfl (vnl ?_)))))))))))))))))))))))
    refine qth (wsq (wrg (vQ tab rfl (vQ tab rfl (vQ tab rfl (vF rfl callable_29 (nummay_fun _) (vQ tab rfl (vnl (qth ?_)))))))))
    refine vc_part rfl (fun _ => ?_) (fun _ => ?_)
    refine wsq (wrg (vQ tab rfl (vnl (qth (vw_ret (q_ret (q_thenr (q_thenr (q_ret (q_thenr ?_))))))))))
    rotate_left
    refine vw_skip (q_norm (qth (wrg (vQ tab rfl (vQ tab rfl (vnl (qth (rd_step (wsq (wrg (vQ tab rfl (vnl (qth (wsq (vc_false rfl (vw_exit (q_thenx (q_thenx (q_here (qth (wsq (vw_draw mixed (dq_op tab rfl rfl rfl rfl ?_)))))))))))))))))))))))
    refine dq_op tab rfl rfl rfl rfl (dq_op tab rfl rfl rfl rfl (dq_op tab rfl rfl rfl rfl ?_))
    refine dg_op rfl rfl rfl (fun _ => ?_) (fun _ => ?_)
    refine dq_op tab ⟨_, _, rfl, rfl, rfl⟩ rfl rfl rfl (dq_op tab ⟨_, _, rfl, rfl, rfl⟩ rfl rfl rfl (dq_op tab ⟨_, _, rfl, rfl, rfl⟩ rfl rfl rfl (dq_op tab rfl rfl rfl rfl (dq_op tab rfl rfl rfl rfl ?_))))
    refine dg_op rfl rfl rfl (fun _ => ?_) (fun _ => ?_)
    refine dq_op tab ⟨_, _, rfl, rfl, rfl⟩ rfl rfl rfl (dq_op tab ⟨_, _, rfl, rfl, rfl⟩ rfl rfl rfl (dq_op tab ⟨_, _, rfl, rfl, rfl⟩ rfl rfl rfl (dq_op tab rfl rfl rfl rfl (dq_op tab rfl rfl rfl rfl ?_))))
    refine dg_op rfl rfl rfl (fun _ => ?_) (fun _ => ?_)
    refine dq_op tab ⟨_, _, rfl, rfl, rfl⟩ rfl rfl rfl (dq_op tab ⟨_, _, rfl, rfl, rfl⟩ rfl rfl rfl (dq_op tab ⟨_, _, rfl, rfl, rfl⟩ rfl rfl rfl (dq_op tab rfl rfl rfl rfl (dq_op tab rfl rfl rfl rfl ?_))))
    refine dg_op rfl rfl rfl (fun _ => ?_) (fun _ => ?_)
    refine dq_op tab ⟨_, _, rfl, rfl, rfl⟩ rfl rfl rfl (dr_op ⟨_, _, rfl, rfl, rfl⟩ rfl rfl rfl rfl callable_30 (evt_plain ⟨7, f1, f2, f3, f4, f5, f6, f7⟩ rfl) (dq_op tab ⟨_, _, rfl, rfl, rfl⟩ rfl (ev_eql rfl rfl rfl (evt_eq ⟨7, f1, f2, f3, f4, f5, f6, f7⟩ (evtPlain ⟨7, f1, f2, f3, f4, f5, f6, f7⟩))) (ev_eql rfl rfl rfl (evt_eq ⟨7, f1, f2, f3, f4, f5, f6, f7⟩ (evtPlain ⟨7, f1, f2, f3, f4, f5, f6, f7⟩))) (dq_op tab rfl rfl rfl rfl (dq_op tab rfl rfl rfl rfl (vd_nil (by kernel_rfl) ?_)))))
    refine qth (vw_ret ?_)
    rotate_left
    refine dk_op ⟨_, _, rfl, rfl, rfl⟩ rfl (dk_op ⟨_, _, rfl, rfl, rfl⟩ rfl (dk_op ⟨_, _, rfl, rfl, rfl⟩ rfl (dq_op tab rfl rfl rfl rfl (dq_op tab rfl rfl rfl rfl (vd_nil (by kernel_rfl) ?_)))))
    refine qth (vw_ret ?_)
    rotate_left
    refine dk_op ⟨_, _, rfl, rfl, rfl⟩ rfl (dk_op ⟨_, _, rfl, rfl, rfl⟩ rfl (dk_op ⟨_, _, rfl, rfl, rfl⟩ rfl (dq_op tab rfl rfl rfl rfl (dq_op tab rfl rfl rfl rfl (dk_op ⟨_, _, rfl, rfl, rfl⟩ rfl (dk_op ⟨_, _, rfl, rfl, rfl⟩ rfl (dk_op ⟨_, _, rfl, rfl, rfl⟩ rfl (dq_op tab rfl rfl rfl rfl (dq_op tab rfl rfl rfl rfl (vd_nil (by kernel_rfl) ?_))))))))))
    refine qth (vw_ret ?_)
    rotate_left
    refine dk_op ⟨_, _, rfl, rfl, rfl⟩ rfl (dk_op ⟨_, _, rfl, rfl, rfl⟩ rfl (dk_op ⟨_, _, rfl, rfl, rfl⟩ rfl (dq_op tab rfl rfl rfl rfl (dq_op tab rfl rfl rfl rfl (dk_op ⟨_, _, rfl, rfl, rfl⟩ rfl (dk_op ⟨_, _, rfl, rfl, rfl⟩ rfl (dk_op ⟨_, _, rfl, rfl, rfl⟩ rfl (dq_op tab rfl rfl rfl rfl (dq_op tab rfl rfl rfl rfl (dk_op ⟨_, _, rfl, rfl, rfl⟩ rfl (dk_op ⟨_, _, rfl, rfl, rfl⟩ rfl (dk_op ⟨_, _, rfl, rfl, rfl⟩ rfl (dq_op tab rfl rfl rfl rfl (dq_op tab rfl rfl rfl rfl (vd_nil (by kernel_rfl) ?_)))))))))))))))
    refine qth (vw_ret ?_)
    rotate_left
    refine dk_op ⟨_, _, rfl, rfl, rfl⟩ rfl (dk_op ⟨_, _, rfl, rfl, rfl⟩ rfl (dk_op ⟨_, _, rfl, rfl, rfl⟩ rfl (dq_op tab rfl rfl rfl rfl (dq_op tab rfl rfl rfl rfl (dk_op ⟨_, _, rfl, rfl, rfl⟩ rfl (dk_op ⟨_, _, rfl, rfl, rfl⟩ rfl (dk_op ⟨_, _, rfl, rfl, rfl⟩ rfl (dq_op tab rfl rfl rfl rfl (dq_op tab rfl rfl rfl rfl (dk_op ⟨_, _, rfl, rfl, rfl⟩ rfl (dk_op ⟨_, _, rfl, rfl, rfl⟩ rfl (dk_op ⟨_, _, rfl, rfl, rfl⟩ rfl (dq_op tab rfl rfl rfl rfl (dq_op tab rfl rfl rfl rfl (dk_op ⟨_, _, rfl, rfl, rfl⟩ rfl (dk_op ⟨_, _, rfl, rfl, rfl⟩ rfl (dk_op ⟨_, _, rfl, rfl, rfl⟩ rfl (dq_op tab rfl rfl rfl rfl (dq_op tab rfl rfl rfl rfl (vd_nil (by kernel_rfl) ?_))))))))))))))))))))
    refine qth (vw_ret ?_)
    rotate_left
    all_goals exact ⟨.inr rfl, Eq.trans (b := some (.bool _)) rfl (congrArg (fun b => some (Value.bool b)) (by simp_all [evtMay, evtNums] <;> (intros; omega)))⟩
  · refine wsq (wrg (vN tab rfl (vQ tab rfl (vnl (qth (wsq (wsq (wrg (vQ tab rfl (vQ tab rfl (vQ tab rfl (vQ tab rfl (vQ tab rfl (vQ tab rfl (vQ tab rfl (vQ tab rfl (vQ tab rfl (vQ tab rfl (vQ tab rfl (vQ tab rfl (vQ tab rfl (vK rfl (vK rfl ?_)))))))))))))))))))))))
    refine vK rfl (vQ tab rfl (vQ tab rfl (vnl (qth (vc_false rfl (vw_skip (qth (wsq (wsq (wrg (vR rfl callable_28 (evt_partsN (k := 8) (f1 := f1) (f2 := f2) (f3 := f3) (f4 := f4) (f5 := f5) (f6 := f6) (f7 := f7) rfl (by omega)) ?_)))))))))))
    refine vQ tab rfl (vQ tab rfl (vnl (qth (wbk (vw_rounds 5 (rd_step (wsq (wrg (vQ tab rfl (vnl (qth (wsq (vc_false rfl (vw_exit (q_thenx (q_thenx (q_here (qth (wsq (vw_draw mixed (dq_op tab rfl rfl rfl rfl (dq_op tab rfl rfl rfl rfl (dq_op tab rfl rfl rfl rfl ?_)))))))))))))))))))))))
    refine dq_op tab rfl rfl rfl rfl ?_
    refine dg_op rfl rfl rfl (fun _ => ?_) (fun _ => ?_)
    refine dq_op tab ⟨_, _, rfl, rfl, rfl⟩ rfl rfl rfl (dq_op tab ⟨_, _, rfl, rfl, rfl⟩ rfl rfl rfl (dq_op tab ⟨_, _, rfl, rfl, rfl⟩ rfl rfl rfl (dq_op tab rfl rfl rfl rfl (dq_op tab rfl rfl rfl rfl ?_))))
    refine dg_op rfl rfl rfl (fun _ => ?_) (fun _ => ?_)
    refine dq_op tab ⟨_, _, rfl, rfl, rfl⟩ rfl rfl rfl (dq_op tab ⟨_, _, rfl, rfl, rfl⟩ rfl rfl rfl (dq_op tab ⟨_, _, rfl, rfl, rfl⟩ rfl rfl rfl (dq_op tab rfl rfl rfl rfl (dq_op tab rfl rfl rfl rfl ?_))))
    refine dg_op rfl rfl rfl (fun _ => ?_) (fun _ => ?_)
    refine dq_op tab ⟨_, _, rfl, rfl, rfl⟩ rfl rfl rfl (dq_op tab ⟨_, _, rfl, rfl, rfl⟩ rfl rfl rfl (dq_op tab ⟨_, _, rfl, rfl, rfl⟩ rfl rfl rfl (dq_op tab rfl rfl rfl rfl (dq_op tab rfl rfl rfl rfl ?_))))
    refine dg_op rfl rfl rfl (fun _ => ?_) (fun _ => ?_)
    refine dq_op tab ⟨_, _, rfl, rfl, rfl⟩ rfl rfl rfl (dr_op ⟨_, _, rfl, rfl, rfl⟩ rfl rfl rfl rfl callable_30 (evt_plain ⟨8, f1, f2, f3, f4, f5, f6, f7⟩ rfl) (dq_op tab ⟨_, _, rfl, rfl, rfl⟩ rfl (ev_eql rfl rfl rfl (evt_eq ⟨8, f1, f2, f3, f4, f5, f6, f7⟩ (evtPlain ⟨8, f1, f2, f3, f4, f5, f6, f7⟩))) (ev_eql rfl rfl rfl (evt_eq ⟨8, f1, f2, f3, f4, f5, f6, f7⟩ (evtPlain ⟨8, f1, f2, f3, f4, f5, f6, f7⟩))) (dq_op tab rfl rfl rfl rfl (dq_op tab rfl rfl rfl rfl (vd_nil (by kernel_rfl) ?_)))))
    refine qth (vw_ret ?_)
    rotate_left
    refine dk_op ⟨_, _, rfl, rfl, rfl⟩ rfl (dk_op ⟨_, _, rfl, rfl, rfl⟩ rfl (dk_op ⟨_, _, rfl, rfl, rfl⟩ rfl (dq_op tab rfl rfl rfl rfl (dq_op tab rfl rfl rfl rfl (vd_nil (by kernel_rfl) ?_)))))
    refine qth (vw_ret ?_)
    rotate_left
    refine dk_op ⟨_, _, rfl, rfl, rfl⟩ rfl (dk_op ⟨_, _, rfl, rfl, rfl⟩ rfl (dk_op ⟨_, _, rfl, rfl, rfl⟩ rfl (dq_op tab rfl rfl rfl rfl (dq_op tab rfl rfl rfl rfl (dk_op ⟨_, _, rfl, rfl, rfl⟩ rfl (dk_op ⟨_, _, rfl, rfl, rfl⟩ rfl (dk_op ⟨_, _, rfl, rfl, rfl⟩ rfl (dq_op tab rfl rfl rfl rfl (dq_op tab rfl rfl rfl rfl (vd_nil (by kernel_rfl) ?_))))))))))
    refine qth (vw_ret ?_)
    rotate_left
    refine dk_op ⟨_, _, rfl, rfl, rfl⟩ rfl (dk_op ⟨_, _, rfl, rfl, rfl⟩ rfl (dk_op ⟨_, _, rfl, rfl, rfl⟩ rfl (dq_op tab rfl rfl rfl rfl (dq_op tab rfl rfl rfl rfl (dk_op ⟨_, _, rfl, rfl, rfl⟩ rfl (dk_op ⟨_, _, rfl, rfl, rfl⟩ rfl (dk_op ⟨_, _, rfl, rfl, rfl⟩ rfl (dq_op tab rfl rfl rfl rfl (dq_op tab rfl rfl rfl rfl (dk_op ⟨_, _, rfl, rfl, rfl⟩ rfl (dk_op ⟨_, _, rfl, rfl, rfl⟩ rfl (dk_op ⟨_, _, rfl, rfl, rfl⟩ rfl (dq_op tab rfl rfl rfl rfl (dq_op tab rfl rfl rfl rfl (vd_nil (by kernel_rfl) ?_)))))))))))))))
    refine qth (vw_ret ?_)
    rotate_left
    refine dk_op ⟨_, _, rfl, rfl, rfl⟩ rfl (dk_op ⟨_, _, rfl, rfl, rfl⟩ rfl (dk_op ⟨_, _, rfl, rfl, rfl⟩ rfl (dq_op tab rfl rfl rfl rfl (dq_op tab rfl rfl rfl rfl (dk_op ⟨_, _, rfl, rfl, rfl⟩ rfl (dk_op ⟨_, _, rfl, rfl, rfl⟩ rfl (dk_op ⟨_, _, rfl, rfl, rfl⟩ rfl (dq_op tab rfl rfl rfl rfl (dq_op tab rfl rfl rfl rfl (dk_op ⟨_, _, rfl, rfl, rfl⟩ rfl (dk_op ⟨_, _, rfl, rfl, rfl⟩ rfl (dk_op ⟨_, _, rfl, rfl, rfl⟩ rfl (dq_op tab rfl rfl rfl rfl (dq_op tab rfl rfl rfl rfl (dk_op ⟨_, _, rfl, rfl, rfl⟩ rfl (dk_op ⟨_, _, rfl, rfl, rfl⟩ rfl (dk_op ⟨_, _, rfl, rfl, rfl⟩ rfl (dq_op tab rfl rfl rfl rfl (dq_op tab rfl rfl rfl rfl (vd_nil (by kernel_rfl) ?_))))))))))))))))))))
    refine qth (vw_ret ?_)
    rotate_left
    all_goals exact ⟨.inr rfl, Eq.trans (b := some (.bool _)) rfl (congrArg (fun b => some (Value.bool b)) (by simp_all [evtMay, evtNums] <;> (intros; omega)))⟩
  · refine wsq (wrg (vN tab rfl (vQ tab rfl (vnl (qth (wsq (wsq (wrg (vQ tab rfl (vQ tab rfl (vQ tab rfl (vQ tab rfl (vQ tab rfl (vQ tab rfl (vQ tab rfl (vQ tab rfl (vQ tab rfl (vQ tab rfl (vQ tab rfl (vQ tab rfl (vQ tab rfl (vK rfl (vK rfl ?_)))))))))))))))))))))))
    refine vK rfl (vQ tab rfl (vQ tab rfl (vnl (qth (vc_false rfl (vw_skip (qth (wsq (wsq (wrg (vT rfl callable_28 (evt_parts9 (f1 := f1) (f2 := f2) (f3 := f3) (f4 := f4) (f5 := f5) (f6 := f6) (f7 := f7) rfl (by decide)) ?_)))))))))))
    refine vQ tab rfl (vQ tab rfl (vnl (qth (wbk (vw_rounds 5 (rd_step (wsq (wrg (vQ tab rfl (vnl (qth (wsq (vc_true rfl (vw_skip (qth (wsq (wbk (wsq (wrg (vQ tab rfl (vQ tab rfl (vQ tab rfl (vnl ?_)))))))))))))))))))))))
    refine qth (wsq (wrg (vQ tab rfl (vQ tab rfl (vQ tab rfl (vF rfl callable_29 (nummay_fun _) (vQ tab rfl (vnl (qth ?_)))))))))
    refine vc_part rfl (fun _ => ?_) (fun _ => ?_)
    refine wsq (wrg (vQ tab rfl (vnl (qth (vw_ret (q_ret (q_thenr (q_thenr (q_ret (q_thenr ?_))))))))))
    rotate_left
    refine vw_skip (q_norm (qth (wrg (vQ tab rfl (vQ tab rfl (vnl (qth (rd_step (wsq (wrg (vQ tab rfl (vnl (qth (wsq (vc_false rfl (vw_exit (q_thenx (q_thenx (q_here (qth (wsq (vw_draw mixed (dq_op tab rfl rfl rfl rfl ?_)))))))))))))))))))))))
    refine dq_op tab rfl rfl rfl rfl (dq_op tab rfl rfl rfl rfl (dq_op tab rfl rfl rfl rfl ?_))
    refine dg_op rfl rfl rfl (fun _ => ?_) (fun _ => ?_)
    refine dq_op tab ⟨_, _, rfl, rfl, rfl⟩ rfl rfl rfl (dq_op tab ⟨_, _, rfl, rfl, rfl⟩ rfl rfl rfl (dq_op tab ⟨_, _, rfl, rfl, rfl⟩ rfl rfl rfl (dq_op tab rfl rfl rfl rfl (dq_op tab rfl rfl rfl rfl ?_))))
    refine dg_op rfl rfl rfl (fun _ => ?_) (fun _ => ?_)
    refine dq_op tab ⟨_, _, rfl, rfl, rfl⟩ rfl rfl rfl (dq_op tab ⟨_, _, rfl, rfl, rfl⟩ rfl rfl rfl (dq_op tab ⟨_, _, rfl, rfl, rfl⟩ rfl rfl rfl (dq_op tab rfl rfl rfl rfl (dq_op tab rfl rfl rfl rfl ?_))))
    refine dg_op rfl rfl rfl (fun _ => ?_) (fun _ => ?_)
    refine dq_op tab ⟨_, _, rfl, rfl, rfl⟩ rfl rfl rfl (dq_op tab ⟨_, _, rfl, rfl, rfl⟩ rfl rfl rfl (dq_op tab ⟨_, _, rfl, rfl, rfl⟩ rfl rfl rfl (dq_op tab rfl rfl rfl rfl (dq_op tab rfl rfl rfl rfl ?_))))
    refine dg_op rfl rfl rfl (fun _ => ?_) (fun _ => ?_)
    refine dq_op tab ⟨_, _, rfl, rfl, rfl⟩ rfl rfl rfl (dr_op ⟨_, _, rfl, rfl, rfl⟩ rfl rfl rfl rfl callable_30 (evt_plain ⟨9, f1, f2, f3, f4, f5, f6, f7⟩ rfl) (dq_op tab ⟨_, _, rfl, rfl, rfl⟩ rfl (ev_eql rfl rfl rfl (evt_eq ⟨9, f1, f2, f3, f4, f5, f6, f7⟩ (evtPlain ⟨9, f1, f2, f3, f4, f5, f6, f7⟩))) (ev_eql rfl rfl rfl (evt_eq ⟨9, f1, f2, f3, f4, f5, f6, f7⟩ (evtPlain ⟨9, f1, f2, f3, f4, f5, f6, f7⟩))) (dq_op tab rfl rfl rfl rfl (dq_op tab rfl rfl rfl rfl (vd_nil (by kernel_rfl) ?_)))))
    refine qth (vw_ret ?_)
    rotate_left
    refine dk_op ⟨_, _, rfl, rfl, rfl⟩ rfl (dk_op ⟨_, _, rfl, rfl, rfl⟩ rfl (dk_op ⟨_, _, rfl, rfl, rfl⟩ rfl (dq_op tab rfl rfl rfl rfl (dq_op tab rfl rfl rfl rfl (vd_nil (by kernel_rfl) ?_)))))
    refine qth (vw_ret ?_)
    rotate_left
    refine dk_op ⟨_, _, rfl, rfl, rfl⟩ rfl (dk_op ⟨_, _, rfl, rfl, rfl⟩ rfl (dk_op ⟨_, _, rfl, rfl, rfl⟩ rfl (dq_op tab rfl rfl rfl rfl (dq_op tab rfl rfl rfl rfl (dk_op ⟨_, _, rfl, rfl, rfl⟩ rfl (dk_op ⟨_, _, rfl, rfl, rfl⟩ rfl (dk_op ⟨_, _, rfl, rfl, rfl⟩ rfl (dq_op tab rfl rfl rfl rfl (dq_op tab rfl rfl rfl rfl (vd_nil (by kernel_rfl) ?_))))))))))
    refine qth (vw_ret ?_)
    rotate_left
    refine dk_op ⟨_, _, rfl, rfl, rfl⟩ rfl (dk_op ⟨_, _, rfl, rfl, rfl⟩ rfl (dk_op ⟨_, _, rfl, rfl, rfl⟩ rfl (dq_op tab rfl rfl rfl rfl (dq_op tab rfl rfl rfl rfl (dk_op ⟨_, _, rfl, rfl, rfl⟩ rfl (dk_op ⟨_, _, rfl, rfl, rfl⟩ rfl (dk_op ⟨_, _, rfl, rfl, rfl⟩ rfl (dq_op tab rfl rfl rfl rfl (dq_op tab rfl rfl rfl rfl (dk_op ⟨_, _, rfl, rfl, rfl⟩ rfl (dk_op ⟨_, _, rfl, rfl, rfl⟩ rfl (dk_op ⟨_, _, rfl, rfl, rfl⟩ rfl (dq_op tab rfl rfl rfl rfl (dq_op tab rfl rfl rfl rfl (vd_nil (by kernel_rfl) ?_)))))))))))))))
    refine qth (vw_ret ?_)
    rotate_left
    refine dk_op ⟨_, _, rfl, rfl, rfl⟩ rfl (dk_op ⟨_, _, rfl, rfl, rfl⟩ rfl (dk_op ⟨_, _, rfl, rfl, rfl⟩ rfl (dq_op tab rfl rfl rfl rfl (dq_op tab rfl rfl rfl rfl (dk_op ⟨_, _, rfl, rfl, rfl⟩ rfl (dk_op ⟨_, _, rfl, rfl, rfl⟩ rfl (dk_op ⟨_, _, rfl, rfl, rfl⟩ rfl (dq_op tab rfl rfl rfl rfl (dq_op tab rfl rfl rfl rfl (dk_op ⟨_, _, rfl, rfl, rfl⟩ rfl (dk_op ⟨_, _, rfl, rfl, rfl⟩ rfl (dk_op ⟨_, _, rfl, rfl, rfl⟩ rfl (dq_op tab rfl rfl rfl rfl (dq_op tab rfl rfl rfl rfl (dk_op ⟨_, _, rfl, rfl, rfl⟩ rfl (dk_op ⟨_, _, rfl, rfl, rfl⟩ rfl (dk_op ⟨_, _, rfl, rfl, rfl⟩ rfl (dq_op tab rfl rfl rfl rfl (dq_op tab rfl rfl rfl rfl (vd_nil (by kernel_rfl) ?_))))))))))))))))))))
    refine qth (vw_ret ?_)
    rotate_left
    all_goals exact ⟨.inr rfl, Eq.trans (b := some (.bool _)) rfl (congrArg (fun b => some (Value.bool b)) (by simp_all [evtMay, evtNums] <;> (intros; omega)))⟩
  · refine wsq (wrg (vN tab rfl (vQ tab rfl (vnl (qth (wsq (wsq (wrg (vQ tab rfl (vQ tab rfl (vQ tab rfl (vQ tab rfl ?_))))))))))))
    refine vg_op rfl rfl rfl (fun _ => ?_) (fun _ => ?_)
    refine vQ tab rfl (vQ tab rfl (vQ tab rfl (vQ tab rfl (vQ tab rfl ?_))))
    refine vg_op rfl rfl rfl (fun _ => ?_) (fun _ => ?_)
    refine vQ tab rfl (vQ tab rfl (vQ tab rfl (vQ tab rfl (vgd_op false rfl rfl rfl (by simp only [decide_eq_true_eq, decide_eq_false_iff_not, Bool.not_eq_eq_eq_not, Bool.not_true, Bool.not_false, bne_iff_ne, bne_eq_false_iff_eq, beq_iff_eq, beq_eq_false_iff_ne, ne_eq, beq_self_eq_true, bne_self_eq_false, Bool.and_eq_true, Bool.and_eq_false_iff, Bool.or_eq_true, Bool.or_eq_false_iff, and_self, and_true, true_and, Bool.false_eq_true, Bool.true_eq_false, not_false_eq_true, not_true_eq_false]; first | done | omega) ?_))))
    refine vK rfl (vK rfl (vK rfl (vQ tab rfl (vQ tab rfl (vnl (qth (vc_false rfl (vw_skip (qth (wsq (wsq (wrg (vR rfl callable_28 (evt_partsN (k := k) (f1 := f1) (f2 := f2) (f3 := f3) (f4 := f4) (f5 := f5) (f6 := f6) (f7 := f7) rfl (by omega)) ?_)))))))))))))
    refine vQ tab rfl (vQ tab rfl (vnl (qth (wbk (vw_rounds 5 (rd_step (wsq (wrg (vQ tab rfl (vnl (qth (wsq (vc_false rfl (vw_exit (q_thenx (q_thenx (q_here (qth (wsq (vw_draw mixed (dq_op tab rfl rfl rfl rfl (dq_op tab rfl rfl rfl rfl (dq_op tab rfl rfl rfl rfl ?_)))))))))))))))))))))))
    refine dq_op tab rfl rfl rfl rfl ?_
    refine dg_op rfl rfl rfl (fun _ => ?_) (fun _ => ?_)
    refine dq_op tab ⟨_, _, rfl, rfl, rfl⟩ rfl rfl rfl (dq_op tab ⟨_, _, rfl, rfl, rfl⟩ rfl rfl rfl (dq_op tab ⟨_, _, rfl, rfl, rfl⟩ rfl rfl rfl (dq_op tab rfl rfl rfl rfl (dq_op tab rfl rfl rfl rfl ?_))))
    refine dg_op rfl rfl rfl (fun _ => ?_) (fun _ => ?_)
    refine dq_op tab ⟨_, _, rfl, rfl, rfl⟩ rfl rfl rfl (dq_op tab ⟨_, _, rfl, rfl, rfl⟩ rfl rfl rfl (dq_op tab ⟨_, _, rfl, rfl, rfl⟩ rfl rfl rfl (dq_op tab rfl rfl rfl rfl (dq_op tab rfl rfl rfl rfl ?_))))
    refine dg_op rfl rfl rfl (fun _ => ?_) (fun _ => ?_)
    refine dq_op tab ⟨_, _, rfl, rfl, rfl⟩ rfl rfl rfl (dq_op tab ⟨_, _, rfl, rfl, rfl⟩ rfl rfl rfl (dq_op tab ⟨_, _, rfl, rfl, rfl⟩ rfl rfl rfl (dq_op tab rfl rfl rfl rfl (dq_op tab rfl rfl rfl rfl ?_))))
    refine dg_op rfl rfl rfl (fun _ => ?_) (fun _ => ?_)
    refine dq_op tab ⟨_, _, rfl, rfl, rfl⟩ rfl rfl rfl (dr_op ⟨_, _, rfl, rfl, rfl⟩ rfl rfl rfl rfl callable_30 (evt_plain ⟨k, f1, f2, f3, f4, f5, f6, f7⟩ rfl) (dq_op tab ⟨_, _, rfl, rfl, rfl⟩ rfl (ev_eql rfl rfl rfl (evt_eq ⟨k, f1, f2, f3, f4, f5, f6, f7⟩ (evtPlain ⟨k, f1, f2, f3, f4, f5, f6, f7⟩))) (ev_eql rfl rfl rfl (evt_eq ⟨k, f1, f2, f3, f4, f5, f6, f7⟩ (evtPlain ⟨k, f1, f2, f3, f4, f5, f6, f7⟩))) (dq_op tab rfl rfl rfl rfl (dq_op tab rfl rfl rfl rfl (vd_nil (by kernel_rfl) ?_)))))
    refine qth (vw_ret ?_)
    rotate_left
    refine dk_op ⟨_, _, rfl, rfl, rfl⟩ rfl (dk_op ⟨_, _, rfl, rfl, rfl⟩ rfl (dk_op ⟨_, _, rfl, rfl, rfl⟩ rfl (dq_op tab rfl rfl rfl rfl (dq_op tab rfl rfl rfl rfl (vd_nil (by kernel_rfl) ?_)))))
    refine qth (vw_ret ?_)
    rotate_left
    refine dk_op ⟨_, _, rfl, rfl, rfl⟩ rfl (dk_op ⟨_, _, rfl, rfl, rfl⟩ rfl (dk_op ⟨_, _, rfl, rfl, rfl⟩ rfl (dq_op tab rfl rfl rfl rfl (dq_op tab rfl rfl rfl rfl (dk_op ⟨_, _, rfl, rfl, rfl⟩ rfl (dk_op ⟨_, _, rfl, rfl, rfl⟩ rfl (dk_op ⟨_, _, rfl, rfl, rfl⟩ rfl (dq_op tab rfl rfl rfl rfl (dq_op tab rfl rfl rfl rfl (vd_nil (by kernel_rfl) ?_))))))))))
    refine qth (vw_ret ?_)
    rotate_left
    refine dk_op ⟨_, _, rfl, rfl, rfl⟩ rfl (dk_op ⟨_, _, rfl, rfl, rfl⟩ rfl (dk_op ⟨_, _, rfl, rfl, rfl⟩ rfl (dq_op tab rfl rfl rfl rfl (dq_op tab rfl rfl rfl rfl (dk_op ⟨_, _, rfl, rfl, rfl⟩ rfl (dk_op ⟨_, _, rfl, rfl, rfl⟩ rfl (dk_op ⟨_, _, rfl, rfl, rfl⟩ rfl (dq_op tab rfl rfl rfl rfl (dq_op tab rfl rfl rfl rfl (dk_op ⟨_, _, rfl, rfl, rfl⟩ rfl (dk_op ⟨_, _, rfl, rfl, rfl⟩ rfl (dk_op ⟨_, _, rfl, rfl, rfl⟩ rfl (dq_op tab rfl rfl rfl rfl (dq_op tab rfl rfl rfl rfl (vd_nil (by kernel_rfl) ?_)))))))))))))))
    refine qth (vw_ret ?_)
    rotate_left
    refine dk_op ⟨_, _, rfl, rfl, rfl⟩ rfl (dk_op ⟨_, _, rfl, rfl, rfl⟩ rfl (dk_op ⟨_, _, rfl, rfl, rfl⟩ rfl (dq_op tab rfl rfl rfl rfl (dq_op tab rfl rfl rfl rfl (dk_op ⟨_, _, rfl, rfl, rfl⟩ rfl (dk_op ⟨_, _, rfl, rfl, rfl⟩ rfl (dk_op ⟨_, _, rfl, rfl, rfl⟩ rfl (dq_op tab rfl rfl rfl rfl (dq_op tab rfl rfl rfl rfl (dk_op ⟨_, _, rfl, rfl, rfl⟩ rfl (dk_op ⟨_, _, rfl, rfl, rfl⟩ rfl (dk_op ⟨_, _, rfl, rfl, rfl⟩ rfl (dq_op tab rfl rfl rfl rfl (dq_op tab rfl rfl rfl rfl (dk_op ⟨_, _, rfl, rfl, rfl⟩ rfl (dk_op ⟨_, _, rfl, rfl, rfl⟩ rfl (dk_op ⟨_, _, rfl, rfl, rfl⟩ rfl (dq_op tab rfl rfl rfl rfl (dq_op tab rfl rfl rfl rfl (vd_nil (by kernel_rfl) ?_))))))))))))))))))))
    refine qth (vw_ret ?_)
    rotate_left
    refine vK rfl (vK rfl (vK rfl (vK rfl (vku_op rfl rfl rfl rfl rfl (vku_op rfl rfl rfl rfl rfl (vku_op rfl rfl rfl rfl rfl (vK rfl (vQ tab rfl (vnl (qth (vc_true rfl (wsq (wrg (vQ tab rfl (vnl (qth (vw_ret (q_thenr ?_))))))))))))))))))
    rotate_left
    refine vK rfl (vK rfl (vK rfl (vQ tab rfl (vQ tab rfl (vK rfl (vK rfl (vK rfl (vK rfl (vku_op rfl rfl rfl rfl rfl (vku_op rfl rfl rfl rfl rfl (vku_op rfl rfl rfl rfl rfl (vK rfl (vQ tab rfl (vnl (qth (vc_true rfl (wsq (wrg (vQ tab rfl (vnl (qth (vw_ret (q_thenr ?_)))))))))))))))))))))))
    rotate_left
    all_goals exact ⟨.inr rfl, Eq.trans (b := some (.bool _)) rfl (congrArg (fun b => some (Value.bool b)) (by simp_all [evtMay, evtNums] <;> (intros; omega)))⟩
end Go.Proofs.Ytcjfidfealifhaa
