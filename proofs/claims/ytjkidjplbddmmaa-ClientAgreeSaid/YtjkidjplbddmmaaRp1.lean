/- Package reply: parts, plain, May. -/
import Derived.Test.YtjkidjplbddmmaaVg1
import Derived.Test.YtjkidjplbddmmaaRp0
import Derived.Test.YtjkidjplbddmmaaFd0
namespace Go.Proofs.Ytjkidjplbddmmaa
open Go Vm IntWalk
set_option linter.unusedVariables false
set_option linter.unusedSimpArgs false
abbrev rplO (a : ReplyV) : VObj := .cells (rplL a) 30 (0, 0)
theorem ov_rpl {σ : Ren} {a b : ReplyV} (h : a = b) : OV σ (rplO a) (rplO b) := by rw [h]; exact .cells _ _ (rplR.flat b).rel
set_option maxHeartbeats 4000000 in
theorem rpl_parts0 {V : Heap} {n i : Nat} {f1 f2 f3 f4 f5 f6 f7 : Int} {d : ByteArray} (hV : V i = some (.cells (rplL ⟨0, f1, f2, f3, f4, f5, f6, f7, d⟩) 30 (0, 0))) (hin : i < n) :
    Tri Try.prog 67 [.pointer (some ⟨i, 0, none⟩)] n 1 V (fun u L => u = .slice (some ⟨n, 0, none⟩) 2 0 ∧ L = [(i, some (.cells (rplL ⟨0, f1, f2, f3, f4, f5, f6, f7, d⟩) 30 (0, 0))), (n, some (.opn [.pointer (some ⟨i, 1, none⟩), .pointer (some ⟨i, 2, none⟩)] 139 1))]) := by
  refine call_of_vw (K := 1) (argsI := [.pointer (some ⟨0, 0, none⟩)]) tab Try.func67 rfl rfl (by simp [Try.f67]) [.own i] [.cells (rplL ⟨0, f1, f2, f3, f4, f5, f6, f7, d⟩) 30 (0, 0)] rfl (.own hV (ov_rpl rfl) .nil) (by simp [ownNames, *]) (by simp [ownNames, lookNames, *]) (by simp [ownNames, *]) (al_cons (.val (rel_ptr rfl)) al_nil) (seen_of (sn_own sn_nil)) ?_
  refine wsq (wrg (vQ tab rfl (vnl (qth (wsq (wsq (wrg (vQ tab rfl (vQ tab rfl (vQ tab rfl (vQ tab rfl (vnl (qth (wbk (wsq (wrg (vQ tab rfl (vQ tab rfl (vnl (qth (vc_true rfl (wsq (vw_draw mixed ?_)))))))))))))))))))))))
  refine dq_op tab rfl rfl rfl rfl (dq_op tab rfl rfl rfl rfl (dq_op tab rfl rfl rfl rfl (dq_op tab rfl rfl rfl rfl (dq_op tab rfl rfl rfl rfl (dq_op tab rfl rfl rfl rfl (dn_op tab rfl rfl rfl rfl (dq_op tab rfl rfl rfl rfl (vd_nil (by kernel_rfl) ?_))))))))
  refine qth (vw_ret (q_ret (q_thenr ?_)))
  exact out_mk [1] (.inr rfl) ⟨rfl, rfl⟩ rfl (rel_slice (sigma_at (i := 0) (by simp [ownNames, *]) rfl) rfl) (op_cons (sigma_own (a := 0) (by simp [ownNames]) rfl) rfl rfl (ov_rpl rfl) rfl (op_cons (sigma_at (i := 0) (by simp [ownNames, *]) rfl) rfl rfl (.opn _ _ (lrel_cons (rel_ptr (sigma_own (a := 0) (by simp [ownNames]) rfl)) (lrel_cons (rel_ptr (sigma_own (a := 0) (by simp [ownNames]) rfl)) lrel_nil))) rfl op_nil)) ⟨fun _ => by simp [lkp], trivial⟩
set_option maxHeartbeats 4000000 in
theorem rpl_parts1 {V : Heap} {n i : Nat} {f1 f2 f3 f4 f5 f6 f7 : Int} {d : ByteArray} (hV : V i = some (.cells (rplL ⟨1, f1, f2, f3, f4, f5, f6, f7, d⟩) 30 (0, 0))) (hin : i < n) :
    Tri Try.prog 67 [.pointer (some ⟨i, 0, none⟩)] n 1 V (fun u L => u = .slice (some ⟨n, 0, none⟩) 3 0 ∧ L = [(i, some (.cells (rplL ⟨1, f1, f2, f3, f4, f5, f6, f7, d⟩) 30 (0, 0))), (n, some (.opn [.pointer (some ⟨i, 3, none⟩), .pointer (some ⟨i, 4, none⟩), .pointer (some ⟨i, 5, none⟩)] 139 1))]) := by
  refine call_of_vw (K := 1) (argsI := [.pointer (some ⟨0, 0, none⟩)]) tab Try.func67 rfl rfl (by simp [Try.f67]) [.own i] [.cells (rplL ⟨1, f1, f2, f3, f4, f5, f6, f7, d⟩) 30 (0, 0)] rfl (.own hV (ov_rpl rfl) .nil) (by simp [ownNames, *]) (by simp [ownNames, lookNames, *]) (by simp [ownNames, *]) (al_cons (.val (rel_ptr rfl)) al_nil) (seen_of (sn_own sn_nil)) ?_
  refine wsq (wrg (vQ tab rfl (vnl (qth (wsq (wsq (wrg (vQ tab rfl (vQ tab rfl (vQ tab rfl (vQ tab rfl (vnl (qth (wbk (wsq (wrg (vQ tab rfl (vQ tab rfl (vnl (qth (vc_false rfl (wsq (wrg ?_)))))))))))))))))))))))
  refine vQ tab rfl (vQ tab rfl (vnl (qth (vc_true rfl (wsq (vw_draw mixed (dq_op tab rfl rfl rfl rfl (dq_op tab rfl rfl rfl rfl (dq_op tab rfl rfl rfl rfl (dq_op tab rfl rfl rfl rfl (dq_op tab rfl rfl rfl rfl (dq_op tab rfl rfl rfl rfl (dq_op tab rfl rfl rfl rfl (dq_op tab rfl rfl rfl rfl (dq_op tab rfl rfl rfl rfl (dn_op tab rfl rfl rfl rfl (dq_op tab rfl rfl rfl rfl (vd_nil (by kernel_rfl) ?_))))))))))))))))))
  refine qth (vw_ret (q_ret (q_thenr ?_)))
  exact out_mk [1] (.inr rfl) ⟨rfl, rfl⟩ rfl (rel_slice (sigma_at (i := 0) (by simp [ownNames, *]) rfl) rfl) (op_cons (sigma_own (a := 0) (by simp [ownNames]) rfl) rfl rfl (ov_rpl rfl) rfl (op_cons (sigma_at (i := 0) (by simp [ownNames, *]) rfl) rfl rfl (.opn _ _ (lrel_cons (rel_ptr (sigma_own (a := 0) (by simp [ownNames]) rfl)) (lrel_cons (rel_ptr (sigma_own (a := 0) (by simp [ownNames]) rfl)) (lrel_cons (rel_ptr (sigma_own (a := 0) (by simp [ownNames]) rfl)) lrel_nil)))) rfl op_nil)) ⟨fun _ => by simp [lkp], trivial⟩
set_option maxHeartbeats 4000000 in
theorem rpl_parts2 {V : Heap} {n i : Nat} {f1 f2 f3 f4 f5 f6 f7 : Int} {d : ByteArray} (hV : V i = some (.cells (rplL ⟨2, f1, f2, f3, f4, f5, f6, f7, d⟩) 30 (0, 0))) (hin : i < n) :
    Tri Try.prog 67 [.pointer (some ⟨i, 0, none⟩)] n 1 V (fun u L => u = .slice (some ⟨n, 0, none⟩) 2 0 ∧ L = [(i, some (.cells (rplL ⟨2, f1, f2, f3, f4, f5, f6, f7, d⟩) 30 (0, 0))), (n, some (.opn [.pointer (some ⟨i, 3, none⟩), .pointer (some ⟨i, 6, none⟩)] 139 1))]) := by
  refine call_of_vw (K := 1) (argsI := [.pointer (some ⟨0, 0, none⟩)]) tab Try.func67 rfl rfl (by simp [Try.f67]) [.own i] [.cells (rplL ⟨2, f1, f2, f3, f4, f5, f6, f7, d⟩) 30 (0, 0)] rfl (.own hV (ov_rpl rfl) .nil) (by simp [ownNames, *]) (by simp [ownNames, lookNames, *]) (by simp [ownNames, *]) (al_cons (.val (rel_ptr rfl)) al_nil) (seen_of (sn_own sn_nil)) ?_
  refine wsq (wrg (vQ tab rfl (vnl (qth (wsq (wsq (wrg (vQ tab rfl (vQ tab rfl (vQ tab rfl (vQ tab rfl (vnl (qth (wbk (wsq (wrg (vQ tab rfl (vQ tab rfl (vnl (qth (vc_false rfl (wsq (wrg ?_)))))))))))))))))))))))
  refine vQ tab rfl (vQ tab rfl (vnl (qth (vc_false rfl (wsq (wrg (vQ tab rfl (vQ tab rfl (vnl (qth (vc_true rfl (wsq (vw_draw mixed (dq_op tab rfl rfl rfl rfl (dq_op tab rfl rfl rfl rfl (dq_op tab rfl rfl rfl rfl (dq_op tab rfl rfl rfl rfl (dq_op tab rfl rfl rfl rfl (dq_op tab rfl rfl rfl rfl (dn_op tab rfl rfl rfl rfl (dq_op tab rfl rfl rfl rfl (vd_nil (by kernel_rfl) ?_))))))))))))))))))))))
  refine qth (vw_ret (q_ret (q_thenr ?_)))
  exact out_mk [1] (.inr rfl) ⟨rfl, rfl⟩ rfl (rel_slice (sigma_at (i := 0) (by simp [ownNames, *]) rfl) rfl) (op_cons (sigma_own (a := 0) (by simp [ownNames]) rfl) rfl rfl (ov_rpl rfl) rfl (op_cons (sigma_at (i := 0) (by simp [ownNames, *]) rfl) rfl rfl (.opn _ _ (lrel_cons (rel_ptr (sigma_own (a := 0) (by simp [ownNames]) rfl)) (lrel_cons (rel_ptr (sigma_own (a := 0) (by simp [ownNames]) rfl)) lrel_nil))) rfl op_nil)) ⟨fun _ => by simp [lkp], trivial⟩
set_option maxHeartbeats 4000000 in
theorem rpl_parts3 {V : Heap} {n i : Nat} {f1 f2 f3 f4 f5 f6 f7 : Int} {d : ByteArray} (hV : V i = some (.cells (rplL ⟨3, f1, f2, f3, f4, f5, f6, f7, d⟩) 30 (0, 0))) (hin : i < n) :
    Tri Try.prog 67 [.pointer (some ⟨i, 0, none⟩)] n 1 V (fun u L => u = .slice (some ⟨n, 0, none⟩) 1 0 ∧ L = [(i, some (.cells (rplL ⟨3, f1, f2, f3, f4, f5, f6, f7, d⟩) 30 (0, 0))), (n, some (.opn [.pointer (some ⟨i, 7, none⟩)] 139 1))]) := by
  refine call_of_vw (K := 1) (argsI := [.pointer (some ⟨0, 0, none⟩)]) tab Try.func67 rfl rfl (by simp [Try.f67]) [.own i] [.cells (rplL ⟨3, f1, f2, f3, f4, f5, f6, f7, d⟩) 30 (0, 0)] rfl (.own hV (ov_rpl rfl) .nil) (by simp [ownNames, *]) (by simp [ownNames, lookNames, *]) (by simp [ownNames, *]) (al_cons (.val (rel_ptr rfl)) al_nil) (seen_of (sn_own sn_nil)) ?_
  refine wsq (wrg (vQ tab rfl (vnl (qth (wsq (wsq (wrg (vQ tab rfl (vQ tab rfl (vQ tab rfl (vQ tab rfl (vnl (qth (wbk (wsq (wrg (vQ tab rfl (vQ tab rfl (vnl (qth (vc_false rfl (wsq (wrg ?_)))))))))))))))))))))))
  refine vQ tab rfl (vQ tab rfl (vnl (qth (vc_false rfl (wsq (wrg (vQ tab rfl (vQ tab rfl (vnl (qth (vc_false rfl (wsq (wrg (vQ tab rfl (vQ tab rfl (vnl (qth (vc_false rfl (wsq (wrg (vQ tab rfl (vQ tab rfl (vnl ?_)))))))))))))))))))))))
  refine qth (vc_true rfl (wsq (wrg (vQ tab rfl (vQ tab rfl (vQ tab rfl (vN tab rfl (vQ tab rfl (vnl (qth (vw_ret (q_ret (q_thenr ?_)))))))))))))
  exact out_mk [1] (.inr rfl) ⟨rfl, rfl⟩ rfl (rel_slice (sigma_at (i := 0) (by simp [ownNames, *]) rfl) rfl) (op_cons (sigma_own (a := 0) (by simp [ownNames]) rfl) rfl rfl (ov_rpl rfl) rfl (op_cons (sigma_at (i := 0) (by simp [ownNames, *]) rfl) rfl rfl (.opn _ _ (lrel_cons (rel_ptr (sigma_own (a := 0) (by simp [ownNames]) rfl)) lrel_nil)) rfl op_nil)) ⟨fun _ => by simp [lkp], trivial⟩
set_option maxHeartbeats 4000000 in
theorem rpl_parts4 {V : Heap} {n i : Nat} {f1 f2 f3 f4 f5 f6 f7 : Int} {d : ByteArray} (hV : V i = some (.cells (rplL ⟨4, f1, f2, f3, f4, f5, f6, f7, d⟩) 30 (0, 0))) (hin : i < n) :
    Tri Try.prog 67 [.pointer (some ⟨i, 0, none⟩)] n 1 V (fun u L => u = .slice (some ⟨n, 0, none⟩) 2 0 ∧ L = [(i, some (.cells (rplL ⟨4, f1, f2, f3, f4, f5, f6, f7, d⟩) 30 (0, 0))), (n, some (.opn [.pointer (some ⟨i, 3, none⟩), .pointer (some ⟨i, 7, none⟩)] 139 1))]) := by
  refine call_of_vw (K := 1) (argsI := [.pointer (some ⟨0, 0, none⟩)]) tab Try.func67 rfl rfl (by simp [Try.f67]) [.own i] [.cells (rplL ⟨4, f1, f2, f3, f4, f5, f6, f7, d⟩) 30 (0, 0)] rfl (.own hV (ov_rpl rfl) .nil) (by simp [ownNames, *]) (by simp [ownNames, lookNames, *]) (by simp [ownNames, *]) (al_cons (.val (rel_ptr rfl)) al_nil) (seen_of (sn_own sn_nil)) ?_
  refine wsq (wrg (vQ tab rfl (vnl (qth (wsq (wsq (wrg (vQ tab rfl (vQ tab rfl (vQ tab rfl (vQ tab rfl (vnl (qth (wbk (wsq (wrg (vQ tab rfl (vQ tab rfl (vnl (qth (vc_false rfl (wsq (wrg ?_)))))))))))))))))))))))
  refine vQ tab rfl (vQ tab rfl (vnl (qth (vc_false rfl (wsq (wrg (vQ tab rfl (vQ tab rfl (vnl (qth (vc_false rfl (wsq (wrg (vQ tab rfl (vQ tab rfl (vnl (qth (vc_true rfl (wsq (vw_draw mixed (dq_op tab rfl rfl rfl rfl (dq_op tab rfl rfl rfl rfl (dq_op tab rfl rfl rfl rfl ?_)))))))))))))))))))))))
  refine dq_op tab rfl rfl rfl rfl (dq_op tab rfl rfl rfl rfl (dq_op tab rfl rfl rfl rfl (dn_op tab rfl rfl rfl rfl (dq_op tab rfl rfl rfl rfl (vd_nil (by kernel_rfl) ?_)))))
  refine qth (vw_ret (q_ret (q_thenr ?_)))
  exact out_mk [1] (.inr rfl) ⟨rfl, rfl⟩ rfl (rel_slice (sigma_at (i := 0) (by simp [ownNames, *]) rfl) rfl) (op_cons (sigma_own (a := 0) (by simp [ownNames]) rfl) rfl rfl (ov_rpl rfl) rfl (op_cons (sigma_at (i := 0) (by simp [ownNames, *]) rfl) rfl rfl (.opn _ _ (lrel_cons (rel_ptr (sigma_own (a := 0) (by simp [ownNames]) rfl)) (lrel_cons (rel_ptr (sigma_own (a := 0) (by simp [ownNames]) rfl)) lrel_nil))) rfl op_nil)) ⟨fun _ => by simp [lkp], trivial⟩
set_option maxHeartbeats 4000000 in
theorem rpl_partsN {V : Heap} {n i : Nat} {k : Int} {f1 f2 f3 f4 f5 f6 f7 : Int} {d : ByteArray} (hV : V i = some (.cells (rplL ⟨k, f1, f2, f3, f4, f5, f6, f7, d⟩) 30 (0, 0))) (hk : k ≠ 0 ∧ k ≠ 1 ∧ k ≠ 2 ∧ k ≠ 3 ∧ k ≠ 4) :
    Tri Try.prog 67 [.pointer (some ⟨i, 0, none⟩)] n 0 V (fun u L => u = .slice none 0 0 ∧ L = []) := by
  refine reads_of_vw (K := 1) (argsI := [.pointer (some ⟨0, 0, none⟩)]) tab Try.func67 rfl rfl (by simp [Try.f67]) [.own i] [.cells (rplL ⟨k, f1, f2, f3, f4, f5, f6, f7, d⟩) 30 (0, 0)] rfl (.own hV (ov_rpl rfl) .nil) (by simp [ownNames, *]) (by simp [ownNames, lookNames, *]) (al_cons (.val (rel_ptr rfl)) al_nil) (seen_of (sn_own sn_nil)) (.nilSlice) ?_
  refine wsq (wrg (vQ tab rfl (vnl (qth (wsq (wsq (wrg (vQ tab rfl (vQ tab rfl (vQ tab rfl (vQ tab rfl (vnl (qth (wbk (wsq (wrg (vQ tab rfl (vQ tab rfl (vnl (qth (vcd_false rfl (by simp only [decide_eq_true_eq, decide_eq_false_iff_not, Bool.not_eq_eq_eq_not, Bool.not_true, Bool.not_false, bne_iff_ne, bne_eq_false_iff_eq, beq_iff_eq, beq_eq_false_iff_ne, ne_eq, beq_self_eq_true, bne_self_eq_false, Bool.and_eq_true, Bool.and_eq_false_iff, Bool.or_eq_true, Bool.or_eq_false_iff, and_self, and_true, true_and, Bool.false_eq_true, Bool.true_eq_false, not_false_eq_true, not_true_eq_false]; first | done | omega) ?_)))))))))))))))))))))
  refine wsq (wrg (vQ tab rfl (vQ tab rfl (vnl (qth (vcd_false rfl (by simp only [decide_eq_true_eq, decide_eq_false_iff_not, Bool.not_eq_eq_eq_not, Bool.not_true, Bool.not_false, bne_iff_ne, bne_eq_false_iff_eq, beq_iff_eq, beq_eq_false_iff_ne, ne_eq, beq_self_eq_true, bne_self_eq_false, Bool.and_eq_true, Bool.and_eq_false_iff, Bool.or_eq_true, Bool.or_eq_false_iff, and_self, and_true, true_and, Bool.false_eq_true, Bool.true_eq_false, not_false_eq_true, not_true_eq_false]; first | done | omega) ?_))))))
  refine wsq (wrg (vQ tab rfl (vQ tab rfl (vnl (qth (vcd_false rfl (by simp only [decide_eq_true_eq, decide_eq_false_iff_not, Bool.not_eq_eq_eq_not, Bool.not_true, Bool.not_false, bne_iff_ne, bne_eq_false_iff_eq, beq_iff_eq, beq_eq_false_iff_ne, ne_eq, beq_self_eq_true, bne_self_eq_false, Bool.and_eq_true, Bool.and_eq_false_iff, Bool.or_eq_true, Bool.or_eq_false_iff, and_self, and_true, true_and, Bool.false_eq_true, Bool.true_eq_false, not_false_eq_true, not_true_eq_false]; first | done | omega) ?_))))))
  refine wsq (wrg (vQ tab rfl (vQ tab rfl (vnl (qth (vcd_false rfl (by simp only [decide_eq_true_eq, decide_eq_false_iff_not, Bool.not_eq_eq_eq_not, Bool.not_true, Bool.not_false, bne_iff_ne, bne_eq_false_iff_eq, beq_iff_eq, beq_eq_false_iff_ne, ne_eq, beq_self_eq_true, bne_self_eq_false, Bool.and_eq_true, Bool.and_eq_false_iff, Bool.or_eq_true, Bool.or_eq_false_iff, and_self, and_true, true_and, Bool.false_eq_true, Bool.true_eq_false, not_false_eq_true, not_true_eq_false]; first | done | omega) ?_))))))
  refine wsq (wrg (vQ tab rfl (vQ tab rfl (vnl (qth (vcd_false rfl (by simp only [decide_eq_true_eq, decide_eq_false_iff_not, Bool.not_eq_eq_eq_not, Bool.not_true, Bool.not_false, bne_iff_ne, bne_eq_false_iff_eq, beq_iff_eq, beq_eq_false_iff_ne, ne_eq, beq_self_eq_true, bne_self_eq_false, Bool.and_eq_true, Bool.and_eq_false_iff, Bool.or_eq_true, Bool.or_eq_false_iff, and_self, and_true, true_and, Bool.false_eq_true, Bool.true_eq_false, not_false_eq_true, not_true_eq_false]; first | done | omega) ?_))))))
  refine vw_skip (q_norm (qth (wsq (wrg (vQ tab rfl (vnl (qth (vw_ret ?_))))))))
  exact ⟨⟨.inr rfl, rfl⟩, fun _ => rfl, trivial⟩
set_option maxHeartbeats 4000000 in
theorem rpl_texts {V : Heap} {n i : Nat} (a : ReplyV) (hV : V i = some (rplO a)) : Tri Try.prog 95 [.pointer (some ⟨i, 0, none⟩)] n 0 V (fun u L => u = .string (if rplText a.kind = true then a.data else ⟨#[]⟩) ∧ L = []) := by
  refine reads_of_vw (K := 1) (argsI := [.pointer (some ⟨0, 0, none⟩)]) tab Try.func95 rfl rfl (by simp [Try.f95]) [.own i] [rplO a] rfl (.own hV (ov_rpl rfl) .nil) (by simp [ownNames, *]) (by simp [ownNames, lookNames, *]) (al_cons (.val (rel_ptr rfl)) al_nil) (seen_of (sn_own sn_nil)) (.string _) ?_
  by_cases h : a.kind = 2
  · have ht : rplText a.kind = true := by unfold rplText; simp [h]
    rw [if_pos ht]
    skip
    all_goals
      refine wsq (wrg (vQ tab rfl (vnl (qth (wsq (wsq (wrg (vQ tab rfl (vQ tab rfl (vQ tab rfl (vQ tab rfl (vQ tab rfl (vnl (qth (vcd_false rfl (by simp only [decide_eq_true_eq, decide_eq_false_iff_not, Bool.not_eq_eq_eq_not, Bool.not_true, Bool.not_false, bne_iff_ne, bne_eq_false_iff_eq, beq_iff_eq, beq_eq_false_iff_ne, ne_eq, beq_self_eq_true, bne_self_eq_false, Bool.and_eq_true, Bool.and_eq_false_iff, Bool.or_eq_true, Bool.or_eq_false_iff, and_self, and_true, true_and, Bool.false_eq_true, Bool.true_eq_false, not_false_eq_true, not_true_eq_false]; first | done | omega) ?_)))))))))))))))
      refine vw_skip (qth (wsq (wrg (vQ tab rfl (vQ tab rfl (vQ tab rfl (vQ tab rfl (vQ tab rfl (vnl (qth (vw_ret ?_)))))))))))
      exact ⟨⟨.inr rfl, rfl⟩, fun _ => rfl, trivial⟩
  · have ht : rplText a.kind = false := by unfold rplText; simp [h]
    rw [if_neg (by rw [ht]; decide)]
    refine wsq (wrg (vQ tab rfl (vnl (qth (wsq (wsq (wrg (vQ tab rfl (vQ tab rfl (vQ tab rfl (vQ tab rfl (vQ tab rfl (vnl (qth (vcd_true rfl (by simp only [decide_eq_true_eq, decide_eq_false_iff_not, Bool.not_eq_eq_eq_not, Bool.not_true, Bool.not_false, bne_iff_ne, bne_eq_false_iff_eq, beq_iff_eq, beq_eq_false_iff_ne, ne_eq, beq_self_eq_true, bne_self_eq_false, Bool.and_eq_true, Bool.and_eq_false_iff, Bool.or_eq_true, Bool.or_eq_false_iff, and_self, and_true, true_and, Bool.false_eq_true, Bool.true_eq_false, not_false_eq_true, not_true_eq_false]; first | done | omega) ?_)))))))))))))))
    refine wsq (wrg (vQ tab rfl (vnl (qth (vw_ret (q_thenr ?_))))))
    exact ⟨⟨.inr rfl, rfl⟩, fun _ => rfl, trivial⟩
set_option maxHeartbeats 16000000 in
theorem rpl_plain {V : Heap} {n i : Nat} (a : ReplyV) (hV : V i = some (rplO a)) :
    Tri Try.prog 68 [.pointer (some ⟨i, 0, none⟩)] n 0 V (fun u L => u = rplV (rplPlain a) ∧ L = []) := by
  obtain ⟨k, f1, f2, f3, f4, f5, f6, f7, d⟩ := a
  refine reads_of_vw (K := 1) (argsI := [.pointer (some ⟨0, 0, none⟩)]) tab Try.func68 rfl rfl (by simp [Try.f68]) [.own i] [rplO ⟨k, f1, f2, f3, f4, f5, f6, f7, d⟩] rfl (.own hV (ov_rpl rfl) .nil) (by simp [ownNames, *]) (by simp [ownNames, lookNames, *]) (al_cons (.val (rel_ptr rfl)) al_nil) (seen_of (sn_own sn_nil)) (rplRel _) ?_
  rcases (show k = 0 ∨ k = 1 ∨ k = 2 ∨ k = 3 ∨ k = 4 ∨ k = 5 ∨ (k ≠ 0 ∧ k ≠ 1 ∧ k ≠ 2 ∧ k ≠ 3 ∧ k ≠ 4 ∧ k ≠ 5) by omega) with rfl | rfl | rfl | rfl | rfl | rfl | hk
  · refine wsq (wrg (vN tab rfl (vnl (qth (wsq (vw_draw mixed (dq_op tab rfl rfl rfl rfl (dq_op tab rfl rfl rfl rfl (dq_op tab rfl rfl rfl rfl (dq_op tab rfl rfl rfl rfl (dq_op tab rfl rfl rfl rfl (dr_op rfl rfl rfl rfl rfl callable_95 (rpl_texts ⟨0, f1, f2, f3, f4, f5, f6, f7, d⟩ rfl) (dq_op tab rfl rfl rfl rfl (dn_op tab rfl rfl rfl rfl (ds_op tab rfl rfl rfl rfl (vd_nil (by kernel_rfl) ?_))))))))))))))))
    refine qth (wsq (wrg (vT rfl callable_67 (rpl_parts0 (f1 := 0) (f2 := 0) (f3 := 0) (f4 := 0) (f5 := 0) (f6 := 0) (f7 := 0) (d := if rplText 0 = true then d else ⟨#[]⟩) rfl (by decide)) ?_)))
    refine vQ tab rfl (vnl (qth (wsq (wsq (wrg (vQ tab rfl (vT rfl callable_67 (rpl_parts0 (f1 := f1) (f2 := f2) (f3 := f3) (f4 := f4) (f5 := f5) (f6 := f6) (f7 := f7) (d := d) rfl (by decide)) ?_)))))))
    refine vQ tab rfl (vQ tab rfl (vnl (qth (wbk (vw_rounds 4 (rd_step (wsq (wrg (vQ tab rfl (vnl (qth (wsq (vc_true rfl (vw_skip (qth (wsq (wbk (wsq (wrg (vQ tab rfl (vQ tab rfl (vQ tab rfl (vQ tab rfl ?_)))))))))))))))))))))))
    refine vQ tab rfl (vnl (qth (vw_draw mixed (dq_op tab rfl rfl rfl rfl (dq_op tab rfl rfl rfl rfl (dq_op tab rfl rfl rfl rfl (dq_op tab rfl rfl rfl rfl (dq_op tab rfl rfl rfl rfl (dq_op tab rfl rfl rfl rfl (dq_op tab rfl rfl rfl rfl (dq_op tab rfl rfl rfl rfl (ds_op tab rfl rfl rfl rfl (vd_nil (by kernel_rfl) ?_)))))))))))))
    refine q_norm (qth (wrg (vQ tab rfl (vQ tab rfl (vnl (qth (rd_step (wsq (wrg (vQ tab rfl (vnl (qth (wsq (vc_true rfl (vw_skip (qth (wsq (wbk (wsq (wrg (vQ tab rfl (vQ tab rfl (vQ tab rfl ?_)))))))))))))))))))))))
    refine vQ tab rfl (vQ tab rfl (vnl (qth (vw_draw mixed (dq_op tab rfl rfl rfl rfl (dq_op tab rfl rfl rfl rfl (dq_op tab rfl rfl rfl rfl (dq_op tab rfl rfl rfl rfl (dq_op tab rfl rfl rfl rfl (dq_op tab rfl rfl rfl rfl (dq_op tab rfl rfl rfl rfl (dq_op tab rfl rfl rfl rfl (ds_op tab rfl rfl rfl rfl (vd_nil (by kernel_rfl) ?_))))))))))))))
    refine q_norm (qth (wrg (vQ tab rfl (vQ tab rfl (vnl (qth (rd_step (wsq (wrg (vQ tab rfl (vnl (qth (wsq (vc_false rfl (vw_exit (q_thenx (q_thenx (q_here (qth (wsq (wrg (vQ tab rfl (vS tab rfl ?_)))))))))))))))))))))))
    refine vnl (qth (vw_ret ?_))
    exact ⟨⟨.inr rfl, rfl⟩, fun _ => rfl, trivial⟩
  · refine wsq (wrg (vN tab rfl (vnl (qth (wsq (vw_draw mixed (dq_op tab rfl rfl rfl rfl (dq_op tab rfl rfl rfl rfl (dq_op tab rfl rfl rfl rfl (dq_op tab rfl rfl rfl rfl (dq_op tab rfl rfl rfl rfl (dr_op rfl rfl rfl rfl rfl callable_95 (rpl_texts ⟨1, f1, f2, f3, f4, f5, f6, f7, d⟩ rfl) (dq_op tab rfl rfl rfl rfl (dn_op tab rfl rfl rfl rfl (ds_op tab rfl rfl rfl rfl (vd_nil (by kernel_rfl) ?_))))))))))))))))
    refine qth (wsq (wrg (vT rfl callable_67 (rpl_parts1 (f1 := 0) (f2 := 0) (f3 := 0) (f4 := 0) (f5 := 0) (f6 := 0) (f7 := 0) (d := if rplText 1 = true then d else ⟨#[]⟩) rfl (by decide)) ?_)))
    refine vQ tab rfl (vnl (qth (wsq (wsq (wrg (vQ tab rfl (vT rfl callable_67 (rpl_parts1 (f1 := f1) (f2 := f2) (f3 := f3) (f4 := f4) (f5 := f5) (f6 := f6) (f7 := f7) (d := d) rfl (by decide)) ?_)))))))
    refine vQ tab rfl (vQ tab rfl (vnl (qth (wbk (vw_rounds 4 (rd_step (wsq (wrg (vQ tab rfl (vnl (qth (wsq (vc_true rfl (vw_skip (qth (wsq (wbk (wsq (wrg (vQ tab rfl (vQ tab rfl (vQ tab rfl (vQ tab rfl ?_)))))))))))))))))))))))
    refine vQ tab rfl (vnl (qth (vw_draw mixed (dq_op tab rfl rfl rfl rfl (dq_op tab rfl rfl rfl rfl (dq_op tab rfl rfl rfl rfl (dq_op tab rfl rfl rfl rfl (dq_op tab rfl rfl rfl rfl (dq_op tab rfl rfl rfl rfl (dq_op tab rfl rfl rfl rfl (dq_op tab rfl rfl rfl rfl (ds_op tab rfl rfl rfl rfl (vd_nil (by kernel_rfl) ?_)))))))))))))
    refine q_norm (qth (wrg (vQ tab rfl (vQ tab rfl (vnl (qth (rd_step (wsq (wrg (vQ tab rfl (vnl (qth (wsq (vc_true rfl (vw_skip (qth (wsq (wbk (wsq (wrg (vQ tab rfl (vQ tab rfl (vQ tab rfl ?_)))))))))))))))))))))))
    refine vQ tab rfl (vQ tab rfl (vnl (qth (vw_draw mixed (dq_op tab rfl rfl rfl rfl (dq_op tab rfl rfl rfl rfl (dq_op tab rfl rfl rfl rfl (dq_op tab rfl rfl rfl rfl (dq_op tab rfl rfl rfl rfl (dq_op tab rfl rfl rfl rfl (dq_op tab rfl rfl rfl rfl (dq_op tab rfl rfl rfl rfl (ds_op tab rfl rfl rfl rfl (vd_nil (by kernel_rfl) ?_))))))))))))))
    refine q_norm (qth (wrg (vQ tab rfl (vQ tab rfl (vnl (qth (rd_step (wsq (wrg (vQ tab rfl (vnl (qth (wsq (vc_true rfl (vw_skip (qth (wsq (wbk (wsq (wrg (vQ tab rfl (vQ tab rfl (vQ tab rfl ?_)))))))))))))))))))))))
    refine vQ tab rfl (vQ tab rfl (vnl (qth (vw_draw mixed (dq_op tab rfl rfl rfl rfl (dq_op tab rfl rfl rfl rfl (dq_op tab rfl rfl rfl rfl (dq_op tab rfl rfl rfl rfl (dq_op tab rfl rfl rfl rfl (dq_op tab rfl rfl rfl rfl (dq_op tab rfl rfl rfl rfl (dq_op tab rfl rfl rfl rfl (ds_op tab rfl rfl rfl rfl (vd_nil (by kernel_rfl) ?_))))))))))))))
    refine q_norm (qth (wrg (vQ tab rfl (vQ tab rfl (vnl (qth (rd_step (wsq (wrg (vQ tab rfl (vnl (qth (wsq (vc_false rfl (vw_exit (q_thenx (q_thenx (q_here (qth (wsq (wrg (vQ tab rfl (vS tab rfl ?_)))))))))))))))))))))))
    refine vnl (qth (vw_ret ?_))
    exact ⟨⟨.inr rfl, rfl⟩, fun _ => rfl, trivial⟩
  · refine wsq (wrg (vN tab rfl (vnl (qth (wsq (vw_draw mixed (dq_op tab rfl rfl rfl rfl (dq_op tab rfl rfl rfl rfl (dq_op tab rfl rfl rfl rfl (dq_op tab rfl rfl rfl rfl (dq_op tab rfl rfl rfl rfl (dr_op rfl rfl rfl rfl rfl callable_95 (rpl_texts ⟨2, f1, f2, f3, f4, f5, f6, f7, d⟩ rfl) (dq_op tab rfl rfl rfl rfl (dn_op tab rfl rfl rfl rfl (ds_op tab rfl rfl rfl rfl (vd_nil (by kernel_rfl) ?_))))))))))))))))
    refine qth (wsq (wrg (vT rfl callable_67 (rpl_parts2 (f1 := 0) (f2 := 0) (f3 := 0) (f4 := 0) (f5 := 0) (f6 := 0) (f7 := 0) (d := if rplText 2 = true then d else ⟨#[]⟩) rfl (by decide)) ?_)))
    refine vQ tab rfl (vnl (qth (wsq (wsq (wrg (vQ tab rfl (vT rfl callable_67 (rpl_parts2 (f1 := f1) (f2 := f2) (f3 := f3) (f4 := f4) (f5 := f5) (f6 := f6) (f7 := f7) (d := d) rfl (by decide)) ?_)))))))
    refine vQ tab rfl (vQ tab rfl (vnl (qth (wbk (vw_rounds 4 (rd_step (wsq (wrg (vQ tab rfl (vnl (qth (wsq (vc_true rfl (vw_skip (qth (wsq (wbk (wsq (wrg (vQ tab rfl (vQ tab rfl (vQ tab rfl (vQ tab rfl ?_)))))))))))))))))))))))
    refine vQ tab rfl (vnl (qth (vw_draw mixed (dq_op tab rfl rfl rfl rfl (dq_op tab rfl rfl rfl rfl (dq_op tab rfl rfl rfl rfl (dq_op tab rfl rfl rfl rfl (dq_op tab rfl rfl rfl rfl (dq_op tab rfl rfl rfl rfl (dq_op tab rfl rfl rfl rfl (dq_op tab rfl rfl rfl rfl (ds_op tab rfl rfl rfl rfl (vd_nil (by kernel_rfl) ?_)))))))))))))
    refine q_norm (qth (wrg (vQ tab rfl (vQ tab rfl (vnl (qth (rd_step (wsq (wrg (vQ tab rfl (vnl (qth (wsq (vc_true rfl (vw_skip (qth (wsq (wbk (wsq (wrg (vQ tab rfl (vQ tab rfl (vQ tab rfl ?_)))))))))))))))))))))))
    refine vQ tab rfl (vQ tab rfl (vnl (qth (vw_draw mixed (dq_op tab rfl rfl rfl rfl (dq_op tab rfl rfl rfl rfl (dq_op tab rfl rfl rfl rfl (dq_op tab rfl rfl rfl rfl (dq_op tab rfl rfl rfl rfl (dq_op tab rfl rfl rfl rfl (dq_op tab rfl rfl rfl rfl (dq_op tab rfl rfl rfl rfl (ds_op tab rfl rfl rfl rfl (vd_nil (by kernel_rfl) ?_))))))))))))))
    refine q_norm (qth (wrg (vQ tab rfl (vQ tab rfl (vnl (qth (rd_step (wsq (wrg (vQ tab rfl (vnl (qth (wsq (vc_false rfl (vw_exit (q_thenx (q_thenx (q_here (qth (wsq (wrg (vQ tab rfl (vS tab rfl ?_)))))))))))))))))))))))
    refine vnl (qth (vw_ret ?_))
    exact ⟨⟨.inr rfl, rfl⟩, fun _ => rfl, trivial⟩
  · refine wsq (wrg (vN tab rfl (vnl (qth (wsq (vw_draw mixed (dq_op tab rfl rfl rfl rfl (dq_op tab rfl rfl rfl rfl (dq_op tab rfl rfl rfl rfl (dq_op tab rfl rfl rfl rfl (dq_op tab rfl rfl rfl rfl (dr_op rfl rfl rfl rfl rfl callable_95 (rpl_texts ⟨3, f1, f2, f3, f4, f5, f6, f7, d⟩ rfl) (dq_op tab rfl rfl rfl rfl (dn_op tab rfl rfl rfl rfl (ds_op tab rfl rfl rfl rfl (vd_nil (by kernel_rfl) ?_))))))))))))))))
    refine qth (wsq (wrg (vT rfl callable_67 (rpl_parts3 (f1 := 0) (f2 := 0) (f3 := 0) (f4 := 0) (f5 := 0) (f6 := 0) (f7 := 0) (d := if rplText 3 = true then d else ⟨#[]⟩) rfl (by decide)) ?_)))
    refine vQ tab rfl (vnl (qth (wsq (wsq (wrg (vQ tab rfl (vT rfl callable_67 (rpl_parts3 (f1 := f1) (f2 := f2) (f3 := f3) (f4 := f4) (f5 := f5) (f6 := f6) (f7 := f7) (d := d) rfl (by decide)) ?_)))))))
    refine vQ tab rfl (vQ tab rfl (vnl (qth (wbk (vw_rounds 4 (rd_step (wsq (wrg (vQ tab rfl (vnl (qth (wsq (vc_true rfl (vw_skip (qth (wsq (wbk (wsq (wrg (vQ tab rfl (vQ tab rfl (vQ tab rfl (vQ tab rfl ?_)))))))))))))))))))))))
    refine vQ tab rfl (vnl (qth (vw_draw mixed (dq_op tab rfl rfl rfl rfl (dq_op tab rfl rfl rfl rfl (dq_op tab rfl rfl rfl rfl (dq_op tab rfl rfl rfl rfl (dq_op tab rfl rfl rfl rfl (dq_op tab rfl rfl rfl rfl (dq_op tab rfl rfl rfl rfl (dq_op tab rfl rfl rfl rfl (ds_op tab rfl rfl rfl rfl (vd_nil (by kernel_rfl) ?_)))))))))))))
    refine q_norm (qth (wrg (vQ tab rfl (vQ tab rfl (vnl (qth (rd_step (wsq (wrg (vQ tab rfl (vnl (qth (wsq (vc_false rfl (vw_exit (q_thenx (q_thenx (q_here (qth (wsq (wrg (vQ tab rfl (vS tab rfl ?_)))))))))))))))))))))))
    refine vnl (qth (vw_ret ?_))
    exact ⟨⟨.inr rfl, rfl⟩, fun _ => rfl, trivial⟩
  · refine wsq (wrg (vN tab rfl (vnl (qth (wsq (vw_draw mixed (dq_op tab rfl rfl rfl rfl (dq_op tab rfl rfl rfl rfl (dq_op tab rfl rfl rfl rfl (dq_op tab rfl rfl rfl rfl (dq_op tab rfl rfl rfl rfl (dr_op rfl rfl rfl rfl rfl callable_95 (rpl_texts ⟨4, f1, f2, f3, f4, f5, f6, f7, d⟩ rfl) (dq_op tab rfl rfl rfl rfl (dn_op tab rfl rfl rfl rfl (ds_op tab rfl rfl rfl rfl (vd_nil (by kernel_rfl) ?_))))))))))))))))
    refine qth (wsq (wrg (vT rfl callable_67 (rpl_parts4 (f1 := 0) (f2 := 0) (f3 := 0) (f4 := 0) (f5 := 0) (f6 := 0) (f7 := 0) (d := if rplText 4 = true then d else ⟨#[]⟩) rfl (by decide)) ?_)))
    refine vQ tab rfl (vnl (qth (wsq (wsq (wrg (vQ tab rfl (vT rfl callable_67 (rpl_parts4 (f1 := f1) (f2 := f2) (f3 := f3) (f4 := f4) (f5 := f5) (f6 := f6) (f7 := f7) (d := d) rfl (by decide)) ?_)))))))
    refine vQ tab rfl (vQ tab rfl (vnl (qth (wbk (vw_rounds 4 (rd_step (wsq (wrg (vQ tab rfl (vnl (qth (wsq (vc_true rfl (vw_skip (qth (wsq (wbk (wsq (wrg (vQ tab rfl (vQ tab rfl (vQ tab rfl (vQ tab rfl ?_)))))))))))))))))))))))
    refine vQ tab rfl (vnl (qth (vw_draw mixed (dq_op tab rfl rfl rfl rfl (dq_op tab rfl rfl rfl rfl (dq_op tab rfl rfl rfl rfl (dq_op tab rfl rfl rfl rfl (dq_op tab rfl rfl rfl rfl (dq_op tab rfl rfl rfl rfl (dq_op tab rfl rfl rfl rfl (dq_op tab rfl rfl rfl rfl (ds_op tab rfl rfl rfl rfl (vd_nil (by kernel_rfl) ?_)))))))))))))
    refine q_norm (qth (wrg (vQ tab rfl (vQ tab rfl (vnl (qth (rd_step (wsq (wrg (vQ tab rfl (vnl (qth (wsq (vc_true rfl (vw_skip (qth (wsq (wbk (wsq (wrg (vQ tab rfl (vQ tab rfl (vQ tab rfl ?_)))))))))))))))))))))))
    refine vQ tab rfl (vQ tab rfl (vnl (qth (vw_draw mixed (dq_op tab rfl rfl rfl rfl (dq_op tab rfl rfl rfl rfl (dq_op tab rfl rfl rfl rfl (dq_op tab rfl rfl rfl rfl (dq_op tab rfl rfl rfl rfl (dq_op tab rfl rfl rfl rfl (dq_op tab rfl rfl rfl rfl (dq_op tab rfl rfl rfl rfl (ds_op tab rfl rfl rfl rfl (vd_nil (by kernel_rfl) ?_))))))))))))))
    refine q_norm (qth (wrg (vQ tab rfl (vQ tab rfl (vnl (qth (rd_step (wsq (wrg (vQ tab rfl (vnl (qth (wsq (vc_false rfl (vw_exit (q_thenx (q_thenx (q_here (qth (wsq (wrg (vQ tab rfl (vS tab rfl ?_)))))))))))))))))))))))
    refine vnl (qth (vw_ret ?_))
    exact ⟨⟨.inr rfl, rfl⟩, fun _ => rfl, trivial⟩
  · refine wsq (wrg (vN tab rfl (vnl (qth (wsq (vw_draw mixed (dq_op tab rfl rfl rfl rfl (dq_op tab rfl rfl rfl rfl (dq_op tab rfl rfl rfl rfl (dq_op tab rfl rfl rfl rfl (dq_op tab rfl rfl rfl rfl (dr_op rfl rfl rfl rfl rfl callable_95 (rpl_texts ⟨5, f1, f2, f3, f4, f5, f6, f7, d⟩ rfl) (dq_op tab rfl rfl rfl rfl (dn_op tab rfl rfl rfl rfl (ds_op tab rfl rfl rfl rfl (vd_nil (by kernel_rfl) ?_))))))))))))))))
    refine qth (wsq (wrg (vR rfl callable_67 (rpl_partsN (k := 5) (f1 := 0) (f2 := 0) (f3 := 0) (f4 := 0) (f5 := 0) (f6 := 0) (f7 := 0) (d := if rplText 5 = true then d else ⟨#[]⟩) rfl (by omega)) ?_)))
    refine vQ tab rfl (vnl (qth (wsq (wsq (wrg (vQ tab rfl (vR rfl callable_67 (rpl_partsN (k := 5) (f1 := f1) (f2 := f2) (f3 := f3) (f4 := f4) (f5 := f5) (f6 := f6) (f7 := f7) (d := d) rfl (by omega)) ?_)))))))
    refine vQ tab rfl (vQ tab rfl (vnl (qth (wbk (vw_rounds 4 (rd_step (wsq (wrg (vQ tab rfl (vnl (qth (wsq (vc_false rfl (vw_exit (q_thenx (q_thenx (q_here (qth (wsq (wrg (vQ tab rfl (vS tab rfl (vnl ?_)))))))))))))))))))))))
    refine qth (vw_ret ?_)
    exact ⟨⟨.inr rfl, rfl⟩, fun _ => rfl, trivial⟩
  · refine wsq (wrg (vN tab rfl (vnl (qth (wsq (vw_draw mixed (dq_op tab rfl rfl rfl rfl (dq_op tab rfl rfl rfl rfl (dq_op tab rfl rfl rfl rfl (dq_op tab rfl rfl rfl rfl (dq_op tab rfl rfl rfl rfl (dr_op rfl rfl rfl rfl rfl callable_95 (rpl_texts ⟨k, f1, f2, f3, f4, f5, f6, f7, d⟩ rfl) (dq_op tab rfl rfl rfl rfl (dn_op tab rfl rfl rfl rfl (ds_op tab rfl rfl rfl rfl (vd_nil (by kernel_rfl) ?_))))))))))))))))
    refine qth (wsq (wrg (vR rfl callable_67 (rpl_partsN (k := k) (f1 := 0) (f2 := 0) (f3 := 0) (f4 := 0) (f5 := 0) (f6 := 0) (f7 := 0) (d := if rplText k = true then d else ⟨#[]⟩) rfl (by omega)) ?_)))
    refine vQ tab rfl (vnl (qth (wsq (wsq (wrg (vQ tab rfl (vR rfl callable_67 (rpl_partsN (k := k) (f1 := f1) (f2 := f2) (f3 := f3) (f4 := f4) (f5 := f5) (f6 := f6) (f7 := f7) (d := d) rfl (by omega)) ?_)))))))
    refine vQ tab rfl (vQ tab rfl (vnl (qth (wbk (vw_rounds 4 (rd_step (wsq (wrg (vQ tab rfl (vnl (qth (wsq (vc_false rfl (vw_exit (q_thenx (q_thenx (q_here (qth (wsq (wrg (vQ tab rfl (vS tab rfl (vnl ?_)))))))))))))))))))))))
    refine qth (vw_ret ?_)
    have hp : rplPlain ⟨k, f1, f2, f3, f4, f5, f6, f7, d⟩ = ⟨k, 0, 0, 0, 0, 0, 0, 0, if rplText k = true then d else ⟨#[]⟩⟩ := by simp [rplPlain, rplMake, rplNums, hk]
    rw [hp]
    exact ⟨⟨.inr rfl, rfl⟩, fun _ => rfl, trivial⟩
set_option maxHeartbeats 16000000 in
theorem rpl_may (a : ReplyV) : Fun Try.prog 40 [rplV a] (.bool (rplMay a)) := by
  refine fun_of_vw tab Try.func40 rfl rfl (by simp [Try.f40]) (lrel_cons (rplRel a) lrel_nil) (.bool _) ?_
  obtain ⟨k, f1, f2, f3, f4, f5, f6, f7, d⟩ := a
  rcases (show k = 0 ∨ k = 1 ∨ k = 2 ∨ k = 3 ∨ k = 4 ∨ k = 5 ∨ (k ≠ 0 ∧ k ≠ 1 ∧ k ≠ 2 ∧ k ≠ 3 ∧ k ≠ 4 ∧ k ≠ 5) by omega) with rfl | rfl | rfl | rfl | rfl | rfl | hk
  · refine wsq (wrg (vN tab rfl (vQ tab rfl (vnl (qth (wsq (wrg (vQ tab rfl (vnl (qth (wsq (wsq (wrg (vQ tab rfl (vQ tab rfl (vnl (qth (wbk (wsq (wbk (wsq (wbk (wsq ?_)))))))))))))))))))))))
    refine wbk (wsq (wsq (wsq (wrg (vQ tab rfl (vQ tab rfl (vnl (qth (vc_false rfl (vw_skip (qth (wsq (wsq (wrg (vQ tab rfl (vQ tab rfl (vnl (qth (vc_false rfl (vw_skip (qth (wsq (wsq ?_)))))))))))))))))))))))
    refine wrg (vQ tab rfl (vQ tab rfl (vnl (qth (vc_true rfl (vw_skip (qth (vc_true rfl (vw_exit (q_thenx (q_out rfl (q_thenx (q_out rfl (q_thenx (q_here (qth (wsq (wsq (wsq (wrg (vT rfl callable_67 (rpl_parts0 (f1 := f1) (f2 := f2) (f3 := f3) (f4 := f4) (f5 := f5) (f6 := f6) (f7 := f7) (d := d) rfl (by decide)) ?_)))))))))))))))))))))
    refine vQ tab rfl (vQ tab rfl (vnl (qth (wbk (vw_rounds 4 (rd_step (wsq (wrg (vQ tab rfl (vnl (qth (wsq (vc_true rfl (vw_skip (qth (wsq (wbk (wsq (wrg (vQ tab rfl (vQ tab rfl (vQ tab rfl (vnl ?_)))))))))))))))))))))))
    refine qth (wsq (wrg (vQ tab rfl (vQ tab rfl (vQ tab rfl (vF rfl callable_65 (nummay_fun _) (vQ tab rfl (vnl (qth ?_)))))))))
    refine vc_part rfl (fun _ => ?_) (fun _ => ?_)
    refine wsq (wrg (vQ tab rfl (vnl (qth (vw_ret (q_ret (q_thenr (q_thenr (q_ret (q_thenr (q_thenr (q_ret (q_thenr ?_)))))))))))))
    rotate_left
    refine vw_skip (q_norm (qth (wrg (vQ tab rfl (vQ tab rfl (vnl (qth (rd_step (wsq (wrg (vQ tab rfl (vnl (qth (wsq (vc_true rfl (vw_skip (qth (wsq (wbk (wsq (wrg (vQ tab rfl (vQ tab rfl ?_)))))))))))))))))))))))
    refine vQ tab rfl (vnl (qth (wsq (wrg (vQ tab rfl (vQ tab rfl (vQ tab rfl (vF rfl callable_65 (nummay_fun _) (vQ tab rfl (vnl (qth ?_)))))))))))
    refine vc_part rfl (fun _ => ?_) (fun _ => ?_)
    refine wsq (wrg (vQ tab rfl (vnl (qth (vw_ret (q_ret (q_thenr (q_thenr (q_ret (q_thenr (q_thenr (q_ret (q_thenr ?_)))))))))))))
    rotate_left
    refine vw_skip (q_norm (qth (wrg (vQ tab rfl (vQ tab rfl (vnl (qth (rd_step (wsq (wrg (vQ tab rfl (vnl (qth (wsq (vc_false rfl (vw_exit (q_thenx (q_thenx (q_here (qth (wsq (vw_draw mixed (dq_op tab rfl rfl rfl rfl ?_)))))))))))))))))))))))
    refine dq_op tab rfl rfl rfl rfl (dq_op tab rfl rfl rfl rfl (dq_op tab rfl rfl rfl rfl ?_))
    refine dg_op rfl rfl rfl (fun _ => ?_) (fun _ => ?_)
    refine dq_op tab ⟨_, _, rfl, rfl, rfl⟩ rfl rfl rfl (dq_op tab ⟨_, _, rfl, rfl, rfl⟩ rfl rfl rfl (dq_op tab ⟨_, _, rfl, rfl, rfl⟩ rfl rfl rfl (dq_op tab rfl rfl rfl rfl (dq_op tab rfl rfl rfl rfl ?_))))
    refine dg_op rfl rfl rfl (fun _ => ?_) (fun _ => ?_)
    refine dq_op tab ⟨_, _, rfl, rfl, rfl⟩ rfl rfl rfl (dq_op tab ⟨_, _, rfl, rfl, rfl⟩ rfl rfl rfl (dq_op tab ⟨_, _, rfl, rfl, rfl⟩ rfl rfl rfl (dq_op tab ⟨_, _, rfl, rfl, rfl⟩ rfl rfl rfl (dq_op tab rfl rfl rfl rfl (dq_op tab rfl rfl rfl rfl ?_)))))
    refine dg_op rfl rfl rfl (fun _ => ?_) (fun _ => ?_)
    refine dq_op tab ⟨_, _, rfl, rfl, rfl⟩ rfl rfl rfl (dr_op ⟨_, _, rfl, rfl, rfl⟩ rfl rfl rfl rfl callable_68 (rpl_plain ⟨0, f1, f2, f3, f4, f5, f6, f7, d⟩ rfl) (dq_op tab ⟨_, _, rfl, rfl, rfl⟩ rfl (ev_eql rfl rfl rfl (rpl_eq ⟨0, f1, f2, f3, f4, f5, f6, f7, d⟩ (rplPlain ⟨0, f1, f2, f3, f4, f5, f6, f7, d⟩))) (ev_eql rfl rfl rfl (rpl_eq ⟨0, f1, f2, f3, f4, f5, f6, f7, d⟩ (rplPlain ⟨0, f1, f2, f3, f4, f5, f6, f7, d⟩))) (dq_op tab rfl rfl rfl rfl (dq_op tab rfl rfl rfl rfl (vd_nil (by kernel_rfl) ?_)))))
    refine qth (vw_ret (q_thenr (q_ret (q_thenr ?_))))
    rotate_left
    refine dk_op ⟨_, _, rfl, rfl, rfl⟩ rfl (dk_op ⟨_, _, rfl, rfl, rfl⟩ rfl (dk_op ⟨_, _, rfl, rfl, rfl⟩ rfl (dq_op tab rfl rfl rfl rfl (dq_op tab rfl rfl rfl rfl (vd_nil (by kernel_rfl) ?_)))))
    refine qth (vw_ret (q_thenr (q_ret (q_thenr ?_))))
    rotate_left
    refine dk_op ⟨_, _, rfl, rfl, rfl⟩ rfl (dk_op ⟨_, _, rfl, rfl, rfl⟩ rfl (dk_op ⟨_, _, rfl, rfl, rfl⟩ rfl (dk_op ⟨_, _, rfl, rfl, rfl⟩ rfl (dq_op tab rfl rfl rfl rfl (dq_op tab rfl rfl rfl rfl (dk_op ⟨_, _, rfl, rfl, rfl⟩ rfl (dk_op ⟨_, _, rfl, rfl, rfl⟩ rfl (dk_op ⟨_, _, rfl, rfl, rfl⟩ rfl (dq_op tab rfl rfl rfl rfl (dq_op tab rfl rfl rfl rfl (vd_nil (by kernel_rfl) ?_)))))))))))
    refine qth (vw_ret (q_thenr (q_ret (q_thenr ?_))))
    rotate_left
    refine dk_op ⟨_, _, rfl, rfl, rfl⟩ rfl (dk_op ⟨_, _, rfl, rfl, rfl⟩ rfl (dk_op ⟨_, _, rfl, rfl, rfl⟩ rfl (dq_op tab rfl rfl rfl rfl (dq_op tab rfl rfl rfl rfl (dk_op ⟨_, _, rfl, rfl, rfl⟩ rfl (dk_op ⟨_, _, rfl, rfl, rfl⟩ rfl (dk_op ⟨_, _, rfl, rfl, rfl⟩ rfl (dk_op ⟨_, _, rfl, rfl, rfl⟩ rfl (dq_op tab rfl rfl rfl rfl (dq_op tab rfl rfl rfl rfl (dk_op ⟨_, _, rfl, rfl, rfl⟩ rfl (dk_op ⟨_, _, rfl, rfl, rfl⟩ rfl (dk_op ⟨_, _, rfl, rfl, rfl⟩ rfl (dq_op tab rfl rfl rfl rfl (dq_op tab rfl rfl rfl rfl (vd_nil (by kernel_rfl) ?_))))))))))))))))
    refine qth (vw_ret (q_thenr (q_ret (q_thenr ?_))))
    rotate_left
    all_goals exact ⟨.inr rfl, Eq.trans (b := some (.bool _)) rfl (congrArg (fun b => some (Value.bool b)) (by simp_all [rplMay, rplNums] <;> (intros; omega)))⟩
  · refine wsq (wrg (vN tab rfl (vQ tab rfl (vnl (qth (wsq (wrg (vQ tab rfl (vnl (qth (wsq (wsq (wrg (vQ tab rfl (vQ tab rfl (vnl (qth (wbk (wsq (wbk (wsq (wbk (wsq ?_)))))))))))))))))))))))
    refine wbk (wsq (wsq (wsq (wrg (vQ tab rfl (vQ tab rfl (vnl (qth (vc_false rfl (vw_skip (qth (wsq (wsq (wrg (vQ tab rfl (vQ tab rfl (vnl (qth (vc_false rfl (vw_skip (qth (wsq (wsq ?_)))))))))))))))))))))))
    refine wrg (vQ tab rfl (vQ tab rfl (vnl (qth (vc_false rfl (wsq (wrg (vQ tab rfl (vQ tab rfl (vnl (qth (vc_true rfl (vw_skip (qth (vc_true rfl (vw_exit (q_thenx (q_out rfl (q_thenx (q_out rfl (q_thenx (q_here (qth ?_)))))))))))))))))))))))
    refine wsq (wsq (wsq (wrg (vT rfl callable_67 (rpl_parts1 (f1 := f1) (f2 := f2) (f3 := f3) (f4 := f4) (f5 := f5) (f6 := f6) (f7 := f7) (d := d) rfl (by decide)) ?_))))
    refine vQ tab rfl (vQ tab rfl (vnl (qth (wbk (vw_rounds 4 (rd_step (wsq (wrg (vQ tab rfl (vnl (qth (wsq (vc_true rfl (vw_skip (qth (wsq (wbk (wsq (wrg (vQ tab rfl (vQ tab rfl (vQ tab rfl (vnl ?_)))))))))))))))))))))))
    refine qth (wsq (wrg (vQ tab rfl (vQ tab rfl (vQ tab rfl (vF rfl callable_65 (nummay_fun _) (vQ tab rfl (vnl (qth ?_)))))))))
    refine vc_part rfl (fun _ => ?_) (fun _ => ?_)
    refine wsq (wrg (vQ tab rfl (vnl (qth (vw_ret (q_ret (q_thenr (q_thenr (q_ret (q_thenr (q_thenr (q_ret (q_thenr ?_)))))))))))))
    rotate_left
    refine vw_skip (q_norm (qth (wrg (vQ tab rfl (vQ tab rfl (vnl (qth (rd_step (wsq (wrg (vQ tab rfl (vnl (qth (wsq (vc_true rfl (vw_skip (qth (wsq (wbk (wsq (wrg (vQ tab rfl (vQ tab rfl ?_)))))))))))))))))))))))
    refine vQ tab rfl (vnl (qth (wsq (wrg (vQ tab rfl (vQ tab rfl (vQ tab rfl (vF rfl callable_65 (nummay_fun _) (vQ tab rfl (vnl (qth ?_)))))))))))
    refine vc_part rfl (fun _ => ?_) (fun _ => ?_)
    refine wsq (wrg (vQ tab rfl (vnl (qth (vw_ret (q_ret (q_thenr (q_thenr (q_ret (q_thenr (q_thenr (q_ret (q_thenr ?_)))))))))))))
    rotate_left
    refine vw_skip (q_norm (qth (wrg (vQ tab rfl (vQ tab rfl (vnl (qth (rd_step (wsq (wrg (vQ tab rfl (vnl (qth (wsq (vc_true rfl (vw_skip (qth (wsq (wbk (wsq (wrg (vQ tab rfl (vQ tab rfl ?_)))))))))))))))))))))))
    refine vQ tab rfl (vnl (qth (wsq (wrg (vQ tab rfl (vQ tab rfl (vQ tab rfl (vF rfl callable_65 (nummay_fun _) (vQ tab rfl (vnl (qth ?_)))))))))))
    refine vc_part rfl (fun _ => ?_) (fun _ => ?_)
    refine wsq (wrg (vQ tab rfl (vnl (qth (vw_ret (q_ret (q_thenr (q_thenr (q_ret (q_thenr (q_thenr (q_ret (q_thenr ?_)))))))))))))
    rotate_left
    refine vw_skip (q_norm (qth (wrg (vQ tab rfl (vQ tab rfl (vnl (qth (rd_step (wsq (wrg (vQ tab rfl (vnl (qth (wsq (vc_false rfl (vw_exit (q_thenx (q_thenx (q_here (qth (wsq (vw_draw mixed (dq_op tab rfl rfl rfl rfl ?_)))))))))))))))))))))))
    refine dq_op tab rfl rfl rfl rfl (dq_op tab rfl rfl rfl rfl (dq_op tab rfl rfl rfl rfl ?_))
    refine dg_op rfl rfl rfl (fun _ => ?_) (fun _ => ?_)
    refine dq_op tab ⟨_, _, rfl, rfl, rfl⟩ rfl rfl rfl (dq_op tab ⟨_, _, rfl, rfl, rfl⟩ rfl rfl rfl (dq_op tab ⟨_, _, rfl, rfl, rfl⟩ rfl rfl rfl (dq_op tab rfl rfl rfl rfl (dq_op tab rfl rfl rfl rfl ?_))))
    refine dg_op rfl rfl rfl (fun _ => ?_) (fun _ => ?_)
    refine dq_op tab ⟨_, _, rfl, rfl, rfl⟩ rfl rfl rfl (dq_op tab ⟨_, _, rfl, rfl, rfl⟩ rfl rfl rfl (dq_op tab ⟨_, _, rfl, rfl, rfl⟩ rfl rfl rfl (dq_op tab ⟨_, _, rfl, rfl, rfl⟩ rfl rfl rfl (dq_op tab rfl rfl rfl rfl (dq_op tab rfl rfl rfl rfl ?_)))))
    refine dg_op rfl rfl rfl (fun _ => ?_) (fun _ => ?_)
    refine dq_op tab ⟨_, _, rfl, rfl, rfl⟩ rfl rfl rfl (dr_op ⟨_, _, rfl, rfl, rfl⟩ rfl rfl rfl rfl callable_68 (rpl_plain ⟨1, f1, f2, f3, f4, f5, f6, f7, d⟩ rfl) (dq_op tab ⟨_, _, rfl, rfl, rfl⟩ rfl (ev_eql rfl rfl rfl (rpl_eq ⟨1, f1, f2, f3, f4, f5, f6, f7, d⟩ (rplPlain ⟨1, f1, f2, f3, f4, f5, f6, f7, d⟩))) (ev_eql rfl rfl rfl (rpl_eq ⟨1, f1, f2, f3, f4, f5, f6, f7, d⟩ (rplPlain ⟨1, f1, f2, f3, f4, f5, f6, f7, d⟩))) (dq_op tab rfl rfl rfl rfl (dq_op tab rfl rfl rfl rfl (vd_nil (by kernel_rfl) ?_)))))
    refine qth (vw_ret (q_thenr (q_ret (q_thenr ?_))))
    rotate_left
    refine dk_op ⟨_, _, rfl, rfl, rfl⟩ rfl (dk_op ⟨_, _, rfl, rfl, rfl⟩ rfl (dk_op ⟨_, _, rfl, rfl, rfl⟩ rfl (dq_op tab rfl rfl rfl rfl (dq_op tab rfl rfl rfl rfl (vd_nil (by kernel_rfl) ?_)))))
    refine qth (vw_ret (q_thenr (q_ret (q_thenr ?_))))
    rotate_left
    refine dk_op ⟨_, _, rfl, rfl, rfl⟩ rfl (dk_op ⟨_, _, rfl, rfl, rfl⟩ rfl (dk_op ⟨_, _, rfl, rfl, rfl⟩ rfl (dk_op ⟨_, _, rfl, rfl, rfl⟩ rfl (dq_op tab rfl rfl rfl rfl (dq_op tab rfl rfl rfl rfl (dk_op ⟨_, _, rfl, rfl, rfl⟩ rfl (dk_op ⟨_, _, rfl, rfl, rfl⟩ rfl (dk_op ⟨_, _, rfl, rfl, rfl⟩ rfl (dq_op tab rfl rfl rfl rfl (dq_op tab rfl rfl rfl rfl (vd_nil (by kernel_rfl) ?_)))))))))))
    refine qth (vw_ret (q_thenr (q_ret (q_thenr ?_))))
    rotate_left
    refine dk_op ⟨_, _, rfl, rfl, rfl⟩ rfl (dk_op ⟨_, _, rfl, rfl, rfl⟩ rfl (dk_op ⟨_, _, rfl, rfl, rfl⟩ rfl (dq_op tab rfl rfl rfl rfl (dq_op tab rfl rfl rfl rfl (dk_op ⟨_, _, rfl, rfl, rfl⟩ rfl (dk_op ⟨_, _, rfl, rfl, rfl⟩ rfl (dk_op ⟨_, _, rfl, rfl, rfl⟩ rfl (dk_op ⟨_, _, rfl, rfl, rfl⟩ rfl (dq_op tab rfl rfl rfl rfl (dq_op tab rfl rfl rfl rfl (dk_op ⟨_, _, rfl, rfl, rfl⟩ rfl (dk_op ⟨_, _, rfl, rfl, rfl⟩ rfl (dk_op ⟨_, _, rfl, rfl, rfl⟩ rfl (dq_op tab rfl rfl rfl rfl (dq_op tab rfl rfl rfl rfl (vd_nil (by kernel_rfl) ?_))))))))))))))))
    refine qth (vw_ret (q_thenr (q_ret (q_thenr ?_))))
    rotate_left
    all_goals exact ⟨.inr rfl, Eq.trans (b := some (.bool _)) rfl (congrArg (fun b => some (Value.bool b)) (by simp_all [rplMay, rplNums] <;> (intros; omega)))⟩
  · refine wsq (wrg (vN tab rfl (vQ tab rfl (vnl (qth (wsq (wrg (vQ tab rfl (vnl (qth (wsq (wsq (wrg (vQ tab rfl (vQ tab rfl (vnl (qth (wbk (wsq (wbk (wsq (wbk (wsq ?_)))))))))))))))))))))))
    refine wbk (wsq (wsq (wsq (wrg (vQ tab rfl (vQ tab rfl (vnl (qth (vc_false rfl (vw_skip (qth (wsq (wsq (wrg (vQ tab rfl (vQ tab rfl (vnl (qth (vc_false rfl (vw_skip (qth (wsq (wsq ?_)))))))))))))))))))))))
    refine wrg (vQ tab rfl (vQ tab rfl (vnl (qth (vc_false rfl (wsq (wrg (vQ tab rfl (vQ tab rfl (vnl (qth (vc_false rfl (wsq (wrg (vQ tab rfl (vQ tab rfl (vnl (qth (vc_true rfl (vw_skip (qth (vc_true rfl (vw_exit ?_)))))))))))))))))))))))
    refine q_thenx (q_out rfl (q_thenx (q_out rfl (q_thenx (q_here (qth (wsq (wsq (wsq (wrg (vT rfl callable_67 (rpl_parts2 (f1 := f1) (f2 := f2) (f3 := f3) (f4 := f4) (f5 := f5) (f6 := f6) (f7 := f7) (d := d) rfl (by decide)) ?_)))))))))))
    refine vQ tab rfl (vQ tab rfl (vnl (qth (wbk (vw_rounds 4 (rd_step (wsq (wrg (vQ tab rfl (vnl (qth (wsq (vc_true rfl (vw_skip (qth (wsq (wbk (wsq (wrg (vQ tab rfl (vQ tab rfl (vQ tab rfl (vnl ?_)))))))))))))))))))))))
    refine qth (wsq (wrg (vQ tab rfl (vQ tab rfl (vQ tab rfl (vF rfl callable_65 (nummay_fun _) (vQ tab rfl (vnl (qth ?_)))))))))
    refine vc_part rfl (fun _ => ?_) (fun _ => ?_)
    refine wsq (wrg (vQ tab rfl (vnl (qth (vw_ret (q_ret (q_thenr (q_thenr (q_ret (q_thenr (q_thenr (q_ret (q_thenr ?_)))))))))))))
    rotate_left
    refine vw_skip (q_norm (qth (wrg (vQ tab rfl (vQ tab rfl (vnl (qth (rd_step (wsq (wrg (vQ tab rfl (vnl (qth (wsq (vc_true rfl (vw_skip (qth (wsq (wbk (wsq (wrg (vQ tab rfl (vQ tab rfl ?_)))))))))))))))))))))))
    refine vQ tab rfl (vnl (qth (wsq (wrg (vQ tab rfl (vQ tab rfl (vQ tab rfl (vF rfl callable_65 (nummay_fun _) (vQ tab rfl (vnl (qth ?_)))))))))))
    refine vc_part rfl (fun _ => ?_) (fun _ => ?_)
    refine wsq (wrg (vQ tab rfl (vnl (qth (vw_ret (q_ret (q_thenr (q_thenr (q_ret (q_thenr (q_thenr (q_ret (q_thenr ?_)))))))))))))
    rotate_left
    refine vw_skip (q_norm (qth (wrg (vQ tab rfl (vQ tab rfl (vnl (qth (rd_step (wsq (wrg (vQ tab rfl (vnl (qth (wsq (vc_false rfl (vw_exit (q_thenx (q_thenx (q_here (qth (wsq (vw_draw mixed (dq_op tab rfl rfl rfl rfl ?_)))))))))))))))))))))))
    refine dq_op tab rfl rfl rfl rfl (dq_op tab rfl rfl rfl rfl (dq_op tab rfl rfl rfl rfl ?_))
    refine dg_op rfl rfl rfl (fun _ => ?_) (fun _ => ?_)
    refine dq_op tab ⟨_, _, rfl, rfl, rfl⟩ rfl rfl rfl (dq_op tab ⟨_, _, rfl, rfl, rfl⟩ rfl rfl rfl (dq_op tab ⟨_, _, rfl, rfl, rfl⟩ rfl rfl rfl (dq_op tab rfl rfl rfl rfl (dq_op tab rfl rfl rfl rfl ?_))))
    refine dg_op rfl rfl rfl (fun _ => ?_) (fun _ => ?_)
    refine dq_op tab ⟨_, _, rfl, rfl, rfl⟩ rfl rfl rfl (dq_op tab ⟨_, _, rfl, rfl, rfl⟩ rfl rfl rfl (dq_op tab ⟨_, _, rfl, rfl, rfl⟩ rfl rfl rfl (dq_op tab ⟨_, _, rfl, rfl, rfl⟩ rfl rfl rfl (dq_op tab rfl rfl rfl rfl (dq_op tab rfl rfl rfl rfl ?_)))))
    refine dg_op rfl rfl rfl (fun _ => ?_) (fun _ => ?_)
    refine dq_op tab ⟨_, _, rfl, rfl, rfl⟩ rfl rfl rfl (dr_op ⟨_, _, rfl, rfl, rfl⟩ rfl rfl rfl rfl callable_68 (rpl_plain ⟨2, f1, f2, f3, f4, f5, f6, f7, d⟩ rfl) (dq_op tab ⟨_, _, rfl, rfl, rfl⟩ rfl (ev_eql rfl rfl rfl (rpl_eq ⟨2, f1, f2, f3, f4, f5, f6, f7, d⟩ (rplPlain ⟨2, f1, f2, f3, f4, f5, f6, f7, d⟩))) (ev_eql rfl rfl rfl (rpl_eq ⟨2, f1, f2, f3, f4, f5, f6, f7, d⟩ (rplPlain ⟨2, f1, f2, f3, f4, f5, f6, f7, d⟩))) (dq_op tab rfl rfl rfl rfl (dq_op tab rfl rfl rfl rfl (vd_nil (by kernel_rfl) ?_)))))
    refine qth (vw_ret (q_thenr (q_ret (q_thenr ?_))))
    rotate_left
    refine dk_op ⟨_, _, rfl, rfl, rfl⟩ rfl (dk_op ⟨_, _, rfl, rfl, rfl⟩ rfl (dk_op ⟨_, _, rfl, rfl, rfl⟩ rfl (dq_op tab rfl rfl rfl rfl (dq_op tab rfl rfl rfl rfl (vd_nil (by kernel_rfl) ?_)))))
    refine qth (vw_ret (q_thenr (q_ret (q_thenr ?_))))
    rotate_left
    refine dk_op ⟨_, _, rfl, rfl, rfl⟩ rfl (dk_op ⟨_, _, rfl, rfl, rfl⟩ rfl (dk_op ⟨_, _, rfl, rfl, rfl⟩ rfl (dk_op ⟨_, _, rfl, rfl, rfl⟩ rfl (dq_op tab rfl rfl rfl rfl (dq_op tab rfl rfl rfl rfl (dk_op ⟨_, _, rfl, rfl, rfl⟩ rfl (dk_op ⟨_, _, rfl, rfl, rfl⟩ rfl (dk_op ⟨_, _, rfl, rfl, rfl⟩ rfl (dq_op tab rfl rfl rfl rfl (dq_op tab rfl rfl rfl rfl (vd_nil (by kernel_rfl) ?_)))))))))))
    refine qth (vw_ret (q_thenr (q_ret (q_thenr ?_))))
    rotate_left
    refine dk_op ⟨_, _, rfl, rfl, rfl⟩ rfl (dk_op ⟨_, _, rfl, rfl, rfl⟩ rfl (dk_op ⟨_, _, rfl, rfl, rfl⟩ rfl (dq_op tab rfl rfl rfl rfl (dq_op tab rfl rfl rfl rfl (dk_op ⟨_, _, rfl, rfl, rfl⟩ rfl (dk_op ⟨_, _, rfl, rfl, rfl⟩ rfl (dk_op ⟨_, _, rfl, rfl, rfl⟩ rfl (dk_op ⟨_, _, rfl, rfl, rfl⟩ rfl (dq_op tab rfl rfl rfl rfl (dq_op tab rfl rfl rfl rfl (dk_op ⟨_, _, rfl, rfl, rfl⟩ rfl (dk_op ⟨_, _, rfl, rfl, rfl⟩ rfl (dk_op ⟨_, _, rfl, rfl, rfl⟩ rfl (dq_op tab rfl rfl rfl rfl (dq_op tab rfl rfl rfl rfl (vd_nil (by kernel_rfl) ?_))))))))))))))))
    refine qth (vw_ret (q_thenr (q_ret (q_thenr ?_))))
    rotate_left
    all_goals exact ⟨.inr rfl, Eq.trans (b := some (.bool _)) rfl (congrArg (fun b => some (Value.bool b)) (by simp_all [rplMay, rplNums] <;> (intros; omega)))⟩
  · refine wsq (wrg (vN tab rfl (vQ tab rfl (vnl (qth (wsq (wrg (vQ tab rfl (vnl (qth (wsq (wsq (wrg (vQ tab rfl (vQ tab rfl (vnl (qth (wbk (wsq (wbk (wsq (wbk (wsq ?_)))))))))))))))))))))))
    refine wbk (wsq (wsq (wsq (wrg (vQ tab rfl (vQ tab rfl (vnl (qth (vc_false rfl (vw_skip (qth (wsq (wsq (wrg (vQ tab rfl (vQ tab rfl (vnl (qth (vc_true rfl (vw_exit (q_thenx (q_thenx (q_out rfl ?_)))))))))))))))))))))))
    refine q_thenx (q_here (qth (wsq (wrg (vQ tab rfl (vQ tab rfl (vQ tab rfl (vQ tab rfl (vnl (qth ?_))))))))))
    refine vc_part rfl (fun _ => ?_) (fun _ => ?_)
    refine wsq (wrg (vQ tab rfl (vnl (qth (vw_ret (q_ret (q_thenr (q_ret (q_thenr ?_)))))))))
    rotate_left
    refine vw_skip (q_norm (qth (wsq (wsq (wsq (wrg (vT rfl callable_67 (rpl_parts3 (f1 := f1) (f2 := f2) (f3 := f3) (f4 := f4) (f5 := f5) (f6 := f6) (f7 := f7) (d := d) rfl (by decide)) ?_)))))))
    refine vQ tab rfl (vQ tab rfl (vnl (qth (wbk (vw_rounds 4 (rd_step (wsq (wrg (vQ tab rfl (vnl (qth (wsq (vc_true rfl (vw_skip (qth (wsq (wbk (wsq (wrg (vQ tab rfl (vQ tab rfl (vQ tab rfl (vnl ?_)))))))))))))))))))))))
    refine qth (wsq (wrg (vQ tab rfl (vQ tab rfl (vQ tab rfl (vF rfl callable_65 (nummay_fun _) (vQ tab rfl (vnl (qth ?_)))))))))
    refine vc_part rfl (fun _ => ?_) (fun _ => ?_)
    refine wsq (wrg (vQ tab rfl (vnl (qth (vw_ret (q_ret (q_thenr (q_thenr (q_ret (q_thenr (q_thenr (q_ret (q_thenr ?_)))))))))))))
    rotate_left
    refine vw_skip (q_norm (qth (wrg (vQ tab rfl (vQ tab rfl (vnl (qth (rd_step (wsq (wrg (vQ tab rfl (vnl (qth (wsq (vc_false rfl (vw_exit (q_thenx (q_thenx (q_here (qth (wsq (vw_draw mixed (dq_op tab rfl rfl rfl rfl ?_)))))))))))))))))))))))
    refine dq_op tab rfl rfl rfl rfl (dq_op tab rfl rfl rfl rfl (dq_op tab rfl rfl rfl rfl ?_))
    refine dg_op rfl rfl rfl (fun _ => ?_) (fun _ => ?_)
    refine dq_op tab ⟨_, _, rfl, rfl, rfl⟩ rfl rfl rfl (dq_op tab ⟨_, _, rfl, rfl, rfl⟩ rfl rfl rfl (dq_op tab ⟨_, _, rfl, rfl, rfl⟩ rfl rfl rfl (dq_op tab rfl rfl rfl rfl (dq_op tab rfl rfl rfl rfl ?_))))
    refine dg_op rfl rfl rfl (fun _ => ?_) (fun _ => ?_)
    refine dq_op tab ⟨_, _, rfl, rfl, rfl⟩ rfl rfl rfl (dq_op tab ⟨_, _, rfl, rfl, rfl⟩ rfl rfl rfl (dq_op tab ⟨_, _, rfl, rfl, rfl⟩ rfl rfl rfl (dq_op tab ⟨_, _, rfl, rfl, rfl⟩ rfl rfl rfl (dq_op tab rfl rfl rfl rfl (dq_op tab rfl rfl rfl rfl ?_)))))
    refine dg_op rfl rfl rfl (fun _ => ?_) (fun _ => ?_)
    refine dq_op tab ⟨_, _, rfl, rfl, rfl⟩ rfl rfl rfl (dr_op ⟨_, _, rfl, rfl, rfl⟩ rfl rfl rfl rfl callable_68 (rpl_plain ⟨3, f1, f2, f3, f4, f5, f6, f7, d⟩ rfl) (dq_op tab ⟨_, _, rfl, rfl, rfl⟩ rfl (ev_eql rfl rfl rfl (rpl_eq ⟨3, f1, f2, f3, f4, f5, f6, f7, d⟩ (rplPlain ⟨3, f1, f2, f3, f4, f5, f6, f7, d⟩))) (ev_eql rfl rfl rfl (rpl_eq ⟨3, f1, f2, f3, f4, f5, f6, f7, d⟩ (rplPlain ⟨3, f1, f2, f3, f4, f5, f6, f7, d⟩))) (dq_op tab rfl rfl rfl rfl (dq_op tab rfl rfl rfl rfl (vd_nil (by kernel_rfl) ?_)))))
    refine qth (vw_ret (q_thenr (q_ret (q_thenr ?_))))
    rotate_left
    refine dk_op ⟨_, _, rfl, rfl, rfl⟩ rfl (dk_op ⟨_, _, rfl, rfl, rfl⟩ rfl (dk_op ⟨_, _, rfl, rfl, rfl⟩ rfl (dq_op tab rfl rfl rfl rfl (dq_op tab rfl rfl rfl rfl (vd_nil (by kernel_rfl) ?_)))))
    refine qth (vw_ret (q_thenr (q_ret (q_thenr ?_))))
    rotate_left
    refine dk_op ⟨_, _, rfl, rfl, rfl⟩ rfl (dk_op ⟨_, _, rfl, rfl, rfl⟩ rfl (dk_op ⟨_, _, rfl, rfl, rfl⟩ rfl (dk_op ⟨_, _, rfl, rfl, rfl⟩ rfl (dq_op tab rfl rfl rfl rfl (dq_op tab rfl rfl rfl rfl (dk_op ⟨_, _, rfl, rfl, rfl⟩ rfl (dk_op ⟨_, _, rfl, rfl, rfl⟩ rfl (dk_op ⟨_, _, rfl, rfl, rfl⟩ rfl (dq_op tab rfl rfl rfl rfl (dq_op tab rfl rfl rfl rfl (vd_nil (by kernel_rfl) ?_)))))))))))
    refine qth (vw_ret (q_thenr (q_ret (q_thenr ?_))))
    rotate_left
    refine dk_op ⟨_, _, rfl, rfl, rfl⟩ rfl (dk_op ⟨_, _, rfl, rfl, rfl⟩ rfl (dk_op ⟨_, _, rfl, rfl, rfl⟩ rfl (dq_op tab rfl rfl rfl rfl (dq_op tab rfl rfl rfl rfl (dk_op ⟨_, _, rfl, rfl, rfl⟩ rfl (dk_op ⟨_, _, rfl, rfl, rfl⟩ rfl (dk_op ⟨_, _, rfl, rfl, rfl⟩ rfl (dk_op ⟨_, _, rfl, rfl, rfl⟩ rfl (dq_op tab rfl rfl rfl rfl (dq_op tab rfl rfl rfl rfl (dk_op ⟨_, _, rfl, rfl, rfl⟩ rfl (dk_op ⟨_, _, rfl, rfl, rfl⟩ rfl (dk_op ⟨_, _, rfl, rfl, rfl⟩ rfl (dq_op tab rfl rfl rfl rfl (dq_op tab rfl rfl rfl rfl (vd_nil (by kernel_rfl) ?_))))))))))))))))
    refine qth (vw_ret (q_thenr (q_ret (q_thenr ?_))))
    rotate_left
    all_goals exact ⟨.inr rfl, Eq.trans (b := some (.bool _)) rfl (congrArg (fun b => some (Value.bool b)) (by simp_all [rplMay, rplNums] <;> (intros; omega)))⟩
  · refine wsq (wrg (vN tab rfl (vQ tab rfl (vnl (qth (wsq (wrg (vQ tab rfl (vnl (qth (wsq (wsq (wrg (vQ tab rfl (vQ tab rfl (vnl (qth (wbk (wsq (wbk (wsq (wbk (wsq ?_)))))))))))))))))))))))
    refine wbk (wsq (wsq (wsq (wrg (vQ tab rfl (vQ tab rfl (vnl (qth (vc_true rfl (vw_exit (q_thenx (q_thenx (q_here (qth (wrg (vQ tab rfl (vnl (q_norm (qth (wsq (wrg (vQ tab rfl (vQ tab rfl ?_)))))))))))))))))))))))
    refine vQ tab rfl (vQ tab rfl (vnl (qth ?_)))
    refine vc_part rfl (fun _ => ?_) (fun _ => ?_)
    refine wsq (wrg (vQ tab rfl (vnl (qth (vw_ret (q_ret (q_thenr (q_ret (q_thenr ?_)))))))))
    rotate_left
    refine vw_skip (q_norm (qth (wsq (wsq (wsq (wrg (vT rfl callable_67 (rpl_parts4 (f1 := f1) (f2 := f2) (f3 := f3) (f4 := f4) (f5 := f5) (f6 := f6) (f7 := f7) (d := d) rfl (by decide)) ?_)))))))
    refine vQ tab rfl (vQ tab rfl (vnl (qth (wbk (vw_rounds 4 (rd_step (wsq (wrg (vQ tab rfl (vnl (qth (wsq (vc_true rfl (vw_skip (qth (wsq (wbk (wsq (wrg (vQ tab rfl (vQ tab rfl (vQ tab rfl (vnl ?_)))))))))))))))))))))))
    refine qth (wsq (wrg (vQ tab rfl (vQ tab rfl (vQ tab rfl (vF rfl callable_65 (nummay_fun _) (vQ tab rfl (vnl (qth ?_)))))))))
    refine vc_part rfl (fun _ => ?_) (fun _ => ?_)
    refine wsq (wrg (vQ tab rfl (vnl (qth (vw_ret (q_ret (q_thenr (q_thenr (q_ret (q_thenr (q_thenr (q_ret (q_thenr ?_)))))))))))))
    rotate_left
    refine vw_skip (q_norm (qth (wrg (vQ tab rfl (vQ tab rfl (vnl (qth (rd_step (wsq (wrg (vQ tab rfl (vnl (qth (wsq (vc_true rfl (vw_skip (qth (wsq (wbk (wsq (wrg (vQ tab rfl (vQ tab rfl ?_)))))))))))))))))))))))
    refine vQ tab rfl (vnl (qth (wsq (wrg (vQ tab rfl (vQ tab rfl (vQ tab rfl (vF rfl callable_65 (nummay_fun _) (vQ tab rfl (vnl (qth ?_)))))))))))
    refine vc_part rfl (fun _ => ?_) (fun _ => ?_)
    refine wsq (wrg (vQ tab rfl (vnl (qth (vw_ret (q_ret (q_thenr (q_thenr (q_ret (q_thenr (q_thenr (q_ret (q_thenr ?_)))))))))))))
    rotate_left
    refine vw_skip (q_norm (qth (wrg (vQ tab rfl (vQ tab rfl (vnl (qth (rd_step (wsq (wrg (vQ tab rfl (vnl (qth (wsq (vc_false rfl (vw_exit (q_thenx (q_thenx (q_here (qth (wsq (vw_draw mixed (dq_op tab rfl rfl rfl rfl ?_)))))))))))))))))))))))
    refine dq_op tab rfl rfl rfl rfl (dq_op tab rfl rfl rfl rfl (dq_op tab rfl rfl rfl rfl ?_))
    refine dg_op rfl rfl rfl (fun _ => ?_) (fun _ => ?_)
    refine dq_op tab ⟨_, _, rfl, rfl, rfl⟩ rfl rfl rfl (dq_op tab ⟨_, _, rfl, rfl, rfl⟩ rfl rfl rfl (dq_op tab ⟨_, _, rfl, rfl, rfl⟩ rfl rfl rfl (dq_op tab rfl rfl rfl rfl (dq_op tab rfl rfl rfl rfl ?_))))
    refine dg_op rfl rfl rfl (fun _ => ?_) (fun _ => ?_)
    refine dq_op tab ⟨_, _, rfl, rfl, rfl⟩ rfl rfl rfl (dq_op tab ⟨_, _, rfl, rfl, rfl⟩ rfl rfl rfl (dq_op tab ⟨_, _, rfl, rfl, rfl⟩ rfl rfl rfl (dq_op tab ⟨_, _, rfl, rfl, rfl⟩ rfl rfl rfl (dq_op tab rfl rfl rfl rfl (dq_op tab rfl rfl rfl rfl ?_)))))
    refine dg_op rfl rfl rfl (fun _ => ?_) (fun _ => ?_)
    refine dq_op tab ⟨_, _, rfl, rfl, rfl⟩ rfl rfl rfl (dr_op ⟨_, _, rfl, rfl, rfl⟩ rfl rfl rfl rfl callable_68 (rpl_plain ⟨4, f1, f2, f3, f4, f5, f6, f7, d⟩ rfl) (dq_op tab ⟨_, _, rfl, rfl, rfl⟩ rfl (ev_eql rfl rfl rfl (rpl_eq ⟨4, f1, f2, f3, f4, f5, f6, f7, d⟩ (rplPlain ⟨4, f1, f2, f3, f4, f5, f6, f7, d⟩))) (ev_eql rfl rfl rfl (rpl_eq ⟨4, f1, f2, f3, f4, f5, f6, f7, d⟩ (rplPlain ⟨4, f1, f2, f3, f4, f5, f6, f7, d⟩))) (dq_op tab rfl rfl rfl rfl (dq_op tab rfl rfl rfl rfl (vd_nil (by kernel_rfl) ?_)))))
    refine qth (vw_ret (q_thenr (q_ret (q_thenr ?_))))
    rotate_left
    refine dk_op ⟨_, _, rfl, rfl, rfl⟩ rfl (dk_op ⟨_, _, rfl, rfl, rfl⟩ rfl (dk_op ⟨_, _, rfl, rfl, rfl⟩ rfl (dq_op tab rfl rfl rfl rfl (dq_op tab rfl rfl rfl rfl (vd_nil (by kernel_rfl) ?_)))))
    refine qth (vw_ret (q_thenr (q_ret (q_thenr ?_))))
    rotate_left
    refine dk_op ⟨_, _, rfl, rfl, rfl⟩ rfl (dk_op ⟨_, _, rfl, rfl, rfl⟩ rfl (dk_op ⟨_, _, rfl, rfl, rfl⟩ rfl (dk_op ⟨_, _, rfl, rfl, rfl⟩ rfl (dq_op tab rfl rfl rfl rfl (dq_op tab rfl rfl rfl rfl (dk_op ⟨_, _, rfl, rfl, rfl⟩ rfl (dk_op ⟨_, _, rfl, rfl, rfl⟩ rfl (dk_op ⟨_, _, rfl, rfl, rfl⟩ rfl (dq_op tab rfl rfl rfl rfl (dq_op tab rfl rfl rfl rfl (vd_nil (by kernel_rfl) ?_)))))))))))
    refine qth (vw_ret (q_thenr (q_ret (q_thenr ?_))))
    rotate_left
    refine dk_op ⟨_, _, rfl, rfl, rfl⟩ rfl (dk_op ⟨_, _, rfl, rfl, rfl⟩ rfl (dk_op ⟨_, _, rfl, rfl, rfl⟩ rfl (dq_op tab rfl rfl rfl rfl (dq_op tab rfl rfl rfl rfl (dk_op ⟨_, _, rfl, rfl, rfl⟩ rfl (dk_op ⟨_, _, rfl, rfl, rfl⟩ rfl (dk_op ⟨_, _, rfl, rfl, rfl⟩ rfl (dk_op ⟨_, _, rfl, rfl, rfl⟩ rfl (dq_op tab rfl rfl rfl rfl (dq_op tab rfl rfl rfl rfl (dk_op ⟨_, _, rfl, rfl, rfl⟩ rfl (dk_op ⟨_, _, rfl, rfl, rfl⟩ rfl (dk_op ⟨_, _, rfl, rfl, rfl⟩ rfl (dq_op tab rfl rfl rfl rfl (dq_op tab rfl rfl rfl rfl (vd_nil (by kernel_rfl) ?_))))))))))))))))
    refine qth (vw_ret (q_thenr (q_ret (q_thenr ?_))))
    rotate_left
    all_goals exact ⟨.inr rfl, Eq.trans (b := some (.bool _)) rfl (congrArg (fun b => some (Value.bool b)) (by simp_all [rplMay, rplNums] <;> (intros; omega)))⟩
  · refine wsq (wrg (vN tab rfl (vQ tab rfl (vnl (qth (wsq (wrg (vQ tab rfl (vnl (qth (wsq (wsq (wrg (vQ tab rfl (vQ tab rfl (vnl (qth (wbk (wsq (wbk (wsq (wbk (wsq ?_)))))))))))))))))))))))
    refine wbk (wsq (wsq (wsq (wrg (vQ tab rfl (vQ tab rfl (vnl (qth (vc_false rfl (vw_skip (qth (wsq (wsq (wrg (vQ tab rfl (vQ tab rfl (vnl (qth (vc_false rfl (vw_skip (qth (wsq (wsq ?_)))))))))))))))))))))))
    refine wrg (vQ tab rfl (vQ tab rfl (vnl (qth (vc_false rfl (wsq (wrg (vQ tab rfl (vQ tab rfl (vnl (qth (vc_false rfl (wsq (wrg (vQ tab rfl (vQ tab rfl (vnl (qth (vc_false rfl (wrg (vQ tab rfl (vQ tab rfl (vnl ?_)))))))))))))))))))))))
    refine qth (vc_true rfl (vw_exit (q_thenx (q_out rfl (q_thenx (q_out rfl (q_thenx (q_here (qth (wsq (wsq (wsq (wrg (vR rfl callable_67 (rpl_partsN (k := 5) (f1 := f1) (f2 := f2) (f3 := f3) (f4 := f4) (f5 := f5) (f6 := f6) (f7 := f7) (d := d) rfl (by omega)) ?_))))))))))))))
    refine vQ tab rfl (vQ tab rfl (vnl (qth (wbk (vw_rounds 4 (rd_step (wsq (wrg (vQ tab rfl (vnl (qth (wsq (vc_false rfl (vw_exit (q_thenx (q_thenx (q_here (qth (wsq (vw_draw mixed (dq_op tab rfl rfl rfl rfl (dq_op tab rfl rfl rfl rfl (dq_op tab rfl rfl rfl rfl ?_)))))))))))))))))))))))
    refine dq_op tab rfl rfl rfl rfl ?_
    refine dg_op rfl rfl rfl (fun _ => ?_) (fun _ => ?_)
    refine dq_op tab ⟨_, _, rfl, rfl, rfl⟩ rfl rfl rfl (dq_op tab ⟨_, _, rfl, rfl, rfl⟩ rfl rfl rfl (dq_op tab ⟨_, _, rfl, rfl, rfl⟩ rfl rfl rfl (dq_op tab rfl rfl rfl rfl (dq_op tab rfl rfl rfl rfl ?_))))
    refine dg_op rfl rfl rfl (fun _ => ?_) (fun _ => ?_)
    refine dq_op tab ⟨_, _, rfl, rfl, rfl⟩ rfl rfl rfl (dq_op tab ⟨_, _, rfl, rfl, rfl⟩ rfl rfl rfl (dq_op tab ⟨_, _, rfl, rfl, rfl⟩ rfl rfl rfl (dq_op tab ⟨_, _, rfl, rfl, rfl⟩ rfl rfl rfl (dq_op tab rfl rfl rfl rfl (dq_op tab rfl rfl rfl rfl ?_)))))
    refine dg_op rfl rfl rfl (fun _ => ?_) (fun _ => ?_)
    refine dq_op tab ⟨_, _, rfl, rfl, rfl⟩ rfl rfl rfl (dr_op ⟨_, _, rfl, rfl, rfl⟩ rfl rfl rfl rfl callable_68 (rpl_plain ⟨5, f1, f2, f3, f4, f5, f6, f7, d⟩ rfl) (dq_op tab ⟨_, _, rfl, rfl, rfl⟩ rfl (ev_eql rfl rfl rfl (rpl_eq ⟨5, f1, f2, f3, f4, f5, f6, f7, d⟩ (rplPlain ⟨5, f1, f2, f3, f4, f5, f6, f7, d⟩))) (ev_eql rfl rfl rfl (rpl_eq ⟨5, f1, f2, f3, f4, f5, f6, f7, d⟩ (rplPlain ⟨5, f1, f2, f3, f4, f5, f6, f7, d⟩))) (dq_op tab rfl rfl rfl rfl (dq_op tab rfl rfl rfl rfl (vd_nil (by kernel_rfl) ?_)))))
    refine qth (vw_ret (q_thenr (q_ret (q_thenr ?_))))
    rotate_left
    refine dk_op ⟨_, _, rfl, rfl, rfl⟩ rfl (dk_op ⟨_, _, rfl, rfl, rfl⟩ rfl (dk_op ⟨_, _, rfl, rfl, rfl⟩ rfl (dq_op tab rfl rfl rfl rfl (dq_op tab rfl rfl rfl rfl (vd_nil (by kernel_rfl) ?_)))))
    refine qth (vw_ret (q_thenr (q_ret (q_thenr ?_))))
    rotate_left
    refine dk_op ⟨_, _, rfl, rfl, rfl⟩ rfl (dk_op ⟨_, _, rfl, rfl, rfl⟩ rfl (dk_op ⟨_, _, rfl, rfl, rfl⟩ rfl (dk_op ⟨_, _, rfl, rfl, rfl⟩ rfl (dq_op tab rfl rfl rfl rfl (dq_op tab rfl rfl rfl rfl (dk_op ⟨_, _, rfl, rfl, rfl⟩ rfl (dk_op ⟨_, _, rfl, rfl, rfl⟩ rfl (dk_op ⟨_, _, rfl, rfl, rfl⟩ rfl (dq_op tab rfl rfl rfl rfl (dq_op tab rfl rfl rfl rfl (vd_nil (by kernel_rfl) ?_)))))))))))
    refine qth (vw_ret (q_thenr (q_ret (q_thenr ?_))))
    rotate_left
    refine dk_op ⟨_, _, rfl, rfl, rfl⟩ rfl (dk_op ⟨_, _, rfl, rfl, rfl⟩ rfl (dk_op ⟨_, _, rfl, rfl, rfl⟩ rfl (dq_op tab rfl rfl rfl rfl (dq_op tab rfl rfl rfl rfl (dk_op ⟨_, _, rfl, rfl, rfl⟩ rfl (dk_op ⟨_, _, rfl, rfl, rfl⟩ rfl (dk_op ⟨_, _, rfl, rfl, rfl⟩ rfl (dk_op ⟨_, _, rfl, rfl, rfl⟩ rfl (dq_op tab rfl rfl rfl rfl (dq_op tab rfl rfl rfl rfl (dk_op ⟨_, _, rfl, rfl, rfl⟩ rfl (dk_op ⟨_, _, rfl, rfl, rfl⟩ rfl (dk_op ⟨_, _, rfl, rfl, rfl⟩ rfl (dq_op tab rfl rfl rfl rfl (dq_op tab rfl rfl rfl rfl (vd_nil (by kernel_rfl) ?_))))))))))))))))
    refine qth (vw_ret (q_thenr (q_ret (q_thenr ?_))))
    rotate_left
    all_goals exact ⟨.inr rfl, Eq.trans (b := some (.bool _)) rfl (congrArg (fun b => some (Value.bool b)) (by simp_all [rplMay, rplNums] <;> (intros; omega)))⟩
  · refine wsq (wrg (vN tab rfl (vQ tab rfl (vnl (qth (wsq (wrg (vQ tab rfl (vnl (qth (wsq (wsq (wrg (vQ tab rfl (vQ tab rfl (vnl (qth (wbk (wsq (wbk (wsq (wbk (wsq ?_)))))))))))))))))))))))
    refine wbk (wsq (wsq (wsq (wrg (vQ tab rfl (vQ tab rfl (vnl (qth (vcd_false rfl (by simp only [decide_eq_true_eq, decide_eq_false_iff_not, Bool.not_eq_eq_eq_not, Bool.not_true, Bool.not_false, bne_iff_ne, bne_eq_false_iff_eq, beq_iff_eq, beq_eq_false_iff_ne, ne_eq, beq_self_eq_true, bne_self_eq_false, Bool.and_eq_true, Bool.and_eq_false_iff, Bool.or_eq_true, Bool.or_eq_false_iff, and_self, and_true, true_and, Bool.false_eq_true, Bool.true_eq_false, not_false_eq_true, not_true_eq_false]; first | done | omega) ?_)))))))))
    refine vw_skip (qth (wsq (wsq (wrg (vQ tab rfl (vQ tab rfl (vnl (qth (vcd_false rfl (by simp only [decide_eq_true_eq, decide_eq_false_iff_not, Bool.not_eq_eq_eq_not, Bool.not_true, Bool.not_false, bne_iff_ne, bne_eq_false_iff_eq, beq_iff_eq, beq_eq_false_iff_ne, ne_eq, beq_self_eq_true, bne_self_eq_false, Bool.and_eq_true, Bool.and_eq_false_iff, Bool.or_eq_true, Bool.or_eq_false_iff, and_self, and_true, true_and, Bool.false_eq_true, Bool.true_eq_false, not_false_eq_true, not_true_eq_false]; first | done | omega) ?_)))))))))
    refine vw_skip (qth (wsq (wsq (wrg (vQ tab rfl (vQ tab rfl (vnl (qth (vcd_false rfl (by simp only [decide_eq_true_eq, decide_eq_false_iff_not, Bool.not_eq_eq_eq_not, Bool.not_true, Bool.not_false, bne_iff_ne, bne_eq_false_iff_eq, beq_iff_eq, beq_eq_false_iff_ne, ne_eq, beq_self_eq_true, bne_self_eq_false, Bool.and_eq_true, Bool.and_eq_false_iff, Bool.or_eq_true, Bool.or_eq_false_iff, and_self, and_true, true_and, Bool.false_eq_true, Bool.true_eq_false, not_false_eq_true, not_true_eq_false]; first | done | omega) ?_)))))))))
    refine wsq (wrg (vQ tab rfl (vQ tab rfl (vnl (qth (vcd_false rfl (by simp only [decide_eq_true_eq, decide_eq_false_iff_not, Bool.not_eq_eq_eq_not, Bool.not_true, Bool.not_false, bne_iff_ne, bne_eq_false_iff_eq, beq_iff_eq, beq_eq_false_iff_ne, ne_eq, beq_self_eq_true, bne_self_eq_false, Bool.and_eq_true, Bool.and_eq_false_iff, Bool.or_eq_true, Bool.or_eq_false_iff, and_self, and_true, true_and, Bool.false_eq_true, Bool.true_eq_false, not_false_eq_true, not_true_eq_false]; first | done | omega) ?_))))))
    refine wsq (wrg (vQ tab rfl (vQ tab rfl (vnl (qth (vcd_false rfl (by simp only [decide_eq_true_eq, decide_eq_false_iff_not, Bool.not_eq_eq_eq_not, Bool.not_true, Bool.not_false, bne_iff_ne, bne_eq_false_iff_eq, beq_iff_eq, beq_eq_false_iff_ne, ne_eq, beq_self_eq_true, bne_self_eq_false, Bool.and_eq_true, Bool.and_eq_false_iff, Bool.or_eq_true, Bool.or_eq_false_iff, and_self, and_true, true_and, Bool.false_eq_true, Bool.true_eq_false, not_false_eq_true, not_true_eq_false]; first | done | omega) ?_))))))
    refine wrg (vQ tab rfl (vQ tab rfl (vnl (qth (vcd_false rfl (by simp only [decide_eq_true_eq, decide_eq_false_iff_not, Bool.not_eq_eq_eq_not, Bool.not_true, Bool.not_false, bne_iff_ne, bne_eq_false_iff_eq, beq_iff_eq, beq_eq_false_iff_ne, ne_eq, beq_self_eq_true, bne_self_eq_false, Bool.and_eq_true, Bool.and_eq_false_iff, Bool.or_eq_true, Bool.or_eq_false_iff, and_self, and_true, true_and, Bool.false_eq_true, Bool.true_eq_false, not_false_eq_true, not_true_eq_false]; first | done | omega) ?_)))))
    refine vw_skip (qth (vw_exit (q_out rfl (q_thenx (q_out rfl (q_thenx (q_out rfl (q_thenx (q_here (qth (wsq (wrg (vQ tab rfl (vnl (qth (vw_ret ?_))))))))))))))))
    all_goals exact ⟨.inr rfl, Eq.trans (b := some (.bool _)) rfl (congrArg (fun b => some (Value.bool b)) (by simp_all [rplMay, rplNums] <;> (intros; omega)))⟩
end Go.Proofs.Ytjkidjplbddmmaa
