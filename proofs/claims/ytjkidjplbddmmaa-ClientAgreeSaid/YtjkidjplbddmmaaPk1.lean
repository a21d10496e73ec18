/- Package packet: parts, plain, May. -/
import Derived.Test.YtjkidjplbddmmaaVg1
import Derived.Test.YtjkidjplbddmmaaPk0
import Derived.Test.YtjkidjplbddmmaaFd0
namespace Go.Proofs.Ytjkidjplbddmmaa
open Go Vm IntWalk
set_option linter.unusedVariables false
set_option linter.unusedSimpArgs false
abbrev pktO (a : PacketV) : VObj := .cells (pktL a) 28 (0, 0)
theorem ov_pkt {σ : Ren} {a b : PacketV} (h : a = b) : OV σ (pktO a) (pktO b) := by rw [h]; exact .cells _ _ (pktR.flat b).rel
set_option maxHeartbeats 4000000 in
theorem pkt_parts0 {V : Heap} {n i : Nat} {f1 f2 f3 f4 f5 f6 f7 : Int} {d : ByteArray} (hV : V i = some (.cells (pktL ⟨0, f1, f2, f3, f4, f5, f6, f7, d⟩) 28 (0, 0))) (hin : i < n) :
    Tri Try.prog 64 [.pointer (some ⟨i, 0, none⟩)] n 1 V (fun u L => u = .slice (some ⟨n, 0, none⟩) 2 0 ∧ L = [(i, some (.cells (pktL ⟨0, f1, f2, f3, f4, f5, f6, f7, d⟩) 28 (0, 0))), (n, some (.opn [.pointer (some ⟨i, 1, none⟩), .pointer (some ⟨i, 2, none⟩)] 139 1))]) := by
  refine call_of_vw (K := 1) (argsI := [.pointer (some ⟨0, 0, none⟩)]) tab Try.func64 rfl rfl (by simp [Try.f64]) [.own i] [.cells (pktL ⟨0, f1, f2, f3, f4, f5, f6, f7, d⟩) 28 (0, 0)] rfl (.own hV (ov_pkt rfl) .nil) (by simp [ownNames, *]) (by simp [ownNames, lookNames, *]) (by simp [ownNames, *]) (al_cons (.val (rel_ptr rfl)) al_nil) (seen_of (sn_own sn_nil)) ?_
  refine wsq (wrg (vQ tab rfl (vnl (qth (wsq (wsq (wrg (vQ tab rfl (vQ tab rfl (vQ tab rfl (vQ tab rfl (vnl (qth (wbk (wsq (wrg (vQ tab rfl (vQ tab rfl (vnl (qth (vc_true rfl (wsq (vw_draw mixed ?_)))))))))))))))))))))))
  refine dq_op tab rfl rfl rfl rfl (dq_op tab rfl rfl rfl rfl (dq_op tab rfl rfl rfl rfl (dq_op tab rfl rfl rfl rfl (dq_op tab rfl rfl rfl rfl (dq_op tab rfl rfl rfl rfl (dn_op tab rfl rfl rfl rfl (dq_op tab rfl rfl rfl rfl (vd_nil (by kernel_rfl) ?_))))))))
  refine qth (vw_ret (q_ret (q_thenr ?_)))
  exact out_mk [1] (.inr rfl) ⟨rfl, rfl⟩ rfl (rel_slice (sigma_at (i := 0) (by simp [ownNames, *]) rfl) rfl) (op_cons (sigma_own (a := 0) (by simp [ownNames]) rfl) rfl rfl (ov_pkt rfl) rfl (op_cons (sigma_at (i := 0) (by simp [ownNames, *]) rfl) rfl rfl (.opn _ _ (lrel_cons (rel_ptr (sigma_own (a := 0) (by simp [ownNames]) rfl)) (lrel_cons (rel_ptr (sigma_own (a := 0) (by simp [ownNames]) rfl)) lrel_nil))) rfl op_nil)) ⟨fun _ => by simp [lkp], trivial⟩
set_option maxHeartbeats 4000000 in
theorem pkt_parts1 {V : Heap} {n i : Nat} {f1 f2 f3 f4 f5 f6 f7 : Int} {d : ByteArray} (hV : V i = some (.cells (pktL ⟨1, f1, f2, f3, f4, f5, f6, f7, d⟩) 28 (0, 0))) (hin : i < n) :
    Tri Try.prog 64 [.pointer (some ⟨i, 0, none⟩)] n 1 V (fun u L => u = .slice (some ⟨n, 0, none⟩) 3 0 ∧ L = [(i, some (.cells (pktL ⟨1, f1, f2, f3, f4, f5, f6, f7, d⟩) 28 (0, 0))), (n, some (.opn [.pointer (some ⟨i, 3, none⟩), .pointer (some ⟨i, 4, none⟩), .pointer (some ⟨i, 5, none⟩)] 139 1))]) := by
  refine call_of_vw (K := 1) (argsI := [.pointer (some ⟨0, 0, none⟩)]) tab Try.func64 rfl rfl (by simp [Try.f64]) [.own i] [.cells (pktL ⟨1, f1, f2, f3, f4, f5, f6, f7, d⟩) 28 (0, 0)] rfl (.own hV (ov_pkt rfl) .nil) (by simp [ownNames, *]) (by simp [ownNames, lookNames, *]) (by simp [ownNames, *]) (al_cons (.val (rel_ptr rfl)) al_nil) (seen_of (sn_own sn_nil)) ?_
  refine wsq (wrg (vQ tab rfl (vnl (qth (wsq (wsq (wrg (vQ tab rfl (vQ tab rfl (vQ tab rfl (vQ tab rfl (vnl (qth (wbk (wsq (wrg (vQ tab rfl (vQ tab rfl (vnl (qth (vc_false rfl (wsq (wrg ?_)))))))))))))))))))))))
  refine vQ tab rfl (vQ tab rfl (vnl (qth (vc_true rfl (wsq (vw_draw mixed (dq_op tab rfl rfl rfl rfl (dq_op tab rfl rfl rfl rfl (dq_op tab rfl rfl rfl rfl (dq_op tab rfl rfl rfl rfl (dq_op tab rfl rfl rfl rfl (dq_op tab rfl rfl rfl rfl (dq_op tab rfl rfl rfl rfl (dq_op tab rfl rfl rfl rfl (dq_op tab rfl rfl rfl rfl (dn_op tab rfl rfl rfl rfl (dq_op tab rfl rfl rfl rfl (vd_nil (by kernel_rfl) ?_))))))))))))))))))
  refine qth (vw_ret (q_ret (q_thenr ?_)))
  exact out_mk [1] (.inr rfl) ⟨rfl, rfl⟩ rfl (rel_slice (sigma_at (i := 0) (by simp [ownNames, *]) rfl) rfl) (op_cons (sigma_own (a := 0) (by simp [ownNames]) rfl) rfl rfl (ov_pkt rfl) rfl (op_cons (sigma_at (i := 0) (by simp [ownNames, *]) rfl) rfl rfl (.opn _ _ (lrel_cons (rel_ptr (sigma_own (a := 0) (by simp [ownNames]) rfl)) (lrel_cons (rel_ptr (sigma_own (a := 0) (by simp [ownNames]) rfl)) (lrel_cons (rel_ptr (sigma_own (a := 0) (by simp [ownNames]) rfl)) lrel_nil)))) rfl op_nil)) ⟨fun _ => by simp [lkp], trivial⟩
set_option maxHeartbeats 4000000 in
theorem pkt_parts2 {V : Heap} {n i : Nat} {f1 f2 f3 f4 f5 f6 f7 : Int} {d : ByteArray} (hV : V i = some (.cells (pktL ⟨2, f1, f2, f3, f4, f5, f6, f7, d⟩) 28 (0, 0))) (hin : i < n) :
    Tri Try.prog 64 [.pointer (some ⟨i, 0, none⟩)] n 1 V (fun u L => u = .slice (some ⟨n, 0, none⟩) 3 0 ∧ L = [(i, some (.cells (pktL ⟨2, f1, f2, f3, f4, f5, f6, f7, d⟩) 28 (0, 0))), (n, some (.opn [.pointer (some ⟨i, 4, none⟩), .pointer (some ⟨i, 2, none⟩), .pointer (some ⟨i, 5, none⟩)] 139 1))]) := by
  refine call_of_vw (K := 1) (argsI := [.pointer (some ⟨0, 0, none⟩)]) tab Try.func64 rfl rfl (by simp [Try.f64]) [.own i] [.cells (pktL ⟨2, f1, f2, f3, f4, f5, f6, f7, d⟩) 28 (0, 0)] rfl (.own hV (ov_pkt rfl) .nil) (by simp [ownNames, *]) (by simp [ownNames, lookNames, *]) (by simp [ownNames, *]) (al_cons (.val (rel_ptr rfl)) al_nil) (seen_of (sn_own sn_nil)) ?_
  refine wsq (wrg (vQ tab rfl (vnl (qth (wsq (wsq (wrg (vQ tab rfl (vQ tab rfl (vQ tab rfl (vQ tab rfl (vnl (qth (wbk (wsq (wrg (vQ tab rfl (vQ tab rfl (vnl (qth (vc_false rfl (wsq (wrg ?_)))))))))))))))))))))))
  refine vQ tab rfl (vQ tab rfl (vnl (qth (vc_false rfl (wsq (wrg (vQ tab rfl (vQ tab rfl (vnl (qth (vc_true rfl (wsq (vw_draw mixed (dq_op tab rfl rfl rfl rfl (dq_op tab rfl rfl rfl rfl (dq_op tab rfl rfl rfl rfl (dq_op tab rfl rfl rfl rfl (dq_op tab rfl rfl rfl rfl (dq_op tab rfl rfl rfl rfl (dq_op tab rfl rfl rfl rfl (dq_op tab rfl rfl rfl rfl (dq_op tab rfl rfl rfl rfl (dn_op tab rfl rfl rfl rfl ?_)))))))))))))))))))))))
  refine dq_op tab rfl rfl rfl rfl (vd_nil (by kernel_rfl) ?_)
  refine qth (vw_ret (q_ret (q_thenr ?_)))
  exact out_mk [1] (.inr rfl) ⟨rfl, rfl⟩ rfl (rel_slice (sigma_at (i := 0) (by simp [ownNames, *]) rfl) rfl) (op_cons (sigma_own (a := 0) (by simp [ownNames]) rfl) rfl rfl (ov_pkt rfl) rfl (op_cons (sigma_at (i := 0) (by simp [ownNames, *]) rfl) rfl rfl (.opn _ _ (lrel_cons (rel_ptr (sigma_own (a := 0) (by simp [ownNames]) rfl)) (lrel_cons (rel_ptr (sigma_own (a := 0) (by simp [ownNames]) rfl)) (lrel_cons (rel_ptr (sigma_own (a := 0) (by simp [ownNames]) rfl)) lrel_nil)))) rfl op_nil)) ⟨fun _ => by simp [lkp], trivial⟩
set_option maxHeartbeats 4000000 in
theorem pkt_parts3 {V : Heap} {n i : Nat} {f1 f2 f3 f4 f5 f6 f7 : Int} {d : ByteArray} (hV : V i = some (.cells (pktL ⟨3, f1, f2, f3, f4, f5, f6, f7, d⟩) 28 (0, 0))) (hin : i < n) :
    Tri Try.prog 64 [.pointer (some ⟨i, 0, none⟩)] n 1 V (fun u L => u = .slice (some ⟨n, 0, none⟩) 3 0 ∧ L = [(i, some (.cells (pktL ⟨3, f1, f2, f3, f4, f5, f6, f7, d⟩) 28 (0, 0))), (n, some (.opn [.pointer (some ⟨i, 6, none⟩), .pointer (some ⟨i, 7, none⟩), .pointer (some ⟨i, 4, none⟩)] 139 1))]) := by
  refine call_of_vw (K := 1) (argsI := [.pointer (some ⟨0, 0, none⟩)]) tab Try.func64 rfl rfl (by simp [Try.f64]) [.own i] [.cells (pktL ⟨3, f1, f2, f3, f4, f5, f6, f7, d⟩) 28 (0, 0)] rfl (.own hV (ov_pkt rfl) .nil) (by simp [ownNames, *]) (by simp [ownNames, lookNames, *]) (by simp [ownNames, *]) (al_cons (.val (rel_ptr rfl)) al_nil) (seen_of (sn_own sn_nil)) ?_
  refine wsq (wrg (vQ tab rfl (vnl (qth (wsq (wsq (wrg (vQ tab rfl (vQ tab rfl (vQ tab rfl (vQ tab rfl (vnl (qth (wbk (wsq (wrg (vQ tab rfl (vQ tab rfl (vnl (qth (vc_false rfl (wsq (wrg ?_)))))))))))))))))))))))
  refine vQ tab rfl (vQ tab rfl (vnl (qth (vc_false rfl (wsq (wrg (vQ tab rfl (vQ tab rfl (vnl (qth (vc_false rfl (wsq (wrg (vQ tab rfl (vQ tab rfl (vnl (qth (vc_true rfl (wsq (vw_draw mixed (dq_op tab rfl rfl rfl rfl (dq_op tab rfl rfl rfl rfl (dq_op tab rfl rfl rfl rfl ?_)))))))))))))))))))))))
  refine dq_op tab rfl rfl rfl rfl (dq_op tab rfl rfl rfl rfl (dq_op tab rfl rfl rfl rfl (dq_op tab rfl rfl rfl rfl (dq_op tab rfl rfl rfl rfl (dq_op tab rfl rfl rfl rfl (dn_op tab rfl rfl rfl rfl (dq_op tab rfl rfl rfl rfl (vd_nil (by kernel_rfl) ?_))))))))
  refine qth (vw_ret (q_ret (q_thenr ?_)))
  exact out_mk [1] (.inr rfl) ⟨rfl, rfl⟩ rfl (rel_slice (sigma_at (i := 0) (by simp [ownNames, *]) rfl) rfl) (op_cons (sigma_own (a := 0) (by simp [ownNames]) rfl) rfl rfl (ov_pkt rfl) rfl (op_cons (sigma_at (i := 0) (by simp [ownNames, *]) rfl) rfl rfl (.opn _ _ (lrel_cons (rel_ptr (sigma_own (a := 0) (by simp [ownNames]) rfl)) (lrel_cons (rel_ptr (sigma_own (a := 0) (by simp [ownNames]) rfl)) (lrel_cons (rel_ptr (sigma_own (a := 0) (by simp [ownNames]) rfl)) lrel_nil)))) rfl op_nil)) ⟨fun _ => by simp [lkp], trivial⟩
set_option maxHeartbeats 4000000 in
theorem pkt_parts4 {V : Heap} {n i : Nat} {f1 f2 f3 f4 f5 f6 f7 : Int} {d : ByteArray} (hV : V i = some (.cells (pktL ⟨4, f1, f2, f3, f4, f5, f6, f7, d⟩) 28 (0, 0))) (hin : i < n) :
    Tri Try.prog 64 [.pointer (some ⟨i, 0, none⟩)] n 1 V (fun u L => u = .slice (some ⟨n, 0, none⟩) 2 0 ∧ L = [(i, some (.cells (pktL ⟨4, f1, f2, f3, f4, f5, f6, f7, d⟩) 28 (0, 0))), (n, some (.opn [.pointer (some ⟨i, 6, none⟩), .pointer (some ⟨i, 4, none⟩)] 139 1))]) := by
  refine call_of_vw (K := 1) (argsI := [.pointer (some ⟨0, 0, none⟩)]) tab Try.func64 rfl rfl (by simp [Try.f64]) [.own i] [.cells (pktL ⟨4, f1, f2, f3, f4, f5, f6, f7, d⟩) 28 (0, 0)] rfl (.own hV (ov_pkt rfl) .nil) (by simp [ownNames, *]) (by simp [ownNames, lookNames, *]) (by simp [ownNames, *]) (al_cons (.val (rel_ptr rfl)) al_nil) (seen_of (sn_own sn_nil)) ?_
  refine wsq (wrg (vQ tab rfl (vnl (qth (wsq (wsq (wrg (vQ tab rfl (vQ tab rfl (vQ tab rfl (vQ tab rfl (vnl (qth (wbk (wsq (wrg (vQ tab rfl (vQ tab rfl (vnl (qth (vc_false rfl (wsq (wrg ?_)))))))))))))))))))))))
  refine vQ tab rfl (vQ tab rfl (vnl (qth (vc_false rfl (wsq (wrg (vQ tab rfl (vQ tab rfl (vnl (qth (vc_false rfl (wsq (wrg (vQ tab rfl (vQ tab rfl (vnl (qth (vc_false rfl (wsq (wrg (vQ tab rfl (vQ tab rfl (vnl ?_)))))))))))))))))))))))
  refine qth (vc_true rfl (wsq (vw_draw mixed (dq_op tab rfl rfl rfl rfl (dq_op tab rfl rfl rfl rfl (dq_op tab rfl rfl rfl rfl (dq_op tab rfl rfl rfl rfl (dq_op tab rfl rfl rfl rfl (dq_op tab rfl rfl rfl rfl (dn_op tab rfl rfl rfl rfl (dq_op tab rfl rfl rfl rfl (vd_nil (by kernel_rfl) ?_))))))))))))
  refine qth (vw_ret (q_ret (q_thenr ?_)))
  exact out_mk [1] (.inr rfl) ⟨rfl, rfl⟩ rfl (rel_slice (sigma_at (i := 0) (by simp [ownNames, *]) rfl) rfl) (op_cons (sigma_own (a := 0) (by simp [ownNames]) rfl) rfl rfl (ov_pkt rfl) rfl (op_cons (sigma_at (i := 0) (by simp [ownNames, *]) rfl) rfl rfl (.opn _ _ (lrel_cons (rel_ptr (sigma_own (a := 0) (by simp [ownNames]) rfl)) (lrel_cons (rel_ptr (sigma_own (a := 0) (by simp [ownNames]) rfl)) lrel_nil))) rfl op_nil)) ⟨fun _ => by simp [lkp], trivial⟩
set_option maxHeartbeats 4000000 in
theorem pkt_partsN {V : Heap} {n i : Nat} {k : Int} {f1 f2 f3 f4 f5 f6 f7 : Int} {d : ByteArray} (hV : V i = some (.cells (pktL ⟨k, f1, f2, f3, f4, f5, f6, f7, d⟩) 28 (0, 0))) (hk : k ≠ 0 ∧ k ≠ 1 ∧ k ≠ 2 ∧ k ≠ 3 ∧ k ≠ 4) :
    Tri Try.prog 64 [.pointer (some ⟨i, 0, none⟩)] n 0 V (fun u L => u = .slice none 0 0 ∧ L = []) := by
  refine reads_of_vw (K := 1) (argsI := [.pointer (some ⟨0, 0, none⟩)]) tab Try.func64 rfl rfl (by simp [Try.f64]) [.own i] [.cells (pktL ⟨k, f1, f2, f3, f4, f5, f6, f7, d⟩) 28 (0, 0)] rfl (.own hV (ov_pkt rfl) .nil) (by simp [ownNames, *]) (by simp [ownNames, lookNames, *]) (al_cons (.val (rel_ptr rfl)) al_nil) (seen_of (sn_own sn_nil)) (.nilSlice) ?_
  refine wsq (wrg (vQ tab rfl (vnl (qth (wsq (wsq (wrg (vQ tab rfl (vQ tab rfl (vQ tab rfl (vQ tab rfl (vnl (qth (wbk (wsq (wrg (vQ tab rfl (vQ tab rfl (vnl (qth (vcd_false rfl (by simp only [decide_eq_true_eq, decide_eq_false_iff_not, Bool.not_eq_eq_eq_not, Bool.not_true, Bool.not_false, bne_iff_ne, bne_eq_false_iff_eq, beq_iff_eq, beq_eq_false_iff_ne, ne_eq, beq_self_eq_true, bne_self_eq_false, Bool.and_eq_true, Bool.and_eq_false_iff, Bool.or_eq_true, Bool.or_eq_false_iff, and_self, and_true, true_and, Bool.false_eq_true, Bool.true_eq_false, not_false_eq_true, not_true_eq_false]; first | done | omega) ?_)))))))))))))))))))))
  refine wsq (wrg (vQ tab rfl (vQ tab rfl (vnl (qth (vcd_false rfl (by simp only [decide_eq_true_eq, decide_eq_false_iff_not, Bool.not_eq_eq_eq_not, Bool.not_true, Bool.not_false, bne_iff_ne, bne_eq_false_iff_eq, beq_iff_eq, beq_eq_false_iff_ne, ne_eq, beq_self_eq_true, bne_self_eq_false, Bool.and_eq_true, Bool.and_eq_false_iff, Bool.or_eq_true, Bool.or_eq_false_iff, and_self, and_true, true_and, Bool.false_eq_true, Bool.true_eq_false, not_false_eq_true, not_true_eq_false]; first | done | omega) ?_))))))
  refine wsq (wrg (vQ tab rfl (vQ tab rfl (vnl (qth (vcd_false rfl (by simp only [decide_eq_true_eq, decide_eq_false_iff_not, Bool.not_eq_eq_eq_not, Bool.not_true, Bool.not_false, bne_iff_ne, bne_eq_false_iff_eq, beq_iff_eq, beq_eq_false_iff_ne, ne_eq, beq_self_eq_true, bne_self_eq_false, Bool.and_eq_true, Bool.and_eq_false_iff, Bool.or_eq_true, Bool.or_eq_false_iff, and_self, and_true, true_and, Bool.false_eq_true, Bool.true_eq_false, not_false_eq_true, not_true_eq_false]; first | done | omega) ?_))))))
  refine wsq (wrg (vQ tab rfl (vQ tab rfl (vnl (qth (vcd_false rfl (by simp only [decide_eq_true_eq, decide_eq_false_iff_not, Bool.not_eq_eq_eq_not, Bool.not_true, Bool.not_false, bne_iff_ne, bne_eq_false_iff_eq, beq_iff_eq, beq_eq_false_iff_ne, ne_eq, beq_self_eq_true, bne_self_eq_false, Bool.and_eq_true, Bool.and_eq_false_iff, Bool.or_eq_true, Bool.or_eq_false_iff, and_self, and_true, true_and, Bool.false_eq_true, Bool.true_eq_false, not_false_eq_true, not_true_eq_false]; first | done | omega) ?_))))))
  refine wsq (wrg (vQ tab rfl (vQ tab rfl (vnl (qth (vcd_false rfl (by simp only [decide_eq_true_eq, decide_eq_false_iff_not, Bool.not_eq_eq_eq_not, Bool.not_true, Bool.not_false, bne_iff_ne, bne_eq_false_iff_eq, beq_iff_eq, beq_eq_false_iff_ne, ne_eq, beq_self_eq_true, bne_self_eq_false, Bool.and_eq_true, Bool.and_eq_false_iff, Bool.or_eq_true, Bool.or_eq_false_iff, and_self, and_true, true_and, Bool.false_eq_true, Bool.true_eq_false, not_false_eq_true, not_true_eq_false]; first | done | omega) ?_))))))
  refine vw_skip (q_norm (qth (wsq (wrg (vQ tab rfl (vnl (qth (vw_ret ?_))))))))
  exact ⟨⟨.inr rfl, rfl⟩, fun _ => rfl, trivial⟩
set_option maxHeartbeats 4000000 in
theorem pkt_texts {V : Heap} {n i : Nat} (a : PacketV) (hV : V i = some (pktO a)) : Tri Try.prog 94 [.pointer (some ⟨i, 0, none⟩)] n 0 V (fun u L => u = .string (if pktText a.kind = true then a.data else ⟨#[]⟩) ∧ L = []) := by
  refine reads_of_vw (K := 1) (argsI := [.pointer (some ⟨0, 0, none⟩)]) tab Try.func94 rfl rfl (by simp [Try.f94]) [.own i] [pktO a] rfl (.own hV (ov_pkt rfl) .nil) (by simp [ownNames, *]) (by simp [ownNames, lookNames, *]) (al_cons (.val (rel_ptr rfl)) al_nil) (seen_of (sn_own sn_nil)) (.string _) ?_
  by_cases h : a.kind = 3
  · have ht : pktText a.kind = true := by unfold pktText; simp [h]
    rw [if_pos ht]
    skip
    all_goals
      refine wsq (wrg (vQ tab rfl (vnl (qth (wsq (wsq (wrg (vQ tab rfl (vQ tab rfl (vQ tab rfl (vQ tab rfl (vQ tab rfl (vnl (qth (vcd_false rfl (by simp only [decide_eq_true_eq, decide_eq_false_iff_not, Bool.not_eq_eq_eq_not, Bool.not_true, Bool.not_false, bne_iff_ne, bne_eq_false_iff_eq, beq_iff_eq, beq_eq_false_iff_ne, ne_eq, beq_self_eq_true, bne_self_eq_false, Bool.and_eq_true, Bool.and_eq_false_iff, Bool.or_eq_true, Bool.or_eq_false_iff, and_self, and_true, true_and, Bool.false_eq_true, Bool.true_eq_false, not_false_eq_true, not_true_eq_false]; first | done | omega) ?_)))))))))))))))
      refine vw_skip (qth (wsq (wrg (vQ tab rfl (vQ tab rfl (vQ tab rfl (vQ tab rfl (vQ tab rfl (vnl (qth (vw_ret ?_)))))))))))
      exact ⟨⟨.inr rfl, rfl⟩, fun _ => rfl, trivial⟩
  · have ht : pktText a.kind = false := by unfold pktText; simp [h]
    rw [if_neg (by rw [ht]; decide)]
    refine wsq (wrg (vQ tab rfl (vnl (qth (wsq (wsq (wrg (vQ tab rfl (vQ tab rfl (vQ tab rfl (vQ tab rfl (vQ tab rfl (vnl (qth (vcd_true rfl (by simp only [decide_eq_true_eq, decide_eq_false_iff_not, Bool.not_eq_eq_eq_not, Bool.not_true, Bool.not_false, bne_iff_ne, bne_eq_false_iff_eq, beq_iff_eq, beq_eq_false_iff_ne, ne_eq, beq_self_eq_true, bne_self_eq_false, Bool.and_eq_true, Bool.and_eq_false_iff, Bool.or_eq_true, Bool.or_eq_false_iff, and_self, and_true, true_and, Bool.false_eq_true, Bool.true_eq_false, not_false_eq_true, not_true_eq_false]; first | done | omega) ?_)))))))))))))))
    refine wsq (wrg (vQ tab rfl (vnl (qth (vw_ret (q_thenr ?_))))))
    exact ⟨⟨.inr rfl, rfl⟩, fun _ => rfl, trivial⟩
set_option maxHeartbeats 16000000 in
theorem pkt_plain {V : Heap} {n i : Nat} (a : PacketV) (hV : V i = some (pktO a)) :
    Tri Try.prog 66 [.pointer (some ⟨i, 0, none⟩)] n 0 V (fun u L => u = pktV (pktPlain a) ∧ L = []) := by
  obtain ⟨k, f1, f2, f3, f4, f5, f6, f7, d⟩ := a
  refine reads_of_vw (K := 1) (argsI := [.pointer (some ⟨0, 0, none⟩)]) tab Try.func66 rfl rfl (by simp [Try.f66]) [.own i] [pktO ⟨k, f1, f2, f3, f4, f5, f6, f7, d⟩] rfl (.own hV (ov_pkt rfl) .nil) (by simp [ownNames, *]) (by simp [ownNames, lookNames, *]) (al_cons (.val (rel_ptr rfl)) al_nil) (seen_of (sn_own sn_nil)) (pktRel _) ?_
  rcases (show k = 0 ∨ k = 1 ∨ k = 2 ∨ k = 3 ∨ k = 4 ∨ (k ≠ 0 ∧ k ≠ 1 ∧ k ≠ 2 ∧ k ≠ 3 ∧ k ≠ 4) by omega) with rfl | rfl | rfl | rfl | rfl | hk
  · refine wsq (wrg (vN tab rfl (vnl (qth (wsq (vw_draw mixed (dq_op tab rfl rfl rfl rfl (dq_op tab rfl rfl rfl rfl (dq_op tab rfl rfl rfl rfl (dq_op tab rfl rfl rfl rfl (dq_op tab rfl rfl rfl rfl (dr_op rfl rfl rfl rfl rfl callable_94 (pkt_texts ⟨0, f1, f2, f3, f4, f5, f6, f7, d⟩ rfl) (dq_op tab rfl rfl rfl rfl (dn_op tab rfl rfl rfl rfl (ds_op tab rfl rfl rfl rfl (vd_nil (by kernel_rfl) ?_))))))))))))))))
    refine qth (wsq (wrg (vT rfl callable_64 (pkt_parts0 (f1 := 0) (f2 := 0) (f3 := 0) (f4 := 0) (f5 := 0) (f6 := 0) (f7 := 0) (d := if pktText 0 = true then d else ⟨#[]⟩) rfl (by decide)) ?_)))
    refine vQ tab rfl (vnl (qth (wsq (wsq (wrg (vQ tab rfl (vT rfl callable_64 (pkt_parts0 (f1 := f1) (f2 := f2) (f3 := f3) (f4 := f4) (f5 := f5) (f6 := f6) (f7 := f7) (d := d) rfl (by decide)) ?_)))))))
    refine vQ tab rfl (vQ tab rfl (vnl (qth (wbk (vw_rounds 4 (rd_step (wsq (wrg (vQ tab rfl (vnl (qth (wsq (vc_true rfl (vw_skip (qth (wsq (wbk (wsq (wrg (vQ tab rfl (vQ tab rfl (vQ tab rfl (vQ tab rfl ?_)))))))))))))))))))))))
    refine vQ tab rfl (vnl (qth (vw_draw mixed (dq_op tab rfl rfl rfl rfl (dq_op tab rfl rfl rfl rfl (dq_op tab rfl rfl rfl rfl (dq_op tab rfl rfl rfl rfl (dq_op tab rfl rfl rfl rfl (dq_op tab rfl rfl rfl rfl (dq_op tab rfl rfl rfl rfl (dq_op tab rfl rfl rfl rfl (ds_op tab rfl rfl rfl rfl (vd_nil (by kernel_rfl) ?_)))))))))))))
    refine q_norm (qth (wrg (vQ tab rfl (vQ tab rfl (vnl (qth (rd_step (wsq (wrg (vQ tab rfl (vnl (qth (wsq (vc_true rfl (vw_skip (qth (wsq (wbk (wsq (wrg (vQ tab rfl (vQ tab rfl (vQ tab rfl ?_)))))))))))))))))))))))
    refine vQ tab rfl (vQ tab rfl (vnl (qth (vw_draw mixed (dq_op tab rfl rfl rfl rfl (dq_op tab rfl rfl rfl rfl (dq_op tab rfl rfl rfl rfl (dq_op tab rfl rfl rfl rfl (dq_op tab rfl rfl rfl rfl (dq_op tab rfl rfl rfl rfl (dq_op tab rfl rfl rfl rfl (dq_op tab rfl rfl rfl rfl (ds_op tab rfl rfl rfl rfl (vd_nil (by kernel_rfl) ?_))))))))))))))
    refine q_norm (qth (wrg (vQ tab rfl (vQ tab rfl (vnl (qth (rd_step (wsq (wrg (vQ tab rfl (vnl (qth (wsq (vc_false rfl (vw_exit (q_thenx (q_thenx (q_here (qth (wsq (wrg (vQ tab rfl (vS tab rfl ?_)))))))))))))))))))))))
    refine vnl (qth (vw_ret ?_))
    exact ⟨⟨.inr rfl, rfl⟩, fun _ => rfl, trivial⟩
  · refine wsq (wrg (vN tab rfl (vnl (qth (wsq (vw_draw mixed (dq_op tab rfl rfl rfl rfl (dq_op tab rfl rfl rfl rfl (dq_op tab rfl rfl rfl rfl (dq_op tab rfl rfl rfl rfl (dq_op tab rfl rfl rfl rfl (dr_op rfl rfl rfl rfl rfl callable_94 (pkt_texts ⟨1, f1, f2, f3, f4, f5, f6, f7, d⟩ rfl) (dq_op tab rfl rfl rfl rfl (dn_op tab rfl rfl rfl rfl (ds_op tab rfl rfl rfl rfl (vd_nil (by kernel_rfl) ?_))))))))))))))))
    refine qth (wsq (wrg (vT rfl callable_64 (pkt_parts1 (f1 := 0) (f2 := 0) (f3 := 0) (f4 := 0) (f5 := 0) (f6 := 0) (f7 := 0) (d := if pktText 1 = true then d else ⟨#[]⟩) rfl (by decide)) ?_)))
    refine vQ tab rfl (vnl (qth (wsq (wsq (wrg (vQ tab rfl (vT rfl callable_64 (pkt_parts1 (f1 := f1) (f2 := f2) (f3 := f3) (f4 := f4) (f5 := f5) (f6 := f6) (f7 := f7) (d := d) rfl (by decide)) ?_)))))))
    refine vQ tab rfl (vQ tab rfl (vnl (qth (wbk (vw_rounds 4 (rd_step (wsq (wrg (vQ tab rfl (vnl (qth (wsq (vc_true rfl (vw_skip (qth (wsq (wbk (wsq (wrg (vQ tab rfl (vQ tab rfl (vQ tab rfl (vQ tab rfl ?_)))))))))))))))))))))))
    refine vQ tab rfl (vnl (qth (vw_draw mixed (dq_op tab rfl rfl rfl rfl (dq_op tab rfl rfl rfl rfl (dq_op tab rfl rfl rfl rfl (dq_op tab rfl rfl rfl rfl (dq_op tab rfl rfl rfl rfl (dq_op tab rfl rfl rfl rfl (dq_op tab rfl rfl rfl rfl (dq_op tab rfl rfl rfl rfl (ds_op tab rfl rfl rfl rfl (vd_nil (by kernel_rfl) ?_)))))))))))))
    refine q_norm (qth (wrg (vQ tab rfl (vQ tab rfl (vnl (qth (rd_step (wsq (wrg (vQ tab rfl (vnl (qth (wsq (vc_true rfl (vw_skip (qth (wsq (wbk (wsq (wrg (vQ tab rfl (vQ tab rfl (vQ tab rfl ?_)))))))))))))))))))))))
    refine vQ tab rfl (vQ tab rfl (vnl (qth (vw_draw mixed (dq_op tab rfl rfl rfl rfl (dq_op tab rfl rfl rfl rfl (dq_op tab rfl rfl rfl rfl (dq_op tab rfl rfl rfl rfl (dq_op tab rfl rfl rfl rfl (dq_op tab rfl rfl rfl rfl (dq_op tab rfl rfl rfl rfl (dq_op tab rfl rfl rfl rfl (ds_op tab rfl rfl rfl rfl (vd_nil (by kernel_rfl) ?_))))))))))))))
    refine q_norm (qth (wrg (vQ tab rfl (vQ tab rfl (vnl (qth (rd_step (wsq (wrg (vQ tab rfl (vnl (qth (wsq (vc_true rfl (vw_skip (qth (wsq (wbk (wsq (wrg (vQ tab rfl (vQ tab rfl (vQ tab rfl ?_)))))))))))))))))))))))
    refine vQ tab rfl (vQ tab rfl (vnl (qth (vw_draw mixed (dq_op tab rfl rfl rfl rfl (dq_op tab rfl rfl rfl rfl (dq_op tab rfl rfl rfl rfl (dq_op tab rfl rfl rfl rfl (dq_op tab rfl rfl rfl rfl (dq_op tab rfl rfl rfl rfl (dq_op tab rfl rfl rfl rfl (dq_op tab rfl rfl rfl rfl (ds_op tab rfl rfl rfl rfl (vd_nil (by kernel_rfl) ?_))))))))))))))
    refine q_norm (qth (wrg (vQ tab rfl (vQ tab rfl (vnl (qth (rd_step (wsq (wrg (vQ tab rfl (vnl (qth (wsq (vc_false rfl (vw_exit (q_thenx (q_thenx (q_here (qth (wsq (wrg (vQ tab rfl (vS tab rfl ?_)))))))))))))))))))))))
    refine vnl (qth (vw_ret ?_))
    exact ⟨⟨.inr rfl, rfl⟩, fun _ => rfl, trivial⟩
  · refine wsq (wrg (vN tab rfl (vnl (qth (wsq (vw_draw mixed (dq_op tab rfl rfl rfl rfl (dq_op tab rfl rfl rfl rfl (dq_op tab rfl rfl rfl rfl (dq_op tab rfl rfl rfl rfl (dq_op tab rfl rfl rfl rfl (dr_op rfl rfl rfl rfl rfl callable_94 (pkt_texts ⟨2, f1, f2, f3, f4, f5, f6, f7, d⟩ rfl) (dq_op tab rfl rfl rfl rfl (dn_op tab rfl rfl rfl rfl (ds_op tab rfl rfl rfl rfl (vd_nil (by kernel_rfl) ?_))))))))))))))))
    refine qth (wsq (wrg (vT rfl callable_64 (pkt_parts2 (f1 := 0) (f2 := 0) (f3 := 0) (f4 := 0) (f5 := 0) (f6 := 0) (f7 := 0) (d := if pktText 2 = true then d else ⟨#[]⟩) rfl (by decide)) ?_)))
    refine vQ tab rfl (vnl (qth (wsq (wsq (wrg (vQ tab rfl (vT rfl callable_64 (pkt_parts2 (f1 := f1) (f2 := f2) (f3 := f3) (f4 := f4) (f5 := f5) (f6 := f6) (f7 := f7) (d := d) rfl (by decide)) ?_)))))))
    refine vQ tab rfl (vQ tab rfl (vnl (qth (wbk (vw_rounds 4 (rd_step (wsq (wrg (vQ tab rfl (vnl (qth (wsq (vc_true rfl (vw_skip (qth (wsq (wbk (wsq (wrg (vQ tab rfl (vQ tab rfl (vQ tab rfl (vQ tab rfl ?_)))))))))))))))))))))))
    refine vQ tab rfl (vnl (qth (vw_draw mixed (dq_op tab rfl rfl rfl rfl (dq_op tab rfl rfl rfl rfl (dq_op tab rfl rfl rfl rfl (dq_op tab rfl rfl rfl rfl (dq_op tab rfl rfl rfl rfl (dq_op tab rfl rfl rfl rfl (dq_op tab rfl rfl rfl rfl (dq_op tab rfl rfl rfl rfl (ds_op tab rfl rfl rfl rfl (vd_nil (by kernel_rfl) ?_)))))))))))))
    refine q_norm (qth (wrg (vQ tab rfl (vQ tab rfl (vnl (qth (rd_step (wsq (wrg (vQ tab rfl (vnl (qth (wsq (vc_true rfl (vw_skip (qth (wsq (wbk (wsq (wrg (vQ tab rfl (vQ tab rfl (vQ tab rfl ?_)))))))))))))))))))))))
    refine vQ tab rfl (vQ tab rfl (vnl (qth (vw_draw mixed (dq_op tab rfl rfl rfl rfl (dq_op tab rfl rfl rfl rfl (dq_op tab rfl rfl rfl rfl (dq_op tab rfl rfl rfl rfl (dq_op tab rfl rfl rfl rfl (dq_op tab rfl rfl rfl rfl (dq_op tab rfl rfl rfl rfl (dq_op tab rfl rfl rfl rfl (ds_op tab rfl rfl rfl rfl (vd_nil (by kernel_rfl) ?_))))))))))))))
    refine q_norm (qth (wrg (vQ tab rfl (vQ tab rfl (vnl (qth (rd_step (wsq (wrg (vQ tab rfl (vnl (qth (wsq (vc_true rfl (vw_skip (qth (wsq (wbk (wsq (wrg (vQ tab rfl (vQ tab rfl (vQ tab rfl ?_)))))))))))))))))))))))
    refine vQ tab rfl (vQ tab rfl (vnl (qth (vw_draw mixed (dq_op tab rfl rfl rfl rfl (dq_op tab rfl rfl rfl rfl (dq_op tab rfl rfl rfl rfl (dq_op tab rfl rfl rfl rfl (dq_op tab rfl rfl rfl rfl (dq_op tab rfl rfl rfl rfl (dq_op tab rfl rfl rfl rfl (dq_op tab rfl rfl rfl rfl (ds_op tab rfl rfl rfl rfl (vd_nil (by kernel_rfl) ?_))))))))))))))
    refine q_norm (qth (wrg (vQ tab rfl (vQ tab rfl (vnl (qth (rd_step (wsq (wrg (vQ tab rfl (vnl (qth (wsq (vc_false rfl (vw_exit (q_thenx (q_thenx (q_here (qth (wsq (wrg (vQ tab rfl (vS tab rfl ?_)))))))))))))))))))))))
    refine vnl (qth (vw_ret ?_))
    exact ⟨⟨.inr rfl, rfl⟩, fun _ => rfl, trivial⟩
  · refine wsq (wrg (vN tab rfl (vnl (qth (wsq (vw_draw mixed (dq_op tab rfl rfl rfl rfl (dq_op tab rfl rfl rfl rfl (dq_op tab rfl rfl rfl rfl (dq_op tab rfl rfl rfl rfl (dq_op tab rfl rfl rfl rfl (dr_op rfl rfl rfl rfl rfl callable_94 (pkt_texts ⟨3, f1, f2, f3, f4, f5, f6, f7, d⟩ rfl) (dq_op tab rfl rfl rfl rfl (dn_op tab rfl rfl rfl rfl (ds_op tab rfl rfl rfl rfl (vd_nil (by kernel_rfl) ?_))))))))))))))))
    refine qth (wsq (wrg (vT rfl callable_64 (pkt_parts3 (f1 := 0) (f2 := 0) (f3 := 0) (f4 := 0) (f5 := 0) (f6 := 0) (f7 := 0) (d := if pktText 3 = true then d else ⟨#[]⟩) rfl (by decide)) ?_)))
    refine vQ tab rfl (vnl (qth (wsq (wsq (wrg (vQ tab rfl (vT rfl callable_64 (pkt_parts3 (f1 := f1) (f2 := f2) (f3 := f3) (f4 := f4) (f5 := f5) (f6 := f6) (f7 := f7) (d := d) rfl (by decide)) ?_)))))))
    refine vQ tab rfl (vQ tab rfl (vnl (qth (wbk (vw_rounds 4 (rd_step (wsq (wrg (vQ tab rfl (vnl (qth (wsq (vc_true rfl (vw_skip (qth (wsq (wbk (wsq (wrg (vQ tab rfl (vQ tab rfl (vQ tab rfl (vQ tab rfl ?_)))))))))))))))))))))))
    refine vQ tab rfl (vnl (qth (vw_draw mixed (dq_op tab rfl rfl rfl rfl (dq_op tab rfl rfl rfl rfl (dq_op tab rfl rfl rfl rfl (dq_op tab rfl rfl rfl rfl (dq_op tab rfl rfl rfl rfl (dq_op tab rfl rfl rfl rfl (dq_op tab rfl rfl rfl rfl (dq_op tab rfl rfl rfl rfl (ds_op tab rfl rfl rfl rfl (vd_nil (by kernel_rfl) ?_)))))))))))))
    refine q_norm (qth (wrg (vQ tab rfl (vQ tab rfl (vnl (qth (rd_step (wsq (wrg (vQ tab rfl (vnl (qth (wsq (vc_true rfl (vw_skip (qth (wsq (wbk (wsq (wrg (vQ tab rfl (vQ tab rfl (vQ tab rfl ?_)))))))))))))))))))))))
    refine vQ tab rfl (vQ tab rfl (vnl (qth (vw_draw mixed (dq_op tab rfl rfl rfl rfl (dq_op tab rfl rfl rfl rfl (dq_op tab rfl rfl rfl rfl (dq_op tab rfl rfl rfl rfl (dq_op tab rfl rfl rfl rfl (dq_op tab rfl rfl rfl rfl (dq_op tab rfl rfl rfl rfl (dq_op tab rfl rfl rfl rfl (ds_op tab rfl rfl rfl rfl (vd_nil (by kernel_rfl) ?_))))))))))))))
    refine q_norm (qth (wrg (vQ tab rfl (vQ tab rfl (vnl (qth (rd_step (wsq (wrg (vQ tab rfl (vnl (qth (wsq (vc_true rfl (vw_skip (qth (wsq (wbk (wsq (wrg (vQ tab rfl (vQ tab rfl (vQ tab rfl ?_)))))))))))))))))))))))
    refine vQ tab rfl (vQ tab rfl (vnl (qth (vw_draw mixed (dq_op tab rfl rfl rfl rfl (dq_op tab rfl rfl rfl rfl (dq_op tab rfl rfl rfl rfl (dq_op tab rfl rfl rfl rfl (dq_op tab rfl rfl rfl rfl (dq_op tab rfl rfl rfl rfl (dq_op tab rfl rfl rfl rfl (dq_op tab rfl rfl rfl rfl (ds_op tab rfl rfl rfl rfl (vd_nil (by kernel_rfl) ?_))))))))))))))
    refine q_norm (qth (wrg (vQ tab rfl (vQ tab rfl (vnl (qth (rd_step (wsq (wrg (vQ tab rfl (vnl (qth (wsq (vc_false rfl (vw_exit (q_thenx (q_thenx (q_here (qth (wsq (wrg (vQ tab rfl (vS tab rfl ?_)))))))))))))))))))))))
    refine vnl (qth (vw_ret ?_))
    exact ⟨⟨.inr rfl, rfl⟩, fun _ => rfl, trivial⟩
  · refine wsq (wrg (vN tab rfl (vnl (qth (wsq (vw_draw mixed (dq_op tab rfl rfl rfl rfl (dq_op tab rfl rfl rfl rfl (dq_op tab rfl rfl rfl rfl (dq_op tab rfl rfl rfl rfl (dq_op tab rfl rfl rfl rfl (dr_op rfl rfl rfl rfl rfl callable_94 (pkt_texts ⟨4, f1, f2, f3, f4, f5, f6, f7, d⟩ rfl) (dq_op tab rfl rfl rfl rfl (dn_op tab rfl rfl rfl rfl (ds_op tab rfl rfl rfl rfl (vd_nil (by kernel_rfl) ?_))))))))))))))))
    refine qth (wsq (wrg (vT rfl callable_64 (pkt_parts4 (f1 := 0) (f2 := 0) (f3 := 0) (f4 := 0) (f5 := 0) (f6 := 0) (f7 := 0) (d := if pktText 4 = true then d else ⟨#[]⟩) rfl (by decide)) ?_)))
    refine vQ tab rfl (vnl (qth (wsq (wsq (wrg (vQ tab rfl (vT rfl callable_64 (pkt_parts4 (f1 := f1) (f2 := f2) (f3 := f3) (f4 := f4) (f5 := f5) (f6 := f6) (f7 := f7) (d := d) rfl (by decide)) ?_)))))))
    refine vQ tab rfl (vQ tab rfl (vnl (qth (wbk (vw_rounds 4 (rd_step (wsq (wrg (vQ tab rfl (vnl (qth (wsq (vc_true rfl (vw_skip (qth (wsq (wbk (wsq (wrg (vQ tab rfl (vQ tab rfl (vQ tab rfl (vQ tab rfl ?_)))))))))))))))))))))))
    refine vQ tab rfl (vnl (qth (vw_draw mixed (dq_op tab rfl rfl rfl rfl (dq_op tab rfl rfl rfl rfl (dq_op tab rfl rfl rfl rfl (dq_op tab rfl rfl rfl rfl (dq_op tab rfl rfl rfl rfl (dq_op tab rfl rfl rfl rfl (dq_op tab rfl rfl rfl rfl (dq_op tab rfl rfl rfl rfl (ds_op tab rfl rfl rfl rfl (vd_nil (by kernel_rfl) ?_)))))))))))))
    refine q_norm (qth (wrg (vQ tab rfl (vQ tab rfl (vnl (qth (rd_step (wsq (wrg (vQ tab rfl (vnl (qth (wsq (vc_true rfl (vw_skip (qth (wsq (wbk (wsq (wrg (vQ tab rfl (vQ tab rfl (vQ tab rfl ?_)))))))))))))))))))))))
    refine vQ tab rfl (vQ tab rfl (vnl (qth (vw_draw mixed (dq_op tab rfl rfl rfl rfl (dq_op tab rfl rfl rfl rfl (dq_op tab rfl rfl rfl rfl (dq_op tab rfl rfl rfl rfl (dq_op tab rfl rfl rfl rfl (dq_op tab rfl rfl rfl rfl (dq_op tab rfl rfl rfl rfl (dq_op tab rfl rfl rfl rfl (ds_op tab rfl rfl rfl rfl (vd_nil (by kernel_rfl) ?_))))))))))))))
    refine q_norm (qth (wrg (vQ tab rfl (vQ tab rfl (vnl (qth (rd_step (wsq (wrg (vQ tab rfl (vnl (qth (wsq (vc_false rfl (vw_exit (q_thenx (q_thenx (q_here (qth (wsq (wrg (vQ tab rfl (vS tab rfl ?_)))))))))))))))))))))))
    refine vnl (qth (vw_ret ?_))
    exact ⟨⟨.inr rfl, rfl⟩, fun _ => rfl, trivial⟩
  · refine wsq (wrg (vN tab rfl (vnl (qth (wsq (vw_draw mixed (dq_op tab rfl rfl rfl rfl (dq_op tab rfl rfl rfl rfl (dq_op tab rfl rfl rfl rfl (dq_op tab rfl rfl rfl rfl (dq_op tab rfl rfl rfl rfl (dr_op rfl rfl rfl rfl rfl callable_94 (pkt_texts ⟨k, f1, f2, f3, f4, f5, f6, f7, d⟩ rfl) (dq_op tab rfl rfl rfl rfl (dn_op tab rfl rfl rfl rfl (ds_op tab rfl rfl rfl rfl (vd_nil (by kernel_rfl) ?_))))))))))))))))
    refine qth (wsq (wrg (vR rfl callable_64 (pkt_partsN (k := k) (f1 := 0) (f2 := 0) (f3 := 0) (f4 := 0) (f5 := 0) (f6 := 0) (f7 := 0) (d := if pktText k = true then d else ⟨#[]⟩) rfl (by omega)) ?_)))
    refine vQ tab rfl (vnl (qth (wsq (wsq (wrg (vQ tab rfl (vR rfl callable_64 (pkt_partsN (k := k) (f1 := f1) (f2 := f2) (f3 := f3) (f4 := f4) (f5 := f5) (f6 := f6) (f7 := f7) (d := d) rfl (by omega)) ?_)))))))
    refine vQ tab rfl (vQ tab rfl (vnl (qth (wbk (vw_rounds 4 (rd_step (wsq (wrg (vQ tab rfl (vnl (qth (wsq (vc_false rfl (vw_exit (q_thenx (q_thenx (q_here (qth (wsq (wrg (vQ tab rfl (vS tab rfl (vnl ?_)))))))))))))))))))))))
    refine qth (vw_ret ?_)
    have hp : pktPlain ⟨k, f1, f2, f3, f4, f5, f6, f7, d⟩ = ⟨k, 0, 0, 0, 0, 0, 0, 0, if pktText k = true then d else ⟨#[]⟩⟩ := by simp [pktPlain, pktMake, pktNums, hk]
    rw [hp]
    exact ⟨⟨.inr rfl, rfl⟩, fun _ => rfl, trivial⟩
set_option maxHeartbeats 16000000 in
theorem pkt_may (a : PacketV) : Fun Try.prog 39 [pktV a] (.bool (pktMay a)) := by
  refine fun_of_vw tab Try.func39 rfl rfl (by simp [Try.f39]) (lrel_cons (pktRel a) lrel_nil) (.bool _) ?_
  obtain ⟨k, f1, f2, f3, f4, f5, f6, f7, d⟩ := a
  rcases (show k = 0 ∨ k = 1 ∨ k = 2 ∨ k = 3 ∨ k = 4 ∨ (k ≠ 0 ∧ k ≠ 1 ∧ k ≠ 2 ∧ k ≠ 3 ∧ k ≠ 4) by omega) with rfl | rfl | rfl | rfl | rfl | hk
  · refine wsq (wrg (vN tab rfl (vQ tab rfl (vnl (qth (wsq (wsq (wrg (vQ tab rfl (vQ tab rfl (vnl (qth (wbk (wsq (wbk (wsq (wbk (wsq (wsq (wsq (wrg (vQ tab rfl (vQ tab rfl ?_)))))))))))))))))))))))
    refine vnl (qth (vc_false rfl (vw_skip (qth (wsq (wsq (wrg (vQ tab rfl (vQ tab rfl (vnl (qth (vc_true rfl (vw_skip (qth (vc_true rfl (vw_exit (q_thenx (q_out rfl (q_thenx (q_here (qth (wsq (wsq ?_)))))))))))))))))))))))
    refine wsq (wrg (vT rfl callable_64 (pkt_parts0 (f1 := f1) (f2 := f2) (f3 := f3) (f4 := f4) (f5 := f5) (f6 := f6) (f7 := f7) (d := d) rfl (by decide)) ?_))
    refine vQ tab rfl (vQ tab rfl (vnl (qth (wbk (vw_rounds 4 (rd_step (wsq (wrg (vQ tab rfl (vnl (qth (wsq (vc_true rfl (vw_skip (qth (wsq (wbk (wsq (wrg (vQ tab rfl (vQ tab rfl (vQ tab rfl (vnl ?_)))))))))))))))))))))))
    refine qth (wsq (wrg (vQ tab rfl (vQ tab rfl (vQ tab rfl (vF rfl callable_65 (nummay_fun _) (vQ tab rfl (vnl (qth ?_)))))))))
    refine vc_part rfl (fun _ => ?_) (fun _ => ?_)
    refine wsq (wrg (vQ tab rfl (vnl (qth (vw_ret (q_ret (q_thenr (q_thenr (q_ret (q_thenr (q_thenr (q_ret (q_thenr ?_)))))))))))))
    rotate_left
    refine vw_skip (q_norm (qth (wrg (vQ tab rfl (vQ tab rfl (vnl (qth (rd_step (wsq (wrg (vQ tab rfl (vnl (qth (wsq (vc_true rfl (vw_skip (qth (wsq (wbk (wsq (wrg (vQ tab rfl (vQ tab rfl ?_)))))))))))))))))))))))
    refine vQ tab rfl (vnl (qth (wsq (wrg (vQ tab rfl (vQ tab rfl (vQ tab rfl (vF rfl callable_65 (nummay_fun _) (vQ tab rfl (vnl (qth ?_)))))))))))
    refine vc_part rfl (fun _ => ?_) (fun _ => ?_)
    refine wsq (wrg (vQ tab rfl (vnl (qth (vw_ret (q_ret (q_thenr (q_thenr (q_ret (q_thenr (q_thenr (q_ret (q_thenr ?_)))))))))))))
    rotate_left
    refine vw_skip (q_norm (qth (wrg (vQ tab rfl (vQ tab rfl (vnl (qth (rd_step (wsq (wrg (vQ tab rfl (vnl (qth (wsq (vc_false rfl (vw_exit (q_thenx (q_thenx (q_here (qth (wsq (vw_draw mixed (dq_op tab rfl rfl rfl rfl ?_)))))))))))))))))))))))
    refine dr_op rfl rfl rfl rfl rfl callable_66 (pkt_plain ⟨0, f1, f2, f3, f4, f5, f6, f7, d⟩ rfl) (dq_op tab rfl rfl (ev_eql rfl rfl rfl (pkt_eq ⟨0, f1, f2, f3, f4, f5, f6, f7, d⟩ (pktPlain ⟨0, f1, f2, f3, f4, f5, f6, f7, d⟩))) (ev_eql rfl rfl rfl (pkt_eq ⟨0, f1, f2, f3, f4, f5, f6, f7, d⟩ (pktPlain ⟨0, f1, f2, f3, f4, f5, f6, f7, d⟩))) (dq_op tab rfl rfl rfl rfl (vd_nil (by kernel_rfl) ?_)))
    refine qth (vw_ret (q_thenr (q_ret (q_thenr ?_))))
    rotate_left
    all_goals exact ⟨.inr rfl, Eq.trans (b := some (.bool _)) rfl (congrArg (fun b => some (Value.bool b)) (by simp_all [pktMay, pktNums] <;> (intros; omega)))⟩
  · refine wsq (wrg (vN tab rfl (vQ tab rfl (vnl (qth (wsq (wsq (wrg (vQ tab rfl (vQ tab rfl (vnl (qth (wbk (wsq (wbk (wsq (wbk (wsq (wsq (wsq (wrg (vQ tab rfl (vQ tab rfl ?_)))))))))))))))))))))))
    refine vnl (qth (vc_false rfl (vw_skip (qth (wsq (wsq (wrg (vQ tab rfl (vQ tab rfl (vnl (qth (vc_false rfl (wsq (wrg (vQ tab rfl (vQ tab rfl (vnl (qth (vc_true rfl (vw_skip (qth (vc_true rfl (vw_exit ?_)))))))))))))))))))))))
    refine q_thenx (q_out rfl (q_thenx (q_here (qth (wsq (wsq (wsq (wrg (vT rfl callable_64 (pkt_parts1 (f1 := f1) (f2 := f2) (f3 := f3) (f4 := f4) (f5 := f5) (f6 := f6) (f7 := f7) (d := d) rfl (by decide)) ?_)))))))))
    refine vQ tab rfl (vQ tab rfl (vnl (qth (wbk (vw_rounds 4 (rd_step (wsq (wrg (vQ tab rfl (vnl (qth (wsq (vc_true rfl (vw_skip (qth (wsq (wbk (wsq (wrg (vQ tab rfl (vQ tab rfl (vQ tab rfl (vnl ?_)))))))))))))))))))))))
    refine qth (wsq (wrg (vQ tab rfl (vQ tab rfl (vQ tab rfl (vF rfl callable_65 (nummay_fun _) (vQ tab rfl (vnl (qth ?_)))))))))
    refine vc_part rfl (fun _ => ?_) (fun _ => ?_)
    refine wsq (wrg (vQ tab rfl (vnl (qth (vw_ret (q_ret (q_thenr (q_thenr (q_ret (q_thenr (q_thenr (q_ret (q_thenr ?_)))))))))))))
    rotate_left
    refine vw_skip (q_norm (qth (wrg (vQ tab rfl (vQ tab rfl (vnl (qth (rd_step (wsq (wrg (vQ tab rfl (vnl (qth (wsq (vc_true rfl (vw_skip (qth (wsq (wbk (wsq (wrg (vQ tab rfl (vQ tab rfl ?_)))))))))))))))))))))))
    refine vQ tab rfl (vnl (qth (wsq (wrg (vQ tab rfl (vQ tab rfl (vQ tab rfl (vF rfl callable_65 (nummay_fun _) (vQ tab rfl (vnl (qth ?_)))))))))))
    refine vc_part rfl (fun _ => ?_) (fun _ => ?_)
    refine wsq (wrg (vQ tab rfl (vnl (qth (vw_ret (q_ret (q_thenr (q_thenr (q_ret (q_thenr (q_thenr (q_ret (q_thenr ?_)))))))))))))
    rotate_left
    refine vw_skip (q_norm (qth (wrg (vQ tab rfl (vQ tab rfl (vnl (qth (rd_step (wsq (wrg (vQ tab rfl (vnl (qth (wsq (vc_true rfl (vw_skip (qth (wsq (wbk (wsq (wrg (vQ tab rfl (vQ tab rfl ?_)))))))))))))))))))))))
    refine vQ tab rfl (vnl (qth (wsq (wrg (vQ tab rfl (vQ tab rfl (vQ tab rfl (vF rfl callable_65 (nummay_fun _) (vQ tab rfl (vnl (qth ?_)))))))))))
    refine vc_part rfl (fun _ => ?_) (fun _ => ?_)
    refine wsq (wrg (vQ tab rfl (vnl (qth (vw_ret (q_ret (q_thenr (q_thenr (q_ret (q_thenr (q_thenr (q_ret (q_thenr ?_)))))))))))))
    rotate_left
    refine vw_skip (q_norm (qth (wrg (vQ tab rfl (vQ tab rfl (vnl (qth (rd_step (wsq (wrg (vQ tab rfl (vnl (qth (wsq (vc_false rfl (vw_exit (q_thenx (q_thenx (q_here (qth (wsq (vw_draw mixed (dq_op tab rfl rfl rfl rfl ?_)))))))))))))))))))))))
    refine dr_op rfl rfl rfl rfl rfl callable_66 (pkt_plain ⟨1, f1, f2, f3, f4, f5, f6, f7, d⟩ rfl) (dq_op tab rfl rfl (ev_eql rfl rfl rfl (pkt_eq ⟨1, f1, f2, f3, f4, f5, f6, f7, d⟩ (pktPlain ⟨1, f1, f2, f3, f4, f5, f6, f7, d⟩))) (ev_eql rfl rfl rfl (pkt_eq ⟨1, f1, f2, f3, f4, f5, f6, f7, d⟩ (pktPlain ⟨1, f1, f2, f3, f4, f5, f6, f7, d⟩))) (dq_op tab rfl rfl rfl rfl (vd_nil (by kernel_rfl) ?_)))
    refine qth (vw_ret (q_thenr (q_ret (q_thenr ?_))))
    rotate_left
    all_goals exact ⟨.inr rfl, Eq.trans (b := some (.bool _)) rfl (congrArg (fun b => some (Value.bool b)) (by simp_all [pktMay, pktNums] <;> (intros; omega)))⟩
  · refine wsq (wrg (vN tab rfl (vQ tab rfl (vnl (qth (wsq (wsq (wrg (vQ tab rfl (vQ tab rfl (vnl (qth (wbk (wsq (wbk (wsq (wbk (wsq (wsq (wsq (wrg (vQ tab rfl (vQ tab rfl ?_)))))))))))))))))))))))
    refine vnl (qth (vc_false rfl (vw_skip (qth (wsq (wsq (wrg (vQ tab rfl (vQ tab rfl (vnl (qth (vc_false rfl (wsq (wrg (vQ tab rfl (vQ tab rfl (vnl (qth (vc_false rfl (wsq (wrg (vQ tab rfl (vQ tab rfl ?_)))))))))))))))))))))))
    refine vnl (qth (vc_true rfl (vw_skip (qth (vc_true rfl (vw_exit (q_thenx (q_out rfl (q_thenx (q_here (qth (wsq (wsq (wsq (wrg (vT rfl callable_64 (pkt_parts2 (f1 := f1) (f2 := f2) (f3 := f3) (f4 := f4) (f5 := f5) (f6 := f6) (f7 := f7) (d := d) rfl (by decide)) ?_))))))))))))))))
    refine vQ tab rfl (vQ tab rfl (vnl (qth (wbk (vw_rounds 4 (rd_step (wsq (wrg (vQ tab rfl (vnl (qth (wsq (vc_true rfl (vw_skip (qth (wsq (wbk (wsq (wrg (vQ tab rfl (vQ tab rfl (vQ tab rfl (vnl ?_)))))))))))))))))))))))
    refine qth (wsq (wrg (vQ tab rfl (vQ tab rfl (vQ tab rfl (vF rfl callable_65 (nummay_fun _) (vQ tab rfl (vnl (qth ?_)))))))))
    refine vc_part rfl (fun _ => ?_) (fun _ => ?_)
    refine wsq (wrg (vQ tab rfl (vnl (qth (vw_ret (q_ret (q_thenr (q_thenr (q_ret (q_thenr (q_thenr (q_ret (q_thenr ?_)))))))))))))
    rotate_left
    refine vw_skip (q_norm (qth (wrg (vQ tab rfl (vQ tab rfl (vnl (qth (rd_step (wsq (wrg (vQ tab rfl (vnl (qth (wsq (vc_true rfl (vw_skip (qth (wsq (wbk (wsq (wrg (vQ tab rfl (vQ tab rfl ?_)))))))))))))))))))))))
    refine vQ tab rfl (vnl (qth (wsq (wrg (vQ tab rfl (vQ tab rfl (vQ tab rfl (vF rfl callable_65 (nummay_fun _) (vQ tab rfl (vnl (qth ?_)))))))))))
    refine vc_part rfl (fun _ => ?_) (fun _ => ?_)
    refine wsq (wrg (vQ tab rfl (vnl (qth (vw_ret (q_ret (q_thenr (q_thenr (q_ret (q_thenr (q_thenr (q_ret (q_thenr ?_)))))))))))))
    rotate_left
    refine vw_skip (q_norm (qth (wrg (vQ tab rfl (vQ tab rfl (vnl (qth (rd_step (wsq (wrg (vQ tab rfl (vnl (qth (wsq (vc_true rfl (vw_skip (qth (wsq (wbk (wsq (wrg (vQ tab rfl (vQ tab rfl ?_)))))))))))))))))))))))
    refine vQ tab rfl (vnl (qth (wsq (wrg (vQ tab rfl (vQ tab rfl (vQ tab rfl (vF rfl callable_65 (nummay_fun _) (vQ tab rfl (vnl (qth ?_)))))))))))
    refine vc_part rfl (fun _ => ?_) (fun _ => ?_)
    refine wsq (wrg (vQ tab rfl (vnl (qth (vw_ret (q_ret (q_thenr (q_thenr (q_ret (q_thenr (q_thenr (q_ret (q_thenr ?_)))))))))))))
    rotate_left
    refine vw_skip (q_norm (qth (wrg (vQ tab rfl (vQ tab rfl (vnl (qth (rd_step (wsq (wrg (vQ tab rfl (vnl (qth (wsq (vc_false rfl (vw_exit (q_thenx (q_thenx (q_here (qth (wsq (vw_draw mixed (dq_op tab rfl rfl rfl rfl ?_)))))))))))))))))))))))
    refine dr_op rfl rfl rfl rfl rfl callable_66 (pkt_plain ⟨2, f1, f2, f3, f4, f5, f6, f7, d⟩ rfl) (dq_op tab rfl rfl (ev_eql rfl rfl rfl (pkt_eq ⟨2, f1, f2, f3, f4, f5, f6, f7, d⟩ (pktPlain ⟨2, f1, f2, f3, f4, f5, f6, f7, d⟩))) (ev_eql rfl rfl rfl (pkt_eq ⟨2, f1, f2, f3, f4, f5, f6, f7, d⟩ (pktPlain ⟨2, f1, f2, f3, f4, f5, f6, f7, d⟩))) (dq_op tab rfl rfl rfl rfl (vd_nil (by kernel_rfl) ?_)))
    refine qth (vw_ret (q_thenr (q_ret (q_thenr ?_))))
    rotate_left
    all_goals exact ⟨.inr rfl, Eq.trans (b := some (.bool _)) rfl (congrArg (fun b => some (Value.bool b)) (by simp_all [pktMay, pktNums] <;> (intros; omega)))⟩
  · refine wsq (wrg (vN tab rfl (vQ tab rfl (vnl (qth (wsq (wsq (wrg (vQ tab rfl (vQ tab rfl (vnl (qth (wbk (wsq (wbk (wsq (wbk (wsq (wsq (wsq (wrg (vQ tab rfl (vQ tab rfl ?_)))))))))))))))))))))))
    refine vnl (qth (vc_true rfl (vw_exit (q_thenx (q_thenx (q_here (qth (wsq (wrg (vQ tab rfl (vQ tab rfl (vQ tab rfl (vQ tab rfl ?_)))))))))))))
    refine vg_op rfl rfl rfl (fun _ => ?_) (fun _ => ?_)
    refine vQ tab rfl (vQ tab rfl (vQ tab rfl (vQ tab rfl (vQ tab rfl (vnl (qth ?_))))))
    refine vc_part rfl (fun _ => ?_) (fun _ => ?_)
    refine wsq (wrg (vQ tab rfl (vnl (qth (vw_ret (q_ret (q_thenr (q_ret (q_thenr ?_)))))))))
    rotate_left
    refine vw_skip (q_norm (qth (wsq (wsq (wsq (wrg (vT rfl callable_64 (pkt_parts3 (f1 := f1) (f2 := f2) (f3 := f3) (f4 := f4) (f5 := f5) (f6 := f6) (f7 := f7) (d := d) rfl (by decide)) ?_)))))))
    refine vQ tab rfl (vQ tab rfl (vnl (qth (wbk (vw_rounds 4 (rd_step (wsq (wrg (vQ tab rfl (vnl (qth (wsq (vc_true rfl (vw_skip (qth (wsq (wbk (wsq (wrg (vQ tab rfl (vQ tab rfl (vQ tab rfl (vnl ?_)))))))))))))))))))))))
    refine qth (wsq (wrg (vQ tab rfl (vQ tab rfl (vQ tab rfl (vF rfl callable_65 (nummay_fun _) (vQ tab rfl (vnl (qth ?_)))))))))
    refine vc_part rfl (fun _ => ?_) (fun _ => ?_)
    refine wsq (wrg (vQ tab rfl (vnl (qth (vw_ret (q_ret (q_thenr (q_thenr (q_ret (q_thenr (q_thenr (q_ret (q_thenr ?_)))))))))))))
    rotate_left
    refine vw_skip (q_norm (qth (wrg (vQ tab rfl (vQ tab rfl (vnl (qth (rd_step (wsq (wrg (vQ tab rfl (vnl (qth (wsq (vc_true rfl (vw_skip (qth (wsq (wbk (wsq (wrg (vQ tab rfl (vQ tab rfl ?_)))))))))))))))))))))))
    refine vQ tab rfl (vnl (qth (wsq (wrg (vQ tab rfl (vQ tab rfl (vQ tab rfl (vF rfl callable_65 (nummay_fun _) (vQ tab rfl (vnl (qth ?_)))))))))))
    refine vc_part rfl (fun _ => ?_) (fun _ => ?_)
    refine wsq (wrg (vQ tab rfl (vnl (qth (vw_ret (q_ret (q_thenr (q_thenr (q_ret (q_thenr (q_thenr (q_ret (q_thenr ?_)))))))))))))
    rotate_left
    refine vw_skip (q_norm (qth (wrg (vQ tab rfl (vQ tab rfl (vnl (qth (rd_step (wsq (wrg (vQ tab rfl (vnl (qth (wsq (vc_true rfl (vw_skip (qth (wsq (wbk (wsq (wrg (vQ tab rfl (vQ tab rfl ?_)))))))))))))))))))))))
    refine vQ tab rfl (vnl (qth (wsq (wrg (vQ tab rfl (vQ tab rfl (vQ tab rfl (vF rfl callable_65 (nummay_fun _) (vQ tab rfl (vnl (qth ?_)))))))))))
    refine vc_part rfl (fun _ => ?_) (fun _ => ?_)
    refine wsq (wrg (vQ tab rfl (vnl (qth (vw_ret (q_ret (q_thenr (q_thenr (q_ret (q_thenr (q_thenr (q_ret (q_thenr ?_)))))))))))))
    rotate_left
    refine vw_skip (q_norm (qth (wrg (vQ tab rfl (vQ tab rfl (vnl (qth (rd_step (wsq (wrg (vQ tab rfl (vnl (qth (wsq (vc_false rfl (vw_exit (q_thenx (q_thenx (q_here (qth (wsq (vw_draw mixed (dq_op tab rfl rfl rfl rfl ?_)))))))))))))))))))))))
    refine dr_op rfl rfl rfl rfl rfl callable_66 (pkt_plain ⟨3, f1, f2, f3, f4, f5, f6, f7, d⟩ rfl) (dq_op tab rfl rfl (ev_eql rfl rfl rfl (pkt_eq ⟨3, f1, f2, f3, f4, f5, f6, f7, d⟩ (pktPlain ⟨3, f1, f2, f3, f4, f5, f6, f7, d⟩))) (ev_eql rfl rfl rfl (pkt_eq ⟨3, f1, f2, f3, f4, f5, f6, f7, d⟩ (pktPlain ⟨3, f1, f2, f3, f4, f5, f6, f7, d⟩))) (dq_op tab rfl rfl rfl rfl (vd_nil (by kernel_rfl) ?_)))
    refine qth (vw_ret (q_thenr (q_ret (q_thenr ?_))))
    rotate_left
    refine vK rfl (vK rfl (vK rfl (vK rfl (vQ tab rfl (vnl (qth (vc_true rfl (wsq (wrg (vQ tab rfl (vnl (qth (vw_ret (q_ret (q_thenr (q_ret (q_thenr ?_)))))))))))))))))
    rotate_left
    all_goals exact ⟨.inr rfl, Eq.trans (b := some (.bool _)) rfl (congrArg (fun b => some (Value.bool b)) (by simp_all [pktMay, pktNums] <;> (intros; omega)))⟩
  · refine wsq (wrg (vN tab rfl (vQ tab rfl (vnl (qth (wsq (wsq (wrg (vQ tab rfl (vQ tab rfl (vnl (qth (wbk (wsq (wbk (wsq (wbk (wsq (wsq (wsq (wrg (vQ tab rfl (vQ tab rfl ?_)))))))))))))))))))))))
    refine vnl (qth (vc_false rfl (vw_skip (qth (wsq (wsq (wrg (vQ tab rfl (vQ tab rfl (vnl (qth (vc_false rfl (wsq (wrg (vQ tab rfl (vQ tab rfl (vnl (qth (vc_false rfl (wsq (wrg (vQ tab rfl (vQ tab rfl ?_)))))))))))))))))))))))
    refine vnl (qth (vc_false rfl (wrg (vQ tab rfl (vQ tab rfl (vnl (qth (vc_true rfl (vw_exit (q_thenx (q_out rfl (q_thenx (q_here (qth (wsq (wsq (wsq (wrg (vT rfl callable_64 (pkt_parts4 (f1 := f1) (f2 := f2) (f3 := f3) (f4 := f4) (f5 := f5) (f6 := f6) (f7 := f7) (d := d) rfl (by decide)) ?_)))))))))))))))))))
    refine vQ tab rfl (vQ tab rfl (vnl (qth (wbk (vw_rounds 4 (rd_step (wsq (wrg (vQ tab rfl (vnl (qth (wsq (vc_true rfl (vw_skip (qth (wsq (wbk (wsq (wrg (vQ tab rfl (vQ tab rfl (vQ tab rfl (vnl ?_)))))))))))))))))))))))
    refine qth (wsq (wrg (vQ tab rfl (vQ tab rfl (vQ tab rfl (vF rfl callable_65 (nummay_fun _) (vQ tab rfl (vnl (qth ?_)))))))))
    refine vc_part rfl (fun _ => ?_) (fun _ => ?_)
    refine wsq (wrg (vQ tab rfl (vnl (qth (vw_ret (q_ret (q_thenr (q_thenr (q_ret (q_thenr (q_thenr (q_ret (q_thenr ?_)))))))))))))
    rotate_left
    refine vw_skip (q_norm (qth (wrg (vQ tab rfl (vQ tab rfl (vnl (qth (rd_step (wsq (wrg (vQ tab rfl (vnl (qth (wsq (vc_true rfl (vw_skip (qth (wsq (wbk (wsq (wrg (vQ tab rfl (vQ tab rfl ?_)))))))))))))))))))))))
    refine vQ tab rfl (vnl (qth (wsq (wrg (vQ tab rfl (vQ tab rfl (vQ tab rfl (vF rfl callable_65 (nummay_fun _) (vQ tab rfl (vnl (qth ?_)))))))))))
    refine vc_part rfl (fun _ => ?_) (fun _ => ?_)
    refine wsq (wrg (vQ tab rfl (vnl (qth (vw_ret (q_ret (q_thenr (q_thenr (q_ret (q_thenr (q_thenr (q_ret (q_thenr ?_)))))))))))))
    rotate_left
    refine vw_skip (q_norm (qth (wrg (vQ tab rfl (vQ tab rfl (vnl (qth (rd_step (wsq (wrg (vQ tab rfl (vnl (qth (wsq (vc_false rfl (vw_exit (q_thenx (q_thenx (q_here (qth (wsq (vw_draw mixed (dq_op tab rfl rfl rfl rfl ?_)))))))))))))))))))))))
    refine dr_op rfl rfl rfl rfl rfl callable_66 (pkt_plain ⟨4, f1, f2, f3, f4, f5, f6, f7, d⟩ rfl) (dq_op tab rfl rfl (ev_eql rfl rfl rfl (pkt_eq ⟨4, f1, f2, f3, f4, f5, f6, f7, d⟩ (pktPlain ⟨4, f1, f2, f3, f4, f5, f6, f7, d⟩))) (ev_eql rfl rfl rfl (pkt_eq ⟨4, f1, f2, f3, f4, f5, f6, f7, d⟩ (pktPlain ⟨4, f1, f2, f3, f4, f5, f6, f7, d⟩))) (dq_op tab rfl rfl rfl rfl (vd_nil (by kernel_rfl) ?_)))
    refine qth (vw_ret (q_thenr (q_ret (q_thenr ?_))))
    rotate_left
    all_goals exact ⟨.inr rfl, Eq.trans (b := some (.bool _)) rfl (congrArg (fun b => some (Value.bool b)) (by simp_all [pktMay, pktNums] <;> (intros; omega)))⟩
  · refine wsq (wrg (vN tab rfl (vQ tab rfl (vnl (qth (wsq (wsq (wrg (vQ tab rfl (vQ tab rfl (vnl (qth (wbk (wsq (wbk (wsq (wbk (wsq (wsq (wsq (wrg (vQ tab rfl (vQ tab rfl ?_)))))))))))))))))))))))
    refine vnl (qth (vcd_false rfl (by simp only [decide_eq_true_eq, decide_eq_false_iff_not, Bool.not_eq_eq_eq_not, Bool.not_true, Bool.not_false, bne_iff_ne, bne_eq_false_iff_eq, beq_iff_eq, beq_eq_false_iff_ne, ne_eq, beq_self_eq_true, bne_self_eq_false, Bool.and_eq_true, Bool.and_eq_false_iff, Bool.or_eq_true, Bool.or_eq_false_iff, and_self, and_true, true_and, Bool.false_eq_true, Bool.true_eq_false, not_false_eq_true, not_true_eq_false]; first | done | omega) ?_))
    refine vw_skip (qth (wsq (wsq (wrg (vQ tab rfl (vQ tab rfl (vnl (qth (vcd_false rfl (by simp only [decide_eq_true_eq, decide_eq_false_iff_not, Bool.not_eq_eq_eq_not, Bool.not_true, Bool.not_false, bne_iff_ne, bne_eq_false_iff_eq, beq_iff_eq, beq_eq_false_iff_ne, ne_eq, beq_self_eq_true, bne_self_eq_false, Bool.and_eq_true, Bool.and_eq_false_iff, Bool.or_eq_true, Bool.or_eq_false_iff, and_self, and_true, true_and, Bool.false_eq_true, Bool.true_eq_false, not_false_eq_true, not_true_eq_false]; first | done | omega) ?_)))))))))
    refine wsq (wrg (vQ tab rfl (vQ tab rfl (vnl (qth (vcd_false rfl (by simp only [decide_eq_true_eq, decide_eq_false_iff_not, Bool.not_eq_eq_eq_not, Bool.not_true, Bool.not_false, bne_iff_ne, bne_eq_false_iff_eq, beq_iff_eq, beq_eq_false_iff_ne, ne_eq, beq_self_eq_true, bne_self_eq_false, Bool.and_eq_true, Bool.and_eq_false_iff, Bool.or_eq_true, Bool.or_eq_false_iff, and_self, and_true, true_and, Bool.false_eq_true, Bool.true_eq_false, not_false_eq_true, not_true_eq_false]; first | done | omega) ?_))))))
    refine wsq (wrg (vQ tab rfl (vQ tab rfl (vnl (qth (vcd_false rfl (by simp only [decide_eq_true_eq, decide_eq_false_iff_not, Bool.not_eq_eq_eq_not, Bool.not_true, Bool.not_false, bne_iff_ne, bne_eq_false_iff_eq, beq_iff_eq, beq_eq_false_iff_ne, ne_eq, beq_self_eq_true, bne_self_eq_false, Bool.and_eq_true, Bool.and_eq_false_iff, Bool.or_eq_true, Bool.or_eq_false_iff, and_self, and_true, true_and, Bool.false_eq_true, Bool.true_eq_false, not_false_eq_true, not_true_eq_false]; first | done | omega) ?_))))))
    refine wrg (vQ tab rfl (vQ tab rfl (vnl (qth (vcd_false rfl (by simp only [decide_eq_true_eq, decide_eq_false_iff_not, Bool.not_eq_eq_eq_not, Bool.not_true, Bool.not_false, bne_iff_ne, bne_eq_false_iff_eq, beq_iff_eq, beq_eq_false_iff_ne, ne_eq, beq_self_eq_true, bne_self_eq_false, Bool.and_eq_true, Bool.and_eq_false_iff, Bool.or_eq_true, Bool.or_eq_false_iff, and_self, and_true, true_and, Bool.false_eq_true, Bool.true_eq_false, not_false_eq_true, not_true_eq_false]; first | done | omega) ?_)))))
    refine vw_skip (qth (vw_exit (q_out rfl (q_thenx (q_out rfl (q_thenx (q_here (qth (wsq (wrg (vQ tab rfl (vnl (qth (vw_ret ?_))))))))))))))
    all_goals exact ⟨.inr rfl, Eq.trans (b := some (.bool _)) rfl (congrArg (fun b => some (Value.bool b)) (by simp_all [pktMay, pktNums] <;> (intros; omega)))⟩
end Go.Proofs.Ytjkidjplbddmmaa
