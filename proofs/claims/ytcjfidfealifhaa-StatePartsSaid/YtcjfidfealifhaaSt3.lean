/- Package state: User; a number that rises. -/
import Derived.Test.YtcjfidfealifhaaVg1
import Derived.Test.YtcjfidfealifhaaSt2
import Derived.Test.YtcjfidfealifhaaSr0
namespace Go.Proofs.Ytcjfidfealifhaa
open Go Vm IntWalk
set_option linter.unusedVariables false
set_option linter.unusedSimpArgs false
/-- Where a user lies. -/
def usrP (u : Nat) (us : List UserV) (k : Int) : Value := match userAt us k with
  | none => .pointer none
  | some j => .pointer (some ⟨u, 0 + j * 9, none⟩)
theorem user_found {us : List UserV} {k : Int} {j : Nat} (h : userAt us k = some j) : j < us.length ∧ findI (fun a : UserV => a.user == k) us = j := by
  unfold userAt at h
  refine ⟨?_, by unfold findI; rw [h]⟩
  rw [List.findIdx?_eq_some_iff_getElem] at h
  exact h.1
set_option maxHeartbeats 4000000 in
theorem usr_tri {V : Heap} {n t c e u x a p : Nat} {cf : ConfV} {ev : EventV} {s : StV} (h : TurnAt V t c e u x a p cf ev s) (hb : s.users.length * 72 ≤ 140737488355328) (k : Int) :
    Tri Try.prog 42 [.pointer (some ⟨t, 1, none⟩), .int .i64 k] n 0 V (fun r L => r = usrP u s.users k ∧ L = []) := by
  obtain ⟨ht, hc, he, hu, hx, ha, hp, hn⟩ := h
  simp only [List.nodup_cons, List.mem_cons, List.not_mem_nil, or_false, not_or, List.nodup_nil, and_true, not_false_eq_true] at hn
  obtain ⟨⟨d1, d2, d3, d4, d5, d6⟩, ⟨e1, e2, e3, e4, e5⟩, ⟨f1, f2, f3, f4⟩, ⟨g1, g2, g3⟩, ⟨i1, i2⟩, j1⟩ := hn
  cases hf : userAt s.users k with
  | none =>
    have hr : usrP u s.users k = .pointer none := by unfold usrP; rw [hf]
    have hfi : findI (fun a : UserV => a.user == k) s.users = -1 := by unfold findI; unfold userAt at hf; rw [hf]
    have hd : decide (findI (fun a : UserV => a.user == k) s.users < 0) = true := by rw [hfi]; rfl
    rw [hr]
    refine readsp_of_vw (K := 7) (argsI := [.pointer (some ⟨0, 1, none⟩), .int .i64 k]) tab Try.func42 rfl rfl (by simp [Try.f42]) [.own t, .own c, .own e, .own u, .own x, .own a, .own p] [turnO 1 3 4 5 6 2 s, confO cf, evtO ev, .opn (userR.cells s.users) 49 9, .opn (sessR.cells s.sess) 54 4, .opn (addrR.cells s.addrs) 58 3, .opn ((intR .i64).cells s.spent) 3 1] rfl (.own ht (ov_turn rfl (rel_ptr rfl) (rel_slice rfl rfl) (rel_slice rfl rfl) (rel_slice rfl rfl) (rel_slice rfl rfl) (rel_ptr rfl)) (.own hc (ov_conf rfl) (.own he (ov_evt rfl) (.own hu (ov_opn userR rfl) (.own hx (ov_opn sessR rfl) (.own ha (ov_opn addrR rfl) (.own hp (ov_opn (intR .i64) rfl) .nil))))))) (by simp [ownNames, *]) (by simp [ownNames, lookNames, *]) (al_cons (.val (rel_ptr rfl)) (al_cons (.val (.int _ _)) al_nil)) (seen_of (sn_own (sn_own (sn_own (sn_own (sn_own (sn_own (sn_own sn_nil)))))))) (fun _ _ => .nilPtr) ?_
    refine wsq (wrg (vN tab rfl (vQ tab rfl (vnl (qth (wsq (wrg (vQ tab rfl (vQ tab rfl (vQ tab rfl (vQ tab rfl (vQ tab rfl (vR rfl callable_46 (indexfunc_users (caps := [.pointer (some ⟨7, 0, none⟩)]) [.pointer (some ⟨1, 0, none⟩)] (fun a : UserV => a.user == k) [7] [.cells [.int .i64 k] 3 (0, 0)] (looks_opn userR (xs := s.users) rfl rfl) (by omega) (.own rfl (ov_cells _ _ rfl) .nil) (by decide) (by simp [lookNames]) (lrel_cons (rel_ptr rfl) lrel_nil) callable_55 (fun _ _ h x _ => user1_tri x (h 0 _ rfl))) ?_)))))))))))))
    refine vQ tab rfl (vnl (qth (wsq (wsq (wrg (vQ tab rfl (vQ tab rfl (vnl (qth (vcd_true rfl (by simp only [hd, decide_eq_true_eq, decide_eq_false_iff_not, Bool.not_eq_eq_eq_not, Bool.not_true, Bool.not_false, bne_iff_ne, bne_eq_false_iff_eq, beq_iff_eq, beq_eq_false_iff_ne, ne_eq, beq_self_eq_true, bne_self_eq_false, Bool.and_eq_true, Bool.and_eq_false_iff, Bool.or_eq_true, Bool.or_eq_false_iff, and_self, and_true, true_and, Bool.false_eq_true, Bool.true_eq_false, not_false_eq_true, not_true_eq_false]; first | done | omega) ?_))))))))))
    refine wsq (wrg (vQ tab rfl (vnl (qth (vw_ret (q_thenr ?_))))))
    exact ⟨⟨.inr rfl, rfl⟩, fun _ => rfl, fun _ => rfl, fun _ => rfl, fun _ => rfl, fun _ => rfl, fun _ => rfl, fun _ => rfl, trivial⟩
  | some j =>
    have hr : usrP u s.users k = .pointer (some ⟨u, 0 + j * 9, none⟩) := by unfold usrP; rw [hf]
    obtain ⟨hj, hfi⟩ := user_found hf
    have hd : decide (findI (fun a : UserV => a.user == k) s.users < 0) = false := decide_eq_false (by rw [hfi]; omega)
    rw [hr]
    refine readsp_of_vw (K := 7) (argsI := [.pointer (some ⟨0, 1, none⟩), .int .i64 k]) tab Try.func42 rfl rfl (by simp [Try.f42]) [.own t, .own c, .own e, .own u, .own x, .own a, .own p] [turnO 1 3 4 5 6 2 s, confO cf, evtO ev, .opn (userR.cells s.users) 49 9, .opn (sessR.cells s.sess) 54 4, .opn (addrR.cells s.addrs) 58 3, .opn ((intR .i64).cells s.spent) 3 1] rfl (.own ht (ov_turn rfl (rel_ptr rfl) (rel_slice rfl rfl) (rel_slice rfl rfl) (rel_slice rfl rfl) (rel_slice rfl rfl) (rel_ptr rfl)) (.own hc (ov_conf rfl) (.own he (ov_evt rfl) (.own hu (ov_opn userR rfl) (.own hx (ov_opn sessR rfl) (.own ha (ov_opn addrR rfl) (.own hp (ov_opn (intR .i64) rfl) .nil))))))) (by simp [ownNames, *]) (by simp [ownNames, lookNames, *]) (al_cons (.val (rel_ptr rfl)) (al_cons (.val (.int _ _)) al_nil)) (seen_of (sn_own (sn_own (sn_own (sn_own (sn_own (sn_own (sn_own sn_nil)))))))) (fun σ hσ => rel_ptr (j := 3) (off := 0 + j * 9) (hσ 3 _ rfl)) ?_
    refine wsq (wrg (vN tab rfl (vQ tab rfl (vnl (qth (wsq (wrg (vQ tab rfl (vQ tab rfl (vQ tab rfl (vQ tab rfl (vQ tab rfl (vR rfl callable_46 (indexfunc_users (caps := [.pointer (some ⟨7, 0, none⟩)]) [.pointer (some ⟨1, 0, none⟩)] (fun a : UserV => a.user == k) [7] [.cells [.int .i64 k] 3 (0, 0)] (looks_opn userR (xs := s.users) rfl rfl) (by omega) (.own rfl (ov_cells _ _ rfl) .nil) (by decide) (by simp [lookNames]) (lrel_cons (rel_ptr rfl) lrel_nil) callable_55 (fun _ _ h x _ => user1_tri x (h 0 _ rfl))) ?_)))))))))))))
    refine vQ tab rfl (vnl (qth (wsq (wsq (wrg (vQ tab rfl (vQ tab rfl (vnl (qth (vcd_false rfl (by simp only [hd, decide_eq_true_eq, decide_eq_false_iff_not, Bool.not_eq_eq_eq_not, Bool.not_true, Bool.not_false, bne_iff_ne, bne_eq_false_iff_eq, beq_iff_eq, beq_eq_false_iff_ne, ne_eq, beq_self_eq_true, bne_self_eq_false, Bool.and_eq_true, Bool.and_eq_false_iff, Bool.or_eq_true, Bool.or_eq_false_iff, and_self, and_true, true_and, Bool.false_eq_true, Bool.true_eq_false, not_false_eq_true, not_true_eq_false]; first | done | omega) ?_))))))))))
    refine vw_skip (qth (wsq (wrg (vQ tab rfl (vQ tab rfl (vQ tab rfl (vQ tab rfl (vQ tab rfl (vq_op tab rfl rfl rfl (ev_index rfl rfl rfl rfl rfl (by omega) (by omega)) ?_)))))))))
    refine vQ tab rfl (vnl (qth (vw_ret ?_)))
    exact ⟨⟨.inr rfl, by rw [hfi]; rfl⟩, fun _ => rfl, fun _ => rfl, fun _ => rfl, fun _ => rfl, fun _ => rfl, fun _ => rfl, fun _ => rfl, trivial⟩
end Go.Proofs.Ytcjfidfealifhaa
