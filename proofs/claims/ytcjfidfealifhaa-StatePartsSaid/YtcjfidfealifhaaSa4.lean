/- Package state: what an event makes of a state. -/
import Derived.Test.YtcjfidfealifhaaVg1
import Derived.Test.YtcjfidfealifhaaSa3
namespace Go.Proofs.Ytcjfidfealifhaa
open Go Vm IntWalk
set_option linter.unusedVariables false
set_option linter.unusedSimpArgs false
set_option maxHeartbeats 16000000
theorem kind_split {e : EventV} (h : evtMay e = true) : e.kind = 0 ∨ e.kind = 1 ∨ e.kind = 5 ∨ e.kind = 6 ∨ e.kind = 8 ∨ e.kind = 9 ∨ (e.kind = 2 ∨ e.kind = 3 ∨ e.kind = 4 ∨ e.kind = 7) := by
  have := evt_may_kind h; omega
section
variable {V : Heap} {n t c e u x a p : Nat} {cf : ConfV} {ev : EventV} {s : StV}
theorem does_ok {s' : StV} (h : TurnAt V t c e u x a p cf ev s) (hi : ∀ i ∈ [t, c, e, u, x, a, p], i < n) (hb1 : s.users.length * 72 ≤ 140737488351232) (hb2 : s.sess.length * 32 ≤ 140737488351232) (hb3 : s.addrs.length * 24 ≤ 140737488351232) (hb4 : s.spent.length * 8 ≤ 140737488351232) (hm : evtMay ev = true) (hE : doesE cf s ev = some s') :
    Tri Try.prog 24 [.pointer (some ⟨t, 0, none⟩)] n 4 V (fun r L => r = .bool true ∧ L = turnL t c e u x a p n s') := by
  obtain ⟨ht, hc, he, hu, hx, ha, hp, hn⟩ := h
  simp only [List.nodup_cons, List.mem_cons, List.not_mem_nil, or_false, not_or, List.nodup_nil, and_true, not_false_eq_true] at hn
  obtain ⟨⟨d1, d2, d3, d4, d5, d6⟩, ⟨e1, e2, e3, e4, e5⟩, ⟨f1, f2, f3, f4⟩, ⟨g1, g2, g3⟩, ⟨i1, i2⟩, j1⟩ := hn
  simp only [List.mem_cons, List.not_mem_nil, or_false, forall_eq_or_imp, forall_eq] at hi
  obtain ⟨l1, l2, l3, l4, l5, l6, l7⟩ := hi
  refine call_of_vw (K := 7) (argsI := [.pointer (some ⟨0, 0, none⟩)]) tab Try.func24 rfl rfl (by simp [Try.f24]) [.own t, .own c, .own e, .own u, .own x, .own a, .own p] [turnO 1 3 4 5 6 2 s, confO cf, evtO ev, .opn (userR.cells s.users) 49 9, .opn (sessR.cells s.sess) 54 4, .opn (addrR.cells s.addrs) 58 3, .opn ((intR .i64).cells s.spent) 3 1] rfl (.own ht (ov_turn rfl (rel_ptr rfl) (rel_slice rfl rfl) (rel_slice rfl rfl) (rel_slice rfl rfl) (rel_slice rfl rfl) (rel_ptr rfl)) (.own hc (ov_conf rfl) (.own he (ov_evt rfl) (.own hu (ov_opn userR rfl) (.own hx (ov_opn sessR rfl) (.own ha (ov_opn addrR rfl) (.own hp (ov_opn (intR .i64) rfl) .nil))))))) (by simp [ownNames, *]) (by simp [ownNames, lookNames, *]) (by simp [ownNames, *]) (al_cons (.val (rel_ptr rfl)) al_nil) (seen_of (sn_own (sn_own (sn_own (sn_own (sn_own (sn_own (sn_own sn_nil)))))))) ?_
  unfold doesE at hE
  rcases kind_split hm with hk | hk | hk | hk | hk | hk | hk
  · skip
    have k0 : (ev.kind == 0) = true := by rw [hk]; rfl
    have k1 : (ev.kind == 1) = false := by rw [hk]; rfl
    have k5 : (ev.kind == 5) = false := by rw [hk]; rfl
    have k6 : (ev.kind == 6) = false := by rw [hk]; rfl
    have k8 : (ev.kind == 8) = false := by rw [hk]; rfl
    have k9 : (ev.kind == 9) = false := by rw [hk]; rfl
    simp only [hk, if_true] at hE
    unfold bootE at hE
    obtain ⟨R, hR⟩ : ∃ R, freeAll (IntKind.i64.wrap (ev.tick + cf.quarantine)) s.sess s.addrs = R := ⟨_, rfl⟩
    rw [hR] at hE
    cases R with
    | none => cases hE
    | some fin =>
    simp only at hE
    split at hE
    case isFalse => cases hE
    rename_i hg
    cases hE
    refine wsq (wrg (vQ tab rfl (vnl (qth (wsq (wsq (wrg (vQ tab rfl (vQ tab rfl (vQ tab rfl (vQ tab rfl (vQ tab rfl (vQ tab rfl (vQ tab rfl (vnl (qth (wbk (wsq (wrg (vQ tab rfl (vQ tab rfl (vnl (qth ?_)))))))))))))))))))))))
    refine vcd_true rfl (by simp only [k0, k1, k5, k6, k8, k9, decide_eq_true_eq, decide_eq_false_iff_not, Bool.not_eq_eq_eq_not, Bool.not_true, Bool.not_false, bne_iff_ne, bne_eq_false_iff_eq, beq_iff_eq, beq_eq_false_iff_ne, ne_eq, beq_self_eq_true, bne_self_eq_false, Bool.and_eq_true, Bool.and_eq_false_iff, Bool.or_eq_true, Bool.or_eq_false_iff, and_self, and_true, true_and, Bool.false_eq_true, Bool.true_eq_false, not_false_eq_true, not_true_eq_false]; first | done | omega) ?_
    refine wsq (wrg (vQ tab rfl (vT rfl callable_35 (boot_ok (s := s) (cf := cf) (ev := ev) ⟨rfl, rfl, rfl, rfl, rfl, rfl, rfl, by decide⟩ (by decide) (by omega) (by omega) hR rfl hg) ?_)))
    refine vQ tab rfl (vnl (qth (vw_ret (q_ret (q_thenr ?_)))))
    exact out_mk [7, 8, 9, 10] (.inr rfl) ⟨rfl, rfl⟩ rfl (.bool _)
      (op_cons (sigma_own (a := 0) (by simp [ownNames, *]) rfl) rfl rfl (ov_turn2 (rel_ptr (sigma_own (a := 1) (by simp [ownNames, *]) rfl)) (rel_slice (sigma_at (i := 0) (by simp [ownNames, *]) rfl) rfl) (rel_slice (sigma_at (i := 1) (by simp [ownNames, *]) rfl) rfl) (rel_slice (sigma_at (i := 2) (by simp [ownNames, *]) rfl) rfl) (rel_slice (sigma_at (i := 3) (by simp [ownNames, *]) rfl) rfl) (rel_ptr (sigma_own (a := 2) (by simp [ownNames, *]) rfl))) rfl
        (op_drop (op_drop (op_drop (op_drop (op_drop (op_drop
          (op_cons (sigma_at (i := 0) (by simp [ownNames, *]) rfl) rfl rfl (ov_opn userR rfl) rfl (op_cons (sigma_at (i := 1) (by simp [ownNames, *]) rfl) rfl rfl (ov_opn sessR rfl) rfl (op_cons (sigma_at (i := 2) (by simp [ownNames, *]) rfl) rfl rfl (ov_opn addrR rfl) rfl (op_cons (sigma_at (i := 3) (by simp [ownNames, *]) rfl) rfl rfl (ov_opn (intR .i64) rfl) rfl op_nil)))))))))))
      (told_of (by simp [ownNames, turnL]))
  · skip
    have k0 : (ev.kind == 0) = false := by rw [hk]; rfl
    have k1 : (ev.kind == 1) = true := by rw [hk]; rfl
    have k5 : (ev.kind == 5) = false := by rw [hk]; rfl
    have k6 : (ev.kind == 6) = false := by rw [hk]; rfl
    have k8 : (ev.kind == 8) = false := by rw [hk]; rfl
    have k9 : (ev.kind == 9) = false := by rw [hk]; rfl
    simp only [hk, if_true] at hE
    simp only [show ¬ (1 : Int) = 0 by decide, if_false] at hE
    unfold userE at hE
    cases hk1 : userAt s.users ev.user with
    | some j => rw [hk1] at hE; cases hE
    | none =>
    rw [hk1] at hE; cases hE
    refine wsq (wrg (vQ tab rfl (vnl (qth (wsq (wsq (wrg (vQ tab rfl (vQ tab rfl (vQ tab rfl (vQ tab rfl (vQ tab rfl (vQ tab rfl (vQ tab rfl (vnl (qth (wbk (wsq (wrg (vQ tab rfl (vQ tab rfl (vnl (qth ?_)))))))))))))))))))))))
    refine vcd_false rfl (by simp only [k0, k1, k5, k6, k8, k9, decide_eq_true_eq, decide_eq_false_iff_not, Bool.not_eq_eq_eq_not, Bool.not_true, Bool.not_false, bne_iff_ne, bne_eq_false_iff_eq, beq_iff_eq, beq_eq_false_iff_ne, ne_eq, beq_self_eq_true, bne_self_eq_false, Bool.and_eq_true, Bool.and_eq_false_iff, Bool.or_eq_true, Bool.or_eq_false_iff, and_self, and_true, true_and, Bool.false_eq_true, Bool.true_eq_false, not_false_eq_true, not_true_eq_false]; first | done | omega) ?_
    refine wsq (wrg (vQ tab rfl (vQ tab rfl (vnl (qth (vcd_true rfl (by simp only [k0, k1, k5, k6, k8, k9, decide_eq_true_eq, decide_eq_false_iff_not, Bool.not_eq_eq_eq_not, Bool.not_true, Bool.not_false, bne_iff_ne, bne_eq_false_iff_eq, beq_iff_eq, beq_eq_false_iff_ne, ne_eq, beq_self_eq_true, bne_self_eq_false, Bool.and_eq_true, Bool.and_eq_false_iff, Bool.or_eq_true, Bool.or_eq_false_iff, and_self, and_true, true_and, Bool.false_eq_true, Bool.true_eq_false, not_false_eq_true, not_true_eq_false]; first | done | omega) ?_))))))
    refine wsq (wrg (vQ tab rfl (vT rfl callable_36 (user_put (s := s) (cf := cf) (ev := ev) ⟨rfl, rfl, rfl, rfl, rfl, rfl, rfl, by decide⟩ (by decide) hb1 hk1) ?_)))
    refine vQ tab rfl (vnl (qth (vw_ret (q_ret (q_thenr ?_)))))
    exact out_mk [7, 8, 9, 10] (.inr rfl) ⟨rfl, rfl⟩ rfl (.bool _)
      (op_cons (sigma_own (a := 0) (by simp [ownNames, *]) rfl) rfl rfl (ov_turn2 (rel_ptr (sigma_own (a := 1) (by simp [ownNames, *]) rfl)) (rel_slice (sigma_at (i := 0) (by simp [ownNames, *]) rfl) rfl) (rel_slice (sigma_at (i := 1) (by simp [ownNames, *]) rfl) rfl) (rel_slice (sigma_at (i := 2) (by simp [ownNames, *]) rfl) rfl) (rel_slice (sigma_at (i := 3) (by simp [ownNames, *]) rfl) rfl) (rel_ptr (sigma_own (a := 2) (by simp [ownNames, *]) rfl))) rfl
        (op_drop (op_drop (op_drop (op_drop (op_drop (op_drop
          (op_cons (sigma_at (i := 0) (by simp [ownNames, *]) rfl) rfl rfl (ov_opn userR rfl) rfl (op_cons (sigma_at (i := 1) (by simp [ownNames, *]) rfl) rfl rfl (ov_opn sessR rfl) rfl (op_cons (sigma_at (i := 2) (by simp [ownNames, *]) rfl) rfl rfl (ov_opn addrR rfl) rfl (op_cons (sigma_at (i := 3) (by simp [ownNames, *]) rfl) rfl rfl (ov_opn (intR .i64) rfl) rfl op_nil)))))))))))
      (told_of (by simp [ownNames, turnL]))
  · skip
    have k0 : (ev.kind == 0) = false := by rw [hk]; rfl
    have k1 : (ev.kind == 1) = false := by rw [hk]; rfl
    have k5 : (ev.kind == 5) = true := by rw [hk]; rfl
    have k6 : (ev.kind == 6) = false := by rw [hk]; rfl
    have k8 : (ev.kind == 8) = false := by rw [hk]; rfl
    have k9 : (ev.kind == 9) = false := by rw [hk]; rfl
    simp only [hk, if_true, if_false, show ¬ (5 : Int) = 0 by decide, show ¬ (5 : Int) = 1 by decide] at hE
    unfold leaseE at hE
    split at hE
    case isFalse => cases hE
    rename_i hq
    cases hE
    obtain ⟨q1, q2, q3, q4⟩ := hq
    obtain ⟨j, hj⟩ := Option.isSome_iff_exists.1 q3
    refine wsq (wrg (vQ tab rfl (vnl (qth (wsq (wsq (wrg (vQ tab rfl (vQ tab rfl (vQ tab rfl (vQ tab rfl (vQ tab rfl (vQ tab rfl (vQ tab rfl (vnl (qth (wbk (wsq (wrg (vQ tab rfl (vQ tab rfl (vnl (qth ?_)))))))))))))))))))))))
    refine vcd_false rfl (by simp only [k0, k1, k5, k6, k8, k9, decide_eq_true_eq, decide_eq_false_iff_not, Bool.not_eq_eq_eq_not, Bool.not_true, Bool.not_false, bne_iff_ne, bne_eq_false_iff_eq, beq_iff_eq, beq_eq_false_iff_ne, ne_eq, beq_self_eq_true, bne_self_eq_false, Bool.and_eq_true, Bool.and_eq_false_iff, Bool.or_eq_true, Bool.or_eq_false_iff, and_self, and_true, true_and, Bool.false_eq_true, Bool.true_eq_false, not_false_eq_true, not_true_eq_false]; first | done | omega) ?_
    refine wsq (wrg (vQ tab rfl (vQ tab rfl (vnl (qth (vcd_false rfl (by simp only [k0, k1, k5, k6, k8, k9, decide_eq_true_eq, decide_eq_false_iff_not, Bool.not_eq_eq_eq_not, Bool.not_true, Bool.not_false, bne_iff_ne, bne_eq_false_iff_eq, beq_iff_eq, beq_eq_false_iff_ne, ne_eq, beq_self_eq_true, bne_self_eq_false, Bool.and_eq_true, Bool.and_eq_false_iff, Bool.or_eq_true, Bool.or_eq_false_iff, and_self, and_true, true_and, Bool.false_eq_true, Bool.true_eq_false, not_false_eq_true, not_true_eq_false]; first | done | omega) ?_))))))
    refine wsq (wrg (vQ tab rfl (vQ tab rfl (vnl (qth (vcd_true rfl (by simp only [k0, k1, k5, k6, k8, k9, decide_eq_true_eq, decide_eq_false_iff_not, Bool.not_eq_eq_eq_not, Bool.not_true, Bool.not_false, bne_iff_ne, bne_eq_false_iff_eq, beq_iff_eq, beq_eq_false_iff_ne, ne_eq, beq_self_eq_true, bne_self_eq_false, Bool.and_eq_true, Bool.and_eq_false_iff, Bool.or_eq_true, Bool.or_eq_false_iff, and_self, and_true, true_and, Bool.false_eq_true, Bool.true_eq_false, not_false_eq_true, not_true_eq_false]; first | done | omega) ?_))))))
    refine wsq (wrg (vQ tab rfl (vT rfl callable_37 (lease_ok (s := s) (cf := cf) (ev := ev) ⟨rfl, rfl, rfl, rfl, rfl, rfl, rfl, by decide⟩ (by decide) (by omega) hb2 (by omega) q1 q2 hj q4) ?_)))
    refine vQ tab rfl (vnl (qth (vw_ret (q_ret (q_thenr ?_)))))
    exact out_mk [7, 8, 9, 10] (.inr rfl) ⟨rfl, rfl⟩ rfl (.bool _)
      (op_cons (sigma_own (a := 0) (by simp [ownNames, *]) rfl) rfl rfl (ov_turn2 (rel_ptr (sigma_own (a := 1) (by simp [ownNames, *]) rfl)) (rel_slice (sigma_at (i := 0) (by simp [ownNames, *]) rfl) rfl) (rel_slice (sigma_at (i := 1) (by simp [ownNames, *]) rfl) rfl) (rel_slice (sigma_at (i := 2) (by simp [ownNames, *]) rfl) rfl) (rel_slice (sigma_at (i := 3) (by simp [ownNames, *]) rfl) rfl) (rel_ptr (sigma_own (a := 2) (by simp [ownNames, *]) rfl))) rfl
        (op_drop (op_drop (op_drop (op_drop (op_drop (op_drop
          (op_cons (sigma_at (i := 0) (by simp [ownNames, *]) rfl) rfl rfl (ov_opn userR rfl) rfl (op_cons (sigma_at (i := 1) (by simp [ownNames, *]) rfl) rfl rfl (ov_opn sessR rfl) rfl (op_cons (sigma_at (i := 2) (by simp [ownNames, *]) rfl) rfl rfl (ov_opn addrR rfl) rfl (op_cons (sigma_at (i := 3) (by simp [ownNames, *]) rfl) rfl rfl (ov_opn (intR .i64) rfl) rfl op_nil)))))))))))
      (told_of (by simp [ownNames, turnL]))
  · skip
    have k0 : (ev.kind == 0) = false := by rw [hk]; rfl
    have k1 : (ev.kind == 1) = false := by rw [hk]; rfl
    have k5 : (ev.kind == 5) = false := by rw [hk]; rfl
    have k6 : (ev.kind == 6) = true := by rw [hk]; rfl
    have k8 : (ev.kind == 8) = false := by rw [hk]; rfl
    have k9 : (ev.kind == 9) = false := by rw [hk]; rfl
    simp only [hk, if_true, if_false, show ¬ (6 : Int) = 0 by decide, show ¬ (6 : Int) = 1 by decide, show ¬ (6 : Int) = 5 by decide] at hE
    refine wsq (wrg (vQ tab rfl (vnl (qth (wsq (wsq (wrg (vQ tab rfl (vQ tab rfl (vQ tab rfl (vQ tab rfl (vQ tab rfl (vQ tab rfl (vQ tab rfl (vnl (qth (wbk (wsq (wrg (vQ tab rfl (vQ tab rfl (vnl (qth ?_)))))))))))))))))))))))
    refine vcd_false rfl (by simp only [k0, k1, k5, k6, k8, k9, decide_eq_true_eq, decide_eq_false_iff_not, Bool.not_eq_eq_eq_not, Bool.not_true, Bool.not_false, bne_iff_ne, bne_eq_false_iff_eq, beq_iff_eq, beq_eq_false_iff_ne, ne_eq, beq_self_eq_true, bne_self_eq_false, Bool.and_eq_true, Bool.and_eq_false_iff, Bool.or_eq_true, Bool.or_eq_false_iff, and_self, and_true, true_and, Bool.false_eq_true, Bool.true_eq_false, not_false_eq_true, not_true_eq_false]; first | done | omega) ?_
    refine wsq (wrg (vQ tab rfl (vQ tab rfl (vnl (qth (vcd_false rfl (by simp only [k0, k1, k5, k6, k8, k9, decide_eq_true_eq, decide_eq_false_iff_not, Bool.not_eq_eq_eq_not, Bool.not_true, Bool.not_false, bne_iff_ne, bne_eq_false_iff_eq, beq_iff_eq, beq_eq_false_iff_ne, ne_eq, beq_self_eq_true, bne_self_eq_false, Bool.and_eq_true, Bool.and_eq_false_iff, Bool.or_eq_true, Bool.or_eq_false_iff, and_self, and_true, true_and, Bool.false_eq_true, Bool.true_eq_false, not_false_eq_true, not_true_eq_false]; first | done | omega) ?_))))))
    refine wsq (wrg (vQ tab rfl (vQ tab rfl (vnl (qth (vcd_false rfl (by simp only [k0, k1, k5, k6, k8, k9, decide_eq_true_eq, decide_eq_false_iff_not, Bool.not_eq_eq_eq_not, Bool.not_true, Bool.not_false, bne_iff_ne, bne_eq_false_iff_eq, beq_iff_eq, beq_eq_false_iff_ne, ne_eq, beq_self_eq_true, bne_self_eq_false, Bool.and_eq_true, Bool.and_eq_false_iff, Bool.or_eq_true, Bool.or_eq_false_iff, and_self, and_true, true_and, Bool.false_eq_true, Bool.true_eq_false, not_false_eq_true, not_true_eq_false]; first | done | omega) ?_))))))
    refine wsq (wrg (vQ tab rfl (vQ tab rfl (vnl (qth (vcd_true rfl (by simp only [k0, k1, k5, k6, k8, k9, decide_eq_true_eq, decide_eq_false_iff_not, Bool.not_eq_eq_eq_not, Bool.not_true, Bool.not_false, bne_iff_ne, bne_eq_false_iff_eq, beq_iff_eq, beq_eq_false_iff_ne, ne_eq, beq_self_eq_true, bne_self_eq_false, Bool.and_eq_true, Bool.and_eq_false_iff, Bool.or_eq_true, Bool.or_eq_false_iff, and_self, and_true, true_and, Bool.false_eq_true, Bool.true_eq_false, not_false_eq_true, not_true_eq_false]; first | done | omega) ?_))))))
    refine wsq (wrg (vQ tab rfl (vT rfl callable_38 (closes_ok (s := s) (cf := cf) (ev := ev) ⟨rfl, rfl, rfl, rfl, rfl, rfl, rfl, by decide⟩ (by decide) (by omega) (by omega) (by omega) hE) ?_)))
    refine vQ tab rfl (vnl (qth (vw_ret (q_ret (q_thenr ?_)))))
    exact out_mk [7, 8, 9, 10] (.inr rfl) ⟨rfl, rfl⟩ rfl (.bool _)
      (op_cons (sigma_own (a := 0) (by simp [ownNames, *]) rfl) rfl rfl (ov_turn2 (rel_ptr (sigma_own (a := 1) (by simp [ownNames, *]) rfl)) (rel_slice (sigma_at (i := 0) (by simp [ownNames, *]) rfl) rfl) (rel_slice (sigma_at (i := 1) (by simp [ownNames, *]) rfl) rfl) (rel_slice (sigma_at (i := 2) (by simp [ownNames, *]) rfl) rfl) (rel_slice (sigma_at (i := 3) (by simp [ownNames, *]) rfl) rfl) (rel_ptr (sigma_own (a := 2) (by simp [ownNames, *]) rfl))) rfl
        (op_drop (op_drop (op_drop (op_drop (op_drop (op_drop
          (op_cons (sigma_at (i := 0) (by simp [ownNames, *]) rfl) rfl rfl (ov_opn userR rfl) rfl (op_cons (sigma_at (i := 1) (by simp [ownNames, *]) rfl) rfl rfl (ov_opn sessR rfl) rfl (op_cons (sigma_at (i := 2) (by simp [ownNames, *]) rfl) rfl rfl (ov_opn addrR rfl) rfl (op_cons (sigma_at (i := 3) (by simp [ownNames, *]) rfl) rfl rfl (ov_opn (intR .i64) rfl) rfl op_nil)))))))))))
      (told_of (by simp [ownNames, turnL]))
  · skip
    have k0 : (ev.kind == 0) = false := by rw [hk]; rfl
    have k1 : (ev.kind == 1) = false := by rw [hk]; rfl
    have k5 : (ev.kind == 5) = false := by rw [hk]; rfl
    have k6 : (ev.kind == 6) = false := by rw [hk]; rfl
    have k8 : (ev.kind == 8) = true := by rw [hk]; rfl
    have k9 : (ev.kind == 9) = false := by rw [hk]; rfl
    simp only [hk, if_true, if_false, show ¬ (8 : Int) = 0 by decide, show ¬ (8 : Int) = 1 by decide, show ¬ (8 : Int) = 5 by decide, show ¬ (8 : Int) = 6 by decide] at hE
    split at hE
    case isFalse => cases hE
    rename_i hq
    cases hE
    have hd := decide_eq_true hq
    refine wsq (wrg (vQ tab rfl (vnl (qth (wsq (wsq (wrg (vQ tab rfl (vQ tab rfl (vQ tab rfl (vQ tab rfl (vQ tab rfl (vQ tab rfl (vQ tab rfl (vnl (qth (wbk (wsq (wrg (vQ tab rfl (vQ tab rfl (vnl (qth ?_)))))))))))))))))))))))
    refine vcd_false rfl (by simp only [k0, k1, k5, k6, k8, k9, hd, decide_eq_true_eq, decide_eq_false_iff_not, Bool.not_eq_eq_eq_not, Bool.not_true, Bool.not_false, bne_iff_ne, bne_eq_false_iff_eq, beq_iff_eq, beq_eq_false_iff_ne, ne_eq, beq_self_eq_true, bne_self_eq_false, Bool.and_eq_true, Bool.and_eq_false_iff, Bool.or_eq_true, Bool.or_eq_false_iff, and_self, and_true, true_and, Bool.false_eq_true, Bool.true_eq_false, not_false_eq_true, not_true_eq_false]; first | done | omega) ?_
    refine wsq (wrg (vQ tab rfl (vQ tab rfl (vnl (qth (vcd_false rfl (by simp only [k0, k1, k5, k6, k8, k9, hd, decide_eq_true_eq, decide_eq_false_iff_not, Bool.not_eq_eq_eq_not, Bool.not_true, Bool.not_false, bne_iff_ne, bne_eq_false_iff_eq, beq_iff_eq, beq_eq_false_iff_ne, ne_eq, beq_self_eq_true, bne_self_eq_false, Bool.and_eq_true, Bool.and_eq_false_iff, Bool.or_eq_true, Bool.or_eq_false_iff, and_self, and_true, true_and, Bool.false_eq_true, Bool.true_eq_false, not_false_eq_true, not_true_eq_false]; first | done | omega) ?_))))))
    refine wsq (wrg (vQ tab rfl (vQ tab rfl (vnl (qth (vcd_false rfl (by simp only [k0, k1, k5, k6, k8, k9, hd, decide_eq_true_eq, decide_eq_false_iff_not, Bool.not_eq_eq_eq_not, Bool.not_true, Bool.not_false, bne_iff_ne, bne_eq_false_iff_eq, beq_iff_eq, beq_eq_false_iff_ne, ne_eq, beq_self_eq_true, bne_self_eq_false, Bool.and_eq_true, Bool.and_eq_false_iff, Bool.or_eq_true, Bool.or_eq_false_iff, and_self, and_true, true_and, Bool.false_eq_true, Bool.true_eq_false, not_false_eq_true, not_true_eq_false]; first | done | omega) ?_))))))
    refine wsq (wrg (vQ tab rfl (vQ tab rfl (vnl (qth (vcd_false rfl (by simp only [k0, k1, k5, k6, k8, k9, hd, decide_eq_true_eq, decide_eq_false_iff_not, Bool.not_eq_eq_eq_not, Bool.not_true, Bool.not_false, bne_iff_ne, bne_eq_false_iff_eq, beq_iff_eq, beq_eq_false_iff_ne, ne_eq, beq_self_eq_true, bne_self_eq_false, Bool.and_eq_true, Bool.and_eq_false_iff, Bool.or_eq_true, Bool.or_eq_false_iff, and_self, and_true, true_and, Bool.false_eq_true, Bool.true_eq_false, not_false_eq_true, not_true_eq_false]; first | done | omega) ?_))))))
    refine wsq (wrg (vQ tab rfl (vQ tab rfl (vnl (qth (vcd_true rfl (by simp only [k0, k1, k5, k6, k8, k9, hd, decide_eq_true_eq, decide_eq_false_iff_not, Bool.not_eq_eq_eq_not, Bool.not_true, Bool.not_false, bne_iff_ne, bne_eq_false_iff_eq, beq_iff_eq, beq_eq_false_iff_ne, ne_eq, beq_self_eq_true, bne_self_eq_false, Bool.and_eq_true, Bool.and_eq_false_iff, Bool.or_eq_true, Bool.or_eq_false_iff, and_self, and_true, true_and, Bool.false_eq_true, Bool.true_eq_false, not_false_eq_true, not_true_eq_false]; first | done | omega) ?_))))))
    refine wsq (wrg (vQ tab rfl (vQ tab rfl (vQ tab rfl (vQ tab rfl (vQ tab rfl (vQ tab rfl (vQ tab rfl (vgd_op true rfl rfl rfl (by simp only [k0, k1, k5, k6, k8, k9, hd, decide_eq_true_eq, decide_eq_false_iff_not, Bool.not_eq_eq_eq_not, Bool.not_true, Bool.not_false, bne_iff_ne, bne_eq_false_iff_eq, beq_iff_eq, beq_eq_false_iff_ne, ne_eq, beq_self_eq_true, bne_self_eq_false, Bool.and_eq_true, Bool.and_eq_false_iff, Bool.or_eq_true, Bool.or_eq_false_iff, and_self, and_true, true_and, Bool.false_eq_true, Bool.true_eq_false, not_false_eq_true, not_true_eq_false]; first | done | omega) ?_)))))))))
    refine vQ tab rfl (vQ tab rfl (vQ tab rfl (vT rfl callable_39 (rotate_tri (s := s) (cf := cf) (ev := ev) ⟨rfl, rfl, rfl, rfl, rfl, rfl, rfl, by decide⟩ (by decide)) ?_)))
    refine vQ tab rfl (vQ tab rfl (vnl (qth (vw_ret (q_ret (q_thenr ?_))))))
    exact out_mk [7, 8, 9, 10] (.inr rfl) ⟨rfl, rfl⟩ rfl (.bool _)
      (op_cons (sigma_own (a := 0) (by simp [ownNames, *]) rfl) rfl rfl (ov_turn2 (rel_ptr (sigma_own (a := 1) (by simp [ownNames, *]) rfl)) (rel_slice (sigma_at (i := 0) (by simp [ownNames, *]) rfl) rfl) (rel_slice (sigma_at (i := 1) (by simp [ownNames, *]) rfl) rfl) (rel_slice (sigma_at (i := 2) (by simp [ownNames, *]) rfl) rfl) (rel_slice (sigma_at (i := 3) (by simp [ownNames, *]) rfl) rfl) (rel_ptr (sigma_own (a := 2) (by simp [ownNames, *]) rfl))) rfl
        (op_drop (op_drop (op_drop (op_drop (op_drop (op_drop
          (op_cons (sigma_at (i := 0) (by simp [ownNames, *]) rfl) rfl rfl (ov_opn userR rfl) rfl (op_cons (sigma_at (i := 1) (by simp [ownNames, *]) rfl) rfl rfl (ov_opn sessR rfl) rfl (op_cons (sigma_at (i := 2) (by simp [ownNames, *]) rfl) rfl rfl (ov_opn addrR rfl) rfl (op_cons (sigma_at (i := 3) (by simp [ownNames, *]) rfl) rfl rfl (ov_opn (intR .i64) rfl) rfl op_nil)))))))))))
      (told_of (by simp [ownNames, turnL]))
  · skip
    have k0 : (ev.kind == 0) = false := by rw [hk]; rfl
    have k1 : (ev.kind == 1) = false := by rw [hk]; rfl
    have k5 : (ev.kind == 5) = false := by rw [hk]; rfl
    have k6 : (ev.kind == 6) = false := by rw [hk]; rfl
    have k8 : (ev.kind == 8) = false := by rw [hk]; rfl
    have k9 : (ev.kind == 9) = true := by rw [hk]; rfl
    simp only [hk, if_true, if_false, show ¬ (9 : Int) = 0 by decide, show ¬ (9 : Int) = 1 by decide, show ¬ (9 : Int) = 5 by decide, show ¬ (9 : Int) = 6 by decide, show ¬ (9 : Int) = 8 by decide] at hE
    unfold spendE at hE
    split at hE
    case isTrue => cases hE
    rename_i hq
    cases hE
    refine wsq (wrg (vQ tab rfl (vnl (qth (wsq (wsq (wrg (vQ tab rfl (vQ tab rfl (vQ tab rfl (vQ tab rfl (vQ tab rfl (vQ tab rfl (vQ tab rfl (vnl (qth (wbk (wsq (wrg (vQ tab rfl (vQ tab rfl (vnl (qth ?_)))))))))))))))))))))))
    refine vcd_false rfl (by simp only [k0, k1, k5, k6, k8, k9, decide_eq_true_eq, decide_eq_false_iff_not, Bool.not_eq_eq_eq_not, Bool.not_true, Bool.not_false, bne_iff_ne, bne_eq_false_iff_eq, beq_iff_eq, beq_eq_false_iff_ne, ne_eq, beq_self_eq_true, bne_self_eq_false, Bool.and_eq_true, Bool.and_eq_false_iff, Bool.or_eq_true, Bool.or_eq_false_iff, and_self, and_true, true_and, Bool.false_eq_true, Bool.true_eq_false, not_false_eq_true, not_true_eq_false]; first | done | omega) ?_
    refine wsq (wrg (vQ tab rfl (vQ tab rfl (vnl (qth (vcd_false rfl (by simp only [k0, k1, k5, k6, k8, k9, decide_eq_true_eq, decide_eq_false_iff_not, Bool.not_eq_eq_eq_not, Bool.not_true, Bool.not_false, bne_iff_ne, bne_eq_false_iff_eq, beq_iff_eq, beq_eq_false_iff_ne, ne_eq, beq_self_eq_true, bne_self_eq_false, Bool.and_eq_true, Bool.and_eq_false_iff, Bool.or_eq_true, Bool.or_eq_false_iff, and_self, and_true, true_and, Bool.false_eq_true, Bool.true_eq_false, not_false_eq_true, not_true_eq_false]; first | done | omega) ?_))))))
    refine wsq (wrg (vQ tab rfl (vQ tab rfl (vnl (qth (vcd_false rfl (by simp only [k0, k1, k5, k6, k8, k9, decide_eq_true_eq, decide_eq_false_iff_not, Bool.not_eq_eq_eq_not, Bool.not_true, Bool.not_false, bne_iff_ne, bne_eq_false_iff_eq, beq_iff_eq, beq_eq_false_iff_ne, ne_eq, beq_self_eq_true, bne_self_eq_false, Bool.and_eq_true, Bool.and_eq_false_iff, Bool.or_eq_true, Bool.or_eq_false_iff, and_self, and_true, true_and, Bool.false_eq_true, Bool.true_eq_false, not_false_eq_true, not_true_eq_false]; first | done | omega) ?_))))))
    refine wsq (wrg (vQ tab rfl (vQ tab rfl (vnl (qth (vcd_false rfl (by simp only [k0, k1, k5, k6, k8, k9, decide_eq_true_eq, decide_eq_false_iff_not, Bool.not_eq_eq_eq_not, Bool.not_true, Bool.not_false, bne_iff_ne, bne_eq_false_iff_eq, beq_iff_eq, beq_eq_false_iff_ne, ne_eq, beq_self_eq_true, bne_self_eq_false, Bool.and_eq_true, Bool.and_eq_false_iff, Bool.or_eq_true, Bool.or_eq_false_iff, and_self, and_true, true_and, Bool.false_eq_true, Bool.true_eq_false, not_false_eq_true, not_true_eq_false]; first | done | omega) ?_))))))
    refine wsq (wrg (vQ tab rfl (vQ tab rfl (vnl (qth (vcd_false rfl (by simp only [k0, k1, k5, k6, k8, k9, decide_eq_true_eq, decide_eq_false_iff_not, Bool.not_eq_eq_eq_not, Bool.not_true, Bool.not_false, bne_iff_ne, bne_eq_false_iff_eq, beq_iff_eq, beq_eq_false_iff_ne, ne_eq, beq_self_eq_true, bne_self_eq_false, Bool.and_eq_true, Bool.and_eq_false_iff, Bool.or_eq_true, Bool.or_eq_false_iff, and_self, and_true, true_and, Bool.false_eq_true, Bool.true_eq_false, not_false_eq_true, not_true_eq_false]; first | done | omega) ?_))))))
    refine wsq (wrg (vQ tab rfl (vQ tab rfl (vnl (qth (vcd_true rfl (by simp only [k0, k1, k5, k6, k8, k9, decide_eq_true_eq, decide_eq_false_iff_not, Bool.not_eq_eq_eq_not, Bool.not_true, Bool.not_false, bne_iff_ne, bne_eq_false_iff_eq, beq_iff_eq, beq_eq_false_iff_ne, ne_eq, beq_self_eq_true, bne_self_eq_false, Bool.and_eq_true, Bool.and_eq_false_iff, Bool.or_eq_true, Bool.or_eq_false_iff, and_self, and_true, true_and, Bool.false_eq_true, Bool.true_eq_false, not_false_eq_true, not_true_eq_false]; first | done | omega) ?_))))))
    refine wsq (wrg (vQ tab rfl (vT rfl callable_40 (spend_ok (s := s) (cf := cf) (ev := ev) ⟨rfl, rfl, rfl, rfl, rfl, rfl, rfl, by decide⟩ (by decide) hb4 (by simpa using hq)) ?_)))
    refine vQ tab rfl (vnl (qth (vw_ret (q_ret (q_thenr ?_)))))
    exact out_mk [7, 8, 9, 10] (.inr rfl) ⟨rfl, rfl⟩ rfl (.bool _)
      (op_cons (sigma_own (a := 0) (by simp [ownNames, *]) rfl) rfl rfl (ov_turn2 (rel_ptr (sigma_own (a := 1) (by simp [ownNames, *]) rfl)) (rel_slice (sigma_at (i := 0) (by simp [ownNames, *]) rfl) rfl) (rel_slice (sigma_at (i := 1) (by simp [ownNames, *]) rfl) rfl) (rel_slice (sigma_at (i := 2) (by simp [ownNames, *]) rfl) rfl) (rel_slice (sigma_at (i := 3) (by simp [ownNames, *]) rfl) rfl) (rel_ptr (sigma_own (a := 2) (by simp [ownNames, *]) rfl))) rfl
        (op_drop (op_drop (op_drop (op_drop (op_drop (op_drop
          (op_cons (sigma_at (i := 0) (by simp [ownNames, *]) rfl) rfl rfl (ov_opn userR rfl) rfl (op_cons (sigma_at (i := 1) (by simp [ownNames, *]) rfl) rfl rfl (ov_opn sessR rfl) rfl (op_cons (sigma_at (i := 2) (by simp [ownNames, *]) rfl) rfl rfl (ov_opn addrR rfl) rfl (op_cons (sigma_at (i := 3) (by simp [ownNames, *]) rfl) rfl rfl (ov_opn (intR .i64) rfl) rfl op_nil)))))))))))
      (told_of (by simp [ownNames, turnL]))
  · skip
    have k0 : (ev.kind == 0) = false := by rcases hk with hk | hk | hk | hk <;> (rw [hk]; rfl)
    have k1 : (ev.kind == 1) = false := by rcases hk with hk | hk | hk | hk <;> (rw [hk]; rfl)
    have k5 : (ev.kind == 5) = false := by rcases hk with hk | hk | hk | hk <;> (rw [hk]; rfl)
    have k6 : (ev.kind == 6) = false := by rcases hk with hk | hk | hk | hk <;> (rw [hk]; rfl)
    have k8 : (ev.kind == 8) = false := by rcases hk with hk | hk | hk | hk <;> (rw [hk]; rfl)
    have k9 : (ev.kind == 9) = false := by rcases hk with hk | hk | hk | hk <;> (rw [hk]; rfl)
    have hE : ofE cf s ev = some s' := by
      rcases hk with hk | hk | hk | hk <;> (rw [hk] at hE; simpa using hE)
    cases hk1 : userAt s.users ev.user with
    | none => rw [ofE_none hk1] at hE; cases hE
    | some j =>
    have hjl := (user_found hk1).1
    have hj : s.users[j]? = some s.users[j] := List.getElem?_eq_getElem hjl
    rw [ofE_eq hk1 hj] at hE
    cases hw : ofU cf ev s.users[j] with
    | none => rw [hw] at hE; cases hE
    | some w =>
    rw [hw] at hE; cases hE
    refine wsq (wrg (vQ tab rfl (vnl (qth (wsq (wsq (wrg (vQ tab rfl (vQ tab rfl (vQ tab rfl (vQ tab rfl (vQ tab rfl (vQ tab rfl (vQ tab rfl (vnl (qth (wbk (wsq (wrg (vQ tab rfl (vQ tab rfl (vnl (qth ?_)))))))))))))))))))))))
    refine vcd_false rfl (by simp only [k0, k1, k5, k6, k8, k9, decide_eq_true_eq, decide_eq_false_iff_not, Bool.not_eq_eq_eq_not, Bool.not_true, Bool.not_false, bne_iff_ne, bne_eq_false_iff_eq, beq_iff_eq, beq_eq_false_iff_ne, ne_eq, beq_self_eq_true, bne_self_eq_false, Bool.and_eq_true, Bool.and_eq_false_iff, Bool.or_eq_true, Bool.or_eq_false_iff, and_self, and_true, true_and, Bool.false_eq_true, Bool.true_eq_false, not_false_eq_true, not_true_eq_false]; first | done | omega) ?_
    refine wsq (wrg (vQ tab rfl (vQ tab rfl (vnl (qth (vcd_false rfl (by simp only [k0, k1, k5, k6, k8, k9, decide_eq_true_eq, decide_eq_false_iff_not, Bool.not_eq_eq_eq_not, Bool.not_true, Bool.not_false, bne_iff_ne, bne_eq_false_iff_eq, beq_iff_eq, beq_eq_false_iff_ne, ne_eq, beq_self_eq_true, bne_self_eq_false, Bool.and_eq_true, Bool.and_eq_false_iff, Bool.or_eq_true, Bool.or_eq_false_iff, and_self, and_true, true_and, Bool.false_eq_true, Bool.true_eq_false, not_false_eq_true, not_true_eq_false]; first | done | omega) ?_))))))
    refine wsq (wrg (vQ tab rfl (vQ tab rfl (vnl (qth (vcd_false rfl (by simp only [k0, k1, k5, k6, k8, k9, decide_eq_true_eq, decide_eq_false_iff_not, Bool.not_eq_eq_eq_not, Bool.not_true, Bool.not_false, bne_iff_ne, bne_eq_false_iff_eq, beq_iff_eq, beq_eq_false_iff_ne, ne_eq, beq_self_eq_true, bne_self_eq_false, Bool.and_eq_true, Bool.and_eq_false_iff, Bool.or_eq_true, Bool.or_eq_false_iff, and_self, and_true, true_and, Bool.false_eq_true, Bool.true_eq_false, not_false_eq_true, not_true_eq_false]; first | done | omega) ?_))))))
    refine wsq (wrg (vQ tab rfl (vQ tab rfl (vnl (qth (vcd_false rfl (by simp only [k0, k1, k5, k6, k8, k9, decide_eq_true_eq, decide_eq_false_iff_not, Bool.not_eq_eq_eq_not, Bool.not_true, Bool.not_false, bne_iff_ne, bne_eq_false_iff_eq, beq_iff_eq, beq_eq_false_iff_ne, ne_eq, beq_self_eq_true, bne_self_eq_false, Bool.and_eq_true, Bool.and_eq_false_iff, Bool.or_eq_true, Bool.or_eq_false_iff, and_self, and_true, true_and, Bool.false_eq_true, Bool.true_eq_false, not_false_eq_true, not_true_eq_false]; first | done | omega) ?_))))))
    refine wsq (wrg (vQ tab rfl (vQ tab rfl (vnl (qth (vcd_false rfl (by simp only [k0, k1, k5, k6, k8, k9, decide_eq_true_eq, decide_eq_false_iff_not, Bool.not_eq_eq_eq_not, Bool.not_true, Bool.not_false, bne_iff_ne, bne_eq_false_iff_eq, beq_iff_eq, beq_eq_false_iff_ne, ne_eq, beq_self_eq_true, bne_self_eq_false, Bool.and_eq_true, Bool.and_eq_false_iff, Bool.or_eq_true, Bool.or_eq_false_iff, and_self, and_true, true_and, Bool.false_eq_true, Bool.true_eq_false, not_false_eq_true, not_true_eq_false]; first | done | omega) ?_))))))
    refine wsq (wrg (vQ tab rfl (vQ tab rfl (vnl (qth (vcd_false rfl (by simp only [k0, k1, k5, k6, k8, k9, decide_eq_true_eq, decide_eq_false_iff_not, Bool.not_eq_eq_eq_not, Bool.not_true, Bool.not_false, bne_iff_ne, bne_eq_false_iff_eq, beq_iff_eq, beq_eq_false_iff_ne, ne_eq, beq_self_eq_true, bne_self_eq_false, Bool.and_eq_true, Bool.and_eq_false_iff, Bool.or_eq_true, Bool.or_eq_false_iff, and_self, and_true, true_and, Bool.false_eq_true, Bool.true_eq_false, not_false_eq_true, not_true_eq_false]; first | done | omega) ?_))))))
    refine vw_skip (q_norm (qth (wsq (vw_draw mixed (dq_op tab rfl rfl rfl rfl (dq_op tab rfl rfl rfl rfl (dq_op tab rfl rfl rfl rfl (dq_op tab rfl rfl rfl rfl (dq_op tab rfl rfl rfl rfl (dq_op tab rfl rfl rfl rfl (dq_op tab rfl rfl rfl rfl (dq_op tab rfl rfl rfl rfl (dq_op tab rfl rfl rfl rfl (dq_op tab rfl rfl rfl rfl (dq_op tab rfl rfl rfl rfl (dt_op [0, 1, 2, 3, 4, 5, 6] rfl rfl rfl rfl rfl callable_42 (usr_ok (s := s) (cf := cf) (ev := ev) hk1 ⟨rfl, rfl, rfl, rfl, rfl, rfl, rfl, by decide⟩ (by omega)) ?_))))))))))))))))
    refine dt_op [0, 1, 2, 3, 4, 5, 6] rfl rfl rfl rfl rfl callable_41 (of_ok (s := s) (cf := cf) (ev := ev) ⟨rfl, rfl, rfl, rfl, rfl, rfl, rfl, by decide⟩ (by decide) hj hk hw) ?_
    refine dq_op tab rfl rfl rfl rfl (vd_nil (by kernel_rfl) ?_)
    refine qth (vw_ret ?_)
    exact out_mk [7, 8, 9, 10] (.inr rfl) ⟨rfl, rfl⟩ rfl (.bool _)
      (op_cons (sigma_own (a := 0) (by simp [ownNames, *]) rfl) rfl rfl (ov_turn2 (rel_ptr (sigma_own (a := 1) (by simp [ownNames, *]) rfl)) (rel_slice (sigma_at (i := 0) (by simp [ownNames, *]) rfl) rfl) (rel_slice (sigma_at (i := 1) (by simp [ownNames, *]) rfl) rfl) (rel_slice (sigma_at (i := 2) (by simp [ownNames, *]) rfl) rfl) (rel_slice (sigma_at (i := 3) (by simp [ownNames, *]) rfl) rfl) (rel_ptr (sigma_own (a := 2) (by simp [ownNames, *]) rfl))) rfl
        (op_drop (op_drop (op_drop (op_drop (op_drop (op_drop
          (op_cons (sigma_at (i := 0) (by simp [ownNames, *]) rfl) rfl rfl (ov_opn userR rfl) rfl (op_cons (sigma_at (i := 1) (by simp [ownNames, *]) rfl) rfl rfl (ov_opn sessR rfl) rfl (op_cons (sigma_at (i := 2) (by simp [ownNames, *]) rfl) rfl rfl (ov_opn addrR rfl) rfl (op_cons (sigma_at (i := 3) (by simp [ownNames, *]) rfl) rfl rfl (ov_opn (intR .i64) rfl) rfl op_nil)))))))))))
      (told_of (by simp [ownNames, turnL]))
theorem does_no (h : TurnAt V t c e u x a p cf ev s) (hi : ∀ i ∈ [t, c, e, u, x, a, p], i < n) (hb1 : s.users.length * 72 ≤ 140737488351232) (hb2 : s.sess.length * 32 ≤ 140737488351232) (hb3 : s.addrs.length * 24 ≤ 140737488351232) (hb4 : s.spent.length * 8 ≤ 140737488351232) (hm : evtMay ev = true) (hE : doesE cf s ev = none) :
    Tri Try.prog 24 [.pointer (some ⟨t, 0, none⟩)] n 0 V (fun r L => r = .bool false ∧ L = turnN t c e u x a p) := by
  obtain ⟨ht, hc, he, hu, hx, ha, hp, hn⟩ := h
  simp only [List.nodup_cons, List.mem_cons, List.not_mem_nil, or_false, not_or, List.nodup_nil, and_true, not_false_eq_true] at hn
  obtain ⟨⟨d1, d2, d3, d4, d5, d6⟩, ⟨e1, e2, e3, e4, e5⟩, ⟨f1, f2, f3, f4⟩, ⟨g1, g2, g3⟩, ⟨i1, i2⟩, j1⟩ := hn
  simp only [List.mem_cons, List.not_mem_nil, or_false, forall_eq_or_imp, forall_eq] at hi
  obtain ⟨l1, l2, l3, l4, l5, l6, l7⟩ := hi
  refine call_of_vw (K := 7) (argsI := [.pointer (some ⟨0, 0, none⟩)]) tab Try.func24 rfl rfl (by simp [Try.f24]) [.own t, .own c, .own e, .own u, .own x, .own a, .own p] [turnO 1 3 4 5 6 2 s, confO cf, evtO ev, .opn (userR.cells s.users) 49 9, .opn (sessR.cells s.sess) 54 4, .opn (addrR.cells s.addrs) 58 3, .opn ((intR .i64).cells s.spent) 3 1] rfl (.own ht (ov_turn rfl (rel_ptr rfl) (rel_slice rfl rfl) (rel_slice rfl rfl) (rel_slice rfl rfl) (rel_slice rfl rfl) (rel_ptr rfl)) (.own hc (ov_conf rfl) (.own he (ov_evt rfl) (.own hu (ov_opn userR rfl) (.own hx (ov_opn sessR rfl) (.own ha (ov_opn addrR rfl) (.own hp (ov_opn (intR .i64) rfl) .nil))))))) (by simp [ownNames, *]) (by simp [ownNames, lookNames, *]) (by simp [ownNames, *]) (al_cons (.val (rel_ptr rfl)) al_nil) (seen_of (sn_own (sn_own (sn_own (sn_own (sn_own (sn_own (sn_own sn_nil)))))))) ?_
  unfold doesE at hE
  rcases kind_split hm with hk | hk | hk | hk | hk | hk | hk
  · skip
    have k0 : (ev.kind == 0) = true := by rw [hk]; rfl
    have k1 : (ev.kind == 1) = false := by rw [hk]; rfl
    have k5 : (ev.kind == 5) = false := by rw [hk]; rfl
    have k6 : (ev.kind == 6) = false := by rw [hk]; rfl
    have k8 : (ev.kind == 8) = false := by rw [hk]; rfl
    have k9 : (ev.kind == 9) = false := by rw [hk]; rfl
    simp only [hk, if_true] at hE
    unfold bootE at hE
    obtain ⟨R, hR⟩ : ∃ R, freeAll (IntKind.i64.wrap (ev.tick + cf.quarantine)) s.sess s.addrs = R := ⟨_, rfl⟩
    rw [hR] at hE
    have hg : ∀ fin, R = some fin → ¬ (0 ≤ s.boots ∧ s.boots ≤ 1073741822) := by
      rintro fin rfl hg
      simp only [if_pos hg] at hE; cases hE
    refine wsq (wrg (vQ tab rfl (vnl (qth (wsq (wsq (wrg (vQ tab rfl (vQ tab rfl (vQ tab rfl (vQ tab rfl (vQ tab rfl (vQ tab rfl (vQ tab rfl (vnl (qth (wbk (wsq (wrg (vQ tab rfl (vQ tab rfl (vnl (qth ?_)))))))))))))))))))))))
    refine vcd_true rfl (by simp only [k0, k1, k5, k6, k8, k9, decide_eq_true_eq, decide_eq_false_iff_not, Bool.not_eq_eq_eq_not, Bool.not_true, Bool.not_false, bne_iff_ne, bne_eq_false_iff_eq, beq_iff_eq, beq_eq_false_iff_ne, ne_eq, beq_self_eq_true, bne_self_eq_false, Bool.and_eq_true, Bool.and_eq_false_iff, Bool.or_eq_true, Bool.or_eq_false_iff, and_self, and_true, true_and, Bool.false_eq_true, Bool.true_eq_false, not_false_eq_true, not_true_eq_false]; first | done | omega) ?_
    refine wsq (wrg (vQ tab rfl (vT rfl callable_35 (boot_no (s := s) (cf := cf) (ev := ev) ⟨rfl, rfl, rfl, rfl, rfl, rfl, rfl, by decide⟩ (by decide) (by omega) (by omega) hR hg) ?_)))
    refine vQ tab rfl (vnl (qth (vw_ret (q_ret (q_thenr ?_)))))
    exact out_mk [] (.inr rfl) ⟨rfl, rfl⟩ rfl (.bool _) (op_drop (op_drop (op_drop (op_drop (op_drop (op_drop (op_drop op_nil))))))) (told_of (by simp [ownNames, turnN]))
  · skip
    have k0 : (ev.kind == 0) = false := by rw [hk]; rfl
    have k1 : (ev.kind == 1) = true := by rw [hk]; rfl
    have k5 : (ev.kind == 5) = false := by rw [hk]; rfl
    have k6 : (ev.kind == 6) = false := by rw [hk]; rfl
    have k8 : (ev.kind == 8) = false := by rw [hk]; rfl
    have k9 : (ev.kind == 9) = false := by rw [hk]; rfl
    simp only [hk, if_true] at hE
    simp only [show ¬ (1 : Int) = 0 by decide, if_false] at hE
    unfold userE at hE
    cases hk1 : userAt s.users ev.user with
    | none => rw [hk1] at hE; cases hE
    | some j =>
    refine wsq (wrg (vQ tab rfl (vnl (qth (wsq (wsq (wrg (vQ tab rfl (vQ tab rfl (vQ tab rfl (vQ tab rfl (vQ tab rfl (vQ tab rfl (vQ tab rfl (vnl (qth (wbk (wsq (wrg (vQ tab rfl (vQ tab rfl (vnl (qth ?_)))))))))))))))))))))))
    refine vcd_false rfl (by simp only [k0, k1, k5, k6, k8, k9, decide_eq_true_eq, decide_eq_false_iff_not, Bool.not_eq_eq_eq_not, Bool.not_true, Bool.not_false, bne_iff_ne, bne_eq_false_iff_eq, beq_iff_eq, beq_eq_false_iff_ne, ne_eq, beq_self_eq_true, bne_self_eq_false, Bool.and_eq_true, Bool.and_eq_false_iff, Bool.or_eq_true, Bool.or_eq_false_iff, and_self, and_true, true_and, Bool.false_eq_true, Bool.true_eq_false, not_false_eq_true, not_true_eq_false]; first | done | omega) ?_
    refine wsq (wrg (vQ tab rfl (vQ tab rfl (vnl (qth (vcd_true rfl (by simp only [k0, k1, k5, k6, k8, k9, decide_eq_true_eq, decide_eq_false_iff_not, Bool.not_eq_eq_eq_not, Bool.not_true, Bool.not_false, bne_iff_ne, bne_eq_false_iff_eq, beq_iff_eq, beq_eq_false_iff_ne, ne_eq, beq_self_eq_true, bne_self_eq_false, Bool.and_eq_true, Bool.and_eq_false_iff, Bool.or_eq_true, Bool.or_eq_false_iff, and_self, and_true, true_and, Bool.false_eq_true, Bool.true_eq_false, not_false_eq_true, not_true_eq_false]; first | done | omega) ?_))))))
    refine wsq (wrg (vQ tab rfl (vT rfl callable_36 (user_no (s := s) (cf := cf) (ev := ev) ⟨rfl, rfl, rfl, rfl, rfl, rfl, rfl, by decide⟩ (by decide) hb1 hk1) ?_)))
    refine vQ tab rfl (vnl (qth (vw_ret (q_ret (q_thenr ?_)))))
    exact out_mk [] (.inr rfl) ⟨rfl, rfl⟩ rfl (.bool _) (op_drop (op_drop (op_drop (op_drop (op_drop (op_drop (op_drop op_nil))))))) (told_of (by simp [ownNames, turnN]))
  · skip
    have k0 : (ev.kind == 0) = false := by rw [hk]; rfl
    have k1 : (ev.kind == 1) = false := by rw [hk]; rfl
    have k5 : (ev.kind == 5) = true := by rw [hk]; rfl
    have k6 : (ev.kind == 6) = false := by rw [hk]; rfl
    have k8 : (ev.kind == 8) = false := by rw [hk]; rfl
    have k9 : (ev.kind == 9) = false := by rw [hk]; rfl
    simp only [hk, if_true, if_false, show ¬ (5 : Int) = 0 by decide, show ¬ (5 : Int) = 1 by decide] at hE
    refine wsq (wrg (vQ tab rfl (vnl (qth (wsq (wsq (wrg (vQ tab rfl (vQ tab rfl (vQ tab rfl (vQ tab rfl (vQ tab rfl (vQ tab rfl (vQ tab rfl (vnl (qth (wbk (wsq (wrg (vQ tab rfl (vQ tab rfl (vnl (qth ?_)))))))))))))))))))))))
    refine vcd_false rfl (by simp only [k0, k1, k5, k6, k8, k9, decide_eq_true_eq, decide_eq_false_iff_not, Bool.not_eq_eq_eq_not, Bool.not_true, Bool.not_false, bne_iff_ne, bne_eq_false_iff_eq, beq_iff_eq, beq_eq_false_iff_ne, ne_eq, beq_self_eq_true, bne_self_eq_false, Bool.and_eq_true, Bool.and_eq_false_iff, Bool.or_eq_true, Bool.or_eq_false_iff, and_self, and_true, true_and, Bool.false_eq_true, Bool.true_eq_false, not_false_eq_true, not_true_eq_false]; first | done | omega) ?_
    refine wsq (wrg (vQ tab rfl (vQ tab rfl (vnl (qth (vcd_false rfl (by simp only [k0, k1, k5, k6, k8, k9, decide_eq_true_eq, decide_eq_false_iff_not, Bool.not_eq_eq_eq_not, Bool.not_true, Bool.not_false, bne_iff_ne, bne_eq_false_iff_eq, beq_iff_eq, beq_eq_false_iff_ne, ne_eq, beq_self_eq_true, bne_self_eq_false, Bool.and_eq_true, Bool.and_eq_false_iff, Bool.or_eq_true, Bool.or_eq_false_iff, and_self, and_true, true_and, Bool.false_eq_true, Bool.true_eq_false, not_false_eq_true, not_true_eq_false]; first | done | omega) ?_))))))
    refine wsq (wrg (vQ tab rfl (vQ tab rfl (vnl (qth (vcd_true rfl (by simp only [k0, k1, k5, k6, k8, k9, decide_eq_true_eq, decide_eq_false_iff_not, Bool.not_eq_eq_eq_not, Bool.not_true, Bool.not_false, bne_iff_ne, bne_eq_false_iff_eq, beq_iff_eq, beq_eq_false_iff_ne, ne_eq, beq_self_eq_true, bne_self_eq_false, Bool.and_eq_true, Bool.and_eq_false_iff, Bool.or_eq_true, Bool.or_eq_false_iff, and_self, and_true, true_and, Bool.false_eq_true, Bool.true_eq_false, not_false_eq_true, not_true_eq_false]; first | done | omega) ?_))))))
    refine wsq (wrg (vQ tab rfl (vT rfl callable_37 (lease_no (s := s) (cf := cf) (ev := ev) ⟨rfl, rfl, rfl, rfl, rfl, rfl, rfl, by decide⟩ (by decide) (by omega) (by omega) hE) ?_)))
    refine vQ tab rfl (vnl (qth (vw_ret (q_ret (q_thenr ?_)))))
    exact out_mk [] (.inr rfl) ⟨rfl, rfl⟩ rfl (.bool _) (op_drop (op_drop (op_drop (op_drop (op_drop (op_drop (op_drop op_nil))))))) (told_of (by simp [ownNames, turnN]))
  · skip
    have k0 : (ev.kind == 0) = false := by rw [hk]; rfl
    have k1 : (ev.kind == 1) = false := by rw [hk]; rfl
    have k5 : (ev.kind == 5) = false := by rw [hk]; rfl
    have k6 : (ev.kind == 6) = true := by rw [hk]; rfl
    have k8 : (ev.kind == 8) = false := by rw [hk]; rfl
    have k9 : (ev.kind == 9) = false := by rw [hk]; rfl
    simp only [hk, if_true, if_false, show ¬ (6 : Int) = 0 by decide, show ¬ (6 : Int) = 1 by decide, show ¬ (6 : Int) = 5 by decide] at hE
    refine wsq (wrg (vQ tab rfl (vnl (qth (wsq (wsq (wrg (vQ tab rfl (vQ tab rfl (vQ tab rfl (vQ tab rfl (vQ tab rfl (vQ tab rfl (vQ tab rfl (vnl (qth (wbk (wsq (wrg (vQ tab rfl (vQ tab rfl (vnl (qth ?_)))))))))))))))))))))))
    refine vcd_false rfl (by simp only [k0, k1, k5, k6, k8, k9, decide_eq_true_eq, decide_eq_false_iff_not, Bool.not_eq_eq_eq_not, Bool.not_true, Bool.not_false, bne_iff_ne, bne_eq_false_iff_eq, beq_iff_eq, beq_eq_false_iff_ne, ne_eq, beq_self_eq_true, bne_self_eq_false, Bool.and_eq_true, Bool.and_eq_false_iff, Bool.or_eq_true, Bool.or_eq_false_iff, and_self, and_true, true_and, Bool.false_eq_true, Bool.true_eq_false, not_false_eq_true, not_true_eq_false]; first | done | omega) ?_
    refine wsq (wrg (vQ tab rfl (vQ tab rfl (vnl (qth (vcd_false rfl (by simp only [k0, k1, k5, k6, k8, k9, decide_eq_true_eq, decide_eq_false_iff_not, Bool.not_eq_eq_eq_not, Bool.not_true, Bool.not_false, bne_iff_ne, bne_eq_false_iff_eq, beq_iff_eq, beq_eq_false_iff_ne, ne_eq, beq_self_eq_true, bne_self_eq_false, Bool.and_eq_true, Bool.and_eq_false_iff, Bool.or_eq_true, Bool.or_eq_false_iff, and_self, and_true, true_and, Bool.false_eq_true, Bool.true_eq_false, not_false_eq_true, not_true_eq_false]; first | done | omega) ?_))))))
    refine wsq (wrg (vQ tab rfl (vQ tab rfl (vnl (qth (vcd_false rfl (by simp only [k0, k1, k5, k6, k8, k9, decide_eq_true_eq, decide_eq_false_iff_not, Bool.not_eq_eq_eq_not, Bool.not_true, Bool.not_false, bne_iff_ne, bne_eq_false_iff_eq, beq_iff_eq, beq_eq_false_iff_ne, ne_eq, beq_self_eq_true, bne_self_eq_false, Bool.and_eq_true, Bool.and_eq_false_iff, Bool.or_eq_true, Bool.or_eq_false_iff, and_self, and_true, true_and, Bool.false_eq_true, Bool.true_eq_false, not_false_eq_true, not_true_eq_false]; first | done | omega) ?_))))))
    refine wsq (wrg (vQ tab rfl (vQ tab rfl (vnl (qth (vcd_true rfl (by simp only [k0, k1, k5, k6, k8, k9, decide_eq_true_eq, decide_eq_false_iff_not, Bool.not_eq_eq_eq_not, Bool.not_true, Bool.not_false, bne_iff_ne, bne_eq_false_iff_eq, beq_iff_eq, beq_eq_false_iff_ne, ne_eq, beq_self_eq_true, bne_self_eq_false, Bool.and_eq_true, Bool.and_eq_false_iff, Bool.or_eq_true, Bool.or_eq_false_iff, and_self, and_true, true_and, Bool.false_eq_true, Bool.true_eq_false, not_false_eq_true, not_true_eq_false]; first | done | omega) ?_))))))
    refine wsq (wrg (vQ tab rfl (vT rfl callable_38 (closes_no (s := s) (cf := cf) (ev := ev) ⟨rfl, rfl, rfl, rfl, rfl, rfl, rfl, by decide⟩ (by decide) (by omega) (by omega) (by omega) hE) ?_)))
    refine vQ tab rfl (vnl (qth (vw_ret (q_ret (q_thenr ?_)))))
    exact out_mk [] (.inr rfl) ⟨rfl, rfl⟩ rfl (.bool _) (op_drop (op_drop (op_drop (op_drop (op_drop (op_drop (op_drop op_nil))))))) (told_of (by simp [ownNames, turnN]))
  · skip
    have k0 : (ev.kind == 0) = false := by rw [hk]; rfl
    have k1 : (ev.kind == 1) = false := by rw [hk]; rfl
    have k5 : (ev.kind == 5) = false := by rw [hk]; rfl
    have k6 : (ev.kind == 6) = false := by rw [hk]; rfl
    have k8 : (ev.kind == 8) = true := by rw [hk]; rfl
    have k9 : (ev.kind == 9) = false := by rw [hk]; rfl
    simp only [hk, if_true, if_false, show ¬ (8 : Int) = 0 by decide, show ¬ (8 : Int) = 1 by decide, show ¬ (8 : Int) = 5 by decide, show ¬ (8 : Int) = 6 by decide] at hE
    split at hE
    case isTrue => cases hE
    rename_i hq
    have hd := decide_eq_false hq
    refine wsq (wrg (vQ tab rfl (vnl (qth (wsq (wsq (wrg (vQ tab rfl (vQ tab rfl (vQ tab rfl (vQ tab rfl (vQ tab rfl (vQ tab rfl (vQ tab rfl (vnl (qth (wbk (wsq (wrg (vQ tab rfl (vQ tab rfl (vnl (qth ?_)))))))))))))))))))))))
    refine vcd_false rfl (by simp only [k0, k1, k5, k6, k8, k9, hd, decide_eq_true_eq, decide_eq_false_iff_not, Bool.not_eq_eq_eq_not, Bool.not_true, Bool.not_false, bne_iff_ne, bne_eq_false_iff_eq, beq_iff_eq, beq_eq_false_iff_ne, ne_eq, beq_self_eq_true, bne_self_eq_false, Bool.and_eq_true, Bool.and_eq_false_iff, Bool.or_eq_true, Bool.or_eq_false_iff, and_self, and_true, true_and, Bool.false_eq_true, Bool.true_eq_false, not_false_eq_true, not_true_eq_false]; first | done | omega) ?_
    refine wsq (wrg (vQ tab rfl (vQ tab rfl (vnl (qth (vcd_false rfl (by simp only [k0, k1, k5, k6, k8, k9, hd, decide_eq_true_eq, decide_eq_false_iff_not, Bool.not_eq_eq_eq_not, Bool.not_true, Bool.not_false, bne_iff_ne, bne_eq_false_iff_eq, beq_iff_eq, beq_eq_false_iff_ne, ne_eq, beq_self_eq_true, bne_self_eq_false, Bool.and_eq_true, Bool.and_eq_false_iff, Bool.or_eq_true, Bool.or_eq_false_iff, and_self, and_true, true_and, Bool.false_eq_true, Bool.true_eq_false, not_false_eq_true, not_true_eq_false]; first | done | omega) ?_))))))
    refine wsq (wrg (vQ tab rfl (vQ tab rfl (vnl (qth (vcd_false rfl (by simp only [k0, k1, k5, k6, k8, k9, hd, decide_eq_true_eq, decide_eq_false_iff_not, Bool.not_eq_eq_eq_not, Bool.not_true, Bool.not_false, bne_iff_ne, bne_eq_false_iff_eq, beq_iff_eq, beq_eq_false_iff_ne, ne_eq, beq_self_eq_true, bne_self_eq_false, Bool.and_eq_true, Bool.and_eq_false_iff, Bool.or_eq_true, Bool.or_eq_false_iff, and_self, and_true, true_and, Bool.false_eq_true, Bool.true_eq_false, not_false_eq_true, not_true_eq_false]; first | done | omega) ?_))))))
    refine wsq (wrg (vQ tab rfl (vQ tab rfl (vnl (qth (vcd_false rfl (by simp only [k0, k1, k5, k6, k8, k9, hd, decide_eq_true_eq, decide_eq_false_iff_not, Bool.not_eq_eq_eq_not, Bool.not_true, Bool.not_false, bne_iff_ne, bne_eq_false_iff_eq, beq_iff_eq, beq_eq_false_iff_ne, ne_eq, beq_self_eq_true, bne_self_eq_false, Bool.and_eq_true, Bool.and_eq_false_iff, Bool.or_eq_true, Bool.or_eq_false_iff, and_self, and_true, true_and, Bool.false_eq_true, Bool.true_eq_false, not_false_eq_true, not_true_eq_false]; first | done | omega) ?_))))))
    refine wsq (wrg (vQ tab rfl (vQ tab rfl (vnl (qth (vcd_true rfl (by simp only [k0, k1, k5, k6, k8, k9, hd, decide_eq_true_eq, decide_eq_false_iff_not, Bool.not_eq_eq_eq_not, Bool.not_true, Bool.not_false, bne_iff_ne, bne_eq_false_iff_eq, beq_iff_eq, beq_eq_false_iff_ne, ne_eq, beq_self_eq_true, bne_self_eq_false, Bool.and_eq_true, Bool.and_eq_false_iff, Bool.or_eq_true, Bool.or_eq_false_iff, and_self, and_true, true_and, Bool.false_eq_true, Bool.true_eq_false, not_false_eq_true, not_true_eq_false]; first | done | omega) ?_))))))
    refine wsq (wrg (vQ tab rfl (vQ tab rfl (vQ tab rfl (vQ tab rfl (vQ tab rfl (vQ tab rfl (vQ tab rfl (vgd_op false rfl rfl rfl (by simp only [k0, k1, k5, k6, k8, k9, hd, decide_eq_true_eq, decide_eq_false_iff_not, Bool.not_eq_eq_eq_not, Bool.not_true, Bool.not_false, bne_iff_ne, bne_eq_false_iff_eq, beq_iff_eq, beq_eq_false_iff_ne, ne_eq, beq_self_eq_true, bne_self_eq_false, Bool.and_eq_true, Bool.and_eq_false_iff, Bool.or_eq_true, Bool.or_eq_false_iff, and_self, and_true, true_and, Bool.false_eq_true, Bool.true_eq_false, not_false_eq_true, not_true_eq_false]; first | done | omega) ?_)))))))))
    refine vK rfl (vK rfl (vK rfl (vK rfl (vQ tab rfl (vQ tab rfl (vnl (qth (vw_ret (q_ret (q_thenr ?_))))))))))
    exact out_mk [] (.inr rfl) ⟨rfl, rfl⟩ rfl (.bool _) (op_drop (op_drop (op_drop (op_drop (op_drop (op_drop (op_drop op_nil))))))) (told_of (by simp [ownNames, turnN]))
  · skip
    have k0 : (ev.kind == 0) = false := by rw [hk]; rfl
    have k1 : (ev.kind == 1) = false := by rw [hk]; rfl
    have k5 : (ev.kind == 5) = false := by rw [hk]; rfl
    have k6 : (ev.kind == 6) = false := by rw [hk]; rfl
    have k8 : (ev.kind == 8) = false := by rw [hk]; rfl
    have k9 : (ev.kind == 9) = true := by rw [hk]; rfl
    simp only [hk, if_true, if_false, show ¬ (9 : Int) = 0 by decide, show ¬ (9 : Int) = 1 by decide, show ¬ (9 : Int) = 5 by decide, show ¬ (9 : Int) = 6 by decide, show ¬ (9 : Int) = 8 by decide] at hE
    unfold spendE at hE
    split at hE
    case isFalse => cases hE
    rename_i hq
    refine wsq (wrg (vQ tab rfl (vnl (qth (wsq (wsq (wrg (vQ tab rfl (vQ tab rfl (vQ tab rfl (vQ tab rfl (vQ tab rfl (vQ tab rfl (vQ tab rfl (vnl (qth (wbk (wsq (wrg (vQ tab rfl (vQ tab rfl (vnl (qth ?_)))))))))))))))))))))))
    refine vcd_false rfl (by simp only [k0, k1, k5, k6, k8, k9, decide_eq_true_eq, decide_eq_false_iff_not, Bool.not_eq_eq_eq_not, Bool.not_true, Bool.not_false, bne_iff_ne, bne_eq_false_iff_eq, beq_iff_eq, beq_eq_false_iff_ne, ne_eq, beq_self_eq_true, bne_self_eq_false, Bool.and_eq_true, Bool.and_eq_false_iff, Bool.or_eq_true, Bool.or_eq_false_iff, and_self, and_true, true_and, Bool.false_eq_true, Bool.true_eq_false, not_false_eq_true, not_true_eq_false]; first | done | omega) ?_
    refine wsq (wrg (vQ tab rfl (vQ tab rfl (vnl (qth (vcd_false rfl (by simp only [k0, k1, k5, k6, k8, k9, decide_eq_true_eq, decide_eq_false_iff_not, Bool.not_eq_eq_eq_not, Bool.not_true, Bool.not_false, bne_iff_ne, bne_eq_false_iff_eq, beq_iff_eq, beq_eq_false_iff_ne, ne_eq, beq_self_eq_true, bne_self_eq_false, Bool.and_eq_true, Bool.and_eq_false_iff, Bool.or_eq_true, Bool.or_eq_false_iff, and_self, and_true, true_and, Bool.false_eq_true, Bool.true_eq_false, not_false_eq_true, not_true_eq_false]; first | done | omega) ?_))))))
    refine wsq (wrg (vQ tab rfl (vQ tab rfl (vnl (qth (vcd_false rfl (by simp only [k0, k1, k5, k6, k8, k9, decide_eq_true_eq, decide_eq_false_iff_not, Bool.not_eq_eq_eq_not, Bool.not_true, Bool.not_false, bne_iff_ne, bne_eq_false_iff_eq, beq_iff_eq, beq_eq_false_iff_ne, ne_eq, beq_self_eq_true, bne_self_eq_false, Bool.and_eq_true, Bool.and_eq_false_iff, Bool.or_eq_true, Bool.or_eq_false_iff, and_self, and_true, true_and, Bool.false_eq_true, Bool.true_eq_false, not_false_eq_true, not_true_eq_false]; first | done | omega) ?_))))))
    refine wsq (wrg (vQ tab rfl (vQ tab rfl (vnl (qth (vcd_false rfl (by simp only [k0, k1, k5, k6, k8, k9, decide_eq_true_eq, decide_eq_false_iff_not, Bool.not_eq_eq_eq_not, Bool.not_true, Bool.not_false, bne_iff_ne, bne_eq_false_iff_eq, beq_iff_eq, beq_eq_false_iff_ne, ne_eq, beq_self_eq_true, bne_self_eq_false, Bool.and_eq_true, Bool.and_eq_false_iff, Bool.or_eq_true, Bool.or_eq_false_iff, and_self, and_true, true_and, Bool.false_eq_true, Bool.true_eq_false, not_false_eq_true, not_true_eq_false]; first | done | omega) ?_))))))
    refine wsq (wrg (vQ tab rfl (vQ tab rfl (vnl (qth (vcd_false rfl (by simp only [k0, k1, k5, k6, k8, k9, decide_eq_true_eq, decide_eq_false_iff_not, Bool.not_eq_eq_eq_not, Bool.not_true, Bool.not_false, bne_iff_ne, bne_eq_false_iff_eq, beq_iff_eq, beq_eq_false_iff_ne, ne_eq, beq_self_eq_true, bne_self_eq_false, Bool.and_eq_true, Bool.and_eq_false_iff, Bool.or_eq_true, Bool.or_eq_false_iff, and_self, and_true, true_and, Bool.false_eq_true, Bool.true_eq_false, not_false_eq_true, not_true_eq_false]; first | done | omega) ?_))))))
    refine wsq (wrg (vQ tab rfl (vQ tab rfl (vnl (qth (vcd_true rfl (by simp only [k0, k1, k5, k6, k8, k9, decide_eq_true_eq, decide_eq_false_iff_not, Bool.not_eq_eq_eq_not, Bool.not_true, Bool.not_false, bne_iff_ne, bne_eq_false_iff_eq, beq_iff_eq, beq_eq_false_iff_ne, ne_eq, beq_self_eq_true, bne_self_eq_false, Bool.and_eq_true, Bool.and_eq_false_iff, Bool.or_eq_true, Bool.or_eq_false_iff, and_self, and_true, true_and, Bool.false_eq_true, Bool.true_eq_false, not_false_eq_true, not_true_eq_false]; first | done | omega) ?_))))))
    refine wsq (wrg (vQ tab rfl (vT rfl callable_40 (spend_no (s := s) (cf := cf) (ev := ev) ⟨rfl, rfl, rfl, rfl, rfl, rfl, rfl, by decide⟩ (by decide) hb4 hq) ?_)))
    refine vQ tab rfl (vnl (qth (vw_ret (q_ret (q_thenr ?_)))))
    exact out_mk [] (.inr rfl) ⟨rfl, rfl⟩ rfl (.bool _) (op_drop (op_drop (op_drop (op_drop (op_drop (op_drop (op_drop op_nil))))))) (told_of (by simp [ownNames, turnN]))
  · skip
    have k0 : (ev.kind == 0) = false := by rcases hk with hk | hk | hk | hk <;> (rw [hk]; rfl)
    have k1 : (ev.kind == 1) = false := by rcases hk with hk | hk | hk | hk <;> (rw [hk]; rfl)
    have k5 : (ev.kind == 5) = false := by rcases hk with hk | hk | hk | hk <;> (rw [hk]; rfl)
    have k6 : (ev.kind == 6) = false := by rcases hk with hk | hk | hk | hk <;> (rw [hk]; rfl)
    have k8 : (ev.kind == 8) = false := by rcases hk with hk | hk | hk | hk <;> (rw [hk]; rfl)
    have k9 : (ev.kind == 9) = false := by rcases hk with hk | hk | hk | hk <;> (rw [hk]; rfl)
    have hE : ofE cf s ev = none := by
      rcases hk with hk | hk | hk | hk <;> (rw [hk] at hE; simpa using hE)
    cases hk1 : userAt s.users ev.user with
    | none =>
    refine wsq (wrg (vQ tab rfl (vnl (qth (wsq (wsq (wrg (vQ tab rfl (vQ tab rfl (vQ tab rfl (vQ tab rfl (vQ tab rfl (vQ tab rfl (vQ tab rfl (vnl (qth (wbk (wsq (wrg (vQ tab rfl (vQ tab rfl (vnl (qth ?_)))))))))))))))))))))))
    refine vcd_false rfl (by simp only [k0, k1, k5, k6, k8, k9, decide_eq_true_eq, decide_eq_false_iff_not, Bool.not_eq_eq_eq_not, Bool.not_true, Bool.not_false, bne_iff_ne, bne_eq_false_iff_eq, beq_iff_eq, beq_eq_false_iff_ne, ne_eq, beq_self_eq_true, bne_self_eq_false, Bool.and_eq_true, Bool.and_eq_false_iff, Bool.or_eq_true, Bool.or_eq_false_iff, and_self, and_true, true_and, Bool.false_eq_true, Bool.true_eq_false, not_false_eq_true, not_true_eq_false]; first | done | omega) ?_
    refine wsq (wrg (vQ tab rfl (vQ tab rfl (vnl (qth (vcd_false rfl (by simp only [k0, k1, k5, k6, k8, k9, decide_eq_true_eq, decide_eq_false_iff_not, Bool.not_eq_eq_eq_not, Bool.not_true, Bool.not_false, bne_iff_ne, bne_eq_false_iff_eq, beq_iff_eq, beq_eq_false_iff_ne, ne_eq, beq_self_eq_true, bne_self_eq_false, Bool.and_eq_true, Bool.and_eq_false_iff, Bool.or_eq_true, Bool.or_eq_false_iff, and_self, and_true, true_and, Bool.false_eq_true, Bool.true_eq_false, not_false_eq_true, not_true_eq_false]; first | done | omega) ?_))))))
    refine wsq (wrg (vQ tab rfl (vQ tab rfl (vnl (qth (vcd_false rfl (by simp only [k0, k1, k5, k6, k8, k9, decide_eq_true_eq, decide_eq_false_iff_not, Bool.not_eq_eq_eq_not, Bool.not_true, Bool.not_false, bne_iff_ne, bne_eq_false_iff_eq, beq_iff_eq, beq_eq_false_iff_ne, ne_eq, beq_self_eq_true, bne_self_eq_false, Bool.and_eq_true, Bool.and_eq_false_iff, Bool.or_eq_true, Bool.or_eq_false_iff, and_self, and_true, true_and, Bool.false_eq_true, Bool.true_eq_false, not_false_eq_true, not_true_eq_false]; first | done | omega) ?_))))))
    refine wsq (wrg (vQ tab rfl (vQ tab rfl (vnl (qth (vcd_false rfl (by simp only [k0, k1, k5, k6, k8, k9, decide_eq_true_eq, decide_eq_false_iff_not, Bool.not_eq_eq_eq_not, Bool.not_true, Bool.not_false, bne_iff_ne, bne_eq_false_iff_eq, beq_iff_eq, beq_eq_false_iff_ne, ne_eq, beq_self_eq_true, bne_self_eq_false, Bool.and_eq_true, Bool.and_eq_false_iff, Bool.or_eq_true, Bool.or_eq_false_iff, and_self, and_true, true_and, Bool.false_eq_true, Bool.true_eq_false, not_false_eq_true, not_true_eq_false]; first | done | omega) ?_))))))
    refine wsq (wrg (vQ tab rfl (vQ tab rfl (vnl (qth (vcd_false rfl (by simp only [k0, k1, k5, k6, k8, k9, decide_eq_true_eq, decide_eq_false_iff_not, Bool.not_eq_eq_eq_not, Bool.not_true, Bool.not_false, bne_iff_ne, bne_eq_false_iff_eq, beq_iff_eq, beq_eq_false_iff_ne, ne_eq, beq_self_eq_true, bne_self_eq_false, Bool.and_eq_true, Bool.and_eq_false_iff, Bool.or_eq_true, Bool.or_eq_false_iff, and_self, and_true, true_and, Bool.false_eq_true, Bool.true_eq_false, not_false_eq_true, not_true_eq_false]; first | done | omega) ?_))))))
    refine wsq (wrg (vQ tab rfl (vQ tab rfl (vnl (qth (vcd_false rfl (by simp only [k0, k1, k5, k6, k8, k9, decide_eq_true_eq, decide_eq_false_iff_not, Bool.not_eq_eq_eq_not, Bool.not_true, Bool.not_false, bne_iff_ne, bne_eq_false_iff_eq, beq_iff_eq, beq_eq_false_iff_ne, ne_eq, beq_self_eq_true, bne_self_eq_false, Bool.and_eq_true, Bool.and_eq_false_iff, Bool.or_eq_true, Bool.or_eq_false_iff, and_self, and_true, true_and, Bool.false_eq_true, Bool.true_eq_false, not_false_eq_true, not_true_eq_false]; first | done | omega) ?_))))))
    refine vw_skip (q_norm (qth (wsq (vw_draw mixed (dq_op tab rfl rfl rfl rfl (dq_op tab rfl rfl rfl rfl (dq_op tab rfl rfl rfl rfl (dq_op tab rfl rfl rfl rfl (dq_op tab rfl rfl rfl rfl (dq_op tab rfl rfl rfl rfl (dq_op tab rfl rfl rfl rfl (dq_op tab rfl rfl rfl rfl (dq_op tab rfl rfl rfl rfl (dq_op tab rfl rfl rfl rfl (dq_op tab rfl rfl rfl rfl (dt_op [0, 1, 2, 3, 4, 5, 6] rfl rfl rfl rfl rfl callable_42 (usr_no (s := s) (cf := cf) (ev := ev) hk1 ⟨rfl, rfl, rfl, rfl, rfl, rfl, rfl, by decide⟩ (by omega)) ?_))))))))))))))))
    refine dt_op [0, 1, 2, 3, 4, 5, 6] rfl rfl rfl rfl rfl callable_41 (of_nil (s := s) (cf := cf) (ev := ev) ⟨rfl, rfl, rfl, rfl, rfl, rfl, rfl, by decide⟩ (by decide)) ?_
    refine dq_op tab rfl rfl rfl rfl (vd_nil (by kernel_rfl) ?_)
    refine qth (vw_ret ?_)
    exact out_mk [] (.inr rfl) ⟨rfl, rfl⟩ rfl (.bool _) (op_drop (op_drop (op_drop (op_drop (op_drop (op_drop (op_drop op_nil))))))) (told_of (by simp [ownNames, turnN]))
    | some j =>
    have hjl := (user_found hk1).1
    have hj : s.users[j]? = some s.users[j] := List.getElem?_eq_getElem hjl
    rw [ofE_eq hk1 hj] at hE
    cases hw : ofU cf ev s.users[j] with
    | some w => rw [hw] at hE; cases hE
    | none =>
    refine wsq (wrg (vQ tab rfl (vnl (qth (wsq (wsq (wrg (vQ tab rfl (vQ tab rfl (vQ tab rfl (vQ tab rfl (vQ tab rfl (vQ tab rfl (vQ tab rfl (vnl (qth (wbk (wsq (wrg (vQ tab rfl (vQ tab rfl (vnl (qth ?_)))))))))))))))))))))))
    refine vcd_false rfl (by simp only [k0, k1, k5, k6, k8, k9, decide_eq_true_eq, decide_eq_false_iff_not, Bool.not_eq_eq_eq_not, Bool.not_true, Bool.not_false, bne_iff_ne, bne_eq_false_iff_eq, beq_iff_eq, beq_eq_false_iff_ne, ne_eq, beq_self_eq_true, bne_self_eq_false, Bool.and_eq_true, Bool.and_eq_false_iff, Bool.or_eq_true, Bool.or_eq_false_iff, and_self, and_true, true_and, Bool.false_eq_true, Bool.true_eq_false, not_false_eq_true, not_true_eq_false]; first | done | omega) ?_
    refine wsq (wrg (vQ tab rfl (vQ tab rfl (vnl (qth (vcd_false rfl (by simp only [k0, k1, k5, k6, k8, k9, decide_eq_true_eq, decide_eq_false_iff_not, Bool.not_eq_eq_eq_not, Bool.not_true, Bool.not_false, bne_iff_ne, bne_eq_false_iff_eq, beq_iff_eq, beq_eq_false_iff_ne, ne_eq, beq_self_eq_true, bne_self_eq_false, Bool.and_eq_true, Bool.and_eq_false_iff, Bool.or_eq_true, Bool.or_eq_false_iff, and_self, and_true, true_and, Bool.false_eq_true, Bool.true_eq_false, not_false_eq_true, not_true_eq_false]; first | done | omega) ?_))))))
    refine wsq (wrg (vQ tab rfl (vQ tab rfl (vnl (qth (vcd_false rfl (by simp only [k0, k1, k5, k6, k8, k9, decide_eq_true_eq, decide_eq_false_iff_not, Bool.not_eq_eq_eq_not, Bool.not_true, Bool.not_false, bne_iff_ne, bne_eq_false_iff_eq, beq_iff_eq, beq_eq_false_iff_ne, ne_eq, beq_self_eq_true, bne_self_eq_false, Bool.and_eq_true, Bool.and_eq_false_iff, Bool.or_eq_true, Bool.or_eq_false_iff, and_self, and_true, true_and, Bool.false_eq_true, Bool.true_eq_false, not_false_eq_true, not_true_eq_false]; first | done | omega) ?_))))))
    refine wsq (wrg (vQ tab rfl (vQ tab rfl (vnl (qth (vcd_false rfl (by simp only [k0, k1, k5, k6, k8, k9, decide_eq_true_eq, decide_eq_false_iff_not, Bool.not_eq_eq_eq_not, Bool.not_true, Bool.not_false, bne_iff_ne, bne_eq_false_iff_eq, beq_iff_eq, beq_eq_false_iff_ne, ne_eq, beq_self_eq_true, bne_self_eq_false, Bool.and_eq_true, Bool.and_eq_false_iff, Bool.or_eq_true, Bool.or_eq_false_iff, and_self, and_true, true_and, Bool.false_eq_true, Bool.true_eq_false, not_false_eq_true, not_true_eq_false]; first | done | omega) ?_))))))
    refine wsq (wrg (vQ tab rfl (vQ tab rfl (vnl (qth (vcd_false rfl (by simp only [k0, k1, k5, k6, k8, k9, decide_eq_true_eq, decide_eq_false_iff_not, Bool.not_eq_eq_eq_not, Bool.not_true, Bool.not_false, bne_iff_ne, bne_eq_false_iff_eq, beq_iff_eq, beq_eq_false_iff_ne, ne_eq, beq_self_eq_true, bne_self_eq_false, Bool.and_eq_true, Bool.and_eq_false_iff, Bool.or_eq_true, Bool.or_eq_false_iff, and_self, and_true, true_and, Bool.false_eq_true, Bool.true_eq_false, not_false_eq_true, not_true_eq_false]; first | done | omega) ?_))))))
    refine wsq (wrg (vQ tab rfl (vQ tab rfl (vnl (qth (vcd_false rfl (by simp only [k0, k1, k5, k6, k8, k9, decide_eq_true_eq, decide_eq_false_iff_not, Bool.not_eq_eq_eq_not, Bool.not_true, Bool.not_false, bne_iff_ne, bne_eq_false_iff_eq, beq_iff_eq, beq_eq_false_iff_ne, ne_eq, beq_self_eq_true, bne_self_eq_false, Bool.and_eq_true, Bool.and_eq_false_iff, Bool.or_eq_true, Bool.or_eq_false_iff, and_self, and_true, true_and, Bool.false_eq_true, Bool.true_eq_false, not_false_eq_true, not_true_eq_false]; first | done | omega) ?_))))))
    refine vw_skip (q_norm (qth (wsq (vw_draw mixed (dq_op tab rfl rfl rfl rfl (dq_op tab rfl rfl rfl rfl (dq_op tab rfl rfl rfl rfl (dq_op tab rfl rfl rfl rfl (dq_op tab rfl rfl rfl rfl (dq_op tab rfl rfl rfl rfl (dq_op tab rfl rfl rfl rfl (dq_op tab rfl rfl rfl rfl (dq_op tab rfl rfl rfl rfl (dq_op tab rfl rfl rfl rfl (dq_op tab rfl rfl rfl rfl (dt_op [0, 1, 2, 3, 4, 5, 6] rfl rfl rfl rfl rfl callable_42 (usr_ok (s := s) (cf := cf) (ev := ev) hk1 ⟨rfl, rfl, rfl, rfl, rfl, rfl, rfl, by decide⟩ (by omega)) ?_))))))))))))))))
    refine dt_op [0, 1, 2, 3, 4, 5, 6] rfl rfl rfl rfl rfl callable_41 (of_no (s := s) (cf := cf) (ev := ev) ⟨rfl, rfl, rfl, rfl, rfl, rfl, rfl, by decide⟩ (by decide) hj hk hw) ?_
    refine dq_op tab rfl rfl rfl rfl (vd_nil (by kernel_rfl) ?_)
    refine qth (vw_ret ?_)
    exact out_mk [] (.inr rfl) ⟨rfl, rfl⟩ rfl (.bool _) (op_drop (op_drop (op_drop (op_drop (op_drop (op_drop (op_drop op_nil))))))) (told_of (by simp [ownNames, turnN]))
end
end Go.Proofs.Ytcjfidfealifhaa
