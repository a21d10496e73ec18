/- Package state: a user who is put behind all. -/
import Derived.Test.YtcjfidfealifhaaVg1
import Derived.Test.YtcjfidfealifhaaSa2
import Derived.Test.YtcjfidfealifhaaIn1
namespace Go.Proofs.Ytcjfidfealifhaa
open Go Vm IntWalk
set_option linter.unusedVariables false
set_option linter.unusedSimpArgs false
set_option maxHeartbeats 16000000
/-- The user that is put stands behind all. -/
def EndU (s : StV) (e : EventV) : Prop := ∀ y ∈ s.users, y.user ≤ e.user
theorem gt_none {us : List UserV} {u : Int} (h : ∀ y ∈ us, y.user ≤ u) : findI (fun y : UserV => decide (u < y.user)) us = -1 := by
  refine findI_none ?_
  rw [List.any_eq_false]
  intro y hy; have := h y hy; simp; omega
theorem put_end {us : List UserV} {u : UserV} (h : ∀ y ∈ us, y.user ≤ u.user) : userPut us u = us ++ [u] := by
  have hg : gtAt us u.user = us.length := by
    unfold gtAt
    rw [List.findIdx_eq_length]
    intro y hy; have := h y hy; simp; omega
  unfold userPut; rw [hg]; simp
section
variable {V : Heap} {n t c e u x a p : Nat} {cf : ConfV} {ev : EventV} {s : StV}
theorem user_no {j : Nat} (h : TurnAt V t c e u x a p cf ev s) (hi : ∀ i ∈ [t, c, e, u, x, a, p], i < n) (hb : s.users.length * 72 ≤ 140737488351232) (hk : userAt s.users ev.user = some j) :
    Tri Try.prog 36 [.pointer (some ⟨t, 0, none⟩)] n 0 V (fun r L => r = .bool false ∧ L = turnN t c e u x a p) := by
  obtain ⟨ht, hc, he, hu, hx, ha, hp, hn⟩ := h
  simp only [List.nodup_cons, List.mem_cons, List.not_mem_nil, or_false, not_or, List.nodup_nil, and_true, not_false_eq_true] at hn
  obtain ⟨⟨d1, d2, d3, d4, d5, d6⟩, ⟨e1, e2, e3, e4, e5⟩, ⟨f1, f2, f3, f4⟩, ⟨g1, g2, g3⟩, ⟨i1, i2⟩, j1⟩ := hn
  simp only [List.mem_cons, List.not_mem_nil, or_false, forall_eq_or_imp, forall_eq] at hi
  obtain ⟨l1, l2, l3, l4, l5, l6, l7⟩ := hi
  refine call_of_vw (K := 7) (argsI := [.pointer (some ⟨0, 0, none⟩)]) tab Try.func36 rfl rfl (by simp [Try.f36]) [.own t, .own c, .own e, .own u, .own x, .own a, .own p] [turnO 1 3 4 5 6 2 s, confO cf, evtO ev, .opn (userR.cells s.users) 49 9, .opn (sessR.cells s.sess) 54 4, .opn (addrR.cells s.addrs) 58 3, .opn ((intR .i64).cells s.spent) 3 1] rfl (.own ht (ov_turn rfl (rel_ptr rfl) (rel_slice rfl rfl) (rel_slice rfl rfl) (rel_slice rfl rfl) (rel_slice rfl rfl) (rel_ptr rfl)) (.own hc (ov_conf rfl) (.own he (ov_evt rfl) (.own hu (ov_opn userR rfl) (.own hx (ov_opn sessR rfl) (.own ha (ov_opn addrR rfl) (.own hp (ov_opn (intR .i64) rfl) .nil))))))) (by simp [ownNames, *]) (by simp [ownNames, lookNames, *]) (by simp [ownNames, *]) (al_cons (.val (rel_ptr rfl)) al_nil) (seen_of (sn_own (sn_own (sn_own (sn_own (sn_own (sn_own (sn_own sn_nil)))))))) ?_
  refine wsq (wrg (vN tab rfl (vQ tab rfl (vnl (qth (wsq (wsq (vw_draw mixed (dq_op tab rfl rfl rfl rfl (dq_op tab rfl rfl rfl rfl (dq_op tab rfl rfl rfl rfl (dq_op tab rfl rfl rfl rfl (dq_op tab rfl rfl rfl rfl (dq_op tab rfl rfl rfl rfl (dq_op tab rfl rfl rfl rfl (dq_op tab rfl rfl rfl rfl (dq_op tab rfl rfl rfl rfl (dq_op tab rfl rfl rfl rfl (dt_op [0, 1, 2, 3, 4, 5, 6] rfl rfl rfl rfl rfl callable_42 (usr_ok (s := s) (cf := cf) (ev := ev) hk ⟨rfl, rfl, rfl, rfl, rfl, rfl, rfl, by decide⟩ (by omega)) ?_)))))))))))))))))))
  refine dq_op tab rfl rfl rfl rfl (vd_nil (by kernel_rfl) ?_)
  refine qth (vc_true rfl (wsq (wrg (vQ tab rfl (vnl (qth (vw_ret (q_thenr ?_))))))))
  exact out_mk [] (.inr rfl) ⟨rfl, rfl⟩ rfl (.bool _) (op_drop (op_drop (op_drop (op_drop (op_drop (op_drop (op_drop op_nil))))))) (told_of (by simp [ownNames, turnN]))
theorem user_end (h : TurnAt V t c e u x a p cf ev s) (hi : ∀ i ∈ [t, c, e, u, x, a, p], i < n) (hb : s.users.length * 72 ≤ 140737488351232) (hk : userAt s.users ev.user = none) (hg : EndU s ev) :
    Tri Try.prog 36 [.pointer (some ⟨t, 0, none⟩)] n 4 V (fun r L => r = .bool true ∧ L = turnL t c e u x a p n { s with users := s.users ++ [⟨ev.user, ev.a, ev.b, ev.c, 0, 0, 0, 0, 0⟩] }) := by
  obtain ⟨ht, hc, he, hu, hx, ha, hp, hn⟩ := h
  simp only [List.nodup_cons, List.mem_cons, List.not_mem_nil, or_false, not_or, List.nodup_nil, and_true, not_false_eq_true] at hn
  obtain ⟨⟨d1, d2, d3, d4, d5, d6⟩, ⟨e1, e2, e3, e4, e5⟩, ⟨f1, f2, f3, f4⟩, ⟨g1, g2, g3⟩, ⟨i1, i2⟩, j1⟩ := hn
  simp only [List.mem_cons, List.not_mem_nil, or_false, forall_eq_or_imp, forall_eq] at hi
  obtain ⟨l1, l2, l3, l4, l5, l6, l7⟩ := hi
  refine call_of_vw (K := 7) (argsI := [.pointer (some ⟨0, 0, none⟩)]) tab Try.func36 rfl rfl (by simp [Try.f36]) [.own t, .own c, .own e, .own u, .own x, .own a, .own p] [turnO 1 3 4 5 6 2 s, confO cf, evtO ev, .opn (userR.cells s.users) 49 9, .opn (sessR.cells s.sess) 54 4, .opn (addrR.cells s.addrs) 58 3, .opn ((intR .i64).cells s.spent) 3 1] rfl (.own ht (ov_turn rfl (rel_ptr rfl) (rel_slice rfl rfl) (rel_slice rfl rfl) (rel_slice rfl rfl) (rel_slice rfl rfl) (rel_ptr rfl)) (.own hc (ov_conf rfl) (.own he (ov_evt rfl) (.own hu (ov_opn userR rfl) (.own hx (ov_opn sessR rfl) (.own ha (ov_opn addrR rfl) (.own hp (ov_opn (intR .i64) rfl) .nil))))))) (by simp [ownNames, *]) (by simp [ownNames, lookNames, *]) (by simp [ownNames, *]) (al_cons (.val (rel_ptr rfl)) al_nil) (seen_of (sn_own (sn_own (sn_own (sn_own (sn_own (sn_own (sn_own sn_nil)))))))) ?_
  have hfi := gt_none hg
  refine wsq (wrg (vN tab rfl (vQ tab rfl (vnl (qth (wsq (wsq (vw_draw mixed (dq_op tab rfl rfl rfl rfl (dq_op tab rfl rfl rfl rfl (dq_op tab rfl rfl rfl rfl (dq_op tab rfl rfl rfl rfl (dq_op tab rfl rfl rfl rfl (dq_op tab rfl rfl rfl rfl (dq_op tab rfl rfl rfl rfl (dq_op tab rfl rfl rfl rfl (dq_op tab rfl rfl rfl rfl (dq_op tab rfl rfl rfl rfl (dt_op [0, 1, 2, 3, 4, 5, 6] rfl rfl rfl rfl rfl callable_42 (usr_no (s := s) (cf := cf) (ev := ev) hk ⟨rfl, rfl, rfl, rfl, rfl, rfl, rfl, by decide⟩ (by omega)) ?_)))))))))))))))))))
  refine dq_op tab rfl rfl rfl rfl (vd_nil (by kernel_rfl) ?_)
  refine qth (vc_false rfl (vw_skip (qth (wsq (wrg (vQ tab rfl (vQ tab rfl (vQ tab rfl (vQ tab rfl (vQ tab rfl (vQ tab rfl (vR rfl callable_46 (indexown_users (caps := [.pointer (some ⟨7, 0, none⟩)]) [.pointer (some ⟨7, 0, none⟩)] (fun y => decide (ev.user < y.user)) (-1) hfi [0, 1, 2, 3, 4, 5, 6, 7] (parts8 cf ev s) 3 3 rfl rfl (by omega) (.own rfl (ov_turn rfl (rel_ptr rfl) (rel_slice rfl rfl) (rel_slice rfl rfl) (rel_slice rfl rfl) (rel_slice rfl rfl) (rel_ptr rfl)) (.own rfl (ov_conf rfl) (.own rfl (ov_evt rfl) (.own rfl (ov_opn userR rfl) (.own rfl (ov_opn sessR rfl) (.own rfl (ov_opn addrR rfl) (.own rfl (ov_opn (intR .i64) rfl) (.own rfl (.cells _ _ (lrel_cons (rel_ptr rfl) lrel_nil)) .nil)))))))) (by decide) (lrel_cons (rel_ptr rfl) lrel_nil) callable_47 (fun _ _ h y _ => user2_tri y h)) ?_))))))))))))
  refine vQ tab rfl (vnl (qth (wsq (wsq (wrg (vQ tab rfl (vQ tab rfl (vnl (qth (vc_true rfl (wrg (vQ tab rfl (vQ tab rfl (vQ tab rfl (vQ tab rfl (vQ tab rfl (vQ tab rfl (vQ tab rfl (vnl (qth (wsq (vw_draw mixed (dq_op tab rfl rfl rfl rfl ?_)))))))))))))))))))))))
  refine dq_op tab rfl rfl rfl rfl (dq_op tab rfl rfl rfl rfl (dq_op tab rfl rfl rfl rfl (dq_op tab rfl rfl rfl rfl (dq_op tab rfl rfl rfl rfl (dq_op tab rfl rfl rfl rfl (dq_op tab rfl rfl rfl rfl (dq_op tab rfl rfl rfl rfl (dq_op tab rfl rfl rfl rfl (dq_op tab rfl rfl rfl rfl (dq_op tab rfl rfl rfl rfl (dq_op tab rfl rfl rfl rfl (dq_op tab rfl rfl rfl rfl (dq_op tab rfl rfl rfl rfl (dq_op tab rfl rfl rfl rfl (dq_op tab rfl rfl rfl rfl (dq_op tab rfl rfl rfl rfl (dq_op tab rfl rfl rfl rfl (dq_op tab rfl rfl rfl rfl (dq_op tab rfl rfl rfl rfl (dq_op tab rfl rfl rfl rfl (dq_op tab rfl rfl rfl rfl (dq_op tab rfl rfl rfl rfl (dq_op tab rfl rfl rfl rfl ?_)))))))))))))))))))))))
  refine dq_op tab rfl rfl rfl rfl (dq_op tab rfl rfl rfl rfl (dq_op tab rfl rfl rfl rfl (dq_op tab rfl rfl rfl rfl (dq_op tab rfl rfl rfl rfl (dq_op tab rfl rfl rfl rfl (dq_op tab rfl rfl rfl rfl (dq_op tab rfl rfl rfl rfl (dq_op tab rfl rfl rfl rfl (dq_op tab rfl rfl rfl rfl (dq_op tab rfl rfl rfl rfl (dn_op tab rfl rfl rfl rfl (dt_op [3, 8] rfl rfl rfl rfl rfl callable_48 (insert_end (us := s.users) (a := ⟨ev.user, ev.a, ev.b, ev.c, 0, 0, 0, 0, 0⟩) rfl (looks_opn userR (xs := [⟨ev.user, ev.a, ev.b, ev.c, 0, 0, 0, 0, 0⟩]) rfl rfl) (by simp [lookNames]) hb (by decide)) ?_))))))))))))
  refine dq_op tab rfl rfl rfl rfl (dq_op tab rfl rfl rfl rfl (dq_op tab rfl rfl rfl rfl (ds_op tab rfl rfl rfl rfl (vd_nil (by kernel_rfl) ?_))))
  refine qth (wsq (wrg (vQ tab rfl (vnl (qth (vw_ret ?_))))))
  exact out_mk [9, 4, 5, 6] (.inr rfl) ⟨rfl, rfl⟩ rfl (.bool _)
    (op_cons (sigma_own (a := 0) (by simp [ownNames, *]) rfl) rfl rfl (ov_turn2 (rel_ptr (sigma_own (a := 1) (by simp [ownNames, *]) rfl)) (rel_slice (sigma_at (i := 0) (by simp [ownNames, *]) rfl) rfl) (rel_slice (sigma_at (i := 1) (by simp [ownNames, *]) rfl) rfl) (rel_slice (sigma_at (i := 2) (by simp [ownNames, *]) rfl) rfl) (rel_slice (sigma_at (i := 3) (by simp [ownNames, *]) rfl) rfl) (rel_ptr (sigma_own (a := 2) (by simp [ownNames, *]) rfl))) rfl
      (op_drop (op_drop (op_drop (op_drop (op_drop (op_drop
        (op_cons (sigma_at (i := 0) (by simp [ownNames, *]) rfl) rfl rfl (ov_opn userR rfl) rfl (op_cons (sigma_at (i := 1) (by simp [ownNames, *]) rfl) rfl rfl (ov_opn sessR rfl) rfl (op_cons (sigma_at (i := 2) (by simp [ownNames, *]) rfl) rfl rfl (ov_opn addrR rfl) rfl (op_cons (sigma_at (i := 3) (by simp [ownNames, *]) rfl) rfl rfl (ov_opn (intR .i64) rfl) rfl op_nil)))))))))))
    (told_of (by simp [ownNames, turnL]))
theorem user_put (h : TurnAt V t c e u x a p cf ev s) (hi : ∀ i ∈ [t, c, e, u, x, a, p], i < n) (hb : s.users.length * 72 ≤ 140737488351232) (hk : userAt s.users ev.user = none) :
    Tri Try.prog 36 [.pointer (some ⟨t, 0, none⟩)] n 4 V (fun r L => r = .bool true ∧ L = turnL t c e u x a p n { s with users := userPut s.users ⟨ev.user, ev.a, ev.b, ev.c, 0, 0, 0, 0, 0⟩ }) := by
  by_cases hg : gtAt s.users ev.user < s.users.length
  case neg =>
    have hE : EndU s ev := fun y hy => by
      refine Decidable.byContradiction fun hc => hg ?_
      exact List.findIdx_lt_length_of_exists ⟨y, hy, by simp; omega⟩
    rw [put_end (u := ⟨ev.user, ev.a, ev.b, ev.c, 0, 0, 0, 0, 0⟩) hE]
    exact user_end h hi hb hk hE
  obtain ⟨k, hkk⟩ : ∃ k, gtAt s.users ev.user = k := ⟨_, rfl⟩
  rw [hkk] at hg
  have hfi : findI (fun y : UserV => decide (ev.user < y.user)) s.users = (k : Int) := by
    unfold findI
    rw [List.findIdx?_eq_some_iff_findIdx_eq.2 ⟨hg, hkk⟩]
  have hput : userPut s.users ⟨ev.user, ev.a, ev.b, ev.c, 0, 0, 0, 0, 0⟩ = s.users.take k ++ ⟨ev.user, ev.a, ev.b, ev.c, 0, 0, 0, 0, 0⟩ :: s.users.drop k := by unfold userPut; rw [hkk]
  rw [hput]
  obtain ⟨ht, hc, he, hu, hx, ha, hp, hn⟩ := h
  simp only [List.nodup_cons, List.mem_cons, List.not_mem_nil, or_false, not_or, List.nodup_nil, and_true, not_false_eq_true] at hn
  obtain ⟨⟨d1, d2, d3, d4, d5, d6⟩, ⟨e1, e2, e3, e4, e5⟩, ⟨f1, f2, f3, f4⟩, ⟨g1, g2, g3⟩, ⟨i1, i2⟩, j1⟩ := hn
  simp only [List.mem_cons, List.not_mem_nil, or_false, forall_eq_or_imp, forall_eq] at hi
  obtain ⟨l1, l2, l3, l4, l5, l6, l7⟩ := hi
  refine call_of_vw (K := 7) (argsI := [.pointer (some ⟨0, 0, none⟩)]) tab Try.func36 rfl rfl (by simp [Try.f36]) [.own t, .own c, .own e, .own u, .own x, .own a, .own p] [turnO 1 3 4 5 6 2 s, confO cf, evtO ev, .opn (userR.cells s.users) 49 9, .opn (sessR.cells s.sess) 54 4, .opn (addrR.cells s.addrs) 58 3, .opn ((intR .i64).cells s.spent) 3 1] rfl (.own ht (ov_turn rfl (rel_ptr rfl) (rel_slice rfl rfl) (rel_slice rfl rfl) (rel_slice rfl rfl) (rel_slice rfl rfl) (rel_ptr rfl)) (.own hc (ov_conf rfl) (.own he (ov_evt rfl) (.own hu (ov_opn userR rfl) (.own hx (ov_opn sessR rfl) (.own ha (ov_opn addrR rfl) (.own hp (ov_opn (intR .i64) rfl) .nil))))))) (by simp [ownNames, *]) (by simp [ownNames, lookNames, *]) (by simp [ownNames, *]) (al_cons (.val (rel_ptr rfl)) al_nil) (seen_of (sn_own (sn_own (sn_own (sn_own (sn_own (sn_own (sn_own sn_nil)))))))) ?_
  refine wsq (wrg (vN tab rfl (vQ tab rfl (vnl (qth (wsq (wsq (vw_draw mixed (dq_op tab rfl rfl rfl rfl (dq_op tab rfl rfl rfl rfl (dq_op tab rfl rfl rfl rfl (dq_op tab rfl rfl rfl rfl (dq_op tab rfl rfl rfl rfl (dq_op tab rfl rfl rfl rfl (dq_op tab rfl rfl rfl rfl (dq_op tab rfl rfl rfl rfl (dq_op tab rfl rfl rfl rfl (dq_op tab rfl rfl rfl rfl (dt_op [0, 1, 2, 3, 4, 5, 6] rfl rfl rfl rfl rfl callable_42 (usr_no (s := s) (cf := cf) (ev := ev) hk ⟨rfl, rfl, rfl, rfl, rfl, rfl, rfl, by decide⟩ (by omega)) ?_)))))))))))))))))))
  refine dq_op tab rfl rfl rfl rfl (vd_nil (by kernel_rfl) ?_)
  refine qth (vc_false rfl (vw_skip (qth (wsq (wrg (vQ tab rfl (vQ tab rfl (vQ tab rfl (vQ tab rfl (vQ tab rfl (vQ tab rfl (vR rfl callable_46 (indexown_users (caps := [.pointer (some ⟨7, 0, none⟩)]) [.pointer (some ⟨7, 0, none⟩)] (fun y => decide (ev.user < y.user)) (k : Int) hfi [0, 1, 2, 3, 4, 5, 6, 7] (parts8 cf ev s) 3 3 rfl rfl (by omega) (.own rfl (ov_turn rfl (rel_ptr rfl) (rel_slice rfl rfl) (rel_slice rfl rfl) (rel_slice rfl rfl) (rel_slice rfl rfl) (rel_ptr rfl)) (.own rfl (ov_conf rfl) (.own rfl (ov_evt rfl) (.own rfl (ov_opn userR rfl) (.own rfl (ov_opn sessR rfl) (.own rfl (ov_opn addrR rfl) (.own rfl (ov_opn (intR .i64) rfl) (.own rfl (.cells _ _ (lrel_cons (rel_ptr rfl) lrel_nil)) .nil)))))))) (by decide) (lrel_cons (rel_ptr rfl) lrel_nil) callable_47 (fun _ _ h y _ => user2_tri y h)) ?_))))))))))))
  refine vQ tab rfl (vnl (qth (wsq (wsq (wrg (vQ tab rfl (vQ tab rfl (vnl (qth (vc_false rfl (vw_skip (qth (wsq (vw_draw mixed (dq_op tab rfl rfl rfl rfl (dq_op tab rfl rfl rfl rfl (dq_op tab rfl rfl rfl rfl (dq_op tab rfl rfl rfl rfl (dq_op tab rfl rfl rfl rfl (dq_op tab rfl rfl rfl rfl (dq_op tab rfl rfl rfl rfl (dq_op tab rfl rfl rfl rfl (dq_op tab rfl rfl rfl rfl ?_)))))))))))))))))))))))
  refine dq_op tab rfl rfl rfl rfl (dq_op tab rfl rfl rfl rfl (dq_op tab rfl rfl rfl rfl (dq_op tab rfl rfl rfl rfl (dq_op tab rfl rfl rfl rfl (dq_op tab rfl rfl rfl rfl (dq_op tab rfl rfl rfl rfl (dq_op tab rfl rfl rfl rfl (dq_op tab rfl rfl rfl rfl (dq_op tab rfl rfl rfl rfl (dq_op tab rfl rfl rfl rfl (dq_op tab rfl rfl rfl rfl (dq_op tab rfl rfl rfl rfl (dq_op tab rfl rfl rfl rfl (dq_op tab rfl rfl rfl rfl (dq_op tab rfl rfl rfl rfl (dq_op tab rfl rfl rfl rfl (dq_op tab rfl rfl rfl rfl (dq_op tab rfl rfl rfl rfl (dq_op tab rfl rfl rfl rfl (dq_op tab rfl rfl rfl rfl (dq_op tab rfl rfl rfl rfl (dq_op tab rfl rfl rfl rfl (dq_op tab rfl rfl rfl rfl ?_)))))))))))))))))))))))
  refine dq_op tab rfl rfl rfl rfl (dq_op tab rfl rfl rfl rfl (dq_op tab rfl rfl rfl rfl (dn_op tab rfl rfl rfl rfl (dt_op [3, 8] rfl rfl rfl rfl rfl callable_48 (insert_at (us := s.users) (a := ⟨ev.user, ev.a, ev.b, ev.c, 0, 0, 0, 0, 0⟩) rfl rfl (by decide) hg hb) ?_))))
  refine dq_op tab rfl rfl rfl rfl (dq_op tab rfl rfl rfl rfl (dq_op tab rfl rfl rfl rfl (ds_op tab rfl rfl rfl rfl (vd_nil (by kernel_rfl) ?_))))
  refine qth (wsq (wrg (vQ tab rfl (vnl (qth (vw_ret ?_))))))
  exact out_mk [9, 4, 5, 6] (.inr rfl) ⟨rfl, rfl⟩ rfl (.bool _)
    (op_cons (sigma_own (a := 0) (by simp [ownNames, *]) rfl) rfl rfl (ov_turn2 (rel_ptr (sigma_own (a := 1) (by simp [ownNames, *]) rfl)) (rel_slice (sigma_at (i := 0) (by simp [ownNames, *]) rfl) rfl) (rel_slice (sigma_at (i := 1) (by simp [ownNames, *]) rfl) rfl) (rel_slice (sigma_at (i := 2) (by simp [ownNames, *]) rfl) rfl) (rel_slice (sigma_at (i := 3) (by simp [ownNames, *]) rfl) rfl) (rel_ptr (sigma_own (a := 2) (by simp [ownNames, *]) rfl))) rfl
      (op_drop (op_drop (op_drop (op_drop (op_drop (op_drop
        (op_cons (sigma_at (i := 0) (by simp [ownNames, *]) rfl) rfl rfl (ov_opn userR rfl) rfl (op_cons (sigma_at (i := 1) (by simp [ownNames, *]) rfl) rfl rfl (ov_opn sessR rfl) rfl (op_cons (sigma_at (i := 2) (by simp [ownNames, *]) rfl) rfl rfl (ov_opn addrR rfl) rfl (op_cons (sigma_at (i := 3) (by simp [ownNames, *]) rfl) rfl rfl (ov_opn (intR .i64) rfl) rfl op_nil)))))))))))
    (told_of (by simp [ownNames, turnL]))
end
end Go.Proofs.Ytcjfidfealifhaa
