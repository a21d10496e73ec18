/- Package state: tickets that are spent. -/
import Derived.Test.YtcjfidfealifhaaVg1
import Derived.Test.YtcjfidfealifhaaSt4
namespace Go.Proofs.Ytcjfidfealifhaa
open Go Vm IntWalk
set_option linter.unusedVariables false
set_option linter.unusedSimpArgs false
set_option maxHeartbeats 4000000
theorem ov_turn2 {σ : Ren} {c u x a p e c' u' x' a' p' e' m0 m1 m2 m3 k0 k1 k2 k3 : Nat} {b1 b2 b3 : Int} (hc : VRel σ (.pointer (some ⟨c, 0, none⟩)) (.pointer (some ⟨c', 0, none⟩))) (hu : VRel σ (.slice (some ⟨u, 0, none⟩) m0 0) (.slice (some ⟨u', 0, none⟩) k0 0)) (hx : VRel σ (.slice (some ⟨x, 0, none⟩) m1 0) (.slice (some ⟨x', 0, none⟩) k1 0)) (ha : VRel σ (.slice (some ⟨a, 0, none⟩) m2 0) (.slice (some ⟨a', 0, none⟩) k2 0)) (hp : VRel σ (.slice (some ⟨p, 0, none⟩) m3 0) (.slice (some ⟨p', 0, none⟩) k3 0)) (he : VRel σ (.pointer (some ⟨e, 0, none⟩)) (.pointer (some ⟨e', 0, none⟩))) :
    OV σ (.cells [.pointer (some ⟨c, 0, none⟩), .int .i64 b1, .int .i64 b2, .int .i64 b3, .slice (some ⟨u, 0, none⟩) m0 0, .slice (some ⟨x, 0, none⟩) m1 0, .slice (some ⟨a, 0, none⟩) m2 0, .slice (some ⟨p, 0, none⟩) m3 0, .pointer (some ⟨e, 0, none⟩)] 67 (0, 0))
      (.cells [.pointer (some ⟨c', 0, none⟩), .int .i64 b1, .int .i64 b2, .int .i64 b3, .slice (some ⟨u', 0, none⟩) k0 0, .slice (some ⟨x', 0, none⟩) k1 0, .slice (some ⟨a', 0, none⟩) k2 0, .slice (some ⟨p', 0, none⟩) k3 0, .pointer (some ⟨e', 0, none⟩)] 67 (0, 0)) :=
  .cells _ _ (lrel_cons hc (lrel_cons (.int _ _) (lrel_cons (.int _ _) (lrel_cons (.int _ _) (lrel_cons hu (lrel_cons hx (lrel_cons ha (lrel_cons hp (lrel_cons he lrel_nil)))))))))
theorem index_ints {V : Heap} {n : Nat} {sv : Value} {xs : List Int} (v : Int) (hl : Looks V 1 sv ((intR .i64).cells xs) xs.length) (hx : xs.length ≤ 140737488355328) :
    Tri Try.prog 64 [sv, .int .i64 v] n 0 V (fun u L => u = .int .i64 (findI (v == ·) xs) ∧ L = []) := by
  refine reads_of_vw (K := 1) (argsI := [.slice (some ⟨0, 0, none⟩) xs.length 0, .int .i64 v]) tab Try.func64 rfl rfl (by simp [Try.f64]) [.look sv xs.length 1] [.win ((intR .i64).cells xs) 1] rfl (.look hl ((intR .i64).flat_cells xs) .nil) (by simp [ownNames]) (by simp [ownNames, lookNames]) (al_cons (.look (a := 0) rfl) (al_cons (.val (.int _ _)) al_nil)) (seen_of (sn_look (seen_top (j := 0) rfl) sn_nil)) (.int _ _) ?_
  refine wsq (wrg (vQ tab rfl (vnl (qth (wsq (wsq (wrg (vQ tab rfl (vQ tab rfl (vQ tab rfl (vnl (qth (wbk ?_)))))))))))))
  refine vw_loop_env (fun k env => ∃ j : Int, 0 ≤ j ∧ j ≤ xs.length ∧ (xs.take j.toNat).any (v == ·) = false ∧ k = (xs.length - j).toNat ∧
      env = [(0, .slice (some ⟨0, 0, none⟩) xs.length 0), (1, .int .i64 v), (7, .int .i64 xs.length), (8, .int .i64 j)]) (xs.length - 0)
    ⟨_, se_cons rfl (se_cons rfl (se_cons rfl (se_cons rfl se_nil))), 0, by omega, by omega, by simp, by simp, rfl⟩ ?_
  rintro k env ⟨j, h0, h1, ht, rfl, rfl⟩
  by_cases hj : j < (xs.length : Int)
  case neg =>
    rw [show j.toNat = xs.length by omega, List.take_length] at ht
    refine wsq (wrg (vQ tab rfl (vnl (qth (wsq (vcd_false rfl (by simp only [decide_eq_true_eq, decide_eq_false_iff_not, Bool.not_eq_eq_eq_not, Bool.not_true, Bool.not_false, bne_iff_ne, bne_eq_false_iff_eq, beq_iff_eq, beq_eq_false_iff_ne, ne_eq, beq_self_eq_true, bne_self_eq_false, Bool.and_eq_true, Bool.and_eq_false_iff, Bool.or_eq_true, Bool.or_eq_false_iff, and_self, and_true, true_and, Bool.false_eq_true, Bool.true_eq_false, not_false_eq_true, not_true_eq_false]; first | done | omega) ?_))))))
    refine vw_exit (q_thenx (q_thenx (q_here (qth (wsq (wrg (vQ tab rfl (vnl (qth (vw_ret ?_))))))))))
    exact ⟨⟨.inr rfl, by rw [findI_none ht]; rfl⟩, trivial⟩
  obtain ⟨a, hxa⟩ := get_some h0 hj
  have hi : IntKind.i64.wrap (j + 1) = j + 1 := i64_in _ (by omega)
  have hjn : (j + 1).toNat = j.toNat + 1 := by omega
  cases hp : (v == a) with
  | true =>
    refine wsq (wrg (vQ tab rfl (vnl (qth (wsq (vcd_true rfl (by simp only [hi, hp, decide_eq_true_eq, decide_eq_false_iff_not, Bool.not_eq_eq_eq_not, Bool.not_true, Bool.not_false, bne_iff_ne, bne_eq_false_iff_eq, beq_iff_eq, beq_eq_false_iff_ne, ne_eq, beq_self_eq_true, bne_self_eq_false, Bool.and_eq_true, Bool.and_eq_false_iff, Bool.or_eq_true, Bool.or_eq_false_iff, and_self, and_true, true_and, Bool.false_eq_true, Bool.true_eq_false, not_false_eq_true, not_true_eq_false]; first | done | omega) ?_))))))
    refine vw_skip (qth (wsq (wbk (wsq (wrg (vQ tab rfl (vQ tab rfl (vnl (qth (wsq (wrg (vQ tab rfl (vQ tab rfl (vQ tab rfl (vq_op tab rfl rfl rfl (ev_index rfl rfl rfl rfl rfl (by omega) (by omega)) ?_)))))))))))))))
    refine vq_op tab rfl rfl rfl (ev_val (intR .i64) rfl rfl rfl rfl rfl hxa rfl) (vQ tab rfl (vnl (qth (vcd_true rfl (by simp only [hi, hp, decide_eq_true_eq, decide_eq_false_iff_not, Bool.not_eq_eq_eq_not, Bool.not_true, Bool.not_false, bne_iff_ne, bne_eq_false_iff_eq, beq_iff_eq, beq_eq_false_iff_ne, ne_eq, beq_self_eq_true, bne_self_eq_false, Bool.and_eq_true, Bool.and_eq_false_iff, Bool.or_eq_true, Bool.or_eq_false_iff, and_self, and_true, true_and, Bool.false_eq_true, Bool.true_eq_false, not_false_eq_true, not_true_eq_false]; first | done | omega) ?_))))
    refine wsq (wrg (vQ tab rfl (vQ tab rfl (vnl (qth (vw_ret (q_ret (q_thenr (q_thenr (q_ret (q_thenr ?_)))))))))))
    exact ⟨⟨.inr rfl, by rw [findI_some hxa hp ht]; exact congrArg (fun j => some (Value.int .i64 j)) (by omega)⟩, trivial⟩
  | false =>
    refine wsq (wrg (vQ tab rfl (vnl (qth (wsq (vcd_true rfl (by simp only [hi, hp, decide_eq_true_eq, decide_eq_false_iff_not, Bool.not_eq_eq_eq_not, Bool.not_true, Bool.not_false, bne_iff_ne, bne_eq_false_iff_eq, beq_iff_eq, beq_eq_false_iff_ne, ne_eq, beq_self_eq_true, bne_self_eq_false, Bool.and_eq_true, Bool.and_eq_false_iff, Bool.or_eq_true, Bool.or_eq_false_iff, and_self, and_true, true_and, Bool.false_eq_true, Bool.true_eq_false, not_false_eq_true, not_true_eq_false]; first | done | omega) ?_))))))
    refine vw_skip (qth (wsq (wbk (wsq (wrg (vQ tab rfl (vQ tab rfl (vnl (qth (wsq (wrg (vQ tab rfl (vQ tab rfl (vQ tab rfl (vq_op tab rfl rfl rfl (ev_index rfl rfl rfl rfl rfl (by omega) (by omega)) ?_)))))))))))))))
    refine vq_op tab rfl rfl rfl (ev_val (intR .i64) rfl rfl rfl rfl rfl hxa rfl) (vQ tab rfl (vnl (qth (vcd_false rfl (by simp only [hi, hp, decide_eq_true_eq, decide_eq_false_iff_not, Bool.not_eq_eq_eq_not, Bool.not_true, Bool.not_false, bne_iff_ne, bne_eq_false_iff_eq, beq_iff_eq, beq_eq_false_iff_ne, ne_eq, beq_self_eq_true, bne_self_eq_false, Bool.and_eq_true, Bool.and_eq_false_iff, Bool.or_eq_true, Bool.or_eq_false_iff, and_self, and_true, true_and, Bool.false_eq_true, Bool.true_eq_false, not_false_eq_true, not_true_eq_false]; first | done | omega) ?_))))
    refine vw_skip (q_norm (qth (wrg (vQ tab rfl (vQ tab rfl (vnl (qth ?_)))))))
    exact ⟨rfl, rfl, (xs.length - (j + 1)).toNat, _, by omega, se_cons rfl (se_cons rfl (se_cons rfl (se_cons (se_int rfl hi) se_nil))), j + 1, by omega, by omega, by rw [hjn]; exact any_take hxa hp ht, rfl, rfl⟩
theorem contains_ints {V : Heap} {n : Nat} {sv : Value} {xs : List Int} (v : Int) (hl : Looks V 1 sv ((intR .i64).cells xs) xs.length) (hx : xs.length ≤ 140737488355328) :
    Tri Try.prog 53 [sv, .int .i64 v] n 0 V (fun u L => u = .bool (xs.contains v) ∧ L = []) := by
  refine reads_of_vw (K := 1) (argsI := [.slice (some ⟨0, 0, none⟩) xs.length 0, .int .i64 v]) tab Try.func53 rfl rfl (by simp [Try.f53]) [.look sv xs.length 1] [.win ((intR .i64).cells xs) 1] rfl (.look hl ((intR .i64).flat_cells xs) .nil) (by simp [ownNames]) (by simp [ownNames, lookNames]) (al_cons (.look (a := 0) rfl) (al_cons (.val (.int _ _)) al_nil)) (seen_of (sn_look (seen_top (j := 0) rfl) sn_nil)) (.bool _) ?_
  refine wsq (wrg (vQ tab rfl (vnl (qth (wsq (wrg (vQ tab rfl (vQ tab rfl (vR rfl callable_64 (index_ints v (looks_win (intR .i64) rfl rfl) hx) (vQ tab rfl (vQ tab rfl (vnl (qth (vw_ret ?_))))))))))))))
  exact ⟨⟨.inr rfl, Eq.trans (b := some (.bool (decide (0 ≤ findI (v == ·) xs)))) rfl (congrArg (fun b => some (Value.bool b)) (by rw [findI_any, List.contains_eq_any_beq]))⟩, trivial⟩
section
variable {V : Heap} {n t c e u x a p : Nat} {cf : ConfV} {ev : EventV} {s : StV}
theorem spend_no (h : TurnAt V t c e u x a p cf ev s) (hi : ∀ i ∈ [t, c, e, u, x, a, p], i < n) (hb : s.spent.length * 8 ≤ 140737488351232) (hk : s.spent.contains ev.session = true) :
    Tri Try.prog 40 [.pointer (some ⟨t, 0, none⟩)] n 0 V (fun r L => r = .bool false ∧ L = turnN t c e u x a p) := by
  obtain ⟨ht, hc, he, hu, hx, ha, hp, hn⟩ := h
  simp only [List.nodup_cons, List.mem_cons, List.not_mem_nil, or_false, not_or, List.nodup_nil, and_true, not_false_eq_true] at hn
  obtain ⟨⟨d1, d2, d3, d4, d5, d6⟩, ⟨e1, e2, e3, e4, e5⟩, ⟨f1, f2, f3, f4⟩, ⟨g1, g2, g3⟩, ⟨i1, i2⟩, j1⟩ := hn
  simp only [List.mem_cons, List.not_mem_nil, or_false, forall_eq_or_imp, forall_eq] at hi
  obtain ⟨l1, l2, l3, l4, l5, l6, l7⟩ := hi
  refine call_of_vw (K := 7) (argsI := [.pointer (some ⟨0, 0, none⟩)]) tab Try.func40 rfl rfl (by simp [Try.f40]) [.own t, .own c, .own e, .own u, .own x, .own a, .own p] [turnO 1 3 4 5 6 2 s, confO cf, evtO ev, .opn (userR.cells s.users) 49 9, .opn (sessR.cells s.sess) 54 4, .opn (addrR.cells s.addrs) 58 3, .opn ((intR .i64).cells s.spent) 3 1] rfl (.own ht (ov_turn rfl (rel_ptr rfl) (rel_slice rfl rfl) (rel_slice rfl rfl) (rel_slice rfl rfl) (rel_slice rfl rfl) (rel_ptr rfl)) (.own hc (ov_conf rfl) (.own he (ov_evt rfl) (.own hu (ov_opn userR rfl) (.own hx (ov_opn sessR rfl) (.own ha (ov_opn addrR rfl) (.own hp (ov_opn (intR .i64) rfl) .nil))))))) (by simp [ownNames, *]) (by simp [ownNames, lookNames, *]) (by simp [ownNames, *]) (al_cons (.val (rel_ptr rfl)) al_nil) (seen_of (sn_own (sn_own (sn_own (sn_own (sn_own (sn_own (sn_own sn_nil)))))))) ?_
  refine wsq (wrg (vQ tab rfl (vnl (qth (wsq (wsq (vw_draw mixed (dq_op tab rfl rfl rfl rfl (dq_op tab rfl rfl rfl rfl (dq_op tab rfl rfl rfl rfl (dq_op tab rfl rfl rfl rfl (dq_op tab rfl rfl rfl rfl (dq_op tab rfl rfl rfl rfl (dq_op tab rfl rfl rfl rfl (dq_op tab rfl rfl rfl rfl (dq_op tab rfl rfl rfl rfl (dq_op tab rfl rfl rfl rfl (dq_op tab rfl rfl rfl rfl (dq_op tab rfl rfl rfl rfl (dr_op rfl rfl rfl rfl rfl callable_53 (contains_ints ev.session (looks_opn (intR .i64) (xs := s.spent) rfl rfl) (by omega)) ?_))))))))))))))))))))
  refine vd_nil (by kernel_rfl) ?_
  refine qth (vcd_true rfl (by simp only [hk, decide_eq_true_eq, decide_eq_false_iff_not, Bool.not_eq_eq_eq_not, Bool.not_true, Bool.not_false, bne_iff_ne, bne_eq_false_iff_eq, beq_iff_eq, beq_eq_false_iff_ne, ne_eq, beq_self_eq_true, bne_self_eq_false, Bool.and_eq_true, Bool.and_eq_false_iff, Bool.or_eq_true, Bool.or_eq_false_iff, and_self, and_true, true_and, Bool.false_eq_true, Bool.true_eq_false, not_false_eq_true, not_true_eq_false]; first | done | omega) ?_)
  refine wsq (wrg (vQ tab rfl (vnl (qth (vw_ret (q_thenr ?_))))))
  exact out_mk [] (.inr rfl) ⟨rfl, rfl⟩ rfl (.bool _) (op_drop (op_drop (op_drop (op_drop (op_drop (op_drop (op_drop op_nil))))))) (told_of (by simp [ownNames, turnN]))
theorem spend_ok (h : TurnAt V t c e u x a p cf ev s) (hi : ∀ i ∈ [t, c, e, u, x, a, p], i < n) (hb : s.spent.length * 8 ≤ 140737488351232) (hk : s.spent.contains ev.session = false) :
    Tri Try.prog 40 [.pointer (some ⟨t, 0, none⟩)] n 4 V (fun r L => r = .bool true ∧ L = turnL t c e u x a p n { s with spent := s.spent ++ [ev.session] }) := by
  obtain ⟨ht, hc, he, hu, hx, ha, hp, hn⟩ := h
  simp only [List.nodup_cons, List.mem_cons, List.not_mem_nil, or_false, not_or, List.nodup_nil, and_true, not_false_eq_true] at hn
  obtain ⟨⟨d1, d2, d3, d4, d5, d6⟩, ⟨e1, e2, e3, e4, e5⟩, ⟨f1, f2, f3, f4⟩, ⟨g1, g2, g3⟩, ⟨i1, i2⟩, j1⟩ := hn
  simp only [List.mem_cons, List.not_mem_nil, or_false, forall_eq_or_imp, forall_eq] at hi
  obtain ⟨l1, l2, l3, l4, l5, l6, l7⟩ := hi
  refine call_of_vw (K := 7) (argsI := [.pointer (some ⟨0, 0, none⟩)]) tab Try.func40 rfl rfl (by simp [Try.f40]) [.own t, .own c, .own e, .own u, .own x, .own a, .own p] [turnO 1 3 4 5 6 2 s, confO cf, evtO ev, .opn (userR.cells s.users) 49 9, .opn (sessR.cells s.sess) 54 4, .opn (addrR.cells s.addrs) 58 3, .opn ((intR .i64).cells s.spent) 3 1] rfl (.own ht (ov_turn rfl (rel_ptr rfl) (rel_slice rfl rfl) (rel_slice rfl rfl) (rel_slice rfl rfl) (rel_slice rfl rfl) (rel_ptr rfl)) (.own hc (ov_conf rfl) (.own he (ov_evt rfl) (.own hu (ov_opn userR rfl) (.own hx (ov_opn sessR rfl) (.own ha (ov_opn addrR rfl) (.own hp (ov_opn (intR .i64) rfl) .nil))))))) (by simp [ownNames, *]) (by simp [ownNames, lookNames, *]) (by simp [ownNames, *]) (al_cons (.val (rel_ptr rfl)) al_nil) (seen_of (sn_own (sn_own (sn_own (sn_own (sn_own (sn_own (sn_own sn_nil)))))))) ?_
  refine wsq (wrg (vQ tab rfl (vnl (qth (wsq (wsq (vw_draw mixed (dq_op tab rfl rfl rfl rfl (dq_op tab rfl rfl rfl rfl (dq_op tab rfl rfl rfl rfl (dq_op tab rfl rfl rfl rfl (dq_op tab rfl rfl rfl rfl (dq_op tab rfl rfl rfl rfl (dq_op tab rfl rfl rfl rfl (dq_op tab rfl rfl rfl rfl (dq_op tab rfl rfl rfl rfl (dq_op tab rfl rfl rfl rfl (dq_op tab rfl rfl rfl rfl (dq_op tab rfl rfl rfl rfl (dr_op rfl rfl rfl rfl rfl callable_53 (contains_ints ev.session (looks_opn (intR .i64) (xs := s.spent) rfl rfl) (by omega)) ?_))))))))))))))))))))
  refine vd_nil (by kernel_rfl) ?_
  refine qth (vcd_false rfl (by simp only [hk, decide_eq_true_eq, decide_eq_false_iff_not, Bool.not_eq_eq_eq_not, Bool.not_true, Bool.not_false, bne_iff_ne, bne_eq_false_iff_eq, beq_iff_eq, beq_eq_false_iff_ne, ne_eq, beq_self_eq_true, bne_self_eq_false, Bool.and_eq_true, Bool.and_eq_false_iff, Bool.or_eq_true, Bool.or_eq_false_iff, and_self, and_true, true_and, Bool.false_eq_true, Bool.true_eq_false, not_false_eq_true, not_true_eq_false]; first | done | omega) ?_)
  refine vw_skip (qth (wsq (vw_draw mixed (dq_op tab rfl rfl rfl rfl (dq_op tab rfl rfl rfl rfl (dq_op tab rfl rfl rfl rfl (dq_op tab rfl rfl rfl rfl (dq_op tab rfl rfl rfl rfl (dq_op tab rfl rfl rfl rfl (dq_op tab rfl rfl rfl rfl (dq_op tab rfl rfl rfl rfl (dq_op tab rfl rfl rfl rfl (dq_op tab rfl rfl rfl rfl (dq_op tab rfl rfl rfl rfl (dq_op tab rfl rfl rfl rfl (dq_op tab rfl rfl rfl rfl (dn_op tab rfl rfl rfl rfl (do_op [6, 7] rfl rfl (opr_ev tab (ev_app (intR .i64) (xs := s.spent) (ys := [ev.session]) (m := 1) rfl rfl rfl rfl rfl rfl rfl rfl rfl (by show (_ + 1) * 8 ≤ _; omega) (by omega))) ?_))))))))))))))))))
  refine dq_op tab rfl rfl rfl rfl (dq_op tab rfl rfl rfl rfl (dq_op tab rfl rfl rfl rfl (ds_op tab rfl rfl rfl rfl (vd_nil (by kernel_rfl) ?_))))
  refine qth (wsq (wrg (vQ tab rfl (vnl (qth (vw_ret ?_))))))
  exact out_mk [3, 4, 5, 8] (.inr rfl) ⟨rfl, rfl⟩ rfl (.bool _)
    (op_cons (sigma_own (a := 0) (by simp [ownNames, *]) rfl) rfl rfl (ov_turn2 (rel_ptr (sigma_own (a := 1) (by simp [ownNames, *]) rfl)) (rel_slice (sigma_at (i := 0) (by simp [ownNames, *]) rfl) rfl) (rel_slice (sigma_at (i := 1) (by simp [ownNames, *]) rfl) rfl) (rel_slice (sigma_at (i := 2) (by simp [ownNames, *]) rfl) rfl) (rel_slice (sigma_at (i := 3) (by simp [ownNames, *]) rfl) (by simp)) (rel_ptr (sigma_own (a := 2) (by simp [ownNames, *]) rfl))) rfl
      (op_drop (op_drop (op_drop (op_drop (op_drop (op_drop
        (op_cons (sigma_at (i := 0) (by simp [ownNames, *]) rfl) rfl rfl (ov_opn userR rfl) rfl (op_cons (sigma_at (i := 1) (by simp [ownNames, *]) rfl) rfl rfl (ov_opn sessR rfl) rfl (op_cons (sigma_at (i := 2) (by simp [ownNames, *]) rfl) rfl rfl (ov_opn addrR rfl) rfl (op_cons (sigma_at (i := 3) (by simp [ownNames, *]) rfl) rfl rfl (ov_opn (intR .i64) rfl) rfl op_nil)))))))))))
    (told_of (by simp [ownNames, turnL]))
end
end Go.Proofs.Ytcjfidfealifhaa
