/- Package state: New, ConfigMay, User, Session, copies. -/
import Derived.Test.YtcjfidfealifhaaVg1
import Derived.Test.YtcjfidfealifhaaSt0
import Derived.Test.YtcjfidfealifhaaEv1
namespace Go.Proofs.Ytcjfidfealifhaa
open Go Vm IntWalk
set_option linter.unusedVariables false
set_option linter.unusedSimpArgs false
theorem betw_fun (x l h : Int) : Fun Try.prog 26 [.int .i64 x, .int .i64 l, .int .i64 h] (.bool (betw x l h)) := by
  refine fun_of_vw tab Try.func26 rfl rfl (by simp [Try.f26]) (lrel_cons (.int _ _) (lrel_cons (.int _ _) (lrel_cons (.int _ _) lrel_nil))) (.bool _) ?_
  refine wsq (wrg (vQ tab rfl (vnl (qth (wsq (wrg (vQ tab rfl (vQ tab rfl (vQ tab rfl (vQ tab rfl ?_))))))))))
  refine vg_op rfl rfl rfl (fun _ => ?_) (fun _ => ?_)
  refine vQ tab rfl (vQ tab rfl (vQ tab rfl (vQ tab rfl (vQ tab rfl (vnl (qth (vw_ret ?_)))))))
  rotate_left
  refine vK rfl (vK rfl (vK rfl (vQ tab rfl (vQ tab rfl (vnl (qth (vw_ret ?_)))))))
  rotate_left
  all_goals exact ⟨.inr rfl, Eq.trans (b := some (.bool _)) rfl (congrArg (fun b => some (Value.bool b)) (by simp_all [betw] <;> (intros; omega)))⟩
set_option maxHeartbeats 4000000 in
theorem life_tri {V : Heap} {n : Nat} {sv : Value} {xs : List Int} (hl : Looks V 1 sv ((intR .i64).cells xs) xs.length) (hx : xs.length ≤ 1000) :
    Tri Try.prog 27 [sv] n 0 V (fun u L => u = .bool (xs.all lifeOk) ∧ L = []) := by
  refine reads_of_vw (K := 1) (argsI := [.slice (some ⟨0, 0, none⟩) xs.length 0]) tab Try.func27 rfl rfl (by simp [Try.f27]) [.look sv xs.length 1] [.win ((intR .i64).cells xs) 1] rfl (.look hl ((intR .i64).flat_cells xs) .nil) (by simp [ownNames]) (by simp [ownNames, lookNames]) (al_cons (.look (a := 0) rfl) al_nil) (seen_of (sn_look (seen_top (j := 0) rfl) sn_nil)) (.bool _) ?_
  refine wsq (wrg (vQ tab rfl (vnl (qth (wsq (wsq (wrg (vQ tab rfl (vQ tab rfl (vQ tab rfl (vnl (qth (wbk ?_)))))))))))))
  refine vw_loop_env (fun k env => ∃ j : Int, 0 ≤ j ∧ j ≤ xs.length ∧ k = (xs.length - j).toNat ∧ (xs.take j.toNat).all lifeOk = true ∧
      env = [(5, .slice (some ⟨0, 0, none⟩) xs.length 0), (6, .int .i64 xs.length), (7, .int .i64 j)]) (xs.length - 0)
    ⟨_, se_cons rfl (se_cons rfl (se_cons rfl se_nil)), 0, by omega, by omega, by simp, by simp, rfl⟩ ?_
  rintro k env ⟨j, h0, h1, rfl, ha, rfl⟩
  by_cases hj : j < (xs.length : Int)
  case neg =>
    rw [show j.toNat = xs.length by omega, List.take_length] at *
    rw [ha]
    refine wsq (wrg (vQ tab rfl (vnl (qth (wsq (vcd_false rfl (by simp only [decide_eq_true_eq, decide_eq_false_iff_not, Bool.not_eq_eq_eq_not, Bool.not_true, Bool.not_false, bne_iff_ne, bne_eq_false_iff_eq, beq_iff_eq, beq_eq_false_iff_ne, ne_eq, beq_self_eq_true, bne_self_eq_false, Bool.and_eq_true, Bool.and_eq_false_iff, Bool.or_eq_true, Bool.or_eq_false_iff, and_self, and_true, true_and, Bool.false_eq_true, Bool.true_eq_false, not_false_eq_true, not_true_eq_false]; first | done | omega) ?_))))))
    refine vw_exit (q_thenx (q_thenx (q_here (qth (wsq (wrg (vQ tab rfl (vnl (qth (vw_ret ?_))))))))))
    exact ⟨⟨.inr rfl, rfl⟩, trivial⟩
  obtain ⟨x, hxa⟩ := get_some h0 hj
  have hi : IntKind.i64.wrap (j + 1) = j + 1 := i64_in _ (by omega)
  have hjn : (j + 1).toNat = j.toNat + 1 := by omega
  by_cases h : 1 ≤ x ∧ x ≤ 65536
  case neg =>
    have hk : lifeOk x = false := by unfold lifeOk; rw [Bool.and_eq_false_iff, decide_eq_false_iff_not, decide_eq_false_iff_not]; omega
    have hall : xs.all lifeOk = false := by
      rw [← Bool.not_eq_true, List.all_eq_true]
      intro h; have := h x (List.mem_of_getElem? hxa); rw [hk] at this; cases this
    rw [hall]
    rcases (show x < 1 ∨ (¬ x < 1 ∧ 65536 < x) by omega) with g | g
    all_goals
      first
        | refine wsq (wrg (vQ tab rfl (vnl (qth (wsq (vcd_true rfl (by simp only [decide_eq_true_eq, decide_eq_false_iff_not, Bool.not_eq_eq_eq_not, Bool.not_true, Bool.not_false, bne_iff_ne, bne_eq_false_iff_eq, beq_iff_eq, beq_eq_false_iff_ne, ne_eq, beq_self_eq_true, bne_self_eq_false, Bool.and_eq_true, Bool.and_eq_false_iff, Bool.or_eq_true, Bool.or_eq_false_iff, and_self, and_true, true_and, Bool.false_eq_true, Bool.true_eq_false, not_false_eq_true, not_true_eq_false]; first | done | omega) ?_))))))
          refine vw_skip (qth (wsq (wbk (wsq (wrg (vq_op tab rfl rfl rfl (ev_index rfl rfl rfl rfl rfl (by omega) (by omega)) ?_))))))
          refine vq_op tab rfl rfl rfl (ev_val (intR .i64) rfl rfl rfl rfl rfl hxa rfl) (vQ tab rfl (vnl (qth (wsq (wrg (vQ tab rfl (vQ tab rfl (vQ tab rfl (vgd_op true rfl rfl rfl (by simp only [decide_eq_true_eq, decide_eq_false_iff_not, Bool.not_eq_eq_eq_not, Bool.not_true, Bool.not_false, bne_iff_ne, bne_eq_false_iff_eq, beq_iff_eq, beq_eq_false_iff_ne, ne_eq, beq_self_eq_true, bne_self_eq_false, Bool.and_eq_true, Bool.and_eq_false_iff, Bool.or_eq_true, Bool.or_eq_false_iff, and_self, and_true, true_and, Bool.false_eq_true, Bool.true_eq_false, not_false_eq_true, not_true_eq_false]; first | done | omega) ?_)))))))))
          refine vK rfl (vK rfl (vQ tab rfl (vnl (qth (vc_true rfl (wsq (wrg (vQ tab rfl (vnl (qth (vw_ret (q_ret (q_thenr (q_thenr (q_ret (q_thenr ?_))))))))))))))))
        | refine wsq (wrg (vQ tab rfl (vnl (qth (wsq (vcd_true rfl (by simp only [decide_eq_true_eq, decide_eq_false_iff_not, Bool.not_eq_eq_eq_not, Bool.not_true, Bool.not_false, bne_iff_ne, bne_eq_false_iff_eq, beq_iff_eq, beq_eq_false_iff_ne, ne_eq, beq_self_eq_true, bne_self_eq_false, Bool.and_eq_true, Bool.and_eq_false_iff, Bool.or_eq_true, Bool.or_eq_false_iff, and_self, and_true, true_and, Bool.false_eq_true, Bool.true_eq_false, not_false_eq_true, not_true_eq_false]; first | done | omega) ?_))))))
          refine vw_skip (qth (wsq (wbk (wsq (wrg (vq_op tab rfl rfl rfl (ev_index rfl rfl rfl rfl rfl (by omega) (by omega)) ?_))))))
          refine vq_op tab rfl rfl rfl (ev_val (intR .i64) rfl rfl rfl rfl rfl hxa rfl) (vQ tab rfl (vnl (qth (wsq (wrg (vQ tab rfl (vQ tab rfl (vQ tab rfl (vgd_op false rfl rfl rfl (by simp only [decide_eq_true_eq, decide_eq_false_iff_not, Bool.not_eq_eq_eq_not, Bool.not_true, Bool.not_false, bne_iff_ne, bne_eq_false_iff_eq, beq_iff_eq, beq_eq_false_iff_ne, ne_eq, beq_self_eq_true, bne_self_eq_false, Bool.and_eq_true, Bool.and_eq_false_iff, Bool.or_eq_true, Bool.or_eq_false_iff, and_self, and_true, true_and, Bool.false_eq_true, Bool.true_eq_false, not_false_eq_true, not_true_eq_false]; first | done | omega) ?_)))))))))
          refine vQ tab rfl (vQ tab rfl (vQ tab rfl (vnl (qth (vcd_true rfl (by simp only [decide_eq_true_eq, decide_eq_false_iff_not, Bool.not_eq_eq_eq_not, Bool.not_true, Bool.not_false, bne_iff_ne, bne_eq_false_iff_eq, beq_iff_eq, beq_eq_false_iff_ne, ne_eq, beq_self_eq_true, bne_self_eq_false, Bool.and_eq_true, Bool.and_eq_false_iff, Bool.or_eq_true, Bool.or_eq_false_iff, and_self, and_true, true_and, Bool.false_eq_true, Bool.true_eq_false, not_false_eq_true, not_true_eq_false]; first | done | omega) ?_)))))
          refine wsq (wrg (vQ tab rfl (vnl (qth (vw_ret (q_ret (q_thenr (q_thenr (q_ret (q_thenr ?_))))))))))
      exact ⟨⟨.inr rfl, rfl⟩, trivial⟩
  have hk : lifeOk x = true := by unfold lifeOk; simp [h]
  refine wsq (wrg (vQ tab rfl (vnl (qth (wsq (vcd_true rfl (by simp only [hi, decide_eq_true_eq, decide_eq_false_iff_not, Bool.not_eq_eq_eq_not, Bool.not_true, Bool.not_false, bne_iff_ne, bne_eq_false_iff_eq, beq_iff_eq, beq_eq_false_iff_ne, ne_eq, beq_self_eq_true, bne_self_eq_false, Bool.and_eq_true, Bool.and_eq_false_iff, Bool.or_eq_true, Bool.or_eq_false_iff, and_self, and_true, true_and, Bool.false_eq_true, Bool.true_eq_false, not_false_eq_true, not_true_eq_false]; first | done | omega) ?_))))))
  refine vw_skip (qth (wsq (wbk (wsq (wrg (vq_op tab rfl rfl rfl (ev_index rfl rfl rfl rfl rfl (by omega) (by omega)) ?_))))))
  refine vq_op tab rfl rfl rfl (ev_val (intR .i64) rfl rfl rfl rfl rfl hxa rfl) (vQ tab rfl (vnl (qth (wsq (wrg (vQ tab rfl (vQ tab rfl (vQ tab rfl (vgd_op false rfl rfl rfl (by simp only [hi, decide_eq_true_eq, decide_eq_false_iff_not, Bool.not_eq_eq_eq_not, Bool.not_true, Bool.not_false, bne_iff_ne, bne_eq_false_iff_eq, beq_iff_eq, beq_eq_false_iff_ne, ne_eq, beq_self_eq_true, bne_self_eq_false, Bool.and_eq_true, Bool.and_eq_false_iff, Bool.or_eq_true, Bool.or_eq_false_iff, and_self, and_true, true_and, Bool.false_eq_true, Bool.true_eq_false, not_false_eq_true, not_true_eq_false]; first | done | omega) ?_)))))))))
  refine vQ tab rfl (vQ tab rfl (vQ tab rfl (vnl (qth (vcd_false rfl (by simp only [hi, decide_eq_true_eq, decide_eq_false_iff_not, Bool.not_eq_eq_eq_not, Bool.not_true, Bool.not_false, bne_iff_ne, bne_eq_false_iff_eq, beq_iff_eq, beq_eq_false_iff_ne, ne_eq, beq_self_eq_true, bne_self_eq_false, Bool.and_eq_true, Bool.and_eq_false_iff, Bool.or_eq_true, Bool.or_eq_false_iff, and_self, and_true, true_and, Bool.false_eq_true, Bool.true_eq_false, not_false_eq_true, not_true_eq_false]; first | done | omega) ?_)))))
  refine vw_skip (q_norm (qth (wrg (vQ tab rfl (vQ tab rfl (vnl (qth ?_)))))))
  refine ⟨rfl, rfl, (xs.length - (j + 1)).toNat, _, by omega, se_cons rfl (se_cons rfl (se_cons (se_int rfl hi) se_nil)), j + 1, by omega, by omega, rfl, ?_, rfl⟩
  rw [hjn, List.take_add_one, hxa, List.all_append, ha]; simp [hk]
theorem conf_tri {V : Heap} {n i : Nat} (c : ConfV) (hV : V i = some (confO c)) :
    Tri Try.prog 21 [.pointer (some ⟨i, 0, none⟩)] n 0 V (fun u L => u = .bool (confMay c) ∧ L = []) := by
  refine reads_of_vw (K := 1) (argsI := [.pointer (some ⟨0, 0, none⟩)]) tab Try.func21 rfl rfl (by simp [Try.f21]) [.own i] [confO c] rfl (.own hV (ov_conf rfl) .nil) (by simp [ownNames, *]) (by simp [ownNames, lookNames, *]) (al_cons (.val (rel_ptr rfl)) al_nil) (seen_of (sn_own sn_nil)) (.bool _) ?_
  refine wsq (wrg (vQ tab rfl (vnl (qth (wsq (vw_draw mixed (dq_op tab rfl rfl rfl rfl (dq_op tab rfl rfl rfl rfl (dq_op tab rfl rfl rfl rfl (dq_op tab rfl rfl rfl rfl (df_op rfl rfl rfl rfl rfl callable_26 (betw_fun _ _ _) (dq_op tab rfl rfl rfl rfl ?_))))))))))))
  refine dg_op rfl rfl rfl (fun _ => ?_) (fun _ => ?_)
  refine dq_op tab ⟨_, _, rfl, rfl, rfl⟩ rfl rfl rfl (dq_op tab ⟨_, _, rfl, rfl, rfl⟩ rfl rfl rfl (dq_op tab ⟨_, _, rfl, rfl, rfl⟩ rfl rfl rfl (dq_op tab ⟨_, _, rfl, rfl, rfl⟩ rfl rfl rfl (df_op ⟨_, _, rfl, rfl, rfl⟩ rfl rfl rfl rfl callable_26 (betw_fun _ _ _) (dq_op tab rfl rfl rfl rfl (dq_op tab rfl rfl rfl rfl ?_))))))
  refine dg_op rfl rfl rfl (fun _ => ?_) (fun _ => ?_)
  refine dq_op tab ⟨_, _, rfl, rfl, rfl⟩ rfl rfl rfl (dq_op tab ⟨_, _, rfl, rfl, rfl⟩ rfl rfl rfl (dq_op tab ⟨_, _, rfl, rfl, rfl⟩ rfl rfl rfl (dq_op tab ⟨_, _, rfl, rfl, rfl⟩ rfl rfl rfl (df_op ⟨_, _, rfl, rfl, rfl⟩ rfl rfl rfl rfl callable_26 (betw_fun _ _ _) (dq_op tab rfl rfl rfl rfl (dq_op tab rfl rfl rfl rfl ?_))))))
  refine dg_op rfl rfl rfl (fun _ => ?_) (fun _ => ?_)
  refine dq_op tab ⟨_, _, rfl, rfl, rfl⟩ rfl rfl rfl (dq_op tab ⟨_, _, rfl, rfl, rfl⟩ rfl rfl rfl (dq_op tab ⟨_, _, rfl, rfl, rfl⟩ rfl rfl rfl (dq_op tab ⟨_, _, rfl, rfl, rfl⟩ rfl rfl rfl (df_op ⟨_, _, rfl, rfl, rfl⟩ rfl rfl rfl rfl callable_26 (betw_fun _ _ _) (dq_op tab rfl rfl rfl rfl (dq_op tab rfl rfl rfl rfl ?_))))))
  refine dg_op rfl rfl rfl (fun _ => ?_) (fun _ => ?_)
  refine dq_op tab ⟨_, _, rfl, rfl, rfl⟩ rfl rfl rfl (dq_op tab ⟨_, _, rfl, rfl, rfl⟩ rfl rfl rfl (dq_op tab ⟨_, _, rfl, rfl, rfl⟩ rfl rfl rfl (dq_op tab ⟨_, _, rfl, rfl, rfl⟩ rfl rfl rfl (df_op ⟨_, _, rfl, rfl, rfl⟩ rfl rfl rfl rfl callable_26 (betw_fun _ _ _) (dq_op tab rfl rfl rfl rfl (dq_op tab rfl rfl rfl rfl ?_))))))
  refine dg_op rfl rfl rfl (fun _ => ?_) (fun _ => ?_)
  refine dq_op tab ⟨_, _, rfl, rfl, rfl⟩ rfl rfl rfl (dq_op tab ⟨_, _, rfl, rfl, rfl⟩ rfl rfl rfl (dq_op tab ⟨_, _, rfl, rfl, rfl⟩ rfl rfl rfl (dq_op tab ⟨_, _, rfl, rfl, rfl⟩ rfl rfl rfl (df_op ⟨_, _, rfl, rfl, rfl⟩ rfl rfl rfl rfl callable_26 (betw_fun _ _ _) (dq_op tab rfl rfl rfl rfl (dq_op tab rfl rfl rfl rfl ?_))))))
  refine dg_op rfl rfl rfl (fun _ => ?_) (fun _ => ?_)
  refine dq_op tab ⟨_, _, rfl, rfl, rfl⟩ rfl rfl rfl (dq_op tab ⟨_, _, rfl, rfl, rfl⟩ rfl rfl rfl (dq_op tab ⟨_, _, rfl, rfl, rfl⟩ rfl rfl rfl (dq_op tab ⟨_, _, rfl, rfl, rfl⟩ rfl rfl rfl (dq_op tab ⟨_, _, rfl, rfl, rfl⟩ rfl rfl rfl (dq_op tab ⟨_, _, rfl, rfl, rfl⟩ rfl rfl rfl (dq_op tab ⟨_, _, rfl, rfl, rfl⟩ rfl rfl rfl (dq_op tab ⟨_, _, rfl, rfl, rfl⟩ rfl rfl rfl (dq_op tab ⟨_, _, rfl, rfl, rfl⟩ rfl rfl rfl (dq_op tab ⟨_, _, rfl, rfl, rfl⟩ rfl rfl rfl (dq_op tab ⟨_, _, rfl, rfl, rfl⟩ rfl rfl rfl (dq_op tab ⟨_, _, rfl, rfl, rfl⟩ rfl rfl rfl (dq_op tab ⟨_, _, rfl, rfl, rfl⟩ rfl rfl rfl (dq_op tab ⟨_, _, rfl, rfl, rfl⟩ rfl rfl rfl (dq_op tab ⟨_, _, rfl, rfl, rfl⟩ rfl rfl rfl (dq_op tab ⟨_, _, rfl, rfl, rfl⟩ rfl rfl rfl (dq_op tab ⟨_, _, rfl, rfl, rfl⟩ rfl rfl rfl (dq_op tab ⟨_, _, rfl, rfl, rfl⟩ rfl rfl rfl (dq_op tab ⟨_, _, rfl, rfl, rfl⟩ rfl rfl rfl (dq_op tab ⟨_, _, rfl, rfl, rfl⟩ rfl rfl rfl (dq_op tab ⟨_, _, rfl, rfl, rfl⟩ rfl rfl rfl (dq_op tab ⟨_, _, rfl, rfl, rfl⟩ rfl rfl rfl (dq_op tab ⟨_, _, rfl, rfl, rfl⟩ rfl rfl rfl (dq_op tab ⟨_, _, rfl, rfl, rfl⟩ rfl rfl rfl ?_)))))))))))))))))))))))
  refine dn_op tab ⟨_, _, rfl, rfl, rfl⟩ rfl rfl rfl (dr_op ⟨_, _, rfl, rfl, rfl⟩ rfl rfl rfl rfl callable_27 (life_tri (xs := [c.lockout, c.halfLife, c.idle, c.absolute, c.quarantine, c.ticketLife]) (looks_opn (intR .i64) rfl rfl) (by simp)) ?_)
  refine dq_op tab rfl rfl rfl rfl (dq_op tab rfl rfl rfl rfl (vd_nil (by kernel_rfl) ?_))
  refine qth (vw_ret ?_)
  rotate_left
  refine dk_op ⟨_, _, rfl, rfl, rfl⟩ rfl (dk_op ⟨_, _, rfl, rfl, rfl⟩ rfl (dk_op ⟨_, _, rfl, rfl, rfl⟩ rfl (dk_op ⟨_, _, rfl, rfl, rfl⟩ rfl (dk_op ⟨_, _, rfl, rfl, rfl⟩ rfl (dk_op ⟨_, _, rfl, rfl, rfl⟩ rfl (dk_op ⟨_, _, rfl, rfl, rfl⟩ rfl (dk_op ⟨_, _, rfl, rfl, rfl⟩ rfl (dk_op ⟨_, _, rfl, rfl, rfl⟩ rfl (dk_op ⟨_, _, rfl, rfl, rfl⟩ rfl (dk_op ⟨_, _, rfl, rfl, rfl⟩ rfl (dk_op ⟨_, _, rfl, rfl, rfl⟩ rfl (dk_op ⟨_, _, rfl, rfl, rfl⟩ rfl (dk_op ⟨_, _, rfl, rfl, rfl⟩ rfl (dk_op ⟨_, _, rfl, rfl, rfl⟩ rfl (dk_op ⟨_, _, rfl, rfl, rfl⟩ rfl (dk_op ⟨_, _, rfl, rfl, rfl⟩ rfl (dk_op ⟨_, _, rfl, rfl, rfl⟩ rfl (dk_op ⟨_, _, rfl, rfl, rfl⟩ rfl (dk_op ⟨_, _, rfl, rfl, rfl⟩ rfl (dk_op ⟨_, _, rfl, rfl, rfl⟩ rfl (dk_op ⟨_, _, rfl, rfl, rfl⟩ rfl (dk_op ⟨_, _, rfl, rfl, rfl⟩ rfl (dk_op ⟨_, _, rfl, rfl, rfl⟩ rfl ?_)))))))))))))))))))))))
  refine dk_op ⟨_, _, rfl, rfl, rfl⟩ rfl (dk_op ⟨_, _, rfl, rfl, rfl⟩ rfl (dq_op tab rfl rfl rfl rfl (dq_op tab rfl rfl rfl rfl (vd_nil (by kernel_rfl) ?_))))
  refine qth (vw_ret ?_)
  rotate_left
  refine dk_op ⟨_, _, rfl, rfl, rfl⟩ rfl (dk_op ⟨_, _, rfl, rfl, rfl⟩ rfl (dk_op ⟨_, _, rfl, rfl, rfl⟩ rfl (dk_op ⟨_, _, rfl, rfl, rfl⟩ rfl (dk_op ⟨_, _, rfl, rfl, rfl⟩ rfl (dq_op tab rfl rfl rfl rfl (dq_op tab rfl rfl rfl rfl (dk_op ⟨_, _, rfl, rfl, rfl⟩ rfl (dk_op ⟨_, _, rfl, rfl, rfl⟩ rfl (dk_op ⟨_, _, rfl, rfl, rfl⟩ rfl (dk_op ⟨_, _, rfl, rfl, rfl⟩ rfl (dk_op ⟨_, _, rfl, rfl, rfl⟩ rfl (dk_op ⟨_, _, rfl, rfl, rfl⟩ rfl (dk_op ⟨_, _, rfl, rfl, rfl⟩ rfl (dk_op ⟨_, _, rfl, rfl, rfl⟩ rfl (dk_op ⟨_, _, rfl, rfl, rfl⟩ rfl (dk_op ⟨_, _, rfl, rfl, rfl⟩ rfl (dk_op ⟨_, _, rfl, rfl, rfl⟩ rfl (dk_op ⟨_, _, rfl, rfl, rfl⟩ rfl (dk_op ⟨_, _, rfl, rfl, rfl⟩ rfl (dk_op ⟨_, _, rfl, rfl, rfl⟩ rfl (dk_op ⟨_, _, rfl, rfl, rfl⟩ rfl (dk_op ⟨_, _, rfl, rfl, rfl⟩ rfl (dk_op ⟨_, _, rfl, rfl, rfl⟩ rfl ?_)))))))))))))))))))))))
  refine dk_op ⟨_, _, rfl, rfl, rfl⟩ rfl (dk_op ⟨_, _, rfl, rfl, rfl⟩ rfl (dk_op ⟨_, _, rfl, rfl, rfl⟩ rfl (dk_op ⟨_, _, rfl, rfl, rfl⟩ rfl (dk_op ⟨_, _, rfl, rfl, rfl⟩ rfl (dk_op ⟨_, _, rfl, rfl, rfl⟩ rfl (dk_op ⟨_, _, rfl, rfl, rfl⟩ rfl (dk_op ⟨_, _, rfl, rfl, rfl⟩ rfl (dk_op ⟨_, _, rfl, rfl, rfl⟩ rfl (dq_op tab rfl rfl rfl rfl (dq_op tab rfl rfl rfl rfl (vd_nil (by kernel_rfl) ?_)))))))))))
  refine qth (vw_ret ?_)
  rotate_left
  refine dk_op ⟨_, _, rfl, rfl, rfl⟩ rfl (dk_op ⟨_, _, rfl, rfl, rfl⟩ rfl (dk_op ⟨_, _, rfl, rfl, rfl⟩ rfl (dk_op ⟨_, _, rfl, rfl, rfl⟩ rfl (dk_op ⟨_, _, rfl, rfl, rfl⟩ rfl (dq_op tab rfl rfl rfl rfl (dq_op tab rfl rfl rfl rfl (dk_op ⟨_, _, rfl, rfl, rfl⟩ rfl (dk_op ⟨_, _, rfl, rfl, rfl⟩ rfl (dk_op ⟨_, _, rfl, rfl, rfl⟩ rfl (dk_op ⟨_, _, rfl, rfl, rfl⟩ rfl (dk_op ⟨_, _, rfl, rfl, rfl⟩ rfl (dq_op tab rfl rfl rfl rfl (dq_op tab rfl rfl rfl rfl (dk_op ⟨_, _, rfl, rfl, rfl⟩ rfl (dk_op ⟨_, _, rfl, rfl, rfl⟩ rfl (dk_op ⟨_, _, rfl, rfl, rfl⟩ rfl (dk_op ⟨_, _, rfl, rfl, rfl⟩ rfl (dk_op ⟨_, _, rfl, rfl, rfl⟩ rfl (dk_op ⟨_, _, rfl, rfl, rfl⟩ rfl (dk_op ⟨_, _, rfl, rfl, rfl⟩ rfl (dk_op ⟨_, _, rfl, rfl, rfl⟩ rfl (dk_op ⟨_, _, rfl, rfl, rfl⟩ rfl (dk_op ⟨_, _, rfl, rfl, rfl⟩ rfl ?_)))))))))))))))))))))))
  refine dk_op ⟨_, _, rfl, rfl, rfl⟩ rfl (dk_op ⟨_, _, rfl, rfl, rfl⟩ rfl (dk_op ⟨_, _, rfl, rfl, rfl⟩ rfl (dk_op ⟨_, _, rfl, rfl, rfl⟩ rfl (dk_op ⟨_, _, rfl, rfl, rfl⟩ rfl (dk_op ⟨_, _, rfl, rfl, rfl⟩ rfl (dk_op ⟨_, _, rfl, rfl, rfl⟩ rfl (dk_op ⟨_, _, rfl, rfl, rfl⟩ rfl (dk_op ⟨_, _, rfl, rfl, rfl⟩ rfl (dk_op ⟨_, _, rfl, rfl, rfl⟩ rfl (dk_op ⟨_, _, rfl, rfl, rfl⟩ rfl (dk_op ⟨_, _, rfl, rfl, rfl⟩ rfl (dk_op ⟨_, _, rfl, rfl, rfl⟩ rfl (dk_op ⟨_, _, rfl, rfl, rfl⟩ rfl (dk_op ⟨_, _, rfl, rfl, rfl⟩ rfl (dk_op ⟨_, _, rfl, rfl, rfl⟩ rfl (dq_op tab rfl rfl rfl rfl (dq_op tab rfl rfl rfl rfl (vd_nil (by kernel_rfl) ?_))))))))))))))))))
  refine qth (vw_ret ?_)
  rotate_left
  refine dk_op ⟨_, _, rfl, rfl, rfl⟩ rfl (dk_op ⟨_, _, rfl, rfl, rfl⟩ rfl (dk_op ⟨_, _, rfl, rfl, rfl⟩ rfl (dk_op ⟨_, _, rfl, rfl, rfl⟩ rfl (dk_op ⟨_, _, rfl, rfl, rfl⟩ rfl (dq_op tab rfl rfl rfl rfl (dq_op tab rfl rfl rfl rfl (dk_op ⟨_, _, rfl, rfl, rfl⟩ rfl (dk_op ⟨_, _, rfl, rfl, rfl⟩ rfl (dk_op ⟨_, _, rfl, rfl, rfl⟩ rfl (dk_op ⟨_, _, rfl, rfl, rfl⟩ rfl (dk_op ⟨_, _, rfl, rfl, rfl⟩ rfl (dq_op tab rfl rfl rfl rfl (dq_op tab rfl rfl rfl rfl (dk_op ⟨_, _, rfl, rfl, rfl⟩ rfl (dk_op ⟨_, _, rfl, rfl, rfl⟩ rfl (dk_op ⟨_, _, rfl, rfl, rfl⟩ rfl (dk_op ⟨_, _, rfl, rfl, rfl⟩ rfl (dk_op ⟨_, _, rfl, rfl, rfl⟩ rfl (dq_op tab rfl rfl rfl rfl (dq_op tab rfl rfl rfl rfl (dk_op ⟨_, _, rfl, rfl, rfl⟩ rfl (dk_op ⟨_, _, rfl, rfl, rfl⟩ rfl (dk_op ⟨_, _, rfl, rfl, rfl⟩ rfl ?_)))))))))))))))))))))))
  refine dk_op ⟨_, _, rfl, rfl, rfl⟩ rfl (dk_op ⟨_, _, rfl, rfl, rfl⟩ rfl (dk_op ⟨_, _, rfl, rfl, rfl⟩ rfl (dk_op ⟨_, _, rfl, rfl, rfl⟩ rfl (dk_op ⟨_, _, rfl, rfl, rfl⟩ rfl (dk_op ⟨_, _, rfl, rfl, rfl⟩ rfl (dk_op ⟨_, _, rfl, rfl, rfl⟩ rfl (dk_op ⟨_, _, rfl, rfl, rfl⟩ rfl (dk_op ⟨_, _, rfl, rfl, rfl⟩ rfl (dk_op ⟨_, _, rfl, rfl, rfl⟩ rfl (dk_op ⟨_, _, rfl, rfl, rfl⟩ rfl (dk_op ⟨_, _, rfl, rfl, rfl⟩ rfl (dk_op ⟨_, _, rfl, rfl, rfl⟩ rfl (dk_op ⟨_, _, rfl, rfl, rfl⟩ rfl (dk_op ⟨_, _, rfl, rfl, rfl⟩ rfl (dk_op ⟨_, _, rfl, rfl, rfl⟩ rfl (dk_op ⟨_, _, rfl, rfl, rfl⟩ rfl (dk_op ⟨_, _, rfl, rfl, rfl⟩ rfl (dk_op ⟨_, _, rfl, rfl, rfl⟩ rfl (dk_op ⟨_, _, rfl, rfl, rfl⟩ rfl (dk_op ⟨_, _, rfl, rfl, rfl⟩ rfl (dk_op ⟨_, _, rfl, rfl, rfl⟩ rfl (dk_op ⟨_, _, rfl, rfl, rfl⟩ rfl (dq_op tab rfl rfl rfl rfl ?_)))))))))))))))))))))))
  refine dq_op tab rfl rfl rfl rfl (vd_nil (by kernel_rfl) ?_)
  refine qth (vw_ret ?_)
  rotate_left
  refine dk_op ⟨_, _, rfl, rfl, rfl⟩ rfl (dk_op ⟨_, _, rfl, rfl, rfl⟩ rfl (dk_op ⟨_, _, rfl, rfl, rfl⟩ rfl (dk_op ⟨_, _, rfl, rfl, rfl⟩ rfl (dk_op ⟨_, _, rfl, rfl, rfl⟩ rfl (dq_op tab rfl rfl rfl rfl (dq_op tab rfl rfl rfl rfl (dk_op ⟨_, _, rfl, rfl, rfl⟩ rfl (dk_op ⟨_, _, rfl, rfl, rfl⟩ rfl (dk_op ⟨_, _, rfl, rfl, rfl⟩ rfl (dk_op ⟨_, _, rfl, rfl, rfl⟩ rfl (dk_op ⟨_, _, rfl, rfl, rfl⟩ rfl (dq_op tab rfl rfl rfl rfl (dq_op tab rfl rfl rfl rfl (dk_op ⟨_, _, rfl, rfl, rfl⟩ rfl (dk_op ⟨_, _, rfl, rfl, rfl⟩ rfl (dk_op ⟨_, _, rfl, rfl, rfl⟩ rfl (dk_op ⟨_, _, rfl, rfl, rfl⟩ rfl (dk_op ⟨_, _, rfl, rfl, rfl⟩ rfl (dq_op tab rfl rfl rfl rfl (dq_op tab rfl rfl rfl rfl (dk_op ⟨_, _, rfl, rfl, rfl⟩ rfl (dk_op ⟨_, _, rfl, rfl, rfl⟩ rfl (dk_op ⟨_, _, rfl, rfl, rfl⟩ rfl ?_)))))))))))))))))))))))
  refine dk_op ⟨_, _, rfl, rfl, rfl⟩ rfl (dk_op ⟨_, _, rfl, rfl, rfl⟩ rfl (dq_op tab rfl rfl rfl rfl (dq_op tab rfl rfl rfl rfl (dk_op ⟨_, _, rfl, rfl, rfl⟩ rfl (dk_op ⟨_, _, rfl, rfl, rfl⟩ rfl (dk_op ⟨_, _, rfl, rfl, rfl⟩ rfl (dk_op ⟨_, _, rfl, rfl, rfl⟩ rfl (dk_op ⟨_, _, rfl, rfl, rfl⟩ rfl (dk_op ⟨_, _, rfl, rfl, rfl⟩ rfl (dk_op ⟨_, _, rfl, rfl, rfl⟩ rfl (dk_op ⟨_, _, rfl, rfl, rfl⟩ rfl (dk_op ⟨_, _, rfl, rfl, rfl⟩ rfl (dk_op ⟨_, _, rfl, rfl, rfl⟩ rfl (dk_op ⟨_, _, rfl, rfl, rfl⟩ rfl (dk_op ⟨_, _, rfl, rfl, rfl⟩ rfl (dk_op ⟨_, _, rfl, rfl, rfl⟩ rfl (dk_op ⟨_, _, rfl, rfl, rfl⟩ rfl (dk_op ⟨_, _, rfl, rfl, rfl⟩ rfl (dk_op ⟨_, _, rfl, rfl, rfl⟩ rfl (dk_op ⟨_, _, rfl, rfl, rfl⟩ rfl (dk_op ⟨_, _, rfl, rfl, rfl⟩ rfl (dk_op ⟨_, _, rfl, rfl, rfl⟩ rfl (dk_op ⟨_, _, rfl, rfl, rfl⟩ rfl ?_)))))))))))))))))))))))
  refine dk_op ⟨_, _, rfl, rfl, rfl⟩ rfl (dk_op ⟨_, _, rfl, rfl, rfl⟩ rfl (dk_op ⟨_, _, rfl, rfl, rfl⟩ rfl (dk_op ⟨_, _, rfl, rfl, rfl⟩ rfl (dk_op ⟨_, _, rfl, rfl, rfl⟩ rfl (dk_op ⟨_, _, rfl, rfl, rfl⟩ rfl (dq_op tab rfl rfl rfl rfl (dq_op tab rfl rfl rfl rfl (vd_nil (by kernel_rfl) ?_))))))))
  refine qth (vw_ret ?_)
  rotate_left
  refine dk_op ⟨_, _, rfl, rfl, rfl⟩ rfl (dk_op ⟨_, _, rfl, rfl, rfl⟩ rfl (dk_op ⟨_, _, rfl, rfl, rfl⟩ rfl (dk_op ⟨_, _, rfl, rfl, rfl⟩ rfl (dk_op ⟨_, _, rfl, rfl, rfl⟩ rfl (dq_op tab rfl rfl rfl rfl (dq_op tab rfl rfl rfl rfl (dk_op ⟨_, _, rfl, rfl, rfl⟩ rfl (dk_op ⟨_, _, rfl, rfl, rfl⟩ rfl (dk_op ⟨_, _, rfl, rfl, rfl⟩ rfl (dk_op ⟨_, _, rfl, rfl, rfl⟩ rfl (dk_op ⟨_, _, rfl, rfl, rfl⟩ rfl (dq_op tab rfl rfl rfl rfl (dq_op tab rfl rfl rfl rfl (dk_op ⟨_, _, rfl, rfl, rfl⟩ rfl (dk_op ⟨_, _, rfl, rfl, rfl⟩ rfl (dk_op ⟨_, _, rfl, rfl, rfl⟩ rfl (dk_op ⟨_, _, rfl, rfl, rfl⟩ rfl (dk_op ⟨_, _, rfl, rfl, rfl⟩ rfl (dq_op tab rfl rfl rfl rfl (dq_op tab rfl rfl rfl rfl (dk_op ⟨_, _, rfl, rfl, rfl⟩ rfl (dk_op ⟨_, _, rfl, rfl, rfl⟩ rfl (dk_op ⟨_, _, rfl, rfl, rfl⟩ rfl ?_)))))))))))))))))))))))
  refine dk_op ⟨_, _, rfl, rfl, rfl⟩ rfl (dk_op ⟨_, _, rfl, rfl, rfl⟩ rfl (dq_op tab rfl rfl rfl rfl (dq_op tab rfl rfl rfl rfl (dk_op ⟨_, _, rfl, rfl, rfl⟩ rfl (dk_op ⟨_, _, rfl, rfl, rfl⟩ rfl (dk_op ⟨_, _, rfl, rfl, rfl⟩ rfl (dk_op ⟨_, _, rfl, rfl, rfl⟩ rfl (dk_op ⟨_, _, rfl, rfl, rfl⟩ rfl (dq_op tab rfl rfl rfl rfl (dq_op tab rfl rfl rfl rfl (dk_op ⟨_, _, rfl, rfl, rfl⟩ rfl (dk_op ⟨_, _, rfl, rfl, rfl⟩ rfl (dk_op ⟨_, _, rfl, rfl, rfl⟩ rfl (dk_op ⟨_, _, rfl, rfl, rfl⟩ rfl (dk_op ⟨_, _, rfl, rfl, rfl⟩ rfl (dk_op ⟨_, _, rfl, rfl, rfl⟩ rfl (dk_op ⟨_, _, rfl, rfl, rfl⟩ rfl (dk_op ⟨_, _, rfl, rfl, rfl⟩ rfl (dk_op ⟨_, _, rfl, rfl, rfl⟩ rfl (dk_op ⟨_, _, rfl, rfl, rfl⟩ rfl (dk_op ⟨_, _, rfl, rfl, rfl⟩ rfl (dk_op ⟨_, _, rfl, rfl, rfl⟩ rfl (dk_op ⟨_, _, rfl, rfl, rfl⟩ rfl ?_)))))))))))))))))))))))
  refine dk_op ⟨_, _, rfl, rfl, rfl⟩ rfl (dk_op ⟨_, _, rfl, rfl, rfl⟩ rfl (dk_op ⟨_, _, rfl, rfl, rfl⟩ rfl (dk_op ⟨_, _, rfl, rfl, rfl⟩ rfl (dk_op ⟨_, _, rfl, rfl, rfl⟩ rfl (dk_op ⟨_, _, rfl, rfl, rfl⟩ rfl (dk_op ⟨_, _, rfl, rfl, rfl⟩ rfl (dk_op ⟨_, _, rfl, rfl, rfl⟩ rfl (dk_op ⟨_, _, rfl, rfl, rfl⟩ rfl (dk_op ⟨_, _, rfl, rfl, rfl⟩ rfl (dk_op ⟨_, _, rfl, rfl, rfl⟩ rfl (dk_op ⟨_, _, rfl, rfl, rfl⟩ rfl (dk_op ⟨_, _, rfl, rfl, rfl⟩ rfl (dq_op tab rfl rfl rfl rfl (dq_op tab rfl rfl rfl rfl (vd_nil (by kernel_rfl) ?_)))))))))))))))
  refine qth (vw_ret ?_)
  rotate_left
  all_goals exact ⟨⟨.inr rfl, Eq.trans (b := some (.bool _)) rfl (congrArg (fun b => some (Value.bool b)) (by simp_all [confMay, Bool.and_assoc]))⟩, fun _ => rfl, trivial⟩
set_option maxHeartbeats 4000000 in
theorem clone_users {V : Heap} {n : Nat} {sv : Value} {xs : List UserV} (hl : Looks V 9 sv (userR.cells xs) xs.length) (hb : xs.length * 72 ≤ 140737488355328) :
    Tri Try.prog 31 [sv] n 1 V (fun u L => u = .slice (some ⟨n, 0, none⟩) xs.length 0 ∧ L = [(n, some (.opn (userR.cells xs) 49 9))]) := by
  refine call_of_vw (K := 1) (argsI := [.slice (some ⟨0, 0, none⟩) xs.length 0]) tab Try.func31 rfl rfl (by simp [Try.f31]) [.look sv xs.length 9] [.win (userR.cells xs) 9] rfl (.look hl (userR.flat_cells xs) .nil) (by simp [ownNames]) (by simp [ownNames, lookNames]) (by simp [ownNames, *]) (al_cons (.look (a := 0) rfl) al_nil) (seen_of (sn_look (seen_top (j := 0) rfl) sn_nil)) ?_
  refine wsq (wrg (vQ tab rfl (vnl (qth (wsq (wsq (wrg (vQ tab rfl ?_))))))))
  refine vnil_op tab rfl rfl rfl rfl rfl rfl rfl (fun hz => ?_) ?_
  refine vnl (qth (vc_true rfl (wsq (wrg (vQ tab rfl (vnl (qth (vw_ret (q_thenr ?_)))))))))
  rotate_left
  refine vnl (qth (vc_false rfl (vw_skip (qth (wsq (wrg (vN tab rfl (vQ tab rfl (vo_op rfl rfl rfl (opr_ev tab (ev_app userR (xs := []) (ys := xs) (m := xs.length) rfl rfl rfl rfl rfl rfl (news_all userR rfl rfl) rfl rfl (by rw [Nat.zero_add]; exact hb) (by omega))) ?_)))))))))
  refine vQ tab rfl (vnl (qth (vw_ret ?_)))
  rotate_left
  · obtain rfl := List.length_eq_zero_iff.1 hz
    exact out_mk [NIL] (.inr rfl) ⟨rfl, rfl⟩ rfl (rel_nil (sigma_nil (i := 0) rfl) rfl) (op_void (sigma_nil (i := 0) rfl) rfl rfl rfl op_nil) trivial
  · exact out_mk [2] (.inr rfl) ⟨rfl, rfl⟩ rfl (rel_slice (sigma_look (i := 0) rfl) (by omega)) (op_cons (sigma_look (i := 0) rfl) rfl rfl (ov_opn userR rfl) rfl op_nil) trivial
set_option maxHeartbeats 4000000 in
theorem clone_sess {V : Heap} {n : Nat} {sv : Value} {xs : List SessV} (hl : Looks V 4 sv (sessR.cells xs) xs.length) (hb : xs.length * 32 ≤ 140737488355328) :
    Tri Try.prog 32 [sv] n 1 V (fun u L => u = .slice (some ⟨n, 0, none⟩) xs.length 0 ∧ L = [(n, some (.opn (sessR.cells xs) 54 4))]) := by
  refine call_of_vw (K := 1) (argsI := [.slice (some ⟨0, 0, none⟩) xs.length 0]) tab Try.func32 rfl rfl (by simp [Try.f32]) [.look sv xs.length 4] [.win (sessR.cells xs) 4] rfl (.look hl (sessR.flat_cells xs) .nil) (by simp [ownNames]) (by simp [ownNames, lookNames]) (by simp [ownNames, *]) (al_cons (.look (a := 0) rfl) al_nil) (seen_of (sn_look (seen_top (j := 0) rfl) sn_nil)) ?_
  refine wsq (wrg (vQ tab rfl (vnl (qth (wsq (wsq (wrg (vQ tab rfl ?_))))))))
  refine vnil_op tab rfl rfl rfl rfl rfl rfl rfl (fun hz => ?_) ?_
  refine vnl (qth (vc_true rfl (wsq (wrg (vQ tab rfl (vnl (qth (vw_ret (q_thenr ?_)))))))))
  rotate_left
  refine vnl (qth (vc_false rfl (vw_skip (qth (wsq (wrg (vN tab rfl (vQ tab rfl (vo_op rfl rfl rfl (opr_ev tab (ev_app sessR (xs := []) (ys := xs) (m := xs.length) rfl rfl rfl rfl rfl rfl (news_all sessR rfl rfl) rfl rfl (by rw [Nat.zero_add]; exact hb) (by omega))) ?_)))))))))
  refine vQ tab rfl (vnl (qth (vw_ret ?_)))
  rotate_left
  · obtain rfl := List.length_eq_zero_iff.1 hz
    exact out_mk [NIL] (.inr rfl) ⟨rfl, rfl⟩ rfl (rel_nil (sigma_nil (i := 0) rfl) rfl) (op_void (sigma_nil (i := 0) rfl) rfl rfl rfl op_nil) trivial
  · exact out_mk [2] (.inr rfl) ⟨rfl, rfl⟩ rfl (rel_slice (sigma_look (i := 0) rfl) (by omega)) (op_cons (sigma_look (i := 0) rfl) rfl rfl (ov_opn sessR rfl) rfl op_nil) trivial
set_option maxHeartbeats 4000000 in
theorem clone_ints {V : Heap} {n : Nat} {sv : Value} {xs : List Int} (hl : Looks V 1 sv ((intR .i64).cells xs) xs.length) (hb : xs.length * 8 ≤ 140737488355328) :
    Tri Try.prog 34 [sv] n 1 V (fun u L => u = .slice (some ⟨n, 0, none⟩) xs.length 0 ∧ L = [(n, some (.opn ((intR .i64).cells xs) 3 1))]) := by
  refine call_of_vw (K := 1) (argsI := [.slice (some ⟨0, 0, none⟩) xs.length 0]) tab Try.func34 rfl rfl (by simp [Try.f34]) [.look sv xs.length 1] [.win ((intR .i64).cells xs) 1] rfl (.look hl ((intR .i64).flat_cells xs) .nil) (by simp [ownNames]) (by simp [ownNames, lookNames]) (by simp [ownNames, *]) (al_cons (.look (a := 0) rfl) al_nil) (seen_of (sn_look (seen_top (j := 0) rfl) sn_nil)) ?_
  refine wsq (wrg (vQ tab rfl (vnl (qth (wsq (wsq (wrg (vQ tab rfl ?_))))))))
  refine vnil_op tab rfl rfl rfl rfl rfl rfl rfl (fun hz => ?_) ?_
  refine vnl (qth (vc_true rfl (wsq (wrg (vQ tab rfl (vnl (qth (vw_ret (q_thenr ?_)))))))))
  rotate_left
  refine vnl (qth (vc_false rfl (vw_skip (qth (wsq (wrg (vN tab rfl (vQ tab rfl (vo_op rfl rfl rfl (opr_ev tab (ev_app (intR .i64) (xs := []) (ys := xs) (m := xs.length) rfl rfl rfl rfl rfl rfl (news_all (intR .i64) rfl rfl) rfl rfl (by rw [Nat.zero_add]; exact hb) (by omega))) ?_)))))))))
  refine vQ tab rfl (vnl (qth (vw_ret ?_)))
  rotate_left
  · obtain rfl := List.length_eq_zero_iff.1 hz
    exact out_mk [NIL] (.inr rfl) ⟨rfl, rfl⟩ rfl (rel_nil (sigma_nil (i := 0) rfl) rfl) (op_void (sigma_nil (i := 0) rfl) rfl rfl rfl op_nil) trivial
  · exact out_mk [2] (.inr rfl) ⟨rfl, rfl⟩ rfl (rel_slice (sigma_look (i := 0) rfl) (by omega)) (op_cons (sigma_look (i := 0) rfl) rfl rfl (ov_opn (intR .i64) rfl) rfl op_nil) trivial
set_option maxHeartbeats 4000000 in
theorem indexfunc_users {V : Heap} {n : Nat} {sv : Value} {xs : List UserV} {F' : FuncId} {caps : List Value} (capsI : List Value) (p : UserV → Bool) (is : List Nat) (os : List VObj) (hl : Looks V 9 sv (userR.cells xs) xs.length) (hx : xs.length ≤ 140737488355328)
    (he : EList V (.look sv xs.length 9 :: is.map .own) (is.map .own) os) (hn : is.Nodup) (hd : ∀ x ∈ lookNames [.look sv xs.length 9], x ∉ is) (hcaps : LRel (ownR (.look sv xs.length 9 :: is.map .own)) capsI caps) (hF : Callable Try.prog F')
    (hcall : ∀ n' (V' : Heap), (∀ (a : Nat) (o : VObj), os[a]? = some o → V' (1 + a) = some o) → ∀ x ∈ xs, Tri Try.prog F' (.agg (userR.f x).toArray :: capsI) n' 0 V' (fun u L => u = .bool (p x) ∧ L = [])) :
    Tri Try.prog 46 [sv, .func (.func F') #[] caps.toArray] n 0 V (fun u L => u = .int .i64 (findI p xs) ∧ L = []) := by
  refine reads_of_vw (argsI := [.slice (some ⟨0, 0, none⟩) xs.length 0, .func (.func F') #[] capsI.toArray]) tab Try.func46 rfl rfl (by simp [Try.f46]) (.look sv xs.length 9 :: is.map .own) (.win (userR.cells xs) 9 :: os) rfl (.look hl (userR.flat_cells xs) he)
    (by show (ownNames (is.map .own)).Nodup; rw [ownNames_map]; exact hn) ?_ (al_cons (.look (a := 0) rfl) (al_cons (.val (rel_func hcaps)) al_nil)) (seen_of (sn_look (seen_top (j := 0) rfl) (seen_owns is))) (.int _ _) ?_
  · have e : ownNames (.look sv xs.length 9 :: is.map .own) = is := ownNames_map is
    rw [e]
    rw [lookNames_one]; exact hd
  have hos : ∀ (a : Nat) (o : VObj), os[a]? = some o → lkp (oHeap 0 (.win (userR.cells xs) 9 :: os)) (1 + a) = some o := fun a o h => by
    have := oHeap_get (k := 0) (os := .win (userR.cells xs) 9 :: os) (a := a + 1) (o := o) (by simpa using h)
    rw [Nat.zero_add, Nat.add_comm] at this; exact this
  have hst : Stays (lkp (oHeap 0 (.win (userR.cells xs) 9 :: os))) 0 (.look sv xs.length 9 :: is.map .own) (.win (userR.cells xs) 9 :: os) := stays_self fun a o h => oHeap_get h
  refine wsq (wrg (vQ tab rfl (vnl (qth (wsq (wsq (wrg (vQ tab rfl (vQ tab rfl (vQ tab rfl (vnl (qth (wbk ?_)))))))))))))
  refine vw_loop_env (fun k env => ∃ j : Int, 0 ≤ j ∧ j ≤ xs.length ∧ (xs.take j.toNat).any p = false ∧ k = (xs.length - j).toNat ∧
      env = [(0, .slice (some ⟨0, 0, none⟩) xs.length 0), (1, .func (.func F') #[] capsI.toArray), (7, .int .i64 xs.length), (8, .int .i64 j)]) (xs.length - 0)
    ⟨_, se_cons rfl (se_cons rfl (se_cons rfl (se_cons rfl se_nil))), 0, by omega, by omega, by simp, by simp, rfl⟩ ?_
  rintro k env ⟨j, h0, h1, ht, rfl, rfl⟩
  by_cases hj : j < (xs.length : Int)
  case neg =>
    rw [show j.toNat = xs.length by omega, List.take_length] at ht
    refine wsq (wrg (vQ tab rfl (vnl (qth (wsq (vcd_false rfl (by simp only [decide_eq_true_eq, decide_eq_false_iff_not, Bool.not_eq_eq_eq_not, Bool.not_true, Bool.not_false, bne_iff_ne, bne_eq_false_iff_eq, beq_iff_eq, beq_eq_false_iff_ne, ne_eq, beq_self_eq_true, bne_self_eq_false, Bool.and_eq_true, Bool.and_eq_false_iff, Bool.or_eq_true, Bool.or_eq_false_iff, and_self, and_true, true_and, Bool.false_eq_true, Bool.true_eq_false, not_false_eq_true, not_true_eq_false]; first | done | omega) ?_))))))
    refine vw_exit (q_thenx (q_thenx (q_here (qth (wsq (wrg (vQ tab rfl (vnl (qth (vw_ret ?_))))))))))
    exact ⟨⟨.inr rfl, by rw [findI_none ht]; rfl⟩, hst⟩
  obtain ⟨a, hxa⟩ := get_some h0 hj
  have hi : IntKind.i64.wrap (j + 1) = j + 1 := i64_in _ (by omega)
  have hjn : (j + 1).toNat = j.toNat + 1 := by omega
  have hT := fun n' => hcall n' (lkp (oHeap 0 (.win (userR.cells xs) 9 :: os))) hos a (List.mem_of_getElem? hxa)
  cases hp : p a with
  | true =>
    refine wsq (wrg (vQ tab rfl (vnl (qth (wsq (vcd_true rfl (by simp only [hi, hp, decide_eq_true_eq, decide_eq_false_iff_not, Bool.not_eq_eq_eq_not, Bool.not_true, Bool.not_false, bne_iff_ne, bne_eq_false_iff_eq, beq_iff_eq, beq_eq_false_iff_ne, ne_eq, beq_self_eq_true, bne_self_eq_false, Bool.and_eq_true, Bool.and_eq_false_iff, Bool.or_eq_true, Bool.or_eq_false_iff, and_self, and_true, true_and, Bool.false_eq_true, Bool.true_eq_false, not_false_eq_true, not_true_eq_false]; first | done | omega) ?_))))))
    refine vw_skip (qth (wsq (wbk (wsq (wrg (vQ tab rfl (vQ tab rfl (vnl (qth (wsq (wrg (vQ tab rfl (vQ tab rfl (vQ tab rfl (vq_op tab rfl rfl rfl (ev_index rfl rfl rfl rfl rfl (by omega) (by omega)) ?_)))))))))))))))
    refine vq_op tab rfl rfl rfl (ev_loadrow userR rfl rfl rfl rfl rfl rfl hxa) (vclr_op rfl rfl rfl rfl rfl rfl hF (hT _) (vnl (qth (vcd_true rfl (by simp only [hi, hp, decide_eq_true_eq, decide_eq_false_iff_not, Bool.not_eq_eq_eq_not, Bool.not_true, Bool.not_false, bne_iff_ne, bne_eq_false_iff_eq, beq_iff_eq, beq_eq_false_iff_ne, ne_eq, beq_self_eq_true, bne_self_eq_false, Bool.and_eq_true, Bool.and_eq_false_iff, Bool.or_eq_true, Bool.or_eq_false_iff, and_self, and_true, true_and, Bool.false_eq_true, Bool.true_eq_false, not_false_eq_true, not_true_eq_false]; first | done | omega) ?_))))
    refine wsq (wrg (vQ tab rfl (vQ tab rfl (vnl (qth (vw_ret (q_ret (q_thenr (q_thenr (q_ret (q_thenr ?_)))))))))))
    exact ⟨⟨.inr rfl, by rw [findI_some hxa hp ht]; exact congrArg (fun j => some (Value.int .i64 j)) (by omega)⟩, hst⟩
  | false =>
    refine wsq (wrg (vQ tab rfl (vnl (qth (wsq (vcd_true rfl (by simp only [hi, hp, decide_eq_true_eq, decide_eq_false_iff_not, Bool.not_eq_eq_eq_not, Bool.not_true, Bool.not_false, bne_iff_ne, bne_eq_false_iff_eq, beq_iff_eq, beq_eq_false_iff_ne, ne_eq, beq_self_eq_true, bne_self_eq_false, Bool.and_eq_true, Bool.and_eq_false_iff, Bool.or_eq_true, Bool.or_eq_false_iff, and_self, and_true, true_and, Bool.false_eq_true, Bool.true_eq_false, not_false_eq_true, not_true_eq_false]; first | done | omega) ?_))))))
    refine vw_skip (qth (wsq (wbk (wsq (wrg (vQ tab rfl (vQ tab rfl (vnl (qth (wsq (wrg (vQ tab rfl (vQ tab rfl (vQ tab rfl (vq_op tab rfl rfl rfl (ev_index rfl rfl rfl rfl rfl (by omega) (by omega)) ?_)))))))))))))))
    refine vq_op tab rfl rfl rfl (ev_loadrow userR rfl rfl rfl rfl rfl rfl hxa) (vclr_op rfl rfl rfl rfl rfl rfl hF (hT _) (vnl (qth (vcd_false rfl (by simp only [hi, hp, decide_eq_true_eq, decide_eq_false_iff_not, Bool.not_eq_eq_eq_not, Bool.not_true, Bool.not_false, bne_iff_ne, bne_eq_false_iff_eq, beq_iff_eq, beq_eq_false_iff_ne, ne_eq, beq_self_eq_true, bne_self_eq_false, Bool.and_eq_true, Bool.and_eq_false_iff, Bool.or_eq_true, Bool.or_eq_false_iff, and_self, and_true, true_and, Bool.false_eq_true, Bool.true_eq_false, not_false_eq_true, not_true_eq_false]; first | done | omega) ?_))))
    refine vw_skip (q_norm (qth (wrg (vQ tab rfl (vQ tab rfl (vnl (qth ?_)))))))
    exact ⟨rfl, rfl, (xs.length - (j + 1)).toNat, _, by omega, se_cons rfl (se_cons rfl (se_cons rfl (se_cons (se_int rfl hi) se_nil))), j + 1, by omega, by omega, by rw [hjn]; exact any_take hxa hp ht, rfl, rfl⟩
set_option maxHeartbeats 4000000 in
theorem indexfunc_sess {V : Heap} {n : Nat} {sv : Value} {xs : List SessV} {F' : FuncId} {caps : List Value} (capsI : List Value) (p : SessV → Bool) (is : List Nat) (os : List VObj) (hl : Looks V 4 sv (sessR.cells xs) xs.length) (hx : xs.length ≤ 140737488355328)
    (he : EList V (.look sv xs.length 4 :: is.map .own) (is.map .own) os) (hn : is.Nodup) (hd : ∀ x ∈ lookNames [.look sv xs.length 4], x ∉ is) (hcaps : LRel (ownR (.look sv xs.length 4 :: is.map .own)) capsI caps) (hF : Callable Try.prog F')
    (hcall : ∀ n' (V' : Heap), (∀ (a : Nat) (o : VObj), os[a]? = some o → V' (1 + a) = some o) → ∀ x ∈ xs, Tri Try.prog F' (.agg (sessR.f x).toArray :: capsI) n' 0 V' (fun u L => u = .bool (p x) ∧ L = [])) :
    Tri Try.prog 50 [sv, .func (.func F') #[] caps.toArray] n 0 V (fun u L => u = .int .i64 (findI p xs) ∧ L = []) := by
  refine reads_of_vw (argsI := [.slice (some ⟨0, 0, none⟩) xs.length 0, .func (.func F') #[] capsI.toArray]) tab Try.func50 rfl rfl (by simp [Try.f50]) (.look sv xs.length 4 :: is.map .own) (.win (sessR.cells xs) 4 :: os) rfl (.look hl (sessR.flat_cells xs) he)
    (by show (ownNames (is.map .own)).Nodup; rw [ownNames_map]; exact hn) ?_ (al_cons (.look (a := 0) rfl) (al_cons (.val (rel_func hcaps)) al_nil)) (seen_of (sn_look (seen_top (j := 0) rfl) (seen_owns is))) (.int _ _) ?_
  · have e : ownNames (.look sv xs.length 4 :: is.map .own) = is := ownNames_map is
    rw [e]
    rw [lookNames_one]; exact hd
  have hos : ∀ (a : Nat) (o : VObj), os[a]? = some o → lkp (oHeap 0 (.win (sessR.cells xs) 4 :: os)) (1 + a) = some o := fun a o h => by
    have := oHeap_get (k := 0) (os := .win (sessR.cells xs) 4 :: os) (a := a + 1) (o := o) (by simpa using h)
    rw [Nat.zero_add, Nat.add_comm] at this; exact this
  have hst : Stays (lkp (oHeap 0 (.win (sessR.cells xs) 4 :: os))) 0 (.look sv xs.length 4 :: is.map .own) (.win (sessR.cells xs) 4 :: os) := stays_self fun a o h => oHeap_get h
  refine wsq (wrg (vQ tab rfl (vnl (qth (wsq (wsq (wrg (vQ tab rfl (vQ tab rfl (vQ tab rfl (vnl (qth (wbk ?_)))))))))))))
  refine vw_loop_env (fun k env => ∃ j : Int, 0 ≤ j ∧ j ≤ xs.length ∧ (xs.take j.toNat).any p = false ∧ k = (xs.length - j).toNat ∧
      env = [(0, .slice (some ⟨0, 0, none⟩) xs.length 0), (1, .func (.func F') #[] capsI.toArray), (7, .int .i64 xs.length), (8, .int .i64 j)]) (xs.length - 0)
    ⟨_, se_cons rfl (se_cons rfl (se_cons rfl (se_cons rfl se_nil))), 0, by omega, by omega, by simp, by simp, rfl⟩ ?_
  rintro k env ⟨j, h0, h1, ht, rfl, rfl⟩
  by_cases hj : j < (xs.length : Int)
  case neg =>
    rw [show j.toNat = xs.length by omega, List.take_length] at ht
    refine wsq (wrg (vQ tab rfl (vnl (qth (wsq (vcd_false rfl (by simp only [decide_eq_true_eq, decide_eq_false_iff_not, Bool.not_eq_eq_eq_not, Bool.not_true, Bool.not_false, bne_iff_ne, bne_eq_false_iff_eq, beq_iff_eq, beq_eq_false_iff_ne, ne_eq, beq_self_eq_true, bne_self_eq_false, Bool.and_eq_true, Bool.and_eq_false_iff, Bool.or_eq_true, Bool.or_eq_false_iff, and_self, and_true, true_and, Bool.false_eq_true, Bool.true_eq_false, not_false_eq_true, not_true_eq_false]; first | done | omega) ?_))))))
    refine vw_exit (q_thenx (q_thenx (q_here (qth (wsq (wrg (vQ tab rfl (vnl (qth (vw_ret ?_))))))))))
    exact ⟨⟨.inr rfl, by rw [findI_none ht]; rfl⟩, hst⟩
  obtain ⟨a, hxa⟩ := get_some h0 hj
  have hi : IntKind.i64.wrap (j + 1) = j + 1 := i64_in _ (by omega)
  have hjn : (j + 1).toNat = j.toNat + 1 := by omega
  have hT := fun n' => hcall n' (lkp (oHeap 0 (.win (sessR.cells xs) 4 :: os))) hos a (List.mem_of_getElem? hxa)
  cases hp : p a with
  | true =>
    refine wsq (wrg (vQ tab rfl (vnl (qth (wsq (vcd_true rfl (by simp only [hi, hp, decide_eq_true_eq, decide_eq_false_iff_not, Bool.not_eq_eq_eq_not, Bool.not_true, Bool.not_false, bne_iff_ne, bne_eq_false_iff_eq, beq_iff_eq, beq_eq_false_iff_ne, ne_eq, beq_self_eq_true, bne_self_eq_false, Bool.and_eq_true, Bool.and_eq_false_iff, Bool.or_eq_true, Bool.or_eq_false_iff, and_self, and_true, true_and, Bool.false_eq_true, Bool.true_eq_false, not_false_eq_true, not_true_eq_false]; first | done | omega) ?_))))))
    refine vw_skip (qth (wsq (wbk (wsq (wrg (vQ tab rfl (vQ tab rfl (vnl (qth (wsq (wrg (vQ tab rfl (vQ tab rfl (vQ tab rfl (vq_op tab rfl rfl rfl (ev_index rfl rfl rfl rfl rfl (by omega) (by omega)) ?_)))))))))))))))
    refine vq_op tab rfl rfl rfl (ev_loadrow sessR rfl rfl rfl rfl rfl rfl hxa) (vclr_op rfl rfl rfl rfl rfl rfl hF (hT _) (vnl (qth (vcd_true rfl (by simp only [hi, hp, decide_eq_true_eq, decide_eq_false_iff_not, Bool.not_eq_eq_eq_not, Bool.not_true, Bool.not_false, bne_iff_ne, bne_eq_false_iff_eq, beq_iff_eq, beq_eq_false_iff_ne, ne_eq, beq_self_eq_true, bne_self_eq_false, Bool.and_eq_true, Bool.and_eq_false_iff, Bool.or_eq_true, Bool.or_eq_false_iff, and_self, and_true, true_and, Bool.false_eq_true, Bool.true_eq_false, not_false_eq_true, not_true_eq_false]; first | done | omega) ?_))))
    refine wsq (wrg (vQ tab rfl (vQ tab rfl (vnl (qth (vw_ret (q_ret (q_thenr (q_thenr (q_ret (q_thenr ?_)))))))))))
    exact ⟨⟨.inr rfl, by rw [findI_some hxa hp ht]; exact congrArg (fun j => some (Value.int .i64 j)) (by omega)⟩, hst⟩
  | false =>
    refine wsq (wrg (vQ tab rfl (vnl (qth (wsq (vcd_true rfl (by simp only [hi, hp, decide_eq_true_eq, decide_eq_false_iff_not, Bool.not_eq_eq_eq_not, Bool.not_true, Bool.not_false, bne_iff_ne, bne_eq_false_iff_eq, beq_iff_eq, beq_eq_false_iff_ne, ne_eq, beq_self_eq_true, bne_self_eq_false, Bool.and_eq_true, Bool.and_eq_false_iff, Bool.or_eq_true, Bool.or_eq_false_iff, and_self, and_true, true_and, Bool.false_eq_true, Bool.true_eq_false, not_false_eq_true, not_true_eq_false]; first | done | omega) ?_))))))
    refine vw_skip (qth (wsq (wbk (wsq (wrg (vQ tab rfl (vQ tab rfl (vnl (qth (wsq (wrg (vQ tab rfl (vQ tab rfl (vQ tab rfl (vq_op tab rfl rfl rfl (ev_index rfl rfl rfl rfl rfl (by omega) (by omega)) ?_)))))))))))))))
    refine vq_op tab rfl rfl rfl (ev_loadrow sessR rfl rfl rfl rfl rfl rfl hxa) (vclr_op rfl rfl rfl rfl rfl rfl hF (hT _) (vnl (qth (vcd_false rfl (by simp only [hi, hp, decide_eq_true_eq, decide_eq_false_iff_not, Bool.not_eq_eq_eq_not, Bool.not_true, Bool.not_false, bne_iff_ne, bne_eq_false_iff_eq, beq_iff_eq, beq_eq_false_iff_ne, ne_eq, beq_self_eq_true, bne_self_eq_false, Bool.and_eq_true, Bool.and_eq_false_iff, Bool.or_eq_true, Bool.or_eq_false_iff, and_self, and_true, true_and, Bool.false_eq_true, Bool.true_eq_false, not_false_eq_true, not_true_eq_false]; first | done | omega) ?_))))
    refine vw_skip (q_norm (qth (wrg (vQ tab rfl (vQ tab rfl (vnl (qth ?_)))))))
    exact ⟨rfl, rfl, (xs.length - (j + 1)).toNat, _, by omega, se_cons rfl (se_cons rfl (se_cons rfl (se_cons (se_int rfl hi) se_nil))), j + 1, by omega, by omega, by rw [hjn]; exact any_take hxa hp ht, rfl, rfl⟩
theorem user1_tri {V : Heap} {n i : Nat} {u : Int} (a : UserV) (hV : V i = some (.cells [.int .i64 u] 3 (0, 0))) :
    Tri Try.prog 55 [.agg (userR.f a).toArray, .pointer (some ⟨i, 0, none⟩)] n 0 V (fun r L => r = .bool (a.user == u) ∧ L = []) := by
  refine reads_of_vw (K := 1) (argsI := [userV a, .pointer (some ⟨0, 0, none⟩)]) tab Try.func55 rfl rfl (by simp [Try.f55]) [.own i] [.cells [.int .i64 u] 3 (0, 0)] rfl (.own hV (ov_cells _ _ rfl) .nil) (by simp [ownNames, *]) (by simp [ownNames, lookNames, *]) (al_cons (.val (userRel a)) (al_cons (.val (rel_ptr rfl)) al_nil)) (seen_of (sn_own sn_nil)) (.bool _) ?_
  refine wsq (wrg (vN tab rfl (vQ tab rfl (vnl (qth (wsq (wrg (vQ tab rfl (vQ tab rfl (vQ tab rfl (vQ tab rfl (vQ tab rfl (vnl (qth (vw_ret ?_)))))))))))))))
  exact ⟨⟨.inr rfl, rfl⟩, fun _ => rfl, trivial⟩
end Go.Proofs.Ytcjfidfealifhaa
