/- Texts of this claim, one behind the other (7 of 7). -/
import Derived.Test.YtcjfidfealifhaaGreatPa5
namespace Go.Proofs.YtcjfidfealifhaaGreat
open Go Vm IntWalk
set_option linter.unusedVariables false
set_option linter.unusedSimpArgs false
set_option maxHeartbeats 16000000
theorem refpool_as {V : Heap} {n : Nat} {c : Int} (r : List AddrV × Int) (h : newP c = r) :
    Tri Tryz.prog 18 [.int .i64 c] n 1 V (fun u L => u = .tuple #[.slice (some ⟨n, 0, none⟩) r.1.length 0, .int .i64 r.2] ∧ L = [(n, some (.opn (addrR.cells r.1) 80 3))]) := by subst h; exact refnew_tri c
theorem refnews_tri {V : Heap} {n : Nat} (c : Int) :
    Tri Tryz.prog 5 [.int .i64 c] n 4 V (fun u L => u = .tuple #[stV n (n + 1) (n + 2) (n + 3) (newS c).1, .int .i64 (newS c).2] ∧ L = stL n (newS c).1) := by
  by_cases h : 1 ≤ c ∧ c ≤ 16
  · have e1 := newP_ok h
    have e2 : newS c = ({ st0 with addrs := (newP c).1 }, 0) := if_pos h
    rw [e2, e1]
    refine call_of_vw (K := 0) (argsI := [.int .i64 c]) tab Tryz.func5 rfl rfl (by simp [Tryz.f5]) [] [] rfl .nil (by simp [ownNames]) (by simp [ownNames, lookNames]) (by simp [ownNames, *]) (al_cons (.val (.int _ _)) al_nil) (seen_of sn_nil) ?_
    refine wsq (wrg (vN tab rfl (vQ tab rfl (vnl (qth (wsq (wrg (vQ tab rfl (vT rfl callable_18 (refpool_as _ e1) (vQ4 tab rfl rfl rfl rfl (vQ tab rfl (vnl (qth (wsq (wsq (wrg (vQ2 tab rfl rfl (vnl (qth ?_)))))))))))))))))))
    refine vc_false rfl (vw_skip (qth (wsq (wrg (vQ2 tab rfl rfl (vS tab rfl (vQ tab rfl (vnl (qth (vw_ret ?_))))))))))
    exact out_mk [NIL, NIL, 1, NIL] (.inr rfl) ⟨rfl, rfl⟩ rfl (vrel_tuple (lrel_cons (vrel_agg (lrel_cons (.int _ _) (lrel_cons (.int _ _) (lrel_cons (.int _ _) (lrel_cons (rel_nil (sigma_nil (i := 0) rfl) rfl) (lrel_cons (rel_nil (sigma_nil (i := 1) rfl) rfl) (lrel_cons (rel_slice (sigma_look (i := 2) rfl) rfl) (lrel_cons (rel_nil (sigma_nil (i := 3) rfl) rfl) lrel_nil)))))))) (lrel_cons (.int _ _) lrel_nil))) (op_void (sigma_nil (i := 0) rfl) rfl rfl rfl (op_void (sigma_nil (i := 1) rfl) rfl rfl rfl (op_cons (sigma_look (i := 2) rfl) rfl rfl (ov_opn addrR rfl) rfl (op_void (sigma_nil (i := 3) rfl) rfl rfl rfl op_nil)))) trivial
  · have e1 := newP_bad h
    have e2 : newS c = (st0, 2000) := if_neg h
    rw [e2]
    refine call_of_vw (K := 0) (argsI := [.int .i64 c]) tab Tryz.func5 rfl rfl (by simp [Tryz.f5]) [] [] rfl .nil (by simp [ownNames]) (by simp [ownNames, lookNames]) (by simp [ownNames, *]) (al_cons (.val (.int _ _)) al_nil) (seen_of sn_nil) ?_
    refine wsq (wrg (vN tab rfl (vQ tab rfl (vnl (qth (wsq (wrg (vQ tab rfl (vT rfl callable_18 (refpool_as _ e1) (vQ4 tab rfl rfl rfl rfl (vQ tab rfl (vnl (qth (wsq (wsq (wrg (vQ2 tab rfl rfl (vnl (qth ?_)))))))))))))))))))
    refine vc_true rfl (wsq (wrg (vQ tab rfl (vS tab rfl (vQ tab rfl (vnl (qth (vw_ret (q_thenr ?_)))))))))
    exact out_mk [NIL, NIL, NIL, NIL] (.inr rfl) ⟨rfl, rfl⟩ rfl (vrel_tuple (lrel_cons (vrel_agg (lrel_cons (.int _ _) (lrel_cons (.int _ _) (lrel_cons (.int _ _) (lrel_cons (rel_nil (sigma_nil (i := 0) rfl) rfl) (lrel_cons (rel_nil (sigma_nil (i := 1) rfl) rfl) (lrel_cons (rel_nil (sigma_nil (i := 2) rfl) rfl) (lrel_cons (rel_nil (sigma_nil (i := 3) rfl) rfl) lrel_nil)))))))) (lrel_cons (.int _ _) lrel_nil))) (op_void (sigma_nil (i := 0) rfl) rfl rfl rfl (op_void (sigma_nil (i := 1) rfl) rfl rfl rfl (op_void (sigma_nil (i := 2) rfl) rfl rfl rfl (op_void (sigma_nil (i := 3) rfl) rfl rfl rfl op_nil)))) trivial
section
variable {V : Heap} {n : Nat} {v1 v2 v3 v4 : Value} {cf : ConfV} {ev : EventV} {s : StV}
theorem refapply_tri (h1 : Looks V 9 v1 (userR.cells s.users) s.users.length) (h2 : Looks V 4 v2 (sessR.cells s.sess) s.sess.length) (h3 : Looks V 3 v3 (addrR.cells s.addrs) s.addrs.length) (h4 : Looks V 1 v4 ((intR .i64).cells s.spent) s.spent.length)
    (hb1 : s.users.length * 72 ≤ 140737488355000) (hb2 : s.sess.length * 32 ≤ 140737488355000) (hb3 : s.addrs.length * 24 ≤ 140737488355000) (hb4 : s.spent.length * 8 ≤ 140737488355000) :
    Tri Tryz.prog 14 [confV cf, .agg #[.int .i64 s.boots, .int .i64 s.epoch, .int .i64 s.next, v1, v2, v3, v4], evtV ev] n 4 V (fun u L => u = .tuple #[stV n (n + 1) (n + 2) (n + 3) (applyS cf s ev).1, .int .i64 (applyS cf s ev).2] ∧ L = stL n (applyS cf s ev).1) := by
  refine call_of_vw (K := 4) (argsI := [confV cf, .agg #[.int .i64 s.boots, .int .i64 s.epoch, .int .i64 s.next, .slice (some ⟨0, 0, none⟩) s.users.length 0, .slice (some ⟨1, 0, none⟩) s.sess.length 0, .slice (some ⟨2, 0, none⟩) s.addrs.length 0, .slice (some ⟨3, 0, none⟩) s.spent.length 0], evtV ev]) tab Tryz.func14 rfl rfl (by simp [Tryz.f14]) [.look v1 s.users.length 9, .look v2 s.sess.length 4, .look v3 s.addrs.length 3, .look v4 s.spent.length 1] [.win (userR.cells s.users) 9, .win (sessR.cells s.sess) 4, .win (addrR.cells s.addrs) 3, .win ((intR .i64).cells s.spent) 1] rfl (.look h1 (userR.flat_cells s.users) (.look h2 (sessR.flat_cells s.sess) (.look h3 (addrR.flat_cells s.addrs) (.look h4 ((intR .i64).flat_cells s.spent) .nil)))) (by simp [ownNames]) (by simp [ownNames, lookNames]) (by simp [ownNames, *]) (al_cons (.val (confRel cf)) (al_cons (ar_agg (al_cons (.val (.int _ _)) (al_cons (.val (.int _ _)) (al_cons (.val (.int _ _)) (al_cons (.look (a := 0) rfl) (al_cons (.look (a := 1) rfl) (al_cons (.look (a := 2) rfl) (al_cons (.look (a := 3) rfl) al_nil)))))))) (al_cons (.val (evtRel ev)) al_nil))) (seen_of (sn_look (seen_agg (j := 1) (i := 3) rfl rfl) (sn_look (seen_agg (j := 1) (i := 4) rfl rfl) (sn_look (seen_agg (j := 1) (i := 5) rfl rfl) (sn_look (seen_agg (j := 1) (i := 6) rfl rfl) sn_nil))))) ?_
  cases g1 : confMay cf with
  | false =>
    rw [applyS_bad (by unfold applyC; rw [g1]; rfl)]
    refine wsq (wrg (vN tab rfl (vN tab rfl (vN tab rfl (vN tab rfl (vQ tab rfl (vnl (qth (wsq (wsq (wrg (vQ tab rfl (vF rfl callable_29 (refconf_fun _) (vQ2 tab rfl rfl (vgd_op true rfl rfl rfl (by simp only [g1, sl_]; first | done | omega) ?_)))))))))))))))
    refine vK3 rfl rfl rfl (vQ2 tab rfl rfl (vK4 rfl rfl rfl rfl (vK2 rfl rfl (vQ tab rfl (vnl (qth (vc_true rfl (wsq (wrg (vQ tab rfl (vS tab rfl (vQ tab rfl (vnl (qth (vw_ret (q_thenr ?_))))))))))))))))
    exact out_mk [NIL, NIL, NIL, NIL] (.inr rfl) ⟨rfl, rfl⟩ rfl (vrel_tuple (lrel_cons (vrel_agg (lrel_cons (.int _ _) (lrel_cons (.int _ _) (lrel_cons (.int _ _) (lrel_cons (rel_nil (sigma_nil (i := 0) rfl) rfl) (lrel_cons (rel_nil (sigma_nil (i := 1) rfl) rfl) (lrel_cons (rel_nil (sigma_nil (i := 2) rfl) rfl) (lrel_cons (rel_nil (sigma_nil (i := 3) rfl) rfl) lrel_nil)))))))) (lrel_cons (.int _ _) lrel_nil))) (op_void (sigma_nil (i := 0) rfl) rfl rfl rfl (op_void (sigma_nil (i := 1) rfl) rfl rfl rfl (op_void (sigma_nil (i := 2) rfl) rfl rfl rfl (op_void (sigma_nil (i := 3) rfl) rfl rfl rfl op_nil)))) trivial
  | true =>
  cases g2 : evtMay ev with
  | false =>
    rw [applyS_bad (by unfold applyC; rw [g1, g2]; rfl)]
    refine wsq (wrg (vN tab rfl (vN tab rfl (vN tab rfl (vN tab rfl (vQ tab rfl (vnl (qth (wsq (wsq (wrg (vQ tab rfl (vF rfl callable_29 (refconf_fun _) (vQ2 tab rfl rfl (vgd_op false rfl rfl rfl (by simp only [g1, g2, sl_]; first | done | omega) ?_)))))))))))))))
    refine vQ tab rfl (vF rfl callable_30 (refevt_may _) (vQ3 tab rfl rfl rfl (vgd_op true rfl rfl rfl (by simp only [g1, g2, sl_]; first | done | omega) ?_)))
    refine vK4 rfl rfl rfl rfl (vK2 rfl rfl (vQ tab rfl (vnl (qth (vc_true rfl (wsq (wrg (vQ tab rfl (vS tab rfl (vQ tab rfl (vnl (qth (vw_ret (q_thenr ?_))))))))))))))
    exact out_mk [NIL, NIL, NIL, NIL] (.inr rfl) ⟨rfl, rfl⟩ rfl (vrel_tuple (lrel_cons (vrel_agg (lrel_cons (.int _ _) (lrel_cons (.int _ _) (lrel_cons (.int _ _) (lrel_cons (rel_nil (sigma_nil (i := 0) rfl) rfl) (lrel_cons (rel_nil (sigma_nil (i := 1) rfl) rfl) (lrel_cons (rel_nil (sigma_nil (i := 2) rfl) rfl) (lrel_cons (rel_nil (sigma_nil (i := 3) rfl) rfl) lrel_nil)))))))) (lrel_cons (.int _ _) lrel_nil))) (op_void (sigma_nil (i := 0) rfl) rfl rfl rfl (op_void (sigma_nil (i := 1) rfl) rfl rfl rfl (op_void (sigma_nil (i := 2) rfl) rfl rfl rfl (op_void (sigma_nil (i := 3) rfl) rfl rfl rfl op_nil)))) trivial
  | true =>
  cases g3 : ((s.addrs.length : Int) != cf.addresses) with
  | true =>
    rw [applyS_bad (by unfold applyC; rw [g1, g2]; simpa using g3)]
    refine wsq (wrg (vN tab rfl (vN tab rfl (vN tab rfl (vN tab rfl (vQ tab rfl (vnl (qth (wsq (wsq (wrg (vQ tab rfl (vF rfl callable_29 (refconf_fun _) (vQ2 tab rfl rfl (vgd_op false rfl rfl rfl (by simp only [g1, g2, g3, sl_]; first | done | omega) ?_)))))))))))))))
    refine vQ tab rfl (vF rfl callable_30 (refevt_may _) (vQ3 tab rfl rfl rfl (vgd_op false rfl rfl rfl (by simp only [g1, g2, g3, sl_]; first | done | omega) ?_)))
    refine vQ4 tab rfl rfl rfl rfl (vQ3 tab rfl rfl rfl (vnl (qth (vcd_true rfl (by simp only [g1, g2, g3, sl_]; first | done | omega) ?_))))
    refine wsq (wrg (vQ tab rfl (vS tab rfl (vQ tab rfl (vnl (qth (vw_ret (q_thenr ?_))))))))
    exact out_mk [NIL, NIL, NIL, NIL] (.inr rfl) ⟨rfl, rfl⟩ rfl (vrel_tuple (lrel_cons (vrel_agg (lrel_cons (.int _ _) (lrel_cons (.int _ _) (lrel_cons (.int _ _) (lrel_cons (rel_nil (sigma_nil (i := 0) rfl) rfl) (lrel_cons (rel_nil (sigma_nil (i := 1) rfl) rfl) (lrel_cons (rel_nil (sigma_nil (i := 2) rfl) rfl) (lrel_cons (rel_nil (sigma_nil (i := 3) rfl) rfl) lrel_nil)))))))) (lrel_cons (.int _ _) lrel_nil))) (op_void (sigma_nil (i := 0) rfl) rfl rfl rfl (op_void (sigma_nil (i := 1) rfl) rfl rfl rfl (op_void (sigma_nil (i := 2) rfl) rfl rfl rfl (op_void (sigma_nil (i := 3) rfl) rfl rfl rfl op_nil)))) trivial
  | false =>
  have hC : applyC cf s ev = true := by unfold applyC; rw [g1, g2]; simpa using g3
  cases hE : doesE cf s ev with
  | none =>
    rw [applyS_no hC hE]
    refine wsq (wrg (vN tab rfl (vN tab rfl (vN tab rfl (vN tab rfl (vQ tab rfl (vnl (qth (wsq (wsq (wrg (vQ tab rfl (vF rfl callable_29 (refconf_fun _) (vQ2 tab rfl rfl (vgd_op false rfl rfl rfl (by simp only [g1, g2, g3, sl_]; first | done | omega) ?_)))))))))))))))
    refine vQ tab rfl (vF rfl callable_30 (refevt_may _) (vQ3 tab rfl rfl rfl (vgd_op false rfl rfl rfl (by simp only [g1, g2, g3, sl_]; first | done | omega) ?_)))
    refine vQ4 tab rfl rfl rfl rfl (vQ3 tab rfl rfl rfl (vnl (qth (vcd_false rfl (by simp only [g1, g2, g3, sl_]; first | done | omega) ?_))))
    refine vw_skip (qth (wsq (vw_draw mixed (dq_op tab rfl rfl rfl rfl (dq_op tab rfl rfl rfl rfl (dt_op [0, 1, 2, 3] rfl rfl rfl rfl rfl callable_32 (refcopy_tri (s := s) (looks_win userR rfl rfl) (looks_win sessR rfl rfl) (looks_win addrR rfl rfl) (looks_win (intR .i64) rfl rfl) (by omega) (by omega) (by omega) (by omega)) ?_))))))
    refine dq_op tab rfl rfl rfl rfl (dt_op [8, 9, 10, 11] rfl rfl rfl rfl rfl callable_31 (refapplied_no (s := s) (cf := cf) (ev := ev) (n := 12) ⟨rfl, rfl, rfl, rfl, by decide⟩ (by decide) hb1 hb2 (by omega) hb4 g2 hE) ?_)
    refine dq_op tab rfl rfl rfl rfl (dq_op tab rfl rfl rfl rfl (dq_op tab rfl rfl rfl rfl (dn_op tab rfl rfl rfl rfl (ds_op tab rfl rfl rfl rfl (dq_op tab rfl rfl rfl rfl (vd_nil (by kernel_rfl) ?_))))))
    refine qth (wsq (wsq (wrg (vQ2 tab rfl rfl (vnl (qth (vc_true rfl (wsq (wrg (vQ tab rfl (vS tab rfl (vQ tab rfl (vnl (qth (vw_ret (q_thenr ?_))))))))))))))))
    exact out_mk [NIL, NIL, NIL, NIL] (.inr rfl) ⟨rfl, rfl⟩ rfl (vrel_tuple (lrel_cons (vrel_agg (lrel_cons (.int _ _) (lrel_cons (.int _ _) (lrel_cons (.int _ _) (lrel_cons (rel_nil (sigma_nil (i := 0) rfl) rfl) (lrel_cons (rel_nil (sigma_nil (i := 1) rfl) rfl) (lrel_cons (rel_nil (sigma_nil (i := 2) rfl) rfl) (lrel_cons (rel_nil (sigma_nil (i := 3) rfl) rfl) lrel_nil)))))))) (lrel_cons (.int _ _) lrel_nil))) (op_void (sigma_nil (i := 0) rfl) rfl rfl rfl (op_void (sigma_nil (i := 1) rfl) rfl rfl rfl (op_void (sigma_nil (i := 2) rfl) rfl rfl rfl (op_void (sigma_nil (i := 3) rfl) rfl rfl rfl op_nil)))) trivial
  | some s' =>
    rw [applyS_ok hC hE]
    refine wsq (wrg (vN tab rfl (vN tab rfl (vN tab rfl (vN tab rfl (vQ tab rfl (vnl (qth (wsq (wsq (wrg (vQ tab rfl (vF rfl callable_29 (refconf_fun _) (vQ2 tab rfl rfl (vgd_op false rfl rfl rfl (by simp only [g1, g2, g3, sl_]; first | done | omega) ?_)))))))))))))))
    refine vQ tab rfl (vF rfl callable_30 (refevt_may _) (vQ3 tab rfl rfl rfl (vgd_op false rfl rfl rfl (by simp only [g1, g2, g3, sl_]; first | done | omega) ?_)))
    refine vQ4 tab rfl rfl rfl rfl (vQ3 tab rfl rfl rfl (vnl (qth (vcd_false rfl (by simp only [g1, g2, g3, sl_]; first | done | omega) ?_))))
    refine vw_skip (qth (wsq (vw_draw mixed (dq_op tab rfl rfl rfl rfl (dq_op tab rfl rfl rfl rfl (dt_op [0, 1, 2, 3] rfl rfl rfl rfl rfl callable_32 (refcopy_tri (s := s) (looks_win userR rfl rfl) (looks_win sessR rfl rfl) (looks_win addrR rfl rfl) (looks_win (intR .i64) rfl rfl) (by omega) (by omega) (by omega) (by omega)) ?_))))))
    refine dq_op tab rfl rfl rfl rfl (dt_op [8, 9, 10, 11] rfl rfl rfl rfl rfl callable_31 (refapplied_ok (s := s) (cf := cf) (ev := ev) (n := 12) ⟨rfl, rfl, rfl, rfl, by decide⟩ (by decide) hb1 hb2 (by omega) hb4 g2 hE) ?_)
    refine dq_op tab rfl rfl rfl rfl (dq_op tab rfl rfl rfl rfl (dq_op tab rfl rfl rfl rfl (dn_op tab rfl rfl rfl rfl (ds_op tab rfl rfl rfl rfl (dq_op tab rfl rfl rfl rfl (vd_nil (by kernel_rfl) ?_))))))
    refine qth (wsq (wsq (wrg (vQ2 tab rfl rfl (vnl (qth (vc_false rfl (vw_skip (qth (wsq (wrg (vQ tab rfl (vS tab rfl (vQ tab rfl (vnl (qth (vw_ret ?_)))))))))))))))))
    exact out_mk [12, 13, 14, 15] (.inr rfl) ⟨rfl, rfl⟩ rfl (vrel_tuple (lrel_cons (vrel_agg (lrel_cons (.int _ _) (lrel_cons (.int _ _) (lrel_cons (.int _ _) (lrel_cons (rel_slice (sigma_look (i := 0) rfl) rfl) (lrel_cons (rel_slice (sigma_look (i := 1) rfl) rfl) (lrel_cons (rel_slice (sigma_look (i := 2) rfl) rfl) (lrel_cons (rel_slice (sigma_look (i := 3) rfl) rfl) lrel_nil)))))))) (lrel_cons (.int _ _) lrel_nil))) (op_cons (sigma_look (i := 0) rfl) rfl rfl (ov_opn userR rfl) rfl (op_cons (sigma_look (i := 1) rfl) rfl rfl (ov_opn sessR rfl) rfl (op_cons (sigma_look (i := 2) rfl) rfl rfl (ov_opn addrR rfl) rfl (op_cons (sigma_look (i := 3) rfl) rfl rfl (ov_opn (intR .i64) rfl) rfl op_nil)))) trivial
theorem refapply_any {s' : StV} {r : Int} (hr : applyS cf s ev = (s', r)) (h1 : Looks V 9 v1 (userR.cells s.users) s.users.length) (h2 : Looks V 4 v2 (sessR.cells s.sess) s.sess.length) (h3 : Looks V 3 v3 (addrR.cells s.addrs) s.addrs.length) (h4 : Looks V 1 v4 ((intR .i64).cells s.spent) s.spent.length)
    (hb1 : s.users.length * 72 ≤ 140737488355000) (hb2 : s.sess.length * 32 ≤ 140737488355000) (hb3 : s.addrs.length * 24 ≤ 140737488355000) (hb4 : s.spent.length * 8 ≤ 140737488355000) :
    Tri Tryz.prog 14 [confV cf, .agg #[.int .i64 s.boots, .int .i64 s.epoch, .int .i64 s.next, v1, v2, v3, v4], evtV ev] n 4 V (fun u L => u = .tuple #[stV n (n + 1) (n + 2) (n + 3) s', .int .i64 r] ∧ L = stL n s') := by
  have := refapply_tri (n := n) (cf := cf) (ev := ev) h1 h2 h3 h4 hb1 hb2 hb3 hb4
  rw [hr] at this; exact this
end
end Go.Proofs.YtcjfidfealifhaaGreat
namespace Go.Proofs.YtcjfidfealifhaaGreat
open Go Vm IntWalk
set_option linter.unusedVariables false
set_option linter.unusedSimpArgs false
set_option maxHeartbeats 16000000
theorem refnews_as {V : Heap} {n : Nat} {c : Int} (r : StV × Int) (h : newS c = r) :
    Tri Tryz.prog 5 [.int .i64 c] n 4 V (fun u L => u = .tuple #[stV n (n + 1) (n + 2) (n + 3) r.1, .int .i64 r.2] ∧ L = stL n r.1) := by subst h; exact refnews_tri c
theorem refall_tri {V : Heap} {n : Nat} {sv : Value} {cf : ConfV} {es : List EventV} (hl : Looks V 8 sv (evtR.cells es) es.length) (hb : es.length ≤ 2199023255488) :
    Tri Tryz.prog 8 [confV cf, sv] n 4 V (fun u L => u = .tuple #[stV n (n + 1) (n + 2) (n + 3) (allS cf es).1, .int .i64 (allS cf es).2] ∧ L = stL n (allS cf es).1) := by
  refine call_of_vw (K := 1) (argsI := [confV cf, .slice (some ⟨0, 0, none⟩) es.length 0]) tab Tryz.func8 rfl rfl (by simp [Tryz.f8]) [.look sv es.length 8] [.win (evtR.cells es) 8] rfl (.look hl (evtR.flat_cells es) .nil) (by simp [ownNames]) (by simp [ownNames, lookNames]) (by simp [ownNames, *]) (al_cons (.val (confRel cf)) (al_cons (.look (a := 0) rfl) al_nil)) (seen_of (sn_look (seen_top (j := 1) rfl) sn_nil)) ?_
  obtain ⟨s1, f1, hn⟩ : ∃ s1 f1, newS cf.addresses = (s1, f1) := ⟨_, _, rfl⟩
  have hsm : Fit 0 s1 := by have := @new_fit cf.addresses; rw [hn] at this; exact this
  obtain ⟨R, hR⟩ : ∃ R, allS cf es = R := ⟨_, rfl⟩
  have hA := (allS_eq (es := es) hn).symm.trans hR
  rw [hR]
  by_cases hf : f1 = 0
  case neg =>
    rw [if_neg hf] at hA; subst hA
    have hfn : (f1 != 0) = true := by simpa using hf
    refine wsq (wrg (vN tab rfl (vN tab rfl (vQ tab rfl (vnl (qth (wsq (wrg (vQ2 tab rfl rfl (vT rfl callable_5 (refnews_as _ hn) (vQ3 tab rfl rfl rfl (vN tab rfl (vS tab rfl (vQ tab rfl (vnl (qth (wsq (wsq (wrg (vQ tab rfl ?_))))))))))))))))))))
    refine vQ tab rfl (vnl (qth (vcd_true rfl (by simp only [hfn, sl_]; first | done | omega) ?_)))
    refine wsq (wrg (vQ2 tab rfl rfl (vS tab rfl (vQ tab rfl (vnl (qth (vw_ret (q_thenr ?_))))))))
    exact out_mk [NIL, NIL, NIL, NIL] (.inr rfl) ⟨rfl, rfl⟩ rfl (vrel_tuple (lrel_cons (vrel_agg (lrel_cons (.int _ _) (lrel_cons (.int _ _) (lrel_cons (.int _ _) (lrel_cons (rel_nil (sigma_nil (i := 0) rfl) rfl) (lrel_cons (rel_nil (sigma_nil (i := 1) rfl) rfl) (lrel_cons (rel_nil (sigma_nil (i := 2) rfl) rfl) (lrel_cons (rel_nil (sigma_nil (i := 3) rfl) rfl) lrel_nil)))))))) (lrel_cons (.int _ _) lrel_nil))) (op_void (sigma_nil (i := 0) rfl) rfl rfl rfl (op_void (sigma_nil (i := 1) rfl) rfl rfl rfl (op_void (sigma_nil (i := 2) rfl) rfl rfl rfl (op_void (sigma_nil (i := 3) rfl) rfl rfl rfl op_nil)))) trivial
  subst hf
  rw [if_pos rfl] at hA
  refine wsq (wrg (vN tab rfl (vN tab rfl (vQ tab rfl (vnl (qth (wsq (wrg (vQ2 tab rfl rfl (vT rfl callable_5 (refnews_as _ hn) (vQ3 tab rfl rfl rfl (vN tab rfl (vS tab rfl (vQ tab rfl (vnl (qth (wsq (wsq (wrg (vQ tab rfl ?_))))))))))))))))))))
  refine vQ tab rfl (vnl (qth (vc_false rfl (vw_skip (qth (wsq (wsq (wrg (vQ tab rfl (vnl (qth (wbk ?_))))))))))))
  refine vw_loop_sub (fun k st => ∃ (j : Int) (s : StV), 0 ≤ j ∧ j ≤ es.length ∧ Fit j.toNat s ∧ goS cf s (es.drop j.toNat) = R ∧ k = (es.length - j).toNat ∧
      st = ⟨[(1, .slice (some ⟨0, 0, none⟩) es.length 0), (2, .pointer (some ⟨1, 0, none⟩)), (4, .pointer (some ⟨2, 0, none⟩)), (6, .pointer (some ⟨3, 0, none⟩)), (8, .int .i64 j)],
        lkp [(0, .win (evtR.cells es) 8), (1, confO cf), (2, zO), (3, stO 4 5 6 7 s), (4, .opn (userR.cells s.users) 76 9), (5, .opn (sessR.cells s.sess) 78 4), (6, .opn (addrR.cells s.addrs) 80 3), (7, .opn ((intR .i64).cells s.spent) 3 1)], 8⟩) (es.length - 0)
    ⟨_, (sub_of (g := 1) [1, 2, 7, 3, 4, 5, 6] (by decide) (by decide) (by repeat' first | exact ep_nil | exact ov_conf rfl | exact ov_st .nilSlice .nilSlice .nilSlice .nilSlice | exact ov_st (rel_slice rfl rfl) (rel_slice rfl rfl) (rel_slice rfl rfl) (rel_slice rfl rfl) | refine ep_cons rfl ?_ ?_ | exact .int _ _ | exact .bool _ | exact .string _ | exact rel_slice rfl rfl | exact rel_nil rfl rfl | exact rel_ptr rfl | exact .nilPtr | exact .nilIface | exact .nilSlice) (by repeat' first | exact hp_nil | exact ov_conf rfl | exact ov_st .nilSlice .nilSlice .nilSlice .nilSlice | exact ov_st (rel_slice rfl rfl) (rel_slice rfl rfl) (rel_slice rfl rfl) (rel_slice rfl rfl) | refine hp_cons rfl rfl ?_ ?_ | refine hp_void rfl rfl ?_ | exact ov_win _ | exact ov_opn _ rfl | exact ov_cells _ _ (by decide))), 0, s1, by omega, by omega, hsm, hA, by simp, rfl⟩ ?_
  rintro k st ⟨j, s, g0, g1, hs, hr, rfl, rfl⟩
  by_cases hj : j < (es.length : Int)
  case neg =>
    rw [List.drop_eq_nil_of_le (by omega)] at hr
    have hr : (s, (0 : Int)) = R := hr
    subst hr
    refine wsq (wsq (wrg (vQ4 tab rfl rfl rfl rfl (vnl (qth (vcd_false rfl (by simp only [sl_]; first | done | omega) ?_))))))
    refine vw_exit (q_thenx (q_thenx (q_here (qth (wsq (wrg (vQ tab rfl (vS tab rfl (vQ tab rfl (vnl (qth (vw_ret ?_))))))))))))
    exact out_mk [4, 5, 6, 7] (.inr rfl) ⟨rfl, rfl⟩ rfl (vrel_tuple (lrel_cons (vrel_agg (lrel_cons (.int _ _) (lrel_cons (.int _ _) (lrel_cons (.int _ _) (lrel_cons (rel_slice (sigma_look (i := 0) rfl) rfl) (lrel_cons (rel_slice (sigma_look (i := 1) rfl) rfl) (lrel_cons (rel_slice (sigma_look (i := 2) rfl) rfl) (lrel_cons (rel_slice (sigma_look (i := 3) rfl) rfl) lrel_nil)))))))) (lrel_cons (.int _ _) lrel_nil))) (op_cons (sigma_look (i := 0) rfl) rfl rfl (ov_opn userR rfl) rfl (op_cons (sigma_look (i := 1) rfl) rfl rfl (ov_opn sessR rfl) rfl (op_cons (sigma_look (i := 2) rfl) rfl rfl (ov_opn addrR rfl) rfl (op_cons (sigma_look (i := 3) rfl) rfl rfl (ov_opn (intR .i64) rfl) rfl op_nil)))) trivial
  obtain ⟨e, hx⟩ := get_some g0 hj
  have hi : IntKind.i64.wrap (j + 1) = j + 1 := i64_in _ (by omega)
  have hjn : (j + 1).toNat = j.toNat + 1 := by omega
  obtain ⟨s', f', ha⟩ : ∃ s' f', applyS cf s e = (s', f') := ⟨_, _, rfl⟩
  rw [goS_step hx ha] at hr
  have hs' : Fit (j.toNat + 1) s' := by have := apply_fit (c := cf) (e := e) hs; rw [ha] at this; exact this
  obtain ⟨z0, z2, z3, z4⟩ := hs
  have z1 := srt_eight z0
  by_cases hf : f' = 0
  case neg =>
    rw [if_neg hf] at hr; subst hr
    have hfn : (f' != 0) = true := by simpa using hf
    refine wsq (wsq (wrg (vQ4 tab rfl rfl rfl rfl (vnl (qth (vcd_true rfl (by simp only [hfn, sl_]; first | done | omega) ?_))))))
    refine vw_skip (qth (wsq (wbk (wsq (vw_draw mixed (dq_op tab rfl rfl rfl rfl (dq_op tab rfl rfl rfl rfl (dq_op tab rfl rfl rfl rfl (dq_op tab rfl rfl rfl rfl (dq_op tab rfl rfl (ev_index rfl rfl rfl rfl rfl (by omega) (by omega)) (ev_index rfl rfl rfl rfl rfl (by omega) (by omega)) ?_))))))))))
    refine dq_op tab rfl rfl (ev_loadrow evtR rfl rfl rfl rfl rfl rfl hx) (ev_loadrow evtR rfl rfl rfl rfl rfl rfl hx) (dt_op [4, 5, 6, 7] rfl rfl rfl rfl rfl callable_14 (refapply_any ha (looks_opn userR rfl rfl) (looks_opn sessR rfl rfl) (looks_opn addrR rfl rfl) (looks_opn (intR .i64) rfl rfl) (by omega) (by omega) (by omega) (by omega)) ?_)
    refine dq_op tab rfl rfl rfl rfl (dq_op tab rfl rfl rfl rfl (dq_op tab rfl rfl rfl rfl (dn_op tab rfl rfl rfl rfl (ds_op tab rfl rfl rfl rfl (dq_op tab rfl rfl rfl rfl (vd_nil (by kernel_rfl) ?_))))))
    refine qth (wsq (wsq (wrg (vQ2 tab rfl rfl (vnl (qth (vcd_true rfl (by simp only [hfn, sl_]; first | done | omega) ?_)))))))
    refine wsq (wrg (vQ2 tab rfl rfl (vS tab rfl (vQ tab rfl (vnl (qth (vw_ret (q_thenr (q_ret (q_thenr (q_thenr (q_ret (q_thenr ?_)))))))))))))
    exact out_mk [NIL, NIL, NIL, NIL] (.inr rfl) ⟨rfl, rfl⟩ rfl (vrel_tuple (lrel_cons (vrel_agg (lrel_cons (.int _ _) (lrel_cons (.int _ _) (lrel_cons (.int _ _) (lrel_cons (rel_nil (sigma_nil (i := 0) rfl) rfl) (lrel_cons (rel_nil (sigma_nil (i := 1) rfl) rfl) (lrel_cons (rel_nil (sigma_nil (i := 2) rfl) rfl) (lrel_cons (rel_nil (sigma_nil (i := 3) rfl) rfl) lrel_nil)))))))) (lrel_cons (.int _ _) lrel_nil))) (op_void (sigma_nil (i := 0) rfl) rfl rfl rfl (op_void (sigma_nil (i := 1) rfl) rfl rfl rfl (op_void (sigma_nil (i := 2) rfl) rfl rfl rfl (op_void (sigma_nil (i := 3) rfl) rfl rfl rfl op_nil)))) trivial
  subst hf
  rw [if_pos rfl] at hr
  refine wsq (wsq (wrg (vQ4 tab rfl rfl rfl rfl (vnl (qth (vcd_true rfl (by simp only [sl_]; first | done | omega) ?_))))))
  refine vw_skip (qth (wsq (wbk (wsq (vw_draw mixed (dq_op tab rfl rfl rfl rfl (dq_op tab rfl rfl rfl rfl (dq_op tab rfl rfl rfl rfl (dq_op tab rfl rfl rfl rfl (dq_op tab rfl rfl (ev_index rfl rfl rfl rfl rfl (by omega) (by omega)) (ev_index rfl rfl rfl rfl rfl (by omega) (by omega)) ?_))))))))))
  refine dq_op tab rfl rfl (ev_loadrow evtR rfl rfl rfl rfl rfl rfl hx) (ev_loadrow evtR rfl rfl rfl rfl rfl rfl hx) (dt_op [4, 5, 6, 7] rfl rfl rfl rfl rfl callable_14 (refapply_any ha (looks_opn userR rfl rfl) (looks_opn sessR rfl rfl) (looks_opn addrR rfl rfl) (looks_opn (intR .i64) rfl rfl) (by omega) (by omega) (by omega) (by omega)) ?_)
  refine dq_op tab rfl rfl rfl rfl (dq_op tab rfl rfl rfl rfl (dq_op tab rfl rfl rfl rfl (dn_op tab rfl rfl rfl rfl (ds_op tab rfl rfl rfl rfl (dq_op tab rfl rfl rfl rfl (vd_nil (by kernel_rfl) ?_))))))
  refine qth (wsq (wsq (wrg (vQ2 tab rfl rfl (vnl (qth (vc_false rfl (vw_skip (qth (wrg (vQ tab rfl (vS tab rfl (vnl (q_norm (qth (wrg (vQ3 tab rfl rfl rfl (vnl (qth ?_)))))))))))))))))))
  exact ⟨(es.length - (j + 1)).toNat, _, by omega, (sub_of (g := 1) [1, 2, 3, 8, 9, 10, 11] (by decide) (by decide) (by repeat' first | exact ep_nil | exact ri hi.symm | exact ov_conf rfl | exact ov_st .nilSlice .nilSlice .nilSlice .nilSlice | exact ov_st (rel_slice rfl rfl) (rel_slice rfl rfl) (rel_slice rfl rfl) (rel_slice rfl rfl) | refine ep_cons rfl ?_ ?_ | exact .int _ _ | exact .bool _ | exact .string _ | exact rel_slice rfl rfl | exact rel_nil rfl rfl | exact rel_ptr rfl | exact .nilPtr | exact .nilIface | exact .nilSlice) (by repeat' first | exact hp_nil | exact ri hi.symm | exact ov_conf rfl | exact ov_st .nilSlice .nilSlice .nilSlice .nilSlice | exact ov_st (rel_slice rfl rfl) (rel_slice rfl rfl) (rel_slice rfl rfl) (rel_slice rfl rfl) | refine hp_cons rfl rfl ?_ ?_ | refine hp_void rfl rfl ?_ | exact ov_win _ | exact ov_opn _ rfl | exact ov_cells _ _ (by decide))), j + 1, s', by omega, by omega, by rw [hjn]; exact hs', by rw [hjn]; exact hr, rfl, rfl⟩
theorem refall_any {V : Heap} {n : Nat} {sv : Value} {cf : ConfV} {es : List EventV} {s : StV} {r : Int} (hr : allS cf es = (s, r)) (hb : es.length ≤ 2199023255488) (hl : Looks V 8 sv (evtR.cells es) es.length) :
    Tri Tryz.prog 8 [confV cf, sv] n 4 V (fun u L => u = .tuple #[stV n (n + 1) (n + 2) (n + 3) s, .int .i64 r] ∧ L = stL n s) := by
  have := refall_tri (cf := cf) (n := n) hl hb; rw [hr] at this; exact this

set_option maxHeartbeats 4000000 in
theorem same_evts {V : Heap} {n : Nat} {sva svb : Value} {xs ys : List EventV} (ha : Looks V 8 sva (evtR.cells xs) xs.length) (hb : Looks V 8 svb (evtR.cells ys) ys.length) (hx : xs.length ≤ 140737488355328) (hy : ys.length ≤ 140737488355328) :
    Tri Tryz.prog 24 [sva, svb] n 0 V (fun u L => u = .bool (decide (xs = ys)) ∧ L = []) := by
  refine reads_of_vw (K := 2) (argsI := [.slice (some ⟨0, 0, none⟩) xs.length 0, .slice (some ⟨1, 0, none⟩) ys.length 0]) tab Tryz.func24 rfl rfl (by simp [Tryz.f24]) [.look sva xs.length 8, .look svb ys.length 8] [.win (evtR.cells xs) 8, .win (evtR.cells ys) 8] rfl (.look ha (evtR.flat_cells xs) (.look hb (evtR.flat_cells ys) .nil)) (by simp [ownNames]) (by simp [ownNames, lookNames]) (al_cons (.look (a := 0) rfl) (al_cons (.look (a := 1) rfl) al_nil)) (seen_of (sn_look (seen_top (j := 0) rfl) (sn_look (seen_top (j := 1) rfl) sn_nil))) (.bool _) ?_
  by_cases hlen : xs.length = ys.length
  case neg =>
    have hne : xs ≠ ys := fun e => hlen (by rw [e])
    have hd : ((xs.length : Int) != (ys.length : Int)) = true := by simpa using (show ¬ (xs.length : Int) = ys.length by omega)
    refine wsq (wrg (vQ tab rfl (vnl (qth (wsq (wsq (wrg (vQ4 tab rfl rfl rfl rfl (vQ tab rfl (vnl (qth (vcd_true rfl (by simp only [hd, sl_]; first | done | omega) ?_))))))))))))
    refine wsq (wrg (vQ tab rfl (vnl (qth (vw_ret (q_thenr ?_))))))
    exact ⟨⟨.inr rfl, by rw [decide_eq_false hne]; rfl⟩, trivial⟩
  have hd : ((xs.length : Int) != (ys.length : Int)) = false := by simpa using (show (xs.length : Int) = ys.length by omega)
  refine wsq (wrg (vQ tab rfl (vnl (qth (wsq (wsq (wrg (vQ4 tab rfl rfl rfl rfl (vQ tab rfl (vnl (qth (vcd_false rfl (by simp only [hd, sl_]; first | done | omega) ?_))))))))))))
  refine vw_skip (qth (wsq (wsq (wrg (vQ tab rfl (vnl (qth (wbk ?_))))))))
  refine vw_loop_sub (fun k s => ∃ j : Int, 0 ≤ j ∧ j ≤ xs.length ∧ xs.take j.toNat = ys.take j.toNat ∧ k = (xs.length - j).toNat ∧
      s = ⟨[(0, .slice (some ⟨0, 0, none⟩) xs.length 0), (1, .slice (some ⟨1, 0, none⟩) ys.length 0), (5, .int .i64 j)], lkp [(0, .win (evtR.cells xs) 8), (1, .win (evtR.cells ys) 8)], 2⟩) (xs.length - 0)
    ⟨_, (sub_of (g := 2) [] (by decide) (by decide) (by repeat' first | exact ep_nil | refine ep_cons rfl ?_ ?_ | exact .int _ _ | exact .bool _ | exact .string _ | exact rel_slice rfl rfl | exact rel_nil rfl rfl | exact rel_ptr rfl | exact .nilPtr | exact .nilIface | exact .nilSlice) (by repeat' first | exact hp_nil | refine hp_cons rfl rfl ?_ ?_ | refine hp_void rfl rfl ?_ | exact ov_win _ | exact ov_opn _ rfl | exact ov_cells _ _ (by decide))), 0, by omega, by omega, by simp, by simp, rfl⟩ ?_
  rintro k s ⟨j, h0, h1, ht, rfl, rfl⟩
  by_cases hj : j < (xs.length : Int)
  case neg =>
    have he : xs = ys := by rw [show j.toNat = xs.length by omega, List.take_length, hlen, List.take_length] at ht; exact ht
    refine wsq (wsq (wrg (vQ4 tab rfl rfl rfl rfl (vnl (qth (vcd_false rfl (by simp only [sl_]; first | done | omega) ?_))))))
    refine vw_exit (q_thenx (q_thenx (q_here (qth (wsq (wrg (vQ tab rfl (vnl (qth (vw_ret ?_))))))))))
    exact ⟨⟨.inr rfl, by rw [decide_eq_true he]; rfl⟩, trivial⟩
  obtain ⟨a, hxa⟩ := get_some h0 hj
  obtain ⟨b, hyb⟩ := get_some (xs := ys) h0 (by omega)
  have hi : IntKind.i64.wrap (j + 1) = j + 1 := i64_in _ (by omega)
  have hjn : (j + 1).toNat = j.toNat + 1 := by omega
  by_cases hab : a = b
  · have hd := decide_eq_true hab
    refine wsq (wsq (wrg (vQ4 tab rfl rfl rfl rfl (vnl (qth (vcd_true rfl (by simp only [hi, hd, sl_]; first | done | omega) ?_))))))
    refine vw_skip (qth (wsq (wbk (wsq (vw_draw mixed (dq_op tab rfl rfl rfl rfl (dq_op tab rfl rfl rfl rfl (dq_op tab rfl rfl (ev_index rfl rfl rfl rfl rfl (by omega) (by omega)) (ev_index rfl rfl rfl rfl rfl (by omega) (by omega)) ?_))))))))
    refine dq_op tab rfl rfl (ev_loadrow evtR rfl rfl rfl rfl rfl rfl hxa) (ev_loadrow evtR rfl rfl rfl rfl rfl rfl hxa) (dq_op tab rfl rfl rfl rfl (dq_op tab rfl rfl rfl rfl (dq_op tab rfl rfl (ev_index rfl rfl rfl rfl rfl (by omega) (by omega)) (ev_index rfl rfl rfl rfl rfl (by omega) (by omega)) ?_)))
    refine dq_op tab rfl rfl (ev_loadrow evtR rfl rfl rfl rfl rfl rfl hyb) (ev_loadrow evtR rfl rfl rfl rfl rfl rfl hyb) (dq_op tab rfl rfl (ev_neq rfl rfl rfl (evt_eq a b)) (ev_neq rfl rfl rfl (evt_eq a b)) (vd_nil (by kernel_rfl) ?_))
    refine qth (vcd_false rfl (by simp only [hi, hd, sl_]; first | done | omega) ?_)
    refine vw_skip (q_norm (qth (wrg (vQ3 tab rfl rfl rfl (vnl (qth ?_))))))
    exact ⟨(xs.length - (j + 1)).toNat, _, by omega, (sub_of (g := 2) [] (by decide) (by decide) (by repeat' first | exact ep_nil | exact ri hi.symm | refine ep_cons rfl ?_ ?_ | exact .int _ _ | exact .bool _ | exact .string _ | exact rel_slice rfl rfl | exact rel_nil rfl rfl | exact rel_ptr rfl | exact .nilPtr | exact .nilIface | exact .nilSlice) (by repeat' first | exact hp_nil | exact ri hi.symm | refine hp_cons rfl rfl ?_ ?_ | refine hp_void rfl rfl ?_ | exact ov_win _ | exact ov_opn _ rfl | exact ov_cells _ _ (by decide))), j + 1, by omega, by omega, by rw [hjn]; exact take_same hxa hyb ht hab, rfl, rfl⟩
  · have hd := decide_eq_false hab
    refine wsq (wsq (wrg (vQ4 tab rfl rfl rfl rfl (vnl (qth (vcd_true rfl (by simp only [hi, hd, sl_]; first | done | omega) ?_))))))
    refine vw_skip (qth (wsq (wbk (wsq (vw_draw mixed (dq_op tab rfl rfl rfl rfl (dq_op tab rfl rfl rfl rfl (dq_op tab rfl rfl (ev_index rfl rfl rfl rfl rfl (by omega) (by omega)) (ev_index rfl rfl rfl rfl rfl (by omega) (by omega)) ?_))))))))
    refine dq_op tab rfl rfl (ev_loadrow evtR rfl rfl rfl rfl rfl rfl hxa) (ev_loadrow evtR rfl rfl rfl rfl rfl rfl hxa) (dq_op tab rfl rfl rfl rfl (dq_op tab rfl rfl rfl rfl (dq_op tab rfl rfl (ev_index rfl rfl rfl rfl rfl (by omega) (by omega)) (ev_index rfl rfl rfl rfl rfl (by omega) (by omega)) ?_)))
    refine dq_op tab rfl rfl (ev_loadrow evtR rfl rfl rfl rfl rfl rfl hyb) (ev_loadrow evtR rfl rfl rfl rfl rfl rfl hyb) (dq_op tab rfl rfl (ev_neq rfl rfl rfl (evt_eq a b)) (ev_neq rfl rfl rfl (evt_eq a b)) (vd_nil (by kernel_rfl) ?_))
    refine qth (vcd_true rfl (by simp only [hi, hd, sl_]; first | done | omega) ?_)
    refine wsq (wrg (vQ tab rfl (vnl (qth (vw_ret (q_ret (q_thenr (q_thenr (q_ret (q_thenr ?_))))))))))
    exact ⟨⟨.inr rfl, by rw [decide_eq_false (take_diff hxa hyb hab)]; rfl⟩, trivial⟩
set_option maxHeartbeats 4000000 in
theorem copy_evts {V : Heap} {n : Nat} {sv : Value} {xs : List EventV} (hl : Looks V 8 sv (evtR.cells xs) xs.length) (hb : xs.length * 64 ≤ 140737488355328) :
    Tri Tryz.prog 19 [sv] n 1 V (fun u L => u = .slice (some ⟨n, 0, none⟩) xs.length 0 ∧ L = [(n, some (.opn (evtR.cells xs) 45 8))]) := by
  refine call_of_vw (K := 1) (argsI := [.slice (some ⟨0, 0, none⟩) xs.length 0]) tab Tryz.func19 rfl rfl (by simp [Tryz.f19]) [.look sv xs.length 8] [.win (evtR.cells xs) 8] rfl (.look hl (evtR.flat_cells xs) .nil) (by simp [ownNames]) (by simp [ownNames, lookNames]) (by simp [ownNames, *]) (al_cons (.look (a := 0) rfl) al_nil) (seen_of (sn_look (seen_top (j := 0) rfl) sn_nil)) ?_
  refine wsq (wrg (vQ tab rfl (vnl (qth (wsq (wrg (vN tab rfl (vQ tab rfl (vo_op rfl rfl rfl (opr_ev tab (ev_app evtR (xs := []) (ys := xs) (m := xs.length) rfl rfl rfl rfl rfl rfl (news_all evtR rfl rfl) rfl rfl (by rw [Nat.zero_add]; exact hb) (by omega))) ?_)))))))))
  refine vQ tab rfl (vnl (qth (vw_ret ?_)))
  exact out_mk [2] (.inr rfl) ⟨rfl, rfl⟩ rfl (rel_slice (sigma_look (i := 0) rfl) (by omega)) (op_cons (sigma_look (i := 0) rfl) rfl rfl (ov_opn evtR rfl) rfl op_nil) trivial
set_option maxHeartbeats 4000000 in
theorem lend_evts {V : Heap} {n : Nat} {sv : Value} {xs : List EventV} (hl : Looks V 8 sv (evtR.cells xs) xs.length) (hb : xs.length * 64 ≤ 140737488351232) :
    Tri Tryz.prog 6 [sv] n 1 V (fun u L => u = .slice (some ⟨n, 0, none⟩) xs.length 0 ∧ L = [(n, some (.opn (evtR.cells (xs ++ [⟨0, 0, 0, 0, 0, 0, 0, 77777⟩, ⟨0, 0, 0, 0, 0, 0, 0, 77777⟩])) 45 8))]) := by
  refine call_of_vw (K := 1) (argsI := [.slice (some ⟨0, 0, none⟩) xs.length 0]) tab Tryz.func6 rfl rfl (by simp [Tryz.f6]) [.look sv xs.length 8] [.win (evtR.cells xs) 8] rfl (.look hl (evtR.flat_cells xs) .nil) (by simp [ownNames]) (by simp [ownNames, lookNames]) (by simp [ownNames, *]) (al_cons (.look (a := 0) rfl) al_nil) (seen_of (sn_look (seen_top (j := 0) rfl) sn_nil)) ?_
  refine wsq (wrg (vQ tab rfl (vnl (qth (wsq (wrg (vQ tab rfl (vT rfl callable_19 (copy_evts (looks_win evtR rfl rfl) (by omega)) ?_))))))))
  refine vQ2 tab rfl rfl (vN tab rfl (vo_op rfl rfl rfl (opr_ev tab (ev_app evtR (xs := xs) (ys := [⟨0, 0, 0, 0, 0, 0, 0, 77777⟩, ⟨0, 0, 0, 0, 0, 0, 0, 77777⟩]) (m := 2) rfl rfl rfl rfl rfl rfl rfl rfl rfl (by show (_ + 2) * 64 ≤ _; omega) (by omega))) ?_))
  refine vQ tab rfl (vnl (qth (wsq (wrg (vQ3 tab rfl rfl rfl (vq_op tab rfl rfl rfl (ev_slice evtR (p := 0) (xs := xs ++ [⟨0, 0, 0, 0, 0, 0, 0, 77777⟩, ⟨0, 0, 0, 0, 0, 0, 0, 77777⟩]) (l := 0) (h := xs.length) (len := xs.length + 2) (by rw [Nat.zero_mul]; rfl) rfl rfl rfl rfl rfl rfl (bnd_nat _) (by omega) (by simp) (.inr rfl)) ?_))))))
  refine vQ tab rfl (vnl (qth (vw_ret ?_)))
  exact out_mk [3] (.inr rfl) ⟨rfl, rfl⟩ rfl (rel_slice (sigma_look (i := 0) rfl) rfl) (op_cons (sigma_look (i := 0) rfl) rfl rfl (ov_opn evtR rfl) rfl op_nil) trivial
set_option maxHeartbeats 4000000 in
theorem kept_evts {V : Heap} {n i : Nat} {sva : Value} {xs ys : List EventV} {p q : EventV} (hV : V i = some (.opn (evtR.cells (ys ++ [p, q])) 45 8)) (hl : Looks V 8 sva (evtR.cells xs) xs.length) (hx : xs.length ≤ 140737488355328) (hy : ys.length ≤ 140737488355328) (hd : ∀ x ∈ lookNames [.look sva xs.length 8], x ≠ i) :
    Tri Tryz.prog 11 [.slice (some ⟨i, 0, none⟩) ys.length 0, sva] n 0 V (fun u L => u = .bool (decide (ys = xs) && decide (p = ⟨0, 0, 0, 0, 0, 0, 0, 77777⟩) && decide (q = ⟨0, 0, 0, 0, 0, 0, 0, 77777⟩)) ∧ L = []) := by
  refine reads_of_vw (K := 2) (argsI := [.slice (some ⟨0, 0, none⟩) ys.length 0, .slice (some ⟨1, 0, none⟩) xs.length 0]) tab Tryz.func11 rfl rfl (by simp [Tryz.f11]) [.own i, .look sva xs.length 8] [.opn (evtR.cells (ys ++ [p, q])) 45 8, .win (evtR.cells xs) 8] rfl (.own hV (ov_opn evtR rfl) (.look hl (evtR.flat_cells xs) .nil)) (by simp [ownNames, *]) (apart_one hd) (al_cons (.val (rel_slice rfl rfl)) (al_cons (.look (a := 1) rfl) al_nil)) (seen_of (sn_own (sn_look (seen_top (j := 1) rfl) sn_nil))) (.bool _) ?_
  have hw : IntKind.i64.wrap ((ys.length : Int) + 2) = (ys.length : Int) + 2 := i64_in _ (by omega)
  have hbn : bnd ys.length (some (some (.int .i64 (IntKind.i64.wrap ((ys.length : Int) + 2))))) = some (ys.length + 2) := by rw [hw]; exact bnd_nat (ys.length + 2)
  have hw1 : IntKind.i64.wrap ((ys.length : Int) + 1) = (ys.length : Int) + 1 := i64_in _ (by omega)
  by_cases he : ys = xs
  · subst he
    have h1 : (ys ++ [p, q])[((ys.length : Int)).toNat]? = some p := by simp
    have h2 : (ys ++ [p, q])[((ys.length : Int) + 1).toNat]? = some q := by rw [show ((ys.length : Int) + 1).toNat = ys.length + 1 by omega]; simp
    have h2' : (ys ++ [p, q])[(IntKind.i64.wrap ((ys.length : Int) + 1)).toNat]? = some q := by rw [hw1]; exact h2
    have hdt : decide (ys = ys) = true := decide_eq_true rfl
    refine wsq (wrg (vQ tab rfl (vnl (qth (wsq (wrg (vQ4 tab rfl rfl rfl rfl (vq_op tab rfl rfl rfl (ev_slice evtR (p := 0) (xs := ys ++ [p, q]) (l := 0) (h := ys.length + 2) (len := ys.length) (by rw [Nat.zero_mul]; rfl) rfl rfl rfl rfl rfl rfl hbn (by omega) (by simp) (.inr rfl)) ?_))))))))
    refine vQ tab rfl (vnl (qth (wsq (wrg (vQ2 tab rfl rfl (vR rfl callable_24 (same_evts (looks_front evtR (xs := ys) (ys := [p, q]) rfl rfl) (looks_win evtR (xs := ys) rfl rfl) hy hy) (vQ tab rfl (vgd_op true rfl rfl rfl (by simp only [hdt, sl_]; first | done | omega) ?_))))))))
    refine vQ3 tab rfl rfl rfl (vq_op tab ⟨_, _, rfl, rfl, rfl⟩ rfl rfl (ev_index rfl rfl rfl rfl rfl (by first | rw [hw1]; omega | omega) (by first | rw [hw1]; omega | omega)) ?_)
    refine vq_op tab ⟨_, _, rfl, rfl, rfl⟩ rfl rfl (ev_loadrow evtR rfl rfl rfl rfl rfl rfl h1) (vQ tab rfl (vq_op tab ⟨_, _, rfl, rfl, rfl⟩ rfl rfl (ev_eql rfl rfl rfl (evt_eq p ⟨0, 0, 0, 0, 0, 0, 0, 77777⟩)) (vQ tab rfl (vQ tab rfl ?_))))
    refine vg_op rfl rfl rfl (fun _ => ?_) (fun _ => ?_)
    refine vQ4 tab rfl rfl rfl rfl (vq_op tab ⟨_, _, rfl, rfl, rfl⟩ rfl rfl (ev_index rfl rfl rfl rfl rfl (by first | rw [hw1]; omega | omega) (by first | rw [hw1]; omega | omega)) ?_)
    refine vq_op tab ⟨_, _, rfl, rfl, rfl⟩ rfl rfl (ev_loadrow evtR rfl rfl rfl rfl rfl rfl h2') (vQ tab rfl (vq_op tab ⟨_, _, rfl, rfl, rfl⟩ rfl rfl (ev_eql rfl rfl rfl (evt_eq q ⟨0, 0, 0, 0, 0, 0, 0, 77777⟩)) (vQ2 tab rfl rfl (vnl (qth (vw_ret ?_))))))
    rotate_left
    refine vK4 rfl rfl rfl rfl (vK4 rfl rfl rfl rfl (vQ2 tab rfl rfl (vnl (qth (vw_ret ?_)))))
    rotate_left
    all_goals
      refine ⟨⟨.inr rfl, ?_⟩, fun _ => rfl, trivial⟩
      refine Eq.trans (b := some (.bool _)) rfl (congrArg (fun b => some (Value.bool b)) ?_)
      simp_all
  · have hdf := decide_eq_false he
    refine wsq (wrg (vQ tab rfl (vnl (qth (wsq (wrg (vQ4 tab rfl rfl rfl rfl (vq_op tab rfl rfl rfl (ev_slice evtR (p := 0) (xs := ys ++ [p, q]) (l := 0) (h := ys.length + 2) (len := ys.length) (by rw [Nat.zero_mul]; rfl) rfl rfl rfl rfl rfl rfl hbn (by omega) (by simp) (.inr rfl)) ?_))))))))
    refine vQ tab rfl (vnl (qth (wsq (wrg (vQ2 tab rfl rfl (vR rfl callable_24 (same_evts (looks_front evtR (xs := ys) (ys := [p, q]) rfl rfl) (looks_win evtR (xs := xs) rfl rfl) hy hx) (vQ tab rfl (vgd_op false rfl rfl rfl (by simp only [hdf, sl_]; first | done | omega) ?_))))))))
    refine vK4 rfl rfl rfl rfl (vK3 rfl rfl rfl (vQ2 tab rfl rfl (vK4 rfl rfl rfl rfl (vK4 rfl rfl rfl rfl (vQ2 tab rfl rfl (vnl (qth (vw_ret ?_))))))))
    exact ⟨⟨.inr rfl, by rw [hdf]; rfl⟩, fun _ => rfl, trivial⟩
def spoilUser (a : UserV) : UserV := { a with used := bits .xor .i64 a.used 90 }
def spoilSess (a : SessV) : SessV := { a with start := bits .xor .i64 a.start 90 }
def spoilInt (a : Int) : Int := IntKind.i64.wrap (-9 - a)
set_option maxHeartbeats 4000000 in
theorem spoil_users {V : Heap} {n i : Nat} {xs : List UserV} (hV : V i = some (.opn (userR.cells xs) 76 9)) (hx : xs.length ≤ 140737488355328) (hin : i < n) :
    Tri Tryz.prog 33 [.slice (some ⟨i, 0, none⟩) xs.length 0] n 0 V (fun u L => u = undef ∧ L = [(i, some (.opn (userR.cells (xs.map spoilUser)) 76 9))]) := by
  refine call_of_vw (K := 1) (argsI := [.slice (some ⟨0, 0, none⟩) xs.length 0]) tab Tryz.func33 rfl rfl (by simp [Tryz.f33]) [.own i] [.opn (userR.cells xs) 76 9] rfl (.own hV (ov_opn userR rfl) .nil) (by simp [ownNames, *]) (by simp [ownNames, lookNames, *]) (by simp [ownNames, *]) (al_cons (.val (rel_slice rfl rfl)) al_nil) (seen_of (sn_own sn_nil)) ?_
  refine wsq (wrg (vQ tab rfl (vnl (qth (wbk ?_)))))
  refine vw_loop_sub (fun k s => ∃ j : Int, 0 ≤ j ∧ j ≤ xs.length ∧ k = (xs.length - j).toNat ∧
      s = ⟨[(0, .slice (some ⟨0, 0, none⟩) xs.length 0), (2, .int .i64 j)], lkp [(0, .opn (userR.cells ((xs.take j.toNat).map spoilUser ++ xs.drop j.toNat)) 76 9)], 1⟩) (xs.length - 0)
    ⟨_, (sub_of (g := 1) [] (by decide) (by decide) (by repeat' first | exact ep_nil | exact ov_opn userR (by simp) | refine ep_cons rfl ?_ ?_ | exact .int _ _ | exact .bool _ | exact .string _ | exact rel_slice rfl rfl | exact rel_nil rfl rfl | exact rel_ptr rfl | exact .nilPtr | exact .nilIface | exact .nilSlice) (by repeat' first | exact hp_nil | exact ov_opn userR (by simp) | refine hp_cons rfl rfl ?_ ?_ | refine hp_void rfl rfl ?_ | exact ov_win _ | exact ov_opn _ rfl | exact ov_cells _ _ (by decide))), 0, by omega, by omega, by simp, rfl⟩ ?_
  rintro k s ⟨j, h0, h1, rfl, rfl⟩
  by_cases hj : j < (xs.length : Int)
  case neg =>
    refine wsq (wsq (wrg (vQ4 tab rfl rfl rfl rfl (vnl (qth (vcd_false rfl (by simp only [sl_]; first | done | omega) ?_))))))
    refine vw_exit (q_thenx (q_thenx (q_here ?_)))
    exact out_mk [] (.inl rfl) ⟨rfl, rfl⟩ rfl (vrel_tuple lrel_nil) (op_cons (sigma_own (a := 0) (by simp [ownNames]) rfl) rfl rfl (ov_opn userR (by rw [show j.toNat = xs.length by omega]; simp)) rfl op_nil) ⟨fun _ => by simp [lkp], trivial⟩
  obtain ⟨a, hxa⟩ := get_some h0 hj
  have hg := mapped_get (f := spoilUser) hxa
  have hi : IntKind.i64.wrap (j + 1) = j + 1 := i64_in _ (by omega)
  have hjn : (j + 1).toNat = j.toNat + 1 := by omega
  refine wsq (wsq (wrg (vQ4 tab rfl rfl rfl rfl (vnl (qth (vcd_true rfl (by simp only [hi, sl_]; first | done | omega) ?_))))))
  refine vw_skip (qth (wsq (wbk (wrg (vQ4 tab rfl rfl rfl rfl (vq_op tab rfl rfl rfl (ev_index rfl rfl rfl rfl rfl (by omega) (by omega)) ?_))))))
  refine vQ tab rfl (vq_op tab rfl rfl rfl (ev_loadcell userR rfl rfl rfl rfl rfl hg rfl) (vQ tab rfl (vq_op tab rfl rfl rfl (ev_index rfl rfl rfl rfl rfl (by omega) (by omega)) ?_)))
  refine vQ tab rfl (vs_op tab rfl rfl (ev_storecell userR rfl rfl rfl rfl rfl rfl hg (a' := spoilUser a) rfl rfl (by decide)) ?_)
  refine vnl (q_norm (qth (wrg (vQ3 tab rfl rfl rfl (vnl (qth ?_))))))
  exact ⟨(xs.length - (j + 1)).toNat, _, by omega, (sub_of (g := 1) [] (by decide) (by decide) (by repeat' first | exact ep_nil | exact ri hi.symm | exact ov_opn userR (by rw [hjn]; exact (mapped_set hxa).symm) | refine ep_cons rfl ?_ ?_ | exact .int _ _ | exact .bool _ | exact .string _ | exact rel_slice rfl rfl | exact rel_nil rfl rfl | exact rel_ptr rfl | exact .nilPtr | exact .nilIface | exact .nilSlice) (by repeat' first | exact hp_nil | exact ri hi.symm | exact ov_opn userR (by rw [hjn]; exact (mapped_set hxa).symm) | refine hp_cons rfl rfl ?_ ?_ | refine hp_void rfl rfl ?_ | exact ov_win _ | exact ov_opn _ rfl | exact ov_cells _ _ (by decide))), j + 1, by omega, by omega, rfl, rfl⟩
set_option maxHeartbeats 4000000 in
theorem spoil_sess {V : Heap} {n i : Nat} {xs : List SessV} (hV : V i = some (.opn (sessR.cells xs) 78 4)) (hx : xs.length ≤ 140737488355328) (hin : i < n) :
    Tri Tryz.prog 34 [.slice (some ⟨i, 0, none⟩) xs.length 0] n 0 V (fun u L => u = undef ∧ L = [(i, some (.opn (sessR.cells (xs.map spoilSess)) 78 4))]) := by
  refine call_of_vw (K := 1) (argsI := [.slice (some ⟨0, 0, none⟩) xs.length 0]) tab Tryz.func34 rfl rfl (by simp [Tryz.f34]) [.own i] [.opn (sessR.cells xs) 78 4] rfl (.own hV (ov_opn sessR rfl) .nil) (by simp [ownNames, *]) (by simp [ownNames, lookNames, *]) (by simp [ownNames, *]) (al_cons (.val (rel_slice rfl rfl)) al_nil) (seen_of (sn_own sn_nil)) ?_
  refine wsq (wrg (vQ tab rfl (vnl (qth (wbk ?_)))))
  refine vw_loop_sub (fun k s => ∃ j : Int, 0 ≤ j ∧ j ≤ xs.length ∧ k = (xs.length - j).toNat ∧
      s = ⟨[(0, .slice (some ⟨0, 0, none⟩) xs.length 0), (2, .int .i64 j)], lkp [(0, .opn (sessR.cells ((xs.take j.toNat).map spoilSess ++ xs.drop j.toNat)) 78 4)], 1⟩) (xs.length - 0)
    ⟨_, (sub_of (g := 1) [] (by decide) (by decide) (by repeat' first | exact ep_nil | exact ov_opn sessR (by simp) | refine ep_cons rfl ?_ ?_ | exact .int _ _ | exact .bool _ | exact .string _ | exact rel_slice rfl rfl | exact rel_nil rfl rfl | exact rel_ptr rfl | exact .nilPtr | exact .nilIface | exact .nilSlice) (by repeat' first | exact hp_nil | exact ov_opn sessR (by simp) | refine hp_cons rfl rfl ?_ ?_ | refine hp_void rfl rfl ?_ | exact ov_win _ | exact ov_opn _ rfl | exact ov_cells _ _ (by decide))), 0, by omega, by omega, by simp, rfl⟩ ?_
  rintro k s ⟨j, h0, h1, rfl, rfl⟩
  by_cases hj : j < (xs.length : Int)
  case neg =>
    refine wsq (wsq (wrg (vQ4 tab rfl rfl rfl rfl (vnl (qth (vcd_false rfl (by simp only [sl_]; first | done | omega) ?_))))))
    refine vw_exit (q_thenx (q_thenx (q_here ?_)))
    exact out_mk [] (.inl rfl) ⟨rfl, rfl⟩ rfl (vrel_tuple lrel_nil) (op_cons (sigma_own (a := 0) (by simp [ownNames]) rfl) rfl rfl (ov_opn sessR (by rw [show j.toNat = xs.length by omega]; simp)) rfl op_nil) ⟨fun _ => by simp [lkp], trivial⟩
  obtain ⟨a, hxa⟩ := get_some h0 hj
  have hg := mapped_get (f := spoilSess) hxa
  have hi : IntKind.i64.wrap (j + 1) = j + 1 := i64_in _ (by omega)
  have hjn : (j + 1).toNat = j.toNat + 1 := by omega
  refine wsq (wsq (wrg (vQ4 tab rfl rfl rfl rfl (vnl (qth (vcd_true rfl (by simp only [hi, sl_]; first | done | omega) ?_))))))
  refine vw_skip (qth (wsq (wbk (wrg (vQ4 tab rfl rfl rfl rfl (vq_op tab rfl rfl rfl (ev_index rfl rfl rfl rfl rfl (by omega) (by omega)) ?_))))))
  refine vQ tab rfl (vq_op tab rfl rfl rfl (ev_loadcell sessR rfl rfl rfl rfl rfl hg rfl) (vQ tab rfl (vq_op tab rfl rfl rfl (ev_index rfl rfl rfl rfl rfl (by omega) (by omega)) ?_)))
  refine vQ tab rfl (vs_op tab rfl rfl (ev_storecell sessR rfl rfl rfl rfl rfl rfl hg (a' := spoilSess a) rfl rfl (by decide)) ?_)
  refine vnl (q_norm (qth (wrg (vQ3 tab rfl rfl rfl (vnl (qth ?_))))))
  exact ⟨(xs.length - (j + 1)).toNat, _, by omega, (sub_of (g := 1) [] (by decide) (by decide) (by repeat' first | exact ep_nil | exact ri hi.symm | exact ov_opn sessR (by rw [hjn]; exact (mapped_set hxa).symm) | refine ep_cons rfl ?_ ?_ | exact .int _ _ | exact .bool _ | exact .string _ | exact rel_slice rfl rfl | exact rel_nil rfl rfl | exact rel_ptr rfl | exact .nilPtr | exact .nilIface | exact .nilSlice) (by repeat' first | exact hp_nil | exact ri hi.symm | exact ov_opn sessR (by rw [hjn]; exact (mapped_set hxa).symm) | refine hp_cons rfl rfl ?_ ?_ | refine hp_void rfl rfl ?_ | exact ov_win _ | exact ov_opn _ rfl | exact ov_cells _ _ (by decide))), j + 1, by omega, by omega, rfl, rfl⟩
set_option maxHeartbeats 4000000 in
theorem spoil_ints {V : Heap} {n i : Nat} {xs : List Int} (hV : V i = some (.opn ((intR .i64).cells xs) 3 1)) (hx : xs.length ≤ 140737488355328) (hin : i < n) :
    Tri Tryz.prog 36 [.slice (some ⟨i, 0, none⟩) xs.length 0] n 0 V (fun u L => u = undef ∧ L = [(i, some (.opn ((intR .i64).cells (xs.map spoilInt)) 3 1))]) := by
  refine call_of_vw (K := 1) (argsI := [.slice (some ⟨0, 0, none⟩) xs.length 0]) tab Tryz.func36 rfl rfl (by simp [Tryz.f36]) [.own i] [.opn ((intR .i64).cells xs) 3 1] rfl (.own hV (ov_opn (intR .i64) rfl) .nil) (by simp [ownNames, *]) (by simp [ownNames, lookNames, *]) (by simp [ownNames, *]) (al_cons (.val (rel_slice rfl rfl)) al_nil) (seen_of (sn_own sn_nil)) ?_
  refine wsq (wrg (vQ tab rfl (vnl (qth (wbk ?_)))))
  refine vw_loop_sub (fun k s => ∃ j : Int, 0 ≤ j ∧ j ≤ xs.length ∧ k = (xs.length - j).toNat ∧
      s = ⟨[(0, .slice (some ⟨0, 0, none⟩) xs.length 0), (2, .int .i64 j)], lkp [(0, .opn ((intR .i64).cells ((xs.take j.toNat).map spoilInt ++ xs.drop j.toNat)) 3 1)], 1⟩) (xs.length - 0)
    ⟨_, (sub_of (g := 1) [] (by decide) (by decide) (by repeat' first | exact ep_nil | exact ov_opn (intR .i64) (by simp) | refine ep_cons rfl ?_ ?_ | exact .int _ _ | exact .bool _ | exact .string _ | exact rel_slice rfl rfl | exact rel_nil rfl rfl | exact rel_ptr rfl | exact .nilPtr | exact .nilIface | exact .nilSlice) (by repeat' first | exact hp_nil | exact ov_opn (intR .i64) (by simp) | refine hp_cons rfl rfl ?_ ?_ | refine hp_void rfl rfl ?_ | exact ov_win _ | exact ov_opn _ rfl | exact ov_cells _ _ (by decide))), 0, by omega, by omega, by simp, rfl⟩ ?_
  rintro k s ⟨j, h0, h1, rfl, rfl⟩
  by_cases hj : j < (xs.length : Int)
  case neg =>
    refine wsq (wsq (wrg (vQ4 tab rfl rfl rfl rfl (vnl (qth (vcd_false rfl (by simp only [sl_]; first | done | omega) ?_))))))
    refine vw_exit (q_thenx (q_thenx (q_here ?_)))
    exact out_mk [] (.inl rfl) ⟨rfl, rfl⟩ rfl (vrel_tuple lrel_nil) (op_cons (sigma_own (a := 0) (by simp [ownNames]) rfl) rfl rfl (ov_opn (intR .i64) (by rw [show j.toNat = xs.length by omega]; simp)) rfl op_nil) ⟨fun _ => by simp [lkp], trivial⟩
  obtain ⟨a, hxa⟩ := get_some h0 hj
  have hg := mapped_get (f := spoilInt) hxa
  have hi : IntKind.i64.wrap (j + 1) = j + 1 := i64_in _ (by omega)
  have hjn : (j + 1).toNat = j.toNat + 1 := by omega
  refine wsq (wsq (wrg (vQ4 tab rfl rfl rfl rfl (vnl (qth (vcd_true rfl (by simp only [hi, sl_]; first | done | omega) ?_))))))
  refine vw_skip (qth (wsq (wbk (wrg (vQ4 tab rfl rfl rfl rfl (vq_op tab rfl rfl rfl (ev_index rfl rfl rfl rfl rfl (by omega) (by omega)) ?_))))))
  refine vq_op tab rfl rfl rfl (ev_val (intR .i64) rfl rfl rfl rfl rfl hg rfl) (vQ tab rfl (vq_op tab rfl rfl rfl (ev_index rfl rfl rfl rfl rfl (by omega) (by omega)) ?_))
  refine vs_op tab rfl rfl (ev_setv (intR .i64) rfl rfl rfl rfl rfl rfl hg (a' := spoilInt a) rfl rfl) (vnl (q_norm (qth (wrg (vQ3 tab rfl rfl rfl (vnl (qth ?_)))))))
  exact ⟨(xs.length - (j + 1)).toNat, _, by omega, (sub_of (g := 1) [] (by decide) (by decide) (by repeat' first | exact ep_nil | exact ri hi.symm | exact ov_opn (intR .i64) (by rw [hjn]; exact (mapped_set hxa).symm) | refine ep_cons rfl ?_ ?_ | exact .int _ _ | exact .bool _ | exact .string _ | exact rel_slice rfl rfl | exact rel_nil rfl rfl | exact rel_ptr rfl | exact .nilPtr | exact .nilIface | exact .nilSlice) (by repeat' first | exact hp_nil | exact ri hi.symm | exact ov_opn (intR .i64) (by rw [hjn]; exact (mapped_set hxa).symm) | refine hp_cons rfl rfl ?_ ?_ | refine hp_void rfl rfl ?_ | exact ov_win _ | exact ov_opn _ rfl | exact ov_cells _ _ (by decide))), j + 1, by omega, by omega, rfl, rfl⟩
end Go.Proofs.YtcjfidfealifhaaGreat
namespace Go.Proofs.YtcjfidfealifhaaGreat
open Go Vm IntWalk
set_option linter.unusedVariables false
set_option linter.unusedSimpArgs false
set_option maxHeartbeats 16000000
theorem spoil_state {V : Heap} {n u x a p : Nat} {s : StV} (h : OwnS V u x a p s) (hi : ∀ i ∈ [u, x, a, p], i < n) (b1 : s.users.length ≤ 140737488355328) (b2 : s.sess.length ≤ 140737488355328) (b3 : s.addrs.length ≤ 140737488355328) (b4 : s.spent.length ≤ 140737488355328) :
    Tri Tryz.prog 15 [stV u x a p s] n 0 V (fun r L => r = undef ∧ L = [(u, some (.opn (userR.cells (s.users.map spoilUser)) 76 9)), (x, some (.opn (sessR.cells (s.sess.map spoilSess)) 78 4)), (a, some (.opn (addrR.cells (s.addrs.map spoilAddr)) 80 3)), (p, some (.opn ((intR .i64).cells (s.spent.map spoilInt)) 3 1))]) := by
  obtain ⟨hu, hx, ha, hp, hn⟩ := h
  simp only [List.nodup_cons, List.mem_cons, List.not_mem_nil, or_false, not_or, List.nodup_nil, and_true, not_false_eq_true] at hn
  obtain ⟨⟨d1, d2, d3⟩, ⟨e1, e2⟩, f1⟩ := hn
  simp only [List.mem_cons, List.not_mem_nil, or_false, forall_eq_or_imp, forall_eq] at hi
  obtain ⟨l1, l2, l3, l4⟩ := hi
  refine call_of_vw (K := 4) (argsI := [.agg #[.int .i64 s.boots, .int .i64 s.epoch, .int .i64 s.next, .slice (some ⟨0, 0, none⟩) s.users.length 0, .slice (some ⟨1, 0, none⟩) s.sess.length 0, .slice (some ⟨2, 0, none⟩) s.addrs.length 0, .slice (some ⟨3, 0, none⟩) s.spent.length 0]]) tab Tryz.func15 rfl rfl (by simp [Tryz.f15]) [.own u, .own x, .own a, .own p] [.opn (userR.cells s.users) 76 9, .opn (sessR.cells s.sess) 78 4, .opn (addrR.cells s.addrs) 80 3, .opn ((intR .i64).cells s.spent) 3 1] rfl (.own hu (ov_opn userR rfl) (.own hx (ov_opn sessR rfl) (.own ha (ov_opn addrR rfl) (.own hp (ov_opn (intR .i64) rfl) .nil)))) (by simp [ownNames, *]) (by simp [ownNames, lookNames, *]) (by simp [ownNames, *]) (al_cons (ar_agg (al_cons (.val (.int _ _)) (al_cons (.val (.int _ _)) (al_cons (.val (.int _ _)) (al_cons (.val (rel_slice rfl rfl)) (al_cons (.val (rel_slice rfl rfl)) (al_cons (.val (rel_slice rfl rfl)) (al_cons (.val (rel_slice rfl rfl)) al_nil)))))))) al_nil) (seen_of (sn_own (sn_own (sn_own (sn_own sn_nil))))) ?_
  refine wsq (wrg (vN tab rfl (vnl (qth (wsq (wrg (vQ2 tab rfl rfl (vT rfl callable_33 (spoil_users rfl b1 (by decide)) ?_))))))))
  refine vnl (qth (wsq (wrg (vQ2 tab rfl rfl (vT rfl callable_34 (spoil_sess rfl b2 (by decide)) ?_)))))
  refine vnl (qth (wsq (wrg (vQ2 tab rfl rfl (vT rfl callable_35 (spoil_addrs rfl b3 (by decide)) ?_)))))
  refine vnl (qth (wrg (vQ2 tab rfl rfl (vT rfl callable_36 (spoil_ints rfl b4 (by decide)) ?_))))
  refine vnl ?_
  exact out_mk [] (.inl rfl) ⟨rfl, rfl⟩ rfl (vrel_tuple lrel_nil) (op_cons (sigma_own (a := 0) (by simp [ownNames, *]) rfl) rfl rfl (ov_opn userR rfl) rfl (op_cons (sigma_own (a := 1) (by simp [ownNames, *]) rfl) rfl rfl (ov_opn sessR rfl) rfl (op_cons (sigma_own (a := 2) (by simp [ownNames, *]) rfl) rfl rfl (ov_opn addrR rfl) rfl (op_cons (sigma_own (a := 3) (by simp [ownNames, *]) rfl) rfl rfl (ov_opn (intR .i64) rfl) rfl op_nil)))) (told_of (by simp [ownNames]))
def hasN (ns : List Int) (k : Int) : Bool := ns.any fun y => y == k
def b2n (b : Bool) : Nat := if b then 1 else 0
theorem b2n_le (b : Bool) : b2n b ≤ 1 := by cases b <;> decide
def cntN (ns : List Int) : Nat := b2n (hasN ns 0) + b2n (hasN ns 1) + b2n (hasN ns 2) + b2n (hasN ns 3) + b2n (hasN ns 4) + b2n (hasN ns 5) + b2n (hasN ns 6) + b2n (hasN ns 7)
theorem cntN_le (ns : List Int) : cntN ns ≤ 8 := by
  unfold cntN
  have h0 := b2n_le (hasN ns 0)
  have h1 := b2n_le (hasN ns 1)
  have h2 := b2n_le (hasN ns 2)
  have h3 := b2n_le (hasN ns 3)
  have h4 := b2n_le (hasN ns 4)
  have h5 := b2n_le (hasN ns 5)
  have h6 := b2n_le (hasN ns 6)
  have h7 := b2n_le (hasN ns 7)
  omega
theorem hasN_put {us : List UserV} {u : UserV} {k : Int} : hasN ((userPut us u).map UserV.user) k = (u.user == k || hasN (us.map UserV.user) k) := by
  unfold hasN userPut
  rw [List.any_map, List.any_map, List.any_append, List.any_cons]
  conv => rhs; rw [← List.take_append_drop (gtAt us u.user) us, List.any_append]
  simp only [Function.comp]
  cases (us.take (gtAt us u.user)).any _ <;> cases (us.drop (gtAt us u.user)).any _ <;> simp
theorem cnt_put {us : List UserV} {u : UserV} (h0 : 0 ≤ u.user) (h1 : u.user < 8) (hn : hasN (us.map UserV.user) u.user = false) : cntN ((userPut us u).map UserV.user) = cntN (us.map UserV.user) + 1 := by
  unfold cntN
  simp only [hasN_put]
  rcases (show u.user = 0 ∨ u.user = 1 ∨ u.user = 2 ∨ u.user = 3 ∨ u.user = 4 ∨ u.user = 5 ∨ u.user = 6 ∨ u.user = 7 by omega) with h | h | h | h | h | h | h | h
  all_goals
    rw [h] at hn ⊢
    simp only [hn, show ∀ b, (false || b) = b from fun b => rfl, show ((0 : Int) == 0) = true from rfl, show ((1 : Int) == 1) = true from rfl, show ((2 : Int) == 2) = true from rfl, show ((3 : Int) == 3) = true from rfl, show ((4 : Int) == 4) = true from rfl, show ((5 : Int) == 5) = true from rfl, show ((6 : Int) == 6) = true from rfl, show ((7 : Int) == 7) = true from rfl, Bool.true_or]
    simp [b2n]
    try omega
theorem does_cnt {c : ConfV} {s s' : StV} {e : EventV} (hm : evtMay e = true) (h : doesE c s e = some s') : s'.users.length + cntN (s.users.map UserV.user) = s.users.length + cntN (s'.users.map UserV.user) := by
  unfold doesE at h
  split at h
  · unfold bootE at h; split at h
    · cases h
    · split at h
      · cases h; rfl
      · cases h
  split at h
  · rename_i hk
    unfold userE at h; split at h
    · cases h
    · rename_i hn
      cases h
      have hu : 0 ≤ e.user ∧ e.user < 8 := by
        constructor
        · have := evt_may_nums hm e.user (by unfold evtNums; simp [hk])
          exact (okN_iff.1 this).1
        · unfold evtMay at hm; simp only [Bool.and_eq_true, decide_eq_true_eq] at hm
          omega
      have hne : hasN (s.users.map UserV.user) e.user = false := by
        unfold userAt at hn
        rw [List.findIdx?_eq_none_iff] at hn
        unfold hasN
        rw [List.any_eq_false]
        intro y hy
        obtain ⟨z, hz, rfl⟩ := List.mem_map.1 hy
        have := hn z hz; simpa using this
      have h1 := cnt_put (u := ⟨e.user, e.a, e.b, e.c, 0, 0, 0, 0, 0⟩) hu.1 hu.2 hne
      have h2 : (userPut s.users ⟨e.user, e.a, e.b, e.c, 0, 0, 0, 0, 0⟩).length = s.users.length + 1 := by simp only [userPut, List.length_append, List.length_take, List.length_cons, List.length_drop]; omega
      simp only
      omega
  split at h
  · unfold leaseE at h; split at h
    · cases h; rfl
    · cases h
  split at h
  · unfold closeE at h; split at h
    · cases h
    · split at h
      · cases h
      · split at h
        · cases h
          show (useU _ _ _).length + _ = _ + cntN ((useU _ _ _).map UserV.user)
          rw [useU_map, useU_len]
        · cases h
  split at h
  · split at h
    · cases h; rfl
    · cases h
  split at h
  · unfold spendE at h; split at h
    · cases h
    · cases h; rfl
  · cases hk1 : userAt s.users e.user with
    | none => rw [ofE_none hk1] at h; cases h
    | some j =>
      have hjl := (user_found hk1).1
      have hj : s.users[j]? = some s.users[j] := List.getElem?_eq_getElem hjl
      rw [ofE_eq hk1 hj] at h
      obtain ⟨w, hw, rfl⟩ := Option.map_eq_some_iff.1 h
      show (s.users.set j w).length + _ = _ + cntN ((s.users.set j w).map UserV.user)
      rw [map_set_same hj (ofU_user hw), List.length_set]
theorem does_sess {c : ConfV} {s s' : StV} {e : EventV} (hc : confMay c = true) (h : doesE c s e = some s') : s'.sess.length ≤ s.sess.length ∨ s'.sess.length ≤ 8 := by
  have hc8 : c.sessions ≤ 8 := by unfold confMay betw at hc; simp only [Bool.and_eq_true, decide_eq_true_eq] at hc; omega
  unfold doesE at h
  split at h
  · unfold bootE at h; split at h
    · cases h
    · split at h
      · cases h; exact .inl (Nat.zero_le _)
      · cases h
  split at h
  · unfold userE at h; split at h
    · cases h
    · cases h; exact .inl (Nat.le_refl _)
  split at h
  · unfold leaseE at h; split at h
    · rename_i hq; cases h; right; simp; omega
    · cases h
  split at h
  · unfold closeE at h; split at h
    · cases h
    · split at h
      · cases h
      · split at h
        · cases h; left
          show (List.eraseIdx _ _).length ≤ _
          rw [List.length_eraseIdx]; split <;> omega
        · cases h
  split at h
  · split at h
    · cases h; exact .inl (Nat.le_refl _)
    · cases h
  split at h
  · unfold spendE at h; split at h
    · cases h
    · cases h; exact .inl (Nat.le_refl _)
  · cases hk1 : userAt s.users e.user with
    | none => rw [ofE_none hk1] at h; cases h
    | some j =>
      have hjl := (user_found hk1).1
      have hj : s.users[j]? = some s.users[j] := List.getElem?_eq_getElem hjl
      rw [ofE_eq hk1 hj] at h
      obtain ⟨w, hw, rfl⟩ := Option.map_eq_some_iff.1 h
      exact .inl (Nat.le_refl _)
def Wide (s : StV) (k : Nat) (t : StV) : Prop := t.users.length ≤ s.users.length + cntN (t.users.map UserV.user) ∧ (t.sess.length ≤ s.sess.length ∨ t.sess.length ≤ 8) ∧ t.addrs.length ≤ s.addrs.length ∧ t.spent.length ≤ s.spent.length + k
theorem wide_self {s : StV} : Wide s 0 s := ⟨by omega, .inl (by omega), by omega, by omega⟩
theorem wide_step {c : ConfV} {s t t' : StV} {e : EventV} {k : Nat} (h : Wide s k t) (ha : applyS c t e = (t', 0)) : Wide s (k + 1) t' := by
  unfold applyS at ha
  split at ha
  · rename_i hC
    unfold applyC at hC; simp only [Bool.and_eq_true] at hC
    split at ha
    · rename_i s2 hE
      cases ha
      obtain ⟨h1, h2, h3, h4⟩ := h
      have q1 := does_cnt hC.1.2 hE
      have q2 := does_sess hC.1.1 hE
      obtain ⟨q3, q4, q5, q6⟩ := does_len hE
      exact ⟨by omega, by omega, by omega, by omega⟩
    · cases ha
  · cases ha
theorem wide_len {s t : StV} {k : Nat} (h : Wide s k t) : t.users.length ≤ s.users.length + 8 := by
  have := cntN_le (t.users.map UserV.user)
  have := h.1; omega
end Go.Proofs.YtcjfidfealifhaaGreat
namespace Go.Proofs.YtcjfidfealifhaaGreat
open Go Vm IntWalk
set_option linter.unusedVariables false
set_option linter.unusedSimpArgs false
set_option maxHeartbeats 16000000
theorem goS_fit {c : ConfV} : ∀ (xs : List EventV) (k : Nat) (s : StV), Fit k s → Fit (k + xs.length) (goS c s xs).1
  | [], k, s, h => h
  | e :: r, k, s, h => by
    obtain ⟨t, f, ha⟩ : ∃ t f, applyS c s e = (t, f) := ⟨_, _, rfl⟩
    rw [goS_cons, ha, goS_if]
    have ht : Fit (k + 1) t := by have := apply_fit (c := c) (e := e) h; rw [ha] at this; exact this
    by_cases hf : f = 0
    · rw [if_pos hf]
      have := goS_fit (c := c) r (k + 1) t ht
      rw [List.length_cons, show k + (r.length + 1) = k + 1 + r.length by omega]; exact this
    · rw [if_neg hf]; exact fit_st0
theorem allS_fit {c : ConfV} {xs : List EventV} : Fit xs.length (allS c xs).1 := by
  obtain ⟨s, f, hn⟩ : ∃ s f, newS c.addresses = (s, f) := ⟨_, _, rfl⟩
  rw [allS_eq hn]
  have hs : Fit 0 s := by have := @new_fit c.addresses; rw [hn] at this; exact this
  by_cases hf : f = 0
  · rw [if_pos hf]; have := goS_fit (c := c) xs 0 s hs; rw [Nat.zero_add] at this; exact this
  · rw [if_neg hf]; exact fit_st0
theorem fit_lens {k : Nat} {s : StV} (h : Fit k s) (hk : k ≤ 2199023255488) : s.users.length ≤ 8 ∧ s.sess.length ≤ 2199023255488 ∧ s.addrs.length ≤ 16 ∧ s.spent.length ≤ 2199023255488 :=
  ⟨srt_eight h.1, Nat.le_trans h.2.1 hk, h.2.2.1, Nat.le_trans h.2.2.2 hk⟩
end Go.Proofs.YtcjfidfealifhaaGreat
namespace Go.Proofs.YtcjfidfealifhaaGreat.Vm
open Go Go.RowKit
set_option linter.unusedVariables false
section
variable {P : Program} {τ : Nat → Option TI} {H : Type} {enc : TypeId × Value → H} {w : World} {base : Nat} {spare : Nat → Bool} {held : Bool}
theorem slice_win (hτ : Tab P τ) {t e : TypeId} {te : TI} {d sz : Nat} {ls : List Leaf} {fuel : Nat} {v : Value} {r : Reach} {b : Nat} {dd : DataW H} {ps : List MemPlace} (ht : P.underlying t = some (.slice e)) (he : τ e = some te) (hls : flat τ d e = some ls)
    (hsz : ls.length = te.size) (hz : te.size = sz) (hp : 0 < sz) (hval : Value.okWide P w r b t v) (h : DataW.trod enc P w base spare held fuel t [v] = some (dd, ps)) :
    ∃ (a : Option (Nat × Nat × Nat)) (len : Nat) (cs : List Value), (Flat cs → WinOk w ⟨a, cs, sz⟩) ∧ (∀ {L : List Win} {i : Nat}, L[i]? = some ⟨a, cs, sz⟩ → VRel (renOf L) (.slice (some ⟨i, 0, none⟩) len 0) v) ∧ RowsOk ls len cs ∧
      ((∃ es rs, dd = .slice es rs ∧ es.length = len) ∨ len = 0) := by
  have hval' := hval
  obtain ⟨a, len, cap, rfl⟩ := Go.WideShapes.okWide_slice ht hval
  rcases slice_of_trod (x := (dd, ps)) hτ ht he hls hsz hval' h with h0 | ⟨bl, off, len', cap', cs, c, el, fr, h1, hl, hm, hb, hw, hr, hd⟩
  · cases h0
    exact ⟨none, 0, [], fun _ => win_none hp, fun hL => rel_none hL, ⟨by simp, fun i hi => by omega⟩, .inr rfl⟩
  · cases h1
    exact ⟨some (bl, off, cap), len, cs, fun hf => win_at hp hb hw hf, fun hL => rel_at hL hp hl, hr, .inl hd⟩
theorem weights_part {ts : List TypeId} {ds parts : List (DataW H)} {j : Nat} {t : TypeId} {fs : Array Field} (h : (DataW.weightsEach P ts ds).all (· ≤ reachBytes) = true) (ht : ts[j]? = some t) (hd : ds[j]? = some (.agg parts)) (hu : P.underlying t = some (.struct fs)) :
    (DataW.weightsEach P (fs.toList.map (·.type)) parts).all (· ≤ reachBytes) = true := by
  rw [List.all_eq_true] at h ⊢
  intro x hx
  exact h x (DataW.weights_mem_each ht hd x (by simp only [DataW.weights, hu]; exact hx))
theorem okWide_at {t u e : TypeId} {fs : Array Field} {ts : List TypeId} {cs : List Value} {i b : Nat} {v : Value} {r : Reach} (ht : P.underlying t = some (.struct fs)) (h : Value.okWide P w r b t (.agg cs.toArray)) (hts : P.cellTypes P.depth t = some ts) (hl : cs.length = ts.length) (hi : cs[i]? = some v) (hu : ts[i]? = some u)
    (hs : P.underlying u = some (.slice e)) : Value.okWide P w r b u v := by
  unfold Value.okWide at h
  rw [ht] at h
  obtain ⟨c, hc, _, ts', h1, _, h2⟩ := h
  cases hc
  rw [hts] at h1; cases h1
  have hlt := (List.getElem?_eq_some_iff.1 hu).1
  obtain ⟨u', h3, h4⟩ := h2 i v (by simpa using hi)
  rw [Nat.mod_eq_of_lt hlt, hu] at h3; cases h3
  unfold Value.okWide
  rw [hs]; exact h4
theorem bound_of {ts : List TypeId} {ds : List (DataW H)} {j : Nat} {t e : TypeId} {len by_ : Nat} {dd : DataW H} (hsz : (DataW.weightsEach P ts ds).all (· ≤ reachBytes) = true) (ht : ts[j]? = some t) (hd : ds[j]? = some dd) (hu : P.underlying t = some (.slice e)) (hb : P.bytesOf e = by_)
    (h : (∃ es rs, dd = .slice es rs ∧ es.length = len) ∨ len = 0) : len * by_ ≤ 140737488351232 := by
  rcases h with ⟨es, rs, rfl, hl⟩ | h
  · exact slice_bound hsz ht hd hu hl hb
  · rw [h]; omega
end
end Go.Proofs.YtcjfidfealifhaaGreat.Vm
namespace Go.Proofs.YtcjfidfealifhaaGreat
open Go Vm IntWalk
set_option linter.unusedVariables false
set_option linter.unusedSimpArgs false
set_option maxHeartbeats 16000000
set_option maxRecDepth 8000 in
theorem States_law (cf : ConfV) (s : StV) (es : List EventV) (ad : Int) (hb1 : s.users.length * 72 ≤ 140737488351232) (hb2 : s.sess.length * 32 ≤ 140737488351232) (hb3 : s.addrs.length * 24 ≤ 140737488351232) (hb4 : s.spent.length * 8 ≤ 140737488351232) (hb : es.length * 64 ≤ 140737488351232) :
    Tri Tryz.prog 3 [confV cf, stV 0 1 2 3 s, .slice (some ⟨4, 0, none⟩) es.length 0, .int .i64 ad] 5 0 (lkp (oHeap 0 (wObjs [(userR.cells s.users, 9), (sessR.cells s.sess, 4), (addrR.cells s.addrs, 3), ((intR .i64).cells s.spent, 1), (evtR.cells es, 8)]))) (fun u L => u = .bool true ∧ L = []) := by
  refine law_of_vw tab Tryz.func3 rfl rfl (by simp [Tryz.f3]) 5 [(userR.cells s.users, 9), (sessR.cells s.sess, 4), (addrR.cells s.addrs, 3), ((intR .i64).cells s.spent, 1), (evtR.cells es, 8)] rfl
    (by intro x hx; simp only [List.mem_cons, List.not_mem_nil, or_false] at hx; rcases hx with rfl | rfl | rfl | rfl | rfl
        · exact userR.flat_cells _
        · exact sessR.flat_cells _
        · exact addrR.flat_cells _
        · exact (intR .i64).flat_cells _
        · exact evtR.flat_cells _)
    (lrel_cons (confRel cf) (lrel_cons (vrel_agg (lrel_cons (.int _ _) (lrel_cons (.int _ _) (lrel_cons (.int _ _) (lrel_cons (rel_slice rfl rfl) (lrel_cons (rel_slice rfl rfl) (lrel_cons (rel_slice rfl rfl) (lrel_cons (rel_slice rfl rfl) lrel_nil)))))))) (lrel_cons (rel_slice rfl rfl) (lrel_cons (.int _ _) lrel_nil)))) (.bool _) ?_
  have hel : es.length ≤ 2199023255488 := by omega
  obtain ⟨A, f, hA⟩ : ∃ A f, newS ad = (A, f) := ⟨_, _, rfl⟩
  obtain ⟨P, g, hP⟩ : ∃ P g, allS cf es = (P, g) := ⟨_, _, rfl⟩
  obtain ⟨A1, A2, A3, A4⟩ := fit_lens (s := A) (k := 0) (by have := @new_fit ad; rw [hA] at this; exact this) (by omega)
  obtain ⟨P1, P2, P3, P4⟩ := fit_lens (s := P) (by have := @allS_fit cf es; rw [hP] at this; exact this) hel
  refine wsq (wrg (vN tab rfl (vN tab rfl (vQ tab rfl (vnl (qth (wsq (wrg (vQ tab rfl (vT rfl callable_4 (snew_as _ hA) (vQ3 tab rfl rfl rfl (vN tab rfl (vS tab rfl (vQ tab rfl (vnl (qth (wsq (wrg (vQ tab rfl (vT rfl callable_5 (refnews_as _ hA) (vQ tab rfl ?_)))))))))))))))))))))
  refine vQ2 tab rfl rfl (vN tab rfl (vS tab rfl (vQ tab rfl (vnl (qth (wsq (wrg (vQ tab rfl (vT rfl callable_6 (lend_evts (looks_win evtR rfl rfl) hb) (vQ tab rfl (vnl (qth (wsq (wrg (vQ2 tab rfl rfl (vT rfl callable_7 (all_any hP hel (looks_front evtR (xs := es) rfl rfl)) (vQ3 tab rfl rfl rfl (vN tab rfl (vS tab rfl ?_)))))))))))))))))))
  refine vQ tab rfl (vnl (qth (wsq (wrg (vQ2 tab rfl rfl (vT rfl callable_8 (refall_any hP hel (looks_win evtR rfl rfl)) (vQ3 tab rfl rfl rfl (vN tab rfl (vS tab rfl (vQ tab rfl (vnl (qth (wsq (wsq (wrg (vQ2 tab rfl rfl (vR rfl callable_9 (same_state (s := A) (t := A) (looks_opn userR rfl rfl) (looks_opn sessR rfl rfl) (looks_opn addrR rfl rfl) (looks_opn (intR .i64) rfl rfl) (looks_opn userR rfl rfl) (looks_opn sessR rfl rfl) (looks_opn addrR rfl rfl) (looks_opn (intR .i64) rfl rfl) (by omega) (by omega) (by omega) (by omega) (by omega) (by omega) (by omega) (by omega)) ?_)))))))))))))))))
  refine vQ2 tab rfl rfl (vgd_op false rfl rfl rfl (by simp only [eq_self, decide_true, bne_self_eq_false, sl_]; first | done | omega) ?_)
  refine vQ tab rfl (vF rfl callable_10 (num_fun _) (vQ4 tab rfl rfl rfl rfl (vgd_op false rfl rfl rfl (by simp only [eq_self, decide_true, bne_self_eq_false, sl_]; first | done | omega) ?_)))
  refine vQ2 tab rfl rfl (vR rfl callable_9 (same_state (s := P) (t := P) (looks_opn userR rfl rfl) (looks_opn sessR rfl rfl) (looks_opn addrR rfl rfl) (looks_opn (intR .i64) rfl rfl) (looks_opn userR rfl rfl) (looks_opn sessR rfl rfl) (looks_opn addrR rfl rfl) (looks_opn (intR .i64) rfl rfl) (by omega) (by omega) (by omega) (by omega) (by omega) (by omega) (by omega) (by omega)) ?_)
  refine vQ3 tab rfl rfl rfl (vgd_op false rfl rfl rfl (by simp only [eq_self, decide_true, bne_self_eq_false, sl_]; first | done | omega) ?_)
  refine vQ tab rfl (vF rfl callable_10 (num_fun _) (vQ4 tab rfl rfl rfl rfl (vgd_op false rfl rfl rfl (by simp only [eq_self, decide_true, bne_self_eq_false, sl_]; first | done | omega) ?_)))
  refine vQ2 tab rfl rfl (vR rfl callable_11 (kept_evts (p := ⟨0, 0, 0, 0, 0, 0, 0, 77777⟩) (q := ⟨0, 0, 0, 0, 0, 0, 0, 77777⟩) rfl (looks_win evtR (xs := es) rfl rfl) (by omega) (by omega) (by simp [lookNames])) ?_)
  refine vQ2 tab rfl rfl (vnl (qth (vcd_false rfl (by simp only [eq_self, decide_true, bne_self_eq_false, sl_]; first | done | omega) ?_)))
  refine vw_skip (qth (wsq (vw_draw mixed (dq_op tab rfl rfl rfl rfl (dt_op [0, 1, 2, 3, 6] rfl rfl rfl rfl rfl callable_12 (lawcopy_tri (s := s) (looks_win userR rfl rfl) (looks_win sessR rfl rfl) (looks_win addrR rfl rfl) (looks_win (intR .i64) rfl rfl) (by omega) (by omega) (by omega) (by omega)) ?_)))))
  refine dq_op tab rfl rfl rfl rfl (dt_op [0, 1, 2, 3, 6] rfl rfl rfl rfl rfl callable_12 (lawcopy_tri (s := s) (looks_win userR rfl rfl) (looks_win sessR rfl rfl) (looks_win addrR rfl rfl) (looks_win (intR .i64) rfl rfl) (by omega) (by omega) (by omega) (by omega)) ?_)
  refine dn_op tab rfl rfl rfl rfl (dn_op tab rfl rfl rfl rfl (ds_op tab rfl rfl rfl rfl (ds_op tab rfl rfl rfl rfl (vd_nil (by kernel_rfl) ?_))))
  refine qth (wsq (wsq (wrg (vQ tab rfl (vnl (qth (wbk ?_)))))))
  refine vw_loop_sub (fun m st => ∃ (j : Int) (t : StV), 0 ≤ j ∧ j ≤ es.length ∧ j ≤ 60 ∧ Wide s j.toNat t ∧ m = (60 - j).toNat ∧
      st = ⟨[(2, .slice (some ⟨4, 0, none⟩) es.length 0), (4, .pointer (some ⟨5, 0, none⟩)), (18, .pointer (some ⟨6, 0, none⟩)), (19, .pointer (some ⟨7, 0, none⟩)), (20, .int .i64 j)],
        lkp [(4, .win (evtR.cells es) 8), (5, confO cf), (6, stO 8 9 10 11 t), (7, stO 12 13 14 15 t), (8, .opn (userR.cells t.users) 76 9), (9, .opn (sessR.cells t.sess) 78 4), (10, .opn (addrR.cells t.addrs) 80 3), (11, .opn ((intR .i64).cells t.spent) 3 1), (12, .opn (userR.cells t.users) 76 9), (13, .opn (sessR.cells t.sess) 78 4), (14, .opn (addrR.cells t.addrs) 80 3), (15, .opn ((intR .i64).cells t.spent) 3 1)], 16⟩) (60 - 0)
    ⟨_, (sub_of (g := 5) [5, 36, 37, 28, 29, 30, 31, 32, 33, 34, 35] (by decide) (by decide) (by repeat' first | exact ep_nil | exact ov_conf rfl | exact ov_st (rel_slice rfl rfl) (rel_slice rfl rfl) (rel_slice rfl rfl) (rel_slice rfl rfl) | refine ep_cons rfl ?_ ?_ | exact .int _ _ | exact .bool _ | exact .string _ | exact rel_slice rfl rfl | exact rel_nil rfl rfl | exact rel_ptr rfl | exact .nilPtr | exact .nilIface | exact .nilSlice) (by repeat' first | exact hp_nil | exact ov_conf rfl | exact ov_st (rel_slice rfl rfl) (rel_slice rfl rfl) (rel_slice rfl rfl) (rel_slice rfl rfl) | refine hp_cons rfl rfl ?_ ?_ | refine hp_void rfl rfl ?_ | exact ov_win _ | exact ov_opn _ rfl | exact ov_cells _ _ (by decide))), 0, s, by omega, by omega, by omega, wide_self, by omega, rfl⟩ ?_
  rintro m st ⟨j, t, g0, g1, g2, hw, rfl, rfl⟩
  have w1 := wide_len hw
  obtain ⟨w0, w2, w3, w4⟩ := hw
  by_cases hj : j < (es.length : Int) ∧ j < 60
  case neg =>
    rcases (show ¬ j < (es.length : Int) ∨ (j < (es.length : Int) ∧ ¬ j < 60) by omega) with hc | hc
    all_goals
      first
        | refine wsq (wsq (wrg (vQ4 tab rfl rfl rfl rfl (vQ tab rfl (vgd_op false rfl rfl rfl (by simp only [eq_self, decide_true, sl_]; first | done | omega) ?_)))))
          refine vK2 rfl rfl (vQ tab rfl (vnl (qth (vc_false rfl (vw_exit (q_thenx (q_thenx (q_here (qth (wsq (wrg (vF rfl callable_16 (state_awake) (vQ tab rfl (vnl (qth (vw_ret ?_))))))))))))))))
        | refine wsq (wsq (wrg (vQ4 tab rfl rfl rfl rfl (vQ tab rfl (vgd_op true rfl rfl rfl (by simp only [eq_self, decide_true, sl_]; first | done | omega) ?_)))))
          refine vQ3 tab rfl rfl rfl (vnl (qth (vcd_false rfl (by simp only [eq_self, decide_true, sl_]; first | done | omega) ?_)))
          refine vw_exit (q_thenx (q_thenx (q_here (qth (wsq (wrg (vF rfl callable_16 (state_awake) (vQ tab rfl (vnl (qth (vw_ret ?_)))))))))))
      exact ⟨.inr rfl, rfl⟩
  obtain ⟨hj1, hj2⟩ := hj
  obtain ⟨x, hx⟩ := get_some g0 hj1
  have hi : IntKind.i64.wrap (j + 1) = j + 1 := i64_in _ (by omega)
  have hjn : (j + 1).toNat = j.toNat + 1 := by omega
  obtain ⟨t', r, ha⟩ : ∃ t' r, applyS cf t x = (t', r) := ⟨_, _, rfl⟩
  by_cases hr : r = 0
  case neg =>
    have hrn : (r == 0) = false := by simpa using hr
    obtain rfl : t' = st0 := by
      unfold applyS at ha
      split at ha
      · split at ha
        · exact absurd (Prod.mk.inj ha).2.symm hr
        · exact (Prod.mk.inj ha).1.symm
      · exact (Prod.mk.inj ha).1.symm
    refine wsq (wsq (wrg (vQ4 tab rfl rfl rfl rfl (vQ tab rfl (vgd_op true rfl rfl rfl (by simp only [eq_self, decide_true, bne_self_eq_false, hrn, sl_]; first | done | omega) ?_)))))
    refine vQ3 tab rfl rfl rfl (vnl (qth (vcd_true rfl (by simp only [eq_self, decide_true, bne_self_eq_false, hrn, sl_]; first | done | omega) ?_)))
    refine vw_skip (qth (wsq (wbk (wsq (vw_draw mixed (dq_op tab rfl rfl rfl rfl (dq_op tab rfl rfl rfl rfl (dq_op tab rfl rfl rfl rfl (dq_op tab rfl rfl rfl rfl (dq_op tab rfl rfl (ev_index rfl rfl rfl rfl rfl (by omega) (by omega)) (ev_index rfl rfl rfl rfl rfl (by omega) (by omega)) ?_))))))))))
    refine dq_op tab rfl rfl (ev_loadrow evtR rfl rfl rfl rfl rfl rfl hx) (ev_loadrow evtR rfl rfl rfl rfl rfl rfl hx) (dt_op [5, 8, 9, 10, 11] rfl rfl rfl rfl rfl callable_13 (apply_any ha (looks_opn userR rfl rfl) (looks_opn sessR rfl rfl) (looks_opn addrR rfl rfl) (looks_opn (intR .i64) rfl rfl) (by omega) (by omega) (by omega) (by omega)) ?_)
    refine dq_op tab rfl rfl rfl rfl (dq_op tab rfl rfl rfl rfl (dq_op tab rfl rfl rfl rfl (dn_op tab rfl rfl rfl rfl (ds_op tab rfl rfl rfl rfl (dq_op tab rfl rfl rfl rfl (vd_nil (by kernel_rfl) ?_))))))
    refine qth (wsq (vw_draw mixed (dq_op tab rfl rfl rfl rfl (dq_op tab rfl rfl rfl rfl (dq_op tab rfl rfl rfl rfl (dq_op tab rfl rfl rfl rfl (dq_op tab rfl rfl (ev_index rfl rfl rfl rfl rfl (by omega) (by omega)) (ev_index rfl rfl rfl rfl rfl (by omega) (by omega)) ?_)))))))
    refine dq_op tab rfl rfl (ev_loadrow evtR rfl rfl rfl rfl rfl rfl hx) (ev_loadrow evtR rfl rfl rfl rfl rfl rfl hx) (dt_op [5, 12, 13, 14, 15] rfl rfl rfl rfl rfl callable_14 (refapply_any ha (looks_opn userR rfl rfl) (looks_opn sessR rfl rfl) (looks_opn addrR rfl rfl) (looks_opn (intR .i64) rfl rfl) (by omega) (by omega) (by omega) (by omega)) ?_)
    refine dq_op tab rfl rfl rfl rfl (dq_op tab rfl rfl rfl rfl (dq_op tab rfl rfl rfl rfl (dn_op tab rfl rfl rfl rfl (ds_op tab rfl rfl rfl rfl (dq_op tab rfl rfl rfl rfl (vd_nil (by kernel_rfl) ?_))))))
    refine qth (wsq (wsq (wrg (vQ2 tab rfl rfl (vR rfl callable_9 (same_state (s := st0) (t := st0) (looks_opn userR rfl rfl) (looks_opn sessR rfl rfl) (looks_opn addrR rfl rfl) (looks_opn (intR .i64) rfl rfl) (looks_opn userR rfl rfl) (looks_opn sessR rfl rfl) (looks_opn addrR rfl rfl) (looks_opn (intR .i64) rfl rfl) (by decide) (by decide) (by decide) (by decide) (by decide) (by decide) (by decide) (by decide)) ?_)))))
    refine vQ3 tab rfl rfl rfl (vF rfl callable_10 (num_fun _) (vQ4 tab rfl rfl rfl rfl (vgd_op false rfl rfl rfl (by simp only [eq_self, decide_true, bne_self_eq_false, hrn, sl_]; first | done | omega) ?_)))
    refine vQ2 tab rfl rfl (vR rfl callable_9 (same_state (s := t) (t := t) (looks_opn userR rfl rfl) (looks_opn sessR rfl rfl) (looks_opn addrR rfl rfl) (looks_opn (intR .i64) rfl rfl) (looks_opn userR rfl rfl) (looks_opn sessR rfl rfl) (looks_opn addrR rfl rfl) (looks_opn (intR .i64) rfl rfl) (by omega) (by omega) (by omega) (by omega) (by omega) (by omega) (by omega) (by omega)) ?_)
    refine vQ2 tab rfl rfl (vnl (qth (vcd_false rfl (by simp only [eq_self, decide_true, bne_self_eq_false, hrn, sl_]; first | done | omega) ?_)))
    refine vw_skip (qth (wsq (wrg (vQ2 tab rfl rfl (vnl (qth (vcd_false rfl (by simp only [eq_self, decide_true, bne_self_eq_false, hrn, sl_]; first | done | omega) ?_)))))))
    refine vw_skip (q_norm (qth (wrg (vQ3 tab rfl rfl rfl (vnl (qth ?_))))))
    exact ⟨(60 - (j + 1)).toNat, _, by omega, (sub_of (g := 5) [5, 6, 7, 8, 9, 10, 11, 12, 13, 14, 15] (by decide) (by decide) (by repeat' first | exact ep_nil | exact ri hi.symm | exact ov_conf rfl | exact ov_st (rel_slice rfl rfl) (rel_slice rfl rfl) (rel_slice rfl rfl) (rel_slice rfl rfl) | refine ep_cons rfl ?_ ?_ | exact .int _ _ | exact .bool _ | exact .string _ | exact rel_slice rfl rfl | exact rel_nil rfl rfl | exact rel_ptr rfl | exact .nilPtr | exact .nilIface | exact .nilSlice) (by repeat' first | exact hp_nil | exact ri hi.symm | exact ov_conf rfl | exact ov_st (rel_slice rfl rfl) (rel_slice rfl rfl) (rel_slice rfl rfl) (rel_slice rfl rfl) | refine hp_cons rfl rfl ?_ ?_ | refine hp_void rfl rfl ?_ | exact ov_win _ | exact ov_opn _ rfl | exact ov_cells _ _ (by decide))), j + 1, t, by omega, by omega, by omega, ⟨w0, w2, w3, by omega⟩, by omega, rfl⟩
  subst hr
  have hw2 : Wide s (j.toNat + 1) t' := wide_step ⟨w0, w2, w3, w4⟩ ha
  have v1 := wide_len hw2
  obtain ⟨v0, v2, v3, v4⟩ := hw2
  refine wsq (wsq (wrg (vQ4 tab rfl rfl rfl rfl (vQ tab rfl (vgd_op true rfl rfl rfl (by simp only [eq_self, decide_true, bne_self_eq_false, sl_]; first | done | omega) ?_)))))
  refine vQ3 tab rfl rfl rfl (vnl (qth (vcd_true rfl (by simp only [eq_self, decide_true, bne_self_eq_false, sl_]; first | done | omega) ?_)))
  refine vw_skip (qth (wsq (wbk (wsq (vw_draw mixed (dq_op tab rfl rfl rfl rfl (dq_op tab rfl rfl rfl rfl (dq_op tab rfl rfl rfl rfl (dq_op tab rfl rfl rfl rfl (dq_op tab rfl rfl (ev_index rfl rfl rfl rfl rfl (by omega) (by omega)) (ev_index rfl rfl rfl rfl rfl (by omega) (by omega)) ?_))))))))))
  refine dq_op tab rfl rfl (ev_loadrow evtR rfl rfl rfl rfl rfl rfl hx) (ev_loadrow evtR rfl rfl rfl rfl rfl rfl hx) (dt_op [5, 8, 9, 10, 11] rfl rfl rfl rfl rfl callable_13 (apply_any ha (looks_opn userR rfl rfl) (looks_opn sessR rfl rfl) (looks_opn addrR rfl rfl) (looks_opn (intR .i64) rfl rfl) (by omega) (by omega) (by omega) (by omega)) ?_)
  refine dq_op tab rfl rfl rfl rfl (dq_op tab rfl rfl rfl rfl (dq_op tab rfl rfl rfl rfl (dn_op tab rfl rfl rfl rfl (ds_op tab rfl rfl rfl rfl (dq_op tab rfl rfl rfl rfl (vd_nil (by kernel_rfl) ?_))))))
  refine qth (wsq (vw_draw mixed (dq_op tab rfl rfl rfl rfl (dq_op tab rfl rfl rfl rfl (dq_op tab rfl rfl rfl rfl (dq_op tab rfl rfl rfl rfl (dq_op tab rfl rfl (ev_index rfl rfl rfl rfl rfl (by omega) (by omega)) (ev_index rfl rfl rfl rfl rfl (by omega) (by omega)) ?_)))))))
  refine dq_op tab rfl rfl (ev_loadrow evtR rfl rfl rfl rfl rfl rfl hx) (ev_loadrow evtR rfl rfl rfl rfl rfl rfl hx) (dt_op [5, 12, 13, 14, 15] rfl rfl rfl rfl rfl callable_14 (refapply_any ha (looks_opn userR rfl rfl) (looks_opn sessR rfl rfl) (looks_opn addrR rfl rfl) (looks_opn (intR .i64) rfl rfl) (by omega) (by omega) (by omega) (by omega)) ?_)
  refine dq_op tab rfl rfl rfl rfl (dq_op tab rfl rfl rfl rfl (dq_op tab rfl rfl rfl rfl (dn_op tab rfl rfl rfl rfl (ds_op tab rfl rfl rfl rfl (dq_op tab rfl rfl rfl rfl (vd_nil (by kernel_rfl) ?_))))))
  refine qth (wsq (wsq (wrg (vQ2 tab rfl rfl (vR rfl callable_9 (same_state (s := t') (t := t') (looks_opn userR rfl rfl) (looks_opn sessR rfl rfl) (looks_opn addrR rfl rfl) (looks_opn (intR .i64) rfl rfl) (looks_opn userR rfl rfl) (looks_opn sessR rfl rfl) (looks_opn addrR rfl rfl) (looks_opn (intR .i64) rfl rfl) (by omega) (by omega) (by omega) (by omega) (by omega) (by omega) (by omega) (by omega)) ?_)))))
  refine vQ2 tab rfl rfl (vgd_op false rfl rfl rfl (by simp only [eq_self, decide_true, bne_self_eq_false, sl_]; first | done | omega) ?_)
  refine vQ tab rfl (vF rfl callable_10 (num_fun _) (vQ4 tab rfl rfl rfl rfl (vQ2 tab rfl rfl (vR rfl callable_9 (same_state (s := t) (t := t) (looks_opn userR rfl rfl) (looks_opn sessR rfl rfl) (looks_opn addrR rfl rfl) (looks_opn (intR .i64) rfl rfl) (looks_opn userR rfl rfl) (looks_opn sessR rfl rfl) (looks_opn addrR rfl rfl) (looks_opn (intR .i64) rfl rfl) (by omega) (by omega) (by omega) (by omega) (by omega) (by omega) (by omega) (by omega)) ?_))))
  refine vQ2 tab rfl rfl (vnl (qth (vcd_false rfl (by simp only [eq_self, decide_true, bne_self_eq_false, sl_]; first | done | omega) ?_)))
  refine vw_skip (qth (wsq (wrg (vQ2 tab rfl rfl (vnl (qth (vc_true rfl (wsq (wrg (vQ tab rfl (vT rfl callable_12 (lawcopy_tri (s := t') (looks_opn userR rfl rfl) (looks_opn sessR rfl rfl) (looks_opn addrR rfl rfl) (looks_opn (intR .i64) rfl rfl) (by omega) (by omega) (by omega) (by omega)) ?_)))))))))))
  refine vN tab rfl (vS tab rfl (vnl (qth (wsq (wrg (vQ tab rfl (vT rfl callable_15 (spoil_state (s := t') ⟨rfl, rfl, rfl, rfl, by decide⟩ (by decide) (by omega) (by omega) (by omega) (by omega)) ?_)))))))
  refine vnl (qth (wsq (wsq (wrg (vQ2 tab rfl rfl (vR rfl callable_9 (same_state (s := t) (t := t) (looks_opn userR rfl rfl) (looks_opn sessR rfl rfl) (looks_opn addrR rfl rfl) (looks_opn (intR .i64) rfl rfl) (looks_opn userR rfl rfl) (looks_opn sessR rfl rfl) (looks_opn addrR rfl rfl) (looks_opn (intR .i64) rfl rfl) (by omega) (by omega) (by omega) (by omega) (by omega) (by omega) (by omega) (by omega)) ?_))))))
  refine vQ tab rfl (vnl (qth (vcd_false rfl (by simp only [eq_self, decide_true, bne_self_eq_false, sl_]; first | done | omega) ?_)))
  refine vw_skip (qth (wsq (wrg (vQ tab rfl (vS tab rfl (vnl (qth (wrg (vQ tab rfl (vS tab rfl (vnl (q_norm (qth (wrg (vQ3 tab rfl rfl rfl (vnl (qth ?_)))))))))))))))))
  exact ⟨(60 - (j + 1)).toNat, _, by omega, (sub_of (g := 5) [5, 6, 7, 26, 27, 28, 29, 21, 22, 23, 24] (by decide) (by decide) (by repeat' first | exact ep_nil | exact ri hi.symm | exact ov_conf rfl | exact ov_st (rel_slice rfl rfl) (rel_slice rfl rfl) (rel_slice rfl rfl) (rel_slice rfl rfl) | refine ep_cons rfl ?_ ?_ | exact .int _ _ | exact .bool _ | exact .string _ | exact rel_slice rfl rfl | exact rel_nil rfl rfl | exact rel_ptr rfl | exact .nilPtr | exact .nilIface | exact .nilSlice) (by repeat' first | exact hp_nil | exact ri hi.symm | exact ov_conf rfl | exact ov_st (rel_slice rfl rfl) (rel_slice rfl rfl) (rel_slice rfl rfl) (rel_slice rfl rfl) | refine hp_cons rfl rfl ?_ ?_ | refine hp_void rfl rfl ?_ | exact ov_win _ | exact ov_opn _ rfl | exact ov_cells _ _ (by decide))), j + 1, t', by omega, by omega, by omega, ⟨v0, v2, v3, by omega⟩, by omega, rfl⟩
end Go.Proofs.YtcjfidfealifhaaGreat
