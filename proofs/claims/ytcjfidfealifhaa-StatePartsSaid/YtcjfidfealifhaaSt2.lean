/- Package state: a turn, its parts. -/
import Derived.Test.YtcjfidfealifhaaVg1
import Derived.Test.YtcjfidfealifhaaSt1
namespace Go.Proofs.Ytcjfidfealifhaa
open Go Vm IntWalk
set_option linter.unusedVariables false
set_option linter.unusedSimpArgs false
/-- A state of four slices. -/
abbrev stV (u x a p : Nat) (s : StV) : Value := .agg #[.int .i64 s.boots, .int .i64 s.epoch, .int .i64 s.next, .slice (some ⟨u, 0, none⟩) s.users.length 0, .slice (some ⟨x, 0, none⟩) s.sess.length 0, .slice (some ⟨a, 0, none⟩) s.addrs.length 0, .slice (some ⟨p, 0, none⟩) s.spent.length 0]
/-- A turn's object. -/
abbrev turnO (c u x a p e : Nat) (s : StV) : VObj := .cells [.pointer (some ⟨c, 0, none⟩), .int .i64 s.boots, .int .i64 s.epoch, .int .i64 s.next, .slice (some ⟨u, 0, none⟩) s.users.length 0, .slice (some ⟨x, 0, none⟩) s.sess.length 0, .slice (some ⟨a, 0, none⟩) s.addrs.length 0, .slice (some ⟨p, 0, none⟩) s.spent.length 0, .pointer (some ⟨e, 0, none⟩)] 67 (0, 0)
theorem ov_turn {σ : Ren} {c u x a p e c' u' x' a' p' e' : Nat} {s s' : StV} (hs : s = s') (hc : VRel σ (.pointer (some ⟨c, 0, none⟩)) (.pointer (some ⟨c', 0, none⟩))) (hu : VRel σ (.slice (some ⟨u, 0, none⟩) s'.users.length 0) (.slice (some ⟨u', 0, none⟩) s'.users.length 0)) (hx : VRel σ (.slice (some ⟨x, 0, none⟩) s'.sess.length 0) (.slice (some ⟨x', 0, none⟩) s'.sess.length 0)) (ha : VRel σ (.slice (some ⟨a, 0, none⟩) s'.addrs.length 0) (.slice (some ⟨a', 0, none⟩) s'.addrs.length 0)) (hp : VRel σ (.slice (some ⟨p, 0, none⟩) s'.spent.length 0) (.slice (some ⟨p', 0, none⟩) s'.spent.length 0)) (he : VRel σ (.pointer (some ⟨e, 0, none⟩)) (.pointer (some ⟨e', 0, none⟩))) :
    OV σ (turnO c u x a p e s) (turnO c' u' x' a' p' e' s') := by
  subst hs
  exact .cells _ _ (lrel_cons hc (lrel_cons (.int _ _) (lrel_cons (.int _ _) (lrel_cons (.int _ _) (lrel_cons hu (lrel_cons hx (lrel_cons ha (lrel_cons hp (lrel_cons he lrel_nil)))))))))
/-- Where a turn's parts lie. -/
def TurnAt (V : Heap) (t c e u x a p : Nat) (cf : ConfV) (ev : EventV) (s : StV) : Prop :=
  V t = some (turnO c u x a p e s) ∧ V c = some (confO cf) ∧ V e = some (evtO ev) ∧ V u = some (.opn (userR.cells s.users) 49 9) ∧ V x = some (.opn (sessR.cells s.sess) 54 4) ∧
  V a = some (.opn (addrR.cells s.addrs) 58 3) ∧ V p = some (.opn ((intR .i64).cells s.spent) 3 1) ∧ [t, c, e, u, x, a, p].Nodup
/-- A state's four slices, new. -/
def stL (n : Nat) (s : StV) : List (Nat × Option VObj) := [(n, some (.opn (userR.cells s.users) 49 9)), (n + 1, some (.opn (sessR.cells s.sess) 54 4)), (n + 2, some (.opn (addrR.cells s.addrs) 58 3)), (n + 3, some (.opn ((intR .i64).cells s.spent) 3 1))]
set_option maxHeartbeats 4000000 in
theorem copy_tri {V : Heap} {n : Nat} {v1 v2 v3 v4 : Value} {s : StV} (h1 : Looks V 9 v1 (userR.cells s.users) s.users.length) (h2 : Looks V 4 v2 (sessR.cells s.sess) s.sess.length) (h3 : Looks V 3 v3 (addrR.cells s.addrs) s.addrs.length) (h4 : Looks V 1 v4 ((intR .i64).cells s.spent) s.spent.length)
    (b1 : s.users.length * 72 ≤ 140737488355328) (b2 : s.sess.length * 32 ≤ 140737488355328) (b3 : s.addrs.length * 24 ≤ 140737488355328) (b4 : s.spent.length * 8 ≤ 140737488355328) :
    Tri Try.prog 23 [.agg #[.int .i64 s.boots, .int .i64 s.epoch, .int .i64 s.next, v1, v2, v3, v4]] n 4 V (fun r L => r = stV n (n + 1) (n + 2) (n + 3) s ∧ L = stL n s) := by
  refine call_of_vw (K := 4) (argsI := [.agg #[.int .i64 s.boots, .int .i64 s.epoch, .int .i64 s.next, .slice (some ⟨0, 0, none⟩) s.users.length 0, .slice (some ⟨1, 0, none⟩) s.sess.length 0, .slice (some ⟨2, 0, none⟩) s.addrs.length 0, .slice (some ⟨3, 0, none⟩) s.spent.length 0]]) tab Try.func23 rfl rfl (by simp [Try.f23]) [.look v1 s.users.length 9, .look v2 s.sess.length 4, .look v3 s.addrs.length 3, .look v4 s.spent.length 1] [.win (userR.cells s.users) 9, .win (sessR.cells s.sess) 4, .win (addrR.cells s.addrs) 3, .win ((intR .i64).cells s.spent) 1] rfl (.look h1 (userR.flat_cells s.users) (.look h2 (sessR.flat_cells s.sess) (.look h3 (addrR.flat_cells s.addrs) (.look h4 ((intR .i64).flat_cells s.spent) .nil)))) (by simp [ownNames]) (by simp [ownNames, lookNames]) (by simp [ownNames, *]) (al_cons (ar_agg (al_cons (.val (.int _ _)) (al_cons (.val (.int _ _)) (al_cons (.val (.int _ _)) (al_cons (.look (a := 0) rfl) (al_cons (.look (a := 1) rfl) (al_cons (.look (a := 2) rfl) (al_cons (.look (a := 3) rfl) al_nil)))))))) al_nil) (seen_of (sn_look (seen_agg (j := 0) (i := 3) rfl rfl) (sn_look (seen_agg (j := 0) (i := 4) rfl rfl) (sn_look (seen_agg (j := 0) (i := 5) rfl rfl) (sn_look (seen_agg (j := 0) (i := 6) rfl rfl) sn_nil))))) ?_
  refine wsq (wrg (vN tab rfl (vN tab rfl (vnl (qth (wsq (vw_draw mixed (dq_op tab rfl rfl rfl rfl (dq_op tab rfl rfl rfl rfl (dt_op [0] rfl rfl rfl rfl rfl callable_31 (clone_users (xs := s.users) (looks_win userR rfl rfl) b1) (dq_op tab rfl rfl rfl rfl (dq_op tab rfl rfl rfl rfl (dt_op [1] rfl rfl rfl rfl rfl callable_32 (clone_sess (xs := s.sess) (looks_win sessR rfl rfl) b2) (dq_op tab rfl rfl rfl rfl (ds_op tab rfl rfl rfl rfl (dq_op tab rfl rfl rfl rfl (ds_op tab rfl rfl rfl rfl (vd_nil (by kernel_rfl) ?_))))))))))))))))))
  refine qth (wsq (vw_draw mixed (dq_op tab rfl rfl rfl rfl (dq_op tab rfl rfl rfl rfl (dt_op [2] rfl rfl rfl rfl rfl callable_33 (clone_addrs (xs := s.addrs) (looks_win addrR rfl rfl) b3) (dq_op tab rfl rfl rfl rfl (dq_op tab rfl rfl rfl rfl (dt_op [3] rfl rfl rfl rfl rfl callable_34 (clone_ints (xs := s.spent) (looks_win (intR .i64) rfl rfl) b4) (dq_op tab rfl rfl rfl rfl (ds_op tab rfl rfl rfl rfl (dq_op tab rfl rfl rfl rfl (ds_op tab rfl rfl rfl rfl (vd_nil (by kernel_rfl) ?_)))))))))))))
  refine qth (wsq (wrg (vQ tab rfl (vS tab rfl (vnl (qth (vw_ret ?_)))))))
  exact out_mk [6, 7, 8, 9] (.inr rfl) ⟨rfl, rfl⟩ rfl (vrel_agg (lrel_cons (.int _ _) (lrel_cons (.int _ _) (lrel_cons (.int _ _) (lrel_cons (rel_slice (sigma_look (i := 0) rfl) rfl) (lrel_cons (rel_slice (sigma_look (i := 1) rfl) rfl) (lrel_cons (rel_slice (sigma_look (i := 2) rfl) rfl) (lrel_cons (rel_slice (sigma_look (i := 3) rfl) rfl) lrel_nil))))))))
    (op_cons (sigma_look (i := 0) rfl) rfl rfl (ov_opn userR rfl) rfl (op_cons (sigma_look (i := 1) rfl) rfl rfl (ov_opn sessR rfl) rfl (op_cons (sigma_look (i := 2) rfl) rfl rfl (ov_opn addrR rfl) rfl (op_cons (sigma_look (i := 3) rfl) rfl rfl (ov_opn (intR .i64) rfl) rfl op_nil)))) trivial
end Go.Proofs.Ytcjfidfealifhaa
