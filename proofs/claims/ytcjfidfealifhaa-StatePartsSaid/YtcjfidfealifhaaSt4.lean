/- Package state: what turns a state. -/
import Derived.Test.YtcjfidfealifhaaVg1
import Derived.Test.YtcjfidfealifhaaSt3
namespace Go.Proofs.Ytcjfidfealifhaa
open Go Vm IntWalk
set_option linter.unusedVariables false
set_option linter.unusedSimpArgs false
/-- A turn that was made: its four slices are new. -/
def turnL (t c e u x a p n : Nat) (s : StV) : List (Nat × Option VObj) := (t, some (turnO c n (n + 1) (n + 2) (n + 3) e s)) :: (c, none) :: (e, none) :: (u, none) :: (x, none) :: (a, none) :: (p, none) :: stL n s
/-- A turn that was not. -/
def turnN (t c e u x a p : Nat) : List (Nat × Option VObj) := [(t, none), (c, none), (e, none), (u, none), (x, none), (a, none), (p, none)]
section
variable {V : Heap} {n t c e u x a p : Nat} {cf : ConfV} {ev : EventV} {s : StV}
theorem rotate_tri (h : TurnAt V t c e u x a p cf ev s) (hi : ∀ i ∈ [t, c, e, u, x, a, p], i < n) :
    Tri Try.prog 39 [.pointer (some ⟨t, 1, none⟩)] n 4 V (fun r L => r = .bool true ∧ L = turnL t c e u x a p n { s with epoch := IntKind.i64.wrap (s.epoch + 1) }) := by
  obtain ⟨ht, hc, he, hu, hx, ha, hp, hn⟩ := h
  simp only [List.nodup_cons, List.mem_cons, List.not_mem_nil, or_false, not_or, List.nodup_nil, and_true, not_false_eq_true] at hn
  obtain ⟨⟨d1, d2, d3, d4, d5, d6⟩, ⟨e1, e2, e3, e4, e5⟩, ⟨f1, f2, f3, f4⟩, ⟨g1, g2, g3⟩, ⟨i1, i2⟩, j1⟩ := hn
  simp only [List.mem_cons, List.not_mem_nil, or_false, forall_eq_or_imp, forall_eq] at hi
  obtain ⟨l1, l2, l3, l4, l5, l6, l7⟩ := hi
  refine call_of_vw (K := 7) (argsI := [.pointer (some ⟨0, 1, none⟩)]) tab Try.func39 rfl rfl (by simp [Try.f39]) [.own t, .own c, .own e, .own u, .own x, .own a, .own p] [turnO 1 3 4 5 6 2 s, confO cf, evtO ev, .opn (userR.cells s.users) 49 9, .opn (sessR.cells s.sess) 54 4, .opn (addrR.cells s.addrs) 58 3, .opn ((intR .i64).cells s.spent) 3 1] rfl (.own ht (ov_turn rfl (rel_ptr rfl) (rel_slice rfl rfl) (rel_slice rfl rfl) (rel_slice rfl rfl) (rel_slice rfl rfl) (rel_ptr rfl)) (.own hc (ov_conf rfl) (.own he (ov_evt rfl) (.own hu (ov_opn userR rfl) (.own hx (ov_opn sessR rfl) (.own ha (ov_opn addrR rfl) (.own hp (ov_opn (intR .i64) rfl) .nil))))))) (by simp [ownNames, *]) (by simp [ownNames, lookNames, *]) (by simp [ownNames, *]) (al_cons (.val (rel_ptr rfl)) al_nil) (seen_of (sn_own (sn_own (sn_own (sn_own (sn_own (sn_own (sn_own sn_nil)))))))) ?_
  refine wsq (wrg (vQ tab rfl (vnl (qth (wsq (wrg (vQ tab rfl (vQ tab rfl (vQ tab rfl (vQ tab rfl (vQ tab rfl (vQ tab rfl (vQ tab rfl (vS tab rfl (vnl (qth (wsq (wrg (vQ tab rfl (vnl (qth (vw_ret ?_))))))))))))))))))))))
  exact out_mk [3, 4, 5, 6] (.inr rfl) ⟨rfl, rfl⟩ rfl (.bool _)
    (op_cons (sigma_own (a := 0) (by simp [ownNames, *]) rfl) rfl rfl (ov_turn rfl (rel_ptr (sigma_own (a := 1) (by simp [ownNames, *]) rfl)) (rel_slice (sigma_at (i := 0) (by simp [ownNames, *]) rfl) rfl) (rel_slice (sigma_at (i := 1) (by simp [ownNames, *]) rfl) rfl) (rel_slice (sigma_at (i := 2) (by simp [ownNames, *]) rfl) rfl) (rel_slice (sigma_at (i := 3) (by simp [ownNames, *]) rfl) rfl) (rel_ptr (sigma_own (a := 2) (by simp [ownNames, *]) rfl))) rfl
      (op_drop (op_drop (op_drop (op_drop (op_drop (op_drop
        (op_cons (sigma_at (i := 0) (by simp [ownNames, *]) rfl) rfl rfl (ov_opn userR rfl) rfl (op_cons (sigma_at (i := 1) (by simp [ownNames, *]) rfl) rfl rfl (ov_opn sessR rfl) rfl (op_cons (sigma_at (i := 2) (by simp [ownNames, *]) rfl) rfl rfl (ov_opn addrR rfl) rfl (op_cons (sigma_at (i := 3) (by simp [ownNames, *]) rfl) rfl rfl (ov_opn (intR .i64) rfl) rfl op_nil)))))))))))
    (told_of (by simp [ownNames, turnL]))
end
end Go.Proofs.Ytcjfidfealifhaa
