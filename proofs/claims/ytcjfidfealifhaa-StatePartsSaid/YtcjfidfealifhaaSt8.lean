/- Package state: a number that rises; an address that is freed. -/
import Derived.Test.YtcjfidfealifhaaVg1
import Derived.Test.YtcjfidfealifhaaSt7
import Derived.Test.YtcjfidfealifhaaSr1
namespace Go.Proofs.Ytcjfidfealifhaa
open Go Vm IntWalk
set_option linter.unusedVariables false
set_option linter.unusedSimpArgs false
set_option maxHeartbeats 8000000
/-- A turn whose parts stay, but for the addresses. -/
def turnK (t c e u x a p a' : Nat) (cf : ConfV) (ev : EventV) (s : StV) : List (Nat × Option VObj) := (t, some (turnO c u x a' p e s)) :: (c, some (confO cf)) :: (e, some (evtO ev)) :: (u, some (.opn (userR.cells s.users) 49 9)) :: (x, some (.opn (sessR.cells s.sess) 54 4)) :: (a, none) ::
  (p, some (.opn ((intR .i64).cells s.spent) 3 1)) :: (a', some (.opn (addrR.cells s.addrs) 58 3)) :: []
theorem pfree_as {V : Heap} {n : Nat} {sv : Value} {xs : List AddrV} {i b : Int} (r : List AddrV × Int) (hr : freeA xs i b = r) (hl : Looks V 3 sv (addrR.cells xs) xs.length) (hb : xs.length * 24 ≤ 140737488355328) :
    Tri Try.prog 57 [sv, .int .i64 i, .int .i64 b] n 1 V (fun u L => u = .tuple #[.slice (some ⟨n, 0, none⟩) r.1.length 0, .int .i64 r.2] ∧ L = [(n, some (.opn (addrR.cells r.1) 58 3))]) := by subst hr; exact pfree_tri i b hl hb
theorem rises_ok {V : Heap} {n u j : Nat} {us : List UserV} {y : UserV} (hu : V u = some (.opn (userR.cells us) 49 9)) (hj : us[j]? = some y) (hg : 0 ≤ y.gen ∧ y.gen ≤ 1073741822) (hin : u < n) :
    Tri Try.prog 45 [.pointer (some ⟨u, 0 + j * 9 + 8, none⟩)] n 0 V (fun r L => r = .bool true ∧ L = [(u, some (.opn (userR.cells (us.set j { y with gen := y.gen + 1 })) 49 9))]) := by
  refine call_of_vw (K := 1) (argsI := [.pointer (some ⟨0, 0 + j * 9 + 8, none⟩)]) tab Try.func45 rfl rfl (by simp [Try.f45]) [.own u] [.opn (userR.cells us) 49 9] rfl (.own hu (ov_opn userR rfl) .nil) (by simp [ownNames, *]) (by simp [ownNames, lookNames, *]) (by simp [ownNames, *]) (al_cons (.val (rel_ptr rfl)) al_nil) (seen_of (sn_own sn_nil)) ?_
  have hb : betw y.gen 0 1073741822 = true := by unfold betw; rw [decide_eq_true hg.1, decide_eq_true hg.2]; rfl
  have hw : IntKind.i64.wrap (y.gen + 1) = y.gen + 1 := i64_in _ (by omega)
  refine wsq (wrg (vQ tab rfl (vnl (qth (wsq (wsq (wrg (vQ tab rfl (vQ tab rfl (vq_op tab rfl rfl rfl (ev_loadcell userR rfl rfl rfl rfl rfl hj rfl) (vF rfl callable_26 (betw_fun _ _ _) (vQ tab rfl (vnl (qth (vcd_false rfl (by simp only [hb, decide_eq_true_eq, decide_eq_false_iff_not, Bool.not_eq_eq_eq_not, Bool.not_true, Bool.not_false, bne_iff_ne, bne_eq_false_iff_eq, beq_iff_eq, beq_eq_false_iff_ne, ne_eq, beq_self_eq_true, bne_self_eq_false, Bool.and_eq_true, Bool.and_eq_false_iff, Bool.or_eq_true, Bool.or_eq_false_iff, and_self, and_true, true_and, Bool.false_eq_true, Bool.true_eq_false, not_false_eq_true, not_true_eq_false]; first | done | omega) ?_)))))))))))))))
  refine vw_skip (qth (wsq (wrg (vQ tab rfl (vQ tab rfl (vq_op tab rfl rfl rfl (ev_loadcell userR rfl rfl rfl rfl rfl hj rfl) (vQ tab rfl (vQ tab rfl (vs_op tab rfl rfl (ev_storecell userR rfl rfl rfl rfl rfl rfl hj (a' := { y with gen := IntKind.i64.wrap (y.gen + 1) }) rfl rfl (by decide)) ?_)))))))))
  refine vnl (qth (wsq (wrg (vQ tab rfl (vnl (qth (vw_ret ?_)))))))
  exact out_mk [] (.inr rfl) ⟨rfl, rfl⟩ rfl (.bool _) (op_cons (sigma_own (a := 0) (by simp [ownNames]) rfl) rfl rfl (ov_opn userR (by rw [hw])) rfl op_nil) (told_of (by simp [ownNames]))
theorem rises_no {V : Heap} {n u j : Nat} {us : List UserV} {y : UserV} (hu : V u = some (.opn (userR.cells us) 49 9)) (hj : us[j]? = some y) (hg : ¬ (0 ≤ y.gen ∧ y.gen ≤ 1073741822)) :
    Tri Try.prog 45 [.pointer (some ⟨u, 0 + j * 9 + 8, none⟩)] n 0 V (fun r L => r = .bool false ∧ L = []) := by
  refine reads_of_vw (K := 1) (argsI := [.pointer (some ⟨0, 0 + j * 9 + 8, none⟩)]) tab Try.func45 rfl rfl (by simp [Try.f45]) [.own u] [.opn (userR.cells us) 49 9] rfl (.own hu (ov_opn userR rfl) .nil) (by simp [ownNames, *]) (by simp [ownNames, lookNames, *]) (al_cons (.val (rel_ptr rfl)) al_nil) (seen_of (sn_own sn_nil)) (.bool _) ?_
  have hb : betw y.gen 0 1073741822 = false := by
    unfold betw
    by_cases h : 0 ≤ y.gen
    · rw [decide_eq_false (show ¬ y.gen ≤ 1073741822 from fun q => hg ⟨h, q⟩), Bool.and_false]
    · rw [decide_eq_false h, Bool.false_and]
  refine wsq (wrg (vQ tab rfl (vnl (qth (wsq (wsq (wrg (vQ tab rfl (vQ tab rfl (vq_op tab rfl rfl rfl (ev_loadcell userR rfl rfl rfl rfl rfl hj rfl) (vF rfl callable_26 (betw_fun _ _ _) (vQ tab rfl (vnl (qth (vcd_true rfl (by simp only [hb, decide_eq_true_eq, decide_eq_false_iff_not, Bool.not_eq_eq_eq_not, Bool.not_true, Bool.not_false, bne_iff_ne, bne_eq_false_iff_eq, beq_iff_eq, beq_eq_false_iff_ne, ne_eq, beq_self_eq_true, bne_self_eq_false, Bool.and_eq_true, Bool.and_eq_false_iff, Bool.or_eq_true, Bool.or_eq_false_iff, and_self, and_true, true_and, Bool.false_eq_true, Bool.true_eq_false, not_false_eq_true, not_true_eq_false]; first | done | omega) ?_)))))))))))))))
  refine wsq (wrg (vQ tab rfl (vnl (qth (vw_ret (q_thenr ?_))))))
  exact ⟨⟨.inr rfl, rfl⟩, fun _ => rfl, trivial⟩
section
variable {V : Heap} {n t c e u x a p : Nat} {cf : ConfV} {ev : EventV} {s : StV}
theorem free_ok {i b : Int} (h : TurnAt V t c e u x a p cf ev s) (hi : ∀ i ∈ [t, c, e, u, x, a, p], i < n) (hb3 : s.addrs.length * 24 ≤ 140737488355328) (hk : freeC s.addrs i b = true) :
    Tri Try.prog 44 [.pointer (some ⟨t, 0, none⟩), .int .i64 i, .int .i64 b] n 1 V (fun r L => r = .bool true ∧ L = turnK t c e u x a p n cf ev { s with addrs := (freeA s.addrs i b).1 }) := by
  obtain ⟨ht, hc, he, hu, hx, ha, hp, hn⟩ := h
  simp only [List.nodup_cons, List.mem_cons, List.not_mem_nil, or_false, not_or, List.nodup_nil, and_true, not_false_eq_true] at hn
  obtain ⟨⟨d1, d2, d3, d4, d5, d6⟩, ⟨e1, e2, e3, e4, e5⟩, ⟨f1, f2, f3, f4⟩, ⟨g1, g2, g3⟩, ⟨i1, i2⟩, j1⟩ := hn
  simp only [List.mem_cons, List.not_mem_nil, or_false, forall_eq_or_imp, forall_eq] at hi
  obtain ⟨l1, l2, l3, l4, l5, l6, l7⟩ := hi
  refine call_of_vw (K := 7) (argsI := [.pointer (some ⟨0, 0, none⟩), .int .i64 i, .int .i64 b]) tab Try.func44 rfl rfl (by simp [Try.f44]) [.own t, .own c, .own e, .own u, .own x, .own a, .own p] [turnO 1 3 4 5 6 2 s, confO cf, evtO ev, .opn (userR.cells s.users) 49 9, .opn (sessR.cells s.sess) 54 4, .opn (addrR.cells s.addrs) 58 3, .opn ((intR .i64).cells s.spent) 3 1] rfl (.own ht (ov_turn rfl (rel_ptr rfl) (rel_slice rfl rfl) (rel_slice rfl rfl) (rel_slice rfl rfl) (rel_slice rfl rfl) (rel_ptr rfl)) (.own hc (ov_conf rfl) (.own he (ov_evt rfl) (.own hu (ov_opn userR rfl) (.own hx (ov_opn sessR rfl) (.own ha (ov_opn addrR rfl) (.own hp (ov_opn (intR .i64) rfl) .nil))))))) (by simp [ownNames, *]) (by simp [ownNames, lookNames, *]) (by simp [ownNames, *]) (al_cons (.val (rel_ptr rfl)) (al_cons (.val (.int _ _)) (al_cons (.val (.int _ _)) al_nil))) (seen_of (sn_own (sn_own (sn_own (sn_own (sn_own (sn_own (sn_own sn_nil)))))))) ?_
  have e1 := freeA_ok hk
  rw [e1]
  refine wsq (wrg (vQ tab rfl (vnl (qth (wsq (wrg (vQ tab rfl (vQ tab rfl (vQ tab rfl (vQ tab rfl (vQ tab rfl (vQ tab rfl (vQ tab rfl (vT rfl callable_57 (pfree_as _ e1 (looks_opn addrR (xs := s.addrs) rfl rfl) hb3) (vQ tab rfl (vQ tab rfl (vQ tab rfl (vQ tab rfl (vQ tab rfl (vnl (qth (wsq (wsq ?_)))))))))))))))))))))))
  refine wrg (vQ tab rfl (vQ tab rfl (vnl (qth (vc_true rfl (wrg (vQ tab rfl (vQ tab rfl (vQ tab rfl (vQ tab rfl (vQ tab rfl (vS tab rfl (vnl (qth (wsq (wrg (vQ tab rfl (vQ tab rfl (vQ tab rfl (vnl (qth (vw_ret ?_))))))))))))))))))))))
  exact out_mk [7] (.inr rfl) ⟨rfl, rfl⟩ rfl (.bool _)
    (op_cons (sigma_own (a := 0) (by simp [ownNames, *]) rfl) rfl rfl (ov_turn2 (rel_ptr (sigma_own (a := 1) (by simp [ownNames, *]) rfl)) (rel_slice (sigma_own (a := 3) (by simp [ownNames, *]) rfl) rfl) (rel_slice (sigma_own (a := 4) (by simp [ownNames, *]) rfl) rfl) (rel_slice (sigma_at (i := 0) (by simp [ownNames, *]) rfl) (by simp)) (rel_slice (sigma_own (a := 6) (by simp [ownNames, *]) rfl) rfl) (rel_ptr (sigma_own (a := 2) (by simp [ownNames, *]) rfl))) rfl
      (op_cons (sigma_own (a := 1) (by simp [ownNames, *]) rfl) rfl rfl (ov_conf rfl) rfl (op_cons (sigma_own (a := 2) (by simp [ownNames, *]) rfl) rfl rfl (ov_evt rfl) rfl
        (op_cons (sigma_own (a := 3) (by simp [ownNames, *]) rfl) rfl rfl (ov_opn userR rfl) rfl (op_cons (sigma_own (a := 4) (by simp [ownNames, *]) rfl) rfl rfl (ov_opn sessR rfl) rfl (op_drop (op_cons (sigma_own (a := 6) (by simp [ownNames, *]) rfl) rfl rfl (ov_opn (intR .i64) rfl) rfl
          (op_cons (sigma_at (i := 0) (by simp [ownNames, *]) rfl) rfl rfl (ov_opn addrR rfl) rfl op_nil))))))))
    (told_of (by simp [ownNames, turnK]))
theorem free_no {i b : Int} (h : TurnAt V t c e u x a p cf ev s) (hi : ∀ i ∈ [t, c, e, u, x, a, p], i < n) (hb3 : s.addrs.length * 24 ≤ 140737488355328) (hk : freeC s.addrs i b = false) :
    Tri Try.prog 44 [.pointer (some ⟨t, 0, none⟩), .int .i64 i, .int .i64 b] n 0 V (fun r L => r = .bool false ∧ L = turnN t c e u x a p) := by
  obtain ⟨ht, hc, he, hu, hx, ha, hp, hn⟩ := h
  simp only [List.nodup_cons, List.mem_cons, List.not_mem_nil, or_false, not_or, List.nodup_nil, and_true, not_false_eq_true] at hn
  obtain ⟨⟨d1, d2, d3, d4, d5, d6⟩, ⟨e1, e2, e3, e4, e5⟩, ⟨f1, f2, f3, f4⟩, ⟨g1, g2, g3⟩, ⟨i1, i2⟩, j1⟩ := hn
  simp only [List.mem_cons, List.not_mem_nil, or_false, forall_eq_or_imp, forall_eq] at hi
  obtain ⟨l1, l2, l3, l4, l5, l6, l7⟩ := hi
  refine call_of_vw (K := 7) (argsI := [.pointer (some ⟨0, 0, none⟩), .int .i64 i, .int .i64 b]) tab Try.func44 rfl rfl (by simp [Try.f44]) [.own t, .own c, .own e, .own u, .own x, .own a, .own p] [turnO 1 3 4 5 6 2 s, confO cf, evtO ev, .opn (userR.cells s.users) 49 9, .opn (sessR.cells s.sess) 54 4, .opn (addrR.cells s.addrs) 58 3, .opn ((intR .i64).cells s.spent) 3 1] rfl (.own ht (ov_turn rfl (rel_ptr rfl) (rel_slice rfl rfl) (rel_slice rfl rfl) (rel_slice rfl rfl) (rel_slice rfl rfl) (rel_ptr rfl)) (.own hc (ov_conf rfl) (.own he (ov_evt rfl) (.own hu (ov_opn userR rfl) (.own hx (ov_opn sessR rfl) (.own ha (ov_opn addrR rfl) (.own hp (ov_opn (intR .i64) rfl) .nil))))))) (by simp [ownNames, *]) (by simp [ownNames, lookNames, *]) (by simp [ownNames, *]) (al_cons (.val (rel_ptr rfl)) (al_cons (.val (.int _ _)) (al_cons (.val (.int _ _)) al_nil))) (seen_of (sn_own (sn_own (sn_own (sn_own (sn_own (sn_own (sn_own sn_nil)))))))) ?_
  have e1 := freeA_bad hk
  refine wsq (wrg (vQ tab rfl (vnl (qth (wsq (wrg (vQ tab rfl (vQ tab rfl (vQ tab rfl (vQ tab rfl (vQ tab rfl (vQ tab rfl (vQ tab rfl (vT rfl callable_57 (pfree_as _ e1 (looks_opn addrR (xs := s.addrs) rfl rfl) hb3) (vQ tab rfl (vQ tab rfl (vQ tab rfl (vQ tab rfl (vQ tab rfl (vnl (qth (wsq (wsq ?_)))))))))))))))))))))))
  refine wrg (vQ tab rfl (vQ tab rfl (vnl (qth (vc_false rfl (vw_skip (qth (wsq (wrg (vQ tab rfl (vQ tab rfl (vQ tab rfl (vnl (qth (vw_ret ?_)))))))))))))))
  exact out_mk [] (.inr rfl) ⟨rfl, rfl⟩ rfl (.bool _) (op_drop (op_drop (op_drop (op_drop (op_drop (op_drop (op_drop op_nil))))))) (told_of (by simp [ownNames, turnN]))
end
end Go.Proofs.Ytcjfidfealifhaa
