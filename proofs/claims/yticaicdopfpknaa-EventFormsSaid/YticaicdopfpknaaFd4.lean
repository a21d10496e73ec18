/- Readers: numbers; done. -/
import Derived.Test.YticaicdopfpknaaVmSh
import Derived.Test.YticaicdopfpknaaFd3
namespace Go.Proofs.Yticaicdopfpknaa
open Go Vm IntWalk
set_option linter.unusedVariables false
set_option linter.unusedSimpArgs false
theorem sz0 : (⟨#[]⟩ : ByteArray).size = 0 := rfl
abbrev readO (s : ByteArray) (a : Int) : VObj := .cells [.string s, .int .i64 a, .nilIface] 92 (0, 0)
abbrev readX (s : ByteArray) (j : Nat) : VObj := .cells [.string s, .int .i64 0, errP j] 92 (0, 0)
abbrev rreadO (s : ByteArray) (a : Int) (b : Bool) : VObj := .cells [.string s, .int .i64 a, .bool b] 96 (0, 0)
theorem ov_readO {σ : Ren} {s : ByteArray} {a b : Int} (h : a = b) : OV σ (readO s a) (readO s b) := by subst h; exact .cells _ _ (lrel_cons (.string _) (lrel_cons (.int _ _) (lrel_cons .nilIface lrel_nil)))
theorem ov_readX {σ : Ren} {s : ByteArray} {i j : Nat} (h : σ i = some ⟨j, none, 0⟩) : OV σ (readX s i) (readX s j) := .cells _ _ (lrel_cons (.string _) (lrel_cons (.int _ _) (lrel_cons (.iface _ (rel_ptr h)) lrel_nil)))
theorem ov_rreadO {σ : Ren} {s : ByteArray} {a b : Int} {c d : Bool} (h : a = b) (h2 : c = d) : OV σ (rreadO s a c) (rreadO s b d) := by subst h; subst h2; exact .cells _ _ (lrel_cons (.string _) (lrel_cons (.int _ _) (lrel_cons (.bool _) lrel_nil)))
theorem ov_fault {σ : Ren} {p e : Int} : OV σ (faultO p e) (faultO p e) := .cells _ _ (lrel_cons (.int _ _) (lrel_cons (.iface _ (.int _ _)) lrel_nil))
set_option maxHeartbeats 4000000 in
theorem rnum_good {V : Heap} {n i : Nat} {s : ByteArray} {a x t : Int} (hV : V i = some (readO s a)) (h : getN (B s) a = (x, t, 0, 0)) (hs : s.size ≤ 9223372036854775807) (hin : i < n) :
    Tri Try.prog 51 [.pointer (some ⟨i, 0, none⟩)] n 0 V (fun u L => u = .int .i64 x ∧ L = [(i, some (readO s t))]) := by
  refine call_of_vw (K := 1) (argsI := [.pointer (some ⟨0, 0, none⟩)]) tab Try.func51 rfl rfl (by simp [Try.f51]) [.own i] [readO s a] rfl (.own hV (ov_readO rfl) .nil) (by simp [ownNames, *]) (by simp [ownNames, lookNames, *]) (by simp [ownNames, *]) (al_cons (.val (rel_ptr rfl)) al_nil) (seen_of (sn_own sn_nil)) ?_
  refine w1 (w2 (vQ tab rfl (w4 (w3 (w1 (w1 (w2 (vQ tab rfl (vQ tab rfl (vQ tab rfl (vQ tab rfl (vQ tab rfl (w4 (w3 (vc_false rfl (vw_skip (w3 (w1 (vw_draw mixed (dq_op tab rfl rfl rfl rfl (dq_op tab rfl rfl rfl rfl (dq_op tab rfl rfl rfl rfl (dq_op tab rfl rfl rfl rfl ?_)))))))))))))))))))))))
  refine dq_op tab rfl rfl rfl rfl (dq_op tab rfl rfl rfl rfl (dq_op tab rfl rfl rfl rfl (dq_op tab rfl rfl rfl rfl (df_op rfl rfl rfl rfl rfl callable_70 (fnum_good h hs) (dq_op tab rfl rfl rfl rfl (dq_op tab rfl rfl rfl rfl (dq_op tab rfl rfl rfl rfl (dq_op tab rfl rfl rfl rfl (dq_op tab rfl rfl rfl rfl (dq_op tab rfl rfl rfl rfl (dq_op tab rfl rfl rfl rfl (vd_nil (by kernel_rfl) ?_))))))))))))
  refine w3 (w1 (w2 (vQ tab rfl (vQ tab rfl (vQ tab rfl (vQ tab rfl (vQ tab rfl (vQ tab rfl (vS tab rfl (vQ tab rfl (vQ tab rfl (vS tab rfl (w4 (w3 (w1 (w2 (vQ tab rfl (vQ tab rfl (w4 (w3 (vw_ret ?_)))))))))))))))))))))
  exact out_mk [] (.inr rfl) ⟨rfl, rfl⟩ rfl (.int _ _) (op_cons (sigma_own (a := 0) (by simp [ownNames]) rfl) rfl rfl (ov_readO rfl) rfl op_nil) ⟨fun _ => by simp [lkp], trivial⟩
set_option maxHeartbeats 4000000 in
theorem rnum_fail {V : Heap} {n i : Nat} {s : ByteArray} {a e p : Int} (hV : V i = some (readO s a)) (h : getN (B s) a = (0, 0, e, p)) (he : e ≠ 0) (hs : s.size ≤ 9223372036854775807) (hin : i < n) :
    Tri Try.prog 51 [.pointer (some ⟨i, 0, none⟩)] n 1 V (fun u L => u = .int .i64 0 ∧ L = [(i, some (readX s n)), (n, some (faultO p e))]) := by
  refine call_of_vw (K := 1) (argsI := [.pointer (some ⟨0, 0, none⟩)]) tab Try.func51 rfl rfl (by simp [Try.f51]) [.own i] [readO s a] rfl (.own hV (ov_readO rfl) .nil) (by simp [ownNames, *]) (by simp [ownNames, lookNames, *]) (by simp [ownNames, *]) (al_cons (.val (rel_ptr rfl)) al_nil) (seen_of (sn_own sn_nil)) ?_
  refine w1 (w2 (vQ tab rfl (w4 (w3 (w1 (w1 (w2 (vQ tab rfl (vQ tab rfl (vQ tab rfl (vQ tab rfl (vQ tab rfl (w4 (w3 (vc_false rfl (vw_skip (w3 (w1 (vw_draw mixed (dq_op tab rfl rfl rfl rfl (dq_op tab rfl rfl rfl rfl (dq_op tab rfl rfl rfl rfl (dq_op tab rfl rfl rfl rfl ?_)))))))))))))))))))))))
  refine dq_op tab rfl rfl rfl rfl (dq_op tab rfl rfl rfl rfl (dq_op tab rfl rfl rfl rfl (dq_op tab rfl rfl rfl rfl (dt_op [] rfl rfl rfl rfl rfl callable_70 (fnum_bad h he hs) (dq_op tab rfl rfl rfl rfl (dq_op tab rfl rfl rfl rfl (dq_op tab rfl rfl rfl rfl (dq_op tab rfl rfl rfl rfl (dq_op tab rfl rfl rfl rfl (dq_op tab rfl rfl rfl rfl (dq_op tab rfl rfl rfl rfl (vd_nil (by kernel_rfl) ?_))))))))))))
  refine w3 (w1 (w2 (vQ tab rfl (vQ tab rfl (vQ tab rfl (vQ tab rfl (vQ tab rfl (vQ tab rfl (vS tab rfl (vQ tab rfl (vQ tab rfl (vS tab rfl (w4 (w3 (w1 (w2 (vQ tab rfl (vQ tab rfl (w4 (w3 (vw_ret ?_)))))))))))))))))))))
  exact out_mk [1] (.inr rfl) ⟨rfl, rfl⟩ rfl (.int _ _) (op_cons (sigma_own (a := 0) (by simp [ownNames]) rfl) rfl rfl (ov_readX (sigma_at (i := 0) (by simp [ownNames, *]) rfl)) rfl (op_cons (sigma_at (i := 0) (by simp [ownNames, *]) rfl) rfl rfl ov_fault rfl op_nil)) ⟨fun _ => by simp [lkp], trivial⟩
set_option maxHeartbeats 4000000 in
theorem rnum_bad {V : Heap} {n i j : Nat} {s : ByteArray} {e p : Int} (hV : V i = some (readX s j)) (hF : V j = some (faultO p e)) (hij : i ≠ j) :
    Tri Try.prog 51 [.pointer (some ⟨i, 0, none⟩)] n 0 V (fun u L => u = .int .i64 0 ∧ L = []) := by
  refine reads_of_vw (K := 2) (argsI := [.pointer (some ⟨0, 0, none⟩)]) tab Try.func51 rfl rfl (by simp [Try.f51]) [.own i, .own j] [readX s 1, faultO p e] rfl (.own hV (ov_readX (ownR_of rfl)) (.own hF (ov_fault) .nil)) (by simp [ownNames, *]) (by simp [ownNames, lookNames, *]) (al_cons (.val (rel_ptr rfl)) al_nil) (seen_of (sn_own (sn_own sn_nil))) (.int _ _) ?_
  refine w1 (w2 (vQ tab rfl (w4 (w3 (w1 (w1 (w2 (vQ tab rfl (vQ tab rfl (vQ tab rfl (vQ tab rfl (vQ tab rfl (w4 (w3 (vc_true rfl (w1 (w2 (vQ tab rfl (w4 (w3 (vw_ret (q_thenr ?_))))))))))))))))))))))
  exact ⟨⟨.inr rfl, rfl⟩, fun _ => rfl, fun _ => rfl, trivial⟩
set_option maxHeartbeats 4000000 in
theorem done_good {V : Heap} {n i : Nat} {s : ByteArray} {a : Int} (hV : V i = some (readO s a)) :
    Tri Try.prog 52 [.pointer (some ⟨i, 0, none⟩)] n 0 V (fun u L => u = .bool (a == (s.size : Int)) ∧ L = []) := by
  refine reads_of_vw (K := 1) (argsI := [.pointer (some ⟨0, 0, none⟩)]) tab Try.func52 rfl rfl (by simp [Try.f52]) [.own i] [readO s a] rfl (.own hV (ov_readO rfl) .nil) (by simp [ownNames, *]) (by simp [ownNames, lookNames, *]) (al_cons (.val (rel_ptr rfl)) al_nil) (seen_of (sn_own sn_nil)) (.bool _) ?_
  refine w1 (w2 (vQ tab rfl (w4 (w3 (w1 (vw_draw mixed (dq_op tab rfl rfl rfl rfl (dq_op tab rfl rfl rfl rfl (dq_op tab rfl rfl rfl rfl (dq_op tab rfl rfl rfl rfl (dq_op tab rfl rfl rfl rfl (dq_op tab rfl rfl rfl rfl (dq_op tab ⟨_, _, rfl, rfl, rfl⟩ rfl rfl rfl (dq_op tab ⟨_, _, rfl, rfl, rfl⟩ rfl rfl rfl (dq_op tab ⟨_, _, rfl, rfl, rfl⟩ rfl rfl rfl (dq_op tab ⟨_, _, rfl, rfl, rfl⟩ rfl rfl rfl (dq_op tab ⟨_, _, rfl, rfl, rfl⟩ rfl rfl rfl (dq_op tab ⟨_, _, rfl, rfl, rfl⟩ rfl rfl rfl (dq_op tab ⟨_, _, rfl, rfl, rfl⟩ rfl rfl rfl (dq_op tab ⟨_, _, rfl, rfl, rfl⟩ rfl rfl rfl (dq_op tab ⟨_, _, rfl, rfl, rfl⟩ rfl rfl rfl (dq_op tab ⟨_, _, rfl, rfl, rfl⟩ rfl rfl rfl (dq_op tab rfl rfl rfl rfl ?_)))))))))))))))))))))))
  refine dq_op tab rfl rfl rfl rfl (vd_nil (by kernel_rfl) ?_)
  refine w3 (vw_ret ?_)
  exact ⟨⟨.inr rfl, rfl⟩, fun _ => rfl, trivial⟩
set_option maxHeartbeats 4000000 in
theorem done_bad {V : Heap} {n i j : Nat} {s : ByteArray} {e p : Int} (hV : V i = some (readX s j)) (hF : V j = some (faultO p e)) (hij : i ≠ j) :
    Tri Try.prog 52 [.pointer (some ⟨i, 0, none⟩)] n 0 V (fun u L => u = .bool false ∧ L = []) := by
  refine reads_of_vw (K := 2) (argsI := [.pointer (some ⟨0, 0, none⟩)]) tab Try.func52 rfl rfl (by simp [Try.f52]) [.own i, .own j] [readX s 1, faultO p e] rfl (.own hV (ov_readX (ownR_of rfl)) (.own hF (ov_fault) .nil)) (by simp [ownNames, *]) (by simp [ownNames, lookNames, *]) (al_cons (.val (rel_ptr rfl)) al_nil) (seen_of (sn_own (sn_own sn_nil))) (.bool _) ?_
  refine w1 (w2 (vQ tab rfl (w4 (w3 (w1 (vw_draw mixed (dq_op tab rfl rfl rfl rfl (dq_op tab rfl rfl rfl rfl (dq_op tab rfl rfl rfl rfl (dq_op tab rfl rfl rfl rfl (dq_op tab rfl rfl rfl rfl (dq_op tab rfl rfl rfl rfl (dk_op ⟨_, _, rfl, rfl, rfl⟩ rfl (dk_op ⟨_, _, rfl, rfl, rfl⟩ rfl (dk_op ⟨_, _, rfl, rfl, rfl⟩ rfl (dk_op ⟨_, _, rfl, rfl, rfl⟩ rfl (dk_op ⟨_, _, rfl, rfl, rfl⟩ rfl (dk_op ⟨_, _, rfl, rfl, rfl⟩ rfl (dk_op ⟨_, _, rfl, rfl, rfl⟩ rfl (dk_op ⟨_, _, rfl, rfl, rfl⟩ rfl (dk_op ⟨_, _, rfl, rfl, rfl⟩ rfl (dk_op ⟨_, _, rfl, rfl, rfl⟩ rfl (dq_op tab rfl rfl rfl rfl ?_)))))))))))))))))))))))
  refine dq_op tab rfl rfl rfl rfl (vd_nil (by kernel_rfl) ?_)
  refine w3 (vw_ret ?_)
  exact ⟨⟨.inr rfl, rfl⟩, fun _ => rfl, fun _ => rfl, trivial⟩
theorem getnum_as {s : ByteArray} {a x t e p : Int} (h : getN (B s) a = (x, t, e, p)) (hs : s.size ≤ 9223372036854775807) : Fun Try.prog 71 [.string s, .int .i64 a] (.tuple #[.int .i64 x, .int .i64 t, .int .i64 e]) := by
  rw [← getR_eq h]; exact getnum_fun s a hs
set_option maxHeartbeats 4000000 in
theorem rr_good {V : Heap} {n i : Nat} {s : ByteArray} {a x t : Int} (hV : V i = some (rreadO s a false)) (h : getN (B s) a = (x, t, 0, 0)) (hs : s.size ≤ 9223372036854775807) (hin : i < n) :
    Tri Try.prog 53 [.pointer (some ⟨i, 0, none⟩)] n 0 V (fun u L => u = .int .i64 x ∧ L = [(i, some (rreadO s t false))]) := by
  refine call_of_vw (K := 1) (argsI := [.pointer (some ⟨0, 0, none⟩)]) tab Try.func53 rfl rfl (by simp [Try.f53]) [.own i] [rreadO s a false] rfl (.own hV (ov_rreadO rfl rfl) .nil) (by simp [ownNames, *]) (by simp [ownNames, lookNames, *]) (by simp [ownNames, *]) (al_cons (.val (rel_ptr rfl)) al_nil) (seen_of (sn_own sn_nil)) ?_
  refine w1 (w2 (vQ tab rfl (w4 (w3 (w1 (vw_draw mixed (dq_op tab rfl rfl rfl rfl (dq_op tab rfl rfl rfl rfl (dq_op tab rfl rfl rfl rfl (dq_op tab rfl rfl rfl rfl (dq_op tab rfl rfl rfl rfl (dq_op tab rfl rfl rfl rfl (dq_op tab rfl rfl rfl rfl (dq_op tab rfl rfl rfl rfl (df_op rfl rfl rfl rfl rfl callable_71 (getnum_as h hs) (dq_op tab rfl rfl rfl rfl (dq_op tab rfl rfl rfl rfl (dq_op tab rfl rfl rfl rfl (dq_op tab rfl rfl rfl rfl (dq_op tab rfl rfl rfl rfl (dq_op tab rfl rfl rfl rfl (dq_op tab rfl rfl rfl rfl (vd_nil (by kernel_rfl) ?_)))))))))))))))))))))))
  refine w3 (w1 (w1 (w2 (vQ tab rfl (vQ tab rfl (vQ tab rfl (vQ tab rfl (vQ tab rfl (vQ tab rfl (vQ tab rfl (vQ tab rfl (w4 (w3 (vc_false rfl (vw_skip (w3 (w1 (w2 (vQ tab rfl (vQ tab rfl (vQ tab rfl (vQ tab rfl (vS tab rfl ?_)))))))))))))))))))))))
  refine w4 (w3 (w1 (w2 (vQ tab rfl (vQ tab rfl (w4 (w3 (vw_ret ?_))))))))
  exact out_mk [] (.inr rfl) ⟨rfl, rfl⟩ rfl (.int _ _) (op_cons (sigma_own (a := 0) (by simp [ownNames]) rfl) rfl rfl (ov_rreadO rfl rfl) rfl op_nil) ⟨fun _ => by simp [lkp], trivial⟩
set_option maxHeartbeats 4000000 in
theorem rr_fail {V : Heap} {n i : Nat} {s : ByteArray} {a e p : Int} (hV : V i = some (rreadO s a false)) (h : getN (B s) a = (0, 0, e, p)) (he : e ≠ 0) (hs : s.size ≤ 9223372036854775807) (hin : i < n) :
    Tri Try.prog 53 [.pointer (some ⟨i, 0, none⟩)] n 0 V (fun u L => u = .int .i64 0 ∧ L = [(i, some (rreadO s a true))]) := by
  refine call_of_vw (K := 1) (argsI := [.pointer (some ⟨0, 0, none⟩)]) tab Try.func53 rfl rfl (by simp [Try.f53]) [.own i] [rreadO s a false] rfl (.own hV (ov_rreadO rfl rfl) .nil) (by simp [ownNames, *]) (by simp [ownNames, lookNames, *]) (by simp [ownNames, *]) (al_cons (.val (rel_ptr rfl)) al_nil) (seen_of (sn_own sn_nil)) ?_
  have hne : (e != 0) = true := by simpa using he
  refine w1 (w2 (vQ tab rfl (w4 (w3 (w1 (vw_draw mixed (dq_op tab rfl rfl rfl rfl (dq_op tab rfl rfl rfl rfl (dq_op tab rfl rfl rfl rfl (dq_op tab rfl rfl rfl rfl (dq_op tab rfl rfl rfl rfl (dq_op tab rfl rfl rfl rfl (dq_op tab rfl rfl rfl rfl (dq_op tab rfl rfl rfl rfl (df_op rfl rfl rfl rfl rfl callable_71 (getnum_as h hs) (dq_op tab rfl rfl rfl rfl (dq_op tab rfl rfl rfl rfl (dq_op tab rfl rfl rfl rfl (dq_op tab rfl rfl rfl rfl (dq_op tab rfl rfl rfl rfl (dq_op tab rfl rfl rfl rfl (dq_op tab rfl rfl rfl rfl (vd_nil (by kernel_rfl) ?_)))))))))))))))))))))))
  refine w3 (w1 (w1 (w2 (vQ tab rfl (vQ tab rfl (vQ tab rfl (vQ tab rfl (vQ tab rfl (vQ tab rfl (vQ tab rfl (vQ tab rfl (w4 (w3 (vcd_true rfl (by simp only [hne, decide_eq_true_eq, decide_eq_false_iff_not, Bool.not_eq_eq_eq_not, Bool.not_true, Bool.not_false, bne_iff_ne, bne_eq_false_iff_eq, beq_iff_eq, beq_eq_false_iff_ne, ne_eq, beq_self_eq_true, bne_self_eq_false, Bool.and_eq_true, Bool.and_eq_false_iff, Bool.or_eq_true, Bool.or_eq_false_iff, and_self, and_true, true_and, Bool.false_eq_true, Bool.true_eq_false, not_false_eq_true, not_true_eq_false]; first | done | omega) ?_))))))))))))))
  refine w1 (w2 (vQ tab rfl (vQ tab rfl (vQ tab rfl (vS tab rfl (w4 (w3 (w1 (w2 (vQ tab rfl (w4 (w3 (vw_ret (q_thenr ?_))))))))))))))
  exact out_mk [] (.inr rfl) ⟨rfl, rfl⟩ rfl (.int _ _) (op_cons (sigma_own (a := 0) (by simp [ownNames]) rfl) rfl rfl (ov_rreadO rfl rfl) rfl op_nil) ⟨fun _ => by simp [lkp], trivial⟩
set_option maxHeartbeats 4000000 in
theorem rr_bad {V : Heap} {n i : Nat} {s : ByteArray} {a : Int} (hV : V i = some (rreadO s a true)) (hs : s.size ≤ 9223372036854775807) (hin : i < n) :
    Tri Try.prog 53 [.pointer (some ⟨i, 0, none⟩)] n 0 V (fun u L => u = .int .i64 0 ∧ L = [(i, some (rreadO s a true))]) := by
  refine call_of_vw (K := 1) (argsI := [.pointer (some ⟨0, 0, none⟩)]) tab Try.func53 rfl rfl (by simp [Try.f53]) [.own i] [rreadO s a true] rfl (.own hV (ov_rreadO rfl rfl) .nil) (by simp [ownNames, *]) (by simp [ownNames, lookNames, *]) (by simp [ownNames, *]) (al_cons (.val (rel_ptr rfl)) al_nil) (seen_of (sn_own sn_nil)) ?_
  obtain ⟨x, t, e, p, h⟩ : ∃ x t e p, getN (B s) a = (x, t, e, p) := ⟨_, _, _, _, rfl⟩
  refine w1 (w2 (vQ tab rfl (w4 (w3 (w1 (vw_draw mixed (dq_op tab rfl rfl rfl rfl (dq_op tab rfl rfl rfl rfl (dq_op tab rfl rfl rfl rfl (dq_op tab rfl rfl rfl rfl (dq_op tab rfl rfl rfl rfl (dq_op tab rfl rfl rfl rfl (dq_op tab rfl rfl rfl rfl (dq_op tab rfl rfl rfl rfl (df_op rfl rfl rfl rfl rfl callable_71 (getnum_as h hs) (dq_op tab rfl rfl rfl rfl (dq_op tab rfl rfl rfl rfl (dq_op tab rfl rfl rfl rfl (dq_op tab rfl rfl rfl rfl (dq_op tab rfl rfl rfl rfl (dq_op tab rfl rfl rfl rfl (dq_op tab rfl rfl rfl rfl (vd_nil (by kernel_rfl) ?_)))))))))))))))))))))))
  refine w3 (w1 (w1 (w2 (vQ tab rfl (vQ tab rfl (vQ tab rfl (vQ tab rfl (vQ tab rfl (vK rfl (vK rfl (vQ tab rfl (w4 (w3 (vc_true rfl (w1 (w2 (vQ tab rfl (vQ tab rfl (vQ tab rfl (vS tab rfl (w4 (w3 (w1 ?_)))))))))))))))))))))))
  refine w2 (vQ tab rfl (w4 (w3 (vw_ret (q_thenr ?_)))))
  exact out_mk [] (.inr rfl) ⟨rfl, rfl⟩ rfl (.int _ _) (op_cons (sigma_own (a := 0) (by simp [ownNames]) rfl) rfl rfl (ov_rreadO rfl rfl) rfl op_nil) ⟨fun _ => by simp [lkp], trivial⟩
end Go.Proofs.Yticaicdopfpknaa
