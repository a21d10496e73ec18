/- Readers: texts. -/
import Derived.Test.YticaicdopfpknaaVmSh
import Derived.Test.YticaicdopfpknaaFd5
namespace Go.Proofs.Yticaicdopfpknaa
open Go Vm IntWalk
set_option linter.unusedVariables false
set_option linter.unusedSimpArgs false
set_option maxHeartbeats 4000000 in
theorem rtext_good {V : Heap} {n i : Nat} {s : ByteArray} {a tT : Int} {t : Bs} (hV : V i = some (readO s a)) (h : GoodT (B s) a t tT) (hs : s.size ≤ 9223372036854775807) (hin : i < n) :
    Tri Try.prog 63 [.pointer (some ⟨i, 0, none⟩)] n 0 V (fun u L => u = .string (mkB t) ∧ L = [(i, some (readO s tT))]) := by
  refine call_of_vw (K := 1) (argsI := [.pointer (some ⟨0, 0, none⟩)]) tab Try.func63 rfl rfl (by simp [Try.f63]) [.own i] [readO s a] rfl (.own hV (ov_readO rfl) .nil) (by simp [ownNames, *]) (by simp [ownNames, lookNames, *]) (by simp [ownNames, *]) (al_cons (.val (rel_ptr rfl)) al_nil) (seen_of (sn_own sn_nil)) ?_
  refine w1 (w2 (vQ tab rfl (w4 (w3 (w1 (w1 (w2 (vQ tab rfl (vQ tab rfl (vQ tab rfl (vQ tab rfl (vQ tab rfl (w4 (w3 (vc_false rfl (vw_skip (w3 (w1 (vw_draw mixed (dq_op tab rfl rfl rfl rfl (dq_op tab rfl rfl rfl rfl (dq_op tab rfl rfl rfl rfl (dq_op tab rfl rfl rfl rfl ?_)))))))))))))))))))))))
  refine dq_op tab rfl rfl rfl rfl (dq_op tab rfl rfl rfl rfl (dq_op tab rfl rfl rfl rfl (dq_op tab rfl rfl rfl rfl (df_op rfl rfl rfl rfl rfl callable_72 (ftext_good h hs) (dq_op tab rfl rfl rfl rfl (dq_op tab rfl rfl rfl rfl (dq_op tab rfl rfl rfl rfl (dq_op tab rfl rfl rfl rfl (dq_op tab rfl rfl rfl rfl (dq_op tab rfl rfl rfl rfl (dq_op tab rfl rfl rfl rfl (vd_nil (by kernel_rfl) ?_))))))))))))
  refine w3 (w1 (w2 (vQ tab rfl (vQ tab rfl (vQ tab rfl (vQ tab rfl (vQ tab rfl (vQ tab rfl (vS tab rfl (vQ tab rfl (vQ tab rfl (vS tab rfl (w4 (w3 (w1 (w2 (vQ tab rfl (vQ tab rfl (w4 (w3 (vw_ret ?_)))))))))))))))))))))
  exact out_mk [] (.inr rfl) ⟨rfl, rfl⟩ rfl (.string _) (op_cons (sigma_own (a := 0) (by simp [ownNames]) rfl) rfl rfl (ov_readO rfl) rfl op_nil) ⟨fun _ => by simp [lkp], trivial⟩
set_option maxHeartbeats 4000000 in
theorem rtext_fail {V : Heap} {n i : Nat} {s : ByteArray} {a e p : Int} (hV : V i = some (readO s a)) (h : getN (B s) a = (0, 0, e, p)) (he : e ≠ 0) (hs : s.size ≤ 9223372036854775807) (hin : i < n) :
    Tri Try.prog 63 [.pointer (some ⟨i, 0, none⟩)] n 2 V (fun u L => u = .string ⟨#[]⟩ ∧ L = [(i, some (readX s n)), (n, some (fault2O a (n + 1))), (n + 1, some (faultO p e))]) := by
  refine call_of_vw (K := 1) (argsI := [.pointer (some ⟨0, 0, none⟩)]) tab Try.func63 rfl rfl (by simp [Try.f63]) [.own i] [readO s a] rfl (.own hV (ov_readO rfl) .nil) (by simp [ownNames, *]) (by simp [ownNames, lookNames, *]) (by simp [ownNames, *]) (al_cons (.val (rel_ptr rfl)) al_nil) (seen_of (sn_own sn_nil)) ?_
  refine w1 (w2 (vQ tab rfl (w4 (w3 (w1 (w1 (w2 (vQ tab rfl (vQ tab rfl (vQ tab rfl (vQ tab rfl (vQ tab rfl (w4 (w3 (vc_false rfl (vw_skip (w3 (w1 (vw_draw mixed (dq_op tab rfl rfl rfl rfl (dq_op tab rfl rfl rfl rfl (dq_op tab rfl rfl rfl rfl (dq_op tab rfl rfl rfl rfl ?_)))))))))))))))))))))))
  refine dq_op tab rfl rfl rfl rfl (dq_op tab rfl rfl rfl rfl (dq_op tab rfl rfl rfl rfl (dq_op tab rfl rfl rfl rfl (dt_op [] rfl rfl rfl rfl rfl callable_72 (ftext_fail h he hs) (dq_op tab rfl rfl rfl rfl (dq_op tab rfl rfl rfl rfl (dq_op tab rfl rfl rfl rfl (dq_op tab rfl rfl rfl rfl (dq_op tab rfl rfl rfl rfl (dq_op tab rfl rfl rfl rfl (dq_op tab rfl rfl rfl rfl (vd_nil (by kernel_rfl) ?_))))))))))))
  refine w3 (w1 (w2 (vQ tab rfl (vQ tab rfl (vQ tab rfl (vQ tab rfl (vQ tab rfl (vQ tab rfl (vS tab rfl (vQ tab rfl (vQ tab rfl (vS tab rfl (w4 (w3 (w1 (w2 (vQ tab rfl (vQ tab rfl (w4 (w3 (vw_ret ?_)))))))))))))))))))))
  exact out_mk [1, 2] (.inr rfl) ⟨rfl, rfl⟩ rfl (.string _) (op_cons (sigma_own (a := 0) (by simp [ownNames]) rfl) rfl rfl (ov_readX (sigma_at (i := 0) (by simp [ownNames, *]) rfl)) rfl (op_cons (sigma_at (i := 0) (by simp [ownNames, *]) rfl) rfl rfl (ov_fault2 (sigma_at (i := 1) (by simp [ownNames, *]) rfl)) rfl (op_cons (sigma_at (i := 1) (by simp [ownNames, *]) rfl) rfl rfl ov_fault rfl op_nil))) ⟨fun _ => by simp [lkp], trivial⟩
set_option maxHeartbeats 4000000 in
theorem rtext_cut {V : Heap} {n i : Nat} {s : ByteArray} {a e p : Int} (hV : V i = some (readO s a)) (h : CutT (B s) a e p) (hs : s.size ≤ 9223372036854775807) (hin : i < n) :
    Tri Try.prog 63 [.pointer (some ⟨i, 0, none⟩)] n 1 V (fun u L => u = .string ⟨#[]⟩ ∧ L = [(i, some (readX s n)), (n, some (faultO p e))]) := by
  refine call_of_vw (K := 1) (argsI := [.pointer (some ⟨0, 0, none⟩)]) tab Try.func63 rfl rfl (by simp [Try.f63]) [.own i] [readO s a] rfl (.own hV (ov_readO rfl) .nil) (by simp [ownNames, *]) (by simp [ownNames, lookNames, *]) (by simp [ownNames, *]) (al_cons (.val (rel_ptr rfl)) al_nil) (seen_of (sn_own sn_nil)) ?_
  refine w1 (w2 (vQ tab rfl (w4 (w3 (w1 (w1 (w2 (vQ tab rfl (vQ tab rfl (vQ tab rfl (vQ tab rfl (vQ tab rfl (w4 (w3 (vc_false rfl (vw_skip (w3 (w1 (vw_draw mixed (dq_op tab rfl rfl rfl rfl (dq_op tab rfl rfl rfl rfl (dq_op tab rfl rfl rfl rfl (dq_op tab rfl rfl rfl rfl ?_)))))))))))))))))))))))
  refine dq_op tab rfl rfl rfl rfl (dq_op tab rfl rfl rfl rfl (dq_op tab rfl rfl rfl rfl (dq_op tab rfl rfl rfl rfl (dt_op [] rfl rfl rfl rfl rfl callable_72 (ftext_cut h hs) (dq_op tab rfl rfl rfl rfl (dq_op tab rfl rfl rfl rfl (dq_op tab rfl rfl rfl rfl (dq_op tab rfl rfl rfl rfl (dq_op tab rfl rfl rfl rfl (dq_op tab rfl rfl rfl rfl (dq_op tab rfl rfl rfl rfl (vd_nil (by kernel_rfl) ?_))))))))))))
  refine w3 (w1 (w2 (vQ tab rfl (vQ tab rfl (vQ tab rfl (vQ tab rfl (vQ tab rfl (vQ tab rfl (vS tab rfl (vQ tab rfl (vQ tab rfl (vS tab rfl (w4 (w3 (w1 (w2 (vQ tab rfl (vQ tab rfl (w4 (w3 (vw_ret ?_)))))))))))))))))))))
  exact out_mk [1] (.inr rfl) ⟨rfl, rfl⟩ rfl (.string _) (op_cons (sigma_own (a := 0) (by simp [ownNames]) rfl) rfl rfl (ov_readX (sigma_at (i := 0) (by simp [ownNames, *]) rfl)) rfl (op_cons (sigma_at (i := 0) (by simp [ownNames, *]) rfl) rfl rfl ov_fault rfl op_nil)) ⟨fun _ => by simp [lkp], trivial⟩
set_option maxHeartbeats 4000000 in
theorem rtext_bad {V : Heap} {n i j : Nat} {s : ByteArray} {e p : Int} (hV : V i = some (readX s j)) (hF : V j = some (faultO p e)) (hij : i ≠ j) :
    Tri Try.prog 63 [.pointer (some ⟨i, 0, none⟩)] n 0 V (fun u L => u = .string ⟨#[]⟩ ∧ L = []) := by
  refine reads_of_vw (K := 2) (argsI := [.pointer (some ⟨0, 0, none⟩)]) tab Try.func63 rfl rfl (by simp [Try.f63]) [.own i, .own j] [readX s 1, faultO p e] rfl (.own hV (ov_readX (ownR_of rfl)) (.own hF (ov_fault) .nil)) (by simp [ownNames, *]) (by simp [ownNames, lookNames, *]) (al_cons (.val (rel_ptr rfl)) al_nil) (seen_of (sn_own (sn_own sn_nil))) (.string _) ?_
  refine w1 (w2 (vQ tab rfl (w4 (w3 (w1 (w1 (w2 (vQ tab rfl (vQ tab rfl (vQ tab rfl (vQ tab rfl (vQ tab rfl (w4 (w3 (vc_true rfl (w1 (w2 (vQ tab rfl (w4 (w3 (vw_ret (q_thenr ?_))))))))))))))))))))))
  exact ⟨⟨.inr rfl, rfl⟩, fun _ => rfl, fun _ => rfl, trivial⟩
set_option maxHeartbeats 4000000 in
theorem done_bad2 {V : Heap} {n i j l : Nat} {s : ByteArray} {a e p : Int} (hV : V i = some (readX s j)) (hF : V j = some (fault2O a l)) (hG : V l = some (faultO p e)) (hij : i ≠ j) (hil : i ≠ l) (hjl : j ≠ l) :
    Tri Try.prog 52 [.pointer (some ⟨i, 0, none⟩)] n 0 V (fun u L => u = .bool false ∧ L = []) := by
  refine reads_of_vw (K := 3) (argsI := [.pointer (some ⟨0, 0, none⟩)]) tab Try.func52 rfl rfl (by simp [Try.f52]) [.own i, .own j, .own l] [readX s 1, fault2O a 2, faultO p e] rfl (.own hV (ov_readX (ownR_of rfl)) (.own hF (ov_fault2 (ownR_of rfl)) (.own hG (ov_fault) .nil))) (by simp [ownNames, *]) (by simp [ownNames, lookNames, *]) (al_cons (.val (rel_ptr rfl)) al_nil) (seen_of (sn_own (sn_own (sn_own sn_nil)))) (.bool _) ?_
  refine w1 (w2 (vQ tab rfl (w4 (w3 (w1 (vw_draw mixed (dq_op tab rfl rfl rfl rfl (dq_op tab rfl rfl rfl rfl (dq_op tab rfl rfl rfl rfl (dq_op tab rfl rfl rfl rfl (dq_op tab rfl rfl rfl rfl (dq_op tab rfl rfl rfl rfl (dk_op ⟨_, _, rfl, rfl, rfl⟩ rfl (dk_op ⟨_, _, rfl, rfl, rfl⟩ rfl (dk_op ⟨_, _, rfl, rfl, rfl⟩ rfl (dk_op ⟨_, _, rfl, rfl, rfl⟩ rfl (dk_op ⟨_, _, rfl, rfl, rfl⟩ rfl (dk_op ⟨_, _, rfl, rfl, rfl⟩ rfl (dk_op ⟨_, _, rfl, rfl, rfl⟩ rfl (dk_op ⟨_, _, rfl, rfl, rfl⟩ rfl (dk_op ⟨_, _, rfl, rfl, rfl⟩ rfl (dk_op ⟨_, _, rfl, rfl, rfl⟩ rfl (dq_op tab rfl rfl rfl rfl ?_)))))))))))))))))))))))
  refine dq_op tab rfl rfl rfl rfl (vd_nil (by kernel_rfl) ?_)
  refine w3 (vw_ret ?_)
  exact ⟨⟨.inr rfl, rfl⟩, fun _ => rfl, fun _ => rfl, fun _ => rfl, trivial⟩
set_option maxHeartbeats 4000000 in
theorem rrtext_good {V : Heap} {n i : Nat} {s : ByteArray} {a tT : Int} {t : Bs} (hV : V i = some (rreadO s a false)) (h : GoodT (B s) a t tT) (hs : s.size ≤ 9223372036854775807) (hin : i < n) :
    Tri Try.prog 64 [.pointer (some ⟨i, 0, none⟩)] n 0 V (fun u L => u = .string (mkB t) ∧ L = [(i, some (rreadO s tT false))]) := by
  refine call_of_vw (K := 1) (argsI := [.pointer (some ⟨0, 0, none⟩)]) tab Try.func64 rfl rfl (by simp [Try.f64]) [.own i] [rreadO s a false] rfl (.own hV (ov_rreadO rfl rfl) .nil) (by simp [ownNames, *]) (by simp [ownNames, lookNames, *]) (by simp [ownNames, *]) (al_cons (.val (rel_ptr rfl)) al_nil) (seen_of (sn_own sn_nil)) ?_
  refine w1 (w2 (vQ tab rfl (w4 (w3 (w1 (vw_draw mixed (dq_op tab rfl rfl rfl rfl (dq_op tab rfl rfl rfl rfl (dq_op tab rfl rfl rfl rfl (dq_op tab rfl rfl rfl rfl (dq_op tab rfl rfl rfl rfl (dq_op tab rfl rfl rfl rfl (dq_op tab rfl rfl rfl rfl (dq_op tab rfl rfl rfl rfl (df_op rfl rfl rfl rfl rfl callable_73 (gettext_good h hs) (dq_op tab rfl rfl rfl rfl (dq_op tab rfl rfl rfl rfl (dq_op tab rfl rfl rfl rfl (dq_op tab rfl rfl rfl rfl (dq_op tab rfl rfl rfl rfl (dq_op tab rfl rfl rfl rfl (dq_op tab rfl rfl rfl rfl (vd_nil (by kernel_rfl) ?_)))))))))))))))))))))))
  refine w3 (w1 (w1 (w2 (vQ tab rfl (vQ tab rfl (vQ tab rfl (vQ tab rfl (vQ tab rfl (vQ tab rfl (vQ tab rfl (vQ tab rfl (w4 (w3 (vc_false rfl (vw_skip (w3 (w1 (w2 (vQ tab rfl (vQ tab rfl (vQ tab rfl (vQ tab rfl (vS tab rfl ?_)))))))))))))))))))))))
  refine w4 (w3 (w1 (w2 (vQ tab rfl (vQ tab rfl (w4 (w3 (vw_ret ?_))))))))
  exact out_mk [] (.inr rfl) ⟨rfl, rfl⟩ rfl (.string _) (op_cons (sigma_own (a := 0) (by simp [ownNames]) rfl) rfl rfl (ov_rreadO rfl rfl) rfl op_nil) ⟨fun _ => by simp [lkp], trivial⟩
set_option maxHeartbeats 4000000 in
theorem rrtext_fail {V : Heap} {n i : Nat} {s : ByteArray} {a e : Int} (hV : V i = some (rreadO s a false)) (h : BadT (B s) a e) (he : e ≠ 0) (hs : s.size ≤ 9223372036854775807) (hin : i < n) :
    Tri Try.prog 64 [.pointer (some ⟨i, 0, none⟩)] n 0 V (fun u L => u = .string ⟨#[]⟩ ∧ L = [(i, some (rreadO s a true))]) := by
  refine call_of_vw (K := 1) (argsI := [.pointer (some ⟨0, 0, none⟩)]) tab Try.func64 rfl rfl (by simp [Try.f64]) [.own i] [rreadO s a false] rfl (.own hV (ov_rreadO rfl rfl) .nil) (by simp [ownNames, *]) (by simp [ownNames, lookNames, *]) (by simp [ownNames, *]) (al_cons (.val (rel_ptr rfl)) al_nil) (seen_of (sn_own sn_nil)) ?_
  have hne : (e != 0) = true := by simpa using he
  refine w1 (w2 (vQ tab rfl (w4 (w3 (w1 (vw_draw mixed (dq_op tab rfl rfl rfl rfl (dq_op tab rfl rfl rfl rfl (dq_op tab rfl rfl rfl rfl (dq_op tab rfl rfl rfl rfl (dq_op tab rfl rfl rfl rfl (dq_op tab rfl rfl rfl rfl (dq_op tab rfl rfl rfl rfl (dq_op tab rfl rfl rfl rfl (df_op rfl rfl rfl rfl rfl callable_73 (gettext_bad h hs) (dq_op tab rfl rfl rfl rfl (dq_op tab rfl rfl rfl rfl (dq_op tab rfl rfl rfl rfl (dq_op tab rfl rfl rfl rfl (dq_op tab rfl rfl rfl rfl (dq_op tab rfl rfl rfl rfl (dq_op tab rfl rfl rfl rfl (vd_nil (by kernel_rfl) ?_)))))))))))))))))))))))
  refine w3 (w1 (w1 (w2 (vQ tab rfl (vQ tab rfl (vQ tab rfl (vQ tab rfl (vQ tab rfl (vQ tab rfl (vQ tab rfl (vQ tab rfl (w4 (w3 (vcd_true rfl (by simp only [hne, decide_eq_true_eq, decide_eq_false_iff_not, Bool.not_eq_eq_eq_not, Bool.not_true, Bool.not_false, bne_iff_ne, bne_eq_false_iff_eq, beq_iff_eq, beq_eq_false_iff_ne, ne_eq, beq_self_eq_true, bne_self_eq_false, Bool.and_eq_true, Bool.and_eq_false_iff, Bool.or_eq_true, Bool.or_eq_false_iff, and_self, and_true, true_and, Bool.false_eq_true, Bool.true_eq_false, not_false_eq_true, not_true_eq_false]; first | done | omega) ?_))))))))))))))
  refine w1 (w2 (vQ tab rfl (vQ tab rfl (vQ tab rfl (vS tab rfl (w4 (w3 (w1 (w2 (vQ tab rfl (w4 (w3 (vw_ret (q_thenr ?_))))))))))))))
  exact out_mk [] (.inr rfl) ⟨rfl, rfl⟩ rfl (.string _) (op_cons (sigma_own (a := 0) (by simp [ownNames]) rfl) rfl rfl (ov_rreadO rfl rfl) rfl op_nil) ⟨fun _ => by simp [lkp], trivial⟩
theorem gettext_any {s : ByteArray} {a : Int} (hs : s.size ≤ 9223372036854775807) : ∃ t tT e, Fun Try.prog 73 [.string s, .int .i64 a] (.tuple #[.string t, .int .i64 tT, .int .i64 e]) := by
  by_cases h0 : 0 ≤ a ∧ a ≤ (B s).length
  · cases h : rdT ((B s).drop a.toNat) with
    | none => obtain ⟨e, h1, _⟩ := getTR_none h0.1 h0.2 h; exact ⟨_, _, _, gettext_bad h1 hs⟩
    | some r => obtain ⟨t, q⟩ := r; obtain ⟨tT, h1, _⟩ := getT_some h0.1 h0.2 h; exact ⟨_, _, _, gettext_good h1 hs⟩
  · have hg : getN (B s) a = (0, 0, 100, a) := by unfold getN; rw [if_pos (by omega)]
    exact ⟨_, _, _, gettext_bad (.inl ⟨a, hg, by decide⟩) hs⟩
set_option maxHeartbeats 4000000 in
theorem rrtext_bad {V : Heap} {n i : Nat} {s : ByteArray} {a : Int} (hV : V i = some (rreadO s a true)) (hs : s.size ≤ 9223372036854775807) (hin : i < n) :
    Tri Try.prog 64 [.pointer (some ⟨i, 0, none⟩)] n 0 V (fun u L => u = .string ⟨#[]⟩ ∧ L = [(i, some (rreadO s a true))]) := by
  refine call_of_vw (K := 1) (argsI := [.pointer (some ⟨0, 0, none⟩)]) tab Try.func64 rfl rfl (by simp [Try.f64]) [.own i] [rreadO s a true] rfl (.own hV (ov_rreadO rfl rfl) .nil) (by simp [ownNames, *]) (by simp [ownNames, lookNames, *]) (by simp [ownNames, *]) (al_cons (.val (rel_ptr rfl)) al_nil) (seen_of (sn_own sn_nil)) ?_
  obtain ⟨t, tT, e, h⟩ := gettext_any (s := s) (a := a) hs
  refine w1 (w2 (vQ tab rfl (w4 (w3 (w1 (vw_draw mixed (dq_op tab rfl rfl rfl rfl (dq_op tab rfl rfl rfl rfl (dq_op tab rfl rfl rfl rfl (dq_op tab rfl rfl rfl rfl (dq_op tab rfl rfl rfl rfl (dq_op tab rfl rfl rfl rfl (dq_op tab rfl rfl rfl rfl (dq_op tab rfl rfl rfl rfl (df_op rfl rfl rfl rfl rfl callable_73 (h) (dq_op tab rfl rfl rfl rfl (dq_op tab rfl rfl rfl rfl (dq_op tab rfl rfl rfl rfl (dq_op tab rfl rfl rfl rfl (dq_op tab rfl rfl rfl rfl (dq_op tab rfl rfl rfl rfl (dq_op tab rfl rfl rfl rfl (vd_nil (by kernel_rfl) ?_)))))))))))))))))))))))
  refine w3 (w1 (w1 (w2 (vQ tab rfl (vQ tab rfl (vQ tab rfl (vQ tab rfl (vQ tab rfl (vK rfl (vK rfl (vQ tab rfl (w4 (w3 (vc_true rfl (w1 (w2 (vQ tab rfl (vQ tab rfl (vQ tab rfl (vS tab rfl (w4 (w3 (w1 ?_)))))))))))))))))))))))
  refine w2 (vQ tab rfl (w4 (w3 (vw_ret (q_thenr ?_)))))
  exact out_mk [] (.inr rfl) ⟨rfl, rfl⟩ rfl (.string _) (op_cons (sigma_own (a := 0) (by simp [ownNames]) rfl) rfl rfl (ov_rreadO rfl rfl) rfl op_nil) ⟨fun _ => by simp [lkp], trivial⟩
end Go.Proofs.Yticaicdopfpknaa
