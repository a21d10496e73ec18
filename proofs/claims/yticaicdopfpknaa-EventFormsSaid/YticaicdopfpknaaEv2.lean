/- Package event: Put, Get. -/
import Derived.Test.YticaicdopfpknaaVmSh
import Derived.Test.YticaicdopfpknaaEv1
import Derived.Test.YticaicdopfpknaaFd4
import Derived.Test.YticaicdopfpknaaCl0
namespace Go.Proofs.Yticaicdopfpknaa
open Go Vm IntWalk
set_option linter.unusedVariables false
set_option linter.unusedSimpArgs false
def evtPut (a : EventV) : ByteArray × Int := if evtMay a = true then (mkB (evtC.put a), 0) else (⟨#[]⟩, 700)
theorem evtPut_ok {a : EventV} (h : evtMay a = true) : evtPut a = (mkB (evtC.put a), 0) := if_pos h
theorem evtPut_no {a : EventV} (h : evtMay a = false) : evtPut a = (⟨#[]⟩, 700) := if_neg (by rw [h]; decide)
set_option maxHeartbeats 16000000 in
theorem evt_put (a : EventV) : Fun Try.prog 27 [evtV a] (.tuple #[.string (evtPut a).1, .int .i64 (evtPut a).2]) := by
  refine fun_of_vw tab Try.func27 rfl rfl (by simp [Try.f27]) (lrel_cons (evtRel a) lrel_nil) (vrel_tuple (lrel_cons (.string _) (lrel_cons (.int _ _) lrel_nil))) ?_
  cases hm : evtMay a with
  | false =>
    rw [evtPut_no hm]
    refine w1 (w2 (vN tab rfl (vQ tab rfl (vQ tab rfl (w4 (w3 (w1 (w1 (w2 (vQ tab rfl (vF rfl callable_31 (evt_may _) (vQ tab rfl (w4 (w3 (vcd_true rfl (by simp only [hm, decide_eq_true_eq, decide_eq_false_iff_not, Bool.not_eq_eq_eq_not, Bool.not_true, Bool.not_false, bne_iff_ne, bne_eq_false_iff_eq, beq_iff_eq, beq_eq_false_iff_ne, ne_eq, beq_self_eq_true, bne_self_eq_false, Bool.and_eq_true, Bool.and_eq_false_iff, Bool.or_eq_true, Bool.or_eq_false_iff, and_self, and_true, true_and, Bool.false_eq_true, Bool.true_eq_false, not_false_eq_true, not_true_eq_false]; first | done | omega) ?_)))))))))))))))
    refine w1 (w2 (vQ tab rfl (vQ tab rfl (w4 (w3 (vw_ret (q_thenr ?_)))))))
    exact ⟨.inr rfl, rfl⟩
  | true =>
    rw [evtPut_ok hm]
    have hk := evt_may_kind hm
    have hx := evt_may_nums hm
    obtain ⟨k, f1, f2, f3, f4, f5, f6, f7⟩ := a
    have s_f1 := numR_size f1
    have s_f2 := numR_size f2
    have s_f3 := numR_size f3
    have s_f4 := numR_size f4
    have s_f5 := numR_size f5
    have s_f6 := numR_size f6
    have s_f7 := numR_size f7
    have s_k := numR_size k
    rcases evt_kinds hk.1 hk.2 with rfl | rfl | rfl | rfl | rfl | rfl | rfl | rfl | rfl | rfl
    · refine w1 (w2 (vN tab rfl (vQ tab rfl (vQ tab rfl (w4 (w3 (w1 (w1 (w2 (vQ tab rfl (vF rfl callable_31 (evt_may _) (vQ tab rfl (w4 (w3 (vcd_false rfl (by simp only [hm, decide_eq_true_eq, decide_eq_false_iff_not, Bool.not_eq_eq_eq_not, Bool.not_true, Bool.not_false, bne_iff_ne, bne_eq_false_iff_eq, beq_iff_eq, beq_eq_false_iff_ne, ne_eq, beq_self_eq_true, bne_self_eq_false, Bool.and_eq_true, Bool.and_eq_false_iff, Bool.or_eq_true, Bool.or_eq_false_iff, and_self, and_true, true_and, Bool.false_eq_true, Bool.true_eq_false, not_false_eq_true, not_true_eq_false]; first | done | omega) ?_)))))))))))))))
      refine vw_skip (w3 (w1 (w2 (vQ tab rfl (vQ tab rfl (vF rfl callable_48 (num_fun_ _) (vQ tab rfl (vQ tab rfl (vQ tab rfl (vQ tab rfl (vQ tab rfl (w4 (w3 (w1 (w1 (w2 (vT rfl callable_57 (evt_parts0 (f1 := f1) (f2 := f2) (f3 := f3) (f4 := f4) (f5 := f5) (f6 := f6) (f7 := f7) rfl (by decide)) ?_)))))))))))))))))
      refine vQ tab rfl (vQ tab rfl (w4 (w3 (w5 (vw_rounds 5 (rd_step (w1 (w2 (vQ tab rfl (w4 (w3 (w1 (vc_true rfl (vw_skip (w3 (w1 (w5 (w1 (w2 (vQ tab rfl (vQ tab rfl (vQ tab rfl (w4 ?_)))))))))))))))))))))))
      refine w3 (w1 (w2 (vQ tab rfl (vQ tab rfl (vQ tab rfl (vF rfl callable_48 (num_fun_ _) (vQ tab rfl (vQ tab rfl (vQ tab rfl (vQ tab rfl (vQ tab rfl (w4 (w3 (w2 (vQ tab rfl (vQ tab rfl (vq_op tab rfl rfl rfl (cat_ev rfl rfl (by (try simp only [numsB, List.foldl_cons, List.foldl_nil, ByteArray.size_append, sz0]); omega)) ?_)))))))))))))))))
      refine vQ tab rfl (w4 (q_norm (w3 (w2 (vQ tab rfl (vQ tab rfl (w4 (w3 (rd_step (w1 (w2 (vQ tab rfl (w4 (w3 (w1 (vc_false rfl (vw_exit (q_thenx (q_thenx (q_here (w3 (w1 (w2 ?_)))))))))))))))))))))))
      refine vQ tab rfl (vQ tab rfl (vQ tab rfl (w4 (w3 (vw_ret ?_)))))
      all_goals exact ⟨.inr rfl, Eq.trans (b := some (.tuple #[.string _, .int .i64 0])) rfl (congrArg (fun s => some (Value.tuple #[.string s, .int .i64 0])) (B_inj (by clear s_f1 s_f2 s_f3 s_f4 s_f5 s_f6 s_f7 s_k; have hk0 : okN 0 = true := (by decide); (try simp [evtNums] at hx); simp_all [B_app, B_mk, B_nil, numR_B, Codec.put, evtC, evtNums, evtText, numsL, numsB])))⟩
    · refine w1 (w2 (vN tab rfl (vQ tab rfl (vQ tab rfl (w4 (w3 (w1 (w1 (w2 (vQ tab rfl (vF rfl callable_31 (evt_may _) (vQ tab rfl (w4 (w3 (vcd_false rfl (by simp only [hm, decide_eq_true_eq, decide_eq_false_iff_not, Bool.not_eq_eq_eq_not, Bool.not_true, Bool.not_false, bne_iff_ne, bne_eq_false_iff_eq, beq_iff_eq, beq_eq_false_iff_ne, ne_eq, beq_self_eq_true, bne_self_eq_false, Bool.and_eq_true, Bool.and_eq_false_iff, Bool.or_eq_true, Bool.or_eq_false_iff, and_self, and_true, true_and, Bool.false_eq_true, Bool.true_eq_false, not_false_eq_true, not_true_eq_false]; first | done | omega) ?_)))))))))))))))
      refine vw_skip (w3 (w1 (w2 (vQ tab rfl (vQ tab rfl (vF rfl callable_48 (num_fun_ _) (vQ tab rfl (vQ tab rfl (vQ tab rfl (vQ tab rfl (vQ tab rfl (w4 (w3 (w1 (w1 (w2 (vT rfl callable_57 (evt_parts1 (f1 := f1) (f2 := f2) (f3 := f3) (f4 := f4) (f5 := f5) (f6 := f6) (f7 := f7) rfl (by decide)) ?_)))))))))))))))))
      refine vQ tab rfl (vQ tab rfl (w4 (w3 (w5 (vw_rounds 5 (rd_step (w1 (w2 (vQ tab rfl (w4 (w3 (w1 (vc_true rfl (vw_skip (w3 (w1 (w5 (w1 (w2 (vQ tab rfl (vQ tab rfl (vQ tab rfl (w4 ?_)))))))))))))))))))))))
      refine w3 (w1 (w2 (vQ tab rfl (vQ tab rfl (vQ tab rfl (vF rfl callable_48 (num_fun_ _) (vQ tab rfl (vQ tab rfl (vQ tab rfl (vQ tab rfl (vQ tab rfl (w4 (w3 (w2 (vQ tab rfl (vQ tab rfl (vq_op tab rfl rfl rfl (cat_ev rfl rfl (by (try simp only [numsB, List.foldl_cons, List.foldl_nil, ByteArray.size_append, sz0]); omega)) ?_)))))))))))))))))
      refine vQ tab rfl (w4 (q_norm (w3 (w2 (vQ tab rfl (vQ tab rfl (w4 (w3 (rd_step (w1 (w2 (vQ tab rfl (w4 (w3 (w1 (vc_true rfl (vw_skip (w3 (w1 (w5 (w1 (w2 (vQ tab rfl ?_)))))))))))))))))))))))
      refine vQ tab rfl (vQ tab rfl (w4 (w3 (w1 (w2 (vQ tab rfl (vQ tab rfl (vQ tab rfl (vF rfl callable_48 (num_fun_ _) (vQ tab rfl (vQ tab rfl (vQ tab rfl (vQ tab rfl (vQ tab rfl (w4 (w3 (w2 (vQ tab rfl (vQ tab rfl (vq_op tab rfl rfl rfl (cat_ev rfl rfl (by (try simp only [numsB, List.foldl_cons, List.foldl_nil, ByteArray.size_append, sz0]); omega)) ?_))))))))))))))))))))
      refine vQ tab rfl (w4 (q_norm (w3 (w2 (vQ tab rfl (vQ tab rfl (w4 (w3 (rd_step (w1 (w2 (vQ tab rfl (w4 (w3 (w1 (vc_true rfl (vw_skip (w3 (w1 (w5 (w1 (w2 (vQ tab rfl ?_)))))))))))))))))))))))
      refine vQ tab rfl (vQ tab rfl (w4 (w3 (w1 (w2 (vQ tab rfl (vQ tab rfl (vQ tab rfl (vF rfl callable_48 (num_fun_ _) (vQ tab rfl (vQ tab rfl (vQ tab rfl (vQ tab rfl (vQ tab rfl (w4 (w3 (w2 (vQ tab rfl (vQ tab rfl (vq_op tab rfl rfl rfl (cat_ev rfl rfl (by (try simp only [numsB, List.foldl_cons, List.foldl_nil, ByteArray.size_append, sz0]); omega)) ?_))))))))))))))))))))
      refine vQ tab rfl (w4 (q_norm (w3 (w2 (vQ tab rfl (vQ tab rfl (w4 (w3 (rd_step (w1 (w2 (vQ tab rfl (w4 (w3 (w1 (vc_true rfl (vw_skip (w3 (w1 (w5 (w1 (w2 (vQ tab rfl ?_)))))))))))))))))))))))
      refine vQ tab rfl (vQ tab rfl (w4 (w3 (w1 (w2 (vQ tab rfl (vQ tab rfl (vQ tab rfl (vF rfl callable_48 (num_fun_ _) (vQ tab rfl (vQ tab rfl (vQ tab rfl (vQ tab rfl (vQ tab rfl (w4 (w3 (w2 (vQ tab rfl (vQ tab rfl (vq_op tab rfl rfl rfl (cat_ev rfl rfl (by (try simp only [numsB, List.foldl_cons, List.foldl_nil, ByteArray.size_append, sz0]); omega)) ?_))))))))))))))))))))
      refine vQ tab rfl (w4 (q_norm (w3 (w2 (vQ tab rfl (vQ tab rfl (w4 (w3 (rd_step (w1 (w2 (vQ tab rfl (w4 (w3 (w1 (vc_false rfl (vw_exit (q_thenx (q_thenx (q_here (w3 (w1 (w2 ?_)))))))))))))))))))))))
      refine vQ tab rfl (vQ tab rfl (vQ tab rfl (w4 (w3 (vw_ret ?_)))))
      all_goals exact ⟨.inr rfl, Eq.trans (b := some (.tuple #[.string _, .int .i64 0])) rfl (congrArg (fun s => some (Value.tuple #[.string s, .int .i64 0])) (B_inj (by clear s_f1 s_f2 s_f3 s_f4 s_f5 s_f6 s_f7 s_k; have hk0 : okN 1 = true := (by decide); (try simp [evtNums] at hx); simp_all [B_app, B_mk, B_nil, numR_B, Codec.put, evtC, evtNums, evtText, numsL, numsB])))⟩
    · refine w1 (w2 (vN tab rfl (vQ tab rfl (vQ tab rfl (w4 (w3 (w1 (w1 (w2 (vQ tab rfl (vF rfl callable_31 (evt_may _) (vQ tab rfl (w4 (w3 (vcd_false rfl (by simp only [hm, decide_eq_true_eq, decide_eq_false_iff_not, Bool.not_eq_eq_eq_not, Bool.not_true, Bool.not_false, bne_iff_ne, bne_eq_false_iff_eq, beq_iff_eq, beq_eq_false_iff_ne, ne_eq, beq_self_eq_true, bne_self_eq_false, Bool.and_eq_true, Bool.and_eq_false_iff, Bool.or_eq_true, Bool.or_eq_false_iff, and_self, and_true, true_and, Bool.false_eq_true, Bool.true_eq_false, not_false_eq_true, not_true_eq_false]; first | done | omega) ?_)))))))))))))))
      refine vw_skip (w3 (w1 (w2 (vQ tab rfl (vQ tab rfl (vF rfl callable_48 (num_fun_ _) (vQ tab rfl (vQ tab rfl (vQ tab rfl (vQ tab rfl (vQ tab rfl (w4 (w3 (w1 (w1 (w2 (vT rfl callable_57 (evt_parts2 (f1 := f1) (f2 := f2) (f3 := f3) (f4 := f4) (f5 := f5) (f6 := f6) (f7 := f7) rfl (by decide)) ?_)))))))))))))))))
      refine vQ tab rfl (vQ tab rfl (w4 (w3 (w5 (vw_rounds 5 (rd_step (w1 (w2 (vQ tab rfl (w4 (w3 (w1 (vc_true rfl (vw_skip (w3 (w1 (w5 (w1 (w2 (vQ tab rfl (vQ tab rfl (vQ tab rfl (w4 ?_)))))))))))))))))))))))
      refine w3 (w1 (w2 (vQ tab rfl (vQ tab rfl (vQ tab rfl (vF rfl callable_48 (num_fun_ _) (vQ tab rfl (vQ tab rfl (vQ tab rfl (vQ tab rfl (vQ tab rfl (w4 (w3 (w2 (vQ tab rfl (vQ tab rfl (vq_op tab rfl rfl rfl (cat_ev rfl rfl (by (try simp only [numsB, List.foldl_cons, List.foldl_nil, ByteArray.size_append, sz0]); omega)) ?_)))))))))))))))))
      refine vQ tab rfl (w4 (q_norm (w3 (w2 (vQ tab rfl (vQ tab rfl (w4 (w3 (rd_step (w1 (w2 (vQ tab rfl (w4 (w3 (w1 (vc_true rfl (vw_skip (w3 (w1 (w5 (w1 (w2 (vQ tab rfl ?_)))))))))))))))))))))))
      refine vQ tab rfl (vQ tab rfl (w4 (w3 (w1 (w2 (vQ tab rfl (vQ tab rfl (vQ tab rfl (vF rfl callable_48 (num_fun_ _) (vQ tab rfl (vQ tab rfl (vQ tab rfl (vQ tab rfl (vQ tab rfl (w4 (w3 (w2 (vQ tab rfl (vQ tab rfl (vq_op tab rfl rfl rfl (cat_ev rfl rfl (by (try simp only [numsB, List.foldl_cons, List.foldl_nil, ByteArray.size_append, sz0]); omega)) ?_))))))))))))))))))))
      refine vQ tab rfl (w4 (q_norm (w3 (w2 (vQ tab rfl (vQ tab rfl (w4 (w3 (rd_step (w1 (w2 (vQ tab rfl (w4 (w3 (w1 (vc_false rfl (vw_exit (q_thenx (q_thenx (q_here (w3 (w1 (w2 ?_)))))))))))))))))))))))
      refine vQ tab rfl (vQ tab rfl (vQ tab rfl (w4 (w3 (vw_ret ?_)))))
      all_goals exact ⟨.inr rfl, Eq.trans (b := some (.tuple #[.string _, .int .i64 0])) rfl (congrArg (fun s => some (Value.tuple #[.string s, .int .i64 0])) (B_inj (by clear s_f1 s_f2 s_f3 s_f4 s_f5 s_f6 s_f7 s_k; have hk0 : okN 2 = true := (by decide); (try simp [evtNums] at hx); simp_all [B_app, B_mk, B_nil, numR_B, Codec.put, evtC, evtNums, evtText, numsL, numsB])))⟩
    · refine w1 (w2 (vN tab rfl (vQ tab rfl (vQ tab rfl (w4 (w3 (w1 (w1 (w2 (vQ tab rfl (vF rfl callable_31 (evt_may _) (vQ tab rfl (w4 (w3 (vcd_false rfl (by simp only [hm, decide_eq_true_eq, decide_eq_false_iff_not, Bool.not_eq_eq_eq_not, Bool.not_true, Bool.not_false, bne_iff_ne, bne_eq_false_iff_eq, beq_iff_eq, beq_eq_false_iff_ne, ne_eq, beq_self_eq_true, bne_self_eq_false, Bool.and_eq_true, Bool.and_eq_false_iff, Bool.or_eq_true, Bool.or_eq_false_iff, and_self, and_true, true_and, Bool.false_eq_true, Bool.true_eq_false, not_false_eq_true, not_true_eq_false]; first | done | omega) ?_)))))))))))))))
      refine vw_skip (w3 (w1 (w2 (vQ tab rfl (vQ tab rfl (vF rfl callable_48 (num_fun_ _) (vQ tab rfl (vQ tab rfl (vQ tab rfl (vQ tab rfl (vQ tab rfl (w4 (w3 (w1 (w1 (w2 (vT rfl callable_57 (evt_parts3 (f1 := f1) (f2 := f2) (f3 := f3) (f4 := f4) (f5 := f5) (f6 := f6) (f7 := f7) rfl (by decide)) ?_)))))))))))))))))
      refine vQ tab rfl (vQ tab rfl (w4 (w3 (w5 (vw_rounds 5 (rd_step (w1 (w2 (vQ tab rfl (w4 (w3 (w1 (vc_true rfl (vw_skip (w3 (w1 (w5 (w1 (w2 (vQ tab rfl (vQ tab rfl (vQ tab rfl (w4 ?_)))))))))))))))))))))))
      refine w3 (w1 (w2 (vQ tab rfl (vQ tab rfl (vQ tab rfl (vF rfl callable_48 (num_fun_ _) (vQ tab rfl (vQ tab rfl (vQ tab rfl (vQ tab rfl (vQ tab rfl (w4 (w3 (w2 (vQ tab rfl (vQ tab rfl (vq_op tab rfl rfl rfl (cat_ev rfl rfl (by (try simp only [numsB, List.foldl_cons, List.foldl_nil, ByteArray.size_append, sz0]); omega)) ?_)))))))))))))))))
      refine vQ tab rfl (w4 (q_norm (w3 (w2 (vQ tab rfl (vQ tab rfl (w4 (w3 (rd_step (w1 (w2 (vQ tab rfl (w4 (w3 (w1 (vc_true rfl (vw_skip (w3 (w1 (w5 (w1 (w2 (vQ tab rfl ?_)))))))))))))))))))))))
      refine vQ tab rfl (vQ tab rfl (w4 (w3 (w1 (w2 (vQ tab rfl (vQ tab rfl (vQ tab rfl (vF rfl callable_48 (num_fun_ _) (vQ tab rfl (vQ tab rfl (vQ tab rfl (vQ tab rfl (vQ tab rfl (w4 (w3 (w2 (vQ tab rfl (vQ tab rfl (vq_op tab rfl rfl rfl (cat_ev rfl rfl (by (try simp only [numsB, List.foldl_cons, List.foldl_nil, ByteArray.size_append, sz0]); omega)) ?_))))))))))))))))))))
      refine vQ tab rfl (w4 (q_norm (w3 (w2 (vQ tab rfl (vQ tab rfl (w4 (w3 (rd_step (w1 (w2 (vQ tab rfl (w4 (w3 (w1 (vc_false rfl (vw_exit (q_thenx (q_thenx (q_here (w3 (w1 (w2 ?_)))))))))))))))))))))))
      refine vQ tab rfl (vQ tab rfl (vQ tab rfl (w4 (w3 (vw_ret ?_)))))
      all_goals exact ⟨.inr rfl, Eq.trans (b := some (.tuple #[.string _, .int .i64 0])) rfl (congrArg (fun s => some (Value.tuple #[.string s, .int .i64 0])) (B_inj (by clear s_f1 s_f2 s_f3 s_f4 s_f5 s_f6 s_f7 s_k; have hk0 : okN 3 = true := (by decide); (try simp [evtNums] at hx); simp_all [B_app, B_mk, B_nil, numR_B, Codec.put, evtC, evtNums, evtText, numsL, numsB])))⟩
    · refine w1 (w2 (vN tab rfl (vQ tab rfl (vQ tab rfl (w4 (w3 (w1 (w1 (w2 (vQ tab rfl (vF rfl callable_31 (evt_may _) (vQ tab rfl (w4 (w3 (vcd_false rfl (by simp only [hm, decide_eq_true_eq, decide_eq_false_iff_not, Bool.not_eq_eq_eq_not, Bool.not_true, Bool.not_false, bne_iff_ne, bne_eq_false_iff_eq, beq_iff_eq, beq_eq_false_iff_ne, ne_eq, beq_self_eq_true, bne_self_eq_false, Bool.and_eq_true, Bool.and_eq_false_iff, Bool.or_eq_true, Bool.or_eq_false_iff, and_self, and_true, true_and, Bool.false_eq_true, Bool.true_eq_false, not_false_eq_true, not_true_eq_false]; first | done | omega) ?_)))))))))))))))
      refine vw_skip (w3 (w1 (w2 (vQ tab rfl (vQ tab rfl (vF rfl callable_48 (num_fun_ _) (vQ tab rfl (vQ tab rfl (vQ tab rfl (vQ tab rfl (vQ tab rfl (w4 (w3 (w1 (w1 (w2 (vT rfl callable_57 (evt_parts4 (f1 := f1) (f2 := f2) (f3 := f3) (f4 := f4) (f5 := f5) (f6 := f6) (f7 := f7) rfl (by decide)) ?_)))))))))))))))))
      refine vQ tab rfl (vQ tab rfl (w4 (w3 (w5 (vw_rounds 5 (rd_step (w1 (w2 (vQ tab rfl (w4 (w3 (w1 (vc_true rfl (vw_skip (w3 (w1 (w5 (w1 (w2 (vQ tab rfl (vQ tab rfl (vQ tab rfl (w4 ?_)))))))))))))))))))))))
      refine w3 (w1 (w2 (vQ tab rfl (vQ tab rfl (vQ tab rfl (vF rfl callable_48 (num_fun_ _) (vQ tab rfl (vQ tab rfl (vQ tab rfl (vQ tab rfl (vQ tab rfl (w4 (w3 (w2 (vQ tab rfl (vQ tab rfl (vq_op tab rfl rfl rfl (cat_ev rfl rfl (by (try simp only [numsB, List.foldl_cons, List.foldl_nil, ByteArray.size_append, sz0]); omega)) ?_)))))))))))))))))
      refine vQ tab rfl (w4 (q_norm (w3 (w2 (vQ tab rfl (vQ tab rfl (w4 (w3 (rd_step (w1 (w2 (vQ tab rfl (w4 (w3 (w1 (vc_false rfl (vw_exit (q_thenx (q_thenx (q_here (w3 (w1 (w2 ?_)))))))))))))))))))))))
      refine vQ tab rfl (vQ tab rfl (vQ tab rfl (w4 (w3 (vw_ret ?_)))))
      all_goals exact ⟨.inr rfl, Eq.trans (b := some (.tuple #[.string _, .int .i64 0])) rfl (congrArg (fun s => some (Value.tuple #[.string s, .int .i64 0])) (B_inj (by clear s_f1 s_f2 s_f3 s_f4 s_f5 s_f6 s_f7 s_k; have hk0 : okN 4 = true := (by decide); (try simp [evtNums] at hx); simp_all [B_app, B_mk, B_nil, numR_B, Codec.put, evtC, evtNums, evtText, numsL, numsB])))⟩
    · refine w1 (w2 (vN tab rfl (vQ tab rfl (vQ tab rfl (w4 (w3 (w1 (w1 (w2 (vQ tab rfl (vF rfl callable_31 (evt_may _) (vQ tab rfl (w4 (w3 (vcd_false rfl (by simp only [hm, decide_eq_true_eq, decide_eq_false_iff_not, Bool.not_eq_eq_eq_not, Bool.not_true, Bool.not_false, bne_iff_ne, bne_eq_false_iff_eq, beq_iff_eq, beq_eq_false_iff_ne, ne_eq, beq_self_eq_true, bne_self_eq_false, Bool.and_eq_true, Bool.and_eq_false_iff, Bool.or_eq_true, Bool.or_eq_false_iff, and_self, and_true, true_and, Bool.false_eq_true, Bool.true_eq_false, not_false_eq_true, not_true_eq_false]; first | done | omega) ?_)))))))))))))))
      refine vw_skip (w3 (w1 (w2 (vQ tab rfl (vQ tab rfl (vF rfl callable_48 (num_fun_ _) (vQ tab rfl (vQ tab rfl (vQ tab rfl (vQ tab rfl (vQ tab rfl (w4 (w3 (w1 (w1 (w2 (vT rfl callable_57 (evt_parts5 (f1 := f1) (f2 := f2) (f3 := f3) (f4 := f4) (f5 := f5) (f6 := f6) (f7 := f7) rfl (by decide)) ?_)))))))))))))))))
      refine vQ tab rfl (vQ tab rfl (w4 (w3 (w5 (vw_rounds 5 (rd_step (w1 (w2 (vQ tab rfl (w4 (w3 (w1 (vc_true rfl (vw_skip (w3 (w1 (w5 (w1 (w2 (vQ tab rfl (vQ tab rfl (vQ tab rfl (w4 ?_)))))))))))))))))))))))
      refine w3 (w1 (w2 (vQ tab rfl (vQ tab rfl (vQ tab rfl (vF rfl callable_48 (num_fun_ _) (vQ tab rfl (vQ tab rfl (vQ tab rfl (vQ tab rfl (vQ tab rfl (w4 (w3 (w2 (vQ tab rfl (vQ tab rfl (vq_op tab rfl rfl rfl (cat_ev rfl rfl (by (try simp only [numsB, List.foldl_cons, List.foldl_nil, ByteArray.size_append, sz0]); omega)) ?_)))))))))))))))))
      refine vQ tab rfl (w4 (q_norm (w3 (w2 (vQ tab rfl (vQ tab rfl (w4 (w3 (rd_step (w1 (w2 (vQ tab rfl (w4 (w3 (w1 (vc_true rfl (vw_skip (w3 (w1 (w5 (w1 (w2 (vQ tab rfl ?_)))))))))))))))))))))))
      refine vQ tab rfl (vQ tab rfl (w4 (w3 (w1 (w2 (vQ tab rfl (vQ tab rfl (vQ tab rfl (vF rfl callable_48 (num_fun_ _) (vQ tab rfl (vQ tab rfl (vQ tab rfl (vQ tab rfl (vQ tab rfl (w4 (w3 (w2 (vQ tab rfl (vQ tab rfl (vq_op tab rfl rfl rfl (cat_ev rfl rfl (by (try simp only [numsB, List.foldl_cons, List.foldl_nil, ByteArray.size_append, sz0]); omega)) ?_))))))))))))))))))))
      refine vQ tab rfl (w4 (q_norm (w3 (w2 (vQ tab rfl (vQ tab rfl (w4 (w3 (rd_step (w1 (w2 (vQ tab rfl (w4 (w3 (w1 (vc_true rfl (vw_skip (w3 (w1 (w5 (w1 (w2 (vQ tab rfl ?_)))))))))))))))))))))))
      refine vQ tab rfl (vQ tab rfl (w4 (w3 (w1 (w2 (vQ tab rfl (vQ tab rfl (vQ tab rfl (vF rfl callable_48 (num_fun_ _) (vQ tab rfl (vQ tab rfl (vQ tab rfl (vQ tab rfl (vQ tab rfl (w4 (w3 (w2 (vQ tab rfl (vQ tab rfl (vq_op tab rfl rfl rfl (cat_ev rfl rfl (by (try simp only [numsB, List.foldl_cons, List.foldl_nil, ByteArray.size_append, sz0]); omega)) ?_))))))))))))))))))))
      refine vQ tab rfl (w4 (q_norm (w3 (w2 (vQ tab rfl (vQ tab rfl (w4 (w3 (rd_step (w1 (w2 (vQ tab rfl (w4 (w3 (w1 (vc_true rfl (vw_skip (w3 (w1 (w5 (w1 (w2 (vQ tab rfl ?_)))))))))))))))))))))))
      refine vQ tab rfl (vQ tab rfl (w4 (w3 (w1 (w2 (vQ tab rfl (vQ tab rfl (vQ tab rfl (vF rfl callable_48 (num_fun_ _) (vQ tab rfl (vQ tab rfl (vQ tab rfl (vQ tab rfl (vQ tab rfl (w4 (w3 (w2 (vQ tab rfl (vQ tab rfl (vq_op tab rfl rfl rfl (cat_ev rfl rfl (by (try simp only [numsB, List.foldl_cons, List.foldl_nil, ByteArray.size_append, sz0]); omega)) ?_))))))))))))))))))))
      refine vQ tab rfl (w4 (q_norm (w3 (w2 (vQ tab rfl (vQ tab rfl (w4 (w3 (rd_step (w1 (w2 (vQ tab rfl (w4 (w3 (w1 (vc_false rfl (vw_exit (q_thenx (q_thenx (q_here (w3 (w1 (w2 ?_)))))))))))))))))))))))
      refine vQ tab rfl (vQ tab rfl (vQ tab rfl (w4 (w3 (vw_ret ?_)))))
      all_goals exact ⟨.inr rfl, Eq.trans (b := some (.tuple #[.string _, .int .i64 0])) rfl (congrArg (fun s => some (Value.tuple #[.string s, .int .i64 0])) (B_inj (by clear s_f1 s_f2 s_f3 s_f4 s_f5 s_f6 s_f7 s_k; have hk0 : okN 5 = true := (by decide); (try simp [evtNums] at hx); simp_all [B_app, B_mk, B_nil, numR_B, Codec.put, evtC, evtNums, evtText, numsL, numsB])))⟩
    · refine w1 (w2 (vN tab rfl (vQ tab rfl (vQ tab rfl (w4 (w3 (w1 (w1 (w2 (vQ tab rfl (vF rfl callable_31 (evt_may _) (vQ tab rfl (w4 (w3 (vcd_false rfl (by simp only [hm, decide_eq_true_eq, decide_eq_false_iff_not, Bool.not_eq_eq_eq_not, Bool.not_true, Bool.not_false, bne_iff_ne, bne_eq_false_iff_eq, beq_iff_eq, beq_eq_false_iff_ne, ne_eq, beq_self_eq_true, bne_self_eq_false, Bool.and_eq_true, Bool.and_eq_false_iff, Bool.or_eq_true, Bool.or_eq_false_iff, and_self, and_true, true_and, Bool.false_eq_true, Bool.true_eq_false, not_false_eq_true, not_true_eq_false]; first | done | omega) ?_)))))))))))))))
      refine vw_skip (w3 (w1 (w2 (vQ tab rfl (vQ tab rfl (vF rfl callable_48 (num_fun_ _) (vQ tab rfl (vQ tab rfl (vQ tab rfl (vQ tab rfl (vQ tab rfl (w4 (w3 (w1 (w1 (w2 (vT rfl callable_57 (evt_parts6 (f1 := f1) (f2 := f2) (f3 := f3) (f4 := f4) (f5 := f5) (f6 := f6) (f7 := f7) rfl (by decide)) ?_)))))))))))))))))
      refine vQ tab rfl (vQ tab rfl (w4 (w3 (w5 (vw_rounds 5 (rd_step (w1 (w2 (vQ tab rfl (w4 (w3 (w1 (vc_true rfl (vw_skip (w3 (w1 (w5 (w1 (w2 (vQ tab rfl (vQ tab rfl (vQ tab rfl (w4 ?_)))))))))))))))))))))))
      refine w3 (w1 (w2 (vQ tab rfl (vQ tab rfl (vQ tab rfl (vF rfl callable_48 (num_fun_ _) (vQ tab rfl (vQ tab rfl (vQ tab rfl (vQ tab rfl (vQ tab rfl (w4 (w3 (w2 (vQ tab rfl (vQ tab rfl (vq_op tab rfl rfl rfl (cat_ev rfl rfl (by (try simp only [numsB, List.foldl_cons, List.foldl_nil, ByteArray.size_append, sz0]); omega)) ?_)))))))))))))))))
      refine vQ tab rfl (w4 (q_norm (w3 (w2 (vQ tab rfl (vQ tab rfl (w4 (w3 (rd_step (w1 (w2 (vQ tab rfl (w4 (w3 (w1 (vc_true rfl (vw_skip (w3 (w1 (w5 (w1 (w2 (vQ tab rfl ?_)))))))))))))))))))))))
      refine vQ tab rfl (vQ tab rfl (w4 (w3 (w1 (w2 (vQ tab rfl (vQ tab rfl (vQ tab rfl (vF rfl callable_48 (num_fun_ _) (vQ tab rfl (vQ tab rfl (vQ tab rfl (vQ tab rfl (vQ tab rfl (w4 (w3 (w2 (vQ tab rfl (vQ tab rfl (vq_op tab rfl rfl rfl (cat_ev rfl rfl (by (try simp only [numsB, List.foldl_cons, List.foldl_nil, ByteArray.size_append, sz0]); omega)) ?_))))))))))))))))))))
      refine vQ tab rfl (w4 (q_norm (w3 (w2 (vQ tab rfl (vQ tab rfl (w4 (w3 (rd_step (w1 (w2 (vQ tab rfl (w4 (w3 (w1 (vc_true rfl (vw_skip (w3 (w1 (w5 (w1 (w2 (vQ tab rfl ?_)))))))))))))))))))))))
      refine vQ tab rfl (vQ tab rfl (w4 (w3 (w1 (w2 (vQ tab rfl (vQ tab rfl (vQ tab rfl (vF rfl callable_48 (num_fun_ _) (vQ tab rfl (vQ tab rfl (vQ tab rfl (vQ tab rfl (vQ tab rfl (w4 (w3 (w2 (vQ tab rfl (vQ tab rfl (vq_op tab rfl rfl rfl (cat_ev rfl rfl (by (try simp only [numsB, List.foldl_cons, List.foldl_nil, ByteArray.size_append, sz0]); omega)) ?_))))))))))))))))))))
      refine vQ tab rfl (w4 (q_norm (w3 (w2 (vQ tab rfl (vQ tab rfl (w4 (w3 (rd_step (w1 (w2 (vQ tab rfl (w4 (w3 (w1 (vc_true rfl (vw_skip (w3 (w1 (w5 (w1 (w2 (vQ tab rfl ?_)))))))))))))))))))))))
      refine vQ tab rfl (vQ tab rfl (w4 (w3 (w1 (w2 (vQ tab rfl (vQ tab rfl (vQ tab rfl (vF rfl callable_48 (num_fun_ _) (vQ tab rfl (vQ tab rfl (vQ tab rfl (vQ tab rfl (vQ tab rfl (w4 (w3 (w2 (vQ tab rfl (vQ tab rfl (vq_op tab rfl rfl rfl (cat_ev rfl rfl (by (try simp only [numsB, List.foldl_cons, List.foldl_nil, ByteArray.size_append, sz0]); omega)) ?_))))))))))))))))))))
      refine vQ tab rfl (w4 (q_norm (w3 (w2 (vQ tab rfl (vQ tab rfl (w4 (w3 (rd_step (w1 (w2 (vQ tab rfl (w4 (w3 (w1 (vc_false rfl (vw_exit (q_thenx (q_thenx (q_here (w3 (w1 (w2 ?_)))))))))))))))))))))))
      refine vQ tab rfl (vQ tab rfl (vQ tab rfl (w4 (w3 (vw_ret ?_)))))
      all_goals exact ⟨.inr rfl, Eq.trans (b := some (.tuple #[.string _, .int .i64 0])) rfl (congrArg (fun s => some (Value.tuple #[.string s, .int .i64 0])) (B_inj (by clear s_f1 s_f2 s_f3 s_f4 s_f5 s_f6 s_f7 s_k; have hk0 : okN 6 = true := (by decide); (try simp [evtNums] at hx); simp_all [B_app, B_mk, B_nil, numR_B, Codec.put, evtC, evtNums, evtText, numsL, numsB])))⟩
    · refine w1 (w2 (vN tab rfl (vQ tab rfl (vQ tab rfl (w4 (w3 (w1 (w1 (w2 (vQ tab rfl (vF rfl callable_31 (evt_may _) (vQ tab rfl (w4 (w3 (vcd_false rfl (by simp only [hm, decide_eq_true_eq, decide_eq_false_iff_not, Bool.not_eq_eq_eq_not, Bool.not_true, Bool.not_false, bne_iff_ne, bne_eq_false_iff_eq, beq_iff_eq, beq_eq_false_iff_ne, ne_eq, beq_self_eq_true, bne_self_eq_false, Bool.and_eq_true, Bool.and_eq_false_iff, Bool.or_eq_true, Bool.or_eq_false_iff, and_self, and_true, true_and, Bool.false_eq_true, Bool.true_eq_false, not_false_eq_true, not_true_eq_false]; first | done | omega) ?_)))))))))))))))
      refine vw_skip (w3 (w1 (w2 (vQ tab rfl (vQ tab rfl (vF rfl callable_48 (num_fun_ _) (vQ tab rfl (vQ tab rfl (vQ tab rfl (vQ tab rfl (vQ tab rfl (w4 (w3 (w1 (w1 (w2 (vT rfl callable_57 (evt_parts7 (f1 := f1) (f2 := f2) (f3 := f3) (f4 := f4) (f5 := f5) (f6 := f6) (f7 := f7) rfl (by decide)) ?_)))))))))))))))))
      refine vQ tab rfl (vQ tab rfl (w4 (w3 (w5 (vw_rounds 5 (rd_step (w1 (w2 (vQ tab rfl (w4 (w3 (w1 (vc_true rfl (vw_skip (w3 (w1 (w5 (w1 (w2 (vQ tab rfl (vQ tab rfl (vQ tab rfl (w4 ?_)))))))))))))))))))))))
      refine w3 (w1 (w2 (vQ tab rfl (vQ tab rfl (vQ tab rfl (vF rfl callable_48 (num_fun_ _) (vQ tab rfl (vQ tab rfl (vQ tab rfl (vQ tab rfl (vQ tab rfl (w4 (w3 (w2 (vQ tab rfl (vQ tab rfl (vq_op tab rfl rfl rfl (cat_ev rfl rfl (by (try simp only [numsB, List.foldl_cons, List.foldl_nil, ByteArray.size_append, sz0]); omega)) ?_)))))))))))))))))
      refine vQ tab rfl (w4 (q_norm (w3 (w2 (vQ tab rfl (vQ tab rfl (w4 (w3 (rd_step (w1 (w2 (vQ tab rfl (w4 (w3 (w1 (vc_false rfl (vw_exit (q_thenx (q_thenx (q_here (w3 (w1 (w2 ?_)))))))))))))))))))))))
      refine vQ tab rfl (vQ tab rfl (vQ tab rfl (w4 (w3 (vw_ret ?_)))))
      all_goals exact ⟨.inr rfl, Eq.trans (b := some (.tuple #[.string _, .int .i64 0])) rfl (congrArg (fun s => some (Value.tuple #[.string s, .int .i64 0])) (B_inj (by clear s_f1 s_f2 s_f3 s_f4 s_f5 s_f6 s_f7 s_k; have hk0 : okN 7 = true := (by decide); (try simp [evtNums] at hx); simp_all [B_app, B_mk, B_nil, numR_B, Codec.put, evtC, evtNums, evtText, numsL, numsB])))⟩
    · refine w1 (w2 (vN tab rfl (vQ tab rfl (vQ tab rfl (w4 (w3 (w1 (w1 (w2 (vQ tab rfl (vF rfl callable_31 (evt_may _) (vQ tab rfl (w4 (w3 (vcd_false rfl (by simp only [hm, decide_eq_true_eq, decide_eq_false_iff_not, Bool.not_eq_eq_eq_not, Bool.not_true, Bool.not_false, bne_iff_ne, bne_eq_false_iff_eq, beq_iff_eq, beq_eq_false_iff_ne, ne_eq, beq_self_eq_true, bne_self_eq_false, Bool.and_eq_true, Bool.and_eq_false_iff, Bool.or_eq_true, Bool.or_eq_false_iff, and_self, and_true, true_and, Bool.false_eq_true, Bool.true_eq_false, not_false_eq_true, not_true_eq_false]; first | done | omega) ?_)))))))))))))))
      refine vw_skip (w3 (w1 (w2 (vQ tab rfl (vQ tab rfl (vF rfl callable_48 (num_fun_ _) (vQ tab rfl (vQ tab rfl (vQ tab rfl (vQ tab rfl (vQ tab rfl (w4 (w3 (w1 (w1 (w2 (vR rfl callable_57 (evt_partsN (k := 8) (f1 := f1) (f2 := f2) (f3 := f3) (f4 := f4) (f5 := f5) (f6 := f6) (f7 := f7) rfl (by omega)) ?_)))))))))))))))))
      refine vQ tab rfl (vQ tab rfl (w4 (w3 (w5 (vw_rounds 5 (rd_step (w1 (w2 (vQ tab rfl (w4 (w3 (w1 (vc_false rfl (vw_exit (q_thenx (q_thenx (q_here (w3 (w1 (w2 (vQ tab rfl (vQ tab rfl (vQ tab rfl ?_)))))))))))))))))))))))
      refine w4 (w3 (vw_ret ?_))
      all_goals exact ⟨.inr rfl, Eq.trans (b := some (.tuple #[.string _, .int .i64 0])) rfl (congrArg (fun s => some (Value.tuple #[.string s, .int .i64 0])) (B_inj (by clear s_f1 s_f2 s_f3 s_f4 s_f5 s_f6 s_f7 s_k; have hk0 : okN 8 = true := (by decide); (try simp [evtNums] at hx); simp_all [B_app, B_mk, B_nil, numR_B, Codec.put, evtC, evtNums, evtText, numsL, numsB])))⟩
    · refine w1 (w2 (vN tab rfl (vQ tab rfl (vQ tab rfl (w4 (w3 (w1 (w1 (w2 (vQ tab rfl (vF rfl callable_31 (evt_may _) (vQ tab rfl (w4 (w3 (vcd_false rfl (by simp only [hm, decide_eq_true_eq, decide_eq_false_iff_not, Bool.not_eq_eq_eq_not, Bool.not_true, Bool.not_false, bne_iff_ne, bne_eq_false_iff_eq, beq_iff_eq, beq_eq_false_iff_ne, ne_eq, beq_self_eq_true, bne_self_eq_false, Bool.and_eq_true, Bool.and_eq_false_iff, Bool.or_eq_true, Bool.or_eq_false_iff, and_self, and_true, true_and, Bool.false_eq_true, Bool.true_eq_false, not_false_eq_true, not_true_eq_false]; first | done | omega) ?_)))))))))))))))
      refine vw_skip (w3 (w1 (w2 (vQ tab rfl (vQ tab rfl (vF rfl callable_48 (num_fun_ _) (vQ tab rfl (vQ tab rfl (vQ tab rfl (vQ tab rfl (vQ tab rfl (w4 (w3 (w1 (w1 (w2 (vT rfl callable_57 (evt_parts9 (f1 := f1) (f2 := f2) (f3 := f3) (f4 := f4) (f5 := f5) (f6 := f6) (f7 := f7) rfl (by decide)) ?_)))))))))))))))))
      refine vQ tab rfl (vQ tab rfl (w4 (w3 (w5 (vw_rounds 5 (rd_step (w1 (w2 (vQ tab rfl (w4 (w3 (w1 (vc_true rfl (vw_skip (w3 (w1 (w5 (w1 (w2 (vQ tab rfl (vQ tab rfl (vQ tab rfl (w4 ?_)))))))))))))))))))))))
      refine w3 (w1 (w2 (vQ tab rfl (vQ tab rfl (vQ tab rfl (vF rfl callable_48 (num_fun_ _) (vQ tab rfl (vQ tab rfl (vQ tab rfl (vQ tab rfl (vQ tab rfl (w4 (w3 (w2 (vQ tab rfl (vQ tab rfl (vq_op tab rfl rfl rfl (cat_ev rfl rfl (by (try simp only [numsB, List.foldl_cons, List.foldl_nil, ByteArray.size_append, sz0]); omega)) ?_)))))))))))))))))
      refine vQ tab rfl (w4 (q_norm (w3 (w2 (vQ tab rfl (vQ tab rfl (w4 (w3 (rd_step (w1 (w2 (vQ tab rfl (w4 (w3 (w1 (vc_false rfl (vw_exit (q_thenx (q_thenx (q_here (w3 (w1 (w2 ?_)))))))))))))))))))))))
      refine vQ tab rfl (vQ tab rfl (vQ tab rfl (w4 (w3 (vw_ret ?_)))))
      all_goals exact ⟨.inr rfl, Eq.trans (b := some (.tuple #[.string _, .int .i64 0])) rfl (congrArg (fun s => some (Value.tuple #[.string s, .int .i64 0])) (B_inj (by clear s_f1 s_f2 s_f3 s_f4 s_f5 s_f6 s_f7 s_k; have hk0 : okN 9 = true := (by decide); (try simp [evtNums] at hx); simp_all [B_app, B_mk, B_nil, numR_B, Codec.put, evtC, evtNums, evtText, numsL, numsB])))⟩
def evtGet (s : ByteArray) : EventV × Int := match evtC.get (B s) with
  | some a => (a, 0)
  | none => (⟨0, 0, 0, 0, 0, 0, 0, 0⟩, 700)
theorem evtGet_ok {s : ByteArray} {a : EventV} (h : evtC.get (B s) = some a) : evtGet s = (a, 0) := by unfold evtGet; rw [h]
theorem evtGet_no {s : ByteArray} (h : evtC.get (B s) = none) : evtGet s = (⟨0, 0, 0, 0, 0, 0, 0, 0⟩, 700) := by unfold evtGet; rw [h]
set_option maxHeartbeats 64000000 in
theorem evt_get (s : ByteArray) (hs : s.size ≤ 9223372036854775807) : Fun Try.prog 29 [.string s] (.tuple #[evtV (evtGet s).1, .int .i64 (evtGet s).2]) := by
  refine fun_of_vw tab Try.func29 rfl rfl (by simp [Try.f29]) (lrel_cons (.string _) lrel_nil) (vrel_tuple (lrel_cons (evtRel _) (lrel_cons (.int _ _) lrel_nil))) ?_
  have hl := B_len s
  cases h0 : rdN (B s) with
  | none =>
    obtain ⟨e, p, hg, he⟩ := getN_none (s := B s) (a := 0) (by omega) (by omega) h0
    rw [evtGet_no (by simp [Codec.get, Codec.parse, rdNs, evtC, evtCnt, evtText, h0])]
    refine w1 (w2 (vN tab rfl (vQ tab rfl (w4 (w3 (w1 (w2 (vQ tab rfl (vQ tab rfl (vN tab rfl (vQ tab rfl (w4 (w3 (w1 (w2 (vQ tab rfl (vT rfl callable_51 (rnum_fail rfl hg he hs (by decide)) ?_)))))))))))))))))
    refine vQ tab rfl (vN tab rfl (vS tab rfl (w4 (w3 (w1 (w1 (w2 (vT rfl callable_57 (evt_parts0 (f1 := 0) (f2 := 0) (f3 := 0) (f4 := 0) (f5 := 0) (f6 := 0) (f7 := 0) rfl (by decide)) ?_))))))))
    refine vQ tab rfl (vQ tab rfl (w4 (w3 (w5 (vw_rounds 5 (rd_step (w1 (w2 (vQ tab rfl (w4 (w3 (w1 (vc_true rfl (vw_skip (w3 (w1 (w5 (w1 (w2 (vQ tab rfl (vQ tab rfl (vQ tab rfl (w4 ?_)))))))))))))))))))))))
    refine w3 (w2 (vQ tab rfl (vQ tab rfl (vR rfl callable_51 (rnum_bad rfl rfl (by decide)) ?_))))
    refine vQ tab rfl (vS tab rfl (w4 (q_norm (w3 (w2 (vQ tab rfl (vQ tab rfl (w4 (w3 (rd_step (w1 (w2 (vQ tab rfl (w4 (w3 (w1 (vc_false rfl (vw_exit (q_thenx (q_thenx (q_here (w3 (w1 ?_)))))))))))))))))))))))
    refine w1 (w2 (vQ tab rfl (vR rfl callable_52 (done_bad rfl rfl (by decide)) ?_)))
    refine vQ tab rfl (vQ tab rfl (vK rfl (vK rfl (vK rfl (vQ tab rfl (w4 (w3 (vc_true rfl (w1 (w2 (vQ tab rfl (vS tab rfl (vQ tab rfl (w4 (w3 (vw_ret (q_thenr ?_)))))))))))))))))
    exact ⟨.inr rfl, rfl⟩
  | some r0 =>
    obtain ⟨k, q0⟩ := r0
    obtain ⟨t0, g0, lt0, le0, d0⟩ := getN_some (s := B s) (a := 0) (by omega) (by omega) h0
    rcases (show k = 0 ∨ k = 1 ∨ k = 2 ∨ k = 3 ∨ k = 4 ∨ k = 5 ∨ k = 6 ∨ k = 7 ∨ k = 8 ∨ k = 9 ∨ (k ≠ 0 ∧ k ≠ 1 ∧ k ≠ 2 ∧ k ≠ 3 ∧ k ≠ 4 ∧ k ≠ 5 ∧ k ≠ 6 ∧ k ≠ 7 ∧ k ≠ 8 ∧ k ≠ 9) by omega) with rfl | rfl | rfl | rfl | rfl | rfl | rfl | rfl | rfl | rfl | hk
    ·
      cases h1 : rdN q0 with
      | none =>
        obtain ⟨e, p, hg, he⟩ := getN_none (s := B s) (a := t0) (by omega) (by omega) (by rw [d0]; exact h1)
        rw [evtGet_no (by simp [Codec.get, Codec.parse, rdNs, evtC, evtCnt, evtText, h0, h1])]
        refine w1 (w2 (vN tab rfl (vQ tab rfl (w4 (w3 (w1 (w2 (vQ tab rfl (vQ tab rfl (vN tab rfl (vQ tab rfl (w4 (w3 (w1 (w2 (vQ tab rfl (vT rfl callable_51 (rnum_good rfl g0 hs (by decide)) ?_)))))))))))))))))
        refine vQ tab rfl (vN tab rfl (vS tab rfl (w4 (w3 (w1 (w1 (w2 (vT rfl callable_57 (evt_parts0 (f1 := 0) (f2 := 0) (f3 := 0) (f4 := 0) (f5 := 0) (f6 := 0) (f7 := 0) rfl (by decide)) ?_))))))))
        refine vQ tab rfl (vQ tab rfl (w4 (w3 (w5 (vw_rounds 5 (rd_step (w1 (w2 (vQ tab rfl (w4 (w3 (w1 (vc_true rfl (vw_skip (w3 (w1 (w5 (w1 (w2 (vQ tab rfl (vQ tab rfl (vQ tab rfl (w4 ?_)))))))))))))))))))))))
        refine w3 (w2 (vQ tab rfl (vQ tab rfl (vT rfl callable_51 (rnum_fail rfl hg he hs (by decide)) ?_))))
        refine vQ tab rfl (vS tab rfl (w4 (q_norm (w3 (w2 (vQ tab rfl (vQ tab rfl (w4 (w3 (rd_step (w1 (w2 (vQ tab rfl (w4 (w3 (w1 (vc_false rfl (vw_exit (q_thenx (q_thenx (q_here (w3 (w1 ?_)))))))))))))))))))))))
        refine w1 (w2 (vQ tab rfl (vR rfl callable_52 (done_bad rfl rfl (by decide)) ?_)))
        refine vQ tab rfl (vQ tab rfl (vK rfl (vK rfl (vK rfl (vQ tab rfl (w4 (w3 (vc_true rfl (w1 (w2 (vQ tab rfl (vS tab rfl (vQ tab rfl (w4 (w3 (vw_ret (q_thenr ?_)))))))))))))))))
        exact ⟨.inr rfl, rfl⟩
      | some r1 =>
        obtain ⟨x1, q1⟩ := r1
        obtain ⟨t1, g1, lt1, le1, d1⟩ := getN_some (s := B s) (a := t0) (by omega) (by omega) (by rw [d0]; exact h1)
        by_cases hz : t1 = (s.size : Int)
        · have hq : q1 = [] := by rw [← d1, List.drop_of_length_le]; omega
          have hmk : evtMake 0 [x1] (⟨#[]⟩) = ⟨0, 0, 0, 0, 0, 0, 0, x1⟩ := by rfl
          cases hm : evtMay ⟨0, 0, 0, 0, 0, 0, 0, x1⟩ with
          | false =>
            have hgn : evtC.get (B s) = none := by
              have hp : evtC.parse (B s) = some (⟨0, 0, 0, 0, 0, 0, 0, x1⟩, []) := by simp [Codec.parse, rdNs, evtC, evtCnt, evtText, mkB, h0, h1, hq] <;> exact hmk
              unfold Codec.get; rw [hp]; show (if evtMay _ = true then _ else _) = _; rw [hm]; rfl
            rw [evtGet_no hgn]
            refine w1 (w2 (vN tab rfl (vQ tab rfl (w4 (w3 (w1 (w2 (vQ tab rfl (vQ tab rfl (vN tab rfl (vQ tab rfl (w4 (w3 (w1 (w2 (vQ tab rfl (vT rfl callable_51 (rnum_good rfl g0 hs (by decide)) ?_)))))))))))))))))
            refine vQ tab rfl (vN tab rfl (vS tab rfl (w4 (w3 (w1 (w1 (w2 (vT rfl callable_57 (evt_parts0 (f1 := 0) (f2 := 0) (f3 := 0) (f4 := 0) (f5 := 0) (f6 := 0) (f7 := 0) rfl (by decide)) ?_))))))))
            refine vQ tab rfl (vQ tab rfl (w4 (w3 (w5 (vw_rounds 5 (rd_step (w1 (w2 (vQ tab rfl (w4 (w3 (w1 (vc_true rfl (vw_skip (w3 (w1 (w5 (w1 (w2 (vQ tab rfl (vQ tab rfl (vQ tab rfl (w4 ?_)))))))))))))))))))))))
            refine w3 (w2 (vQ tab rfl (vQ tab rfl (vT rfl callable_51 (rnum_good rfl g1 hs (by decide)) ?_))))
            refine vQ tab rfl (vS tab rfl (w4 (q_norm (w3 (w2 (vQ tab rfl (vQ tab rfl (w4 (w3 (rd_step (w1 (w2 (vQ tab rfl (w4 (w3 (w1 (vc_false rfl (vw_exit (q_thenx (q_thenx (q_here (w3 (w1 ?_)))))))))))))))))))))))
            refine w1 (w2 (vQ tab rfl (vR rfl callable_52 (done_good rfl) (vQ tab rfl (vQ tab rfl (vgd_op false rfl rfl rfl (by simp only [hm, decide_eq_true_eq, decide_eq_false_iff_not, Bool.not_eq_eq_eq_not, Bool.not_true, Bool.not_false, bne_iff_ne, bne_eq_false_iff_eq, beq_iff_eq, beq_eq_false_iff_ne, ne_eq, beq_self_eq_true, bne_self_eq_false, Bool.and_eq_true, Bool.and_eq_false_iff, Bool.or_eq_true, Bool.or_eq_false_iff, and_self, and_true, true_and, Bool.false_eq_true, Bool.true_eq_false, not_false_eq_true, not_true_eq_false]; first | done | omega) ?_))))))
            refine vQ tab rfl (vF rfl callable_31 (evt_may ⟨0, 0, 0, 0, 0, 0, 0, x1⟩) (vQ tab rfl (vQ tab rfl (w4 (w3 (vcd_true rfl (by simp only [hm, decide_eq_true_eq, decide_eq_false_iff_not, Bool.not_eq_eq_eq_not, Bool.not_true, Bool.not_false, bne_iff_ne, bne_eq_false_iff_eq, beq_iff_eq, beq_eq_false_iff_ne, ne_eq, beq_self_eq_true, bne_self_eq_false, Bool.and_eq_true, Bool.and_eq_false_iff, Bool.or_eq_true, Bool.or_eq_false_iff, and_self, and_true, true_and, Bool.false_eq_true, Bool.true_eq_false, not_false_eq_true, not_true_eq_false]; first | done | omega) ?_))))))
            refine w1 (w2 (vQ tab rfl (vS tab rfl (vQ tab rfl (w4 (w3 (vw_ret (q_thenr ?_))))))))
            exact ⟨.inr rfl, rfl⟩
          | true =>
            have hgn : evtC.get (B s) = some ⟨0, 0, 0, 0, 0, 0, 0, x1⟩ := by
              have hp : evtC.parse (B s) = some (⟨0, 0, 0, 0, 0, 0, 0, x1⟩, []) := by simp [Codec.parse, rdNs, evtC, evtCnt, evtText, mkB, h0, h1, hq] <;> exact hmk
              unfold Codec.get; rw [hp]; show (if evtMay _ = true then _ else _) = _; rw [hm]; rfl
            rw [evtGet_ok hgn]
            refine w1 (w2 (vN tab rfl (vQ tab rfl (w4 (w3 (w1 (w2 (vQ tab rfl (vQ tab rfl (vN tab rfl (vQ tab rfl (w4 (w3 (w1 (w2 (vQ tab rfl (vT rfl callable_51 (rnum_good rfl g0 hs (by decide)) ?_)))))))))))))))))
            refine vQ tab rfl (vN tab rfl (vS tab rfl (w4 (w3 (w1 (w1 (w2 (vT rfl callable_57 (evt_parts0 (f1 := 0) (f2 := 0) (f3 := 0) (f4 := 0) (f5 := 0) (f6 := 0) (f7 := 0) rfl (by decide)) ?_))))))))
            refine vQ tab rfl (vQ tab rfl (w4 (w3 (w5 (vw_rounds 5 (rd_step (w1 (w2 (vQ tab rfl (w4 (w3 (w1 (vc_true rfl (vw_skip (w3 (w1 (w5 (w1 (w2 (vQ tab rfl (vQ tab rfl (vQ tab rfl (w4 ?_)))))))))))))))))))))))
            refine w3 (w2 (vQ tab rfl (vQ tab rfl (vT rfl callable_51 (rnum_good rfl g1 hs (by decide)) ?_))))
            refine vQ tab rfl (vS tab rfl (w4 (q_norm (w3 (w2 (vQ tab rfl (vQ tab rfl (w4 (w3 (rd_step (w1 (w2 (vQ tab rfl (w4 (w3 (w1 (vc_false rfl (vw_exit (q_thenx (q_thenx (q_here (w3 (w1 ?_)))))))))))))))))))))))
            refine w1 (w2 (vQ tab rfl (vR rfl callable_52 (done_good rfl) (vQ tab rfl (vQ tab rfl (vgd_op false rfl rfl rfl (by simp only [hm, decide_eq_true_eq, decide_eq_false_iff_not, Bool.not_eq_eq_eq_not, Bool.not_true, Bool.not_false, bne_iff_ne, bne_eq_false_iff_eq, beq_iff_eq, beq_eq_false_iff_ne, ne_eq, beq_self_eq_true, bne_self_eq_false, Bool.and_eq_true, Bool.and_eq_false_iff, Bool.or_eq_true, Bool.or_eq_false_iff, and_self, and_true, true_and, Bool.false_eq_true, Bool.true_eq_false, not_false_eq_true, not_true_eq_false]; first | done | omega) ?_))))))
            refine vQ tab rfl (vF rfl callable_31 (evt_may ⟨0, 0, 0, 0, 0, 0, 0, x1⟩) (vQ tab rfl (vQ tab rfl (w4 (w3 (vcd_false rfl (by simp only [hm, decide_eq_true_eq, decide_eq_false_iff_not, Bool.not_eq_eq_eq_not, Bool.not_true, Bool.not_false, bne_iff_ne, bne_eq_false_iff_eq, beq_iff_eq, beq_eq_false_iff_ne, ne_eq, beq_self_eq_true, bne_self_eq_false, Bool.and_eq_true, Bool.and_eq_false_iff, Bool.or_eq_true, Bool.or_eq_false_iff, and_self, and_true, true_and, Bool.false_eq_true, Bool.true_eq_false, not_false_eq_true, not_true_eq_false]; first | done | omega) ?_))))))
            refine vw_skip (w3 (w1 (w2 (vQ tab rfl (vS tab rfl (vQ tab rfl (w4 (w3 (vw_ret ?_)))))))))
            exact ⟨.inr rfl, rfl⟩
        · have hq : q1 ≠ [] := fun hq => by rw [hq] at d1; have := congrArg List.length d1; rw [List.length_drop] at this; simp at this; omega
          have hgn : evtC.get (B s) = none := by
            obtain ⟨z, zs, hzz⟩ := List.exists_cons_of_ne_nil hq
            simp [Codec.get, Codec.parse, rdNs, evtC, evtCnt, evtText, hzz, h0, h1]
          rw [evtGet_no hgn]
          refine w1 (w2 (vN tab rfl (vQ tab rfl (w4 (w3 (w1 (w2 (vQ tab rfl (vQ tab rfl (vN tab rfl (vQ tab rfl (w4 (w3 (w1 (w2 (vQ tab rfl (vT rfl callable_51 (rnum_good rfl g0 hs (by decide)) ?_)))))))))))))))))
          refine vQ tab rfl (vN tab rfl (vS tab rfl (w4 (w3 (w1 (w1 (w2 (vT rfl callable_57 (evt_parts0 (f1 := 0) (f2 := 0) (f3 := 0) (f4 := 0) (f5 := 0) (f6 := 0) (f7 := 0) rfl (by decide)) ?_))))))))
          refine vQ tab rfl (vQ tab rfl (w4 (w3 (w5 (vw_rounds 5 (rd_step (w1 (w2 (vQ tab rfl (w4 (w3 (w1 (vc_true rfl (vw_skip (w3 (w1 (w5 (w1 (w2 (vQ tab rfl (vQ tab rfl (vQ tab rfl (w4 ?_)))))))))))))))))))))))
          refine w3 (w2 (vQ tab rfl (vQ tab rfl (vT rfl callable_51 (rnum_good rfl g1 hs (by decide)) ?_))))
          refine vQ tab rfl (vS tab rfl (w4 (q_norm (w3 (w2 (vQ tab rfl (vQ tab rfl (w4 (w3 (rd_step (w1 (w2 (vQ tab rfl (w4 (w3 (w1 (vc_false rfl (vw_exit (q_thenx (q_thenx (q_here (w3 (w1 ?_)))))))))))))))))))))))
          refine w1 (w2 (vQ tab rfl (vR rfl callable_52 (done_good rfl) (vQ tab rfl (vQ tab rfl (vgd_op true rfl rfl rfl (by simp only [decide_eq_true_eq, decide_eq_false_iff_not, Bool.not_eq_eq_eq_not, Bool.not_true, Bool.not_false, bne_iff_ne, bne_eq_false_iff_eq, beq_iff_eq, beq_eq_false_iff_ne, ne_eq, beq_self_eq_true, bne_self_eq_false, Bool.and_eq_true, Bool.and_eq_false_iff, Bool.or_eq_true, Bool.or_eq_false_iff, and_self, and_true, true_and, Bool.false_eq_true, Bool.true_eq_false, not_false_eq_true, not_true_eq_false]; first | done | omega) ?_))))))
          refine vK rfl (vK rfl (vK rfl (vQ tab rfl (w4 (w3 (vc_true rfl (w1 (w2 (vQ tab rfl (vS tab rfl (vQ tab rfl (w4 (w3 (vw_ret (q_thenr ?_)))))))))))))))
          exact ⟨.inr rfl, rfl⟩
    ·
      cases h1 : rdN q0 with
      | none =>
        obtain ⟨e, p, hg, he⟩ := getN_none (s := B s) (a := t0) (by omega) (by omega) (by rw [d0]; exact h1)
        rw [evtGet_no (by simp [Codec.get, Codec.parse, rdNs, evtC, evtCnt, evtText, h0, h1])]
        refine w1 (w2 (vN tab rfl (vQ tab rfl (w4 (w3 (w1 (w2 (vQ tab rfl (vQ tab rfl (vN tab rfl (vQ tab rfl (w4 (w3 (w1 (w2 (vQ tab rfl (vT rfl callable_51 (rnum_good rfl g0 hs (by decide)) ?_)))))))))))))))))
        refine vQ tab rfl (vN tab rfl (vS tab rfl (w4 (w3 (w1 (w1 (w2 (vT rfl callable_57 (evt_parts1 (f1 := 0) (f2 := 0) (f3 := 0) (f4 := 0) (f5 := 0) (f6 := 0) (f7 := 0) rfl (by decide)) ?_))))))))
        refine vQ tab rfl (vQ tab rfl (w4 (w3 (w5 (vw_rounds 5 (rd_step (w1 (w2 (vQ tab rfl (w4 (w3 (w1 (vc_true rfl (vw_skip (w3 (w1 (w5 (w1 (w2 (vQ tab rfl (vQ tab rfl (vQ tab rfl (w4 ?_)))))))))))))))))))))))
        refine w3 (w2 (vQ tab rfl (vQ tab rfl (vT rfl callable_51 (rnum_fail rfl hg he hs (by decide)) ?_))))
        refine vQ tab rfl (vS tab rfl (w4 (q_norm (w3 (w2 (vQ tab rfl (vQ tab rfl (w4 (w3 (rd_step (w1 (w2 (vQ tab rfl (w4 (w3 (w1 (vc_true rfl (vw_skip (w3 (w1 (w5 (w1 (w2 ?_)))))))))))))))))))))))
        refine vQ tab rfl (vQ tab rfl (vQ tab rfl (w4 (w3 (w2 (vQ tab rfl (vQ tab rfl (vR rfl callable_51 (rnum_bad rfl rfl (by decide)) ?_))))))))
        refine vQ tab rfl (vS tab rfl (w4 (q_norm (w3 (w2 (vQ tab rfl (vQ tab rfl (w4 (w3 (rd_step (w1 (w2 (vQ tab rfl (w4 (w3 (w1 (vc_true rfl (vw_skip (w3 (w1 (w5 (w1 (w2 ?_)))))))))))))))))))))))
        refine vQ tab rfl (vQ tab rfl (vQ tab rfl (w4 (w3 (w2 (vQ tab rfl (vQ tab rfl (vR rfl callable_51 (rnum_bad rfl rfl (by decide)) ?_))))))))
        refine vQ tab rfl (vS tab rfl (w4 (q_norm (w3 (w2 (vQ tab rfl (vQ tab rfl (w4 (w3 (rd_step (w1 (w2 (vQ tab rfl (w4 (w3 (w1 (vc_true rfl (vw_skip (w3 (w1 (w5 (w1 (w2 ?_)))))))))))))))))))))))
        refine vQ tab rfl (vQ tab rfl (vQ tab rfl (w4 (w3 (w2 (vQ tab rfl (vQ tab rfl (vR rfl callable_51 (rnum_bad rfl rfl (by decide)) ?_))))))))
        refine vQ tab rfl (vS tab rfl (w4 (q_norm (w3 (w2 (vQ tab rfl (vQ tab rfl (w4 (w3 (rd_step (w1 (w2 (vQ tab rfl (w4 (w3 (w1 (vc_false rfl (vw_exit (q_thenx (q_thenx (q_here (w3 (w1 ?_)))))))))))))))))))))))
        refine w1 (w2 (vQ tab rfl (vR rfl callable_52 (done_bad rfl rfl (by decide)) ?_)))
        refine vQ tab rfl (vQ tab rfl (vK rfl (vK rfl (vK rfl (vQ tab rfl (w4 (w3 (vc_true rfl (w1 (w2 (vQ tab rfl (vS tab rfl (vQ tab rfl (w4 (w3 (vw_ret (q_thenr ?_)))))))))))))))))
        exact ⟨.inr rfl, rfl⟩
      | some r1 =>
        obtain ⟨x1, q1⟩ := r1
        obtain ⟨t1, g1, lt1, le1, d1⟩ := getN_some (s := B s) (a := t0) (by omega) (by omega) (by rw [d0]; exact h1)
        cases h2 : rdN q1 with
        | none =>
          obtain ⟨e, p, hg, he⟩ := getN_none (s := B s) (a := t1) (by omega) (by omega) (by rw [d1]; exact h2)
          rw [evtGet_no (by simp [Codec.get, Codec.parse, rdNs, evtC, evtCnt, evtText, h0, h1, h2])]
          refine w1 (w2 (vN tab rfl (vQ tab rfl (w4 (w3 (w1 (w2 (vQ tab rfl (vQ tab rfl (vN tab rfl (vQ tab rfl (w4 (w3 (w1 (w2 (vQ tab rfl (vT rfl callable_51 (rnum_good rfl g0 hs (by decide)) ?_)))))))))))))))))
          refine vQ tab rfl (vN tab rfl (vS tab rfl (w4 (w3 (w1 (w1 (w2 (vT rfl callable_57 (evt_parts1 (f1 := 0) (f2 := 0) (f3 := 0) (f4 := 0) (f5 := 0) (f6 := 0) (f7 := 0) rfl (by decide)) ?_))))))))
          refine vQ tab rfl (vQ tab rfl (w4 (w3 (w5 (vw_rounds 5 (rd_step (w1 (w2 (vQ tab rfl (w4 (w3 (w1 (vc_true rfl (vw_skip (w3 (w1 (w5 (w1 (w2 (vQ tab rfl (vQ tab rfl (vQ tab rfl (w4 ?_)))))))))))))))))))))))
          refine w3 (w2 (vQ tab rfl (vQ tab rfl (vT rfl callable_51 (rnum_good rfl g1 hs (by decide)) ?_))))
          refine vQ tab rfl (vS tab rfl (w4 (q_norm (w3 (w2 (vQ tab rfl (vQ tab rfl (w4 (w3 (rd_step (w1 (w2 (vQ tab rfl (w4 (w3 (w1 (vc_true rfl (vw_skip (w3 (w1 (w5 (w1 (w2 ?_)))))))))))))))))))))))
          refine vQ tab rfl (vQ tab rfl (vQ tab rfl (w4 (w3 (w2 (vQ tab rfl (vQ tab rfl (vT rfl callable_51 (rnum_fail rfl hg he hs (by decide)) ?_))))))))
          refine vQ tab rfl (vS tab rfl (w4 (q_norm (w3 (w2 (vQ tab rfl (vQ tab rfl (w4 (w3 (rd_step (w1 (w2 (vQ tab rfl (w4 (w3 (w1 (vc_true rfl (vw_skip (w3 (w1 (w5 (w1 (w2 ?_)))))))))))))))))))))))
          refine vQ tab rfl (vQ tab rfl (vQ tab rfl (w4 (w3 (w2 (vQ tab rfl (vQ tab rfl (vR rfl callable_51 (rnum_bad rfl rfl (by decide)) ?_))))))))
          refine vQ tab rfl (vS tab rfl (w4 (q_norm (w3 (w2 (vQ tab rfl (vQ tab rfl (w4 (w3 (rd_step (w1 (w2 (vQ tab rfl (w4 (w3 (w1 (vc_true rfl (vw_skip (w3 (w1 (w5 (w1 (w2 ?_)))))))))))))))))))))))
          refine vQ tab rfl (vQ tab rfl (vQ tab rfl (w4 (w3 (w2 (vQ tab rfl (vQ tab rfl (vR rfl callable_51 (rnum_bad rfl rfl (by decide)) ?_))))))))
          refine vQ tab rfl (vS tab rfl (w4 (q_norm (w3 (w2 (vQ tab rfl (vQ tab rfl (w4 (w3 (rd_step (w1 (w2 (vQ tab rfl (w4 (w3 (w1 (vc_false rfl (vw_exit (q_thenx (q_thenx (q_here (w3 (w1 ?_)))))))))))))))))))))))
          refine w1 (w2 (vQ tab rfl (vR rfl callable_52 (done_bad rfl rfl (by decide)) ?_)))
          refine vQ tab rfl (vQ tab rfl (vK rfl (vK rfl (vK rfl (vQ tab rfl (w4 (w3 (vc_true rfl (w1 (w2 (vQ tab rfl (vS tab rfl (vQ tab rfl (w4 (w3 (vw_ret (q_thenr ?_)))))))))))))))))
          exact ⟨.inr rfl, rfl⟩
        | some r2 =>
          obtain ⟨x2, q2⟩ := r2
          obtain ⟨t2, g2, lt2, le2, d2⟩ := getN_some (s := B s) (a := t1) (by omega) (by omega) (by rw [d1]; exact h2)
          cases h3 : rdN q2 with
          | none =>
            obtain ⟨e, p, hg, he⟩ := getN_none (s := B s) (a := t2) (by omega) (by omega) (by rw [d2]; exact h3)
            rw [evtGet_no (by simp [Codec.get, Codec.parse, rdNs, evtC, evtCnt, evtText, h0, h1, h2, h3])]
            refine w1 (w2 (vN tab rfl (vQ tab rfl (w4 (w3 (w1 (w2 (vQ tab rfl (vQ tab rfl (vN tab rfl (vQ tab rfl (w4 (w3 (w1 (w2 (vQ tab rfl (vT rfl callable_51 (rnum_good rfl g0 hs (by decide)) ?_)))))))))))))))))
            refine vQ tab rfl (vN tab rfl (vS tab rfl (w4 (w3 (w1 (w1 (w2 (vT rfl callable_57 (evt_parts1 (f1 := 0) (f2 := 0) (f3 := 0) (f4 := 0) (f5 := 0) (f6 := 0) (f7 := 0) rfl (by decide)) ?_))))))))
            refine vQ tab rfl (vQ tab rfl (w4 (w3 (w5 (vw_rounds 5 (rd_step (w1 (w2 (vQ tab rfl (w4 (w3 (w1 (vc_true rfl (vw_skip (w3 (w1 (w5 (w1 (w2 (vQ tab rfl (vQ tab rfl (vQ tab rfl (w4 ?_)))))))))))))))))))))))
            refine w3 (w2 (vQ tab rfl (vQ tab rfl (vT rfl callable_51 (rnum_good rfl g1 hs (by decide)) ?_))))
            refine vQ tab rfl (vS tab rfl (w4 (q_norm (w3 (w2 (vQ tab rfl (vQ tab rfl (w4 (w3 (rd_step (w1 (w2 (vQ tab rfl (w4 (w3 (w1 (vc_true rfl (vw_skip (w3 (w1 (w5 (w1 (w2 ?_)))))))))))))))))))))))
            refine vQ tab rfl (vQ tab rfl (vQ tab rfl (w4 (w3 (w2 (vQ tab rfl (vQ tab rfl (vT rfl callable_51 (rnum_good rfl g2 hs (by decide)) ?_))))))))
            refine vQ tab rfl (vS tab rfl (w4 (q_norm (w3 (w2 (vQ tab rfl (vQ tab rfl (w4 (w3 (rd_step (w1 (w2 (vQ tab rfl (w4 (w3 (w1 (vc_true rfl (vw_skip (w3 (w1 (w5 (w1 (w2 ?_)))))))))))))))))))))))
            refine vQ tab rfl (vQ tab rfl (vQ tab rfl (w4 (w3 (w2 (vQ tab rfl (vQ tab rfl (vT rfl callable_51 (rnum_fail rfl hg he hs (by decide)) ?_))))))))
            refine vQ tab rfl (vS tab rfl (w4 (q_norm (w3 (w2 (vQ tab rfl (vQ tab rfl (w4 (w3 (rd_step (w1 (w2 (vQ tab rfl (w4 (w3 (w1 (vc_true rfl (vw_skip (w3 (w1 (w5 (w1 (w2 ?_)))))))))))))))))))))))
            refine vQ tab rfl (vQ tab rfl (vQ tab rfl (w4 (w3 (w2 (vQ tab rfl (vQ tab rfl (vR rfl callable_51 (rnum_bad rfl rfl (by decide)) ?_))))))))
            refine vQ tab rfl (vS tab rfl (w4 (q_norm (w3 (w2 (vQ tab rfl (vQ tab rfl (w4 (w3 (rd_step (w1 (w2 (vQ tab rfl (w4 (w3 (w1 (vc_false rfl (vw_exit (q_thenx (q_thenx (q_here (w3 (w1 ?_)))))))))))))))))))))))
            refine w1 (w2 (vQ tab rfl (vR rfl callable_52 (done_bad rfl rfl (by decide)) ?_)))
            refine vQ tab rfl (vQ tab rfl (vK rfl (vK rfl (vK rfl (vQ tab rfl (w4 (w3 (vc_true rfl (w1 (w2 (vQ tab rfl (vS tab rfl (vQ tab rfl (w4 (w3 (vw_ret (q_thenr ?_)))))))))))))))))
            exact ⟨.inr rfl, rfl⟩
          | some r3 =>
            obtain ⟨x3, q3⟩ := r3
            obtain ⟨t3, g3, lt3, le3, d3⟩ := getN_some (s := B s) (a := t2) (by omega) (by omega) (by rw [d2]; exact h3)
            cases h4 : rdN q3 with
            | none =>
              obtain ⟨e, p, hg, he⟩ := getN_none (s := B s) (a := t3) (by omega) (by omega) (by rw [d3]; exact h4)
              rw [evtGet_no (by simp [Codec.get, Codec.parse, rdNs, evtC, evtCnt, evtText, h0, h1, h2, h3, h4])]
              refine w1 (w2 (vN tab rfl (vQ tab rfl (w4 (w3 (w1 (w2 (vQ tab rfl (vQ tab rfl (vN tab rfl (vQ tab rfl (w4 (w3 (w1 (w2 (vQ tab rfl (vT rfl callable_51 (rnum_good rfl g0 hs (by decide)) ?_)))))))))))))))))
              refine vQ tab rfl (vN tab rfl (vS tab rfl (w4 (w3 (w1 (w1 (w2 (vT rfl callable_57 (evt_parts1 (f1 := 0) (f2 := 0) (f3 := 0) (f4 := 0) (f5 := 0) (f6 := 0) (f7 := 0) rfl (by decide)) ?_))))))))
              refine vQ tab rfl (vQ tab rfl (w4 (w3 (w5 (vw_rounds 5 (rd_step (w1 (w2 (vQ tab rfl (w4 (w3 (w1 (vc_true rfl (vw_skip (w3 (w1 (w5 (w1 (w2 (vQ tab rfl (vQ tab rfl (vQ tab rfl (w4 ?_)))))))))))))))))))))))
              refine w3 (w2 (vQ tab rfl (vQ tab rfl (vT rfl callable_51 (rnum_good rfl g1 hs (by decide)) ?_))))
              refine vQ tab rfl (vS tab rfl (w4 (q_norm (w3 (w2 (vQ tab rfl (vQ tab rfl (w4 (w3 (rd_step (w1 (w2 (vQ tab rfl (w4 (w3 (w1 (vc_true rfl (vw_skip (w3 (w1 (w5 (w1 (w2 ?_)))))))))))))))))))))))
              refine vQ tab rfl (vQ tab rfl (vQ tab rfl (w4 (w3 (w2 (vQ tab rfl (vQ tab rfl (vT rfl callable_51 (rnum_good rfl g2 hs (by decide)) ?_))))))))
              refine vQ tab rfl (vS tab rfl (w4 (q_norm (w3 (w2 (vQ tab rfl (vQ tab rfl (w4 (w3 (rd_step (w1 (w2 (vQ tab rfl (w4 (w3 (w1 (vc_true rfl (vw_skip (w3 (w1 (w5 (w1 (w2 ?_)))))))))))))))))))))))
              refine vQ tab rfl (vQ tab rfl (vQ tab rfl (w4 (w3 (w2 (vQ tab rfl (vQ tab rfl (vT rfl callable_51 (rnum_good rfl g3 hs (by decide)) ?_))))))))
              refine vQ tab rfl (vS tab rfl (w4 (q_norm (w3 (w2 (vQ tab rfl (vQ tab rfl (w4 (w3 (rd_step (w1 (w2 (vQ tab rfl (w4 (w3 (w1 (vc_true rfl (vw_skip (w3 (w1 (w5 (w1 (w2 ?_)))))))))))))))))))))))
              refine vQ tab rfl (vQ tab rfl (vQ tab rfl (w4 (w3 (w2 (vQ tab rfl (vQ tab rfl (vT rfl callable_51 (rnum_fail rfl hg he hs (by decide)) ?_))))))))
              refine vQ tab rfl (vS tab rfl (w4 (q_norm (w3 (w2 (vQ tab rfl (vQ tab rfl (w4 (w3 (rd_step (w1 (w2 (vQ tab rfl (w4 (w3 (w1 (vc_false rfl (vw_exit (q_thenx (q_thenx (q_here (w3 (w1 ?_)))))))))))))))))))))))
              refine w1 (w2 (vQ tab rfl (vR rfl callable_52 (done_bad rfl rfl (by decide)) ?_)))
              refine vQ tab rfl (vQ tab rfl (vK rfl (vK rfl (vK rfl (vQ tab rfl (w4 (w3 (vc_true rfl (w1 (w2 (vQ tab rfl (vS tab rfl (vQ tab rfl (w4 (w3 (vw_ret (q_thenr ?_)))))))))))))))))
              exact ⟨.inr rfl, rfl⟩
            | some r4 =>
              obtain ⟨x4, q4⟩ := r4
              obtain ⟨t4, g4, lt4, le4, d4⟩ := getN_some (s := B s) (a := t3) (by omega) (by omega) (by rw [d3]; exact h4)
              by_cases hz : t4 = (s.size : Int)
              · have hq : q4 = [] := by rw [← d4, List.drop_of_length_le]; omega
                have hmk : evtMake 1 [x1, x2, x3, x4] (⟨#[]⟩) = ⟨1, x1, 0, 0, x2, x3, x4, 0⟩ := by rfl
                cases hm : evtMay ⟨1, x1, 0, 0, x2, x3, x4, 0⟩ with
                | false =>
                  have hgn : evtC.get (B s) = none := by
                    have hp : evtC.parse (B s) = some (⟨1, x1, 0, 0, x2, x3, x4, 0⟩, []) := by simp [Codec.parse, rdNs, evtC, evtCnt, evtText, mkB, h0, h1, h2, h3, h4, hq] <;> exact hmk
                    unfold Codec.get; rw [hp]; show (if evtMay _ = true then _ else _) = _; rw [hm]; rfl
                  rw [evtGet_no hgn]
                  refine w1 (w2 (vN tab rfl (vQ tab rfl (w4 (w3 (w1 (w2 (vQ tab rfl (vQ tab rfl (vN tab rfl (vQ tab rfl (w4 (w3 (w1 (w2 (vQ tab rfl (vT rfl callable_51 (rnum_good rfl g0 hs (by decide)) ?_)))))))))))))))))
                  refine vQ tab rfl (vN tab rfl (vS tab rfl (w4 (w3 (w1 (w1 (w2 (vT rfl callable_57 (evt_parts1 (f1 := 0) (f2 := 0) (f3 := 0) (f4 := 0) (f5 := 0) (f6 := 0) (f7 := 0) rfl (by decide)) ?_))))))))
                  refine vQ tab rfl (vQ tab rfl (w4 (w3 (w5 (vw_rounds 5 (rd_step (w1 (w2 (vQ tab rfl (w4 (w3 (w1 (vc_true rfl (vw_skip (w3 (w1 (w5 (w1 (w2 (vQ tab rfl (vQ tab rfl (vQ tab rfl (w4 ?_)))))))))))))))))))))))
                  refine w3 (w2 (vQ tab rfl (vQ tab rfl (vT rfl callable_51 (rnum_good rfl g1 hs (by decide)) ?_))))
                  refine vQ tab rfl (vS tab rfl (w4 (q_norm (w3 (w2 (vQ tab rfl (vQ tab rfl (w4 (w3 (rd_step (w1 (w2 (vQ tab rfl (w4 (w3 (w1 (vc_true rfl (vw_skip (w3 (w1 (w5 (w1 (w2 ?_)))))))))))))))))))))))
                  refine vQ tab rfl (vQ tab rfl (vQ tab rfl (w4 (w3 (w2 (vQ tab rfl (vQ tab rfl (vT rfl callable_51 (rnum_good rfl g2 hs (by decide)) ?_))))))))
                  refine vQ tab rfl (vS tab rfl (w4 (q_norm (w3 (w2 (vQ tab rfl (vQ tab rfl (w4 (w3 (rd_step (w1 (w2 (vQ tab rfl (w4 (w3 (w1 (vc_true rfl (vw_skip (w3 (w1 (w5 (w1 (w2 ?_)))))))))))))))))))))))
                  refine vQ tab rfl (vQ tab rfl (vQ tab rfl (w4 (w3 (w2 (vQ tab rfl (vQ tab rfl (vT rfl callable_51 (rnum_good rfl g3 hs (by decide)) ?_))))))))
                  refine vQ tab rfl (vS tab rfl (w4 (q_norm (w3 (w2 (vQ tab rfl (vQ tab rfl (w4 (w3 (rd_step (w1 (w2 (vQ tab rfl (w4 (w3 (w1 (vc_true rfl (vw_skip (w3 (w1 (w5 (w1 (w2 ?_)))))))))))))))))))))))
                  refine vQ tab rfl (vQ tab rfl (vQ tab rfl (w4 (w3 (w2 (vQ tab rfl (vQ tab rfl (vT rfl callable_51 (rnum_good rfl g4 hs (by decide)) ?_))))))))
                  refine vQ tab rfl (vS tab rfl (w4 (q_norm (w3 (w2 (vQ tab rfl (vQ tab rfl (w4 (w3 (rd_step (w1 (w2 (vQ tab rfl (w4 (w3 (w1 (vc_false rfl (vw_exit (q_thenx (q_thenx (q_here (w3 (w1 ?_)))))))))))))))))))))))
                  refine w1 (w2 (vQ tab rfl (vR rfl callable_52 (done_good rfl) (vQ tab rfl (vQ tab rfl (vgd_op false rfl rfl rfl (by simp only [hm, decide_eq_true_eq, decide_eq_false_iff_not, Bool.not_eq_eq_eq_not, Bool.not_true, Bool.not_false, bne_iff_ne, bne_eq_false_iff_eq, beq_iff_eq, beq_eq_false_iff_ne, ne_eq, beq_self_eq_true, bne_self_eq_false, Bool.and_eq_true, Bool.and_eq_false_iff, Bool.or_eq_true, Bool.or_eq_false_iff, and_self, and_true, true_and, Bool.false_eq_true, Bool.true_eq_false, not_false_eq_true, not_true_eq_false]; first | done | omega) ?_))))))
                  refine vQ tab rfl (vF rfl callable_31 (evt_may ⟨1, x1, 0, 0, x2, x3, x4, 0⟩) (vQ tab rfl (vQ tab rfl (w4 (w3 (vcd_true rfl (by simp only [hm, decide_eq_true_eq, decide_eq_false_iff_not, Bool.not_eq_eq_eq_not, Bool.not_true, Bool.not_false, bne_iff_ne, bne_eq_false_iff_eq, beq_iff_eq, beq_eq_false_iff_ne, ne_eq, beq_self_eq_true, bne_self_eq_false, Bool.and_eq_true, Bool.and_eq_false_iff, Bool.or_eq_true, Bool.or_eq_false_iff, and_self, and_true, true_and, Bool.false_eq_true, Bool.true_eq_false, not_false_eq_true, not_true_eq_false]; first | done | omega) ?_))))))
                  refine w1 (w2 (vQ tab rfl (vS tab rfl (vQ tab rfl (w4 (w3 (vw_ret (q_thenr ?_))))))))
                  exact ⟨.inr rfl, rfl⟩
                | true =>
                  have hgn : evtC.get (B s) = some ⟨1, x1, 0, 0, x2, x3, x4, 0⟩ := by
                    have hp : evtC.parse (B s) = some (⟨1, x1, 0, 0, x2, x3, x4, 0⟩, []) := by simp [Codec.parse, rdNs, evtC, evtCnt, evtText, mkB, h0, h1, h2, h3, h4, hq] <;> exact hmk
                    unfold Codec.get; rw [hp]; show (if evtMay _ = true then _ else _) = _; rw [hm]; rfl
                  rw [evtGet_ok hgn]
                  refine w1 (w2 (vN tab rfl (vQ tab rfl (w4 (w3 (w1 (w2 (vQ tab rfl (vQ tab rfl (vN tab rfl (vQ tab rfl (w4 (w3 (w1 (w2 (vQ tab rfl (vT rfl callable_51 (rnum_good rfl g0 hs (by decide)) ?_)))))))))))))))))
                  refine vQ tab rfl (vN tab rfl (vS tab rfl (w4 (w3 (w1 (w1 (w2 (vT rfl callable_57 (evt_parts1 (f1 := 0) (f2 := 0) (f3 := 0) (f4 := 0) (f5 := 0) (f6 := 0) (f7 := 0) rfl (by decide)) ?_))))))))
                  refine vQ tab rfl (vQ tab rfl (w4 (w3 (w5 (vw_rounds 5 (rd_step (w1 (w2 (vQ tab rfl (w4 (w3 (w1 (vc_true rfl (vw_skip (w3 (w1 (w5 (w1 (w2 (vQ tab rfl (vQ tab rfl (vQ tab rfl (w4 ?_)))))))))))))))))))))))
                  refine w3 (w2 (vQ tab rfl (vQ tab rfl (vT rfl callable_51 (rnum_good rfl g1 hs (by decide)) ?_))))
                  refine vQ tab rfl (vS tab rfl (w4 (q_norm (w3 (w2 (vQ tab rfl (vQ tab rfl (w4 (w3 (rd_step (w1 (w2 (vQ tab rfl (w4 (w3 (w1 (vc_true rfl (vw_skip (w3 (w1 (w5 (w1 (w2 ?_)))))))))))))))))))))))
                  refine vQ tab rfl (vQ tab rfl (vQ tab rfl (w4 (w3 (w2 (vQ tab rfl (vQ tab rfl (vT rfl callable_51 (rnum_good rfl g2 hs (by decide)) ?_))))))))
                  refine vQ tab rfl (vS tab rfl (w4 (q_norm (w3 (w2 (vQ tab rfl (vQ tab rfl (w4 (w3 (rd_step (w1 (w2 (vQ tab rfl (w4 (w3 (w1 (vc_true rfl (vw_skip (w3 (w1 (w5 (w1 (w2 ?_)))))))))))))))))))))))
                  refine vQ tab rfl (vQ tab rfl (vQ tab rfl (w4 (w3 (w2 (vQ tab rfl (vQ tab rfl (vT rfl callable_51 (rnum_good rfl g3 hs (by decide)) ?_))))))))
                  refine vQ tab rfl (vS tab rfl (w4 (q_norm (w3 (w2 (vQ tab rfl (vQ tab rfl (w4 (w3 (rd_step (w1 (w2 (vQ tab rfl (w4 (w3 (w1 (vc_true rfl (vw_skip (w3 (w1 (w5 (w1 (w2 ?_)))))))))))))))))))))))
                  refine vQ tab rfl (vQ tab rfl (vQ tab rfl (w4 (w3 (w2 (vQ tab rfl (vQ tab rfl (vT rfl callable_51 (rnum_good rfl g4 hs (by decide)) ?_))))))))
                  refine vQ tab rfl (vS tab rfl (w4 (q_norm (w3 (w2 (vQ tab rfl (vQ tab rfl (w4 (w3 (rd_step (w1 (w2 (vQ tab rfl (w4 (w3 (w1 (vc_false rfl (vw_exit (q_thenx (q_thenx (q_here (w3 (w1 ?_)))))))))))))))))))))))
                  refine w1 (w2 (vQ tab rfl (vR rfl callable_52 (done_good rfl) (vQ tab rfl (vQ tab rfl (vgd_op false rfl rfl rfl (by simp only [hm, decide_eq_true_eq, decide_eq_false_iff_not, Bool.not_eq_eq_eq_not, Bool.not_true, Bool.not_false, bne_iff_ne, bne_eq_false_iff_eq, beq_iff_eq, beq_eq_false_iff_ne, ne_eq, beq_self_eq_true, bne_self_eq_false, Bool.and_eq_true, Bool.and_eq_false_iff, Bool.or_eq_true, Bool.or_eq_false_iff, and_self, and_true, true_and, Bool.false_eq_true, Bool.true_eq_false, not_false_eq_true, not_true_eq_false]; first | done | omega) ?_))))))
                  refine vQ tab rfl (vF rfl callable_31 (evt_may ⟨1, x1, 0, 0, x2, x3, x4, 0⟩) (vQ tab rfl (vQ tab rfl (w4 (w3 (vcd_false rfl (by simp only [hm, decide_eq_true_eq, decide_eq_false_iff_not, Bool.not_eq_eq_eq_not, Bool.not_true, Bool.not_false, bne_iff_ne, bne_eq_false_iff_eq, beq_iff_eq, beq_eq_false_iff_ne, ne_eq, beq_self_eq_true, bne_self_eq_false, Bool.and_eq_true, Bool.and_eq_false_iff, Bool.or_eq_true, Bool.or_eq_false_iff, and_self, and_true, true_and, Bool.false_eq_true, Bool.true_eq_false, not_false_eq_true, not_true_eq_false]; first | done | omega) ?_))))))
                  refine vw_skip (w3 (w1 (w2 (vQ tab rfl (vS tab rfl (vQ tab rfl (w4 (w3 (vw_ret ?_)))))))))
                  exact ⟨.inr rfl, rfl⟩
              · have hq : q4 ≠ [] := fun hq => by rw [hq] at d4; have := congrArg List.length d4; rw [List.length_drop] at this; simp at this; omega
                have hgn : evtC.get (B s) = none := by
                  obtain ⟨z, zs, hzz⟩ := List.exists_cons_of_ne_nil hq
                  simp [Codec.get, Codec.parse, rdNs, evtC, evtCnt, evtText, hzz, h0, h1, h2, h3, h4]
                rw [evtGet_no hgn]
                refine w1 (w2 (vN tab rfl (vQ tab rfl (w4 (w3 (w1 (w2 (vQ tab rfl (vQ tab rfl (vN tab rfl (vQ tab rfl (w4 (w3 (w1 (w2 (vQ tab rfl (vT rfl callable_51 (rnum_good rfl g0 hs (by decide)) ?_)))))))))))))))))
                refine vQ tab rfl (vN tab rfl (vS tab rfl (w4 (w3 (w1 (w1 (w2 (vT rfl callable_57 (evt_parts1 (f1 := 0) (f2 := 0) (f3 := 0) (f4 := 0) (f5 := 0) (f6 := 0) (f7 := 0) rfl (by decide)) ?_))))))))
                refine vQ tab rfl (vQ tab rfl (w4 (w3 (w5 (vw_rounds 5 (rd_step (w1 (w2 (vQ tab rfl (w4 (w3 (w1 (vc_true rfl (vw_skip (w3 (w1 (w5 (w1 (w2 (vQ tab rfl (vQ tab rfl (vQ tab rfl (w4 ?_)))))))))))))))))))))))
                refine w3 (w2 (vQ tab rfl (vQ tab rfl (vT rfl callable_51 (rnum_good rfl g1 hs (by decide)) ?_))))
                refine vQ tab rfl (vS tab rfl (w4 (q_norm (w3 (w2 (vQ tab rfl (vQ tab rfl (w4 (w3 (rd_step (w1 (w2 (vQ tab rfl (w4 (w3 (w1 (vc_true rfl (vw_skip (w3 (w1 (w5 (w1 (w2 ?_)))))))))))))))))))))))
                refine vQ tab rfl (vQ tab rfl (vQ tab rfl (w4 (w3 (w2 (vQ tab rfl (vQ tab rfl (vT rfl callable_51 (rnum_good rfl g2 hs (by decide)) ?_))))))))
                refine vQ tab rfl (vS tab rfl (w4 (q_norm (w3 (w2 (vQ tab rfl (vQ tab rfl (w4 (w3 (rd_step (w1 (w2 (vQ tab rfl (w4 (w3 (w1 (vc_true rfl (vw_skip (w3 (w1 (w5 (w1 (w2 ?_)))))))))))))))))))))))
                refine vQ tab rfl (vQ tab rfl (vQ tab rfl (w4 (w3 (w2 (vQ tab rfl (vQ tab rfl (vT rfl callable_51 (rnum_good rfl g3 hs (by decide)) ?_))))))))
                refine vQ tab rfl (vS tab rfl (w4 (q_norm (w3 (w2 (vQ tab rfl (vQ tab rfl (w4 (w3 (rd_step (w1 (w2 (vQ tab rfl (w4 (w3 (w1 (vc_true rfl (vw_skip (w3 (w1 (w5 (w1 (w2 ?_)))))))))))))))))))))))
                refine vQ tab rfl (vQ tab rfl (vQ tab rfl (w4 (w3 (w2 (vQ tab rfl (vQ tab rfl (vT rfl callable_51 (rnum_good rfl g4 hs (by decide)) ?_))))))))
                refine vQ tab rfl (vS tab rfl (w4 (q_norm (w3 (w2 (vQ tab rfl (vQ tab rfl (w4 (w3 (rd_step (w1 (w2 (vQ tab rfl (w4 (w3 (w1 (vc_false rfl (vw_exit (q_thenx (q_thenx (q_here (w3 (w1 ?_)))))))))))))))))))))))
                refine w1 (w2 (vQ tab rfl (vR rfl callable_52 (done_good rfl) (vQ tab rfl (vQ tab rfl (vgd_op true rfl rfl rfl (by simp only [decide_eq_true_eq, decide_eq_false_iff_not, Bool.not_eq_eq_eq_not, Bool.not_true, Bool.not_false, bne_iff_ne, bne_eq_false_iff_eq, beq_iff_eq, beq_eq_false_iff_ne, ne_eq, beq_self_eq_true, bne_self_eq_false, Bool.and_eq_true, Bool.and_eq_false_iff, Bool.or_eq_true, Bool.or_eq_false_iff, and_self, and_true, true_and, Bool.false_eq_true, Bool.true_eq_false, not_false_eq_true, not_true_eq_false]; first | done | omega) ?_))))))
                refine vK rfl (vK rfl (vK rfl (vQ tab rfl (w4 (w3 (vc_true rfl (w1 (w2 (vQ tab rfl (vS tab rfl (vQ tab rfl (w4 (w3 (vw_ret (q_thenr ?_)))))))))))))))
                exact ⟨.inr rfl, rfl⟩
    ·
      cases h1 : rdN q0 with
      | none =>
        obtain ⟨e, p, hg, he⟩ := getN_none (s := B s) (a := t0) (by omega) (by omega) (by rw [d0]; exact h1)
        rw [evtGet_no (by simp [Codec.get, Codec.parse, rdNs, evtC, evtCnt, evtText, h0, h1])]
        refine w1 (w2 (vN tab rfl (vQ tab rfl (w4 (w3 (w1 (w2 (vQ tab rfl (vQ tab rfl (vN tab rfl (vQ tab rfl (w4 (w3 (w1 (w2 (vQ tab rfl (vT rfl callable_51 (rnum_good rfl g0 hs (by decide)) ?_)))))))))))))))))
        refine vQ tab rfl (vN tab rfl (vS tab rfl (w4 (w3 (w1 (w1 (w2 (vT rfl callable_57 (evt_parts2 (f1 := 0) (f2 := 0) (f3 := 0) (f4 := 0) (f5 := 0) (f6 := 0) (f7 := 0) rfl (by decide)) ?_))))))))
        refine vQ tab rfl (vQ tab rfl (w4 (w3 (w5 (vw_rounds 5 (rd_step (w1 (w2 (vQ tab rfl (w4 (w3 (w1 (vc_true rfl (vw_skip (w3 (w1 (w5 (w1 (w2 (vQ tab rfl (vQ tab rfl (vQ tab rfl (w4 ?_)))))))))))))))))))))))
        refine w3 (w2 (vQ tab rfl (vQ tab rfl (vT rfl callable_51 (rnum_fail rfl hg he hs (by decide)) ?_))))
        refine vQ tab rfl (vS tab rfl (w4 (q_norm (w3 (w2 (vQ tab rfl (vQ tab rfl (w4 (w3 (rd_step (w1 (w2 (vQ tab rfl (w4 (w3 (w1 (vc_true rfl (vw_skip (w3 (w1 (w5 (w1 (w2 ?_)))))))))))))))))))))))
        refine vQ tab rfl (vQ tab rfl (vQ tab rfl (w4 (w3 (w2 (vQ tab rfl (vQ tab rfl (vR rfl callable_51 (rnum_bad rfl rfl (by decide)) ?_))))))))
        refine vQ tab rfl (vS tab rfl (w4 (q_norm (w3 (w2 (vQ tab rfl (vQ tab rfl (w4 (w3 (rd_step (w1 (w2 (vQ tab rfl (w4 (w3 (w1 (vc_false rfl (vw_exit (q_thenx (q_thenx (q_here (w3 (w1 ?_)))))))))))))))))))))))
        refine w1 (w2 (vQ tab rfl (vR rfl callable_52 (done_bad rfl rfl (by decide)) ?_)))
        refine vQ tab rfl (vQ tab rfl (vK rfl (vK rfl (vK rfl (vQ tab rfl (w4 (w3 (vc_true rfl (w1 (w2 (vQ tab rfl (vS tab rfl (vQ tab rfl (w4 (w3 (vw_ret (q_thenr ?_)))))))))))))))))
        exact ⟨.inr rfl, rfl⟩
      | some r1 =>
        obtain ⟨x1, q1⟩ := r1
        obtain ⟨t1, g1, lt1, le1, d1⟩ := getN_some (s := B s) (a := t0) (by omega) (by omega) (by rw [d0]; exact h1)
        cases h2 : rdN q1 with
        | none =>
          obtain ⟨e, p, hg, he⟩ := getN_none (s := B s) (a := t1) (by omega) (by omega) (by rw [d1]; exact h2)
          rw [evtGet_no (by simp [Codec.get, Codec.parse, rdNs, evtC, evtCnt, evtText, h0, h1, h2])]
          refine w1 (w2 (vN tab rfl (vQ tab rfl (w4 (w3 (w1 (w2 (vQ tab rfl (vQ tab rfl (vN tab rfl (vQ tab rfl (w4 (w3 (w1 (w2 (vQ tab rfl (vT rfl callable_51 (rnum_good rfl g0 hs (by decide)) ?_)))))))))))))))))
          refine vQ tab rfl (vN tab rfl (vS tab rfl (w4 (w3 (w1 (w1 (w2 (vT rfl callable_57 (evt_parts2 (f1 := 0) (f2 := 0) (f3 := 0) (f4 := 0) (f5 := 0) (f6 := 0) (f7 := 0) rfl (by decide)) ?_))))))))
          refine vQ tab rfl (vQ tab rfl (w4 (w3 (w5 (vw_rounds 5 (rd_step (w1 (w2 (vQ tab rfl (w4 (w3 (w1 (vc_true rfl (vw_skip (w3 (w1 (w5 (w1 (w2 (vQ tab rfl (vQ tab rfl (vQ tab rfl (w4 ?_)))))))))))))))))))))))
          refine w3 (w2 (vQ tab rfl (vQ tab rfl (vT rfl callable_51 (rnum_good rfl g1 hs (by decide)) ?_))))
          refine vQ tab rfl (vS tab rfl (w4 (q_norm (w3 (w2 (vQ tab rfl (vQ tab rfl (w4 (w3 (rd_step (w1 (w2 (vQ tab rfl (w4 (w3 (w1 (vc_true rfl (vw_skip (w3 (w1 (w5 (w1 (w2 ?_)))))))))))))))))))))))
          refine vQ tab rfl (vQ tab rfl (vQ tab rfl (w4 (w3 (w2 (vQ tab rfl (vQ tab rfl (vT rfl callable_51 (rnum_fail rfl hg he hs (by decide)) ?_))))))))
          refine vQ tab rfl (vS tab rfl (w4 (q_norm (w3 (w2 (vQ tab rfl (vQ tab rfl (w4 (w3 (rd_step (w1 (w2 (vQ tab rfl (w4 (w3 (w1 (vc_false rfl (vw_exit (q_thenx (q_thenx (q_here (w3 (w1 ?_)))))))))))))))))))))))
          refine w1 (w2 (vQ tab rfl (vR rfl callable_52 (done_bad rfl rfl (by decide)) ?_)))
          refine vQ tab rfl (vQ tab rfl (vK rfl (vK rfl (vK rfl (vQ tab rfl (w4 (w3 (vc_true rfl (w1 (w2 (vQ tab rfl (vS tab rfl (vQ tab rfl (w4 (w3 (vw_ret (q_thenr ?_)))))))))))))))))
          exact ⟨.inr rfl, rfl⟩
        | some r2 =>
          obtain ⟨x2, q2⟩ := r2
          obtain ⟨t2, g2, lt2, le2, d2⟩ := getN_some (s := B s) (a := t1) (by omega) (by omega) (by rw [d1]; exact h2)
          by_cases hz : t2 = (s.size : Int)
          · have hq : q2 = [] := by rw [← d2, List.drop_of_length_le]; omega
            have hmk : evtMake 2 [x1, x2] (⟨#[]⟩) = ⟨2, x1, 0, 0, 0, 0, 0, x2⟩ := by rfl
            cases hm : evtMay ⟨2, x1, 0, 0, 0, 0, 0, x2⟩ with
            | false =>
              have hgn : evtC.get (B s) = none := by
                have hp : evtC.parse (B s) = some (⟨2, x1, 0, 0, 0, 0, 0, x2⟩, []) := by simp [Codec.parse, rdNs, evtC, evtCnt, evtText, mkB, h0, h1, h2, hq] <;> exact hmk
                unfold Codec.get; rw [hp]; show (if evtMay _ = true then _ else _) = _; rw [hm]; rfl
              rw [evtGet_no hgn]
              refine w1 (w2 (vN tab rfl (vQ tab rfl (w4 (w3 (w1 (w2 (vQ tab rfl (vQ tab rfl (vN tab rfl (vQ tab rfl (w4 (w3 (w1 (w2 (vQ tab rfl (vT rfl callable_51 (rnum_good rfl g0 hs (by decide)) ?_)))))))))))))))))
              refine vQ tab rfl (vN tab rfl (vS tab rfl (w4 (w3 (w1 (w1 (w2 (vT rfl callable_57 (evt_parts2 (f1 := 0) (f2 := 0) (f3 := 0) (f4 := 0) (f5 := 0) (f6 := 0) (f7 := 0) rfl (by decide)) ?_))))))))
              refine vQ tab rfl (vQ tab rfl (w4 (w3 (w5 (vw_rounds 5 (rd_step (w1 (w2 (vQ tab rfl (w4 (w3 (w1 (vc_true rfl (vw_skip (w3 (w1 (w5 (w1 (w2 (vQ tab rfl (vQ tab rfl (vQ tab rfl (w4 ?_)))))))))))))))))))))))
              refine w3 (w2 (vQ tab rfl (vQ tab rfl (vT rfl callable_51 (rnum_good rfl g1 hs (by decide)) ?_))))
              refine vQ tab rfl (vS tab rfl (w4 (q_norm (w3 (w2 (vQ tab rfl (vQ tab rfl (w4 (w3 (rd_step (w1 (w2 (vQ tab rfl (w4 (w3 (w1 (vc_true rfl (vw_skip (w3 (w1 (w5 (w1 (w2 ?_)))))))))))))))))))))))
              refine vQ tab rfl (vQ tab rfl (vQ tab rfl (w4 (w3 (w2 (vQ tab rfl (vQ tab rfl (vT rfl callable_51 (rnum_good rfl g2 hs (by decide)) ?_))))))))
              refine vQ tab rfl (vS tab rfl (w4 (q_norm (w3 (w2 (vQ tab rfl (vQ tab rfl (w4 (w3 (rd_step (w1 (w2 (vQ tab rfl (w4 (w3 (w1 (vc_false rfl (vw_exit (q_thenx (q_thenx (q_here (w3 (w1 ?_)))))))))))))))))))))))
              refine w1 (w2 (vQ tab rfl (vR rfl callable_52 (done_good rfl) (vQ tab rfl (vQ tab rfl (vgd_op false rfl rfl rfl (by simp only [hm, decide_eq_true_eq, decide_eq_false_iff_not, Bool.not_eq_eq_eq_not, Bool.not_true, Bool.not_false, bne_iff_ne, bne_eq_false_iff_eq, beq_iff_eq, beq_eq_false_iff_ne, ne_eq, beq_self_eq_true, bne_self_eq_false, Bool.and_eq_true, Bool.and_eq_false_iff, Bool.or_eq_true, Bool.or_eq_false_iff, and_self, and_true, true_and, Bool.false_eq_true, Bool.true_eq_false, not_false_eq_true, not_true_eq_false]; first | done | omega) ?_))))))
              refine vQ tab rfl (vF rfl callable_31 (evt_may ⟨2, x1, 0, 0, 0, 0, 0, x2⟩) (vQ tab rfl (vQ tab rfl (w4 (w3 (vcd_true rfl (by simp only [hm, decide_eq_true_eq, decide_eq_false_iff_not, Bool.not_eq_eq_eq_not, Bool.not_true, Bool.not_false, bne_iff_ne, bne_eq_false_iff_eq, beq_iff_eq, beq_eq_false_iff_ne, ne_eq, beq_self_eq_true, bne_self_eq_false, Bool.and_eq_true, Bool.and_eq_false_iff, Bool.or_eq_true, Bool.or_eq_false_iff, and_self, and_true, true_and, Bool.false_eq_true, Bool.true_eq_false, not_false_eq_true, not_true_eq_false]; first | done | omega) ?_))))))
              refine w1 (w2 (vQ tab rfl (vS tab rfl (vQ tab rfl (w4 (w3 (vw_ret (q_thenr ?_))))))))
              exact ⟨.inr rfl, rfl⟩
            | true =>
              have hgn : evtC.get (B s) = some ⟨2, x1, 0, 0, 0, 0, 0, x2⟩ := by
                have hp : evtC.parse (B s) = some (⟨2, x1, 0, 0, 0, 0, 0, x2⟩, []) := by simp [Codec.parse, rdNs, evtC, evtCnt, evtText, mkB, h0, h1, h2, hq] <;> exact hmk
                unfold Codec.get; rw [hp]; show (if evtMay _ = true then _ else _) = _; rw [hm]; rfl
              rw [evtGet_ok hgn]
              refine w1 (w2 (vN tab rfl (vQ tab rfl (w4 (w3 (w1 (w2 (vQ tab rfl (vQ tab rfl (vN tab rfl (vQ tab rfl (w4 (w3 (w1 (w2 (vQ tab rfl (vT rfl callable_51 (rnum_good rfl g0 hs (by decide)) ?_)))))))))))))))))
              refine vQ tab rfl (vN tab rfl (vS tab rfl (w4 (w3 (w1 (w1 (w2 (vT rfl callable_57 (evt_parts2 (f1 := 0) (f2 := 0) (f3 := 0) (f4 := 0) (f5 := 0) (f6 := 0) (f7 := 0) rfl (by decide)) ?_))))))))
              refine vQ tab rfl (vQ tab rfl (w4 (w3 (w5 (vw_rounds 5 (rd_step (w1 (w2 (vQ tab rfl (w4 (w3 (w1 (vc_true rfl (vw_skip (w3 (w1 (w5 (w1 (w2 (vQ tab rfl (vQ tab rfl (vQ tab rfl (w4 ?_)))))))))))))))))))))))
              refine w3 (w2 (vQ tab rfl (vQ tab rfl (vT rfl callable_51 (rnum_good rfl g1 hs (by decide)) ?_))))
              refine vQ tab rfl (vS tab rfl (w4 (q_norm (w3 (w2 (vQ tab rfl (vQ tab rfl (w4 (w3 (rd_step (w1 (w2 (vQ tab rfl (w4 (w3 (w1 (vc_true rfl (vw_skip (w3 (w1 (w5 (w1 (w2 ?_)))))))))))))))))))))))
              refine vQ tab rfl (vQ tab rfl (vQ tab rfl (w4 (w3 (w2 (vQ tab rfl (vQ tab rfl (vT rfl callable_51 (rnum_good rfl g2 hs (by decide)) ?_))))))))
              refine vQ tab rfl (vS tab rfl (w4 (q_norm (w3 (w2 (vQ tab rfl (vQ tab rfl (w4 (w3 (rd_step (w1 (w2 (vQ tab rfl (w4 (w3 (w1 (vc_false rfl (vw_exit (q_thenx (q_thenx (q_here (w3 (w1 ?_)))))))))))))))))))))))
              refine w1 (w2 (vQ tab rfl (vR rfl callable_52 (done_good rfl) (vQ tab rfl (vQ tab rfl (vgd_op false rfl rfl rfl (by simp only [hm, decide_eq_true_eq, decide_eq_false_iff_not, Bool.not_eq_eq_eq_not, Bool.not_true, Bool.not_false, bne_iff_ne, bne_eq_false_iff_eq, beq_iff_eq, beq_eq_false_iff_ne, ne_eq, beq_self_eq_true, bne_self_eq_false, Bool.and_eq_true, Bool.and_eq_false_iff, Bool.or_eq_true, Bool.or_eq_false_iff, and_self, and_true, true_and, Bool.false_eq_true, Bool.true_eq_false, not_false_eq_true, not_true_eq_false]; first | done | omega) ?_))))))
              refine vQ tab rfl (vF rfl callable_31 (evt_may ⟨2, x1, 0, 0, 0, 0, 0, x2⟩) (vQ tab rfl (vQ tab rfl (w4 (w3 (vcd_false rfl (by simp only [hm, decide_eq_true_eq, decide_eq_false_iff_not, Bool.not_eq_eq_eq_not, Bool.not_true, Bool.not_false, bne_iff_ne, bne_eq_false_iff_eq, beq_iff_eq, beq_eq_false_iff_ne, ne_eq, beq_self_eq_true, bne_self_eq_false, Bool.and_eq_true, Bool.and_eq_false_iff, Bool.or_eq_true, Bool.or_eq_false_iff, and_self, and_true, true_and, Bool.false_eq_true, Bool.true_eq_false, not_false_eq_true, not_true_eq_false]; first | done | omega) ?_))))))
              refine vw_skip (w3 (w1 (w2 (vQ tab rfl (vS tab rfl (vQ tab rfl (w4 (w3 (vw_ret ?_)))))))))
              exact ⟨.inr rfl, rfl⟩
          · have hq : q2 ≠ [] := fun hq => by rw [hq] at d2; have := congrArg List.length d2; rw [List.length_drop] at this; simp at this; omega
            have hgn : evtC.get (B s) = none := by
              obtain ⟨z, zs, hzz⟩ := List.exists_cons_of_ne_nil hq
              simp [Codec.get, Codec.parse, rdNs, evtC, evtCnt, evtText, hzz, h0, h1, h2]
            rw [evtGet_no hgn]
            refine w1 (w2 (vN tab rfl (vQ tab rfl (w4 (w3 (w1 (w2 (vQ tab rfl (vQ tab rfl (vN tab rfl (vQ tab rfl (w4 (w3 (w1 (w2 (vQ tab rfl (vT rfl callable_51 (rnum_good rfl g0 hs (by decide)) ?_)))))))))))))))))
            refine vQ tab rfl (vN tab rfl (vS tab rfl (w4 (w3 (w1 (w1 (w2 (vT rfl callable_57 (evt_parts2 (f1 := 0) (f2 := 0) (f3 := 0) (f4 := 0) (f5 := 0) (f6 := 0) (f7 := 0) rfl (by decide)) ?_))))))))
            refine vQ tab rfl (vQ tab rfl (w4 (w3 (w5 (vw_rounds 5 (rd_step (w1 (w2 (vQ tab rfl (w4 (w3 (w1 (vc_true rfl (vw_skip (w3 (w1 (w5 (w1 (w2 (vQ tab rfl (vQ tab rfl (vQ tab rfl (w4 ?_)))))))))))))))))))))))
            refine w3 (w2 (vQ tab rfl (vQ tab rfl (vT rfl callable_51 (rnum_good rfl g1 hs (by decide)) ?_))))
            refine vQ tab rfl (vS tab rfl (w4 (q_norm (w3 (w2 (vQ tab rfl (vQ tab rfl (w4 (w3 (rd_step (w1 (w2 (vQ tab rfl (w4 (w3 (w1 (vc_true rfl (vw_skip (w3 (w1 (w5 (w1 (w2 ?_)))))))))))))))))))))))
            refine vQ tab rfl (vQ tab rfl (vQ tab rfl (w4 (w3 (w2 (vQ tab rfl (vQ tab rfl (vT rfl callable_51 (rnum_good rfl g2 hs (by decide)) ?_))))))))
            refine vQ tab rfl (vS tab rfl (w4 (q_norm (w3 (w2 (vQ tab rfl (vQ tab rfl (w4 (w3 (rd_step (w1 (w2 (vQ tab rfl (w4 (w3 (w1 (vc_false rfl (vw_exit (q_thenx (q_thenx (q_here (w3 (w1 ?_)))))))))))))))))))))))
            refine w1 (w2 (vQ tab rfl (vR rfl callable_52 (done_good rfl) (vQ tab rfl (vQ tab rfl (vgd_op true rfl rfl rfl (by simp only [decide_eq_true_eq, decide_eq_false_iff_not, Bool.not_eq_eq_eq_not, Bool.not_true, Bool.not_false, bne_iff_ne, bne_eq_false_iff_eq, beq_iff_eq, beq_eq_false_iff_ne, ne_eq, beq_self_eq_true, bne_self_eq_false, Bool.and_eq_true, Bool.and_eq_false_iff, Bool.or_eq_true, Bool.or_eq_false_iff, and_self, and_true, true_and, Bool.false_eq_true, Bool.true_eq_false, not_false_eq_true, not_true_eq_false]; first | done | omega) ?_))))))
            refine vK rfl (vK rfl (vK rfl (vQ tab rfl (w4 (w3 (vc_true rfl (w1 (w2 (vQ tab rfl (vS tab rfl (vQ tab rfl (w4 (w3 (vw_ret (q_thenr ?_)))))))))))))))
            exact ⟨.inr rfl, rfl⟩
    ·
      cases h1 : rdN q0 with
      | none =>
        obtain ⟨e, p, hg, he⟩ := getN_none (s := B s) (a := t0) (by omega) (by omega) (by rw [d0]; exact h1)
        rw [evtGet_no (by simp [Codec.get, Codec.parse, rdNs, evtC, evtCnt, evtText, h0, h1])]
        refine w1 (w2 (vN tab rfl (vQ tab rfl (w4 (w3 (w1 (w2 (vQ tab rfl (vQ tab rfl (vN tab rfl (vQ tab rfl (w4 (w3 (w1 (w2 (vQ tab rfl (vT rfl callable_51 (rnum_good rfl g0 hs (by decide)) ?_)))))))))))))))))
        refine vQ tab rfl (vN tab rfl (vS tab rfl (w4 (w3 (w1 (w1 (w2 (vT rfl callable_57 (evt_parts3 (f1 := 0) (f2 := 0) (f3 := 0) (f4 := 0) (f5 := 0) (f6 := 0) (f7 := 0) rfl (by decide)) ?_))))))))
        refine vQ tab rfl (vQ tab rfl (w4 (w3 (w5 (vw_rounds 5 (rd_step (w1 (w2 (vQ tab rfl (w4 (w3 (w1 (vc_true rfl (vw_skip (w3 (w1 (w5 (w1 (w2 (vQ tab rfl (vQ tab rfl (vQ tab rfl (w4 ?_)))))))))))))))))))))))
        refine w3 (w2 (vQ tab rfl (vQ tab rfl (vT rfl callable_51 (rnum_fail rfl hg he hs (by decide)) ?_))))
        refine vQ tab rfl (vS tab rfl (w4 (q_norm (w3 (w2 (vQ tab rfl (vQ tab rfl (w4 (w3 (rd_step (w1 (w2 (vQ tab rfl (w4 (w3 (w1 (vc_true rfl (vw_skip (w3 (w1 (w5 (w1 (w2 ?_)))))))))))))))))))))))
        refine vQ tab rfl (vQ tab rfl (vQ tab rfl (w4 (w3 (w2 (vQ tab rfl (vQ tab rfl (vR rfl callable_51 (rnum_bad rfl rfl (by decide)) ?_))))))))
        refine vQ tab rfl (vS tab rfl (w4 (q_norm (w3 (w2 (vQ tab rfl (vQ tab rfl (w4 (w3 (rd_step (w1 (w2 (vQ tab rfl (w4 (w3 (w1 (vc_false rfl (vw_exit (q_thenx (q_thenx (q_here (w3 (w1 ?_)))))))))))))))))))))))
        refine w1 (w2 (vQ tab rfl (vR rfl callable_52 (done_bad rfl rfl (by decide)) ?_)))
        refine vQ tab rfl (vQ tab rfl (vK rfl (vK rfl (vK rfl (vQ tab rfl (w4 (w3 (vc_true rfl (w1 (w2 (vQ tab rfl (vS tab rfl (vQ tab rfl (w4 (w3 (vw_ret (q_thenr ?_)))))))))))))))))
        exact ⟨.inr rfl, rfl⟩
      | some r1 =>
        obtain ⟨x1, q1⟩ := r1
        obtain ⟨t1, g1, lt1, le1, d1⟩ := getN_some (s := B s) (a := t0) (by omega) (by omega) (by rw [d0]; exact h1)
        cases h2 : rdN q1 with
        | none =>
          obtain ⟨e, p, hg, he⟩ := getN_none (s := B s) (a := t1) (by omega) (by omega) (by rw [d1]; exact h2)
          rw [evtGet_no (by simp [Codec.get, Codec.parse, rdNs, evtC, evtCnt, evtText, h0, h1, h2])]
          refine w1 (w2 (vN tab rfl (vQ tab rfl (w4 (w3 (w1 (w2 (vQ tab rfl (vQ tab rfl (vN tab rfl (vQ tab rfl (w4 (w3 (w1 (w2 (vQ tab rfl (vT rfl callable_51 (rnum_good rfl g0 hs (by decide)) ?_)))))))))))))))))
          refine vQ tab rfl (vN tab rfl (vS tab rfl (w4 (w3 (w1 (w1 (w2 (vT rfl callable_57 (evt_parts3 (f1 := 0) (f2 := 0) (f3 := 0) (f4 := 0) (f5 := 0) (f6 := 0) (f7 := 0) rfl (by decide)) ?_))))))))
          refine vQ tab rfl (vQ tab rfl (w4 (w3 (w5 (vw_rounds 5 (rd_step (w1 (w2 (vQ tab rfl (w4 (w3 (w1 (vc_true rfl (vw_skip (w3 (w1 (w5 (w1 (w2 (vQ tab rfl (vQ tab rfl (vQ tab rfl (w4 ?_)))))))))))))))))))))))
          refine w3 (w2 (vQ tab rfl (vQ tab rfl (vT rfl callable_51 (rnum_good rfl g1 hs (by decide)) ?_))))
          refine vQ tab rfl (vS tab rfl (w4 (q_norm (w3 (w2 (vQ tab rfl (vQ tab rfl (w4 (w3 (rd_step (w1 (w2 (vQ tab rfl (w4 (w3 (w1 (vc_true rfl (vw_skip (w3 (w1 (w5 (w1 (w2 ?_)))))))))))))))))))))))
          refine vQ tab rfl (vQ tab rfl (vQ tab rfl (w4 (w3 (w2 (vQ tab rfl (vQ tab rfl (vT rfl callable_51 (rnum_fail rfl hg he hs (by decide)) ?_))))))))
          refine vQ tab rfl (vS tab rfl (w4 (q_norm (w3 (w2 (vQ tab rfl (vQ tab rfl (w4 (w3 (rd_step (w1 (w2 (vQ tab rfl (w4 (w3 (w1 (vc_false rfl (vw_exit (q_thenx (q_thenx (q_here (w3 (w1 ?_)))))))))))))))))))))))
          refine w1 (w2 (vQ tab rfl (vR rfl callable_52 (done_bad rfl rfl (by decide)) ?_)))
          refine vQ tab rfl (vQ tab rfl (vK rfl (vK rfl (vK rfl (vQ tab rfl (w4 (w3 (vc_true rfl (w1 (w2 (vQ tab rfl (vS tab rfl (vQ tab rfl (w4 (w3 (vw_ret (q_thenr ?_)))))))))))))))))
          exact ⟨.inr rfl, rfl⟩
        | some r2 =>
          obtain ⟨x2, q2⟩ := r2
          obtain ⟨t2, g2, lt2, le2, d2⟩ := getN_some (s := B s) (a := t1) (by omega) (by omega) (by rw [d1]; exact h2)
          by_cases hz : t2 = (s.size : Int)
          · have hq : q2 = [] := by rw [← d2, List.drop_of_length_le]; omega
            have hmk : evtMake 3 [x1, x2] (⟨#[]⟩) = ⟨3, x1, 0, 0, x2, 0, 0, 0⟩ := by rfl
            cases hm : evtMay ⟨3, x1, 0, 0, x2, 0, 0, 0⟩ with
            | false =>
              have hgn : evtC.get (B s) = none := by
                have hp : evtC.parse (B s) = some (⟨3, x1, 0, 0, x2, 0, 0, 0⟩, []) := by simp [Codec.parse, rdNs, evtC, evtCnt, evtText, mkB, h0, h1, h2, hq] <;> exact hmk
                unfold Codec.get; rw [hp]; show (if evtMay _ = true then _ else _) = _; rw [hm]; rfl
              rw [evtGet_no hgn]
              refine w1 (w2 (vN tab rfl (vQ tab rfl (w4 (w3 (w1 (w2 (vQ tab rfl (vQ tab rfl (vN tab rfl (vQ tab rfl (w4 (w3 (w1 (w2 (vQ tab rfl (vT rfl callable_51 (rnum_good rfl g0 hs (by decide)) ?_)))))))))))))))))
              refine vQ tab rfl (vN tab rfl (vS tab rfl (w4 (w3 (w1 (w1 (w2 (vT rfl callable_57 (evt_parts3 (f1 := 0) (f2 := 0) (f3 := 0) (f4 := 0) (f5 := 0) (f6 := 0) (f7 := 0) rfl (by decide)) ?_))))))))
              refine vQ tab rfl (vQ tab rfl (w4 (w3 (w5 (vw_rounds 5 (rd_step (w1 (w2 (vQ tab rfl (w4 (w3 (w1 (vc_true rfl (vw_skip (w3 (w1 (w5 (w1 (w2 (vQ tab rfl (vQ tab rfl (vQ tab rfl (w4 ?_)))))))))))))))))))))))
              refine w3 (w2 (vQ tab rfl (vQ tab rfl (vT rfl callable_51 (rnum_good rfl g1 hs (by decide)) ?_))))
              refine vQ tab rfl (vS tab rfl (w4 (q_norm (w3 (w2 (vQ tab rfl (vQ tab rfl (w4 (w3 (rd_step (w1 (w2 (vQ tab rfl (w4 (w3 (w1 (vc_true rfl (vw_skip (w3 (w1 (w5 (w1 (w2 ?_)))))))))))))))))))))))
              refine vQ tab rfl (vQ tab rfl (vQ tab rfl (w4 (w3 (w2 (vQ tab rfl (vQ tab rfl (vT rfl callable_51 (rnum_good rfl g2 hs (by decide)) ?_))))))))
              refine vQ tab rfl (vS tab rfl (w4 (q_norm (w3 (w2 (vQ tab rfl (vQ tab rfl (w4 (w3 (rd_step (w1 (w2 (vQ tab rfl (w4 (w3 (w1 (vc_false rfl (vw_exit (q_thenx (q_thenx (q_here (w3 (w1 ?_)))))))))))))))))))))))
              refine w1 (w2 (vQ tab rfl (vR rfl callable_52 (done_good rfl) (vQ tab rfl (vQ tab rfl (vgd_op false rfl rfl rfl (by simp only [hm, decide_eq_true_eq, decide_eq_false_iff_not, Bool.not_eq_eq_eq_not, Bool.not_true, Bool.not_false, bne_iff_ne, bne_eq_false_iff_eq, beq_iff_eq, beq_eq_false_iff_ne, ne_eq, beq_self_eq_true, bne_self_eq_false, Bool.and_eq_true, Bool.and_eq_false_iff, Bool.or_eq_true, Bool.or_eq_false_iff, and_self, and_true, true_and, Bool.false_eq_true, Bool.true_eq_false, not_false_eq_true, not_true_eq_false]; first | done | omega) ?_))))))
              refine vQ tab rfl (vF rfl callable_31 (evt_may ⟨3, x1, 0, 0, x2, 0, 0, 0⟩) (vQ tab rfl (vQ tab rfl (w4 (w3 (vcd_true rfl (by simp only [hm, decide_eq_true_eq, decide_eq_false_iff_not, Bool.not_eq_eq_eq_not, Bool.not_true, Bool.not_false, bne_iff_ne, bne_eq_false_iff_eq, beq_iff_eq, beq_eq_false_iff_ne, ne_eq, beq_self_eq_true, bne_self_eq_false, Bool.and_eq_true, Bool.and_eq_false_iff, Bool.or_eq_true, Bool.or_eq_false_iff, and_self, and_true, true_and, Bool.false_eq_true, Bool.true_eq_false, not_false_eq_true, not_true_eq_false]; first | done | omega) ?_))))))
              refine w1 (w2 (vQ tab rfl (vS tab rfl (vQ tab rfl (w4 (w3 (vw_ret (q_thenr ?_))))))))
              exact ⟨.inr rfl, rfl⟩
            | true =>
              have hgn : evtC.get (B s) = some ⟨3, x1, 0, 0, x2, 0, 0, 0⟩ := by
                have hp : evtC.parse (B s) = some (⟨3, x1, 0, 0, x2, 0, 0, 0⟩, []) := by simp [Codec.parse, rdNs, evtC, evtCnt, evtText, mkB, h0, h1, h2, hq] <;> exact hmk
                unfold Codec.get; rw [hp]; show (if evtMay _ = true then _ else _) = _; rw [hm]; rfl
              rw [evtGet_ok hgn]
              refine w1 (w2 (vN tab rfl (vQ tab rfl (w4 (w3 (w1 (w2 (vQ tab rfl (vQ tab rfl (vN tab rfl (vQ tab rfl (w4 (w3 (w1 (w2 (vQ tab rfl (vT rfl callable_51 (rnum_good rfl g0 hs (by decide)) ?_)))))))))))))))))
              refine vQ tab rfl (vN tab rfl (vS tab rfl (w4 (w3 (w1 (w1 (w2 (vT rfl callable_57 (evt_parts3 (f1 := 0) (f2 := 0) (f3 := 0) (f4 := 0) (f5 := 0) (f6 := 0) (f7 := 0) rfl (by decide)) ?_))))))))
              refine vQ tab rfl (vQ tab rfl (w4 (w3 (w5 (vw_rounds 5 (rd_step (w1 (w2 (vQ tab rfl (w4 (w3 (w1 (vc_true rfl (vw_skip (w3 (w1 (w5 (w1 (w2 (vQ tab rfl (vQ tab rfl (vQ tab rfl (w4 ?_)))))))))))))))))))))))
              refine w3 (w2 (vQ tab rfl (vQ tab rfl (vT rfl callable_51 (rnum_good rfl g1 hs (by decide)) ?_))))
              refine vQ tab rfl (vS tab rfl (w4 (q_norm (w3 (w2 (vQ tab rfl (vQ tab rfl (w4 (w3 (rd_step (w1 (w2 (vQ tab rfl (w4 (w3 (w1 (vc_true rfl (vw_skip (w3 (w1 (w5 (w1 (w2 ?_)))))))))))))))))))))))
              refine vQ tab rfl (vQ tab rfl (vQ tab rfl (w4 (w3 (w2 (vQ tab rfl (vQ tab rfl (vT rfl callable_51 (rnum_good rfl g2 hs (by decide)) ?_))))))))
              refine vQ tab rfl (vS tab rfl (w4 (q_norm (w3 (w2 (vQ tab rfl (vQ tab rfl (w4 (w3 (rd_step (w1 (w2 (vQ tab rfl (w4 (w3 (w1 (vc_false rfl (vw_exit (q_thenx (q_thenx (q_here (w3 (w1 ?_)))))))))))))))))))))))
              refine w1 (w2 (vQ tab rfl (vR rfl callable_52 (done_good rfl) (vQ tab rfl (vQ tab rfl (vgd_op false rfl rfl rfl (by simp only [hm, decide_eq_true_eq, decide_eq_false_iff_not, Bool.not_eq_eq_eq_not, Bool.not_true, Bool.not_false, bne_iff_ne, bne_eq_false_iff_eq, beq_iff_eq, beq_eq_false_iff_ne, ne_eq, beq_self_eq_true, bne_self_eq_false, Bool.and_eq_true, Bool.and_eq_false_iff, Bool.or_eq_true, Bool.or_eq_false_iff, and_self, and_true, true_and, Bool.false_eq_true, Bool.true_eq_false, not_false_eq_true, not_true_eq_false]; first | done | omega) ?_))))))
              refine vQ tab rfl (vF rfl callable_31 (evt_may ⟨3, x1, 0, 0, x2, 0, 0, 0⟩) (vQ tab rfl (vQ tab rfl (w4 (w3 (vcd_false rfl (by simp only [hm, decide_eq_true_eq, decide_eq_false_iff_not, Bool.not_eq_eq_eq_not, Bool.not_true, Bool.not_false, bne_iff_ne, bne_eq_false_iff_eq, beq_iff_eq, beq_eq_false_iff_ne, ne_eq, beq_self_eq_true, bne_self_eq_false, Bool.and_eq_true, Bool.and_eq_false_iff, Bool.or_eq_true, Bool.or_eq_false_iff, and_self, and_true, true_and, Bool.false_eq_true, Bool.true_eq_false, not_false_eq_true, not_true_eq_false]; first | done | omega) ?_))))))
              refine vw_skip (w3 (w1 (w2 (vQ tab rfl (vS tab rfl (vQ tab rfl (w4 (w3 (vw_ret ?_)))))))))
              exact ⟨.inr rfl, rfl⟩
          · have hq : q2 ≠ [] := fun hq => by rw [hq] at d2; have := congrArg List.length d2; rw [List.length_drop] at this; simp at this; omega
            have hgn : evtC.get (B s) = none := by
              obtain ⟨z, zs, hzz⟩ := List.exists_cons_of_ne_nil hq
              simp [Codec.get, Codec.parse, rdNs, evtC, evtCnt, evtText, hzz, h0, h1, h2]
            rw [evtGet_no hgn]
            refine w1 (w2 (vN tab rfl (vQ tab rfl (w4 (w3 (w1 (w2 (vQ tab rfl (vQ tab rfl (vN tab rfl (vQ tab rfl (w4 (w3 (w1 (w2 (vQ tab rfl (vT rfl callable_51 (rnum_good rfl g0 hs (by decide)) ?_)))))))))))))))))
            refine vQ tab rfl (vN tab rfl (vS tab rfl (w4 (w3 (w1 (w1 (w2 (vT rfl callable_57 (evt_parts3 (f1 := 0) (f2 := 0) (f3 := 0) (f4 := 0) (f5 := 0) (f6 := 0) (f7 := 0) rfl (by decide)) ?_))))))))
            refine vQ tab rfl (vQ tab rfl (w4 (w3 (w5 (vw_rounds 5 (rd_step (w1 (w2 (vQ tab rfl (w4 (w3 (w1 (vc_true rfl (vw_skip (w3 (w1 (w5 (w1 (w2 (vQ tab rfl (vQ tab rfl (vQ tab rfl (w4 ?_)))))))))))))))))))))))
            refine w3 (w2 (vQ tab rfl (vQ tab rfl (vT rfl callable_51 (rnum_good rfl g1 hs (by decide)) ?_))))
            refine vQ tab rfl (vS tab rfl (w4 (q_norm (w3 (w2 (vQ tab rfl (vQ tab rfl (w4 (w3 (rd_step (w1 (w2 (vQ tab rfl (w4 (w3 (w1 (vc_true rfl (vw_skip (w3 (w1 (w5 (w1 (w2 ?_)))))))))))))))))))))))
            refine vQ tab rfl (vQ tab rfl (vQ tab rfl (w4 (w3 (w2 (vQ tab rfl (vQ tab rfl (vT rfl callable_51 (rnum_good rfl g2 hs (by decide)) ?_))))))))
            refine vQ tab rfl (vS tab rfl (w4 (q_norm (w3 (w2 (vQ tab rfl (vQ tab rfl (w4 (w3 (rd_step (w1 (w2 (vQ tab rfl (w4 (w3 (w1 (vc_false rfl (vw_exit (q_thenx (q_thenx (q_here (w3 (w1 ?_)))))))))))))))))))))))
            refine w1 (w2 (vQ tab rfl (vR rfl callable_52 (done_good rfl) (vQ tab rfl (vQ tab rfl (vgd_op true rfl rfl rfl (by simp only [decide_eq_true_eq, decide_eq_false_iff_not, Bool.not_eq_eq_eq_not, Bool.not_true, Bool.not_false, bne_iff_ne, bne_eq_false_iff_eq, beq_iff_eq, beq_eq_false_iff_ne, ne_eq, beq_self_eq_true, bne_self_eq_false, Bool.and_eq_true, Bool.and_eq_false_iff, Bool.or_eq_true, Bool.or_eq_false_iff, and_self, and_true, true_and, Bool.false_eq_true, Bool.true_eq_false, not_false_eq_true, not_true_eq_false]; first | done | omega) ?_))))))
            refine vK rfl (vK rfl (vK rfl (vQ tab rfl (w4 (w3 (vc_true rfl (w1 (w2 (vQ tab rfl (vS tab rfl (vQ tab rfl (w4 (w3 (vw_ret (q_thenr ?_)))))))))))))))
            exact ⟨.inr rfl, rfl⟩
    ·
      cases h1 : rdN q0 with
      | none =>
        obtain ⟨e, p, hg, he⟩ := getN_none (s := B s) (a := t0) (by omega) (by omega) (by rw [d0]; exact h1)
        rw [evtGet_no (by simp [Codec.get, Codec.parse, rdNs, evtC, evtCnt, evtText, h0, h1])]
        refine w1 (w2 (vN tab rfl (vQ tab rfl (w4 (w3 (w1 (w2 (vQ tab rfl (vQ tab rfl (vN tab rfl (vQ tab rfl (w4 (w3 (w1 (w2 (vQ tab rfl (vT rfl callable_51 (rnum_good rfl g0 hs (by decide)) ?_)))))))))))))))))
        refine vQ tab rfl (vN tab rfl (vS tab rfl (w4 (w3 (w1 (w1 (w2 (vT rfl callable_57 (evt_parts4 (f1 := 0) (f2 := 0) (f3 := 0) (f4 := 0) (f5 := 0) (f6 := 0) (f7 := 0) rfl (by decide)) ?_))))))))
        refine vQ tab rfl (vQ tab rfl (w4 (w3 (w5 (vw_rounds 5 (rd_step (w1 (w2 (vQ tab rfl (w4 (w3 (w1 (vc_true rfl (vw_skip (w3 (w1 (w5 (w1 (w2 (vQ tab rfl (vQ tab rfl (vQ tab rfl (w4 ?_)))))))))))))))))))))))
        refine w3 (w2 (vQ tab rfl (vQ tab rfl (vT rfl callable_51 (rnum_fail rfl hg he hs (by decide)) ?_))))
        refine vQ tab rfl (vS tab rfl (w4 (q_norm (w3 (w2 (vQ tab rfl (vQ tab rfl (w4 (w3 (rd_step (w1 (w2 (vQ tab rfl (w4 (w3 (w1 (vc_false rfl (vw_exit (q_thenx (q_thenx (q_here (w3 (w1 ?_)))))))))))))))))))))))
        refine w1 (w2 (vQ tab rfl (vR rfl callable_52 (done_bad rfl rfl (by decide)) ?_)))
        refine vQ tab rfl (vQ tab rfl (vK rfl (vK rfl (vK rfl (vQ tab rfl (w4 (w3 (vc_true rfl (w1 (w2 (vQ tab rfl (vS tab rfl (vQ tab rfl (w4 (w3 (vw_ret (q_thenr ?_)))))))))))))))))
        exact ⟨.inr rfl, rfl⟩
      | some r1 =>
        obtain ⟨x1, q1⟩ := r1
        obtain ⟨t1, g1, lt1, le1, d1⟩ := getN_some (s := B s) (a := t0) (by omega) (by omega) (by rw [d0]; exact h1)
        by_cases hz : t1 = (s.size : Int)
        · have hq : q1 = [] := by rw [← d1, List.drop_of_length_le]; omega
          have hmk : evtMake 4 [x1] (⟨#[]⟩) = ⟨4, x1, 0, 0, 0, 0, 0, 0⟩ := by rfl
          cases hm : evtMay ⟨4, x1, 0, 0, 0, 0, 0, 0⟩ with
          | false =>
            have hgn : evtC.get (B s) = none := by
              have hp : evtC.parse (B s) = some (⟨4, x1, 0, 0, 0, 0, 0, 0⟩, []) := by simp [Codec.parse, rdNs, evtC, evtCnt, evtText, mkB, h0, h1, hq] <;> exact hmk
              unfold Codec.get; rw [hp]; show (if evtMay _ = true then _ else _) = _; rw [hm]; rfl
            rw [evtGet_no hgn]
            refine w1 (w2 (vN tab rfl (vQ tab rfl (w4 (w3 (w1 (w2 (vQ tab rfl (vQ tab rfl (vN tab rfl (vQ tab rfl (w4 (w3 (w1 (w2 (vQ tab rfl (vT rfl callable_51 (rnum_good rfl g0 hs (by decide)) ?_)))))))))))))))))
            refine vQ tab rfl (vN tab rfl (vS tab rfl (w4 (w3 (w1 (w1 (w2 (vT rfl callable_57 (evt_parts4 (f1 := 0) (f2 := 0) (f3 := 0) (f4 := 0) (f5 := 0) (f6 := 0) (f7 := 0) rfl (by decide)) ?_))))))))
            refine vQ tab rfl (vQ tab rfl (w4 (w3 (w5 (vw_rounds 5 (rd_step (w1 (w2 (vQ tab rfl (w4 (w3 (w1 (vc_true rfl (vw_skip (w3 (w1 (w5 (w1 (w2 (vQ tab rfl (vQ tab rfl (vQ tab rfl (w4 ?_)))))))))))))))))))))))
            refine w3 (w2 (vQ tab rfl (vQ tab rfl (vT rfl callable_51 (rnum_good rfl g1 hs (by decide)) ?_))))
            refine vQ tab rfl (vS tab rfl (w4 (q_norm (w3 (w2 (vQ tab rfl (vQ tab rfl (w4 (w3 (rd_step (w1 (w2 (vQ tab rfl (w4 (w3 (w1 (vc_false rfl (vw_exit (q_thenx (q_thenx (q_here (w3 (w1 ?_)))))))))))))))))))))))
            refine w1 (w2 (vQ tab rfl (vR rfl callable_52 (done_good rfl) (vQ tab rfl (vQ tab rfl (vgd_op false rfl rfl rfl (by simp only [hm, decide_eq_true_eq, decide_eq_false_iff_not, Bool.not_eq_eq_eq_not, Bool.not_true, Bool.not_false, bne_iff_ne, bne_eq_false_iff_eq, beq_iff_eq, beq_eq_false_iff_ne, ne_eq, beq_self_eq_true, bne_self_eq_false, Bool.and_eq_true, Bool.and_eq_false_iff, Bool.or_eq_true, Bool.or_eq_false_iff, and_self, and_true, true_and, Bool.false_eq_true, Bool.true_eq_false, not_false_eq_true, not_true_eq_false]; first | done | omega) ?_))))))
            refine vQ tab rfl (vF rfl callable_31 (evt_may ⟨4, x1, 0, 0, 0, 0, 0, 0⟩) (vQ tab rfl (vQ tab rfl (w4 (w3 (vcd_true rfl (by simp only [hm, decide_eq_true_eq, decide_eq_false_iff_not, Bool.not_eq_eq_eq_not, Bool.not_true, Bool.not_false, bne_iff_ne, bne_eq_false_iff_eq, beq_iff_eq, beq_eq_false_iff_ne, ne_eq, beq_self_eq_true, bne_self_eq_false, Bool.and_eq_true, Bool.and_eq_false_iff, Bool.or_eq_true, Bool.or_eq_false_iff, and_self, and_true, true_and, Bool.false_eq_true, Bool.true_eq_false, not_false_eq_true, not_true_eq_false]; first | done | omega) ?_))))))
            refine w1 (w2 (vQ tab rfl (vS tab rfl (vQ tab rfl (w4 (w3 (vw_ret (q_thenr ?_))))))))
            exact ⟨.inr rfl, rfl⟩
          | true =>
            have hgn : evtC.get (B s) = some ⟨4, x1, 0, 0, 0, 0, 0, 0⟩ := by
              have hp : evtC.parse (B s) = some (⟨4, x1, 0, 0, 0, 0, 0, 0⟩, []) := by simp [Codec.parse, rdNs, evtC, evtCnt, evtText, mkB, h0, h1, hq] <;> exact hmk
              unfold Codec.get; rw [hp]; show (if evtMay _ = true then _ else _) = _; rw [hm]; rfl
            rw [evtGet_ok hgn]
            refine w1 (w2 (vN tab rfl (vQ tab rfl (w4 (w3 (w1 (w2 (vQ tab rfl (vQ tab rfl (vN tab rfl (vQ tab rfl (w4 (w3 (w1 (w2 (vQ tab rfl (vT rfl callable_51 (rnum_good rfl g0 hs (by decide)) ?_)))))))))))))))))
            refine vQ tab rfl (vN tab rfl (vS tab rfl (w4 (w3 (w1 (w1 (w2 (vT rfl callable_57 (evt_parts4 (f1 := 0) (f2 := 0) (f3 := 0) (f4 := 0) (f5 := 0) (f6 := 0) (f7 := 0) rfl (by decide)) ?_))))))))
            refine vQ tab rfl (vQ tab rfl (w4 (w3 (w5 (vw_rounds 5 (rd_step (w1 (w2 (vQ tab rfl (w4 (w3 (w1 (vc_true rfl (vw_skip (w3 (w1 (w5 (w1 (w2 (vQ tab rfl (vQ tab rfl (vQ tab rfl (w4 ?_)))))))))))))))))))))))
            refine w3 (w2 (vQ tab rfl (vQ tab rfl (vT rfl callable_51 (rnum_good rfl g1 hs (by decide)) ?_))))
            refine vQ tab rfl (vS tab rfl (w4 (q_norm (w3 (w2 (vQ tab rfl (vQ tab rfl (w4 (w3 (rd_step (w1 (w2 (vQ tab rfl (w4 (w3 (w1 (vc_false rfl (vw_exit (q_thenx (q_thenx (q_here (w3 (w1 ?_)))))))))))))))))))))))
            refine w1 (w2 (vQ tab rfl (vR rfl callable_52 (done_good rfl) (vQ tab rfl (vQ tab rfl (vgd_op false rfl rfl rfl (by simp only [hm, decide_eq_true_eq, decide_eq_false_iff_not, Bool.not_eq_eq_eq_not, Bool.not_true, Bool.not_false, bne_iff_ne, bne_eq_false_iff_eq, beq_iff_eq, beq_eq_false_iff_ne, ne_eq, beq_self_eq_true, bne_self_eq_false, Bool.and_eq_true, Bool.and_eq_false_iff, Bool.or_eq_true, Bool.or_eq_false_iff, and_self, and_true, true_and, Bool.false_eq_true, Bool.true_eq_false, not_false_eq_true, not_true_eq_false]; first | done | omega) ?_))))))
            refine vQ tab rfl (vF rfl callable_31 (evt_may ⟨4, x1, 0, 0, 0, 0, 0, 0⟩) (vQ tab rfl (vQ tab rfl (w4 (w3 (vcd_false rfl (by simp only [hm, decide_eq_true_eq, decide_eq_false_iff_not, Bool.not_eq_eq_eq_not, Bool.not_true, Bool.not_false, bne_iff_ne, bne_eq_false_iff_eq, beq_iff_eq, beq_eq_false_iff_ne, ne_eq, beq_self_eq_true, bne_self_eq_false, Bool.and_eq_true, Bool.and_eq_false_iff, Bool.or_eq_true, Bool.or_eq_false_iff, and_self, and_true, true_and, Bool.false_eq_true, Bool.true_eq_false, not_false_eq_true, not_true_eq_false]; first | done | omega) ?_))))))
            refine vw_skip (w3 (w1 (w2 (vQ tab rfl (vS tab rfl (vQ tab rfl (w4 (w3 (vw_ret ?_)))))))))
            exact ⟨.inr rfl, rfl⟩
        · have hq : q1 ≠ [] := fun hq => by rw [hq] at d1; have := congrArg List.length d1; rw [List.length_drop] at this; simp at this; omega
          have hgn : evtC.get (B s) = none := by
            obtain ⟨z, zs, hzz⟩ := List.exists_cons_of_ne_nil hq
            simp [Codec.get, Codec.parse, rdNs, evtC, evtCnt, evtText, hzz, h0, h1]
          rw [evtGet_no hgn]
          refine w1 (w2 (vN tab rfl (vQ tab rfl (w4 (w3 (w1 (w2 (vQ tab rfl (vQ tab rfl (vN tab rfl (vQ tab rfl (w4 (w3 (w1 (w2 (vQ tab rfl (vT rfl callable_51 (rnum_good rfl g0 hs (by decide)) ?_)))))))))))))))))
          refine vQ tab rfl (vN tab rfl (vS tab rfl (w4 (w3 (w1 (w1 (w2 (vT rfl callable_57 (evt_parts4 (f1 := 0) (f2 := 0) (f3 := 0) (f4 := 0) (f5 := 0) (f6 := 0) (f7 := 0) rfl (by decide)) ?_))))))))
          refine vQ tab rfl (vQ tab rfl (w4 (w3 (w5 (vw_rounds 5 (rd_step (w1 (w2 (vQ tab rfl (w4 (w3 (w1 (vc_true rfl (vw_skip (w3 (w1 (w5 (w1 (w2 (vQ tab rfl (vQ tab rfl (vQ tab rfl (w4 ?_)))))))))))))))))))))))
          refine w3 (w2 (vQ tab rfl (vQ tab rfl (vT rfl callable_51 (rnum_good rfl g1 hs (by decide)) ?_))))
          refine vQ tab rfl (vS tab rfl (w4 (q_norm (w3 (w2 (vQ tab rfl (vQ tab rfl (w4 (w3 (rd_step (w1 (w2 (vQ tab rfl (w4 (w3 (w1 (vc_false rfl (vw_exit (q_thenx (q_thenx (q_here (w3 (w1 ?_)))))))))))))))))))))))
          refine w1 (w2 (vQ tab rfl (vR rfl callable_52 (done_good rfl) (vQ tab rfl (vQ tab rfl (vgd_op true rfl rfl rfl (by simp only [decide_eq_true_eq, decide_eq_false_iff_not, Bool.not_eq_eq_eq_not, Bool.not_true, Bool.not_false, bne_iff_ne, bne_eq_false_iff_eq, beq_iff_eq, beq_eq_false_iff_ne, ne_eq, beq_self_eq_true, bne_self_eq_false, Bool.and_eq_true, Bool.and_eq_false_iff, Bool.or_eq_true, Bool.or_eq_false_iff, and_self, and_true, true_and, Bool.false_eq_true, Bool.true_eq_false, not_false_eq_true, not_true_eq_false]; first | done | omega) ?_))))))
          refine vK rfl (vK rfl (vK rfl (vQ tab rfl (w4 (w3 (vc_true rfl (w1 (w2 (vQ tab rfl (vS tab rfl (vQ tab rfl (w4 (w3 (vw_ret (q_thenr ?_)))))))))))))))
          exact ⟨.inr rfl, rfl⟩
    ·
      cases h1 : rdN q0 with
      | none =>
        obtain ⟨e, p, hg, he⟩ := getN_none (s := B s) (a := t0) (by omega) (by omega) (by rw [d0]; exact h1)
        rw [evtGet_no (by simp [Codec.get, Codec.parse, rdNs, evtC, evtCnt, evtText, h0, h1])]
        refine w1 (w2 (vN tab rfl (vQ tab rfl (w4 (w3 (w1 (w2 (vQ tab rfl (vQ tab rfl (vN tab rfl (vQ tab rfl (w4 (w3 (w1 (w2 (vQ tab rfl (vT rfl callable_51 (rnum_good rfl g0 hs (by decide)) ?_)))))))))))))))))
        refine vQ tab rfl (vN tab rfl (vS tab rfl (w4 (w3 (w1 (w1 (w2 (vT rfl callable_57 (evt_parts5 (f1 := 0) (f2 := 0) (f3 := 0) (f4 := 0) (f5 := 0) (f6 := 0) (f7 := 0) rfl (by decide)) ?_))))))))
        refine vQ tab rfl (vQ tab rfl (w4 (w3 (w5 (vw_rounds 5 (rd_step (w1 (w2 (vQ tab rfl (w4 (w3 (w1 (vc_true rfl (vw_skip (w3 (w1 (w5 (w1 (w2 (vQ tab rfl (vQ tab rfl (vQ tab rfl (w4 ?_)))))))))))))))))))))))
        refine w3 (w2 (vQ tab rfl (vQ tab rfl (vT rfl callable_51 (rnum_fail rfl hg he hs (by decide)) ?_))))
        refine vQ tab rfl (vS tab rfl (w4 (q_norm (w3 (w2 (vQ tab rfl (vQ tab rfl (w4 (w3 (rd_step (w1 (w2 (vQ tab rfl (w4 (w3 (w1 (vc_true rfl (vw_skip (w3 (w1 (w5 (w1 (w2 ?_)))))))))))))))))))))))
        refine vQ tab rfl (vQ tab rfl (vQ tab rfl (w4 (w3 (w2 (vQ tab rfl (vQ tab rfl (vR rfl callable_51 (rnum_bad rfl rfl (by decide)) ?_))))))))
        refine vQ tab rfl (vS tab rfl (w4 (q_norm (w3 (w2 (vQ tab rfl (vQ tab rfl (w4 (w3 (rd_step (w1 (w2 (vQ tab rfl (w4 (w3 (w1 (vc_true rfl (vw_skip (w3 (w1 (w5 (w1 (w2 ?_)))))))))))))))))))))))
        refine vQ tab rfl (vQ tab rfl (vQ tab rfl (w4 (w3 (w2 (vQ tab rfl (vQ tab rfl (vR rfl callable_51 (rnum_bad rfl rfl (by decide)) ?_))))))))
        refine vQ tab rfl (vS tab rfl (w4 (q_norm (w3 (w2 (vQ tab rfl (vQ tab rfl (w4 (w3 (rd_step (w1 (w2 (vQ tab rfl (w4 (w3 (w1 (vc_true rfl (vw_skip (w3 (w1 (w5 (w1 (w2 ?_)))))))))))))))))))))))
        refine vQ tab rfl (vQ tab rfl (vQ tab rfl (w4 (w3 (w2 (vQ tab rfl (vQ tab rfl (vR rfl callable_51 (rnum_bad rfl rfl (by decide)) ?_))))))))
        refine vQ tab rfl (vS tab rfl (w4 (q_norm (w3 (w2 (vQ tab rfl (vQ tab rfl (w4 (w3 (rd_step (w1 (w2 (vQ tab rfl (w4 (w3 (w1 (vc_false rfl (vw_exit (q_thenx (q_thenx (q_here (w3 (w1 ?_)))))))))))))))))))))))
        refine w1 (w2 (vQ tab rfl (vR rfl callable_52 (done_bad rfl rfl (by decide)) ?_)))
        refine vQ tab rfl (vQ tab rfl (vK rfl (vK rfl (vK rfl (vQ tab rfl (w4 (w3 (vc_true rfl (w1 (w2 (vQ tab rfl (vS tab rfl (vQ tab rfl (w4 (w3 (vw_ret (q_thenr ?_)))))))))))))))))
        exact ⟨.inr rfl, rfl⟩
      | some r1 =>
        obtain ⟨x1, q1⟩ := r1
        obtain ⟨t1, g1, lt1, le1, d1⟩ := getN_some (s := B s) (a := t0) (by omega) (by omega) (by rw [d0]; exact h1)
        cases h2 : rdN q1 with
        | none =>
          obtain ⟨e, p, hg, he⟩ := getN_none (s := B s) (a := t1) (by omega) (by omega) (by rw [d1]; exact h2)
          rw [evtGet_no (by simp [Codec.get, Codec.parse, rdNs, evtC, evtCnt, evtText, h0, h1, h2])]
          refine w1 (w2 (vN tab rfl (vQ tab rfl (w4 (w3 (w1 (w2 (vQ tab rfl (vQ tab rfl (vN tab rfl (vQ tab rfl (w4 (w3 (w1 (w2 (vQ tab rfl (vT rfl callable_51 (rnum_good rfl g0 hs (by decide)) ?_)))))))))))))))))
          refine vQ tab rfl (vN tab rfl (vS tab rfl (w4 (w3 (w1 (w1 (w2 (vT rfl callable_57 (evt_parts5 (f1 := 0) (f2 := 0) (f3 := 0) (f4 := 0) (f5 := 0) (f6 := 0) (f7 := 0) rfl (by decide)) ?_))))))))
          refine vQ tab rfl (vQ tab rfl (w4 (w3 (w5 (vw_rounds 5 (rd_step (w1 (w2 (vQ tab rfl (w4 (w3 (w1 (vc_true rfl (vw_skip (w3 (w1 (w5 (w1 (w2 (vQ tab rfl (vQ tab rfl (vQ tab rfl (w4 ?_)))))))))))))))))))))))
          refine w3 (w2 (vQ tab rfl (vQ tab rfl (vT rfl callable_51 (rnum_good rfl g1 hs (by decide)) ?_))))
          refine vQ tab rfl (vS tab rfl (w4 (q_norm (w3 (w2 (vQ tab rfl (vQ tab rfl (w4 (w3 (rd_step (w1 (w2 (vQ tab rfl (w4 (w3 (w1 (vc_true rfl (vw_skip (w3 (w1 (w5 (w1 (w2 ?_)))))))))))))))))))))))
          refine vQ tab rfl (vQ tab rfl (vQ tab rfl (w4 (w3 (w2 (vQ tab rfl (vQ tab rfl (vT rfl callable_51 (rnum_fail rfl hg he hs (by decide)) ?_))))))))
          refine vQ tab rfl (vS tab rfl (w4 (q_norm (w3 (w2 (vQ tab rfl (vQ tab rfl (w4 (w3 (rd_step (w1 (w2 (vQ tab rfl (w4 (w3 (w1 (vc_true rfl (vw_skip (w3 (w1 (w5 (w1 (w2 ?_)))))))))))))))))))))))
          refine vQ tab rfl (vQ tab rfl (vQ tab rfl (w4 (w3 (w2 (vQ tab rfl (vQ tab rfl (vR rfl callable_51 (rnum_bad rfl rfl (by decide)) ?_))))))))
          refine vQ tab rfl (vS tab rfl (w4 (q_norm (w3 (w2 (vQ tab rfl (vQ tab rfl (w4 (w3 (rd_step (w1 (w2 (vQ tab rfl (w4 (w3 (w1 (vc_true rfl (vw_skip (w3 (w1 (w5 (w1 (w2 ?_)))))))))))))))))))))))
          refine vQ tab rfl (vQ tab rfl (vQ tab rfl (w4 (w3 (w2 (vQ tab rfl (vQ tab rfl (vR rfl callable_51 (rnum_bad rfl rfl (by decide)) ?_))))))))
          refine vQ tab rfl (vS tab rfl (w4 (q_norm (w3 (w2 (vQ tab rfl (vQ tab rfl (w4 (w3 (rd_step (w1 (w2 (vQ tab rfl (w4 (w3 (w1 (vc_false rfl (vw_exit (q_thenx (q_thenx (q_here (w3 (w1 ?_)))))))))))))))))))))))
          refine w1 (w2 (vQ tab rfl (vR rfl callable_52 (done_bad rfl rfl (by decide)) ?_)))
          refine vQ tab rfl (vQ tab rfl (vK rfl (vK rfl (vK rfl (vQ tab rfl (w4 (w3 (vc_true rfl (w1 (w2 (vQ tab rfl (vS tab rfl (vQ tab rfl (w4 (w3 (vw_ret (q_thenr ?_)))))))))))))))))
          exact ⟨.inr rfl, rfl⟩
        | some r2 =>
          obtain ⟨x2, q2⟩ := r2
          obtain ⟨t2, g2, lt2, le2, d2⟩ := getN_some (s := B s) (a := t1) (by omega) (by omega) (by rw [d1]; exact h2)
          cases h3 : rdN q2 with
          | none =>
            obtain ⟨e, p, hg, he⟩ := getN_none (s := B s) (a := t2) (by omega) (by omega) (by rw [d2]; exact h3)
            rw [evtGet_no (by simp [Codec.get, Codec.parse, rdNs, evtC, evtCnt, evtText, h0, h1, h2, h3])]
            refine w1 (w2 (vN tab rfl (vQ tab rfl (w4 (w3 (w1 (w2 (vQ tab rfl (vQ tab rfl (vN tab rfl (vQ tab rfl (w4 (w3 (w1 (w2 (vQ tab rfl (vT rfl callable_51 (rnum_good rfl g0 hs (by decide)) ?_)))))))))))))))))
            refine vQ tab rfl (vN tab rfl (vS tab rfl (w4 (w3 (w1 (w1 (w2 (vT rfl callable_57 (evt_parts5 (f1 := 0) (f2 := 0) (f3 := 0) (f4 := 0) (f5 := 0) (f6 := 0) (f7 := 0) rfl (by decide)) ?_))))))))
            refine vQ tab rfl (vQ tab rfl (w4 (w3 (w5 (vw_rounds 5 (rd_step (w1 (w2 (vQ tab rfl (w4 (w3 (w1 (vc_true rfl (vw_skip (w3 (w1 (w5 (w1 (w2 (vQ tab rfl (vQ tab rfl (vQ tab rfl (w4 ?_)))))))))))))))))))))))
            refine w3 (w2 (vQ tab rfl (vQ tab rfl (vT rfl callable_51 (rnum_good rfl g1 hs (by decide)) ?_))))
            refine vQ tab rfl (vS tab rfl (w4 (q_norm (w3 (w2 (vQ tab rfl (vQ tab rfl (w4 (w3 (rd_step (w1 (w2 (vQ tab rfl (w4 (w3 (w1 (vc_true rfl (vw_skip (w3 (w1 (w5 (w1 (w2 ?_)))))))))))))))))))))))
            refine vQ tab rfl (vQ tab rfl (vQ tab rfl (w4 (w3 (w2 (vQ tab rfl (vQ tab rfl (vT rfl callable_51 (rnum_good rfl g2 hs (by decide)) ?_))))))))
            refine vQ tab rfl (vS tab rfl (w4 (q_norm (w3 (w2 (vQ tab rfl (vQ tab rfl (w4 (w3 (rd_step (w1 (w2 (vQ tab rfl (w4 (w3 (w1 (vc_true rfl (vw_skip (w3 (w1 (w5 (w1 (w2 ?_)))))))))))))))))))))))
            refine vQ tab rfl (vQ tab rfl (vQ tab rfl (w4 (w3 (w2 (vQ tab rfl (vQ tab rfl (vT rfl callable_51 (rnum_fail rfl hg he hs (by decide)) ?_))))))))
            refine vQ tab rfl (vS tab rfl (w4 (q_norm (w3 (w2 (vQ tab rfl (vQ tab rfl (w4 (w3 (rd_step (w1 (w2 (vQ tab rfl (w4 (w3 (w1 (vc_true rfl (vw_skip (w3 (w1 (w5 (w1 (w2 ?_)))))))))))))))))))))))
            refine vQ tab rfl (vQ tab rfl (vQ tab rfl (w4 (w3 (w2 (vQ tab rfl (vQ tab rfl (vR rfl callable_51 (rnum_bad rfl rfl (by decide)) ?_))))))))
            refine vQ tab rfl (vS tab rfl (w4 (q_norm (w3 (w2 (vQ tab rfl (vQ tab rfl (w4 (w3 (rd_step (w1 (w2 (vQ tab rfl (w4 (w3 (w1 (vc_false rfl (vw_exit (q_thenx (q_thenx (q_here (w3 (w1 ?_)))))))))))))))))))))))
            refine w1 (w2 (vQ tab rfl (vR rfl callable_52 (done_bad rfl rfl (by decide)) ?_)))
            refine vQ tab rfl (vQ tab rfl (vK rfl (vK rfl (vK rfl (vQ tab rfl (w4 (w3 (vc_true rfl (w1 (w2 (vQ tab rfl (vS tab rfl (vQ tab rfl (w4 (w3 (vw_ret (q_thenr ?_)))))))))))))))))
            exact ⟨.inr rfl, rfl⟩
          | some r3 =>
            obtain ⟨x3, q3⟩ := r3
            obtain ⟨t3, g3, lt3, le3, d3⟩ := getN_some (s := B s) (a := t2) (by omega) (by omega) (by rw [d2]; exact h3)
            cases h4 : rdN q3 with
            | none =>
              obtain ⟨e, p, hg, he⟩ := getN_none (s := B s) (a := t3) (by omega) (by omega) (by rw [d3]; exact h4)
              rw [evtGet_no (by simp [Codec.get, Codec.parse, rdNs, evtC, evtCnt, evtText, h0, h1, h2, h3, h4])]
              refine w1 (w2 (vN tab rfl (vQ tab rfl (w4 (w3 (w1 (w2 (vQ tab rfl (vQ tab rfl (vN tab rfl (vQ tab rfl (w4 (w3 (w1 (w2 (vQ tab rfl (vT rfl callable_51 (rnum_good rfl g0 hs (by decide)) ?_)))))))))))))))))
              refine vQ tab rfl (vN tab rfl (vS tab rfl (w4 (w3 (w1 (w1 (w2 (vT rfl callable_57 (evt_parts5 (f1 := 0) (f2 := 0) (f3 := 0) (f4 := 0) (f5 := 0) (f6 := 0) (f7 := 0) rfl (by decide)) ?_))))))))
              refine vQ tab rfl (vQ tab rfl (w4 (w3 (w5 (vw_rounds 5 (rd_step (w1 (w2 (vQ tab rfl (w4 (w3 (w1 (vc_true rfl (vw_skip (w3 (w1 (w5 (w1 (w2 (vQ tab rfl (vQ tab rfl (vQ tab rfl (w4 ?_)))))))))))))))))))))))
              refine w3 (w2 (vQ tab rfl (vQ tab rfl (vT rfl callable_51 (rnum_good rfl g1 hs (by decide)) ?_))))
              refine vQ tab rfl (vS tab rfl (w4 (q_norm (w3 (w2 (vQ tab rfl (vQ tab rfl (w4 (w3 (rd_step (w1 (w2 (vQ tab rfl (w4 (w3 (w1 (vc_true rfl (vw_skip (w3 (w1 (w5 (w1 (w2 ?_)))))))))))))))))))))))
              refine vQ tab rfl (vQ tab rfl (vQ tab rfl (w4 (w3 (w2 (vQ tab rfl (vQ tab rfl (vT rfl callable_51 (rnum_good rfl g2 hs (by decide)) ?_))))))))
              refine vQ tab rfl (vS tab rfl (w4 (q_norm (w3 (w2 (vQ tab rfl (vQ tab rfl (w4 (w3 (rd_step (w1 (w2 (vQ tab rfl (w4 (w3 (w1 (vc_true rfl (vw_skip (w3 (w1 (w5 (w1 (w2 ?_)))))))))))))))))))))))
              refine vQ tab rfl (vQ tab rfl (vQ tab rfl (w4 (w3 (w2 (vQ tab rfl (vQ tab rfl (vT rfl callable_51 (rnum_good rfl g3 hs (by decide)) ?_))))))))
              refine vQ tab rfl (vS tab rfl (w4 (q_norm (w3 (w2 (vQ tab rfl (vQ tab rfl (w4 (w3 (rd_step (w1 (w2 (vQ tab rfl (w4 (w3 (w1 (vc_true rfl (vw_skip (w3 (w1 (w5 (w1 (w2 ?_)))))))))))))))))))))))
              refine vQ tab rfl (vQ tab rfl (vQ tab rfl (w4 (w3 (w2 (vQ tab rfl (vQ tab rfl (vT rfl callable_51 (rnum_fail rfl hg he hs (by decide)) ?_))))))))
              refine vQ tab rfl (vS tab rfl (w4 (q_norm (w3 (w2 (vQ tab rfl (vQ tab rfl (w4 (w3 (rd_step (w1 (w2 (vQ tab rfl (w4 (w3 (w1 (vc_false rfl (vw_exit (q_thenx (q_thenx (q_here (w3 (w1 ?_)))))))))))))))))))))))
              refine w1 (w2 (vQ tab rfl (vR rfl callable_52 (done_bad rfl rfl (by decide)) ?_)))
              refine vQ tab rfl (vQ tab rfl (vK rfl (vK rfl (vK rfl (vQ tab rfl (w4 (w3 (vc_true rfl (w1 (w2 (vQ tab rfl (vS tab rfl (vQ tab rfl (w4 (w3 (vw_ret (q_thenr ?_)))))))))))))))))
              exact ⟨.inr rfl, rfl⟩
            | some r4 =>
              obtain ⟨x4, q4⟩ := r4
              obtain ⟨t4, g4, lt4, le4, d4⟩ := getN_some (s := B s) (a := t3) (by omega) (by omega) (by rw [d3]; exact h4)
              by_cases hz : t4 = (s.size : Int)
              · have hq : q4 = [] := by rw [← d4, List.drop_of_length_le]; omega
                have hmk : evtMake 5 [x1, x2, x3, x4] (⟨#[]⟩) = ⟨5, x2, x1, x3, 0, 0, 0, x4⟩ := by rfl
                cases hm : evtMay ⟨5, x2, x1, x3, 0, 0, 0, x4⟩ with
                | false =>
                  have hgn : evtC.get (B s) = none := by
                    have hp : evtC.parse (B s) = some (⟨5, x2, x1, x3, 0, 0, 0, x4⟩, []) := by simp [Codec.parse, rdNs, evtC, evtCnt, evtText, mkB, h0, h1, h2, h3, h4, hq] <;> exact hmk
                    unfold Codec.get; rw [hp]; show (if evtMay _ = true then _ else _) = _; rw [hm]; rfl
                  rw [evtGet_no hgn]
                  refine w1 (w2 (vN tab rfl (vQ tab rfl (w4 (w3 (w1 (w2 (vQ tab rfl (vQ tab rfl (vN tab rfl (vQ tab rfl (w4 (w3 (w1 (w2 (vQ tab rfl (vT rfl callable_51 (rnum_good rfl g0 hs (by decide)) ?_)))))))))))))))))
                  refine vQ tab rfl (vN tab rfl (vS tab rfl (w4 (w3 (w1 (w1 (w2 (vT rfl callable_57 (evt_parts5 (f1 := 0) (f2 := 0) (f3 := 0) (f4 := 0) (f5 := 0) (f6 := 0) (f7 := 0) rfl (by decide)) ?_))))))))
                  refine vQ tab rfl (vQ tab rfl (w4 (w3 (w5 (vw_rounds 5 (rd_step (w1 (w2 (vQ tab rfl (w4 (w3 (w1 (vc_true rfl (vw_skip (w3 (w1 (w5 (w1 (w2 (vQ tab rfl (vQ tab rfl (vQ tab rfl (w4 ?_)))))))))))))))))))))))
                  refine w3 (w2 (vQ tab rfl (vQ tab rfl (vT rfl callable_51 (rnum_good rfl g1 hs (by decide)) ?_))))
                  refine vQ tab rfl (vS tab rfl (w4 (q_norm (w3 (w2 (vQ tab rfl (vQ tab rfl (w4 (w3 (rd_step (w1 (w2 (vQ tab rfl (w4 (w3 (w1 (vc_true rfl (vw_skip (w3 (w1 (w5 (w1 (w2 ?_)))))))))))))))))))))))
                  refine vQ tab rfl (vQ tab rfl (vQ tab rfl (w4 (w3 (w2 (vQ tab rfl (vQ tab rfl (vT rfl callable_51 (rnum_good rfl g2 hs (by decide)) ?_))))))))
                  refine vQ tab rfl (vS tab rfl (w4 (q_norm (w3 (w2 (vQ tab rfl (vQ tab rfl (w4 (w3 (rd_step (w1 (w2 (vQ tab rfl (w4 (w3 (w1 (vc_true rfl (vw_skip (w3 (w1 (w5 (w1 (w2 ?_)))))))))))))))))))))))
                  refine vQ tab rfl (vQ tab rfl (vQ tab rfl (w4 (w3 (w2 (vQ tab rfl (vQ tab rfl (vT rfl callable_51 (rnum_good rfl g3 hs (by decide)) ?_))))))))
                  refine vQ tab rfl (vS tab rfl (w4 (q_norm (w3 (w2 (vQ tab rfl (vQ tab rfl (w4 (w3 (rd_step (w1 (w2 (vQ tab rfl (w4 (w3 (w1 (vc_true rfl (vw_skip (w3 (w1 (w5 (w1 (w2 ?_)))))))))))))))))))))))
                  refine vQ tab rfl (vQ tab rfl (vQ tab rfl (w4 (w3 (w2 (vQ tab rfl (vQ tab rfl (vT rfl callable_51 (rnum_good rfl g4 hs (by decide)) ?_))))))))
                  refine vQ tab rfl (vS tab rfl (w4 (q_norm (w3 (w2 (vQ tab rfl (vQ tab rfl (w4 (w3 (rd_step (w1 (w2 (vQ tab rfl (w4 (w3 (w1 (vc_false rfl (vw_exit (q_thenx (q_thenx (q_here (w3 (w1 ?_)))))))))))))))))))))))
                  refine w1 (w2 (vQ tab rfl (vR rfl callable_52 (done_good rfl) (vQ tab rfl (vQ tab rfl (vgd_op false rfl rfl rfl (by simp only [hm, decide_eq_true_eq, decide_eq_false_iff_not, Bool.not_eq_eq_eq_not, Bool.not_true, Bool.not_false, bne_iff_ne, bne_eq_false_iff_eq, beq_iff_eq, beq_eq_false_iff_ne, ne_eq, beq_self_eq_true, bne_self_eq_false, Bool.and_eq_true, Bool.and_eq_false_iff, Bool.or_eq_true, Bool.or_eq_false_iff, and_self, and_true, true_and, Bool.false_eq_true, Bool.true_eq_false, not_false_eq_true, not_true_eq_false]; first | done | omega) ?_))))))
                  refine vQ tab rfl (vF rfl callable_31 (evt_may ⟨5, x2, x1, x3, 0, 0, 0, x4⟩) (vQ tab rfl (vQ tab rfl (w4 (w3 (vcd_true rfl (by simp only [hm, decide_eq_true_eq, decide_eq_false_iff_not, Bool.not_eq_eq_eq_not, Bool.not_true, Bool.not_false, bne_iff_ne, bne_eq_false_iff_eq, beq_iff_eq, beq_eq_false_iff_ne, ne_eq, beq_self_eq_true, bne_self_eq_false, Bool.and_eq_true, Bool.and_eq_false_iff, Bool.or_eq_true, Bool.or_eq_false_iff, and_self, and_true, true_and, Bool.false_eq_true, Bool.true_eq_false, not_false_eq_true, not_true_eq_false]; first | done | omega) ?_))))))
                  refine w1 (w2 (vQ tab rfl (vS tab rfl (vQ tab rfl (w4 (w3 (vw_ret (q_thenr ?_))))))))
                  exact ⟨.inr rfl, rfl⟩
                | true =>
                  have hgn : evtC.get (B s) = some ⟨5, x2, x1, x3, 0, 0, 0, x4⟩ := by
                    have hp : evtC.parse (B s) = some (⟨5, x2, x1, x3, 0, 0, 0, x4⟩, []) := by simp [Codec.parse, rdNs, evtC, evtCnt, evtText, mkB, h0, h1, h2, h3, h4, hq] <;> exact hmk
                    unfold Codec.get; rw [hp]; show (if evtMay _ = true then _ else _) = _; rw [hm]; rfl
                  rw [evtGet_ok hgn]
                  refine w1 (w2 (vN tab rfl (vQ tab rfl (w4 (w3 (w1 (w2 (vQ tab rfl (vQ tab rfl (vN tab rfl (vQ tab rfl (w4 (w3 (w1 (w2 (vQ tab rfl (vT rfl callable_51 (rnum_good rfl g0 hs (by decide)) ?_)))))))))))))))))
                  refine vQ tab rfl (vN tab rfl (vS tab rfl (w4 (w3 (w1 (w1 (w2 (vT rfl callable_57 (evt_parts5 (f1 := 0) (f2 := 0) (f3 := 0) (f4 := 0) (f5 := 0) (f6 := 0) (f7 := 0) rfl (by decide)) ?_))))))))
                  refine vQ tab rfl (vQ tab rfl (w4 (w3 (w5 (vw_rounds 5 (rd_step (w1 (w2 (vQ tab rfl (w4 (w3 (w1 (vc_true rfl (vw_skip (w3 (w1 (w5 (w1 (w2 (vQ tab rfl (vQ tab rfl (vQ tab rfl (w4 ?_)))))))))))))))))))))))
                  refine w3 (w2 (vQ tab rfl (vQ tab rfl (vT rfl callable_51 (rnum_good rfl g1 hs (by decide)) ?_))))
                  refine vQ tab rfl (vS tab rfl (w4 (q_norm (w3 (w2 (vQ tab rfl (vQ tab rfl (w4 (w3 (rd_step (w1 (w2 (vQ tab rfl (w4 (w3 (w1 (vc_true rfl (vw_skip (w3 (w1 (w5 (w1 (w2 ?_)))))))))))))))))))))))
                  refine vQ tab rfl (vQ tab rfl (vQ tab rfl (w4 (w3 (w2 (vQ tab rfl (vQ tab rfl (vT rfl callable_51 (rnum_good rfl g2 hs (by decide)) ?_))))))))
                  refine vQ tab rfl (vS tab rfl (w4 (q_norm (w3 (w2 (vQ tab rfl (vQ tab rfl (w4 (w3 (rd_step (w1 (w2 (vQ tab rfl (w4 (w3 (w1 (vc_true rfl (vw_skip (w3 (w1 (w5 (w1 (w2 ?_)))))))))))))))))))))))
                  refine vQ tab rfl (vQ tab rfl (vQ tab rfl (w4 (w3 (w2 (vQ tab rfl (vQ tab rfl (vT rfl callable_51 (rnum_good rfl g3 hs (by decide)) ?_))))))))
                  refine vQ tab rfl (vS tab rfl (w4 (q_norm (w3 (w2 (vQ tab rfl (vQ tab rfl (w4 (w3 (rd_step (w1 (w2 (vQ tab rfl (w4 (w3 (w1 (vc_true rfl (vw_skip (w3 (w1 (w5 (w1 (w2 ?_)))))))))))))))))))))))
                  refine vQ tab rfl (vQ tab rfl (vQ tab rfl (w4 (w3 (w2 (vQ tab rfl (vQ tab rfl (vT rfl callable_51 (rnum_good rfl g4 hs (by decide)) ?_))))))))
                  refine vQ tab rfl (vS tab rfl (w4 (q_norm (w3 (w2 (vQ tab rfl (vQ tab rfl (w4 (w3 (rd_step (w1 (w2 (vQ tab rfl (w4 (w3 (w1 (vc_false rfl (vw_exit (q_thenx (q_thenx (q_here (w3 (w1 ?_)))))))))))))))))))))))
                  refine w1 (w2 (vQ tab rfl (vR rfl callable_52 (done_good rfl) (vQ tab rfl (vQ tab rfl (vgd_op false rfl rfl rfl (by simp only [hm, decide_eq_true_eq, decide_eq_false_iff_not, Bool.not_eq_eq_eq_not, Bool.not_true, Bool.not_false, bne_iff_ne, bne_eq_false_iff_eq, beq_iff_eq, beq_eq_false_iff_ne, ne_eq, beq_self_eq_true, bne_self_eq_false, Bool.and_eq_true, Bool.and_eq_false_iff, Bool.or_eq_true, Bool.or_eq_false_iff, and_self, and_true, true_and, Bool.false_eq_true, Bool.true_eq_false, not_false_eq_true, not_true_eq_false]; first | done | omega) ?_))))))
                  refine vQ tab rfl (vF rfl callable_31 (evt_may ⟨5, x2, x1, x3, 0, 0, 0, x4⟩) (vQ tab rfl (vQ tab rfl (w4 (w3 (vcd_false rfl (by simp only [hm, decide_eq_true_eq, decide_eq_false_iff_not, Bool.not_eq_eq_eq_not, Bool.not_true, Bool.not_false, bne_iff_ne, bne_eq_false_iff_eq, beq_iff_eq, beq_eq_false_iff_ne, ne_eq, beq_self_eq_true, bne_self_eq_false, Bool.and_eq_true, Bool.and_eq_false_iff, Bool.or_eq_true, Bool.or_eq_false_iff, and_self, and_true, true_and, Bool.false_eq_true, Bool.true_eq_false, not_false_eq_true, not_true_eq_false]; first | done | omega) ?_))))))
                  refine vw_skip (w3 (w1 (w2 (vQ tab rfl (vS tab rfl (vQ tab rfl (w4 (w3 (vw_ret ?_)))))))))
                  exact ⟨.inr rfl, rfl⟩
              · have hq : q4 ≠ [] := fun hq => by rw [hq] at d4; have := congrArg List.length d4; rw [List.length_drop] at this; simp at this; omega
                have hgn : evtC.get (B s) = none := by
                  obtain ⟨z, zs, hzz⟩ := List.exists_cons_of_ne_nil hq
                  simp [Codec.get, Codec.parse, rdNs, evtC, evtCnt, evtText, hzz, h0, h1, h2, h3, h4]
                rw [evtGet_no hgn]
                refine w1 (w2 (vN tab rfl (vQ tab rfl (w4 (w3 (w1 (w2 (vQ tab rfl (vQ tab rfl (vN tab rfl (vQ tab rfl (w4 (w3 (w1 (w2 (vQ tab rfl (vT rfl callable_51 (rnum_good rfl g0 hs (by decide)) ?_)))))))))))))))))
                refine vQ tab rfl (vN tab rfl (vS tab rfl (w4 (w3 (w1 (w1 (w2 (vT rfl callable_57 (evt_parts5 (f1 := 0) (f2 := 0) (f3 := 0) (f4 := 0) (f5 := 0) (f6 := 0) (f7 := 0) rfl (by decide)) ?_))))))))
                refine vQ tab rfl (vQ tab rfl (w4 (w3 (w5 (vw_rounds 5 (rd_step (w1 (w2 (vQ tab rfl (w4 (w3 (w1 (vc_true rfl (vw_skip (w3 (w1 (w5 (w1 (w2 (vQ tab rfl (vQ tab rfl (vQ tab rfl (w4 ?_)))))))))))))))))))))))
                refine w3 (w2 (vQ tab rfl (vQ tab rfl (vT rfl callable_51 (rnum_good rfl g1 hs (by decide)) ?_))))
                refine vQ tab rfl (vS tab rfl (w4 (q_norm (w3 (w2 (vQ tab rfl (vQ tab rfl (w4 (w3 (rd_step (w1 (w2 (vQ tab rfl (w4 (w3 (w1 (vc_true rfl (vw_skip (w3 (w1 (w5 (w1 (w2 ?_)))))))))))))))))))))))
                refine vQ tab rfl (vQ tab rfl (vQ tab rfl (w4 (w3 (w2 (vQ tab rfl (vQ tab rfl (vT rfl callable_51 (rnum_good rfl g2 hs (by decide)) ?_))))))))
                refine vQ tab rfl (vS tab rfl (w4 (q_norm (w3 (w2 (vQ tab rfl (vQ tab rfl (w4 (w3 (rd_step (w1 (w2 (vQ tab rfl (w4 (w3 (w1 (vc_true rfl (vw_skip (w3 (w1 (w5 (w1 (w2 ?_)))))))))))))))))))))))
                refine vQ tab rfl (vQ tab rfl (vQ tab rfl (w4 (w3 (w2 (vQ tab rfl (vQ tab rfl (vT rfl callable_51 (rnum_good rfl g3 hs (by decide)) ?_))))))))
                refine vQ tab rfl (vS tab rfl (w4 (q_norm (w3 (w2 (vQ tab rfl (vQ tab rfl (w4 (w3 (rd_step (w1 (w2 (vQ tab rfl (w4 (w3 (w1 (vc_true rfl (vw_skip (w3 (w1 (w5 (w1 (w2 ?_)))))))))))))))))))))))
                refine vQ tab rfl (vQ tab rfl (vQ tab rfl (w4 (w3 (w2 (vQ tab rfl (vQ tab rfl (vT rfl callable_51 (rnum_good rfl g4 hs (by decide)) ?_))))))))
                refine vQ tab rfl (vS tab rfl (w4 (q_norm (w3 (w2 (vQ tab rfl (vQ tab rfl (w4 (w3 (rd_step (w1 (w2 (vQ tab rfl (w4 (w3 (w1 (vc_false rfl (vw_exit (q_thenx (q_thenx (q_here (w3 (w1 ?_)))))))))))))))))))))))
                refine w1 (w2 (vQ tab rfl (vR rfl callable_52 (done_good rfl) (vQ tab rfl (vQ tab rfl (vgd_op true rfl rfl rfl (by simp only [decide_eq_true_eq, decide_eq_false_iff_not, Bool.not_eq_eq_eq_not, Bool.not_true, Bool.not_false, bne_iff_ne, bne_eq_false_iff_eq, beq_iff_eq, beq_eq_false_iff_ne, ne_eq, beq_self_eq_true, bne_self_eq_false, Bool.and_eq_true, Bool.and_eq_false_iff, Bool.or_eq_true, Bool.or_eq_false_iff, and_self, and_true, true_and, Bool.false_eq_true, Bool.true_eq_false, not_false_eq_true, not_true_eq_false]; first | done | omega) ?_))))))
                refine vK rfl (vK rfl (vK rfl (vQ tab rfl (w4 (w3 (vc_true rfl (w1 (w2 (vQ tab rfl (vS tab rfl (vQ tab rfl (w4 (w3 (vw_ret (q_thenr ?_)))))))))))))))
                exact ⟨.inr rfl, rfl⟩
    ·
      cases h1 : rdN q0 with
      | none =>
        obtain ⟨e, p, hg, he⟩ := getN_none (s := B s) (a := t0) (by omega) (by omega) (by rw [d0]; exact h1)
        rw [evtGet_no (by simp [Codec.get, Codec.parse, rdNs, evtC, evtCnt, evtText, h0, h1])]
        refine w1 (w2 (vN tab rfl (vQ tab rfl (w4 (w3 (w1 (w2 (vQ tab rfl (vQ tab rfl (vN tab rfl (vQ tab rfl (w4 (w3 (w1 (w2 (vQ tab rfl (vT rfl callable_51 (rnum_good rfl g0 hs (by decide)) ?_)))))))))))))))))
        refine vQ tab rfl (vN tab rfl (vS tab rfl (w4 (w3 (w1 (w1 (w2 (vT rfl callable_57 (evt_parts6 (f1 := 0) (f2 := 0) (f3 := 0) (f4 := 0) (f5 := 0) (f6 := 0) (f7 := 0) rfl (by decide)) ?_))))))))
        refine vQ tab rfl (vQ tab rfl (w4 (w3 (w5 (vw_rounds 5 (rd_step (w1 (w2 (vQ tab rfl (w4 (w3 (w1 (vc_true rfl (vw_skip (w3 (w1 (w5 (w1 (w2 (vQ tab rfl (vQ tab rfl (vQ tab rfl (w4 ?_)))))))))))))))))))))))
        refine w3 (w2 (vQ tab rfl (vQ tab rfl (vT rfl callable_51 (rnum_fail rfl hg he hs (by decide)) ?_))))
        refine vQ tab rfl (vS tab rfl (w4 (q_norm (w3 (w2 (vQ tab rfl (vQ tab rfl (w4 (w3 (rd_step (w1 (w2 (vQ tab rfl (w4 (w3 (w1 (vc_true rfl (vw_skip (w3 (w1 (w5 (w1 (w2 ?_)))))))))))))))))))))))
        refine vQ tab rfl (vQ tab rfl (vQ tab rfl (w4 (w3 (w2 (vQ tab rfl (vQ tab rfl (vR rfl callable_51 (rnum_bad rfl rfl (by decide)) ?_))))))))
        refine vQ tab rfl (vS tab rfl (w4 (q_norm (w3 (w2 (vQ tab rfl (vQ tab rfl (w4 (w3 (rd_step (w1 (w2 (vQ tab rfl (w4 (w3 (w1 (vc_true rfl (vw_skip (w3 (w1 (w5 (w1 (w2 ?_)))))))))))))))))))))))
        refine vQ tab rfl (vQ tab rfl (vQ tab rfl (w4 (w3 (w2 (vQ tab rfl (vQ tab rfl (vR rfl callable_51 (rnum_bad rfl rfl (by decide)) ?_))))))))
        refine vQ tab rfl (vS tab rfl (w4 (q_norm (w3 (w2 (vQ tab rfl (vQ tab rfl (w4 (w3 (rd_step (w1 (w2 (vQ tab rfl (w4 (w3 (w1 (vc_true rfl (vw_skip (w3 (w1 (w5 (w1 (w2 ?_)))))))))))))))))))))))
        refine vQ tab rfl (vQ tab rfl (vQ tab rfl (w4 (w3 (w2 (vQ tab rfl (vQ tab rfl (vR rfl callable_51 (rnum_bad rfl rfl (by decide)) ?_))))))))
        refine vQ tab rfl (vS tab rfl (w4 (q_norm (w3 (w2 (vQ tab rfl (vQ tab rfl (w4 (w3 (rd_step (w1 (w2 (vQ tab rfl (w4 (w3 (w1 (vc_false rfl (vw_exit (q_thenx (q_thenx (q_here (w3 (w1 ?_)))))))))))))))))))))))
        refine w1 (w2 (vQ tab rfl (vR rfl callable_52 (done_bad rfl rfl (by decide)) ?_)))
        refine vQ tab rfl (vQ tab rfl (vK rfl (vK rfl (vK rfl (vQ tab rfl (w4 (w3 (vc_true rfl (w1 (w2 (vQ tab rfl (vS tab rfl (vQ tab rfl (w4 (w3 (vw_ret (q_thenr ?_)))))))))))))))))
        exact ⟨.inr rfl, rfl⟩
      | some r1 =>
        obtain ⟨x1, q1⟩ := r1
        obtain ⟨t1, g1, lt1, le1, d1⟩ := getN_some (s := B s) (a := t0) (by omega) (by omega) (by rw [d0]; exact h1)
        cases h2 : rdN q1 with
        | none =>
          obtain ⟨e, p, hg, he⟩ := getN_none (s := B s) (a := t1) (by omega) (by omega) (by rw [d1]; exact h2)
          rw [evtGet_no (by simp [Codec.get, Codec.parse, rdNs, evtC, evtCnt, evtText, h0, h1, h2])]
          refine w1 (w2 (vN tab rfl (vQ tab rfl (w4 (w3 (w1 (w2 (vQ tab rfl (vQ tab rfl (vN tab rfl (vQ tab rfl (w4 (w3 (w1 (w2 (vQ tab rfl (vT rfl callable_51 (rnum_good rfl g0 hs (by decide)) ?_)))))))))))))))))
          refine vQ tab rfl (vN tab rfl (vS tab rfl (w4 (w3 (w1 (w1 (w2 (vT rfl callable_57 (evt_parts6 (f1 := 0) (f2 := 0) (f3 := 0) (f4 := 0) (f5 := 0) (f6 := 0) (f7 := 0) rfl (by decide)) ?_))))))))
          refine vQ tab rfl (vQ tab rfl (w4 (w3 (w5 (vw_rounds 5 (rd_step (w1 (w2 (vQ tab rfl (w4 (w3 (w1 (vc_true rfl (vw_skip (w3 (w1 (w5 (w1 (w2 (vQ tab rfl (vQ tab rfl (vQ tab rfl (w4 ?_)))))))))))))))))))))))
          refine w3 (w2 (vQ tab rfl (vQ tab rfl (vT rfl callable_51 (rnum_good rfl g1 hs (by decide)) ?_))))
          refine vQ tab rfl (vS tab rfl (w4 (q_norm (w3 (w2 (vQ tab rfl (vQ tab rfl (w4 (w3 (rd_step (w1 (w2 (vQ tab rfl (w4 (w3 (w1 (vc_true rfl (vw_skip (w3 (w1 (w5 (w1 (w2 ?_)))))))))))))))))))))))
          refine vQ tab rfl (vQ tab rfl (vQ tab rfl (w4 (w3 (w2 (vQ tab rfl (vQ tab rfl (vT rfl callable_51 (rnum_fail rfl hg he hs (by decide)) ?_))))))))
          refine vQ tab rfl (vS tab rfl (w4 (q_norm (w3 (w2 (vQ tab rfl (vQ tab rfl (w4 (w3 (rd_step (w1 (w2 (vQ tab rfl (w4 (w3 (w1 (vc_true rfl (vw_skip (w3 (w1 (w5 (w1 (w2 ?_)))))))))))))))))))))))
          refine vQ tab rfl (vQ tab rfl (vQ tab rfl (w4 (w3 (w2 (vQ tab rfl (vQ tab rfl (vR rfl callable_51 (rnum_bad rfl rfl (by decide)) ?_))))))))
          refine vQ tab rfl (vS tab rfl (w4 (q_norm (w3 (w2 (vQ tab rfl (vQ tab rfl (w4 (w3 (rd_step (w1 (w2 (vQ tab rfl (w4 (w3 (w1 (vc_true rfl (vw_skip (w3 (w1 (w5 (w1 (w2 ?_)))))))))))))))))))))))
          refine vQ tab rfl (vQ tab rfl (vQ tab rfl (w4 (w3 (w2 (vQ tab rfl (vQ tab rfl (vR rfl callable_51 (rnum_bad rfl rfl (by decide)) ?_))))))))
          refine vQ tab rfl (vS tab rfl (w4 (q_norm (w3 (w2 (vQ tab rfl (vQ tab rfl (w4 (w3 (rd_step (w1 (w2 (vQ tab rfl (w4 (w3 (w1 (vc_false rfl (vw_exit (q_thenx (q_thenx (q_here (w3 (w1 ?_)))))))))))))))))))))))
          refine w1 (w2 (vQ tab rfl (vR rfl callable_52 (done_bad rfl rfl (by decide)) ?_)))
          refine vQ tab rfl (vQ tab rfl (vK rfl (vK rfl (vK rfl (vQ tab rfl (w4 (w3 (vc_true rfl (w1 (w2 (vQ tab rfl (vS tab rfl (vQ tab rfl (w4 (w3 (vw_ret (q_thenr ?_)))))))))))))))))
          exact ⟨.inr rfl, rfl⟩
        | some r2 =>
          obtain ⟨x2, q2⟩ := r2
          obtain ⟨t2, g2, lt2, le2, d2⟩ := getN_some (s := B s) (a := t1) (by omega) (by omega) (by rw [d1]; exact h2)
          cases h3 : rdN q2 with
          | none =>
            obtain ⟨e, p, hg, he⟩ := getN_none (s := B s) (a := t2) (by omega) (by omega) (by rw [d2]; exact h3)
            rw [evtGet_no (by simp [Codec.get, Codec.parse, rdNs, evtC, evtCnt, evtText, h0, h1, h2, h3])]
            refine w1 (w2 (vN tab rfl (vQ tab rfl (w4 (w3 (w1 (w2 (vQ tab rfl (vQ tab rfl (vN tab rfl (vQ tab rfl (w4 (w3 (w1 (w2 (vQ tab rfl (vT rfl callable_51 (rnum_good rfl g0 hs (by decide)) ?_)))))))))))))))))
            refine vQ tab rfl (vN tab rfl (vS tab rfl (w4 (w3 (w1 (w1 (w2 (vT rfl callable_57 (evt_parts6 (f1 := 0) (f2 := 0) (f3 := 0) (f4 := 0) (f5 := 0) (f6 := 0) (f7 := 0) rfl (by decide)) ?_))))))))
            refine vQ tab rfl (vQ tab rfl (w4 (w3 (w5 (vw_rounds 5 (rd_step (w1 (w2 (vQ tab rfl (w4 (w3 (w1 (vc_true rfl (vw_skip (w3 (w1 (w5 (w1 (w2 (vQ tab rfl (vQ tab rfl (vQ tab rfl (w4 ?_)))))))))))))))))))))))
            refine w3 (w2 (vQ tab rfl (vQ tab rfl (vT rfl callable_51 (rnum_good rfl g1 hs (by decide)) ?_))))
            refine vQ tab rfl (vS tab rfl (w4 (q_norm (w3 (w2 (vQ tab rfl (vQ tab rfl (w4 (w3 (rd_step (w1 (w2 (vQ tab rfl (w4 (w3 (w1 (vc_true rfl (vw_skip (w3 (w1 (w5 (w1 (w2 ?_)))))))))))))))))))))))
            refine vQ tab rfl (vQ tab rfl (vQ tab rfl (w4 (w3 (w2 (vQ tab rfl (vQ tab rfl (vT rfl callable_51 (rnum_good rfl g2 hs (by decide)) ?_))))))))
            refine vQ tab rfl (vS tab rfl (w4 (q_norm (w3 (w2 (vQ tab rfl (vQ tab rfl (w4 (w3 (rd_step (w1 (w2 (vQ tab rfl (w4 (w3 (w1 (vc_true rfl (vw_skip (w3 (w1 (w5 (w1 (w2 ?_)))))))))))))))))))))))
            refine vQ tab rfl (vQ tab rfl (vQ tab rfl (w4 (w3 (w2 (vQ tab rfl (vQ tab rfl (vT rfl callable_51 (rnum_fail rfl hg he hs (by decide)) ?_))))))))
            refine vQ tab rfl (vS tab rfl (w4 (q_norm (w3 (w2 (vQ tab rfl (vQ tab rfl (w4 (w3 (rd_step (w1 (w2 (vQ tab rfl (w4 (w3 (w1 (vc_true rfl (vw_skip (w3 (w1 (w5 (w1 (w2 ?_)))))))))))))))))))))))
            refine vQ tab rfl (vQ tab rfl (vQ tab rfl (w4 (w3 (w2 (vQ tab rfl (vQ tab rfl (vR rfl callable_51 (rnum_bad rfl rfl (by decide)) ?_))))))))
            refine vQ tab rfl (vS tab rfl (w4 (q_norm (w3 (w2 (vQ tab rfl (vQ tab rfl (w4 (w3 (rd_step (w1 (w2 (vQ tab rfl (w4 (w3 (w1 (vc_false rfl (vw_exit (q_thenx (q_thenx (q_here (w3 (w1 ?_)))))))))))))))))))))))
            refine w1 (w2 (vQ tab rfl (vR rfl callable_52 (done_bad rfl rfl (by decide)) ?_)))
            refine vQ tab rfl (vQ tab rfl (vK rfl (vK rfl (vK rfl (vQ tab rfl (w4 (w3 (vc_true rfl (w1 (w2 (vQ tab rfl (vS tab rfl (vQ tab rfl (w4 (w3 (vw_ret (q_thenr ?_)))))))))))))))))
            exact ⟨.inr rfl, rfl⟩
          | some r3 =>
            obtain ⟨x3, q3⟩ := r3
            obtain ⟨t3, g3, lt3, le3, d3⟩ := getN_some (s := B s) (a := t2) (by omega) (by omega) (by rw [d2]; exact h3)
            cases h4 : rdN q3 with
            | none =>
              obtain ⟨e, p, hg, he⟩ := getN_none (s := B s) (a := t3) (by omega) (by omega) (by rw [d3]; exact h4)
              rw [evtGet_no (by simp [Codec.get, Codec.parse, rdNs, evtC, evtCnt, evtText, h0, h1, h2, h3, h4])]
              refine w1 (w2 (vN tab rfl (vQ tab rfl (w4 (w3 (w1 (w2 (vQ tab rfl (vQ tab rfl (vN tab rfl (vQ tab rfl (w4 (w3 (w1 (w2 (vQ tab rfl (vT rfl callable_51 (rnum_good rfl g0 hs (by decide)) ?_)))))))))))))))))
              refine vQ tab rfl (vN tab rfl (vS tab rfl (w4 (w3 (w1 (w1 (w2 (vT rfl callable_57 (evt_parts6 (f1 := 0) (f2 := 0) (f3 := 0) (f4 := 0) (f5 := 0) (f6 := 0) (f7 := 0) rfl (by decide)) ?_))))))))
              refine vQ tab rfl (vQ tab rfl (w4 (w3 (w5 (vw_rounds 5 (rd_step (w1 (w2 (vQ tab rfl (w4 (w3 (w1 (vc_true rfl (vw_skip (w3 (w1 (w5 (w1 (w2 (vQ tab rfl (vQ tab rfl (vQ tab rfl (w4 ?_)))))))))))))))))))))))
              refine w3 (w2 (vQ tab rfl (vQ tab rfl (vT rfl callable_51 (rnum_good rfl g1 hs (by decide)) ?_))))
              refine vQ tab rfl (vS tab rfl (w4 (q_norm (w3 (w2 (vQ tab rfl (vQ tab rfl (w4 (w3 (rd_step (w1 (w2 (vQ tab rfl (w4 (w3 (w1 (vc_true rfl (vw_skip (w3 (w1 (w5 (w1 (w2 ?_)))))))))))))))))))))))
              refine vQ tab rfl (vQ tab rfl (vQ tab rfl (w4 (w3 (w2 (vQ tab rfl (vQ tab rfl (vT rfl callable_51 (rnum_good rfl g2 hs (by decide)) ?_))))))))
              refine vQ tab rfl (vS tab rfl (w4 (q_norm (w3 (w2 (vQ tab rfl (vQ tab rfl (w4 (w3 (rd_step (w1 (w2 (vQ tab rfl (w4 (w3 (w1 (vc_true rfl (vw_skip (w3 (w1 (w5 (w1 (w2 ?_)))))))))))))))))))))))
              refine vQ tab rfl (vQ tab rfl (vQ tab rfl (w4 (w3 (w2 (vQ tab rfl (vQ tab rfl (vT rfl callable_51 (rnum_good rfl g3 hs (by decide)) ?_))))))))
              refine vQ tab rfl (vS tab rfl (w4 (q_norm (w3 (w2 (vQ tab rfl (vQ tab rfl (w4 (w3 (rd_step (w1 (w2 (vQ tab rfl (w4 (w3 (w1 (vc_true rfl (vw_skip (w3 (w1 (w5 (w1 (w2 ?_)))))))))))))))))))))))
              refine vQ tab rfl (vQ tab rfl (vQ tab rfl (w4 (w3 (w2 (vQ tab rfl (vQ tab rfl (vT rfl callable_51 (rnum_fail rfl hg he hs (by decide)) ?_))))))))
              refine vQ tab rfl (vS tab rfl (w4 (q_norm (w3 (w2 (vQ tab rfl (vQ tab rfl (w4 (w3 (rd_step (w1 (w2 (vQ tab rfl (w4 (w3 (w1 (vc_false rfl (vw_exit (q_thenx (q_thenx (q_here (w3 (w1 ?_)))))))))))))))))))))))
              refine w1 (w2 (vQ tab rfl (vR rfl callable_52 (done_bad rfl rfl (by decide)) ?_)))
              refine vQ tab rfl (vQ tab rfl (vK rfl (vK rfl (vK rfl (vQ tab rfl (w4 (w3 (vc_true rfl (w1 (w2 (vQ tab rfl (vS tab rfl (vQ tab rfl (w4 (w3 (vw_ret (q_thenr ?_)))))))))))))))))
              exact ⟨.inr rfl, rfl⟩
            | some r4 =>
              obtain ⟨x4, q4⟩ := r4
              obtain ⟨t4, g4, lt4, le4, d4⟩ := getN_some (s := B s) (a := t3) (by omega) (by omega) (by rw [d3]; exact h4)
              by_cases hz : t4 = (s.size : Int)
              · have hq : q4 = [] := by rw [← d4, List.drop_of_length_le]; omega
                have hmk : evtMake 6 [x1, x2, x3, x4] (⟨#[]⟩) = ⟨6, 0, x1, 0, x2, x3, 0, x4⟩ := by rfl
                cases hm : evtMay ⟨6, 0, x1, 0, x2, x3, 0, x4⟩ with
                | false =>
                  have hgn : evtC.get (B s) = none := by
                    have hp : evtC.parse (B s) = some (⟨6, 0, x1, 0, x2, x3, 0, x4⟩, []) := by simp [Codec.parse, rdNs, evtC, evtCnt, evtText, mkB, h0, h1, h2, h3, h4, hq] <;> exact hmk
                    unfold Codec.get; rw [hp]; show (if evtMay _ = true then _ else _) = _; rw [hm]; rfl
                  rw [evtGet_no hgn]
                  refine w1 (w2 (vN tab rfl (vQ tab rfl (w4 (w3 (w1 (w2 (vQ tab rfl (vQ tab rfl (vN tab rfl (vQ tab rfl (w4 (w3 (w1 (w2 (vQ tab rfl (vT rfl callable_51 (rnum_good rfl g0 hs (by decide)) ?_)))))))))))))))))
                  refine vQ tab rfl (vN tab rfl (vS tab rfl (w4 (w3 (w1 (w1 (w2 (vT rfl callable_57 (evt_parts6 (f1 := 0) (f2 := 0) (f3 := 0) (f4 := 0) (f5 := 0) (f6 := 0) (f7 := 0) rfl (by decide)) ?_))))))))
                  refine vQ tab rfl (vQ tab rfl (w4 (w3 (w5 (vw_rounds 5 (rd_step (w1 (w2 (vQ tab rfl (w4 (w3 (w1 (vc_true rfl (vw_skip (w3 (w1 (w5 (w1 (w2 (vQ tab rfl (vQ tab rfl (vQ tab rfl (w4 ?_)))))))))))))))))))))))
                  refine w3 (w2 (vQ tab rfl (vQ tab rfl (vT rfl callable_51 (rnum_good rfl g1 hs (by decide)) ?_))))
                  refine vQ tab rfl (vS tab rfl (w4 (q_norm (w3 (w2 (vQ tab rfl (vQ tab rfl (w4 (w3 (rd_step (w1 (w2 (vQ tab rfl (w4 (w3 (w1 (vc_true rfl (vw_skip (w3 (w1 (w5 (w1 (w2 ?_)))))))))))))))))))))))
                  refine vQ tab rfl (vQ tab rfl (vQ tab rfl (w4 (w3 (w2 (vQ tab rfl (vQ tab rfl (vT rfl callable_51 (rnum_good rfl g2 hs (by decide)) ?_))))))))
                  refine vQ tab rfl (vS tab rfl (w4 (q_norm (w3 (w2 (vQ tab rfl (vQ tab rfl (w4 (w3 (rd_step (w1 (w2 (vQ tab rfl (w4 (w3 (w1 (vc_true rfl (vw_skip (w3 (w1 (w5 (w1 (w2 ?_)))))))))))))))))))))))
                  refine vQ tab rfl (vQ tab rfl (vQ tab rfl (w4 (w3 (w2 (vQ tab rfl (vQ tab rfl (vT rfl callable_51 (rnum_good rfl g3 hs (by decide)) ?_))))))))
                  refine vQ tab rfl (vS tab rfl (w4 (q_norm (w3 (w2 (vQ tab rfl (vQ tab rfl (w4 (w3 (rd_step (w1 (w2 (vQ tab rfl (w4 (w3 (w1 (vc_true rfl (vw_skip (w3 (w1 (w5 (w1 (w2 ?_)))))))))))))))))))))))
                  refine vQ tab rfl (vQ tab rfl (vQ tab rfl (w4 (w3 (w2 (vQ tab rfl (vQ tab rfl (vT rfl callable_51 (rnum_good rfl g4 hs (by decide)) ?_))))))))
                  refine vQ tab rfl (vS tab rfl (w4 (q_norm (w3 (w2 (vQ tab rfl (vQ tab rfl (w4 (w3 (rd_step (w1 (w2 (vQ tab rfl (w4 (w3 (w1 (vc_false rfl (vw_exit (q_thenx (q_thenx (q_here (w3 (w1 ?_)))))))))))))))))))))))
                  refine w1 (w2 (vQ tab rfl (vR rfl callable_52 (done_good rfl) (vQ tab rfl (vQ tab rfl (vgd_op false rfl rfl rfl (by simp only [hm, decide_eq_true_eq, decide_eq_false_iff_not, Bool.not_eq_eq_eq_not, Bool.not_true, Bool.not_false, bne_iff_ne, bne_eq_false_iff_eq, beq_iff_eq, beq_eq_false_iff_ne, ne_eq, beq_self_eq_true, bne_self_eq_false, Bool.and_eq_true, Bool.and_eq_false_iff, Bool.or_eq_true, Bool.or_eq_false_iff, and_self, and_true, true_and, Bool.false_eq_true, Bool.true_eq_false, not_false_eq_true, not_true_eq_false]; first | done | omega) ?_))))))
                  refine vQ tab rfl (vF rfl callable_31 (evt_may ⟨6, 0, x1, 0, x2, x3, 0, x4⟩) (vQ tab rfl (vQ tab rfl (w4 (w3 (vcd_true rfl (by simp only [hm, decide_eq_true_eq, decide_eq_false_iff_not, Bool.not_eq_eq_eq_not, Bool.not_true, Bool.not_false, bne_iff_ne, bne_eq_false_iff_eq, beq_iff_eq, beq_eq_false_iff_ne, ne_eq, beq_self_eq_true, bne_self_eq_false, Bool.and_eq_true, Bool.and_eq_false_iff, Bool.or_eq_true, Bool.or_eq_false_iff, and_self, and_true, true_and, Bool.false_eq_true, Bool.true_eq_false, not_false_eq_true, not_true_eq_false]; first | done | omega) ?_))))))
                  refine w1 (w2 (vQ tab rfl (vS tab rfl (vQ tab rfl (w4 (w3 (vw_ret (q_thenr ?_))))))))
                  exact ⟨.inr rfl, rfl⟩
                | true =>
                  have hgn : evtC.get (B s) = some ⟨6, 0, x1, 0, x2, x3, 0, x4⟩ := by
                    have hp : evtC.parse (B s) = some (⟨6, 0, x1, 0, x2, x3, 0, x4⟩, []) := by simp [Codec.parse, rdNs, evtC, evtCnt, evtText, mkB, h0, h1, h2, h3, h4, hq] <;> exact hmk
                    unfold Codec.get; rw [hp]; show (if evtMay _ = true then _ else _) = _; rw [hm]; rfl
                  rw [evtGet_ok hgn]
                  refine w1 (w2 (vN tab rfl (vQ tab rfl (w4 (w3 (w1 (w2 (vQ tab rfl (vQ tab rfl (vN tab rfl (vQ tab rfl (w4 (w3 (w1 (w2 (vQ tab rfl (vT rfl callable_51 (rnum_good rfl g0 hs (by decide)) ?_)))))))))))))))))
                  refine vQ tab rfl (vN tab rfl (vS tab rfl (w4 (w3 (w1 (w1 (w2 (vT rfl callable_57 (evt_parts6 (f1 := 0) (f2 := 0) (f3 := 0) (f4 := 0) (f5 := 0) (f6 := 0) (f7 := 0) rfl (by decide)) ?_))))))))
                  refine vQ tab rfl (vQ tab rfl (w4 (w3 (w5 (vw_rounds 5 (rd_step (w1 (w2 (vQ tab rfl (w4 (w3 (w1 (vc_true rfl (vw_skip (w3 (w1 (w5 (w1 (w2 (vQ tab rfl (vQ tab rfl (vQ tab rfl (w4 ?_)))))))))))))))))))))))
                  refine w3 (w2 (vQ tab rfl (vQ tab rfl (vT rfl callable_51 (rnum_good rfl g1 hs (by decide)) ?_))))
                  refine vQ tab rfl (vS tab rfl (w4 (q_norm (w3 (w2 (vQ tab rfl (vQ tab rfl (w4 (w3 (rd_step (w1 (w2 (vQ tab rfl (w4 (w3 (w1 (vc_true rfl (vw_skip (w3 (w1 (w5 (w1 (w2 ?_)))))))))))))))))))))))
                  refine vQ tab rfl (vQ tab rfl (vQ tab rfl (w4 (w3 (w2 (vQ tab rfl (vQ tab rfl (vT rfl callable_51 (rnum_good rfl g2 hs (by decide)) ?_))))))))
                  refine vQ tab rfl (vS tab rfl (w4 (q_norm (w3 (w2 (vQ tab rfl (vQ tab rfl (w4 (w3 (rd_step (w1 (w2 (vQ tab rfl (w4 (w3 (w1 (vc_true rfl (vw_skip (w3 (w1 (w5 (w1 (w2 ?_)))))))))))))))))))))))
                  refine vQ tab rfl (vQ tab rfl (vQ tab rfl (w4 (w3 (w2 (vQ tab rfl (vQ tab rfl (vT rfl callable_51 (rnum_good rfl g3 hs (by decide)) ?_))))))))
                  refine vQ tab rfl (vS tab rfl (w4 (q_norm (w3 (w2 (vQ tab rfl (vQ tab rfl (w4 (w3 (rd_step (w1 (w2 (vQ tab rfl (w4 (w3 (w1 (vc_true rfl (vw_skip (w3 (w1 (w5 (w1 (w2 ?_)))))))))))))))))))))))
                  refine vQ tab rfl (vQ tab rfl (vQ tab rfl (w4 (w3 (w2 (vQ tab rfl (vQ tab rfl (vT rfl callable_51 (rnum_good rfl g4 hs (by decide)) ?_))))))))
                  refine vQ tab rfl (vS tab rfl (w4 (q_norm (w3 (w2 (vQ tab rfl (vQ tab rfl (w4 (w3 (rd_step (w1 (w2 (vQ tab rfl (w4 (w3 (w1 (vc_false rfl (vw_exit (q_thenx (q_thenx (q_here (w3 (w1 ?_)))))))))))))))))))))))
                  refine w1 (w2 (vQ tab rfl (vR rfl callable_52 (done_good rfl) (vQ tab rfl (vQ tab rfl (vgd_op false rfl rfl rfl (by simp only [hm, decide_eq_true_eq, decide_eq_false_iff_not, Bool.not_eq_eq_eq_not, Bool.not_true, Bool.not_false, bne_iff_ne, bne_eq_false_iff_eq, beq_iff_eq, beq_eq_false_iff_ne, ne_eq, beq_self_eq_true, bne_self_eq_false, Bool.and_eq_true, Bool.and_eq_false_iff, Bool.or_eq_true, Bool.or_eq_false_iff, and_self, and_true, true_and, Bool.false_eq_true, Bool.true_eq_false, not_false_eq_true, not_true_eq_false]; first | done | omega) ?_))))))
                  refine vQ tab rfl (vF rfl callable_31 (evt_may ⟨6, 0, x1, 0, x2, x3, 0, x4⟩) (vQ tab rfl (vQ tab rfl (w4 (w3 (vcd_false rfl (by simp only [hm, decide_eq_true_eq, decide_eq_false_iff_not, Bool.not_eq_eq_eq_not, Bool.not_true, Bool.not_false, bne_iff_ne, bne_eq_false_iff_eq, beq_iff_eq, beq_eq_false_iff_ne, ne_eq, beq_self_eq_true, bne_self_eq_false, Bool.and_eq_true, Bool.and_eq_false_iff, Bool.or_eq_true, Bool.or_eq_false_iff, and_self, and_true, true_and, Bool.false_eq_true, Bool.true_eq_false, not_false_eq_true, not_true_eq_false]; first | done | omega) ?_))))))
                  refine vw_skip (w3 (w1 (w2 (vQ tab rfl (vS tab rfl (vQ tab rfl (w4 (w3 (vw_ret ?_)))))))))
                  exact ⟨.inr rfl, rfl⟩
              · have hq : q4 ≠ [] := fun hq => by rw [hq] at d4; have := congrArg List.length d4; rw [List.length_drop] at this; simp at this; omega
                have hgn : evtC.get (B s) = none := by
                  obtain ⟨z, zs, hzz⟩ := List.exists_cons_of_ne_nil hq
                  simp [Codec.get, Codec.parse, rdNs, evtC, evtCnt, evtText, hzz, h0, h1, h2, h3, h4]
                rw [evtGet_no hgn]
                refine w1 (w2 (vN tab rfl (vQ tab rfl (w4 (w3 (w1 (w2 (vQ tab rfl (vQ tab rfl (vN tab rfl (vQ tab rfl (w4 (w3 (w1 (w2 (vQ tab rfl (vT rfl callable_51 (rnum_good rfl g0 hs (by decide)) ?_)))))))))))))))))
                refine vQ tab rfl (vN tab rfl (vS tab rfl (w4 (w3 (w1 (w1 (w2 (vT rfl callable_57 (evt_parts6 (f1 := 0) (f2 := 0) (f3 := 0) (f4 := 0) (f5 := 0) (f6 := 0) (f7 := 0) rfl (by decide)) ?_))))))))
                refine vQ tab rfl (vQ tab rfl (w4 (w3 (w5 (vw_rounds 5 (rd_step (w1 (w2 (vQ tab rfl (w4 (w3 (w1 (vc_true rfl (vw_skip (w3 (w1 (w5 (w1 (w2 (vQ tab rfl (vQ tab rfl (vQ tab rfl (w4 ?_)))))))))))))))))))))))
                refine w3 (w2 (vQ tab rfl (vQ tab rfl (vT rfl callable_51 (rnum_good rfl g1 hs (by decide)) ?_))))
                refine vQ tab rfl (vS tab rfl (w4 (q_norm (w3 (w2 (vQ tab rfl (vQ tab rfl (w4 (w3 (rd_step (w1 (w2 (vQ tab rfl (w4 (w3 (w1 (vc_true rfl (vw_skip (w3 (w1 (w5 (w1 (w2 ?_)))))))))))))))))))))))
                refine vQ tab rfl (vQ tab rfl (vQ tab rfl (w4 (w3 (w2 (vQ tab rfl (vQ tab rfl (vT rfl callable_51 (rnum_good rfl g2 hs (by decide)) ?_))))))))
                refine vQ tab rfl (vS tab rfl (w4 (q_norm (w3 (w2 (vQ tab rfl (vQ tab rfl (w4 (w3 (rd_step (w1 (w2 (vQ tab rfl (w4 (w3 (w1 (vc_true rfl (vw_skip (w3 (w1 (w5 (w1 (w2 ?_)))))))))))))))))))))))
                refine vQ tab rfl (vQ tab rfl (vQ tab rfl (w4 (w3 (w2 (vQ tab rfl (vQ tab rfl (vT rfl callable_51 (rnum_good rfl g3 hs (by decide)) ?_))))))))
                refine vQ tab rfl (vS tab rfl (w4 (q_norm (w3 (w2 (vQ tab rfl (vQ tab rfl (w4 (w3 (rd_step (w1 (w2 (vQ tab rfl (w4 (w3 (w1 (vc_true rfl (vw_skip (w3 (w1 (w5 (w1 (w2 ?_)))))))))))))))))))))))
                refine vQ tab rfl (vQ tab rfl (vQ tab rfl (w4 (w3 (w2 (vQ tab rfl (vQ tab rfl (vT rfl callable_51 (rnum_good rfl g4 hs (by decide)) ?_))))))))
                refine vQ tab rfl (vS tab rfl (w4 (q_norm (w3 (w2 (vQ tab rfl (vQ tab rfl (w4 (w3 (rd_step (w1 (w2 (vQ tab rfl (w4 (w3 (w1 (vc_false rfl (vw_exit (q_thenx (q_thenx (q_here (w3 (w1 ?_)))))))))))))))))))))))
                refine w1 (w2 (vQ tab rfl (vR rfl callable_52 (done_good rfl) (vQ tab rfl (vQ tab rfl (vgd_op true rfl rfl rfl (by simp only [decide_eq_true_eq, decide_eq_false_iff_not, Bool.not_eq_eq_eq_not, Bool.not_true, Bool.not_false, bne_iff_ne, bne_eq_false_iff_eq, beq_iff_eq, beq_eq_false_iff_ne, ne_eq, beq_self_eq_true, bne_self_eq_false, Bool.and_eq_true, Bool.and_eq_false_iff, Bool.or_eq_true, Bool.or_eq_false_iff, and_self, and_true, true_and, Bool.false_eq_true, Bool.true_eq_false, not_false_eq_true, not_true_eq_false]; first | done | omega) ?_))))))
                refine vK rfl (vK rfl (vK rfl (vQ tab rfl (w4 (w3 (vc_true rfl (w1 (w2 (vQ tab rfl (vS tab rfl (vQ tab rfl (w4 (w3 (vw_ret (q_thenr ?_)))))))))))))))
                exact ⟨.inr rfl, rfl⟩
    ·
      cases h1 : rdN q0 with
      | none =>
        obtain ⟨e, p, hg, he⟩ := getN_none (s := B s) (a := t0) (by omega) (by omega) (by rw [d0]; exact h1)
        rw [evtGet_no (by simp [Codec.get, Codec.parse, rdNs, evtC, evtCnt, evtText, h0, h1])]
        refine w1 (w2 (vN tab rfl (vQ tab rfl (w4 (w3 (w1 (w2 (vQ tab rfl (vQ tab rfl (vN tab rfl (vQ tab rfl (w4 (w3 (w1 (w2 (vQ tab rfl (vT rfl callable_51 (rnum_good rfl g0 hs (by decide)) ?_)))))))))))))))))
        refine vQ tab rfl (vN tab rfl (vS tab rfl (w4 (w3 (w1 (w1 (w2 (vT rfl callable_57 (evt_parts7 (f1 := 0) (f2 := 0) (f3 := 0) (f4 := 0) (f5 := 0) (f6 := 0) (f7 := 0) rfl (by decide)) ?_))))))))
        refine vQ tab rfl (vQ tab rfl (w4 (w3 (w5 (vw_rounds 5 (rd_step (w1 (w2 (vQ tab rfl (w4 (w3 (w1 (vc_true rfl (vw_skip (w3 (w1 (w5 (w1 (w2 (vQ tab rfl (vQ tab rfl (vQ tab rfl (w4 ?_)))))))))))))))))))))))
        refine w3 (w2 (vQ tab rfl (vQ tab rfl (vT rfl callable_51 (rnum_fail rfl hg he hs (by decide)) ?_))))
        refine vQ tab rfl (vS tab rfl (w4 (q_norm (w3 (w2 (vQ tab rfl (vQ tab rfl (w4 (w3 (rd_step (w1 (w2 (vQ tab rfl (w4 (w3 (w1 (vc_false rfl (vw_exit (q_thenx (q_thenx (q_here (w3 (w1 ?_)))))))))))))))))))))))
        refine w1 (w2 (vQ tab rfl (vR rfl callable_52 (done_bad rfl rfl (by decide)) ?_)))
        refine vQ tab rfl (vQ tab rfl (vK rfl (vK rfl (vK rfl (vQ tab rfl (w4 (w3 (vc_true rfl (w1 (w2 (vQ tab rfl (vS tab rfl (vQ tab rfl (w4 (w3 (vw_ret (q_thenr ?_)))))))))))))))))
        exact ⟨.inr rfl, rfl⟩
      | some r1 =>
        obtain ⟨x1, q1⟩ := r1
        obtain ⟨t1, g1, lt1, le1, d1⟩ := getN_some (s := B s) (a := t0) (by omega) (by omega) (by rw [d0]; exact h1)
        by_cases hz : t1 = (s.size : Int)
        · have hq : q1 = [] := by rw [← d1, List.drop_of_length_le]; omega
          have hmk : evtMake 7 [x1] (⟨#[]⟩) = ⟨7, x1, 0, 0, 0, 0, 0, 0⟩ := by rfl
          cases hm : evtMay ⟨7, x1, 0, 0, 0, 0, 0, 0⟩ with
          | false =>
            have hgn : evtC.get (B s) = none := by
              have hp : evtC.parse (B s) = some (⟨7, x1, 0, 0, 0, 0, 0, 0⟩, []) := by simp [Codec.parse, rdNs, evtC, evtCnt, evtText, mkB, h0, h1, hq] <;> exact hmk
              unfold Codec.get; rw [hp]; show (if evtMay _ = true then _ else _) = _; rw [hm]; rfl
            rw [evtGet_no hgn]
            refine w1 (w2 (vN tab rfl (vQ tab rfl (w4 (w3 (w1 (w2 (vQ tab rfl (vQ tab rfl (vN tab rfl (vQ tab rfl (w4 (w3 (w1 (w2 (vQ tab rfl (vT rfl callable_51 (rnum_good rfl g0 hs (by decide)) ?_)))))))))))))))))
            refine vQ tab rfl (vN tab rfl (vS tab rfl (w4 (w3 (w1 (w1 (w2 (vT rfl callable_57 (evt_parts7 (f1 := 0) (f2 := 0) (f3 := 0) (f4 := 0) (f5 := 0) (f6 := 0) (f7 := 0) rfl (by decide)) ?_))))))))
            refine vQ tab rfl (vQ tab rfl (w4 (w3 (w5 (vw_rounds 5 (rd_step (w1 (w2 (vQ tab rfl (w4 (w3 (w1 (vc_true rfl (vw_skip (w3 (w1 (w5 (w1 (w2 (vQ tab rfl (vQ tab rfl (vQ tab rfl (w4 ?_)))))))))))))))))))))))
            refine w3 (w2 (vQ tab rfl (vQ tab rfl (vT rfl callable_51 (rnum_good rfl g1 hs (by decide)) ?_))))
            refine vQ tab rfl (vS tab rfl (w4 (q_norm (w3 (w2 (vQ tab rfl (vQ tab rfl (w4 (w3 (rd_step (w1 (w2 (vQ tab rfl (w4 (w3 (w1 (vc_false rfl (vw_exit (q_thenx (q_thenx (q_here (w3 (w1 ?_)))))))))))))))))))))))
            refine w1 (w2 (vQ tab rfl (vR rfl callable_52 (done_good rfl) (vQ tab rfl (vQ tab rfl (vgd_op false rfl rfl rfl (by simp only [hm, decide_eq_true_eq, decide_eq_false_iff_not, Bool.not_eq_eq_eq_not, Bool.not_true, Bool.not_false, bne_iff_ne, bne_eq_false_iff_eq, beq_iff_eq, beq_eq_false_iff_ne, ne_eq, beq_self_eq_true, bne_self_eq_false, Bool.and_eq_true, Bool.and_eq_false_iff, Bool.or_eq_true, Bool.or_eq_false_iff, and_self, and_true, true_and, Bool.false_eq_true, Bool.true_eq_false, not_false_eq_true, not_true_eq_false]; first | done | omega) ?_))))))
            refine vQ tab rfl (vF rfl callable_31 (evt_may ⟨7, x1, 0, 0, 0, 0, 0, 0⟩) (vQ tab rfl (vQ tab rfl (w4 (w3 (vcd_true rfl (by simp only [hm, decide_eq_true_eq, decide_eq_false_iff_not, Bool.not_eq_eq_eq_not, Bool.not_true, Bool.not_false, bne_iff_ne, bne_eq_false_iff_eq, beq_iff_eq, beq_eq_false_iff_ne, ne_eq, beq_self_eq_true, bne_self_eq_false, Bool.and_eq_true, Bool.and_eq_false_iff, Bool.or_eq_true, Bool.or_eq_false_iff, and_self, and_true, true_and, Bool.false_eq_true, Bool.true_eq_false, not_false_eq_true, not_true_eq_false]; first | done | omega) ?_))))))
            refine w1 (w2 (vQ tab rfl (vS tab rfl (vQ tab rfl (w4 (w3 (vw_ret (q_thenr ?_))))))))
            exact ⟨.inr rfl, rfl⟩
          | true =>
            have hgn : evtC.get (B s) = some ⟨7, x1, 0, 0, 0, 0, 0, 0⟩ := by
              have hp : evtC.parse (B s) = some (⟨7, x1, 0, 0, 0, 0, 0, 0⟩, []) := by simp [Codec.parse, rdNs, evtC, evtCnt, evtText, mkB, h0, h1, hq] <;> exact hmk
              unfold Codec.get; rw [hp]; show (if evtMay _ = true then _ else _) = _; rw [hm]; rfl
            rw [evtGet_ok hgn]
            refine w1 (w2 (vN tab rfl (vQ tab rfl (w4 (w3 (w1 (w2 (vQ tab rfl (vQ tab rfl (vN tab rfl (vQ tab rfl (w4 (w3 (w1 (w2 (vQ tab rfl (vT rfl callable_51 (rnum_good rfl g0 hs (by decide)) ?_)))))))))))))))))
            refine vQ tab rfl (vN tab rfl (vS tab rfl (w4 (w3 (w1 (w1 (w2 (vT rfl callable_57 (evt_parts7 (f1 := 0) (f2 := 0) (f3 := 0) (f4 := 0) (f5 := 0) (f6 := 0) (f7 := 0) rfl (by decide)) ?_))))))))
            refine vQ tab rfl (vQ tab rfl (w4 (w3 (w5 (vw_rounds 5 (rd_step (w1 (w2 (vQ tab rfl (w4 (w3 (w1 (vc_true rfl (vw_skip (w3 (w1 (w5 (w1 (w2 (vQ tab rfl (vQ tab rfl (vQ tab rfl (w4 ?_)))))))))))))))))))))))
            refine w3 (w2 (vQ tab rfl (vQ tab rfl (vT rfl callable_51 (rnum_good rfl g1 hs (by decide)) ?_))))
            refine vQ tab rfl (vS tab rfl (w4 (q_norm (w3 (w2 (vQ tab rfl (vQ tab rfl (w4 (w3 (rd_step (w1 (w2 (vQ tab rfl (w4 (w3 (w1 (vc_false rfl (vw_exit (q_thenx (q_thenx (q_here (w3 (w1 ?_)))))))))))))))))))))))
            refine w1 (w2 (vQ tab rfl (vR rfl callable_52 (done_good rfl) (vQ tab rfl (vQ tab rfl (vgd_op false rfl rfl rfl (by simp only [hm, decide_eq_true_eq, decide_eq_false_iff_not, Bool.not_eq_eq_eq_not, Bool.not_true, Bool.not_false, bne_iff_ne, bne_eq_false_iff_eq, beq_iff_eq, beq_eq_false_iff_ne, ne_eq, beq_self_eq_true, bne_self_eq_false, Bool.and_eq_true, Bool.and_eq_false_iff, Bool.or_eq_true, Bool.or_eq_false_iff, and_self, and_true, true_and, Bool.false_eq_true, Bool.true_eq_false, not_false_eq_true, not_true_eq_false]; first | done | omega) ?_))))))
            refine vQ tab rfl (vF rfl callable_31 (evt_may ⟨7, x1, 0, 0, 0, 0, 0, 0⟩) (vQ tab rfl (vQ tab rfl (w4 (w3 (vcd_false rfl (by simp only [hm, decide_eq_true_eq, decide_eq_false_iff_not, Bool.not_eq_eq_eq_not, Bool.not_true, Bool.not_false, bne_iff_ne, bne_eq_false_iff_eq, beq_iff_eq, beq_eq_false_iff_ne, ne_eq, beq_self_eq_true, bne_self_eq_false, Bool.and_eq_true, Bool.and_eq_false_iff, Bool.or_eq_true, Bool.or_eq_false_iff, and_self, and_true, true_and, Bool.false_eq_true, Bool.true_eq_false, not_false_eq_true, not_true_eq_false]; first | done | omega) ?_))))))
            refine vw_skip (w3 (w1 (w2 (vQ tab rfl (vS tab rfl (vQ tab rfl (w4 (w3 (vw_ret ?_)))))))))
            exact ⟨.inr rfl, rfl⟩
        · have hq : q1 ≠ [] := fun hq => by rw [hq] at d1; have := congrArg List.length d1; rw [List.length_drop] at this; simp at this; omega
          have hgn : evtC.get (B s) = none := by
            obtain ⟨z, zs, hzz⟩ := List.exists_cons_of_ne_nil hq
            simp [Codec.get, Codec.parse, rdNs, evtC, evtCnt, evtText, hzz, h0, h1]
          rw [evtGet_no hgn]
          refine w1 (w2 (vN tab rfl (vQ tab rfl (w4 (w3 (w1 (w2 (vQ tab rfl (vQ tab rfl (vN tab rfl (vQ tab rfl (w4 (w3 (w1 (w2 (vQ tab rfl (vT rfl callable_51 (rnum_good rfl g0 hs (by decide)) ?_)))))))))))))))))
          refine vQ tab rfl (vN tab rfl (vS tab rfl (w4 (w3 (w1 (w1 (w2 (vT rfl callable_57 (evt_parts7 (f1 := 0) (f2 := 0) (f3 := 0) (f4 := 0) (f5 := 0) (f6 := 0) (f7 := 0) rfl (by decide)) ?_))))))))
          refine vQ tab rfl (vQ tab rfl (w4 (w3 (w5 (vw_rounds 5 (rd_step (w1 (w2 (vQ tab rfl (w4 (w3 (w1 (vc_true rfl (vw_skip (w3 (w1 (w5 (w1 (w2 (vQ tab rfl (vQ tab rfl (vQ tab rfl (w4 ?_)))))))))))))))))))))))
          refine w3 (w2 (vQ tab rfl (vQ tab rfl (vT rfl callable_51 (rnum_good rfl g1 hs (by decide)) ?_))))
          refine vQ tab rfl (vS tab rfl (w4 (q_norm (w3 (w2 (vQ tab rfl (vQ tab rfl (w4 (w3 (rd_step (w1 (w2 (vQ tab rfl (w4 (w3 (w1 (vc_false rfl (vw_exit (q_thenx (q_thenx (q_here (w3 (w1 ?_)))))))))))))))))))))))
          refine w1 (w2 (vQ tab rfl (vR rfl callable_52 (done_good rfl) (vQ tab rfl (vQ tab rfl (vgd_op true rfl rfl rfl (by simp only [decide_eq_true_eq, decide_eq_false_iff_not, Bool.not_eq_eq_eq_not, Bool.not_true, Bool.not_false, bne_iff_ne, bne_eq_false_iff_eq, beq_iff_eq, beq_eq_false_iff_ne, ne_eq, beq_self_eq_true, bne_self_eq_false, Bool.and_eq_true, Bool.and_eq_false_iff, Bool.or_eq_true, Bool.or_eq_false_iff, and_self, and_true, true_and, Bool.false_eq_true, Bool.true_eq_false, not_false_eq_true, not_true_eq_false]; first | done | omega) ?_))))))
          refine vK rfl (vK rfl (vK rfl (vQ tab rfl (w4 (w3 (vc_true rfl (w1 (w2 (vQ tab rfl (vS tab rfl (vQ tab rfl (w4 (w3 (vw_ret (q_thenr ?_)))))))))))))))
          exact ⟨.inr rfl, rfl⟩
    ·
      by_cases hz : t0 = (s.size : Int)
      · have hq : q0 = [] := by rw [← d0, List.drop_of_length_le]; omega
        have hmk : evtMake 8 [] (⟨#[]⟩) = ⟨8, 0, 0, 0, 0, 0, 0, 0⟩ := by rfl
        cases hm : evtMay ⟨8, 0, 0, 0, 0, 0, 0, 0⟩ with
        | false =>
          exact absurd hm (by decide)
        | true =>
          have hgn : evtC.get (B s) = some ⟨8, 0, 0, 0, 0, 0, 0, 0⟩ := by
            have hp : evtC.parse (B s) = some (⟨8, 0, 0, 0, 0, 0, 0, 0⟩, []) := by simp [Codec.parse, rdNs, evtC, evtCnt, evtText, mkB, h0, hq] <;> exact hmk
            unfold Codec.get; rw [hp]; first | rfl | exact if_pos hm | decide
          rw [evtGet_ok hgn]
          refine w1 (w2 (vN tab rfl (vQ tab rfl (w4 (w3 (w1 (w2 (vQ tab rfl (vQ tab rfl (vN tab rfl (vQ tab rfl (w4 (w3 (w1 (w2 (vQ tab rfl (vT rfl callable_51 (rnum_good rfl g0 hs (by decide)) ?_)))))))))))))))))
          refine vQ tab rfl (vN tab rfl (vS tab rfl (w4 (w3 (w1 (w1 (w2 (vR rfl callable_57 (evt_partsN (k := 8) (f1 := 0) (f2 := 0) (f3 := 0) (f4 := 0) (f5 := 0) (f6 := 0) (f7 := 0) rfl (by omega)) ?_))))))))
          refine vQ tab rfl (vQ tab rfl (w4 (w3 (w5 (vw_rounds 5 (rd_step (w1 (w2 (vQ tab rfl (w4 (w3 (w1 (vc_false rfl (vw_exit (q_thenx (q_thenx (q_here (w3 (w1 (w1 (w2 (vQ tab rfl (vR rfl callable_52 (done_good rfl) ?_)))))))))))))))))))))))
          refine vQ tab rfl (vQ tab rfl (vgd_op false rfl rfl rfl (by simp only [hm, decide_eq_true_eq, decide_eq_false_iff_not, Bool.not_eq_eq_eq_not, Bool.not_true, Bool.not_false, bne_iff_ne, bne_eq_false_iff_eq, beq_iff_eq, beq_eq_false_iff_ne, ne_eq, beq_self_eq_true, bne_self_eq_false, Bool.and_eq_true, Bool.and_eq_false_iff, Bool.or_eq_true, Bool.or_eq_false_iff, and_self, and_true, true_and, Bool.false_eq_true, Bool.true_eq_false, not_false_eq_true, not_true_eq_false]; first | done | omega) ?_))
          refine vQ tab rfl (vF rfl callable_31 (evt_may ⟨8, 0, 0, 0, 0, 0, 0, 0⟩) (vQ tab rfl (vQ tab rfl (w4 (w3 (vc_false rfl (vw_skip (w3 (w1 (w2 (vQ tab rfl (vS tab rfl (vQ tab rfl (w4 (w3 (vw_ret ?_))))))))))))))))
          exact ⟨.inr rfl, rfl⟩
      · have hq : q0 ≠ [] := fun hq => by rw [hq] at d0; have := congrArg List.length d0; rw [List.length_drop] at this; simp at this; omega
        have hgn : evtC.get (B s) = none := by
          obtain ⟨z, zs, hzz⟩ := List.exists_cons_of_ne_nil hq
          simp [Codec.get, Codec.parse, rdNs, evtC, evtCnt, evtText, hzz, h0]
        rw [evtGet_no hgn]
        refine w1 (w2 (vN tab rfl (vQ tab rfl (w4 (w3 (w1 (w2 (vQ tab rfl (vQ tab rfl (vN tab rfl (vQ tab rfl (w4 (w3 (w1 (w2 (vQ tab rfl (vT rfl callable_51 (rnum_good rfl g0 hs (by decide)) ?_)))))))))))))))))
        refine vQ tab rfl (vN tab rfl (vS tab rfl (w4 (w3 (w1 (w1 (w2 (vR rfl callable_57 (evt_partsN (k := 8) (f1 := 0) (f2 := 0) (f3 := 0) (f4 := 0) (f5 := 0) (f6 := 0) (f7 := 0) rfl (by omega)) ?_))))))))
        refine vQ tab rfl (vQ tab rfl (w4 (w3 (w5 (vw_rounds 5 (rd_step (w1 (w2 (vQ tab rfl (w4 (w3 (w1 (vc_false rfl (vw_exit (q_thenx (q_thenx (q_here (w3 (w1 (w1 (w2 (vQ tab rfl (vR rfl callable_52 (done_good rfl) ?_)))))))))))))))))))))))
        refine vQ tab rfl (vQ tab rfl (vgd_op true rfl rfl rfl (by simp only [decide_eq_true_eq, decide_eq_false_iff_not, Bool.not_eq_eq_eq_not, Bool.not_true, Bool.not_false, bne_iff_ne, bne_eq_false_iff_eq, beq_iff_eq, beq_eq_false_iff_ne, ne_eq, beq_self_eq_true, bne_self_eq_false, Bool.and_eq_true, Bool.and_eq_false_iff, Bool.or_eq_true, Bool.or_eq_false_iff, and_self, and_true, true_and, Bool.false_eq_true, Bool.true_eq_false, not_false_eq_true, not_true_eq_false]; first | done | omega) ?_))
        refine vK rfl (vK rfl (vK rfl (vQ tab rfl (w4 (w3 (vc_true rfl (w1 (w2 (vQ tab rfl (vS tab rfl (vQ tab rfl (w4 (w3 (vw_ret (q_thenr ?_)))))))))))))))
        exact ⟨.inr rfl, rfl⟩
    ·
      cases h1 : rdN q0 with
      | none =>
        obtain ⟨e, p, hg, he⟩ := getN_none (s := B s) (a := t0) (by omega) (by omega) (by rw [d0]; exact h1)
        rw [evtGet_no (by simp [Codec.get, Codec.parse, rdNs, evtC, evtCnt, evtText, h0, h1])]
        refine w1 (w2 (vN tab rfl (vQ tab rfl (w4 (w3 (w1 (w2 (vQ tab rfl (vQ tab rfl (vN tab rfl (vQ tab rfl (w4 (w3 (w1 (w2 (vQ tab rfl (vT rfl callable_51 (rnum_good rfl g0 hs (by decide)) ?_)))))))))))))))))
        refine vQ tab rfl (vN tab rfl (vS tab rfl (w4 (w3 (w1 (w1 (w2 (vT rfl callable_57 (evt_parts9 (f1 := 0) (f2 := 0) (f3 := 0) (f4 := 0) (f5 := 0) (f6 := 0) (f7 := 0) rfl (by decide)) ?_))))))))
        refine vQ tab rfl (vQ tab rfl (w4 (w3 (w5 (vw_rounds 5 (rd_step (w1 (w2 (vQ tab rfl (w4 (w3 (w1 (vc_true rfl (vw_skip (w3 (w1 (w5 (w1 (w2 (vQ tab rfl (vQ tab rfl (vQ tab rfl (w4 ?_)))))))))))))))))))))))
        refine w3 (w2 (vQ tab rfl (vQ tab rfl (vT rfl callable_51 (rnum_fail rfl hg he hs (by decide)) ?_))))
        refine vQ tab rfl (vS tab rfl (w4 (q_norm (w3 (w2 (vQ tab rfl (vQ tab rfl (w4 (w3 (rd_step (w1 (w2 (vQ tab rfl (w4 (w3 (w1 (vc_false rfl (vw_exit (q_thenx (q_thenx (q_here (w3 (w1 ?_)))))))))))))))))))))))
        refine w1 (w2 (vQ tab rfl (vR rfl callable_52 (done_bad rfl rfl (by decide)) ?_)))
        refine vQ tab rfl (vQ tab rfl (vK rfl (vK rfl (vK rfl (vQ tab rfl (w4 (w3 (vc_true rfl (w1 (w2 (vQ tab rfl (vS tab rfl (vQ tab rfl (w4 (w3 (vw_ret (q_thenr ?_)))))))))))))))))
        exact ⟨.inr rfl, rfl⟩
      | some r1 =>
        obtain ⟨x1, q1⟩ := r1
        obtain ⟨t1, g1, lt1, le1, d1⟩ := getN_some (s := B s) (a := t0) (by omega) (by omega) (by rw [d0]; exact h1)
        by_cases hz : t1 = (s.size : Int)
        · have hq : q1 = [] := by rw [← d1, List.drop_of_length_le]; omega
          have hmk : evtMake 9 [x1] (⟨#[]⟩) = ⟨9, 0, x1, 0, 0, 0, 0, 0⟩ := by rfl
          cases hm : evtMay ⟨9, 0, x1, 0, 0, 0, 0, 0⟩ with
          | false =>
            have hgn : evtC.get (B s) = none := by
              have hp : evtC.parse (B s) = some (⟨9, 0, x1, 0, 0, 0, 0, 0⟩, []) := by simp [Codec.parse, rdNs, evtC, evtCnt, evtText, mkB, h0, h1, hq] <;> exact hmk
              unfold Codec.get; rw [hp]; show (if evtMay _ = true then _ else _) = _; rw [hm]; rfl
            rw [evtGet_no hgn]
            refine w1 (w2 (vN tab rfl (vQ tab rfl (w4 (w3 (w1 (w2 (vQ tab rfl (vQ tab rfl (vN tab rfl (vQ tab rfl (w4 (w3 (w1 (w2 (vQ tab rfl (vT rfl callable_51 (rnum_good rfl g0 hs (by decide)) ?_)))))))))))))))))
            refine vQ tab rfl (vN tab rfl (vS tab rfl (w4 (w3 (w1 (w1 (w2 (vT rfl callable_57 (evt_parts9 (f1 := 0) (f2 := 0) (f3 := 0) (f4 := 0) (f5 := 0) (f6 := 0) (f7 := 0) rfl (by decide)) ?_))))))))
            refine vQ tab rfl (vQ tab rfl (w4 (w3 (w5 (vw_rounds 5 (rd_step (w1 (w2 (vQ tab rfl (w4 (w3 (w1 (vc_true rfl (vw_skip (w3 (w1 (w5 (w1 (w2 (vQ tab rfl (vQ tab rfl (vQ tab rfl (w4 ?_)))))))))))))))))))))))
            refine w3 (w2 (vQ tab rfl (vQ tab rfl (vT rfl callable_51 (rnum_good rfl g1 hs (by decide)) ?_))))
            refine vQ tab rfl (vS tab rfl (w4 (q_norm (w3 (w2 (vQ tab rfl (vQ tab rfl (w4 (w3 (rd_step (w1 (w2 (vQ tab rfl (w4 (w3 (w1 (vc_false rfl (vw_exit (q_thenx (q_thenx (q_here (w3 (w1 ?_)))))))))))))))))))))))
            refine w1 (w2 (vQ tab rfl (vR rfl callable_52 (done_good rfl) (vQ tab rfl (vQ tab rfl (vgd_op false rfl rfl rfl (by simp only [hm, decide_eq_true_eq, decide_eq_false_iff_not, Bool.not_eq_eq_eq_not, Bool.not_true, Bool.not_false, bne_iff_ne, bne_eq_false_iff_eq, beq_iff_eq, beq_eq_false_iff_ne, ne_eq, beq_self_eq_true, bne_self_eq_false, Bool.and_eq_true, Bool.and_eq_false_iff, Bool.or_eq_true, Bool.or_eq_false_iff, and_self, and_true, true_and, Bool.false_eq_true, Bool.true_eq_false, not_false_eq_true, not_true_eq_false]; first | done | omega) ?_))))))
            refine vQ tab rfl (vF rfl callable_31 (evt_may ⟨9, 0, x1, 0, 0, 0, 0, 0⟩) (vQ tab rfl (vQ tab rfl (w4 (w3 (vcd_true rfl (by simp only [hm, decide_eq_true_eq, decide_eq_false_iff_not, Bool.not_eq_eq_eq_not, Bool.not_true, Bool.not_false, bne_iff_ne, bne_eq_false_iff_eq, beq_iff_eq, beq_eq_false_iff_ne, ne_eq, beq_self_eq_true, bne_self_eq_false, Bool.and_eq_true, Bool.and_eq_false_iff, Bool.or_eq_true, Bool.or_eq_false_iff, and_self, and_true, true_and, Bool.false_eq_true, Bool.true_eq_false, not_false_eq_true, not_true_eq_false]; first | done | omega) ?_))))))
            refine w1 (w2 (vQ tab rfl (vS tab rfl (vQ tab rfl (w4 (w3 (vw_ret (q_thenr ?_))))))))
            exact ⟨.inr rfl, rfl⟩
          | true =>
            have hgn : evtC.get (B s) = some ⟨9, 0, x1, 0, 0, 0, 0, 0⟩ := by
              have hp : evtC.parse (B s) = some (⟨9, 0, x1, 0, 0, 0, 0, 0⟩, []) := by simp [Codec.parse, rdNs, evtC, evtCnt, evtText, mkB, h0, h1, hq] <;> exact hmk
              unfold Codec.get; rw [hp]; show (if evtMay _ = true then _ else _) = _; rw [hm]; rfl
            rw [evtGet_ok hgn]
            refine w1 (w2 (vN tab rfl (vQ tab rfl (w4 (w3 (w1 (w2 (vQ tab rfl (vQ tab rfl (vN tab rfl (vQ tab rfl (w4 (w3 (w1 (w2 (vQ tab rfl (vT rfl callable_51 (rnum_good rfl g0 hs (by decide)) ?_)))))))))))))))))
            refine vQ tab rfl (vN tab rfl (vS tab rfl (w4 (w3 (w1 (w1 (w2 (vT rfl callable_57 (evt_parts9 (f1 := 0) (f2 := 0) (f3 := 0) (f4 := 0) (f5 := 0) (f6 := 0) (f7 := 0) rfl (by decide)) ?_))))))))
            refine vQ tab rfl (vQ tab rfl (w4 (w3 (w5 (vw_rounds 5 (rd_step (w1 (w2 (vQ tab rfl (w4 (w3 (w1 (vc_true rfl (vw_skip (w3 (w1 (w5 (w1 (w2 (vQ tab rfl (vQ tab rfl (vQ tab rfl (w4 ?_)))))))))))))))))))))))
            refine w3 (w2 (vQ tab rfl (vQ tab rfl (vT rfl callable_51 (rnum_good rfl g1 hs (by decide)) ?_))))
            refine vQ tab rfl (vS tab rfl (w4 (q_norm (w3 (w2 (vQ tab rfl (vQ tab rfl (w4 (w3 (rd_step (w1 (w2 (vQ tab rfl (w4 (w3 (w1 (vc_false rfl (vw_exit (q_thenx (q_thenx (q_here (w3 (w1 ?_)))))))))))))))))))))))
            refine w1 (w2 (vQ tab rfl (vR rfl callable_52 (done_good rfl) (vQ tab rfl (vQ tab rfl (vgd_op false rfl rfl rfl (by simp only [hm, decide_eq_true_eq, decide_eq_false_iff_not, Bool.not_eq_eq_eq_not, Bool.not_true, Bool.not_false, bne_iff_ne, bne_eq_false_iff_eq, beq_iff_eq, beq_eq_false_iff_ne, ne_eq, beq_self_eq_true, bne_self_eq_false, Bool.and_eq_true, Bool.and_eq_false_iff, Bool.or_eq_true, Bool.or_eq_false_iff, and_self, and_true, true_and, Bool.false_eq_true, Bool.true_eq_false, not_false_eq_true, not_true_eq_false]; first | done | omega) ?_))))))
            refine vQ tab rfl (vF rfl callable_31 (evt_may ⟨9, 0, x1, 0, 0, 0, 0, 0⟩) (vQ tab rfl (vQ tab rfl (w4 (w3 (vcd_false rfl (by simp only [hm, decide_eq_true_eq, decide_eq_false_iff_not, Bool.not_eq_eq_eq_not, Bool.not_true, Bool.not_false, bne_iff_ne, bne_eq_false_iff_eq, beq_iff_eq, beq_eq_false_iff_ne, ne_eq, beq_self_eq_true, bne_self_eq_false, Bool.and_eq_true, Bool.and_eq_false_iff, Bool.or_eq_true, Bool.or_eq_false_iff, and_self, and_true, true_and, Bool.false_eq_true, Bool.true_eq_false, not_false_eq_true, not_true_eq_false]; first | done | omega) ?_))))))
            refine vw_skip (w3 (w1 (w2 (vQ tab rfl (vS tab rfl (vQ tab rfl (w4 (w3 (vw_ret ?_)))))))))
            exact ⟨.inr rfl, rfl⟩
        · have hq : q1 ≠ [] := fun hq => by rw [hq] at d1; have := congrArg List.length d1; rw [List.length_drop] at this; simp at this; omega
          have hgn : evtC.get (B s) = none := by
            obtain ⟨z, zs, hzz⟩ := List.exists_cons_of_ne_nil hq
            simp [Codec.get, Codec.parse, rdNs, evtC, evtCnt, evtText, hzz, h0, h1]
          rw [evtGet_no hgn]
          refine w1 (w2 (vN tab rfl (vQ tab rfl (w4 (w3 (w1 (w2 (vQ tab rfl (vQ tab rfl (vN tab rfl (vQ tab rfl (w4 (w3 (w1 (w2 (vQ tab rfl (vT rfl callable_51 (rnum_good rfl g0 hs (by decide)) ?_)))))))))))))))))
          refine vQ tab rfl (vN tab rfl (vS tab rfl (w4 (w3 (w1 (w1 (w2 (vT rfl callable_57 (evt_parts9 (f1 := 0) (f2 := 0) (f3 := 0) (f4 := 0) (f5 := 0) (f6 := 0) (f7 := 0) rfl (by decide)) ?_))))))))
          refine vQ tab rfl (vQ tab rfl (w4 (w3 (w5 (vw_rounds 5 (rd_step (w1 (w2 (vQ tab rfl (w4 (w3 (w1 (vc_true rfl (vw_skip (w3 (w1 (w5 (w1 (w2 (vQ tab rfl (vQ tab rfl (vQ tab rfl (w4 ?_)))))))))))))))))))))))
          refine w3 (w2 (vQ tab rfl (vQ tab rfl (vT rfl callable_51 (rnum_good rfl g1 hs (by decide)) ?_))))
          refine vQ tab rfl (vS tab rfl (w4 (q_norm (w3 (w2 (vQ tab rfl (vQ tab rfl (w4 (w3 (rd_step (w1 (w2 (vQ tab rfl (w4 (w3 (w1 (vc_false rfl (vw_exit (q_thenx (q_thenx (q_here (w3 (w1 ?_)))))))))))))))))))))))
          refine w1 (w2 (vQ tab rfl (vR rfl callable_52 (done_good rfl) (vQ tab rfl (vQ tab rfl (vgd_op true rfl rfl rfl (by simp only [decide_eq_true_eq, decide_eq_false_iff_not, Bool.not_eq_eq_eq_not, Bool.not_true, Bool.not_false, bne_iff_ne, bne_eq_false_iff_eq, beq_iff_eq, beq_eq_false_iff_ne, ne_eq, beq_self_eq_true, bne_self_eq_false, Bool.and_eq_true, Bool.and_eq_false_iff, Bool.or_eq_true, Bool.or_eq_false_iff, and_self, and_true, true_and, Bool.false_eq_true, Bool.true_eq_false, not_false_eq_true, not_true_eq_false]; first | done | omega) ?_))))))
          refine vK rfl (vK rfl (vK rfl (vQ tab rfl (w4 (w3 (vc_true rfl (w1 (w2 (vQ tab rfl (vS tab rfl (vQ tab rfl (w4 (w3 (vw_ret (q_thenr ?_)))))))))))))))
          exact ⟨.inr rfl, rfl⟩
    ·
      by_cases hz : t0 = (s.size : Int)
      · have hq : q0 = [] := by rw [← d0, List.drop_of_length_le]; omega
        have hmk : evtMake k [] (⟨#[]⟩) = ⟨k, 0, 0, 0, 0, 0, 0, 0⟩ := by unfold evtMake; simp [hk]
        cases hm : evtMay ⟨k, 0, 0, 0, 0, 0, 0, 0⟩ with
        | false =>
          have hgn : evtC.get (B s) = none := by
            have hp : evtC.parse (B s) = some (⟨k, 0, 0, 0, 0, 0, 0, 0⟩, []) := by simp [Codec.parse, rdNs, evtC, evtCnt, evtText, mkB, h0, hq, hk] <;> exact hmk
            unfold Codec.get; rw [hp]; show (if evtMay _ = true then _ else _) = _; rw [hm]; rfl
          rw [evtGet_no hgn]
          refine w1 (w2 (vN tab rfl (vQ tab rfl (w4 (w3 (w1 (w2 (vQ tab rfl (vQ tab rfl (vN tab rfl (vQ tab rfl (w4 (w3 (w1 (w2 (vQ tab rfl (vT rfl callable_51 (rnum_good rfl g0 hs (by decide)) ?_)))))))))))))))))
          refine vQ tab rfl (vN tab rfl (vS tab rfl (w4 (w3 (w1 (w1 (w2 (vR rfl callable_57 (evt_partsN (k := k) (f1 := 0) (f2 := 0) (f3 := 0) (f4 := 0) (f5 := 0) (f6 := 0) (f7 := 0) rfl (by omega)) ?_))))))))
          refine vQ tab rfl (vQ tab rfl (w4 (w3 (w5 (vw_rounds 5 (rd_step (w1 (w2 (vQ tab rfl (w4 (w3 (w1 (vc_false rfl (vw_exit (q_thenx (q_thenx (q_here (w3 (w1 (w1 (w2 (vQ tab rfl (vR rfl callable_52 (done_good rfl) ?_)))))))))))))))))))))))
          refine vQ tab rfl (vQ tab rfl (vgd_op false rfl rfl rfl (by simp only [hm, decide_eq_true_eq, decide_eq_false_iff_not, Bool.not_eq_eq_eq_not, Bool.not_true, Bool.not_false, bne_iff_ne, bne_eq_false_iff_eq, beq_iff_eq, beq_eq_false_iff_ne, ne_eq, beq_self_eq_true, bne_self_eq_false, Bool.and_eq_true, Bool.and_eq_false_iff, Bool.or_eq_true, Bool.or_eq_false_iff, and_self, and_true, true_and, Bool.false_eq_true, Bool.true_eq_false, not_false_eq_true, not_true_eq_false]; first | done | omega) ?_))
          refine vQ tab rfl (vF rfl callable_31 (evt_may ⟨k, 0, 0, 0, 0, 0, 0, 0⟩) (vQ tab rfl (vQ tab rfl (w4 (w3 (vcd_true rfl (by simp only [hm, decide_eq_true_eq, decide_eq_false_iff_not, Bool.not_eq_eq_eq_not, Bool.not_true, Bool.not_false, bne_iff_ne, bne_eq_false_iff_eq, beq_iff_eq, beq_eq_false_iff_ne, ne_eq, beq_self_eq_true, bne_self_eq_false, Bool.and_eq_true, Bool.and_eq_false_iff, Bool.or_eq_true, Bool.or_eq_false_iff, and_self, and_true, true_and, Bool.false_eq_true, Bool.true_eq_false, not_false_eq_true, not_true_eq_false]; first | done | omega) ?_))))))
          refine w1 (w2 (vQ tab rfl (vS tab rfl (vQ tab rfl (w4 (w3 (vw_ret (q_thenr ?_))))))))
          exact ⟨.inr rfl, rfl⟩
        | true =>
          have hgn : evtC.get (B s) = some ⟨k, 0, 0, 0, 0, 0, 0, 0⟩ := by
            have hp : evtC.parse (B s) = some (⟨k, 0, 0, 0, 0, 0, 0, 0⟩, []) := by simp [Codec.parse, rdNs, evtC, evtCnt, evtText, mkB, h0, hq, hk] <;> exact hmk
            unfold Codec.get; rw [hp]; show (if evtMay _ = true then _ else _) = _; rw [hm]; rfl
          rw [evtGet_ok hgn]
          refine w1 (w2 (vN tab rfl (vQ tab rfl (w4 (w3 (w1 (w2 (vQ tab rfl (vQ tab rfl (vN tab rfl (vQ tab rfl (w4 (w3 (w1 (w2 (vQ tab rfl (vT rfl callable_51 (rnum_good rfl g0 hs (by decide)) ?_)))))))))))))))))
          refine vQ tab rfl (vN tab rfl (vS tab rfl (w4 (w3 (w1 (w1 (w2 (vR rfl callable_57 (evt_partsN (k := k) (f1 := 0) (f2 := 0) (f3 := 0) (f4 := 0) (f5 := 0) (f6 := 0) (f7 := 0) rfl (by omega)) ?_))))))))
          refine vQ tab rfl (vQ tab rfl (w4 (w3 (w5 (vw_rounds 5 (rd_step (w1 (w2 (vQ tab rfl (w4 (w3 (w1 (vc_false rfl (vw_exit (q_thenx (q_thenx (q_here (w3 (w1 (w1 (w2 (vQ tab rfl (vR rfl callable_52 (done_good rfl) ?_)))))))))))))))))))))))
          refine vQ tab rfl (vQ tab rfl (vgd_op false rfl rfl rfl (by simp only [hm, decide_eq_true_eq, decide_eq_false_iff_not, Bool.not_eq_eq_eq_not, Bool.not_true, Bool.not_false, bne_iff_ne, bne_eq_false_iff_eq, beq_iff_eq, beq_eq_false_iff_ne, ne_eq, beq_self_eq_true, bne_self_eq_false, Bool.and_eq_true, Bool.and_eq_false_iff, Bool.or_eq_true, Bool.or_eq_false_iff, and_self, and_true, true_and, Bool.false_eq_true, Bool.true_eq_false, not_false_eq_true, not_true_eq_false]; first | done | omega) ?_))
          refine vQ tab rfl (vF rfl callable_31 (evt_may ⟨k, 0, 0, 0, 0, 0, 0, 0⟩) (vQ tab rfl (vQ tab rfl (w4 (w3 (vcd_false rfl (by simp only [hm, decide_eq_true_eq, decide_eq_false_iff_not, Bool.not_eq_eq_eq_not, Bool.not_true, Bool.not_false, bne_iff_ne, bne_eq_false_iff_eq, beq_iff_eq, beq_eq_false_iff_ne, ne_eq, beq_self_eq_true, bne_self_eq_false, Bool.and_eq_true, Bool.and_eq_false_iff, Bool.or_eq_true, Bool.or_eq_false_iff, and_self, and_true, true_and, Bool.false_eq_true, Bool.true_eq_false, not_false_eq_true, not_true_eq_false]; first | done | omega) ?_))))))
          refine vw_skip (w3 (w1 (w2 (vQ tab rfl (vS tab rfl (vQ tab rfl (w4 (w3 (vw_ret ?_)))))))))
          exact ⟨.inr rfl, rfl⟩
      · have hq : q0 ≠ [] := fun hq => by rw [hq] at d0; have := congrArg List.length d0; rw [List.length_drop] at this; simp at this; omega
        have hgn : evtC.get (B s) = none := by
          obtain ⟨z, zs, hzz⟩ := List.exists_cons_of_ne_nil hq
          simp [Codec.get, Codec.parse, rdNs, evtC, evtCnt, evtText, hzz, h0, hk]
        rw [evtGet_no hgn]
        refine w1 (w2 (vN tab rfl (vQ tab rfl (w4 (w3 (w1 (w2 (vQ tab rfl (vQ tab rfl (vN tab rfl (vQ tab rfl (w4 (w3 (w1 (w2 (vQ tab rfl (vT rfl callable_51 (rnum_good rfl g0 hs (by decide)) ?_)))))))))))))))))
        refine vQ tab rfl (vN tab rfl (vS tab rfl (w4 (w3 (w1 (w1 (w2 (vR rfl callable_57 (evt_partsN (k := k) (f1 := 0) (f2 := 0) (f3 := 0) (f4 := 0) (f5 := 0) (f6 := 0) (f7 := 0) rfl (by omega)) ?_))))))))
        refine vQ tab rfl (vQ tab rfl (w4 (w3 (w5 (vw_rounds 5 (rd_step (w1 (w2 (vQ tab rfl (w4 (w3 (w1 (vc_false rfl (vw_exit (q_thenx (q_thenx (q_here (w3 (w1 (w1 (w2 (vQ tab rfl (vR rfl callable_52 (done_good rfl) ?_)))))))))))))))))))))))
        refine vQ tab rfl (vQ tab rfl (vgd_op true rfl rfl rfl (by simp only [decide_eq_true_eq, decide_eq_false_iff_not, Bool.not_eq_eq_eq_not, Bool.not_true, Bool.not_false, bne_iff_ne, bne_eq_false_iff_eq, beq_iff_eq, beq_eq_false_iff_ne, ne_eq, beq_self_eq_true, bne_self_eq_false, Bool.and_eq_true, Bool.and_eq_false_iff, Bool.or_eq_true, Bool.or_eq_false_iff, and_self, and_true, true_and, Bool.false_eq_true, Bool.true_eq_false, not_false_eq_true, not_true_eq_false]; first | done | omega) ?_))
        refine vK rfl (vK rfl (vK rfl (vQ tab rfl (w4 (w3 (vc_true rfl (w1 (w2 (vQ tab rfl (vS tab rfl (vQ tab rfl (w4 (w3 (vw_ret (q_thenr ?_)))))))))))))))
        exact ⟨.inr rfl, rfl⟩
end Go.Proofs.Yticaicdopfpknaa
