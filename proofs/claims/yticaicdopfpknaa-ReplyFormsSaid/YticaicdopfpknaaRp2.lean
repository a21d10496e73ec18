/- Package reply: Put, Get. -/
import Derived.Test.YticaicdopfpknaaVmSh
import Derived.Test.YticaicdopfpknaaRp1
import Derived.Test.YticaicdopfpknaaFd6
import Derived.Test.YticaicdopfpknaaCl0
namespace Go.Proofs.Yticaicdopfpknaa
open Go Vm IntWalk
set_option linter.unusedVariables false
set_option linter.unusedSimpArgs false
def rplPut (a : ReplyV) : ByteArray × Int := if rplMay a = true then (mkB (rplC.put a), 0) else (⟨#[]⟩, 500)
theorem rplPut_ok {a : ReplyV} (h : rplMay a = true) : rplPut a = (mkB (rplC.put a), 0) := if_pos h
theorem rplPut_no {a : ReplyV} (h : rplMay a = false) : rplPut a = (⟨#[]⟩, 500) := if_neg (by rw [h]; decide)
set_option maxHeartbeats 16000000 in
theorem rpl_put (a : ReplyV) : Fun Try.prog 41 [rplV a] (.tuple #[.string (rplPut a).1, .int .i64 (rplPut a).2]) := by
  refine fun_of_vw tab Try.func41 rfl rfl (by simp [Try.f41]) (lrel_cons (rplRel a) lrel_nil) (vrel_tuple (lrel_cons (.string _) (lrel_cons (.int _ _) lrel_nil))) ?_
  cases hm : rplMay a with
  | false =>
    rw [rplPut_no hm]
    refine w1 (w2 (vN tab rfl (vQ tab rfl (vQ tab rfl (w4 (w3 (w1 (w1 (w2 (vQ tab rfl (vF rfl callable_45 (rpl_may _) (vQ tab rfl (w4 (w3 (vcd_true rfl (by simp only [hm, decide_eq_true_eq, decide_eq_false_iff_not, Bool.not_eq_eq_eq_not, Bool.not_true, Bool.not_false, bne_iff_ne, bne_eq_false_iff_eq, beq_iff_eq, beq_eq_false_iff_ne, ne_eq, beq_self_eq_true, bne_self_eq_false, Bool.and_eq_true, Bool.and_eq_false_iff, Bool.or_eq_true, Bool.or_eq_false_iff, and_self, and_true, true_and, Bool.false_eq_true, Bool.true_eq_false, not_false_eq_true, not_true_eq_false]; first | done | omega) ?_)))))))))))))))
    refine w1 (w2 (vQ tab rfl (vQ tab rfl (w4 (w3 (vw_ret (q_thenr ?_)))))))
    exact ⟨.inr rfl, rfl⟩
  | true =>
    rw [rplPut_ok hm]
    have hk := rpl_may_kind hm
    have hx := rpl_may_nums hm
    have hT := rpl_okT hm
    obtain ⟨k, f1, f2, f3, f4, f5, f6, f7, d⟩ := a
    have s_f1 := numR_size f1
    have s_f2 := numR_size f2
    have s_f3 := numR_size f3
    have s_f4 := numR_size f4
    have s_f5 := numR_size f5
    have s_f6 := numR_size f6
    have s_f7 := numR_size f7
    have s_k := numR_size k
    have s_d : (txtB d).size ≤ d.size + 5 := txtB_size d
    rw [B_len] at hT
    have hT : d.size ≤ 65536 := hT
    have hB := txtB_B hT
    rcases rpl_kinds hk.1 hk.2 with rfl | rfl | rfl | rfl | rfl | rfl
    · refine w1 (w2 (vN tab rfl (vQ tab rfl (vQ tab rfl (w4 (w3 (w1 (w1 (w2 (vQ tab rfl (vF rfl callable_45 (rpl_may _) (vQ tab rfl (w4 (w3 (vcd_false rfl (by simp only [hm, decide_eq_true_eq, decide_eq_false_iff_not, Bool.not_eq_eq_eq_not, Bool.not_true, Bool.not_false, bne_iff_ne, bne_eq_false_iff_eq, beq_iff_eq, beq_eq_false_iff_ne, ne_eq, beq_self_eq_true, bne_self_eq_false, Bool.and_eq_true, Bool.and_eq_false_iff, Bool.or_eq_true, Bool.or_eq_false_iff, and_self, and_true, true_and, Bool.false_eq_true, Bool.true_eq_false, not_false_eq_true, not_true_eq_false]; first | done | omega) ?_)))))))))))))))
      refine vw_skip (w3 (w1 (w2 (vQ tab rfl (vQ tab rfl (vF rfl callable_48 (num_fun_ _) (vQ tab rfl (vQ tab rfl (vQ tab rfl (vQ tab rfl (vQ tab rfl (w4 (w3 (w1 (w1 (w2 (vT rfl callable_66 (rpl_parts0 (f1 := f1) (f2 := f2) (f3 := f3) (f4 := f4) (f5 := f5) (f6 := f6) (f7 := f7) (d := d) rfl (by decide)) ?_)))))))))))))))))
      refine vQ tab rfl (vQ tab rfl (w4 (w3 (w5 (vw_rounds 4 (rd_step (w1 (w2 (vQ tab rfl (w4 (w3 (w1 (vc_true rfl (vw_skip (w3 (w1 (w5 (w1 (w2 (vQ tab rfl (vQ tab rfl (vQ tab rfl (w4 ?_)))))))))))))))))))))))
      refine w3 (w1 (w2 (vQ tab rfl (vQ tab rfl (vQ tab rfl (vF rfl callable_48 (num_fun_ _) (vQ tab rfl (vQ tab rfl (vQ tab rfl (vQ tab rfl (vQ tab rfl (w4 (w3 (w2 (vQ tab rfl (vQ tab rfl (vq_op tab rfl rfl rfl (cat_ev rfl rfl (by (try simp only [numsB, List.foldl_cons, List.foldl_nil, ByteArray.size_append, sz0]); omega)) ?_)))))))))))))))))
      refine vQ tab rfl (w4 (q_norm (w3 (w2 (vQ tab rfl (vQ tab rfl (w4 (w3 (rd_step (w1 (w2 (vQ tab rfl (w4 (w3 (w1 (vc_true rfl (vw_skip (w3 (w1 (w5 (w1 (w2 (vQ tab rfl ?_)))))))))))))))))))))))
      refine vQ tab rfl (vQ tab rfl (w4 (w3 (w1 (w2 (vQ tab rfl (vQ tab rfl (vQ tab rfl (vF rfl callable_48 (num_fun_ _) (vQ tab rfl (vQ tab rfl (vQ tab rfl (vQ tab rfl (vQ tab rfl (w4 (w3 (w2 (vQ tab rfl (vQ tab rfl (vq_op tab rfl rfl rfl (cat_ev rfl rfl (by (try simp only [numsB, List.foldl_cons, List.foldl_nil, ByteArray.size_append, sz0]); omega)) ?_))))))))))))))))))))
      refine vQ tab rfl (w4 (q_norm (w3 (w2 (vQ tab rfl (vQ tab rfl (w4 (w3 (rd_step (w1 (w2 (vQ tab rfl (w4 (w3 (w1 (vc_false rfl (vw_exit (q_thenx (q_thenx (q_here (w3 (w1 (w1 ?_)))))))))))))))))))))))
      refine w2 (vQ tab rfl (vQ tab rfl (vQ tab rfl (w4 (w3 (vc_false rfl (vw_skip (w3 (w1 (w2 (vQ tab rfl (vQ tab rfl (vQ tab rfl (w4 (w3 (vw_ret ?_))))))))))))))))
      all_goals exact ⟨.inr rfl, Eq.trans (b := some (.tuple #[.string _, .int .i64 0])) rfl (congrArg (fun s => some (Value.tuple #[.string s, .int .i64 0])) (B_inj (by clear s_f1 s_f2 s_f3 s_f4 s_f5 s_f6 s_f7 s_k; have hk0 : okN 0 = true := (by decide); (try simp [rplNums] at hx); simp_all [B_app, B_mk, B_nil, numR_B, Codec.put, rplC, rplNums, rplText, numsL, numsB, hB])))⟩
    · refine w1 (w2 (vN tab rfl (vQ tab rfl (vQ tab rfl (w4 (w3 (w1 (w1 (w2 (vQ tab rfl (vF rfl callable_45 (rpl_may _) (vQ tab rfl (w4 (w3 (vcd_false rfl (by simp only [hm, decide_eq_true_eq, decide_eq_false_iff_not, Bool.not_eq_eq_eq_not, Bool.not_true, Bool.not_false, bne_iff_ne, bne_eq_false_iff_eq, beq_iff_eq, beq_eq_false_iff_ne, ne_eq, beq_self_eq_true, bne_self_eq_false, Bool.and_eq_true, Bool.and_eq_false_iff, Bool.or_eq_true, Bool.or_eq_false_iff, and_self, and_true, true_and, Bool.false_eq_true, Bool.true_eq_false, not_false_eq_true, not_true_eq_false]; first | done | omega) ?_)))))))))))))))
      refine vw_skip (w3 (w1 (w2 (vQ tab rfl (vQ tab rfl (vF rfl callable_48 (num_fun_ _) (vQ tab rfl (vQ tab rfl (vQ tab rfl (vQ tab rfl (vQ tab rfl (w4 (w3 (w1 (w1 (w2 (vT rfl callable_66 (rpl_parts1 (f1 := f1) (f2 := f2) (f3 := f3) (f4 := f4) (f5 := f5) (f6 := f6) (f7 := f7) (d := d) rfl (by decide)) ?_)))))))))))))))))
      refine vQ tab rfl (vQ tab rfl (w4 (w3 (w5 (vw_rounds 4 (rd_step (w1 (w2 (vQ tab rfl (w4 (w3 (w1 (vc_true rfl (vw_skip (w3 (w1 (w5 (w1 (w2 (vQ tab rfl (vQ tab rfl (vQ tab rfl (w4 ?_)))))))))))))))))))))))
      refine w3 (w1 (w2 (vQ tab rfl (vQ tab rfl (vQ tab rfl (vF rfl callable_48 (num_fun_ _) (vQ tab rfl (vQ tab rfl (vQ tab rfl (vQ tab rfl (vQ tab rfl (w4 (w3 (w2 (vQ tab rfl (vQ tab rfl (vq_op tab rfl rfl rfl (cat_ev rfl rfl (by (try simp only [numsB, List.foldl_cons, List.foldl_nil, ByteArray.size_append, sz0]); omega)) ?_)))))))))))))))))
      refine vQ tab rfl (w4 (q_norm (w3 (w2 (vQ tab rfl (vQ tab rfl (w4 (w3 (rd_step (w1 (w2 (vQ tab rfl (w4 (w3 (w1 (vc_true rfl (vw_skip (w3 (w1 (w5 (w1 (w2 (vQ tab rfl ?_)))))))))))))))))))))))
      refine vQ tab rfl (vQ tab rfl (w4 (w3 (w1 (w2 (vQ tab rfl (vQ tab rfl (vQ tab rfl (vF rfl callable_48 (num_fun_ _) (vQ tab rfl (vQ tab rfl (vQ tab rfl (vQ tab rfl (vQ tab rfl (w4 (w3 (w2 (vQ tab rfl (vQ tab rfl (vq_op tab rfl rfl rfl (cat_ev rfl rfl (by (try simp only [numsB, List.foldl_cons, List.foldl_nil, ByteArray.size_append, sz0]); omega)) ?_))))))))))))))))))))
      refine vQ tab rfl (w4 (q_norm (w3 (w2 (vQ tab rfl (vQ tab rfl (w4 (w3 (rd_step (w1 (w2 (vQ tab rfl (w4 (w3 (w1 (vc_true rfl (vw_skip (w3 (w1 (w5 (w1 (w2 (vQ tab rfl ?_)))))))))))))))))))))))
      refine vQ tab rfl (vQ tab rfl (w4 (w3 (w1 (w2 (vQ tab rfl (vQ tab rfl (vQ tab rfl (vF rfl callable_48 (num_fun_ _) (vQ tab rfl (vQ tab rfl (vQ tab rfl (vQ tab rfl (vQ tab rfl (w4 (w3 (w2 (vQ tab rfl (vQ tab rfl (vq_op tab rfl rfl rfl (cat_ev rfl rfl (by (try simp only [numsB, List.foldl_cons, List.foldl_nil, ByteArray.size_append, sz0]); omega)) ?_))))))))))))))))))))
      refine vQ tab rfl (w4 (q_norm (w3 (w2 (vQ tab rfl (vQ tab rfl (w4 (w3 (rd_step (w1 (w2 (vQ tab rfl (w4 (w3 (w1 (vc_false rfl (vw_exit (q_thenx (q_thenx (q_here (w3 (w1 (w1 ?_)))))))))))))))))))))))
      refine w2 (vQ tab rfl (vQ tab rfl (vQ tab rfl (w4 (w3 (vc_false rfl (vw_skip (w3 (w1 (w2 (vQ tab rfl (vQ tab rfl (vQ tab rfl (w4 (w3 (vw_ret ?_))))))))))))))))
      all_goals exact ⟨.inr rfl, Eq.trans (b := some (.tuple #[.string _, .int .i64 0])) rfl (congrArg (fun s => some (Value.tuple #[.string s, .int .i64 0])) (B_inj (by clear s_f1 s_f2 s_f3 s_f4 s_f5 s_f6 s_f7 s_k; have hk0 : okN 1 = true := (by decide); (try simp [rplNums] at hx); simp_all [B_app, B_mk, B_nil, numR_B, Codec.put, rplC, rplNums, rplText, numsL, numsB, hB])))⟩
    · refine w1 (w2 (vN tab rfl (vQ tab rfl (vQ tab rfl (w4 (w3 (w1 (w1 (w2 (vQ tab rfl (vF rfl callable_45 (rpl_may _) (vQ tab rfl (w4 (w3 (vcd_false rfl (by simp only [hm, decide_eq_true_eq, decide_eq_false_iff_not, Bool.not_eq_eq_eq_not, Bool.not_true, Bool.not_false, bne_iff_ne, bne_eq_false_iff_eq, beq_iff_eq, beq_eq_false_iff_ne, ne_eq, beq_self_eq_true, bne_self_eq_false, Bool.and_eq_true, Bool.and_eq_false_iff, Bool.or_eq_true, Bool.or_eq_false_iff, and_self, and_true, true_and, Bool.false_eq_true, Bool.true_eq_false, not_false_eq_true, not_true_eq_false]; first | done | omega) ?_)))))))))))))))
      refine vw_skip (w3 (w1 (w2 (vQ tab rfl (vQ tab rfl (vF rfl callable_48 (num_fun_ _) (vQ tab rfl (vQ tab rfl (vQ tab rfl (vQ tab rfl (vQ tab rfl (w4 (w3 (w1 (w1 (w2 (vT rfl callable_66 (rpl_parts2 (f1 := f1) (f2 := f2) (f3 := f3) (f4 := f4) (f5 := f5) (f6 := f6) (f7 := f7) (d := d) rfl (by decide)) ?_)))))))))))))))))
      refine vQ tab rfl (vQ tab rfl (w4 (w3 (w5 (vw_rounds 4 (rd_step (w1 (w2 (vQ tab rfl (w4 (w3 (w1 (vc_true rfl (vw_skip (w3 (w1 (w5 (w1 (w2 (vQ tab rfl (vQ tab rfl (vQ tab rfl (w4 ?_)))))))))))))))))))))))
      refine w3 (w1 (w2 (vQ tab rfl (vQ tab rfl (vQ tab rfl (vF rfl callable_48 (num_fun_ _) (vQ tab rfl (vQ tab rfl (vQ tab rfl (vQ tab rfl (vQ tab rfl (w4 (w3 (w2 (vQ tab rfl (vQ tab rfl (vq_op tab rfl rfl rfl (cat_ev rfl rfl (by (try simp only [numsB, List.foldl_cons, List.foldl_nil, ByteArray.size_append, sz0]); omega)) ?_)))))))))))))))))
      refine vQ tab rfl (w4 (q_norm (w3 (w2 (vQ tab rfl (vQ tab rfl (w4 (w3 (rd_step (w1 (w2 (vQ tab rfl (w4 (w3 (w1 (vc_true rfl (vw_skip (w3 (w1 (w5 (w1 (w2 (vQ tab rfl ?_)))))))))))))))))))))))
      refine vQ tab rfl (vQ tab rfl (w4 (w3 (w1 (w2 (vQ tab rfl (vQ tab rfl (vQ tab rfl (vF rfl callable_48 (num_fun_ _) (vQ tab rfl (vQ tab rfl (vQ tab rfl (vQ tab rfl (vQ tab rfl (w4 (w3 (w2 (vQ tab rfl (vQ tab rfl (vq_op tab rfl rfl rfl (cat_ev rfl rfl (by (try simp only [numsB, List.foldl_cons, List.foldl_nil, ByteArray.size_append, sz0]); omega)) ?_))))))))))))))))))))
      refine vQ tab rfl (w4 (q_norm (w3 (w2 (vQ tab rfl (vQ tab rfl (w4 (w3 (rd_step (w1 (w2 (vQ tab rfl (w4 (w3 (w1 (vc_false rfl (vw_exit (q_thenx (q_thenx (q_here (w3 (w1 (w1 ?_)))))))))))))))))))))))
      refine w2 (vQ tab rfl (vQ tab rfl (vQ tab rfl (w4 (w3 (vc_true rfl (w1 (w2 (vQ tab rfl (vQ tab rfl (vF rfl callable_61 (text_fun d hT) (vQ tab rfl (vQ tab rfl (vQ tab rfl (vQ tab rfl (vQ tab rfl (w4 (w3 (w2 (vQ tab rfl (vQ tab rfl (vq_op tab rfl rfl rfl (cat_ev rfl rfl (by (try simp only [numsB, List.foldl_cons, List.foldl_nil, ByteArray.size_append, sz0]); omega)) ?_))))))))))))))))))))))
      refine vQ tab rfl (w4 (w3 (w1 (w2 (vQ tab rfl (vQ tab rfl (vQ tab rfl (w4 (w3 (vw_ret ?_))))))))))
      all_goals exact ⟨.inr rfl, Eq.trans (b := some (.tuple #[.string _, .int .i64 0])) rfl (congrArg (fun s => some (Value.tuple #[.string s, .int .i64 0])) (B_inj (by clear s_f1 s_f2 s_f3 s_f4 s_f5 s_f6 s_f7 s_k; have hk0 : okN 2 = true := (by decide); (try simp [rplNums] at hx); simp_all [B_app, B_mk, B_nil, numR_B, Codec.put, rplC, rplNums, rplText, numsL, numsB, hB])))⟩
    · refine w1 (w2 (vN tab rfl (vQ tab rfl (vQ tab rfl (w4 (w3 (w1 (w1 (w2 (vQ tab rfl (vF rfl callable_45 (rpl_may _) (vQ tab rfl (w4 (w3 (vcd_false rfl (by simp only [hm, decide_eq_true_eq, decide_eq_false_iff_not, Bool.not_eq_eq_eq_not, Bool.not_true, Bool.not_false, bne_iff_ne, bne_eq_false_iff_eq, beq_iff_eq, beq_eq_false_iff_ne, ne_eq, beq_self_eq_true, bne_self_eq_false, Bool.and_eq_true, Bool.and_eq_false_iff, Bool.or_eq_true, Bool.or_eq_false_iff, and_self, and_true, true_and, Bool.false_eq_true, Bool.true_eq_false, not_false_eq_true, not_true_eq_false]; first | done | omega) ?_)))))))))))))))
      refine vw_skip (w3 (w1 (w2 (vQ tab rfl (vQ tab rfl (vF rfl callable_48 (num_fun_ _) (vQ tab rfl (vQ tab rfl (vQ tab rfl (vQ tab rfl (vQ tab rfl (w4 (w3 (w1 (w1 (w2 (vT rfl callable_66 (rpl_parts3 (f1 := f1) (f2 := f2) (f3 := f3) (f4 := f4) (f5 := f5) (f6 := f6) (f7 := f7) (d := d) rfl (by decide)) ?_)))))))))))))))))
      refine vQ tab rfl (vQ tab rfl (w4 (w3 (w5 (vw_rounds 4 (rd_step (w1 (w2 (vQ tab rfl (w4 (w3 (w1 (vc_true rfl (vw_skip (w3 (w1 (w5 (w1 (w2 (vQ tab rfl (vQ tab rfl (vQ tab rfl (w4 ?_)))))))))))))))))))))))
      refine w3 (w1 (w2 (vQ tab rfl (vQ tab rfl (vQ tab rfl (vF rfl callable_48 (num_fun_ _) (vQ tab rfl (vQ tab rfl (vQ tab rfl (vQ tab rfl (vQ tab rfl (w4 (w3 (w2 (vQ tab rfl (vQ tab rfl (vq_op tab rfl rfl rfl (cat_ev rfl rfl (by (try simp only [numsB, List.foldl_cons, List.foldl_nil, ByteArray.size_append, sz0]); omega)) ?_)))))))))))))))))
      refine vQ tab rfl (w4 (q_norm (w3 (w2 (vQ tab rfl (vQ tab rfl (w4 (w3 (rd_step (w1 (w2 (vQ tab rfl (w4 (w3 (w1 (vc_false rfl (vw_exit (q_thenx (q_thenx (q_here (w3 (w1 (w1 ?_)))))))))))))))))))))))
      refine w2 (vQ tab rfl (vQ tab rfl (vQ tab rfl (w4 (w3 (vc_false rfl (vw_skip (w3 (w1 (w2 (vQ tab rfl (vQ tab rfl (vQ tab rfl (w4 (w3 (vw_ret ?_))))))))))))))))
      all_goals exact ⟨.inr rfl, Eq.trans (b := some (.tuple #[.string _, .int .i64 0])) rfl (congrArg (fun s => some (Value.tuple #[.string s, .int .i64 0])) (B_inj (by clear s_f1 s_f2 s_f3 s_f4 s_f5 s_f6 s_f7 s_k; have hk0 : okN 3 = true := (by decide); (try simp [rplNums] at hx); simp_all [B_app, B_mk, B_nil, numR_B, Codec.put, rplC, rplNums, rplText, numsL, numsB, hB])))⟩
    · refine w1 (w2 (vN tab rfl (vQ tab rfl (vQ tab rfl (w4 (w3 (w1 (w1 (w2 (vQ tab rfl (vF rfl callable_45 (rpl_may _) (vQ tab rfl (w4 (w3 (vcd_false rfl (by simp only [hm, decide_eq_true_eq, decide_eq_false_iff_not, Bool.not_eq_eq_eq_not, Bool.not_true, Bool.not_false, bne_iff_ne, bne_eq_false_iff_eq, beq_iff_eq, beq_eq_false_iff_ne, ne_eq, beq_self_eq_true, bne_self_eq_false, Bool.and_eq_true, Bool.and_eq_false_iff, Bool.or_eq_true, Bool.or_eq_false_iff, and_self, and_true, true_and, Bool.false_eq_true, Bool.true_eq_false, not_false_eq_true, not_true_eq_false]; first | done | omega) ?_)))))))))))))))
      refine vw_skip (w3 (w1 (w2 (vQ tab rfl (vQ tab rfl (vF rfl callable_48 (num_fun_ _) (vQ tab rfl (vQ tab rfl (vQ tab rfl (vQ tab rfl (vQ tab rfl (w4 (w3 (w1 (w1 (w2 (vT rfl callable_66 (rpl_parts4 (f1 := f1) (f2 := f2) (f3 := f3) (f4 := f4) (f5 := f5) (f6 := f6) (f7 := f7) (d := d) rfl (by decide)) ?_)))))))))))))))))
      refine vQ tab rfl (vQ tab rfl (w4 (w3 (w5 (vw_rounds 4 (rd_step (w1 (w2 (vQ tab rfl (w4 (w3 (w1 (vc_true rfl (vw_skip (w3 (w1 (w5 (w1 (w2 (vQ tab rfl (vQ tab rfl (vQ tab rfl (w4 ?_)))))))))))))))))))))))
      refine w3 (w1 (w2 (vQ tab rfl (vQ tab rfl (vQ tab rfl (vF rfl callable_48 (num_fun_ _) (vQ tab rfl (vQ tab rfl (vQ tab rfl (vQ tab rfl (vQ tab rfl (w4 (w3 (w2 (vQ tab rfl (vQ tab rfl (vq_op tab rfl rfl rfl (cat_ev rfl rfl (by (try simp only [numsB, List.foldl_cons, List.foldl_nil, ByteArray.size_append, sz0]); omega)) ?_)))))))))))))))))
      refine vQ tab rfl (w4 (q_norm (w3 (w2 (vQ tab rfl (vQ tab rfl (w4 (w3 (rd_step (w1 (w2 (vQ tab rfl (w4 (w3 (w1 (vc_true rfl (vw_skip (w3 (w1 (w5 (w1 (w2 (vQ tab rfl ?_)))))))))))))))))))))))
      refine vQ tab rfl (vQ tab rfl (w4 (w3 (w1 (w2 (vQ tab rfl (vQ tab rfl (vQ tab rfl (vF rfl callable_48 (num_fun_ _) (vQ tab rfl (vQ tab rfl (vQ tab rfl (vQ tab rfl (vQ tab rfl (w4 (w3 (w2 (vQ tab rfl (vQ tab rfl (vq_op tab rfl rfl rfl (cat_ev rfl rfl (by (try simp only [numsB, List.foldl_cons, List.foldl_nil, ByteArray.size_append, sz0]); omega)) ?_))))))))))))))))))))
      refine vQ tab rfl (w4 (q_norm (w3 (w2 (vQ tab rfl (vQ tab rfl (w4 (w3 (rd_step (w1 (w2 (vQ tab rfl (w4 (w3 (w1 (vc_false rfl (vw_exit (q_thenx (q_thenx (q_here (w3 (w1 (w1 ?_)))))))))))))))))))))))
      refine w2 (vQ tab rfl (vQ tab rfl (vQ tab rfl (w4 (w3 (vc_false rfl (vw_skip (w3 (w1 (w2 (vQ tab rfl (vQ tab rfl (vQ tab rfl (w4 (w3 (vw_ret ?_))))))))))))))))
      all_goals exact ⟨.inr rfl, Eq.trans (b := some (.tuple #[.string _, .int .i64 0])) rfl (congrArg (fun s => some (Value.tuple #[.string s, .int .i64 0])) (B_inj (by clear s_f1 s_f2 s_f3 s_f4 s_f5 s_f6 s_f7 s_k; have hk0 : okN 4 = true := (by decide); (try simp [rplNums] at hx); simp_all [B_app, B_mk, B_nil, numR_B, Codec.put, rplC, rplNums, rplText, numsL, numsB, hB])))⟩
    · refine w1 (w2 (vN tab rfl (vQ tab rfl (vQ tab rfl (w4 (w3 (w1 (w1 (w2 (vQ tab rfl (vF rfl callable_45 (rpl_may _) (vQ tab rfl (w4 (w3 (vcd_false rfl (by simp only [hm, decide_eq_true_eq, decide_eq_false_iff_not, Bool.not_eq_eq_eq_not, Bool.not_true, Bool.not_false, bne_iff_ne, bne_eq_false_iff_eq, beq_iff_eq, beq_eq_false_iff_ne, ne_eq, beq_self_eq_true, bne_self_eq_false, Bool.and_eq_true, Bool.and_eq_false_iff, Bool.or_eq_true, Bool.or_eq_false_iff, and_self, and_true, true_and, Bool.false_eq_true, Bool.true_eq_false, not_false_eq_true, not_true_eq_false]; first | done | omega) ?_)))))))))))))))
      refine vw_skip (w3 (w1 (w2 (vQ tab rfl (vQ tab rfl (vF rfl callable_48 (num_fun_ _) (vQ tab rfl (vQ tab rfl (vQ tab rfl (vQ tab rfl (vQ tab rfl (w4 (w3 (w1 (w1 (w2 (vR rfl callable_66 (rpl_partsN (k := 5) (f1 := f1) (f2 := f2) (f3 := f3) (f4 := f4) (f5 := f5) (f6 := f6) (f7 := f7) (d := d) rfl (by omega)) ?_)))))))))))))))))
      refine vQ tab rfl (vQ tab rfl (w4 (w3 (w5 (vw_rounds 4 (rd_step (w1 (w2 (vQ tab rfl (w4 (w3 (w1 (vc_false rfl (vw_exit (q_thenx (q_thenx (q_here (w3 (w1 (w1 (w2 (vQ tab rfl (vQ tab rfl ?_)))))))))))))))))))))))
      refine vQ tab rfl (w4 (w3 (vc_false rfl (vw_skip (w3 (w1 (w2 (vQ tab rfl (vQ tab rfl (vQ tab rfl (w4 (w3 (vw_ret ?_)))))))))))))
      all_goals exact ⟨.inr rfl, Eq.trans (b := some (.tuple #[.string _, .int .i64 0])) rfl (congrArg (fun s => some (Value.tuple #[.string s, .int .i64 0])) (B_inj (by clear s_f1 s_f2 s_f3 s_f4 s_f5 s_f6 s_f7 s_k; have hk0 : okN 5 = true := (by decide); (try simp [rplNums] at hx); simp_all [B_app, B_mk, B_nil, numR_B, Codec.put, rplC, rplNums, rplText, numsL, numsB, hB])))⟩
def rplGet (s : ByteArray) : ReplyV × Int := match rplC.get (B s) with
  | some a => (a, 0)
  | none => (⟨0, 0, 0, 0, 0, 0, 0, 0, ⟨#[]⟩⟩, 500)
theorem rplGet_ok {s : ByteArray} {a : ReplyV} (h : rplC.get (B s) = some a) : rplGet s = (a, 0) := by unfold rplGet; rw [h]
theorem rplGet_no {s : ByteArray} (h : rplC.get (B s) = none) : rplGet s = (⟨0, 0, 0, 0, 0, 0, 0, 0, ⟨#[]⟩⟩, 500) := by unfold rplGet; rw [h]
set_option maxHeartbeats 64000000 in
theorem rpl_get (s : ByteArray) (hs : s.size ≤ 9223372036854775807) : Fun Try.prog 43 [.string s] (.tuple #[rplV (rplGet s).1, .int .i64 (rplGet s).2]) := by
  refine fun_of_vw tab Try.func43 rfl rfl (by simp [Try.f43]) (lrel_cons (.string _) lrel_nil) (vrel_tuple (lrel_cons (rplRel _) (lrel_cons (.int _ _) lrel_nil))) ?_
  have hl := B_len s
  cases h0 : rdN (B s) with
  | none =>
    obtain ⟨e, p, hg, he⟩ := getN_none (s := B s) (a := 0) (by omega) (by omega) h0
    rw [rplGet_no (by simp [Codec.get, Codec.parse, rdNs, rplC, rplCnt, rplText, h0])]
    refine w1 (w2 (vN tab rfl (vQ tab rfl (w4 (w3 (w1 (w2 (vQ tab rfl (vQ tab rfl (vN tab rfl (vQ tab rfl (w4 (w3 (w1 (w2 (vQ tab rfl (vT rfl callable_51 (rnum_fail rfl hg he hs (by decide)) ?_)))))))))))))))))
    refine vQ tab rfl (vN tab rfl (vS tab rfl (w4 (w3 (w1 (w1 (w2 (vT rfl callable_66 (rpl_parts0 (f1 := 0) (f2 := 0) (f3 := 0) (f4 := 0) (f5 := 0) (f6 := 0) (f7 := 0) (d := ⟨#[]⟩) rfl (by decide)) ?_))))))))
    refine vQ tab rfl (vQ tab rfl (w4 (w3 (w5 (vw_rounds 4 (rd_step (w1 (w2 (vQ tab rfl (w4 (w3 (w1 (vc_true rfl (vw_skip (w3 (w1 (w5 (w1 (w2 (vQ tab rfl (vQ tab rfl (vQ tab rfl (w4 ?_)))))))))))))))))))))))
    refine w3 (w2 (vQ tab rfl (vQ tab rfl (vR rfl callable_51 (rnum_bad rfl rfl (by decide)) ?_))))
    refine vQ tab rfl (vS tab rfl (w4 (q_norm (w3 (w2 (vQ tab rfl (vQ tab rfl (w4 (w3 (rd_step (w1 (w2 (vQ tab rfl (w4 (w3 (w1 (vc_true rfl (vw_skip (w3 (w1 (w5 (w1 (w2 ?_)))))))))))))))))))))))
    refine vQ tab rfl (vQ tab rfl (vQ tab rfl (w4 (w3 (w2 (vQ tab rfl (vQ tab rfl (vR rfl callable_51 (rnum_bad rfl rfl (by decide)) ?_))))))))
    refine vQ tab rfl (vS tab rfl (w4 (q_norm (w3 (w2 (vQ tab rfl (vQ tab rfl (w4 (w3 (rd_step (w1 (w2 (vQ tab rfl (w4 (w3 (w1 (vc_false rfl (vw_exit (q_thenx (q_thenx (q_here (w3 (w1 ?_)))))))))))))))))))))))
    refine w1 (w2 (vQ tab rfl (vQ tab rfl (vQ tab rfl (w4 (w3 (vc_false rfl (vw_skip (w3 (w1 (w1 (w2 (vQ tab rfl (vR rfl callable_52 (done_bad rfl rfl (by decide)) ?_))))))))))))))
    refine vQ tab rfl (vQ tab rfl (vK rfl (vK rfl (vK rfl (vQ tab rfl (w4 (w3 (vc_true rfl (w1 (w2 (vQ tab rfl (vS tab rfl (vQ tab rfl (w4 (w3 (vw_ret (q_thenr ?_)))))))))))))))))
    exact ⟨.inr rfl, rfl⟩
  | some r0 =>
    obtain ⟨k, q0⟩ := r0
    obtain ⟨t0, g0, lt0, le0, d0⟩ := getN_some (s := B s) (a := 0) (by omega) (by omega) h0
    rcases (show k = 0 ∨ k = 1 ∨ k = 2 ∨ k = 3 ∨ k = 4 ∨ k = 5 ∨ (k ≠ 0 ∧ k ≠ 1 ∧ k ≠ 2 ∧ k ≠ 3 ∧ k ≠ 4 ∧ k ≠ 5) by omega) with rfl | rfl | rfl | rfl | rfl | rfl | hk
    ·
      cases h1 : rdN q0 with
      | none =>
        obtain ⟨e, p, hg, he⟩ := getN_none (s := B s) (a := t0) (by omega) (by omega) (by rw [d0]; exact h1)
        rw [rplGet_no (by simp [Codec.get, Codec.parse, rdNs, rplC, rplCnt, rplText, h0, h1])]
        refine w1 (w2 (vN tab rfl (vQ tab rfl (w4 (w3 (w1 (w2 (vQ tab rfl (vQ tab rfl (vN tab rfl (vQ tab rfl (w4 (w3 (w1 (w2 (vQ tab rfl (vT rfl callable_51 (rnum_good rfl g0 hs (by decide)) ?_)))))))))))))))))
        refine vQ tab rfl (vN tab rfl (vS tab rfl (w4 (w3 (w1 (w1 (w2 (vT rfl callable_66 (rpl_parts0 (f1 := 0) (f2 := 0) (f3 := 0) (f4 := 0) (f5 := 0) (f6 := 0) (f7 := 0) (d := ⟨#[]⟩) rfl (by decide)) ?_))))))))
        refine vQ tab rfl (vQ tab rfl (w4 (w3 (w5 (vw_rounds 4 (rd_step (w1 (w2 (vQ tab rfl (w4 (w3 (w1 (vc_true rfl (vw_skip (w3 (w1 (w5 (w1 (w2 (vQ tab rfl (vQ tab rfl (vQ tab rfl (w4 ?_)))))))))))))))))))))))
        refine w3 (w2 (vQ tab rfl (vQ tab rfl (vT rfl callable_51 (rnum_fail rfl hg he hs (by decide)) ?_))))
        refine vQ tab rfl (vS tab rfl (w4 (q_norm (w3 (w2 (vQ tab rfl (vQ tab rfl (w4 (w3 (rd_step (w1 (w2 (vQ tab rfl (w4 (w3 (w1 (vc_true rfl (vw_skip (w3 (w1 (w5 (w1 (w2 ?_)))))))))))))))))))))))
        refine vQ tab rfl (vQ tab rfl (vQ tab rfl (w4 (w3 (w2 (vQ tab rfl (vQ tab rfl (vR rfl callable_51 (rnum_bad rfl rfl (by decide)) ?_))))))))
        refine vQ tab rfl (vS tab rfl (w4 (q_norm (w3 (w2 (vQ tab rfl (vQ tab rfl (w4 (w3 (rd_step (w1 (w2 (vQ tab rfl (w4 (w3 (w1 (vc_false rfl (vw_exit (q_thenx (q_thenx (q_here (w3 (w1 ?_)))))))))))))))))))))))
        refine w1 (w2 (vQ tab rfl (vQ tab rfl (vQ tab rfl (w4 (w3 (vc_false rfl (vw_skip (w3 (w1 (w1 (w2 (vQ tab rfl (vR rfl callable_52 (done_bad rfl rfl (by decide)) ?_))))))))))))))
        refine vQ tab rfl (vQ tab rfl (vK rfl (vK rfl (vK rfl (vQ tab rfl (w4 (w3 (vc_true rfl (w1 (w2 (vQ tab rfl (vS tab rfl (vQ tab rfl (w4 (w3 (vw_ret (q_thenr ?_)))))))))))))))))
        exact ⟨.inr rfl, rfl⟩
      | some r1 =>
        obtain ⟨x1, q1⟩ := r1
        obtain ⟨t1, g1, lt1, le1, d1⟩ := getN_some (s := B s) (a := t0) (by omega) (by omega) (by rw [d0]; exact h1)
        cases h2 : rdN q1 with
        | none =>
          obtain ⟨e, p, hg, he⟩ := getN_none (s := B s) (a := t1) (by omega) (by omega) (by rw [d1]; exact h2)
          rw [rplGet_no (by simp [Codec.get, Codec.parse, rdNs, rplC, rplCnt, rplText, h0, h1, h2])]
          refine w1 (w2 (vN tab rfl (vQ tab rfl (w4 (w3 (w1 (w2 (vQ tab rfl (vQ tab rfl (vN tab rfl (vQ tab rfl (w4 (w3 (w1 (w2 (vQ tab rfl (vT rfl callable_51 (rnum_good rfl g0 hs (by decide)) ?_)))))))))))))))))
          refine vQ tab rfl (vN tab rfl (vS tab rfl (w4 (w3 (w1 (w1 (w2 (vT rfl callable_66 (rpl_parts0 (f1 := 0) (f2 := 0) (f3 := 0) (f4 := 0) (f5 := 0) (f6 := 0) (f7 := 0) (d := ⟨#[]⟩) rfl (by decide)) ?_))))))))
          refine vQ tab rfl (vQ tab rfl (w4 (w3 (w5 (vw_rounds 4 (rd_step (w1 (w2 (vQ tab rfl (w4 (w3 (w1 (vc_true rfl (vw_skip (w3 (w1 (w5 (w1 (w2 (vQ tab rfl (vQ tab rfl (vQ tab rfl (w4 ?_)))))))))))))))))))))))
          refine w3 (w2 (vQ tab rfl (vQ tab rfl (vT rfl callable_51 (rnum_good rfl g1 hs (by decide)) ?_))))
          refine vQ tab rfl (vS tab rfl (w4 (q_norm (w3 (w2 (vQ tab rfl (vQ tab rfl (w4 (w3 (rd_step (w1 (w2 (vQ tab rfl (w4 (w3 (w1 (vc_true rfl (vw_skip (w3 (w1 (w5 (w1 (w2 ?_)))))))))))))))))))))))
          refine vQ tab rfl (vQ tab rfl (vQ tab rfl (w4 (w3 (w2 (vQ tab rfl (vQ tab rfl (vT rfl callable_51 (rnum_fail rfl hg he hs (by decide)) ?_))))))))
          refine vQ tab rfl (vS tab rfl (w4 (q_norm (w3 (w2 (vQ tab rfl (vQ tab rfl (w4 (w3 (rd_step (w1 (w2 (vQ tab rfl (w4 (w3 (w1 (vc_false rfl (vw_exit (q_thenx (q_thenx (q_here (w3 (w1 ?_)))))))))))))))))))))))
          refine w1 (w2 (vQ tab rfl (vQ tab rfl (vQ tab rfl (w4 (w3 (vc_false rfl (vw_skip (w3 (w1 (w1 (w2 (vQ tab rfl (vR rfl callable_52 (done_bad rfl rfl (by decide)) ?_))))))))))))))
          refine vQ tab rfl (vQ tab rfl (vK rfl (vK rfl (vK rfl (vQ tab rfl (w4 (w3 (vc_true rfl (w1 (w2 (vQ tab rfl (vS tab rfl (vQ tab rfl (w4 (w3 (vw_ret (q_thenr ?_)))))))))))))))))
          exact ⟨.inr rfl, rfl⟩
        | some r2 =>
          obtain ⟨x2, q2⟩ := r2
          obtain ⟨t2, g2, lt2, le2, d2⟩ := getN_some (s := B s) (a := t1) (by omega) (by omega) (by rw [d1]; exact h2)
          by_cases hz : t2 = (s.size : Int)
          · have hq : q2 = [] := by rw [← d2, List.drop_of_length_le]; omega
            have hmk : rplMake 0 [x1, x2] (⟨#[]⟩) = ⟨0, x1, x2, 0, 0, 0, 0, 0, ⟨#[]⟩⟩ := by rfl
            cases hm : rplMay ⟨0, x1, x2, 0, 0, 0, 0, 0, ⟨#[]⟩⟩ with
            | false =>
              have hgn : rplC.get (B s) = none := by
                have hp : rplC.parse (B s) = some (⟨0, x1, x2, 0, 0, 0, 0, 0, ⟨#[]⟩⟩, []) := by simp [Codec.parse, rdNs, rplC, rplCnt, rplText, mkB, h0, h1, h2, hq] <;> exact hmk
                unfold Codec.get; rw [hp]; show (if rplMay _ = true then _ else _) = _; rw [hm]; rfl
              rw [rplGet_no hgn]
              refine w1 (w2 (vN tab rfl (vQ tab rfl (w4 (w3 (w1 (w2 (vQ tab rfl (vQ tab rfl (vN tab rfl (vQ tab rfl (w4 (w3 (w1 (w2 (vQ tab rfl (vT rfl callable_51 (rnum_good rfl g0 hs (by decide)) ?_)))))))))))))))))
              refine vQ tab rfl (vN tab rfl (vS tab rfl (w4 (w3 (w1 (w1 (w2 (vT rfl callable_66 (rpl_parts0 (f1 := 0) (f2 := 0) (f3 := 0) (f4 := 0) (f5 := 0) (f6 := 0) (f7 := 0) (d := ⟨#[]⟩) rfl (by decide)) ?_))))))))
              refine vQ tab rfl (vQ tab rfl (w4 (w3 (w5 (vw_rounds 4 (rd_step (w1 (w2 (vQ tab rfl (w4 (w3 (w1 (vc_true rfl (vw_skip (w3 (w1 (w5 (w1 (w2 (vQ tab rfl (vQ tab rfl (vQ tab rfl (w4 ?_)))))))))))))))))))))))
              refine w3 (w2 (vQ tab rfl (vQ tab rfl (vT rfl callable_51 (rnum_good rfl g1 hs (by decide)) ?_))))
              refine vQ tab rfl (vS tab rfl (w4 (q_norm (w3 (w2 (vQ tab rfl (vQ tab rfl (w4 (w3 (rd_step (w1 (w2 (vQ tab rfl (w4 (w3 (w1 (vc_true rfl (vw_skip (w3 (w1 (w5 (w1 (w2 ?_)))))))))))))))))))))))
              refine vQ tab rfl (vQ tab rfl (vQ tab rfl (w4 (w3 (w2 (vQ tab rfl (vQ tab rfl (vT rfl callable_51 (rnum_good rfl g2 hs (by decide)) ?_))))))))
              refine vQ tab rfl (vS tab rfl (w4 (q_norm (w3 (w2 (vQ tab rfl (vQ tab rfl (w4 (w3 (rd_step (w1 (w2 (vQ tab rfl (w4 (w3 (w1 (vc_false rfl (vw_exit (q_thenx (q_thenx (q_here (w3 (w1 ?_)))))))))))))))))))))))
              refine w1 (w2 (vQ tab rfl (vQ tab rfl (vQ tab rfl (w4 (w3 (vc_false rfl (vw_skip (w3 (w1 (w1 (w2 (vQ tab rfl (vR rfl callable_52 (done_good rfl) (vQ tab rfl (vQ tab rfl (vgd_op false rfl rfl rfl (by simp only [hm, decide_eq_true_eq, decide_eq_false_iff_not, Bool.not_eq_eq_eq_not, Bool.not_true, Bool.not_false, bne_iff_ne, bne_eq_false_iff_eq, beq_iff_eq, beq_eq_false_iff_ne, ne_eq, beq_self_eq_true, bne_self_eq_false, Bool.and_eq_true, Bool.and_eq_false_iff, Bool.or_eq_true, Bool.or_eq_false_iff, and_self, and_true, true_and, Bool.false_eq_true, Bool.true_eq_false, not_false_eq_true, not_true_eq_false]; first | done | omega) ?_)))))))))))))))))
              refine vQ tab rfl (vF rfl callable_45 (rpl_may ⟨0, x1, x2, 0, 0, 0, 0, 0, ⟨#[]⟩⟩) (vQ tab rfl (vQ tab rfl (w4 (w3 (vcd_true rfl (by simp only [hm, decide_eq_true_eq, decide_eq_false_iff_not, Bool.not_eq_eq_eq_not, Bool.not_true, Bool.not_false, bne_iff_ne, bne_eq_false_iff_eq, beq_iff_eq, beq_eq_false_iff_ne, ne_eq, beq_self_eq_true, bne_self_eq_false, Bool.and_eq_true, Bool.and_eq_false_iff, Bool.or_eq_true, Bool.or_eq_false_iff, and_self, and_true, true_and, Bool.false_eq_true, Bool.true_eq_false, not_false_eq_true, not_true_eq_false]; first | done | omega) ?_))))))
              refine w1 (w2 (vQ tab rfl (vS tab rfl (vQ tab rfl (w4 (w3 (vw_ret (q_thenr ?_))))))))
              exact ⟨.inr rfl, rfl⟩
            | true =>
              have hgn : rplC.get (B s) = some ⟨0, x1, x2, 0, 0, 0, 0, 0, ⟨#[]⟩⟩ := by
                have hp : rplC.parse (B s) = some (⟨0, x1, x2, 0, 0, 0, 0, 0, ⟨#[]⟩⟩, []) := by simp [Codec.parse, rdNs, rplC, rplCnt, rplText, mkB, h0, h1, h2, hq] <;> exact hmk
                unfold Codec.get; rw [hp]; show (if rplMay _ = true then _ else _) = _; rw [hm]; rfl
              rw [rplGet_ok hgn]
              refine w1 (w2 (vN tab rfl (vQ tab rfl (w4 (w3 (w1 (w2 (vQ tab rfl (vQ tab rfl (vN tab rfl (vQ tab rfl (w4 (w3 (w1 (w2 (vQ tab rfl (vT rfl callable_51 (rnum_good rfl g0 hs (by decide)) ?_)))))))))))))))))
              refine vQ tab rfl (vN tab rfl (vS tab rfl (w4 (w3 (w1 (w1 (w2 (vT rfl callable_66 (rpl_parts0 (f1 := 0) (f2 := 0) (f3 := 0) (f4 := 0) (f5 := 0) (f6 := 0) (f7 := 0) (d := ⟨#[]⟩) rfl (by decide)) ?_))))))))
              refine vQ tab rfl (vQ tab rfl (w4 (w3 (w5 (vw_rounds 4 (rd_step (w1 (w2 (vQ tab rfl (w4 (w3 (w1 (vc_true rfl (vw_skip (w3 (w1 (w5 (w1 (w2 (vQ tab rfl (vQ tab rfl (vQ tab rfl (w4 ?_)))))))))))))))))))))))
              refine w3 (w2 (vQ tab rfl (vQ tab rfl (vT rfl callable_51 (rnum_good rfl g1 hs (by decide)) ?_))))
              refine vQ tab rfl (vS tab rfl (w4 (q_norm (w3 (w2 (vQ tab rfl (vQ tab rfl (w4 (w3 (rd_step (w1 (w2 (vQ tab rfl (w4 (w3 (w1 (vc_true rfl (vw_skip (w3 (w1 (w5 (w1 (w2 ?_)))))))))))))))))))))))
              refine vQ tab rfl (vQ tab rfl (vQ tab rfl (w4 (w3 (w2 (vQ tab rfl (vQ tab rfl (vT rfl callable_51 (rnum_good rfl g2 hs (by decide)) ?_))))))))
              refine vQ tab rfl (vS tab rfl (w4 (q_norm (w3 (w2 (vQ tab rfl (vQ tab rfl (w4 (w3 (rd_step (w1 (w2 (vQ tab rfl (w4 (w3 (w1 (vc_false rfl (vw_exit (q_thenx (q_thenx (q_here (w3 (w1 ?_)))))))))))))))))))))))
              refine w1 (w2 (vQ tab rfl (vQ tab rfl (vQ tab rfl (w4 (w3 (vc_false rfl (vw_skip (w3 (w1 (w1 (w2 (vQ tab rfl (vR rfl callable_52 (done_good rfl) (vQ tab rfl (vQ tab rfl (vgd_op false rfl rfl rfl (by simp only [hm, decide_eq_true_eq, decide_eq_false_iff_not, Bool.not_eq_eq_eq_not, Bool.not_true, Bool.not_false, bne_iff_ne, bne_eq_false_iff_eq, beq_iff_eq, beq_eq_false_iff_ne, ne_eq, beq_self_eq_true, bne_self_eq_false, Bool.and_eq_true, Bool.and_eq_false_iff, Bool.or_eq_true, Bool.or_eq_false_iff, and_self, and_true, true_and, Bool.false_eq_true, Bool.true_eq_false, not_false_eq_true, not_true_eq_false]; first | done | omega) ?_)))))))))))))))))
              refine vQ tab rfl (vF rfl callable_45 (rpl_may ⟨0, x1, x2, 0, 0, 0, 0, 0, ⟨#[]⟩⟩) (vQ tab rfl (vQ tab rfl (w4 (w3 (vcd_false rfl (by simp only [hm, decide_eq_true_eq, decide_eq_false_iff_not, Bool.not_eq_eq_eq_not, Bool.not_true, Bool.not_false, bne_iff_ne, bne_eq_false_iff_eq, beq_iff_eq, beq_eq_false_iff_ne, ne_eq, beq_self_eq_true, bne_self_eq_false, Bool.and_eq_true, Bool.and_eq_false_iff, Bool.or_eq_true, Bool.or_eq_false_iff, and_self, and_true, true_and, Bool.false_eq_true, Bool.true_eq_false, not_false_eq_true, not_true_eq_false]; first | done | omega) ?_))))))
              refine vw_skip (w3 (w1 (w2 (vQ tab rfl (vS tab rfl (vQ tab rfl (w4 (w3 (vw_ret ?_)))))))))
              exact ⟨.inr rfl, rfl⟩
          · have hq : q2 ≠ [] := fun hq => by rw [hq] at d2; have := congrArg List.length d2; rw [List.length_drop] at this; simp at this; omega
            have hgn : rplC.get (B s) = none := by
              obtain ⟨z, zs, hzz⟩ := List.exists_cons_of_ne_nil hq
              simp [Codec.get, Codec.parse, rdNs, rplC, rplCnt, rplText, hzz, h0, h1, h2]
            rw [rplGet_no hgn]
            refine w1 (w2 (vN tab rfl (vQ tab rfl (w4 (w3 (w1 (w2 (vQ tab rfl (vQ tab rfl (vN tab rfl (vQ tab rfl (w4 (w3 (w1 (w2 (vQ tab rfl (vT rfl callable_51 (rnum_good rfl g0 hs (by decide)) ?_)))))))))))))))))
            refine vQ tab rfl (vN tab rfl (vS tab rfl (w4 (w3 (w1 (w1 (w2 (vT rfl callable_66 (rpl_parts0 (f1 := 0) (f2 := 0) (f3 := 0) (f4 := 0) (f5 := 0) (f6 := 0) (f7 := 0) (d := ⟨#[]⟩) rfl (by decide)) ?_))))))))
            refine vQ tab rfl (vQ tab rfl (w4 (w3 (w5 (vw_rounds 4 (rd_step (w1 (w2 (vQ tab rfl (w4 (w3 (w1 (vc_true rfl (vw_skip (w3 (w1 (w5 (w1 (w2 (vQ tab rfl (vQ tab rfl (vQ tab rfl (w4 ?_)))))))))))))))))))))))
            refine w3 (w2 (vQ tab rfl (vQ tab rfl (vT rfl callable_51 (rnum_good rfl g1 hs (by decide)) ?_))))
            refine vQ tab rfl (vS tab rfl (w4 (q_norm (w3 (w2 (vQ tab rfl (vQ tab rfl (w4 (w3 (rd_step (w1 (w2 (vQ tab rfl (w4 (w3 (w1 (vc_true rfl (vw_skip (w3 (w1 (w5 (w1 (w2 ?_)))))))))))))))))))))))
            refine vQ tab rfl (vQ tab rfl (vQ tab rfl (w4 (w3 (w2 (vQ tab rfl (vQ tab rfl (vT rfl callable_51 (rnum_good rfl g2 hs (by decide)) ?_))))))))
            refine vQ tab rfl (vS tab rfl (w4 (q_norm (w3 (w2 (vQ tab rfl (vQ tab rfl (w4 (w3 (rd_step (w1 (w2 (vQ tab rfl (w4 (w3 (w1 (vc_false rfl (vw_exit (q_thenx (q_thenx (q_here (w3 (w1 ?_)))))))))))))))))))))))
            refine w1 (w2 (vQ tab rfl (vQ tab rfl (vQ tab rfl (w4 (w3 (vc_false rfl (vw_skip (w3 (w1 (w1 (w2 (vQ tab rfl (vR rfl callable_52 (done_good rfl) (vQ tab rfl (vQ tab rfl (vgd_op true rfl rfl rfl (by simp only [decide_eq_true_eq, decide_eq_false_iff_not, Bool.not_eq_eq_eq_not, Bool.not_true, Bool.not_false, bne_iff_ne, bne_eq_false_iff_eq, beq_iff_eq, beq_eq_false_iff_ne, ne_eq, beq_self_eq_true, bne_self_eq_false, Bool.and_eq_true, Bool.and_eq_false_iff, Bool.or_eq_true, Bool.or_eq_false_iff, and_self, and_true, true_and, Bool.false_eq_true, Bool.true_eq_false, not_false_eq_true, not_true_eq_false]; first | done | omega) ?_)))))))))))))))))
            refine vK rfl (vK rfl (vK rfl (vQ tab rfl (w4 (w3 (vc_true rfl (w1 (w2 (vQ tab rfl (vS tab rfl (vQ tab rfl (w4 (w3 (vw_ret (q_thenr ?_)))))))))))))))
            exact ⟨.inr rfl, rfl⟩
    ·
      cases h1 : rdN q0 with
      | none =>
        obtain ⟨e, p, hg, he⟩ := getN_none (s := B s) (a := t0) (by omega) (by omega) (by rw [d0]; exact h1)
        rw [rplGet_no (by simp [Codec.get, Codec.parse, rdNs, rplC, rplCnt, rplText, h0, h1])]
        refine w1 (w2 (vN tab rfl (vQ tab rfl (w4 (w3 (w1 (w2 (vQ tab rfl (vQ tab rfl (vN tab rfl (vQ tab rfl (w4 (w3 (w1 (w2 (vQ tab rfl (vT rfl callable_51 (rnum_good rfl g0 hs (by decide)) ?_)))))))))))))))))
        refine vQ tab rfl (vN tab rfl (vS tab rfl (w4 (w3 (w1 (w1 (w2 (vT rfl callable_66 (rpl_parts1 (f1 := 0) (f2 := 0) (f3 := 0) (f4 := 0) (f5 := 0) (f6 := 0) (f7 := 0) (d := ⟨#[]⟩) rfl (by decide)) ?_))))))))
        refine vQ tab rfl (vQ tab rfl (w4 (w3 (w5 (vw_rounds 4 (rd_step (w1 (w2 (vQ tab rfl (w4 (w3 (w1 (vc_true rfl (vw_skip (w3 (w1 (w5 (w1 (w2 (vQ tab rfl (vQ tab rfl (vQ tab rfl (w4 ?_)))))))))))))))))))))))
        refine w3 (w2 (vQ tab rfl (vQ tab rfl (vT rfl callable_51 (rnum_fail rfl hg he hs (by decide)) ?_))))
        refine vQ tab rfl (vS tab rfl (w4 (q_norm (w3 (w2 (vQ tab rfl (vQ tab rfl (w4 (w3 (rd_step (w1 (w2 (vQ tab rfl (w4 (w3 (w1 (vc_true rfl (vw_skip (w3 (w1 (w5 (w1 (w2 ?_)))))))))))))))))))))))
        refine vQ tab rfl (vQ tab rfl (vQ tab rfl (w4 (w3 (w2 (vQ tab rfl (vQ tab rfl (vR rfl callable_51 (rnum_bad rfl rfl (by decide)) ?_))))))))
        refine vQ tab rfl (vS tab rfl (w4 (q_norm (w3 (w2 (vQ tab rfl (vQ tab rfl (w4 (w3 (rd_step (w1 (w2 (vQ tab rfl (w4 (w3 (w1 (vc_true rfl (vw_skip (w3 (w1 (w5 (w1 (w2 ?_)))))))))))))))))))))))
        refine vQ tab rfl (vQ tab rfl (vQ tab rfl (w4 (w3 (w2 (vQ tab rfl (vQ tab rfl (vR rfl callable_51 (rnum_bad rfl rfl (by decide)) ?_))))))))
        refine vQ tab rfl (vS tab rfl (w4 (q_norm (w3 (w2 (vQ tab rfl (vQ tab rfl (w4 (w3 (rd_step (w1 (w2 (vQ tab rfl (w4 (w3 (w1 (vc_false rfl (vw_exit (q_thenx (q_thenx (q_here (w3 (w1 ?_)))))))))))))))))))))))
        refine w1 (w2 (vQ tab rfl (vQ tab rfl (vQ tab rfl (w4 (w3 (vc_false rfl (vw_skip (w3 (w1 (w1 (w2 (vQ tab rfl (vR rfl callable_52 (done_bad rfl rfl (by decide)) ?_))))))))))))))
        refine vQ tab rfl (vQ tab rfl (vK rfl (vK rfl (vK rfl (vQ tab rfl (w4 (w3 (vc_true rfl (w1 (w2 (vQ tab rfl (vS tab rfl (vQ tab rfl (w4 (w3 (vw_ret (q_thenr ?_)))))))))))))))))
        exact ⟨.inr rfl, rfl⟩
      | some r1 =>
        obtain ⟨x1, q1⟩ := r1
        obtain ⟨t1, g1, lt1, le1, d1⟩ := getN_some (s := B s) (a := t0) (by omega) (by omega) (by rw [d0]; exact h1)
        cases h2 : rdN q1 with
        | none =>
          obtain ⟨e, p, hg, he⟩ := getN_none (s := B s) (a := t1) (by omega) (by omega) (by rw [d1]; exact h2)
          rw [rplGet_no (by simp [Codec.get, Codec.parse, rdNs, rplC, rplCnt, rplText, h0, h1, h2])]
          refine w1 (w2 (vN tab rfl (vQ tab rfl (w4 (w3 (w1 (w2 (vQ tab rfl (vQ tab rfl (vN tab rfl (vQ tab rfl (w4 (w3 (w1 (w2 (vQ tab rfl (vT rfl callable_51 (rnum_good rfl g0 hs (by decide)) ?_)))))))))))))))))
          refine vQ tab rfl (vN tab rfl (vS tab rfl (w4 (w3 (w1 (w1 (w2 (vT rfl callable_66 (rpl_parts1 (f1 := 0) (f2 := 0) (f3 := 0) (f4 := 0) (f5 := 0) (f6 := 0) (f7 := 0) (d := ⟨#[]⟩) rfl (by decide)) ?_))))))))
          refine vQ tab rfl (vQ tab rfl (w4 (w3 (w5 (vw_rounds 4 (rd_step (w1 (w2 (vQ tab rfl (w4 (w3 (w1 (vc_true rfl (vw_skip (w3 (w1 (w5 (w1 (w2 (vQ tab rfl (vQ tab rfl (vQ tab rfl (w4 ?_)))))))))))))))))))))))
          refine w3 (w2 (vQ tab rfl (vQ tab rfl (vT rfl callable_51 (rnum_good rfl g1 hs (by decide)) ?_))))
          refine vQ tab rfl (vS tab rfl (w4 (q_norm (w3 (w2 (vQ tab rfl (vQ tab rfl (w4 (w3 (rd_step (w1 (w2 (vQ tab rfl (w4 (w3 (w1 (vc_true rfl (vw_skip (w3 (w1 (w5 (w1 (w2 ?_)))))))))))))))))))))))
          refine vQ tab rfl (vQ tab rfl (vQ tab rfl (w4 (w3 (w2 (vQ tab rfl (vQ tab rfl (vT rfl callable_51 (rnum_fail rfl hg he hs (by decide)) ?_))))))))
          refine vQ tab rfl (vS tab rfl (w4 (q_norm (w3 (w2 (vQ tab rfl (vQ tab rfl (w4 (w3 (rd_step (w1 (w2 (vQ tab rfl (w4 (w3 (w1 (vc_true rfl (vw_skip (w3 (w1 (w5 (w1 (w2 ?_)))))))))))))))))))))))
          refine vQ tab rfl (vQ tab rfl (vQ tab rfl (w4 (w3 (w2 (vQ tab rfl (vQ tab rfl (vR rfl callable_51 (rnum_bad rfl rfl (by decide)) ?_))))))))
          refine vQ tab rfl (vS tab rfl (w4 (q_norm (w3 (w2 (vQ tab rfl (vQ tab rfl (w4 (w3 (rd_step (w1 (w2 (vQ tab rfl (w4 (w3 (w1 (vc_false rfl (vw_exit (q_thenx (q_thenx (q_here (w3 (w1 ?_)))))))))))))))))))))))
          refine w1 (w2 (vQ tab rfl (vQ tab rfl (vQ tab rfl (w4 (w3 (vc_false rfl (vw_skip (w3 (w1 (w1 (w2 (vQ tab rfl (vR rfl callable_52 (done_bad rfl rfl (by decide)) ?_))))))))))))))
          refine vQ tab rfl (vQ tab rfl (vK rfl (vK rfl (vK rfl (vQ tab rfl (w4 (w3 (vc_true rfl (w1 (w2 (vQ tab rfl (vS tab rfl (vQ tab rfl (w4 (w3 (vw_ret (q_thenr ?_)))))))))))))))))
          exact ⟨.inr rfl, rfl⟩
        | some r2 =>
          obtain ⟨x2, q2⟩ := r2
          obtain ⟨t2, g2, lt2, le2, d2⟩ := getN_some (s := B s) (a := t1) (by omega) (by omega) (by rw [d1]; exact h2)
          cases h3 : rdN q2 with
          | none =>
            obtain ⟨e, p, hg, he⟩ := getN_none (s := B s) (a := t2) (by omega) (by omega) (by rw [d2]; exact h3)
            rw [rplGet_no (by simp [Codec.get, Codec.parse, rdNs, rplC, rplCnt, rplText, h0, h1, h2, h3])]
            refine w1 (w2 (vN tab rfl (vQ tab rfl (w4 (w3 (w1 (w2 (vQ tab rfl (vQ tab rfl (vN tab rfl (vQ tab rfl (w4 (w3 (w1 (w2 (vQ tab rfl (vT rfl callable_51 (rnum_good rfl g0 hs (by decide)) ?_)))))))))))))))))
            refine vQ tab rfl (vN tab rfl (vS tab rfl (w4 (w3 (w1 (w1 (w2 (vT rfl callable_66 (rpl_parts1 (f1 := 0) (f2 := 0) (f3 := 0) (f4 := 0) (f5 := 0) (f6 := 0) (f7 := 0) (d := ⟨#[]⟩) rfl (by decide)) ?_))))))))
            refine vQ tab rfl (vQ tab rfl (w4 (w3 (w5 (vw_rounds 4 (rd_step (w1 (w2 (vQ tab rfl (w4 (w3 (w1 (vc_true rfl (vw_skip (w3 (w1 (w5 (w1 (w2 (vQ tab rfl (vQ tab rfl (vQ tab rfl (w4 ?_)))))))))))))))))))))))
            refine w3 (w2 (vQ tab rfl (vQ tab rfl (vT rfl callable_51 (rnum_good rfl g1 hs (by decide)) ?_))))
            refine vQ tab rfl (vS tab rfl (w4 (q_norm (w3 (w2 (vQ tab rfl (vQ tab rfl (w4 (w3 (rd_step (w1 (w2 (vQ tab rfl (w4 (w3 (w1 (vc_true rfl (vw_skip (w3 (w1 (w5 (w1 (w2 ?_)))))))))))))))))))))))
            refine vQ tab rfl (vQ tab rfl (vQ tab rfl (w4 (w3 (w2 (vQ tab rfl (vQ tab rfl (vT rfl callable_51 (rnum_good rfl g2 hs (by decide)) ?_))))))))
            refine vQ tab rfl (vS tab rfl (w4 (q_norm (w3 (w2 (vQ tab rfl (vQ tab rfl (w4 (w3 (rd_step (w1 (w2 (vQ tab rfl (w4 (w3 (w1 (vc_true rfl (vw_skip (w3 (w1 (w5 (w1 (w2 ?_)))))))))))))))))))))))
            refine vQ tab rfl (vQ tab rfl (vQ tab rfl (w4 (w3 (w2 (vQ tab rfl (vQ tab rfl (vT rfl callable_51 (rnum_fail rfl hg he hs (by decide)) ?_))))))))
            refine vQ tab rfl (vS tab rfl (w4 (q_norm (w3 (w2 (vQ tab rfl (vQ tab rfl (w4 (w3 (rd_step (w1 (w2 (vQ tab rfl (w4 (w3 (w1 (vc_false rfl (vw_exit (q_thenx (q_thenx (q_here (w3 (w1 ?_)))))))))))))))))))))))
            refine w1 (w2 (vQ tab rfl (vQ tab rfl (vQ tab rfl (w4 (w3 (vc_false rfl (vw_skip (w3 (w1 (w1 (w2 (vQ tab rfl (vR rfl callable_52 (done_bad rfl rfl (by decide)) ?_))))))))))))))
            refine vQ tab rfl (vQ tab rfl (vK rfl (vK rfl (vK rfl (vQ tab rfl (w4 (w3 (vc_true rfl (w1 (w2 (vQ tab rfl (vS tab rfl (vQ tab rfl (w4 (w3 (vw_ret (q_thenr ?_)))))))))))))))))
            exact ⟨.inr rfl, rfl⟩
          | some r3 =>
            obtain ⟨x3, q3⟩ := r3
            obtain ⟨t3, g3, lt3, le3, d3⟩ := getN_some (s := B s) (a := t2) (by omega) (by omega) (by rw [d2]; exact h3)
            by_cases hz : t3 = (s.size : Int)
            · have hq : q3 = [] := by rw [← d3, List.drop_of_length_le]; omega
              have hmk : rplMake 1 [x1, x2, x3] (⟨#[]⟩) = ⟨1, 0, 0, x1, x2, x3, 0, 0, ⟨#[]⟩⟩ := by rfl
              cases hm : rplMay ⟨1, 0, 0, x1, x2, x3, 0, 0, ⟨#[]⟩⟩ with
              | false =>
                have hgn : rplC.get (B s) = none := by
                  have hp : rplC.parse (B s) = some (⟨1, 0, 0, x1, x2, x3, 0, 0, ⟨#[]⟩⟩, []) := by simp [Codec.parse, rdNs, rplC, rplCnt, rplText, mkB, h0, h1, h2, h3, hq] <;> exact hmk
                  unfold Codec.get; rw [hp]; show (if rplMay _ = true then _ else _) = _; rw [hm]; rfl
                rw [rplGet_no hgn]
                refine w1 (w2 (vN tab rfl (vQ tab rfl (w4 (w3 (w1 (w2 (vQ tab rfl (vQ tab rfl (vN tab rfl (vQ tab rfl (w4 (w3 (w1 (w2 (vQ tab rfl (vT rfl callable_51 (rnum_good rfl g0 hs (by decide)) ?_)))))))))))))))))
                refine vQ tab rfl (vN tab rfl (vS tab rfl (w4 (w3 (w1 (w1 (w2 (vT rfl callable_66 (rpl_parts1 (f1 := 0) (f2 := 0) (f3 := 0) (f4 := 0) (f5 := 0) (f6 := 0) (f7 := 0) (d := ⟨#[]⟩) rfl (by decide)) ?_))))))))
                refine vQ tab rfl (vQ tab rfl (w4 (w3 (w5 (vw_rounds 4 (rd_step (w1 (w2 (vQ tab rfl (w4 (w3 (w1 (vc_true rfl (vw_skip (w3 (w1 (w5 (w1 (w2 (vQ tab rfl (vQ tab rfl (vQ tab rfl (w4 ?_)))))))))))))))))))))))
                refine w3 (w2 (vQ tab rfl (vQ tab rfl (vT rfl callable_51 (rnum_good rfl g1 hs (by decide)) ?_))))
                refine vQ tab rfl (vS tab rfl (w4 (q_norm (w3 (w2 (vQ tab rfl (vQ tab rfl (w4 (w3 (rd_step (w1 (w2 (vQ tab rfl (w4 (w3 (w1 (vc_true rfl (vw_skip (w3 (w1 (w5 (w1 (w2 ?_)))))))))))))))))))))))
                refine vQ tab rfl (vQ tab rfl (vQ tab rfl (w4 (w3 (w2 (vQ tab rfl (vQ tab rfl (vT rfl callable_51 (rnum_good rfl g2 hs (by decide)) ?_))))))))
                refine vQ tab rfl (vS tab rfl (w4 (q_norm (w3 (w2 (vQ tab rfl (vQ tab rfl (w4 (w3 (rd_step (w1 (w2 (vQ tab rfl (w4 (w3 (w1 (vc_true rfl (vw_skip (w3 (w1 (w5 (w1 (w2 ?_)))))))))))))))))))))))
                refine vQ tab rfl (vQ tab rfl (vQ tab rfl (w4 (w3 (w2 (vQ tab rfl (vQ tab rfl (vT rfl callable_51 (rnum_good rfl g3 hs (by decide)) ?_))))))))
                refine vQ tab rfl (vS tab rfl (w4 (q_norm (w3 (w2 (vQ tab rfl (vQ tab rfl (w4 (w3 (rd_step (w1 (w2 (vQ tab rfl (w4 (w3 (w1 (vc_false rfl (vw_exit (q_thenx (q_thenx (q_here (w3 (w1 ?_)))))))))))))))))))))))
                refine w1 (w2 (vQ tab rfl (vQ tab rfl (vQ tab rfl (w4 (w3 (vc_false rfl (vw_skip (w3 (w1 (w1 (w2 (vQ tab rfl (vR rfl callable_52 (done_good rfl) (vQ tab rfl (vQ tab rfl (vgd_op false rfl rfl rfl (by simp only [hm, decide_eq_true_eq, decide_eq_false_iff_not, Bool.not_eq_eq_eq_not, Bool.not_true, Bool.not_false, bne_iff_ne, bne_eq_false_iff_eq, beq_iff_eq, beq_eq_false_iff_ne, ne_eq, beq_self_eq_true, bne_self_eq_false, Bool.and_eq_true, Bool.and_eq_false_iff, Bool.or_eq_true, Bool.or_eq_false_iff, and_self, and_true, true_and, Bool.false_eq_true, Bool.true_eq_false, not_false_eq_true, not_true_eq_false]; first | done | omega) ?_)))))))))))))))))
                refine vQ tab rfl (vF rfl callable_45 (rpl_may ⟨1, 0, 0, x1, x2, x3, 0, 0, ⟨#[]⟩⟩) (vQ tab rfl (vQ tab rfl (w4 (w3 (vcd_true rfl (by simp only [hm, decide_eq_true_eq, decide_eq_false_iff_not, Bool.not_eq_eq_eq_not, Bool.not_true, Bool.not_false, bne_iff_ne, bne_eq_false_iff_eq, beq_iff_eq, beq_eq_false_iff_ne, ne_eq, beq_self_eq_true, bne_self_eq_false, Bool.and_eq_true, Bool.and_eq_false_iff, Bool.or_eq_true, Bool.or_eq_false_iff, and_self, and_true, true_and, Bool.false_eq_true, Bool.true_eq_false, not_false_eq_true, not_true_eq_false]; first | done | omega) ?_))))))
                refine w1 (w2 (vQ tab rfl (vS tab rfl (vQ tab rfl (w4 (w3 (vw_ret (q_thenr ?_))))))))
                exact ⟨.inr rfl, rfl⟩
              | true =>
                have hgn : rplC.get (B s) = some ⟨1, 0, 0, x1, x2, x3, 0, 0, ⟨#[]⟩⟩ := by
                  have hp : rplC.parse (B s) = some (⟨1, 0, 0, x1, x2, x3, 0, 0, ⟨#[]⟩⟩, []) := by simp [Codec.parse, rdNs, rplC, rplCnt, rplText, mkB, h0, h1, h2, h3, hq] <;> exact hmk
                  unfold Codec.get; rw [hp]; show (if rplMay _ = true then _ else _) = _; rw [hm]; rfl
                rw [rplGet_ok hgn]
                refine w1 (w2 (vN tab rfl (vQ tab rfl (w4 (w3 (w1 (w2 (vQ tab rfl (vQ tab rfl (vN tab rfl (vQ tab rfl (w4 (w3 (w1 (w2 (vQ tab rfl (vT rfl callable_51 (rnum_good rfl g0 hs (by decide)) ?_)))))))))))))))))
                refine vQ tab rfl (vN tab rfl (vS tab rfl (w4 (w3 (w1 (w1 (w2 (vT rfl callable_66 (rpl_parts1 (f1 := 0) (f2 := 0) (f3 := 0) (f4 := 0) (f5 := 0) (f6 := 0) (f7 := 0) (d := ⟨#[]⟩) rfl (by decide)) ?_))))))))
                refine vQ tab rfl (vQ tab rfl (w4 (w3 (w5 (vw_rounds 4 (rd_step (w1 (w2 (vQ tab rfl (w4 (w3 (w1 (vc_true rfl (vw_skip (w3 (w1 (w5 (w1 (w2 (vQ tab rfl (vQ tab rfl (vQ tab rfl (w4 ?_)))))))))))))))))))))))
                refine w3 (w2 (vQ tab rfl (vQ tab rfl (vT rfl callable_51 (rnum_good rfl g1 hs (by decide)) ?_))))
                refine vQ tab rfl (vS tab rfl (w4 (q_norm (w3 (w2 (vQ tab rfl (vQ tab rfl (w4 (w3 (rd_step (w1 (w2 (vQ tab rfl (w4 (w3 (w1 (vc_true rfl (vw_skip (w3 (w1 (w5 (w1 (w2 ?_)))))))))))))))))))))))
                refine vQ tab rfl (vQ tab rfl (vQ tab rfl (w4 (w3 (w2 (vQ tab rfl (vQ tab rfl (vT rfl callable_51 (rnum_good rfl g2 hs (by decide)) ?_))))))))
                refine vQ tab rfl (vS tab rfl (w4 (q_norm (w3 (w2 (vQ tab rfl (vQ tab rfl (w4 (w3 (rd_step (w1 (w2 (vQ tab rfl (w4 (w3 (w1 (vc_true rfl (vw_skip (w3 (w1 (w5 (w1 (w2 ?_)))))))))))))))))))))))
                refine vQ tab rfl (vQ tab rfl (vQ tab rfl (w4 (w3 (w2 (vQ tab rfl (vQ tab rfl (vT rfl callable_51 (rnum_good rfl g3 hs (by decide)) ?_))))))))
                refine vQ tab rfl (vS tab rfl (w4 (q_norm (w3 (w2 (vQ tab rfl (vQ tab rfl (w4 (w3 (rd_step (w1 (w2 (vQ tab rfl (w4 (w3 (w1 (vc_false rfl (vw_exit (q_thenx (q_thenx (q_here (w3 (w1 ?_)))))))))))))))))))))))
                refine w1 (w2 (vQ tab rfl (vQ tab rfl (vQ tab rfl (w4 (w3 (vc_false rfl (vw_skip (w3 (w1 (w1 (w2 (vQ tab rfl (vR rfl callable_52 (done_good rfl) (vQ tab rfl (vQ tab rfl (vgd_op false rfl rfl rfl (by simp only [hm, decide_eq_true_eq, decide_eq_false_iff_not, Bool.not_eq_eq_eq_not, Bool.not_true, Bool.not_false, bne_iff_ne, bne_eq_false_iff_eq, beq_iff_eq, beq_eq_false_iff_ne, ne_eq, beq_self_eq_true, bne_self_eq_false, Bool.and_eq_true, Bool.and_eq_false_iff, Bool.or_eq_true, Bool.or_eq_false_iff, and_self, and_true, true_and, Bool.false_eq_true, Bool.true_eq_false, not_false_eq_true, not_true_eq_false]; first | done | omega) ?_)))))))))))))))))
                refine vQ tab rfl (vF rfl callable_45 (rpl_may ⟨1, 0, 0, x1, x2, x3, 0, 0, ⟨#[]⟩⟩) (vQ tab rfl (vQ tab rfl (w4 (w3 (vcd_false rfl (by simp only [hm, decide_eq_true_eq, decide_eq_false_iff_not, Bool.not_eq_eq_eq_not, Bool.not_true, Bool.not_false, bne_iff_ne, bne_eq_false_iff_eq, beq_iff_eq, beq_eq_false_iff_ne, ne_eq, beq_self_eq_true, bne_self_eq_false, Bool.and_eq_true, Bool.and_eq_false_iff, Bool.or_eq_true, Bool.or_eq_false_iff, and_self, and_true, true_and, Bool.false_eq_true, Bool.true_eq_false, not_false_eq_true, not_true_eq_false]; first | done | omega) ?_))))))
                refine vw_skip (w3 (w1 (w2 (vQ tab rfl (vS tab rfl (vQ tab rfl (w4 (w3 (vw_ret ?_)))))))))
                exact ⟨.inr rfl, rfl⟩
            · have hq : q3 ≠ [] := fun hq => by rw [hq] at d3; have := congrArg List.length d3; rw [List.length_drop] at this; simp at this; omega
              have hgn : rplC.get (B s) = none := by
                obtain ⟨z, zs, hzz⟩ := List.exists_cons_of_ne_nil hq
                simp [Codec.get, Codec.parse, rdNs, rplC, rplCnt, rplText, hzz, h0, h1, h2, h3]
              rw [rplGet_no hgn]
              refine w1 (w2 (vN tab rfl (vQ tab rfl (w4 (w3 (w1 (w2 (vQ tab rfl (vQ tab rfl (vN tab rfl (vQ tab rfl (w4 (w3 (w1 (w2 (vQ tab rfl (vT rfl callable_51 (rnum_good rfl g0 hs (by decide)) ?_)))))))))))))))))
              refine vQ tab rfl (vN tab rfl (vS tab rfl (w4 (w3 (w1 (w1 (w2 (vT rfl callable_66 (rpl_parts1 (f1 := 0) (f2 := 0) (f3 := 0) (f4 := 0) (f5 := 0) (f6 := 0) (f7 := 0) (d := ⟨#[]⟩) rfl (by decide)) ?_))))))))
              refine vQ tab rfl (vQ tab rfl (w4 (w3 (w5 (vw_rounds 4 (rd_step (w1 (w2 (vQ tab rfl (w4 (w3 (w1 (vc_true rfl (vw_skip (w3 (w1 (w5 (w1 (w2 (vQ tab rfl (vQ tab rfl (vQ tab rfl (w4 ?_)))))))))))))))))))))))
              refine w3 (w2 (vQ tab rfl (vQ tab rfl (vT rfl callable_51 (rnum_good rfl g1 hs (by decide)) ?_))))
              refine vQ tab rfl (vS tab rfl (w4 (q_norm (w3 (w2 (vQ tab rfl (vQ tab rfl (w4 (w3 (rd_step (w1 (w2 (vQ tab rfl (w4 (w3 (w1 (vc_true rfl (vw_skip (w3 (w1 (w5 (w1 (w2 ?_)))))))))))))))))))))))
              refine vQ tab rfl (vQ tab rfl (vQ tab rfl (w4 (w3 (w2 (vQ tab rfl (vQ tab rfl (vT rfl callable_51 (rnum_good rfl g2 hs (by decide)) ?_))))))))
              refine vQ tab rfl (vS tab rfl (w4 (q_norm (w3 (w2 (vQ tab rfl (vQ tab rfl (w4 (w3 (rd_step (w1 (w2 (vQ tab rfl (w4 (w3 (w1 (vc_true rfl (vw_skip (w3 (w1 (w5 (w1 (w2 ?_)))))))))))))))))))))))
              refine vQ tab rfl (vQ tab rfl (vQ tab rfl (w4 (w3 (w2 (vQ tab rfl (vQ tab rfl (vT rfl callable_51 (rnum_good rfl g3 hs (by decide)) ?_))))))))
              refine vQ tab rfl (vS tab rfl (w4 (q_norm (w3 (w2 (vQ tab rfl (vQ tab rfl (w4 (w3 (rd_step (w1 (w2 (vQ tab rfl (w4 (w3 (w1 (vc_false rfl (vw_exit (q_thenx (q_thenx (q_here (w3 (w1 ?_)))))))))))))))))))))))
              refine w1 (w2 (vQ tab rfl (vQ tab rfl (vQ tab rfl (w4 (w3 (vc_false rfl (vw_skip (w3 (w1 (w1 (w2 (vQ tab rfl (vR rfl callable_52 (done_good rfl) (vQ tab rfl (vQ tab rfl (vgd_op true rfl rfl rfl (by simp only [decide_eq_true_eq, decide_eq_false_iff_not, Bool.not_eq_eq_eq_not, Bool.not_true, Bool.not_false, bne_iff_ne, bne_eq_false_iff_eq, beq_iff_eq, beq_eq_false_iff_ne, ne_eq, beq_self_eq_true, bne_self_eq_false, Bool.and_eq_true, Bool.and_eq_false_iff, Bool.or_eq_true, Bool.or_eq_false_iff, and_self, and_true, true_and, Bool.false_eq_true, Bool.true_eq_false, not_false_eq_true, not_true_eq_false]; first | done | omega) ?_)))))))))))))))))
              refine vK rfl (vK rfl (vK rfl (vQ tab rfl (w4 (w3 (vc_true rfl (w1 (w2 (vQ tab rfl (vS tab rfl (vQ tab rfl (w4 (w3 (vw_ret (q_thenr ?_)))))))))))))))
              exact ⟨.inr rfl, rfl⟩
    ·
      cases h1 : rdN q0 with
      | none =>
        obtain ⟨e, p, hg, he⟩ := getN_none (s := B s) (a := t0) (by omega) (by omega) (by rw [d0]; exact h1)
        rw [rplGet_no (by simp [Codec.get, Codec.parse, rdNs, rplC, rplCnt, rplText, h0, h1])]
        refine w1 (w2 (vN tab rfl (vQ tab rfl (w4 (w3 (w1 (w2 (vQ tab rfl (vQ tab rfl (vN tab rfl (vQ tab rfl (w4 (w3 (w1 (w2 (vQ tab rfl (vT rfl callable_51 (rnum_good rfl g0 hs (by decide)) ?_)))))))))))))))))
        refine vQ tab rfl (vN tab rfl (vS tab rfl (w4 (w3 (w1 (w1 (w2 (vT rfl callable_66 (rpl_parts2 (f1 := 0) (f2 := 0) (f3 := 0) (f4 := 0) (f5 := 0) (f6 := 0) (f7 := 0) (d := ⟨#[]⟩) rfl (by decide)) ?_))))))))
        refine vQ tab rfl (vQ tab rfl (w4 (w3 (w5 (vw_rounds 4 (rd_step (w1 (w2 (vQ tab rfl (w4 (w3 (w1 (vc_true rfl (vw_skip (w3 (w1 (w5 (w1 (w2 (vQ tab rfl (vQ tab rfl (vQ tab rfl (w4 ?_)))))))))))))))))))))))
        refine w3 (w2 (vQ tab rfl (vQ tab rfl (vT rfl callable_51 (rnum_fail rfl hg he hs (by decide)) ?_))))
        refine vQ tab rfl (vS tab rfl (w4 (q_norm (w3 (w2 (vQ tab rfl (vQ tab rfl (w4 (w3 (rd_step (w1 (w2 (vQ tab rfl (w4 (w3 (w1 (vc_true rfl (vw_skip (w3 (w1 (w5 (w1 (w2 ?_)))))))))))))))))))))))
        refine vQ tab rfl (vQ tab rfl (vQ tab rfl (w4 (w3 (w2 (vQ tab rfl (vQ tab rfl (vR rfl callable_51 (rnum_bad rfl rfl (by decide)) ?_))))))))
        refine vQ tab rfl (vS tab rfl (w4 (q_norm (w3 (w2 (vQ tab rfl (vQ tab rfl (w4 (w3 (rd_step (w1 (w2 (vQ tab rfl (w4 (w3 (w1 (vc_false rfl (vw_exit (q_thenx (q_thenx (q_here (w3 (w1 ?_)))))))))))))))))))))))
        refine w1 (w2 (vQ tab rfl (vQ tab rfl (vQ tab rfl (w4 (w3 (vc_true rfl (w2 (vQ tab rfl (vR rfl callable_63 (rtext_bad rfl rfl (by decide)) ?_))))))))))
        refine vQ tab rfl (vS tab rfl (w4 (w3 (w1 (w1 (w2 (vQ tab rfl (vR rfl callable_52 (done_bad rfl rfl (by decide)) ?_))))))))
        refine vQ tab rfl (vQ tab rfl (vK rfl (vK rfl (vK rfl (vQ tab rfl (w4 (w3 (vc_true rfl (w1 (w2 (vQ tab rfl (vS tab rfl (vQ tab rfl (w4 (w3 (vw_ret (q_thenr ?_)))))))))))))))))
        exact ⟨.inr rfl, rfl⟩
      | some r1 =>
        obtain ⟨x1, q1⟩ := r1
        obtain ⟨t1, g1, lt1, le1, d1⟩ := getN_some (s := B s) (a := t0) (by omega) (by omega) (by rw [d0]; exact h1)
        cases h2 : rdN q1 with
        | none =>
          obtain ⟨e, p, hg, he⟩ := getN_none (s := B s) (a := t1) (by omega) (by omega) (by rw [d1]; exact h2)
          rw [rplGet_no (by simp [Codec.get, Codec.parse, rdNs, rplC, rplCnt, rplText, h0, h1, h2])]
          refine w1 (w2 (vN tab rfl (vQ tab rfl (w4 (w3 (w1 (w2 (vQ tab rfl (vQ tab rfl (vN tab rfl (vQ tab rfl (w4 (w3 (w1 (w2 (vQ tab rfl (vT rfl callable_51 (rnum_good rfl g0 hs (by decide)) ?_)))))))))))))))))
          refine vQ tab rfl (vN tab rfl (vS tab rfl (w4 (w3 (w1 (w1 (w2 (vT rfl callable_66 (rpl_parts2 (f1 := 0) (f2 := 0) (f3 := 0) (f4 := 0) (f5 := 0) (f6 := 0) (f7 := 0) (d := ⟨#[]⟩) rfl (by decide)) ?_))))))))
          refine vQ tab rfl (vQ tab rfl (w4 (w3 (w5 (vw_rounds 4 (rd_step (w1 (w2 (vQ tab rfl (w4 (w3 (w1 (vc_true rfl (vw_skip (w3 (w1 (w5 (w1 (w2 (vQ tab rfl (vQ tab rfl (vQ tab rfl (w4 ?_)))))))))))))))))))))))
          refine w3 (w2 (vQ tab rfl (vQ tab rfl (vT rfl callable_51 (rnum_good rfl g1 hs (by decide)) ?_))))
          refine vQ tab rfl (vS tab rfl (w4 (q_norm (w3 (w2 (vQ tab rfl (vQ tab rfl (w4 (w3 (rd_step (w1 (w2 (vQ tab rfl (w4 (w3 (w1 (vc_true rfl (vw_skip (w3 (w1 (w5 (w1 (w2 ?_)))))))))))))))))))))))
          refine vQ tab rfl (vQ tab rfl (vQ tab rfl (w4 (w3 (w2 (vQ tab rfl (vQ tab rfl (vT rfl callable_51 (rnum_fail rfl hg he hs (by decide)) ?_))))))))
          refine vQ tab rfl (vS tab rfl (w4 (q_norm (w3 (w2 (vQ tab rfl (vQ tab rfl (w4 (w3 (rd_step (w1 (w2 (vQ tab rfl (w4 (w3 (w1 (vc_false rfl (vw_exit (q_thenx (q_thenx (q_here (w3 (w1 ?_)))))))))))))))))))))))
          refine w1 (w2 (vQ tab rfl (vQ tab rfl (vQ tab rfl (w4 (w3 (vc_true rfl (w2 (vQ tab rfl (vR rfl callable_63 (rtext_bad rfl rfl (by decide)) ?_))))))))))
          refine vQ tab rfl (vS tab rfl (w4 (w3 (w1 (w1 (w2 (vQ tab rfl (vR rfl callable_52 (done_bad rfl rfl (by decide)) ?_))))))))
          refine vQ tab rfl (vQ tab rfl (vK rfl (vK rfl (vK rfl (vQ tab rfl (w4 (w3 (vc_true rfl (w1 (w2 (vQ tab rfl (vS tab rfl (vQ tab rfl (w4 (w3 (vw_ret (q_thenr ?_)))))))))))))))))
          exact ⟨.inr rfl, rfl⟩
        | some r2 =>
          obtain ⟨x2, q2⟩ := r2
          obtain ⟨t2, g2, lt2, le2, d2⟩ := getN_some (s := B s) (a := t1) (by omega) (by omega) (by rw [d1]; exact h2)
          cases hT : rdT q2 with
          | none =>
            have hT2 : rdT ((B s).drop t2.toNat) = none := by rw [d2]; exact hT
            rcases getT_none (s := B s) (a := t2) (by omega) (by omega) hT2 with ⟨e, p, hg, he⟩ | ⟨e, p, hg, he⟩
            ·
              rw [rplGet_no (by simp [Codec.get, Codec.parse, rdNs, rplC, rplCnt, rplText, h0, h1, h2, hT])]
              refine w1 (w2 (vN tab rfl (vQ tab rfl (w4 (w3 (w1 (w2 (vQ tab rfl (vQ tab rfl (vN tab rfl (vQ tab rfl (w4 (w3 (w1 (w2 (vQ tab rfl (vT rfl callable_51 (rnum_good rfl g0 hs (by decide)) ?_)))))))))))))))))
              refine vQ tab rfl (vN tab rfl (vS tab rfl (w4 (w3 (w1 (w1 (w2 (vT rfl callable_66 (rpl_parts2 (f1 := 0) (f2 := 0) (f3 := 0) (f4 := 0) (f5 := 0) (f6 := 0) (f7 := 0) (d := ⟨#[]⟩) rfl (by decide)) ?_))))))))
              refine vQ tab rfl (vQ tab rfl (w4 (w3 (w5 (vw_rounds 4 (rd_step (w1 (w2 (vQ tab rfl (w4 (w3 (w1 (vc_true rfl (vw_skip (w3 (w1 (w5 (w1 (w2 (vQ tab rfl (vQ tab rfl (vQ tab rfl (w4 ?_)))))))))))))))))))))))
              refine w3 (w2 (vQ tab rfl (vQ tab rfl (vT rfl callable_51 (rnum_good rfl g1 hs (by decide)) ?_))))
              refine vQ tab rfl (vS tab rfl (w4 (q_norm (w3 (w2 (vQ tab rfl (vQ tab rfl (w4 (w3 (rd_step (w1 (w2 (vQ tab rfl (w4 (w3 (w1 (vc_true rfl (vw_skip (w3 (w1 (w5 (w1 (w2 ?_)))))))))))))))))))))))
              refine vQ tab rfl (vQ tab rfl (vQ tab rfl (w4 (w3 (w2 (vQ tab rfl (vQ tab rfl (vT rfl callable_51 (rnum_good rfl g2 hs (by decide)) ?_))))))))
              refine vQ tab rfl (vS tab rfl (w4 (q_norm (w3 (w2 (vQ tab rfl (vQ tab rfl (w4 (w3 (rd_step (w1 (w2 (vQ tab rfl (w4 (w3 (w1 (vc_false rfl (vw_exit (q_thenx (q_thenx (q_here (w3 (w1 ?_)))))))))))))))))))))))
              refine w1 (w2 (vQ tab rfl (vQ tab rfl (vQ tab rfl (w4 (w3 (vc_true rfl (w2 (vQ tab rfl (vT rfl callable_63 (rtext_fail rfl hg he hs (by decide)) ?_))))))))))
              refine vQ tab rfl (vS tab rfl (w4 (w3 (w1 (w1 (w2 (vQ tab rfl (vR rfl callable_52 (done_bad2 rfl rfl rfl (by decide) (by decide) (by decide)) ?_))))))))
              refine vQ tab rfl (vQ tab rfl (vK rfl (vK rfl (vK rfl (vQ tab rfl (w4 (w3 (vc_true rfl (w1 (w2 (vQ tab rfl (vS tab rfl (vQ tab rfl (w4 (w3 (vw_ret (q_thenr ?_)))))))))))))))))
              exact ⟨.inr rfl, rfl⟩
            ·
              rw [rplGet_no (by simp [Codec.get, Codec.parse, rdNs, rplC, rplCnt, rplText, h0, h1, h2, hT])]
              refine w1 (w2 (vN tab rfl (vQ tab rfl (w4 (w3 (w1 (w2 (vQ tab rfl (vQ tab rfl (vN tab rfl (vQ tab rfl (w4 (w3 (w1 (w2 (vQ tab rfl (vT rfl callable_51 (rnum_good rfl g0 hs (by decide)) ?_)))))))))))))))))
              refine vQ tab rfl (vN tab rfl (vS tab rfl (w4 (w3 (w1 (w1 (w2 (vT rfl callable_66 (rpl_parts2 (f1 := 0) (f2 := 0) (f3 := 0) (f4 := 0) (f5 := 0) (f6 := 0) (f7 := 0) (d := ⟨#[]⟩) rfl (by decide)) ?_))))))))
              refine vQ tab rfl (vQ tab rfl (w4 (w3 (w5 (vw_rounds 4 (rd_step (w1 (w2 (vQ tab rfl (w4 (w3 (w1 (vc_true rfl (vw_skip (w3 (w1 (w5 (w1 (w2 (vQ tab rfl (vQ tab rfl (vQ tab rfl (w4 ?_)))))))))))))))))))))))
              refine w3 (w2 (vQ tab rfl (vQ tab rfl (vT rfl callable_51 (rnum_good rfl g1 hs (by decide)) ?_))))
              refine vQ tab rfl (vS tab rfl (w4 (q_norm (w3 (w2 (vQ tab rfl (vQ tab rfl (w4 (w3 (rd_step (w1 (w2 (vQ tab rfl (w4 (w3 (w1 (vc_true rfl (vw_skip (w3 (w1 (w5 (w1 (w2 ?_)))))))))))))))))))))))
              refine vQ tab rfl (vQ tab rfl (vQ tab rfl (w4 (w3 (w2 (vQ tab rfl (vQ tab rfl (vT rfl callable_51 (rnum_good rfl g2 hs (by decide)) ?_))))))))
              refine vQ tab rfl (vS tab rfl (w4 (q_norm (w3 (w2 (vQ tab rfl (vQ tab rfl (w4 (w3 (rd_step (w1 (w2 (vQ tab rfl (w4 (w3 (w1 (vc_false rfl (vw_exit (q_thenx (q_thenx (q_here (w3 (w1 ?_)))))))))))))))))))))))
              refine w1 (w2 (vQ tab rfl (vQ tab rfl (vQ tab rfl (w4 (w3 (vc_true rfl (w2 (vQ tab rfl (vT rfl callable_63 (rtext_cut rfl hg hs (by decide)) ?_))))))))))
              refine vQ tab rfl (vS tab rfl (w4 (w3 (w1 (w1 (w2 (vQ tab rfl (vR rfl callable_52 (done_bad rfl rfl (by decide)) ?_))))))))
              refine vQ tab rfl (vQ tab rfl (vK rfl (vK rfl (vK rfl (vQ tab rfl (w4 (w3 (vc_true rfl (w1 (w2 (vQ tab rfl (vS tab rfl (vQ tab rfl (w4 (w3 (vw_ret (q_thenr ?_)))))))))))))))))
              exact ⟨.inr rfl, rfl⟩
          | some rT =>
            obtain ⟨tx, qT⟩ := rT
            obtain ⟨tT, gT, ltT, leT, dT⟩ := getT_some (s := B s) (a := t2) (by omega) (by omega) (by rw [d2]; exact hT)
            by_cases hz : tT = (s.size : Int)
            · have hq : qT = [] := by rw [← dT, List.drop_of_length_le]; omega
              have hmk : rplMake 2 [x1, x2] (mkB tx) = ⟨2, 0, 0, x1, 0, 0, x2, 0, mkB tx⟩ := by rfl
              cases hm : rplMay ⟨2, 0, 0, x1, 0, 0, x2, 0, mkB tx⟩ with
              | false =>
                have hgn : rplC.get (B s) = none := by
                  have hp : rplC.parse (B s) = some (⟨2, 0, 0, x1, 0, 0, x2, 0, mkB tx⟩, []) := by simp [Codec.parse, rdNs, rplC, rplCnt, rplText, mkB, h0, h1, h2, hT, hq] <;> exact hmk
                  unfold Codec.get; rw [hp]; show (if rplMay _ = true then _ else _) = _; rw [hm]; rfl
                rw [rplGet_no hgn]
                refine w1 (w2 (vN tab rfl (vQ tab rfl (w4 (w3 (w1 (w2 (vQ tab rfl (vQ tab rfl (vN tab rfl (vQ tab rfl (w4 (w3 (w1 (w2 (vQ tab rfl (vT rfl callable_51 (rnum_good rfl g0 hs (by decide)) ?_)))))))))))))))))
                refine vQ tab rfl (vN tab rfl (vS tab rfl (w4 (w3 (w1 (w1 (w2 (vT rfl callable_66 (rpl_parts2 (f1 := 0) (f2 := 0) (f3 := 0) (f4 := 0) (f5 := 0) (f6 := 0) (f7 := 0) (d := ⟨#[]⟩) rfl (by decide)) ?_))))))))
                refine vQ tab rfl (vQ tab rfl (w4 (w3 (w5 (vw_rounds 4 (rd_step (w1 (w2 (vQ tab rfl (w4 (w3 (w1 (vc_true rfl (vw_skip (w3 (w1 (w5 (w1 (w2 (vQ tab rfl (vQ tab rfl (vQ tab rfl (w4 ?_)))))))))))))))))))))))
                refine w3 (w2 (vQ tab rfl (vQ tab rfl (vT rfl callable_51 (rnum_good rfl g1 hs (by decide)) ?_))))
                refine vQ tab rfl (vS tab rfl (w4 (q_norm (w3 (w2 (vQ tab rfl (vQ tab rfl (w4 (w3 (rd_step (w1 (w2 (vQ tab rfl (w4 (w3 (w1 (vc_true rfl (vw_skip (w3 (w1 (w5 (w1 (w2 ?_)))))))))))))))))))))))
                refine vQ tab rfl (vQ tab rfl (vQ tab rfl (w4 (w3 (w2 (vQ tab rfl (vQ tab rfl (vT rfl callable_51 (rnum_good rfl g2 hs (by decide)) ?_))))))))
                refine vQ tab rfl (vS tab rfl (w4 (q_norm (w3 (w2 (vQ tab rfl (vQ tab rfl (w4 (w3 (rd_step (w1 (w2 (vQ tab rfl (w4 (w3 (w1 (vc_false rfl (vw_exit (q_thenx (q_thenx (q_here (w3 (w1 ?_)))))))))))))))))))))))
                refine w1 (w2 (vQ tab rfl (vQ tab rfl (vQ tab rfl (w4 (w3 (vc_true rfl (w2 (vQ tab rfl (vT rfl callable_63 (rtext_good rfl gT hs (by decide)) ?_))))))))))
                refine vQ tab rfl (vS tab rfl (w4 (w3 (w1 (w1 (w2 (vQ tab rfl (vR rfl callable_52 (done_good rfl) (vQ tab rfl (vQ tab rfl (vgd_op false rfl rfl rfl (by simp only [hm, decide_eq_true_eq, decide_eq_false_iff_not, Bool.not_eq_eq_eq_not, Bool.not_true, Bool.not_false, bne_iff_ne, bne_eq_false_iff_eq, beq_iff_eq, beq_eq_false_iff_ne, ne_eq, beq_self_eq_true, bne_self_eq_false, Bool.and_eq_true, Bool.and_eq_false_iff, Bool.or_eq_true, Bool.or_eq_false_iff, and_self, and_true, true_and, Bool.false_eq_true, Bool.true_eq_false, not_false_eq_true, not_true_eq_false]; first | done | omega) ?_)))))))))))
                refine vQ tab rfl (vF rfl callable_45 (rpl_may ⟨2, 0, 0, x1, 0, 0, x2, 0, mkB tx⟩) (vQ tab rfl (vQ tab rfl (w4 (w3 (vcd_true rfl (by simp only [hm, decide_eq_true_eq, decide_eq_false_iff_not, Bool.not_eq_eq_eq_not, Bool.not_true, Bool.not_false, bne_iff_ne, bne_eq_false_iff_eq, beq_iff_eq, beq_eq_false_iff_ne, ne_eq, beq_self_eq_true, bne_self_eq_false, Bool.and_eq_true, Bool.and_eq_false_iff, Bool.or_eq_true, Bool.or_eq_false_iff, and_self, and_true, true_and, Bool.false_eq_true, Bool.true_eq_false, not_false_eq_true, not_true_eq_false]; first | done | omega) ?_))))))
                refine w1 (w2 (vQ tab rfl (vS tab rfl (vQ tab rfl (w4 (w3 (vw_ret (q_thenr ?_))))))))
                exact ⟨.inr rfl, rfl⟩
              | true =>
                have hgn : rplC.get (B s) = some ⟨2, 0, 0, x1, 0, 0, x2, 0, mkB tx⟩ := by
                  have hp : rplC.parse (B s) = some (⟨2, 0, 0, x1, 0, 0, x2, 0, mkB tx⟩, []) := by simp [Codec.parse, rdNs, rplC, rplCnt, rplText, mkB, h0, h1, h2, hT, hq] <;> exact hmk
                  unfold Codec.get; rw [hp]; show (if rplMay _ = true then _ else _) = _; rw [hm]; rfl
                rw [rplGet_ok hgn]
                refine w1 (w2 (vN tab rfl (vQ tab rfl (w4 (w3 (w1 (w2 (vQ tab rfl (vQ tab rfl (vN tab rfl (vQ tab rfl (w4 (w3 (w1 (w2 (vQ tab rfl (vT rfl callable_51 (rnum_good rfl g0 hs (by decide)) ?_)))))))))))))))))
                refine vQ tab rfl (vN tab rfl (vS tab rfl (w4 (w3 (w1 (w1 (w2 (vT rfl callable_66 (rpl_parts2 (f1 := 0) (f2 := 0) (f3 := 0) (f4 := 0) (f5 := 0) (f6 := 0) (f7 := 0) (d := ⟨#[]⟩) rfl (by decide)) ?_))))))))
                refine vQ tab rfl (vQ tab rfl (w4 (w3 (w5 (vw_rounds 4 (rd_step (w1 (w2 (vQ tab rfl (w4 (w3 (w1 (vc_true rfl (vw_skip (w3 (w1 (w5 (w1 (w2 (vQ tab rfl (vQ tab rfl (vQ tab rfl (w4 ?_)))))))))))))))))))))))
                refine w3 (w2 (vQ tab rfl (vQ tab rfl (vT rfl callable_51 (rnum_good rfl g1 hs (by decide)) ?_))))
                refine vQ tab rfl (vS tab rfl (w4 (q_norm (w3 (w2 (vQ tab rfl (vQ tab rfl (w4 (w3 (rd_step (w1 (w2 (vQ tab rfl (w4 (w3 (w1 (vc_true rfl (vw_skip (w3 (w1 (w5 (w1 (w2 ?_)))))))))))))))))))))))
                refine vQ tab rfl (vQ tab rfl (vQ tab rfl (w4 (w3 (w2 (vQ tab rfl (vQ tab rfl (vT rfl callable_51 (rnum_good rfl g2 hs (by decide)) ?_))))))))
                refine vQ tab rfl (vS tab rfl (w4 (q_norm (w3 (w2 (vQ tab rfl (vQ tab rfl (w4 (w3 (rd_step (w1 (w2 (vQ tab rfl (w4 (w3 (w1 (vc_false rfl (vw_exit (q_thenx (q_thenx (q_here (w3 (w1 ?_)))))))))))))))))))))))
                refine w1 (w2 (vQ tab rfl (vQ tab rfl (vQ tab rfl (w4 (w3 (vc_true rfl (w2 (vQ tab rfl (vT rfl callable_63 (rtext_good rfl gT hs (by decide)) ?_))))))))))
                refine vQ tab rfl (vS tab rfl (w4 (w3 (w1 (w1 (w2 (vQ tab rfl (vR rfl callable_52 (done_good rfl) (vQ tab rfl (vQ tab rfl (vgd_op false rfl rfl rfl (by simp only [hm, decide_eq_true_eq, decide_eq_false_iff_not, Bool.not_eq_eq_eq_not, Bool.not_true, Bool.not_false, bne_iff_ne, bne_eq_false_iff_eq, beq_iff_eq, beq_eq_false_iff_ne, ne_eq, beq_self_eq_true, bne_self_eq_false, Bool.and_eq_true, Bool.and_eq_false_iff, Bool.or_eq_true, Bool.or_eq_false_iff, and_self, and_true, true_and, Bool.false_eq_true, Bool.true_eq_false, not_false_eq_true, not_true_eq_false]; first | done | omega) ?_)))))))))))
                refine vQ tab rfl (vF rfl callable_45 (rpl_may ⟨2, 0, 0, x1, 0, 0, x2, 0, mkB tx⟩) (vQ tab rfl (vQ tab rfl (w4 (w3 (vcd_false rfl (by simp only [hm, decide_eq_true_eq, decide_eq_false_iff_not, Bool.not_eq_eq_eq_not, Bool.not_true, Bool.not_false, bne_iff_ne, bne_eq_false_iff_eq, beq_iff_eq, beq_eq_false_iff_ne, ne_eq, beq_self_eq_true, bne_self_eq_false, Bool.and_eq_true, Bool.and_eq_false_iff, Bool.or_eq_true, Bool.or_eq_false_iff, and_self, and_true, true_and, Bool.false_eq_true, Bool.true_eq_false, not_false_eq_true, not_true_eq_false]; first | done | omega) ?_))))))
                refine vw_skip (w3 (w1 (w2 (vQ tab rfl (vS tab rfl (vQ tab rfl (w4 (w3 (vw_ret ?_)))))))))
                exact ⟨.inr rfl, rfl⟩
            · have hq : qT ≠ [] := fun hq => by rw [hq] at dT; have := congrArg List.length dT; rw [List.length_drop] at this; simp at this; omega
              have hgn : rplC.get (B s) = none := by
                obtain ⟨z, zs, hzz⟩ := List.exists_cons_of_ne_nil hq
                simp [Codec.get, Codec.parse, rdNs, rplC, rplCnt, rplText, hzz, h0, h1, h2, hT]
              rw [rplGet_no hgn]
              refine w1 (w2 (vN tab rfl (vQ tab rfl (w4 (w3 (w1 (w2 (vQ tab rfl (vQ tab rfl (vN tab rfl (vQ tab rfl (w4 (w3 (w1 (w2 (vQ tab rfl (vT rfl callable_51 (rnum_good rfl g0 hs (by decide)) ?_)))))))))))))))))
              refine vQ tab rfl (vN tab rfl (vS tab rfl (w4 (w3 (w1 (w1 (w2 (vT rfl callable_66 (rpl_parts2 (f1 := 0) (f2 := 0) (f3 := 0) (f4 := 0) (f5 := 0) (f6 := 0) (f7 := 0) (d := ⟨#[]⟩) rfl (by decide)) ?_))))))))
              refine vQ tab rfl (vQ tab rfl (w4 (w3 (w5 (vw_rounds 4 (rd_step (w1 (w2 (vQ tab rfl (w4 (w3 (w1 (vc_true rfl (vw_skip (w3 (w1 (w5 (w1 (w2 (vQ tab rfl (vQ tab rfl (vQ tab rfl (w4 ?_)))))))))))))))))))))))
              refine w3 (w2 (vQ tab rfl (vQ tab rfl (vT rfl callable_51 (rnum_good rfl g1 hs (by decide)) ?_))))
              refine vQ tab rfl (vS tab rfl (w4 (q_norm (w3 (w2 (vQ tab rfl (vQ tab rfl (w4 (w3 (rd_step (w1 (w2 (vQ tab rfl (w4 (w3 (w1 (vc_true rfl (vw_skip (w3 (w1 (w5 (w1 (w2 ?_)))))))))))))))))))))))
              refine vQ tab rfl (vQ tab rfl (vQ tab rfl (w4 (w3 (w2 (vQ tab rfl (vQ tab rfl (vT rfl callable_51 (rnum_good rfl g2 hs (by decide)) ?_))))))))
              refine vQ tab rfl (vS tab rfl (w4 (q_norm (w3 (w2 (vQ tab rfl (vQ tab rfl (w4 (w3 (rd_step (w1 (w2 (vQ tab rfl (w4 (w3 (w1 (vc_false rfl (vw_exit (q_thenx (q_thenx (q_here (w3 (w1 ?_)))))))))))))))))))))))
              refine w1 (w2 (vQ tab rfl (vQ tab rfl (vQ tab rfl (w4 (w3 (vc_true rfl (w2 (vQ tab rfl (vT rfl callable_63 (rtext_good rfl gT hs (by decide)) ?_))))))))))
              refine vQ tab rfl (vS tab rfl (w4 (w3 (w1 (w1 (w2 (vQ tab rfl (vR rfl callable_52 (done_good rfl) (vQ tab rfl (vQ tab rfl (vgd_op true rfl rfl rfl (by simp only [decide_eq_true_eq, decide_eq_false_iff_not, Bool.not_eq_eq_eq_not, Bool.not_true, Bool.not_false, bne_iff_ne, bne_eq_false_iff_eq, beq_iff_eq, beq_eq_false_iff_ne, ne_eq, beq_self_eq_true, bne_self_eq_false, Bool.and_eq_true, Bool.and_eq_false_iff, Bool.or_eq_true, Bool.or_eq_false_iff, and_self, and_true, true_and, Bool.false_eq_true, Bool.true_eq_false, not_false_eq_true, not_true_eq_false]; first | done | omega) ?_)))))))))))
              refine vK rfl (vK rfl (vK rfl (vQ tab rfl (w4 (w3 (vc_true rfl (w1 (w2 (vQ tab rfl (vS tab rfl (vQ tab rfl (w4 (w3 (vw_ret (q_thenr ?_)))))))))))))))
              exact ⟨.inr rfl, rfl⟩
    ·
      cases h1 : rdN q0 with
      | none =>
        obtain ⟨e, p, hg, he⟩ := getN_none (s := B s) (a := t0) (by omega) (by omega) (by rw [d0]; exact h1)
        rw [rplGet_no (by simp [Codec.get, Codec.parse, rdNs, rplC, rplCnt, rplText, h0, h1])]
        refine w1 (w2 (vN tab rfl (vQ tab rfl (w4 (w3 (w1 (w2 (vQ tab rfl (vQ tab rfl (vN tab rfl (vQ tab rfl (w4 (w3 (w1 (w2 (vQ tab rfl (vT rfl callable_51 (rnum_good rfl g0 hs (by decide)) ?_)))))))))))))))))
        refine vQ tab rfl (vN tab rfl (vS tab rfl (w4 (w3 (w1 (w1 (w2 (vT rfl callable_66 (rpl_parts3 (f1 := 0) (f2 := 0) (f3 := 0) (f4 := 0) (f5 := 0) (f6 := 0) (f7 := 0) (d := ⟨#[]⟩) rfl (by decide)) ?_))))))))
        refine vQ tab rfl (vQ tab rfl (w4 (w3 (w5 (vw_rounds 4 (rd_step (w1 (w2 (vQ tab rfl (w4 (w3 (w1 (vc_true rfl (vw_skip (w3 (w1 (w5 (w1 (w2 (vQ tab rfl (vQ tab rfl (vQ tab rfl (w4 ?_)))))))))))))))))))))))
        refine w3 (w2 (vQ tab rfl (vQ tab rfl (vT rfl callable_51 (rnum_fail rfl hg he hs (by decide)) ?_))))
        refine vQ tab rfl (vS tab rfl (w4 (q_norm (w3 (w2 (vQ tab rfl (vQ tab rfl (w4 (w3 (rd_step (w1 (w2 (vQ tab rfl (w4 (w3 (w1 (vc_false rfl (vw_exit (q_thenx (q_thenx (q_here (w3 (w1 ?_)))))))))))))))))))))))
        refine w1 (w2 (vQ tab rfl (vQ tab rfl (vQ tab rfl (w4 (w3 (vc_false rfl (vw_skip (w3 (w1 (w1 (w2 (vQ tab rfl (vR rfl callable_52 (done_bad rfl rfl (by decide)) ?_))))))))))))))
        refine vQ tab rfl (vQ tab rfl (vK rfl (vK rfl (vK rfl (vQ tab rfl (w4 (w3 (vc_true rfl (w1 (w2 (vQ tab rfl (vS tab rfl (vQ tab rfl (w4 (w3 (vw_ret (q_thenr ?_)))))))))))))))))
        exact ⟨.inr rfl, rfl⟩
      | some r1 =>
        obtain ⟨x1, q1⟩ := r1
        obtain ⟨t1, g1, lt1, le1, d1⟩ := getN_some (s := B s) (a := t0) (by omega) (by omega) (by rw [d0]; exact h1)
        by_cases hz : t1 = (s.size : Int)
        · have hq : q1 = [] := by rw [← d1, List.drop_of_length_le]; omega
          have hmk : rplMake 3 [x1] (⟨#[]⟩) = ⟨3, 0, 0, 0, 0, 0, 0, x1, ⟨#[]⟩⟩ := by rfl
          cases hm : rplMay ⟨3, 0, 0, 0, 0, 0, 0, x1, ⟨#[]⟩⟩ with
          | false =>
            have hgn : rplC.get (B s) = none := by
              have hp : rplC.parse (B s) = some (⟨3, 0, 0, 0, 0, 0, 0, x1, ⟨#[]⟩⟩, []) := by simp [Codec.parse, rdNs, rplC, rplCnt, rplText, mkB, h0, h1, hq] <;> exact hmk
              unfold Codec.get; rw [hp]; show (if rplMay _ = true then _ else _) = _; rw [hm]; rfl
            rw [rplGet_no hgn]
            refine w1 (w2 (vN tab rfl (vQ tab rfl (w4 (w3 (w1 (w2 (vQ tab rfl (vQ tab rfl (vN tab rfl (vQ tab rfl (w4 (w3 (w1 (w2 (vQ tab rfl (vT rfl callable_51 (rnum_good rfl g0 hs (by decide)) ?_)))))))))))))))))
            refine vQ tab rfl (vN tab rfl (vS tab rfl (w4 (w3 (w1 (w1 (w2 (vT rfl callable_66 (rpl_parts3 (f1 := 0) (f2 := 0) (f3 := 0) (f4 := 0) (f5 := 0) (f6 := 0) (f7 := 0) (d := ⟨#[]⟩) rfl (by decide)) ?_))))))))
            refine vQ tab rfl (vQ tab rfl (w4 (w3 (w5 (vw_rounds 4 (rd_step (w1 (w2 (vQ tab rfl (w4 (w3 (w1 (vc_true rfl (vw_skip (w3 (w1 (w5 (w1 (w2 (vQ tab rfl (vQ tab rfl (vQ tab rfl (w4 ?_)))))))))))))))))))))))
            refine w3 (w2 (vQ tab rfl (vQ tab rfl (vT rfl callable_51 (rnum_good rfl g1 hs (by decide)) ?_))))
            refine vQ tab rfl (vS tab rfl (w4 (q_norm (w3 (w2 (vQ tab rfl (vQ tab rfl (w4 (w3 (rd_step (w1 (w2 (vQ tab rfl (w4 (w3 (w1 (vc_false rfl (vw_exit (q_thenx (q_thenx (q_here (w3 (w1 ?_)))))))))))))))))))))))
            refine w1 (w2 (vQ tab rfl (vQ tab rfl (vQ tab rfl (w4 (w3 (vc_false rfl (vw_skip (w3 (w1 (w1 (w2 (vQ tab rfl (vR rfl callable_52 (done_good rfl) (vQ tab rfl (vQ tab rfl (vgd_op false rfl rfl rfl (by simp only [hm, decide_eq_true_eq, decide_eq_false_iff_not, Bool.not_eq_eq_eq_not, Bool.not_true, Bool.not_false, bne_iff_ne, bne_eq_false_iff_eq, beq_iff_eq, beq_eq_false_iff_ne, ne_eq, beq_self_eq_true, bne_self_eq_false, Bool.and_eq_true, Bool.and_eq_false_iff, Bool.or_eq_true, Bool.or_eq_false_iff, and_self, and_true, true_and, Bool.false_eq_true, Bool.true_eq_false, not_false_eq_true, not_true_eq_false]; first | done | omega) ?_)))))))))))))))))
            refine vQ tab rfl (vF rfl callable_45 (rpl_may ⟨3, 0, 0, 0, 0, 0, 0, x1, ⟨#[]⟩⟩) (vQ tab rfl (vQ tab rfl (w4 (w3 (vcd_true rfl (by simp only [hm, decide_eq_true_eq, decide_eq_false_iff_not, Bool.not_eq_eq_eq_not, Bool.not_true, Bool.not_false, bne_iff_ne, bne_eq_false_iff_eq, beq_iff_eq, beq_eq_false_iff_ne, ne_eq, beq_self_eq_true, bne_self_eq_false, Bool.and_eq_true, Bool.and_eq_false_iff, Bool.or_eq_true, Bool.or_eq_false_iff, and_self, and_true, true_and, Bool.false_eq_true, Bool.true_eq_false, not_false_eq_true, not_true_eq_false]; first | done | omega) ?_))))))
            refine w1 (w2 (vQ tab rfl (vS tab rfl (vQ tab rfl (w4 (w3 (vw_ret (q_thenr ?_))))))))
            exact ⟨.inr rfl, rfl⟩
          | true =>
            have hgn : rplC.get (B s) = some ⟨3, 0, 0, 0, 0, 0, 0, x1, ⟨#[]⟩⟩ := by
              have hp : rplC.parse (B s) = some (⟨3, 0, 0, 0, 0, 0, 0, x1, ⟨#[]⟩⟩, []) := by simp [Codec.parse, rdNs, rplC, rplCnt, rplText, mkB, h0, h1, hq] <;> exact hmk
              unfold Codec.get; rw [hp]; show (if rplMay _ = true then _ else _) = _; rw [hm]; rfl
            rw [rplGet_ok hgn]
            refine w1 (w2 (vN tab rfl (vQ tab rfl (w4 (w3 (w1 (w2 (vQ tab rfl (vQ tab rfl (vN tab rfl (vQ tab rfl (w4 (w3 (w1 (w2 (vQ tab rfl (vT rfl callable_51 (rnum_good rfl g0 hs (by decide)) ?_)))))))))))))))))
            refine vQ tab rfl (vN tab rfl (vS tab rfl (w4 (w3 (w1 (w1 (w2 (vT rfl callable_66 (rpl_parts3 (f1 := 0) (f2 := 0) (f3 := 0) (f4 := 0) (f5 := 0) (f6 := 0) (f7 := 0) (d := ⟨#[]⟩) rfl (by decide)) ?_))))))))
            refine vQ tab rfl (vQ tab rfl (w4 (w3 (w5 (vw_rounds 4 (rd_step (w1 (w2 (vQ tab rfl (w4 (w3 (w1 (vc_true rfl (vw_skip (w3 (w1 (w5 (w1 (w2 (vQ tab rfl (vQ tab rfl (vQ tab rfl (w4 ?_)))))))))))))))))))))))
            refine w3 (w2 (vQ tab rfl (vQ tab rfl (vT rfl callable_51 (rnum_good rfl g1 hs (by decide)) ?_))))
            refine vQ tab rfl (vS tab rfl (w4 (q_norm (w3 (w2 (vQ tab rfl (vQ tab rfl (w4 (w3 (rd_step (w1 (w2 (vQ tab rfl (w4 (w3 (w1 (vc_false rfl (vw_exit (q_thenx (q_thenx (q_here (w3 (w1 ?_)))))))))))))))))))))))
            refine w1 (w2 (vQ tab rfl (vQ tab rfl (vQ tab rfl (w4 (w3 (vc_false rfl (vw_skip (w3 (w1 (w1 (w2 (vQ tab rfl (vR rfl callable_52 (done_good rfl) (vQ tab rfl (vQ tab rfl (vgd_op false rfl rfl rfl (by simp only [hm, decide_eq_true_eq, decide_eq_false_iff_not, Bool.not_eq_eq_eq_not, Bool.not_true, Bool.not_false, bne_iff_ne, bne_eq_false_iff_eq, beq_iff_eq, beq_eq_false_iff_ne, ne_eq, beq_self_eq_true, bne_self_eq_false, Bool.and_eq_true, Bool.and_eq_false_iff, Bool.or_eq_true, Bool.or_eq_false_iff, and_self, and_true, true_and, Bool.false_eq_true, Bool.true_eq_false, not_false_eq_true, not_true_eq_false]; first | done | omega) ?_)))))))))))))))))
            refine vQ tab rfl (vF rfl callable_45 (rpl_may ⟨3, 0, 0, 0, 0, 0, 0, x1, ⟨#[]⟩⟩) (vQ tab rfl (vQ tab rfl (w4 (w3 (vcd_false rfl (by simp only [hm, decide_eq_true_eq, decide_eq_false_iff_not, Bool.not_eq_eq_eq_not, Bool.not_true, Bool.not_false, bne_iff_ne, bne_eq_false_iff_eq, beq_iff_eq, beq_eq_false_iff_ne, ne_eq, beq_self_eq_true, bne_self_eq_false, Bool.and_eq_true, Bool.and_eq_false_iff, Bool.or_eq_true, Bool.or_eq_false_iff, and_self, and_true, true_and, Bool.false_eq_true, Bool.true_eq_false, not_false_eq_true, not_true_eq_false]; first | done | omega) ?_))))))
            refine vw_skip (w3 (w1 (w2 (vQ tab rfl (vS tab rfl (vQ tab rfl (w4 (w3 (vw_ret ?_)))))))))
            exact ⟨.inr rfl, rfl⟩
        · have hq : q1 ≠ [] := fun hq => by rw [hq] at d1; have := congrArg List.length d1; rw [List.length_drop] at this; simp at this; omega
          have hgn : rplC.get (B s) = none := by
            obtain ⟨z, zs, hzz⟩ := List.exists_cons_of_ne_nil hq
            simp [Codec.get, Codec.parse, rdNs, rplC, rplCnt, rplText, hzz, h0, h1]
          rw [rplGet_no hgn]
          refine w1 (w2 (vN tab rfl (vQ tab rfl (w4 (w3 (w1 (w2 (vQ tab rfl (vQ tab rfl (vN tab rfl (vQ tab rfl (w4 (w3 (w1 (w2 (vQ tab rfl (vT rfl callable_51 (rnum_good rfl g0 hs (by decide)) ?_)))))))))))))))))
          refine vQ tab rfl (vN tab rfl (vS tab rfl (w4 (w3 (w1 (w1 (w2 (vT rfl callable_66 (rpl_parts3 (f1 := 0) (f2 := 0) (f3 := 0) (f4 := 0) (f5 := 0) (f6 := 0) (f7 := 0) (d := ⟨#[]⟩) rfl (by decide)) ?_))))))))
          refine vQ tab rfl (vQ tab rfl (w4 (w3 (w5 (vw_rounds 4 (rd_step (w1 (w2 (vQ tab rfl (w4 (w3 (w1 (vc_true rfl (vw_skip (w3 (w1 (w5 (w1 (w2 (vQ tab rfl (vQ tab rfl (vQ tab rfl (w4 ?_)))))))))))))))))))))))
          refine w3 (w2 (vQ tab rfl (vQ tab rfl (vT rfl callable_51 (rnum_good rfl g1 hs (by decide)) ?_))))
          refine vQ tab rfl (vS tab rfl (w4 (q_norm (w3 (w2 (vQ tab rfl (vQ tab rfl (w4 (w3 (rd_step (w1 (w2 (vQ tab rfl (w4 (w3 (w1 (vc_false rfl (vw_exit (q_thenx (q_thenx (q_here (w3 (w1 ?_)))))))))))))))))))))))
          refine w1 (w2 (vQ tab rfl (vQ tab rfl (vQ tab rfl (w4 (w3 (vc_false rfl (vw_skip (w3 (w1 (w1 (w2 (vQ tab rfl (vR rfl callable_52 (done_good rfl) (vQ tab rfl (vQ tab rfl (vgd_op true rfl rfl rfl (by simp only [decide_eq_true_eq, decide_eq_false_iff_not, Bool.not_eq_eq_eq_not, Bool.not_true, Bool.not_false, bne_iff_ne, bne_eq_false_iff_eq, beq_iff_eq, beq_eq_false_iff_ne, ne_eq, beq_self_eq_true, bne_self_eq_false, Bool.and_eq_true, Bool.and_eq_false_iff, Bool.or_eq_true, Bool.or_eq_false_iff, and_self, and_true, true_and, Bool.false_eq_true, Bool.true_eq_false, not_false_eq_true, not_true_eq_false]; first | done | omega) ?_)))))))))))))))))
          refine vK rfl (vK rfl (vK rfl (vQ tab rfl (w4 (w3 (vc_true rfl (w1 (w2 (vQ tab rfl (vS tab rfl (vQ tab rfl (w4 (w3 (vw_ret (q_thenr ?_)))))))))))))))
          exact ⟨.inr rfl, rfl⟩
    ·
      cases h1 : rdN q0 with
      | none =>
        obtain ⟨e, p, hg, he⟩ := getN_none (s := B s) (a := t0) (by omega) (by omega) (by rw [d0]; exact h1)
        rw [rplGet_no (by simp [Codec.get, Codec.parse, rdNs, rplC, rplCnt, rplText, h0, h1])]
        refine w1 (w2 (vN tab rfl (vQ tab rfl (w4 (w3 (w1 (w2 (vQ tab rfl (vQ tab rfl (vN tab rfl (vQ tab rfl (w4 (w3 (w1 (w2 (vQ tab rfl (vT rfl callable_51 (rnum_good rfl g0 hs (by decide)) ?_)))))))))))))))))
        refine vQ tab rfl (vN tab rfl (vS tab rfl (w4 (w3 (w1 (w1 (w2 (vT rfl callable_66 (rpl_parts4 (f1 := 0) (f2 := 0) (f3 := 0) (f4 := 0) (f5 := 0) (f6 := 0) (f7 := 0) (d := ⟨#[]⟩) rfl (by decide)) ?_))))))))
        refine vQ tab rfl (vQ tab rfl (w4 (w3 (w5 (vw_rounds 4 (rd_step (w1 (w2 (vQ tab rfl (w4 (w3 (w1 (vc_true rfl (vw_skip (w3 (w1 (w5 (w1 (w2 (vQ tab rfl (vQ tab rfl (vQ tab rfl (w4 ?_)))))))))))))))))))))))
        refine w3 (w2 (vQ tab rfl (vQ tab rfl (vT rfl callable_51 (rnum_fail rfl hg he hs (by decide)) ?_))))
        refine vQ tab rfl (vS tab rfl (w4 (q_norm (w3 (w2 (vQ tab rfl (vQ tab rfl (w4 (w3 (rd_step (w1 (w2 (vQ tab rfl (w4 (w3 (w1 (vc_true rfl (vw_skip (w3 (w1 (w5 (w1 (w2 ?_)))))))))))))))))))))))
        refine vQ tab rfl (vQ tab rfl (vQ tab rfl (w4 (w3 (w2 (vQ tab rfl (vQ tab rfl (vR rfl callable_51 (rnum_bad rfl rfl (by decide)) ?_))))))))
        refine vQ tab rfl (vS tab rfl (w4 (q_norm (w3 (w2 (vQ tab rfl (vQ tab rfl (w4 (w3 (rd_step (w1 (w2 (vQ tab rfl (w4 (w3 (w1 (vc_false rfl (vw_exit (q_thenx (q_thenx (q_here (w3 (w1 ?_)))))))))))))))))))))))
        refine w1 (w2 (vQ tab rfl (vQ tab rfl (vQ tab rfl (w4 (w3 (vc_false rfl (vw_skip (w3 (w1 (w1 (w2 (vQ tab rfl (vR rfl callable_52 (done_bad rfl rfl (by decide)) ?_))))))))))))))
        refine vQ tab rfl (vQ tab rfl (vK rfl (vK rfl (vK rfl (vQ tab rfl (w4 (w3 (vc_true rfl (w1 (w2 (vQ tab rfl (vS tab rfl (vQ tab rfl (w4 (w3 (vw_ret (q_thenr ?_)))))))))))))))))
        exact ⟨.inr rfl, rfl⟩
      | some r1 =>
        obtain ⟨x1, q1⟩ := r1
        obtain ⟨t1, g1, lt1, le1, d1⟩ := getN_some (s := B s) (a := t0) (by omega) (by omega) (by rw [d0]; exact h1)
        cases h2 : rdN q1 with
        | none =>
          obtain ⟨e, p, hg, he⟩ := getN_none (s := B s) (a := t1) (by omega) (by omega) (by rw [d1]; exact h2)
          rw [rplGet_no (by simp [Codec.get, Codec.parse, rdNs, rplC, rplCnt, rplText, h0, h1, h2])]
          refine w1 (w2 (vN tab rfl (vQ tab rfl (w4 (w3 (w1 (w2 (vQ tab rfl (vQ tab rfl (vN tab rfl (vQ tab rfl (w4 (w3 (w1 (w2 (vQ tab rfl (vT rfl callable_51 (rnum_good rfl g0 hs (by decide)) ?_)))))))))))))))))
          refine vQ tab rfl (vN tab rfl (vS tab rfl (w4 (w3 (w1 (w1 (w2 (vT rfl callable_66 (rpl_parts4 (f1 := 0) (f2 := 0) (f3 := 0) (f4 := 0) (f5 := 0) (f6 := 0) (f7 := 0) (d := ⟨#[]⟩) rfl (by decide)) ?_))))))))
          refine vQ tab rfl (vQ tab rfl (w4 (w3 (w5 (vw_rounds 4 (rd_step (w1 (w2 (vQ tab rfl (w4 (w3 (w1 (vc_true rfl (vw_skip (w3 (w1 (w5 (w1 (w2 (vQ tab rfl (vQ tab rfl (vQ tab rfl (w4 ?_)))))))))))))))))))))))
          refine w3 (w2 (vQ tab rfl (vQ tab rfl (vT rfl callable_51 (rnum_good rfl g1 hs (by decide)) ?_))))
          refine vQ tab rfl (vS tab rfl (w4 (q_norm (w3 (w2 (vQ tab rfl (vQ tab rfl (w4 (w3 (rd_step (w1 (w2 (vQ tab rfl (w4 (w3 (w1 (vc_true rfl (vw_skip (w3 (w1 (w5 (w1 (w2 ?_)))))))))))))))))))))))
          refine vQ tab rfl (vQ tab rfl (vQ tab rfl (w4 (w3 (w2 (vQ tab rfl (vQ tab rfl (vT rfl callable_51 (rnum_fail rfl hg he hs (by decide)) ?_))))))))
          refine vQ tab rfl (vS tab rfl (w4 (q_norm (w3 (w2 (vQ tab rfl (vQ tab rfl (w4 (w3 (rd_step (w1 (w2 (vQ tab rfl (w4 (w3 (w1 (vc_false rfl (vw_exit (q_thenx (q_thenx (q_here (w3 (w1 ?_)))))))))))))))))))))))
          refine w1 (w2 (vQ tab rfl (vQ tab rfl (vQ tab rfl (w4 (w3 (vc_false rfl (vw_skip (w3 (w1 (w1 (w2 (vQ tab rfl (vR rfl callable_52 (done_bad rfl rfl (by decide)) ?_))))))))))))))
          refine vQ tab rfl (vQ tab rfl (vK rfl (vK rfl (vK rfl (vQ tab rfl (w4 (w3 (vc_true rfl (w1 (w2 (vQ tab rfl (vS tab rfl (vQ tab rfl (w4 (w3 (vw_ret (q_thenr ?_)))))))))))))))))
          exact ⟨.inr rfl, rfl⟩
        | some r2 =>
          obtain ⟨x2, q2⟩ := r2
          obtain ⟨t2, g2, lt2, le2, d2⟩ := getN_some (s := B s) (a := t1) (by omega) (by omega) (by rw [d1]; exact h2)
          by_cases hz : t2 = (s.size : Int)
          · have hq : q2 = [] := by rw [← d2, List.drop_of_length_le]; omega
            have hmk : rplMake 4 [x1, x2] (⟨#[]⟩) = ⟨4, 0, 0, x1, 0, 0, 0, x2, ⟨#[]⟩⟩ := by rfl
            cases hm : rplMay ⟨4, 0, 0, x1, 0, 0, 0, x2, ⟨#[]⟩⟩ with
            | false =>
              have hgn : rplC.get (B s) = none := by
                have hp : rplC.parse (B s) = some (⟨4, 0, 0, x1, 0, 0, 0, x2, ⟨#[]⟩⟩, []) := by simp [Codec.parse, rdNs, rplC, rplCnt, rplText, mkB, h0, h1, h2, hq] <;> exact hmk
                unfold Codec.get; rw [hp]; show (if rplMay _ = true then _ else _) = _; rw [hm]; rfl
              rw [rplGet_no hgn]
              refine w1 (w2 (vN tab rfl (vQ tab rfl (w4 (w3 (w1 (w2 (vQ tab rfl (vQ tab rfl (vN tab rfl (vQ tab rfl (w4 (w3 (w1 (w2 (vQ tab rfl (vT rfl callable_51 (rnum_good rfl g0 hs (by decide)) ?_)))))))))))))))))
              refine vQ tab rfl (vN tab rfl (vS tab rfl (w4 (w3 (w1 (w1 (w2 (vT rfl callable_66 (rpl_parts4 (f1 := 0) (f2 := 0) (f3 := 0) (f4 := 0) (f5 := 0) (f6 := 0) (f7 := 0) (d := ⟨#[]⟩) rfl (by decide)) ?_))))))))
              refine vQ tab rfl (vQ tab rfl (w4 (w3 (w5 (vw_rounds 4 (rd_step (w1 (w2 (vQ tab rfl (w4 (w3 (w1 (vc_true rfl (vw_skip (w3 (w1 (w5 (w1 (w2 (vQ tab rfl (vQ tab rfl (vQ tab rfl (w4 ?_)))))))))))))))))))))))
              refine w3 (w2 (vQ tab rfl (vQ tab rfl (vT rfl callable_51 (rnum_good rfl g1 hs (by decide)) ?_))))
              refine vQ tab rfl (vS tab rfl (w4 (q_norm (w3 (w2 (vQ tab rfl (vQ tab rfl (w4 (w3 (rd_step (w1 (w2 (vQ tab rfl (w4 (w3 (w1 (vc_true rfl (vw_skip (w3 (w1 (w5 (w1 (w2 ?_)))))))))))))))))))))))
              refine vQ tab rfl (vQ tab rfl (vQ tab rfl (w4 (w3 (w2 (vQ tab rfl (vQ tab rfl (vT rfl callable_51 (rnum_good rfl g2 hs (by decide)) ?_))))))))
              refine vQ tab rfl (vS tab rfl (w4 (q_norm (w3 (w2 (vQ tab rfl (vQ tab rfl (w4 (w3 (rd_step (w1 (w2 (vQ tab rfl (w4 (w3 (w1 (vc_false rfl (vw_exit (q_thenx (q_thenx (q_here (w3 (w1 ?_)))))))))))))))))))))))
              refine w1 (w2 (vQ tab rfl (vQ tab rfl (vQ tab rfl (w4 (w3 (vc_false rfl (vw_skip (w3 (w1 (w1 (w2 (vQ tab rfl (vR rfl callable_52 (done_good rfl) (vQ tab rfl (vQ tab rfl (vgd_op false rfl rfl rfl (by simp only [hm, decide_eq_true_eq, decide_eq_false_iff_not, Bool.not_eq_eq_eq_not, Bool.not_true, Bool.not_false, bne_iff_ne, bne_eq_false_iff_eq, beq_iff_eq, beq_eq_false_iff_ne, ne_eq, beq_self_eq_true, bne_self_eq_false, Bool.and_eq_true, Bool.and_eq_false_iff, Bool.or_eq_true, Bool.or_eq_false_iff, and_self, and_true, true_and, Bool.false_eq_true, Bool.true_eq_false, not_false_eq_true, not_true_eq_false]; first | done | omega) ?_)))))))))))))))))
              refine vQ tab rfl (vF rfl callable_45 (rpl_may ⟨4, 0, 0, x1, 0, 0, 0, x2, ⟨#[]⟩⟩) (vQ tab rfl (vQ tab rfl (w4 (w3 (vcd_true rfl (by simp only [hm, decide_eq_true_eq, decide_eq_false_iff_not, Bool.not_eq_eq_eq_not, Bool.not_true, Bool.not_false, bne_iff_ne, bne_eq_false_iff_eq, beq_iff_eq, beq_eq_false_iff_ne, ne_eq, beq_self_eq_true, bne_self_eq_false, Bool.and_eq_true, Bool.and_eq_false_iff, Bool.or_eq_true, Bool.or_eq_false_iff, and_self, and_true, true_and, Bool.false_eq_true, Bool.true_eq_false, not_false_eq_true, not_true_eq_false]; first | done | omega) ?_))))))
              refine w1 (w2 (vQ tab rfl (vS tab rfl (vQ tab rfl (w4 (w3 (vw_ret (q_thenr ?_))))))))
              exact ⟨.inr rfl, rfl⟩
            | true =>
              have hgn : rplC.get (B s) = some ⟨4, 0, 0, x1, 0, 0, 0, x2, ⟨#[]⟩⟩ := by
                have hp : rplC.parse (B s) = some (⟨4, 0, 0, x1, 0, 0, 0, x2, ⟨#[]⟩⟩, []) := by simp [Codec.parse, rdNs, rplC, rplCnt, rplText, mkB, h0, h1, h2, hq] <;> exact hmk
                unfold Codec.get; rw [hp]; show (if rplMay _ = true then _ else _) = _; rw [hm]; rfl
              rw [rplGet_ok hgn]
              refine w1 (w2 (vN tab rfl (vQ tab rfl (w4 (w3 (w1 (w2 (vQ tab rfl (vQ tab rfl (vN tab rfl (vQ tab rfl (w4 (w3 (w1 (w2 (vQ tab rfl (vT rfl callable_51 (rnum_good rfl g0 hs (by decide)) ?_)))))))))))))))))
              refine vQ tab rfl (vN tab rfl (vS tab rfl (w4 (w3 (w1 (w1 (w2 (vT rfl callable_66 (rpl_parts4 (f1 := 0) (f2 := 0) (f3 := 0) (f4 := 0) (f5 := 0) (f6 := 0) (f7 := 0) (d := ⟨#[]⟩) rfl (by decide)) ?_))))))))
              refine vQ tab rfl (vQ tab rfl (w4 (w3 (w5 (vw_rounds 4 (rd_step (w1 (w2 (vQ tab rfl (w4 (w3 (w1 (vc_true rfl (vw_skip (w3 (w1 (w5 (w1 (w2 (vQ tab rfl (vQ tab rfl (vQ tab rfl (w4 ?_)))))))))))))))))))))))
              refine w3 (w2 (vQ tab rfl (vQ tab rfl (vT rfl callable_51 (rnum_good rfl g1 hs (by decide)) ?_))))
              refine vQ tab rfl (vS tab rfl (w4 (q_norm (w3 (w2 (vQ tab rfl (vQ tab rfl (w4 (w3 (rd_step (w1 (w2 (vQ tab rfl (w4 (w3 (w1 (vc_true rfl (vw_skip (w3 (w1 (w5 (w1 (w2 ?_)))))))))))))))))))))))
              refine vQ tab rfl (vQ tab rfl (vQ tab rfl (w4 (w3 (w2 (vQ tab rfl (vQ tab rfl (vT rfl callable_51 (rnum_good rfl g2 hs (by decide)) ?_))))))))
              refine vQ tab rfl (vS tab rfl (w4 (q_norm (w3 (w2 (vQ tab rfl (vQ tab rfl (w4 (w3 (rd_step (w1 (w2 (vQ tab rfl (w4 (w3 (w1 (vc_false rfl (vw_exit (q_thenx (q_thenx (q_here (w3 (w1 ?_)))))))))))))))))))))))
              refine w1 (w2 (vQ tab rfl (vQ tab rfl (vQ tab rfl (w4 (w3 (vc_false rfl (vw_skip (w3 (w1 (w1 (w2 (vQ tab rfl (vR rfl callable_52 (done_good rfl) (vQ tab rfl (vQ tab rfl (vgd_op false rfl rfl rfl (by simp only [hm, decide_eq_true_eq, decide_eq_false_iff_not, Bool.not_eq_eq_eq_not, Bool.not_true, Bool.not_false, bne_iff_ne, bne_eq_false_iff_eq, beq_iff_eq, beq_eq_false_iff_ne, ne_eq, beq_self_eq_true, bne_self_eq_false, Bool.and_eq_true, Bool.and_eq_false_iff, Bool.or_eq_true, Bool.or_eq_false_iff, and_self, and_true, true_and, Bool.false_eq_true, Bool.true_eq_false, not_false_eq_true, not_true_eq_false]; first | done | omega) ?_)))))))))))))))))
              refine vQ tab rfl (vF rfl callable_45 (rpl_may ⟨4, 0, 0, x1, 0, 0, 0, x2, ⟨#[]⟩⟩) (vQ tab rfl (vQ tab rfl (w4 (w3 (vcd_false rfl (by simp only [hm, decide_eq_true_eq, decide_eq_false_iff_not, Bool.not_eq_eq_eq_not, Bool.not_true, Bool.not_false, bne_iff_ne, bne_eq_false_iff_eq, beq_iff_eq, beq_eq_false_iff_ne, ne_eq, beq_self_eq_true, bne_self_eq_false, Bool.and_eq_true, Bool.and_eq_false_iff, Bool.or_eq_true, Bool.or_eq_false_iff, and_self, and_true, true_and, Bool.false_eq_true, Bool.true_eq_false, not_false_eq_true, not_true_eq_false]; first | done | omega) ?_))))))
              refine vw_skip (w3 (w1 (w2 (vQ tab rfl (vS tab rfl (vQ tab rfl (w4 (w3 (vw_ret ?_)))))))))
              exact ⟨.inr rfl, rfl⟩
          · have hq : q2 ≠ [] := fun hq => by rw [hq] at d2; have := congrArg List.length d2; rw [List.length_drop] at this; simp at this; omega
            have hgn : rplC.get (B s) = none := by
              obtain ⟨z, zs, hzz⟩ := List.exists_cons_of_ne_nil hq
              simp [Codec.get, Codec.parse, rdNs, rplC, rplCnt, rplText, hzz, h0, h1, h2]
            rw [rplGet_no hgn]
            refine w1 (w2 (vN tab rfl (vQ tab rfl (w4 (w3 (w1 (w2 (vQ tab rfl (vQ tab rfl (vN tab rfl (vQ tab rfl (w4 (w3 (w1 (w2 (vQ tab rfl (vT rfl callable_51 (rnum_good rfl g0 hs (by decide)) ?_)))))))))))))))))
            refine vQ tab rfl (vN tab rfl (vS tab rfl (w4 (w3 (w1 (w1 (w2 (vT rfl callable_66 (rpl_parts4 (f1 := 0) (f2 := 0) (f3 := 0) (f4 := 0) (f5 := 0) (f6 := 0) (f7 := 0) (d := ⟨#[]⟩) rfl (by decide)) ?_))))))))
            refine vQ tab rfl (vQ tab rfl (w4 (w3 (w5 (vw_rounds 4 (rd_step (w1 (w2 (vQ tab rfl (w4 (w3 (w1 (vc_true rfl (vw_skip (w3 (w1 (w5 (w1 (w2 (vQ tab rfl (vQ tab rfl (vQ tab rfl (w4 ?_)))))))))))))))))))))))
            refine w3 (w2 (vQ tab rfl (vQ tab rfl (vT rfl callable_51 (rnum_good rfl g1 hs (by decide)) ?_))))
            refine vQ tab rfl (vS tab rfl (w4 (q_norm (w3 (w2 (vQ tab rfl (vQ tab rfl (w4 (w3 (rd_step (w1 (w2 (vQ tab rfl (w4 (w3 (w1 (vc_true rfl (vw_skip (w3 (w1 (w5 (w1 (w2 ?_)))))))))))))))))))))))
            refine vQ tab rfl (vQ tab rfl (vQ tab rfl (w4 (w3 (w2 (vQ tab rfl (vQ tab rfl (vT rfl callable_51 (rnum_good rfl g2 hs (by decide)) ?_))))))))
            refine vQ tab rfl (vS tab rfl (w4 (q_norm (w3 (w2 (vQ tab rfl (vQ tab rfl (w4 (w3 (rd_step (w1 (w2 (vQ tab rfl (w4 (w3 (w1 (vc_false rfl (vw_exit (q_thenx (q_thenx (q_here (w3 (w1 ?_)))))))))))))))))))))))
            refine w1 (w2 (vQ tab rfl (vQ tab rfl (vQ tab rfl (w4 (w3 (vc_false rfl (vw_skip (w3 (w1 (w1 (w2 (vQ tab rfl (vR rfl callable_52 (done_good rfl) (vQ tab rfl (vQ tab rfl (vgd_op true rfl rfl rfl (by simp only [decide_eq_true_eq, decide_eq_false_iff_not, Bool.not_eq_eq_eq_not, Bool.not_true, Bool.not_false, bne_iff_ne, bne_eq_false_iff_eq, beq_iff_eq, beq_eq_false_iff_ne, ne_eq, beq_self_eq_true, bne_self_eq_false, Bool.and_eq_true, Bool.and_eq_false_iff, Bool.or_eq_true, Bool.or_eq_false_iff, and_self, and_true, true_and, Bool.false_eq_true, Bool.true_eq_false, not_false_eq_true, not_true_eq_false]; first | done | omega) ?_)))))))))))))))))
            refine vK rfl (vK rfl (vK rfl (vQ tab rfl (w4 (w3 (vc_true rfl (w1 (w2 (vQ tab rfl (vS tab rfl (vQ tab rfl (w4 (w3 (vw_ret (q_thenr ?_)))))))))))))))
            exact ⟨.inr rfl, rfl⟩
    ·
      by_cases hz : t0 = (s.size : Int)
      · have hq : q0 = [] := by rw [← d0, List.drop_of_length_le]; omega
        have hmk : rplMake 5 [] (⟨#[]⟩) = ⟨5, 0, 0, 0, 0, 0, 0, 0, ⟨#[]⟩⟩ := by rfl
        cases hm : rplMay ⟨5, 0, 0, 0, 0, 0, 0, 0, ⟨#[]⟩⟩ with
        | false =>
          exact absurd hm (by decide)
        | true =>
          have hgn : rplC.get (B s) = some ⟨5, 0, 0, 0, 0, 0, 0, 0, ⟨#[]⟩⟩ := by
            have hp : rplC.parse (B s) = some (⟨5, 0, 0, 0, 0, 0, 0, 0, ⟨#[]⟩⟩, []) := by simp [Codec.parse, rdNs, rplC, rplCnt, rplText, mkB, h0, hq] <;> exact hmk
            unfold Codec.get; rw [hp]; first | rfl | exact if_pos hm | decide
          rw [rplGet_ok hgn]
          refine w1 (w2 (vN tab rfl (vQ tab rfl (w4 (w3 (w1 (w2 (vQ tab rfl (vQ tab rfl (vN tab rfl (vQ tab rfl (w4 (w3 (w1 (w2 (vQ tab rfl (vT rfl callable_51 (rnum_good rfl g0 hs (by decide)) ?_)))))))))))))))))
          refine vQ tab rfl (vN tab rfl (vS tab rfl (w4 (w3 (w1 (w1 (w2 (vR rfl callable_66 (rpl_partsN (k := 5) (f1 := 0) (f2 := 0) (f3 := 0) (f4 := 0) (f5 := 0) (f6 := 0) (f7 := 0) (d := ⟨#[]⟩) rfl (by omega)) ?_))))))))
          refine vQ tab rfl (vQ tab rfl (w4 (w3 (w5 (vw_rounds 4 (rd_step (w1 (w2 (vQ tab rfl (w4 (w3 (w1 (vc_false rfl (vw_exit (q_thenx (q_thenx (q_here (w3 (w1 (w1 (w2 (vQ tab rfl (vQ tab rfl ?_)))))))))))))))))))))))
          refine vQ tab rfl (w4 (w3 (vc_false rfl (vw_skip (w3 (w1 (w1 (w2 (vQ tab rfl (vR rfl callable_52 (done_good rfl) (vQ tab rfl (vQ tab rfl (vgd_op false rfl rfl rfl (by simp only [hm, decide_eq_true_eq, decide_eq_false_iff_not, Bool.not_eq_eq_eq_not, Bool.not_true, Bool.not_false, bne_iff_ne, bne_eq_false_iff_eq, beq_iff_eq, beq_eq_false_iff_ne, ne_eq, beq_self_eq_true, bne_self_eq_false, Bool.and_eq_true, Bool.and_eq_false_iff, Bool.or_eq_true, Bool.or_eq_false_iff, and_self, and_true, true_and, Bool.false_eq_true, Bool.true_eq_false, not_false_eq_true, not_true_eq_false]; first | done | omega) ?_)))))))))))))
          refine vQ tab rfl (vF rfl callable_45 (rpl_may ⟨5, 0, 0, 0, 0, 0, 0, 0, ⟨#[]⟩⟩) (vQ tab rfl (vQ tab rfl (w4 (w3 (vc_false rfl (vw_skip (w3 (w1 (w2 (vQ tab rfl (vS tab rfl (vQ tab rfl (w4 (w3 (vw_ret ?_))))))))))))))))
          exact ⟨.inr rfl, rfl⟩
      · have hq : q0 ≠ [] := fun hq => by rw [hq] at d0; have := congrArg List.length d0; rw [List.length_drop] at this; simp at this; omega
        have hgn : rplC.get (B s) = none := by
          obtain ⟨z, zs, hzz⟩ := List.exists_cons_of_ne_nil hq
          simp [Codec.get, Codec.parse, rdNs, rplC, rplCnt, rplText, hzz, h0]
        rw [rplGet_no hgn]
        refine w1 (w2 (vN tab rfl (vQ tab rfl (w4 (w3 (w1 (w2 (vQ tab rfl (vQ tab rfl (vN tab rfl (vQ tab rfl (w4 (w3 (w1 (w2 (vQ tab rfl (vT rfl callable_51 (rnum_good rfl g0 hs (by decide)) ?_)))))))))))))))))
        refine vQ tab rfl (vN tab rfl (vS tab rfl (w4 (w3 (w1 (w1 (w2 (vR rfl callable_66 (rpl_partsN (k := 5) (f1 := 0) (f2 := 0) (f3 := 0) (f4 := 0) (f5 := 0) (f6 := 0) (f7 := 0) (d := ⟨#[]⟩) rfl (by omega)) ?_))))))))
        refine vQ tab rfl (vQ tab rfl (w4 (w3 (w5 (vw_rounds 4 (rd_step (w1 (w2 (vQ tab rfl (w4 (w3 (w1 (vc_false rfl (vw_exit (q_thenx (q_thenx (q_here (w3 (w1 (w1 (w2 (vQ tab rfl (vQ tab rfl ?_)))))))))))))))))))))))
        refine vQ tab rfl (w4 (w3 (vc_false rfl (vw_skip (w3 (w1 (w1 (w2 (vQ tab rfl (vR rfl callable_52 (done_good rfl) (vQ tab rfl (vQ tab rfl (vgd_op true rfl rfl rfl (by simp only [decide_eq_true_eq, decide_eq_false_iff_not, Bool.not_eq_eq_eq_not, Bool.not_true, Bool.not_false, bne_iff_ne, bne_eq_false_iff_eq, beq_iff_eq, beq_eq_false_iff_ne, ne_eq, beq_self_eq_true, bne_self_eq_false, Bool.and_eq_true, Bool.and_eq_false_iff, Bool.or_eq_true, Bool.or_eq_false_iff, and_self, and_true, true_and, Bool.false_eq_true, Bool.true_eq_false, not_false_eq_true, not_true_eq_false]; first | done | omega) ?_)))))))))))))
        refine vK rfl (vK rfl (vK rfl (vQ tab rfl (w4 (w3 (vc_true rfl (w1 (w2 (vQ tab rfl (vS tab rfl (vQ tab rfl (w4 (w3 (vw_ret (q_thenr ?_)))))))))))))))
        exact ⟨.inr rfl, rfl⟩
    ·
      by_cases hz : t0 = (s.size : Int)
      · have hq : q0 = [] := by rw [← d0, List.drop_of_length_le]; omega
        have hmk : rplMake k [] (⟨#[]⟩) = ⟨k, 0, 0, 0, 0, 0, 0, 0, ⟨#[]⟩⟩ := by unfold rplMake; simp [hk]
        cases hm : rplMay ⟨k, 0, 0, 0, 0, 0, 0, 0, ⟨#[]⟩⟩ with
        | false =>
          have hgn : rplC.get (B s) = none := by
            have hp : rplC.parse (B s) = some (⟨k, 0, 0, 0, 0, 0, 0, 0, ⟨#[]⟩⟩, []) := by simp [Codec.parse, rdNs, rplC, rplCnt, rplText, mkB, h0, hq, hk] <;> exact hmk
            unfold Codec.get; rw [hp]; show (if rplMay _ = true then _ else _) = _; rw [hm]; rfl
          rw [rplGet_no hgn]
          refine w1 (w2 (vN tab rfl (vQ tab rfl (w4 (w3 (w1 (w2 (vQ tab rfl (vQ tab rfl (vN tab rfl (vQ tab rfl (w4 (w3 (w1 (w2 (vQ tab rfl (vT rfl callable_51 (rnum_good rfl g0 hs (by decide)) ?_)))))))))))))))))
          refine vQ tab rfl (vN tab rfl (vS tab rfl (w4 (w3 (w1 (w1 (w2 (vR rfl callable_66 (rpl_partsN (k := k) (f1 := 0) (f2 := 0) (f3 := 0) (f4 := 0) (f5 := 0) (f6 := 0) (f7 := 0) (d := ⟨#[]⟩) rfl (by omega)) ?_))))))))
          refine vQ tab rfl (vQ tab rfl (w4 (w3 (w5 (vw_rounds 4 (rd_step (w1 (w2 (vQ tab rfl (w4 (w3 (w1 (vc_false rfl (vw_exit (q_thenx (q_thenx (q_here (w3 (w1 (w1 (w2 (vQ tab rfl (vQ tab rfl ?_)))))))))))))))))))))))
          refine vQ tab rfl (w4 (w3 (vcd_false rfl (by simp only [hm, decide_eq_true_eq, decide_eq_false_iff_not, Bool.not_eq_eq_eq_not, Bool.not_true, Bool.not_false, bne_iff_ne, bne_eq_false_iff_eq, beq_iff_eq, beq_eq_false_iff_ne, ne_eq, beq_self_eq_true, bne_self_eq_false, Bool.and_eq_true, Bool.and_eq_false_iff, Bool.or_eq_true, Bool.or_eq_false_iff, and_self, and_true, true_and, Bool.false_eq_true, Bool.true_eq_false, not_false_eq_true, not_true_eq_false]; first | done | omega) ?_)))
          refine vw_skip (w3 (w1 (w1 (w2 (vQ tab rfl (vR rfl callable_52 (done_good rfl) (vQ tab rfl (vQ tab rfl (vgd_op false rfl rfl rfl (by simp only [hm, decide_eq_true_eq, decide_eq_false_iff_not, Bool.not_eq_eq_eq_not, Bool.not_true, Bool.not_false, bne_iff_ne, bne_eq_false_iff_eq, beq_iff_eq, beq_eq_false_iff_ne, ne_eq, beq_self_eq_true, bne_self_eq_false, Bool.and_eq_true, Bool.and_eq_false_iff, Bool.or_eq_true, Bool.or_eq_false_iff, and_self, and_true, true_and, Bool.false_eq_true, Bool.true_eq_false, not_false_eq_true, not_true_eq_false]; first | done | omega) ?_)))))))))
          refine vQ tab rfl (vF rfl callable_45 (rpl_may ⟨k, 0, 0, 0, 0, 0, 0, 0, ⟨#[]⟩⟩) (vQ tab rfl (vQ tab rfl (w4 (w3 (vcd_true rfl (by simp only [hm, decide_eq_true_eq, decide_eq_false_iff_not, Bool.not_eq_eq_eq_not, Bool.not_true, Bool.not_false, bne_iff_ne, bne_eq_false_iff_eq, beq_iff_eq, beq_eq_false_iff_ne, ne_eq, beq_self_eq_true, bne_self_eq_false, Bool.and_eq_true, Bool.and_eq_false_iff, Bool.or_eq_true, Bool.or_eq_false_iff, and_self, and_true, true_and, Bool.false_eq_true, Bool.true_eq_false, not_false_eq_true, not_true_eq_false]; first | done | omega) ?_))))))
          refine w1 (w2 (vQ tab rfl (vS tab rfl (vQ tab rfl (w4 (w3 (vw_ret (q_thenr ?_))))))))
          exact ⟨.inr rfl, rfl⟩
        | true =>
          have hgn : rplC.get (B s) = some ⟨k, 0, 0, 0, 0, 0, 0, 0, ⟨#[]⟩⟩ := by
            have hp : rplC.parse (B s) = some (⟨k, 0, 0, 0, 0, 0, 0, 0, ⟨#[]⟩⟩, []) := by simp [Codec.parse, rdNs, rplC, rplCnt, rplText, mkB, h0, hq, hk] <;> exact hmk
            unfold Codec.get; rw [hp]; show (if rplMay _ = true then _ else _) = _; rw [hm]; rfl
          rw [rplGet_ok hgn]
          refine w1 (w2 (vN tab rfl (vQ tab rfl (w4 (w3 (w1 (w2 (vQ tab rfl (vQ tab rfl (vN tab rfl (vQ tab rfl (w4 (w3 (w1 (w2 (vQ tab rfl (vT rfl callable_51 (rnum_good rfl g0 hs (by decide)) ?_)))))))))))))))))
          refine vQ tab rfl (vN tab rfl (vS tab rfl (w4 (w3 (w1 (w1 (w2 (vR rfl callable_66 (rpl_partsN (k := k) (f1 := 0) (f2 := 0) (f3 := 0) (f4 := 0) (f5 := 0) (f6 := 0) (f7 := 0) (d := ⟨#[]⟩) rfl (by omega)) ?_))))))))
          refine vQ tab rfl (vQ tab rfl (w4 (w3 (w5 (vw_rounds 4 (rd_step (w1 (w2 (vQ tab rfl (w4 (w3 (w1 (vc_false rfl (vw_exit (q_thenx (q_thenx (q_here (w3 (w1 (w1 (w2 (vQ tab rfl (vQ tab rfl ?_)))))))))))))))))))))))
          refine vQ tab rfl (w4 (w3 (vcd_false rfl (by simp only [hm, decide_eq_true_eq, decide_eq_false_iff_not, Bool.not_eq_eq_eq_not, Bool.not_true, Bool.not_false, bne_iff_ne, bne_eq_false_iff_eq, beq_iff_eq, beq_eq_false_iff_ne, ne_eq, beq_self_eq_true, bne_self_eq_false, Bool.and_eq_true, Bool.and_eq_false_iff, Bool.or_eq_true, Bool.or_eq_false_iff, and_self, and_true, true_and, Bool.false_eq_true, Bool.true_eq_false, not_false_eq_true, not_true_eq_false]; first | done | omega) ?_)))
          refine vw_skip (w3 (w1 (w1 (w2 (vQ tab rfl (vR rfl callable_52 (done_good rfl) (vQ tab rfl (vQ tab rfl (vgd_op false rfl rfl rfl (by simp only [hm, decide_eq_true_eq, decide_eq_false_iff_not, Bool.not_eq_eq_eq_not, Bool.not_true, Bool.not_false, bne_iff_ne, bne_eq_false_iff_eq, beq_iff_eq, beq_eq_false_iff_ne, ne_eq, beq_self_eq_true, bne_self_eq_false, Bool.and_eq_true, Bool.and_eq_false_iff, Bool.or_eq_true, Bool.or_eq_false_iff, and_self, and_true, true_and, Bool.false_eq_true, Bool.true_eq_false, not_false_eq_true, not_true_eq_false]; first | done | omega) ?_)))))))))
          refine vQ tab rfl (vF rfl callable_45 (rpl_may ⟨k, 0, 0, 0, 0, 0, 0, 0, ⟨#[]⟩⟩) (vQ tab rfl (vQ tab rfl (w4 (w3 (vcd_false rfl (by simp only [hm, decide_eq_true_eq, decide_eq_false_iff_not, Bool.not_eq_eq_eq_not, Bool.not_true, Bool.not_false, bne_iff_ne, bne_eq_false_iff_eq, beq_iff_eq, beq_eq_false_iff_ne, ne_eq, beq_self_eq_true, bne_self_eq_false, Bool.and_eq_true, Bool.and_eq_false_iff, Bool.or_eq_true, Bool.or_eq_false_iff, and_self, and_true, true_and, Bool.false_eq_true, Bool.true_eq_false, not_false_eq_true, not_true_eq_false]; first | done | omega) ?_))))))
          refine vw_skip (w3 (w1 (w2 (vQ tab rfl (vS tab rfl (vQ tab rfl (w4 (w3 (vw_ret ?_)))))))))
          exact ⟨.inr rfl, rfl⟩
      · have hq : q0 ≠ [] := fun hq => by rw [hq] at d0; have := congrArg List.length d0; rw [List.length_drop] at this; simp at this; omega
        have hgn : rplC.get (B s) = none := by
          obtain ⟨z, zs, hzz⟩ := List.exists_cons_of_ne_nil hq
          simp [Codec.get, Codec.parse, rdNs, rplC, rplCnt, rplText, hzz, h0, hk]
        rw [rplGet_no hgn]
        refine w1 (w2 (vN tab rfl (vQ tab rfl (w4 (w3 (w1 (w2 (vQ tab rfl (vQ tab rfl (vN tab rfl (vQ tab rfl (w4 (w3 (w1 (w2 (vQ tab rfl (vT rfl callable_51 (rnum_good rfl g0 hs (by decide)) ?_)))))))))))))))))
        refine vQ tab rfl (vN tab rfl (vS tab rfl (w4 (w3 (w1 (w1 (w2 (vR rfl callable_66 (rpl_partsN (k := k) (f1 := 0) (f2 := 0) (f3 := 0) (f4 := 0) (f5 := 0) (f6 := 0) (f7 := 0) (d := ⟨#[]⟩) rfl (by omega)) ?_))))))))
        refine vQ tab rfl (vQ tab rfl (w4 (w3 (w5 (vw_rounds 4 (rd_step (w1 (w2 (vQ tab rfl (w4 (w3 (w1 (vc_false rfl (vw_exit (q_thenx (q_thenx (q_here (w3 (w1 (w1 (w2 (vQ tab rfl (vQ tab rfl ?_)))))))))))))))))))))))
        refine vQ tab rfl (w4 (w3 (vcd_false rfl (by simp only [decide_eq_true_eq, decide_eq_false_iff_not, Bool.not_eq_eq_eq_not, Bool.not_true, Bool.not_false, bne_iff_ne, bne_eq_false_iff_eq, beq_iff_eq, beq_eq_false_iff_ne, ne_eq, beq_self_eq_true, bne_self_eq_false, Bool.and_eq_true, Bool.and_eq_false_iff, Bool.or_eq_true, Bool.or_eq_false_iff, and_self, and_true, true_and, Bool.false_eq_true, Bool.true_eq_false, not_false_eq_true, not_true_eq_false]; first | done | omega) ?_)))
        refine vw_skip (w3 (w1 (w1 (w2 (vQ tab rfl (vR rfl callable_52 (done_good rfl) (vQ tab rfl (vQ tab rfl (vgd_op true rfl rfl rfl (by simp only [decide_eq_true_eq, decide_eq_false_iff_not, Bool.not_eq_eq_eq_not, Bool.not_true, Bool.not_false, bne_iff_ne, bne_eq_false_iff_eq, beq_iff_eq, beq_eq_false_iff_ne, ne_eq, beq_self_eq_true, bne_self_eq_false, Bool.and_eq_true, Bool.and_eq_false_iff, Bool.or_eq_true, Bool.or_eq_false_iff, and_self, and_true, true_and, Bool.false_eq_true, Bool.true_eq_false, not_false_eq_true, not_true_eq_false]; first | done | omega) ?_)))))))))
        refine vK rfl (vK rfl (vK rfl (vQ tab rfl (w4 (w3 (vc_true rfl (w1 (w2 (vQ tab rfl (vS tab rfl (vQ tab rfl (w4 (w3 (vw_ret (q_thenr ?_)))))))))))))))
        exact ⟨.inr rfl, rfl⟩
end Go.Proofs.Yticaicdopfpknaa
