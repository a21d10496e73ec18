/- Law 5: awake; Replies, ReplyBack, ReplyUnlike. -/
import Derived.Test.YticaicdopfpknaaVmSh
import Derived.Test.YticaicdopfpknaaRp3
import Derived.Test.YticaicdopfpknaaCl0
namespace Go.Proofs.Yticaicdopfpknaa
open Go Vm IntWalk
set_option linter.unusedVariables false
set_option linter.unusedSimpArgs false
def rplA : ReplyV := ⟨1, 0, 0, 2, 15, 9, 0, 0, ⟨#[]⟩⟩
set_option maxHeartbeats 8000000 in
theorem rpl_awake : Fun Try.prog 47 [] (.bool true) := by
  refine fun_of_vw tab Try.func47 rfl rfl (by simp [Try.f47]) lrel_nil (.bool _) ?_
  have h1 : rplPut rplA = (⟨#[1, 1, 1, 2, 1, 15, 1, 9]⟩, 0) := by decide
  have h2 : rplGet ⟨#[1, 1, 1, 2, 1, 15, 1, 9]⟩ = (rplA, 0) := by decide
  have h3 : rplGet ⟨#[3, 12]⟩ = (⟨0, 0, 0, 0, 0, 0, 0, 0, ⟨#[]⟩⟩, 500) := by decide
  have h4 : rplPut ⟨5, 0, 0, 0, 0, 0, 0, 1, ⟨#[]⟩⟩ = (⟨#[]⟩, 500) := by decide
  have p1 : Fun Try.prog 41 [rplV rplA] (.tuple #[.string ⟨#[1, 1, 1, 2, 1, 15, 1, 9]⟩, .int .i64 0]) := by have := rpl_put rplA; rw [h1] at this; exact this
  have p2 : Fun Try.prog 41 [rplV ⟨5, 0, 0, 0, 0, 0, 0, 1, ⟨#[]⟩⟩] (.tuple #[.string ⟨#[]⟩, .int .i64 500]) := by have := rpl_put ⟨5, 0, 0, 0, 0, 0, 0, 1, ⟨#[]⟩⟩; rw [h4] at this; exact this
  have g1 : Fun Try.prog 43 [.string ⟨#[1, 1, 1, 2, 1, 15, 1, 9]⟩] (.tuple #[rplV rplA, .int .i64 0]) := by have := rpl_get ⟨#[1, 1, 1, 2, 1, 15, 1, 9]⟩ (by decide); rw [h2] at this; exact this
  have g2 : Fun Try.prog 43 [.string ⟨#[3, 12]⟩] (.tuple #[rplV ⟨0, 0, 0, 0, 0, 0, 0, 0, ⟨#[]⟩⟩, .int .i64 500]) := by have := rpl_get ⟨#[3, 12]⟩ (by decide); rw [h3] at this; exact this
  have m1 : Fun Try.prog 45 [rplV rplA] (.bool true) := by have := rpl_may rplA; rw [show rplMay rplA = true by decide] at this; exact this
  have m2 : Fun Try.prog 45 [rplV ⟨1, 0, 0, 0, 16, 0, 0, 0, ⟨#[]⟩⟩] (.bool false) := by have := rpl_may ⟨1, 0, 0, 0, 16, 0, 0, 0, ⟨#[]⟩⟩; rw [show rplMay ⟨1, 0, 0, 0, 16, 0, 0, 0, ⟨#[]⟩⟩ = false by decide] at this; exact this
  refine w1 (w2 (vQ tab rfl (w4 (w3 (w1 (w2 (vQ tab rfl (vN tab rfl (vS tab rfl (w4 (w3 (w1 (w2 (vQ tab rfl (vF rfl callable_41 (p1) (vQ tab rfl (vQ tab rfl (vQ tab rfl (vQ tab rfl (vQ tab rfl (w4 (w3 (w1 ?_)))))))))))))))))))))))
  refine w2 (vQ tab rfl (vF rfl callable_43 (g1) (vQ tab rfl (vQ tab rfl (vQ tab rfl (vN tab rfl (vS tab rfl (vQ tab rfl (w4 (w3 (w1 (w2 (vF rfl callable_43 (g2) (vQ tab rfl (vQ tab rfl (vQ tab rfl (vN tab rfl (vS tab rfl (vQ tab rfl (w4 (w3 (w1 (w2 ?_)))))))))))))))))))))))
  refine vQ tab rfl (vF rfl callable_41 (p2) (vQ tab rfl (vQ tab rfl (vQ tab rfl (vQ tab rfl (vQ tab rfl (w4 (w3 (w1 (w2 (vQ tab rfl (vQ tab rfl (vQ tab rfl (vQ tab rfl (vF rfl callable_23 (num_fun _) (vQ tab rfl (vQ tab rfl (vQ tab rfl (vQ tab rfl (vQ tab rfl (vq_op tab ⟨_, _, rfl, rfl, rfl⟩ rfl rfl (ev_eql rfl rfl rfl (rpl_eq rplA rplA)) (vQ tab rfl (vQ tab rfl ?_)))))))))))))))))))))))
  refine vQ tab rfl (vF rfl callable_23 (num_fun _) (vQ tab rfl (vQ tab rfl (vQ tab rfl (vQ tab rfl (vF rfl callable_23 (num_fun _) (vQ tab rfl (vQ tab rfl (vQ tab rfl (vQ tab rfl (vF rfl callable_23 (num_fun _) (vQ tab rfl (vQ tab rfl (vQ tab rfl (vQ tab rfl (vF rfl callable_45 (m1) (vQ tab rfl (vQ tab rfl (vQ tab rfl (vF rfl callable_45 (m2) (vQ tab rfl (vQ tab rfl (vQ tab rfl ?_)))))))))))))))))))))))
  refine w4 (w3 (vw_ret ?_))
  exact ⟨.inr rfl, Eq.trans (b := some (.bool _)) rfl (congrArg (fun b => some (Value.bool b)) (by decide))⟩
theorem rpl_put_as {a : ReplyV} (r : ByteArray × Int) (h : rplPut a = r) : Fun Try.prog 41 [rplV a] (.tuple #[.string r.1, .int .i64 r.2]) := by subst h; exact rpl_put a
theorem rpl_get_as {s : ByteArray} (r : ReplyV × Int) (h : rplGet s = r) (hs : s.size ≤ 9223372036854775807) : Fun Try.prog 43 [.string s] (.tuple #[rplV r.1, .int .i64 r.2]) := by subst h; exact rpl_get s hs
theorem rpl_may_as {a : ReplyV} (r : Bool) (h : rplMay a = r) : Fun Try.prog 45 [rplV a] (.bool r) := by subst h; exact rpl_may a
theorem rpl_put_len {a : ReplyV} (h : rplMay a = true) : (rplC.put a).length ≤ 70000 := by
  have h1 := (numL_len (rplC.kind a)).1
  have h2 := numsL_len (rplC.nums a)
  have h3 : (rplC.nums a).length ≤ 8 := by rw [rplC.okC a]; show rplCnt _ ≤ 8; unfold rplCnt; (repeat' split) <;> omega
  have h4 := rplC.okT a h
  have h5 := (numL_len ((rplC.text a).length : Int)).1
  unfold Codec.put
  simp only [List.length_append]
  split
  · unfold txtL; rw [List.length_append]; omega
  · simp only [List.length_nil]; omega
abbrev rpl0 : ReplyV := ⟨0, 0, 0, 0, 0, 0, 0, 0, ⟨#[]⟩⟩
set_option maxHeartbeats 16000000 in
theorem Replies_law (y : ReplyV) (t : ByteArray) (ht : t.size ≤ maxLen) : Fun Try.prog 15 [rplV y, .string t] (.bool true) := by
  refine fun_of_vw tab Try.func15 rfl rfl (by simp [Try.f15]) (lrel_cons (rplRel y) (lrel_cons (.string _) lrel_nil)) (.bool _) ?_
  have hs : t.size ≤ 9223372036854775807 := by unfold maxLen at ht; omega
  refine w1 (w2 (vN tab rfl (vQ tab rfl (w4 (w3 (w1 (w2 (vQ tab rfl (vF rfl callable_41 (rpl_put y) (vQ tab rfl (vQ tab rfl (vQ tab rfl (vQ tab rfl (vQ tab rfl (w4 (w3 (w1 (w2 (vQ tab rfl (vF rfl callable_42 (refrpl_put y) (vQ tab rfl (vQ tab rfl (vQ tab rfl ?_)))))))))))))))))))))))
  refine vQ tab rfl (vQ tab rfl (w4 (w3 (w1 (w2 (vQ tab rfl (vF rfl callable_43 (rpl_get t hs) (vQ tab rfl (vQ tab rfl (vQ tab rfl (vN tab rfl (vS tab rfl (vQ tab rfl (w4 (w3 (w1 (w2 (vQ tab rfl (vF rfl callable_44 (refrpl_get t hs) (vQ tab rfl (vQ tab rfl (vQ tab rfl (vN tab rfl ?_)))))))))))))))))))))))
  refine vS tab rfl (vQ tab rfl (w4 (w3 (w1 (vw_draw mixed (dq_op tab rfl rfl rfl rfl (dq_op tab rfl rfl rfl rfl (dq_op tab rfl rfl rfl rfl (dq_op tab rfl rfl rfl rfl (dgd_op true rfl rfl rfl (by simp only [ba_self, eq_self, decide_true, decide_eq_true_eq, decide_eq_false_iff_not, Bool.not_eq_eq_eq_not, Bool.not_true, Bool.not_false, bne_iff_ne, bne_eq_false_iff_eq, beq_iff_eq, beq_eq_false_iff_ne, ne_eq, beq_self_eq_true, bne_self_eq_false, Bool.and_eq_true, Bool.and_eq_false_iff, Bool.or_eq_true, Bool.or_eq_false_iff, and_self, and_true, true_and, Bool.false_eq_true, Bool.true_eq_false, not_false_eq_true, not_true_eq_false]; first | done | omega) ?_))))))))))
  refine dq_op tab ⟨_, _, rfl, rfl, rfl⟩ rfl rfl rfl (df_op ⟨_, _, rfl, rfl, rfl⟩ rfl rfl rfl rfl callable_23 (num_fun _) (dq_op tab ⟨_, _, rfl, rfl, rfl⟩ rfl rfl rfl (dq_op tab ⟨_, _, rfl, rfl, rfl⟩ rfl rfl rfl (dq_op tab rfl rfl rfl rfl (dq_op tab rfl rfl rfl rfl (dgd_op true rfl rfl rfl (by simp only [ba_self, eq_self, decide_true, decide_eq_true_eq, decide_eq_false_iff_not, Bool.not_eq_eq_eq_not, Bool.not_true, Bool.not_false, bne_iff_ne, bne_eq_false_iff_eq, beq_iff_eq, beq_eq_false_iff_ne, ne_eq, beq_self_eq_true, bne_self_eq_false, Bool.and_eq_true, Bool.and_eq_false_iff, Bool.or_eq_true, Bool.or_eq_false_iff, and_self, and_true, true_and, Bool.false_eq_true, Bool.true_eq_false, not_false_eq_true, not_true_eq_false]; first | done | omega) ?_))))))
  refine dq_op tab ⟨_, _, rfl, rfl, rfl⟩ rfl rfl rfl (dq_op tab ⟨_, _, rfl, rfl, rfl⟩ rfl rfl rfl (dq_op tab ⟨_, _, rfl, rfl, rfl⟩ rfl (ev_eql rfl rfl rfl (rpl_eq (rplGet t).1 (rplGet t).1)) (ev_eql rfl rfl rfl (rpl_eq (rplGet t).1 (rplGet t).1)) (dq_op tab rfl rfl rfl rfl (dq_op tab rfl rfl rfl rfl (dgd_op true rfl rfl rfl (by simp only [ba_self, eq_self, decide_true, decide_eq_true_eq, decide_eq_false_iff_not, Bool.not_eq_eq_eq_not, Bool.not_true, Bool.not_false, bne_iff_ne, bne_eq_false_iff_eq, beq_iff_eq, beq_eq_false_iff_ne, ne_eq, beq_self_eq_true, bne_self_eq_false, Bool.and_eq_true, Bool.and_eq_false_iff, Bool.or_eq_true, Bool.or_eq_false_iff, and_self, and_true, true_and, Bool.false_eq_true, Bool.true_eq_false, not_false_eq_true, not_true_eq_false]; first | done | omega) ?_)))))
  refine dq_op tab ⟨_, _, rfl, rfl, rfl⟩ rfl rfl rfl (df_op ⟨_, _, rfl, rfl, rfl⟩ rfl rfl rfl rfl callable_23 (num_fun _) (dq_op tab ⟨_, _, rfl, rfl, rfl⟩ rfl rfl rfl (dq_op tab ⟨_, _, rfl, rfl, rfl⟩ rfl rfl rfl (dq_op tab rfl rfl rfl rfl (dq_op tab rfl rfl rfl rfl (dgd_op true rfl rfl rfl (by simp only [ba_self, eq_self, decide_true, decide_eq_true_eq, decide_eq_false_iff_not, Bool.not_eq_eq_eq_not, Bool.not_true, Bool.not_false, bne_iff_ne, bne_eq_false_iff_eq, beq_iff_eq, beq_eq_false_iff_ne, ne_eq, beq_self_eq_true, bne_self_eq_false, Bool.and_eq_true, Bool.and_eq_false_iff, Bool.or_eq_true, Bool.or_eq_false_iff, and_self, and_true, true_and, Bool.false_eq_true, Bool.true_eq_false, not_false_eq_true, not_true_eq_false]; first | done | omega) ?_))))))
  refine dq_op tab ⟨_, _, rfl, rfl, rfl⟩ rfl rfl rfl (df_op ⟨_, _, rfl, rfl, rfl⟩ rfl rfl rfl rfl callable_45 (rpl_may y) (dq_op tab ⟨_, _, rfl, rfl, rfl⟩ rfl rfl rfl (df_op ⟨_, _, rfl, rfl, rfl⟩ rfl rfl rfl rfl callable_46 (refrpl_may y) (dq_op tab ⟨_, _, rfl, rfl, rfl⟩ rfl rfl rfl (dq_op tab rfl rfl rfl rfl (dq_op tab rfl rfl rfl rfl (dgd_op true rfl rfl rfl (by simp only [ba_self, eq_self, decide_true, decide_eq_true_eq, decide_eq_false_iff_not, Bool.not_eq_eq_eq_not, Bool.not_true, Bool.not_false, bne_iff_ne, bne_eq_false_iff_eq, beq_iff_eq, beq_eq_false_iff_ne, ne_eq, beq_self_eq_true, bne_self_eq_false, Bool.and_eq_true, Bool.and_eq_false_iff, Bool.or_eq_true, Bool.or_eq_false_iff, and_self, and_true, true_and, Bool.false_eq_true, Bool.true_eq_false, not_false_eq_true, not_true_eq_false]; first | done | omega) ?_)))))))
  refine df_op ⟨_, _, rfl, rfl, rfl⟩ rfl rfl rfl rfl callable_47 (rpl_awake) (dq_op tab rfl rfl rfl rfl (dq_op tab rfl rfl rfl rfl (vd_nil (by kernel_rfl) ?_)))
  refine w3 (vw_ret ?_)
  all_goals exact ⟨.inr rfl, rfl⟩
set_option maxHeartbeats 32000000 in
theorem ReplyBack_law (y : ReplyV) (t : ByteArray) (c : Int) (ht : t.size ≤ maxLen) : Fun Try.prog 16 [rplV y, .string t, .int .i64 c] (.bool true) := by
  refine fun_of_vw tab Try.func16 rfl rfl (by simp [Try.f16]) (lrel_cons (rplRel y) (lrel_cons (.string _) (lrel_cons (.int _ _) lrel_nil))) (.bool _) ?_
  have hs : t.size ≤ 9223372036854775807 := by unfold maxLen at ht; omega
  obtain ⟨g, hg⟩ : ∃ g, g = rplC.get (B t) := ⟨_, rfl⟩
  cases hm : rplMay y with
  | false =>
    have hp := rplPut_no hm
    cases g with
    | none =>
      have hgt := rplGet_no hg.symm
      refine w1 (w2 (vN tab rfl (vQ tab rfl (w4 (w3 (w1 (w1 (w2 (vF rfl callable_47 (rpl_awake) (vQ tab rfl (w4 (w3 (vc_false rfl (vw_skip (w3 (w1 (w2 (vQ tab rfl (vF rfl callable_41 (rpl_put_as _ hp) (vQ tab rfl (vQ tab rfl (vQ tab rfl (vQ tab rfl ?_)))))))))))))))))))))))
      refine vQ tab rfl (w4 (w3 (w1 (w1 (vw_draw mixed (dq_op tab rfl rfl rfl rfl (df_op rfl rfl rfl rfl rfl callable_23 (num_fun _) (dq_op tab rfl rfl rfl rfl (dq_op tab rfl rfl rfl rfl (df_op rfl rfl rfl rfl rfl callable_45 (rpl_may y) (dq_op tab rfl rfl rfl rfl (dq_op tab rfl rfl rfl rfl (dgd_op false rfl rfl rfl (by simp only [hm, ba_self, eq_self, decide_true, decide_eq_true_eq, decide_eq_false_iff_not, Bool.not_eq_eq_eq_not, Bool.not_true, Bool.not_false, bne_iff_ne, bne_eq_false_iff_eq, beq_iff_eq, beq_eq_false_iff_ne, ne_eq, beq_self_eq_true, bne_self_eq_false, Bool.and_eq_true, Bool.and_eq_false_iff, Bool.or_eq_true, Bool.or_eq_false_iff, and_self, and_true, true_and, Bool.false_eq_true, Bool.true_eq_false, not_false_eq_true, not_true_eq_false]; first | done | omega) ?_)))))))))))))
      refine dq_op tab ⟨_, _, rfl, rfl, rfl⟩ rfl rfl rfl (df_op ⟨_, _, rfl, rfl, rfl⟩ rfl rfl rfl rfl callable_23 (num_fun _) (dq_op tab ⟨_, _, rfl, rfl, rfl⟩ rfl rfl rfl (dq_op tab ⟨_, _, rfl, rfl, rfl⟩ rfl rfl rfl (dk_op ⟨_, _, rfl, rfl, rfl⟩ rfl (dk_op ⟨_, _, rfl, rfl, rfl⟩ rfl (dq_op tab ⟨_, _, rfl, rfl, rfl⟩ rfl rfl rfl (dq_op tab rfl rfl rfl rfl (vd_nil (by kernel_rfl) ?_))))))))
      refine w3 (vc_false rfl (vw_skip (w3 (w1 (w1 (w2 (vQ tab rfl (vF rfl callable_23 (num_fun _) (vQ tab rfl (w4 (w3 (vc_false rfl (vw_skip (w3 (w1 (w2 (vQ tab rfl (vF rfl callable_43 (rpl_get_as _ hgt hs) (vQ tab rfl (vQ tab rfl (vQ tab rfl (vN tab rfl (vS tab rfl ?_)))))))))))))))))))))))
      refine vQ tab rfl (w4 (w3 (w1 (w1 (w2 (vQ tab rfl (vF rfl callable_23 (num_fun _) (vQ tab rfl (w4 (w3 (vc_true rfl (w1 (w2 (vQ tab rfl (vQ tab rfl (vq_op tab rfl rfl rfl (ev_eql rfl rfl rfl (rpl_eq rpl0 rpl0)) (vQ tab rfl (w4 (w3 (vw_ret (q_thenr ?_)))))))))))))))))))))
      all_goals exact ⟨.inr rfl, rfl⟩
    | some b =>
      have hgt := rplGet_ok hg.symm
      obtain ⟨hmb, hpb⟩ := rplC.get_inv hg.symm
      have hput : rplPut b = (t, 0) := by rw [rplPut_ok hmb, hpb, mk_B]
      refine w1 (w2 (vN tab rfl (vQ tab rfl (w4 (w3 (w1 (w1 (w2 (vF rfl callable_47 (rpl_awake) (vQ tab rfl (w4 (w3 (vc_false rfl (vw_skip (w3 (w1 (w2 (vQ tab rfl (vF rfl callable_41 (rpl_put_as (a := y) _ hp) (vQ tab rfl (vQ tab rfl (vQ tab rfl (vQ tab rfl ?_)))))))))))))))))))))))
      refine vQ tab rfl (w4 (w3 (w1 (w1 (vw_draw mixed (dq_op tab rfl rfl rfl rfl (df_op rfl rfl rfl rfl rfl callable_23 (num_fun _) (dq_op tab rfl rfl rfl rfl (dq_op tab rfl rfl rfl rfl (df_op rfl rfl rfl rfl rfl callable_45 (rpl_may y) (dq_op tab rfl rfl rfl rfl (dq_op tab rfl rfl rfl rfl (dgd_op false rfl rfl rfl (by simp only [hm, ba_self, eq_self, decide_true, decide_eq_true_eq, decide_eq_false_iff_not, Bool.not_eq_eq_eq_not, Bool.not_true, Bool.not_false, bne_iff_ne, bne_eq_false_iff_eq, beq_iff_eq, beq_eq_false_iff_ne, ne_eq, beq_self_eq_true, bne_self_eq_false, Bool.and_eq_true, Bool.and_eq_false_iff, Bool.or_eq_true, Bool.or_eq_false_iff, and_self, and_true, true_and, Bool.false_eq_true, Bool.true_eq_false, not_false_eq_true, not_true_eq_false]; first | done | omega) ?_)))))))))))))
      refine dq_op tab ⟨_, _, rfl, rfl, rfl⟩ rfl rfl rfl (df_op ⟨_, _, rfl, rfl, rfl⟩ rfl rfl rfl rfl callable_23 (num_fun _) (dq_op tab ⟨_, _, rfl, rfl, rfl⟩ rfl rfl rfl (dq_op tab ⟨_, _, rfl, rfl, rfl⟩ rfl rfl rfl (dk_op ⟨_, _, rfl, rfl, rfl⟩ rfl (dk_op ⟨_, _, rfl, rfl, rfl⟩ rfl (dq_op tab ⟨_, _, rfl, rfl, rfl⟩ rfl rfl rfl (dq_op tab rfl rfl rfl rfl (vd_nil (by kernel_rfl) ?_))))))))
      refine w3 (vc_false rfl (vw_skip (w3 (w1 (w1 (w2 (vQ tab rfl (vF rfl callable_23 (num_fun _) (vQ tab rfl (w4 (w3 (vc_false rfl (vw_skip (w3 (w1 (w2 (vQ tab rfl (vF rfl callable_43 (rpl_get_as _ hgt hs) (vQ tab rfl (vQ tab rfl (vQ tab rfl (vN tab rfl (vS tab rfl ?_)))))))))))))))))))))))
      refine vQ tab rfl (w4 (w3 (w1 (w1 (w2 (vQ tab rfl (vF rfl callable_23 (num_fun _) (vQ tab rfl (w4 (w3 (vc_false rfl (vw_skip (w3 (w1 (w2 (vQ tab rfl (vF rfl callable_41 (rpl_put_as (a := b) (t, 0) hput) (vQ tab rfl (vQ tab rfl (vQ tab rfl (vQ tab rfl (vQ tab rfl (w4 ?_)))))))))))))))))))))))
      refine w3 (w1 (w2 (vQ tab rfl (vF rfl callable_23 (num_fun _) (vQ tab rfl (vQ tab rfl (vQ tab rfl (vQ tab rfl (vQ tab rfl (vQ tab rfl (vQ tab rfl (w4 (w3 (vw_ret ?_))))))))))))))
      all_goals exact ⟨.inr rfl, Eq.trans (b := some (.bool (t == t))) rfl (by rw [ba_self])⟩
  | true =>
    obtain ⟨q, hq⟩ : ∃ q, q = rplC.put y := ⟨_, rfl⟩
    have hp : rplPut y = (mkB q, 0) := by rw [hq]; exact rplPut_ok hm
    have hql : 1 ≤ q.length ∧ q.length ≤ 70000 := by rw [hq]; exact ⟨rplC.put_ne y, rpl_put_len hm⟩
    have hqs : (mkB q).size = q.length := mkB_size q
    have hne : ((mkB q) == (⟨#[]⟩ : ByteArray)) = false := by rw [ba_beq]; exact decide_eq_false (fun e => by have h := congrArg B e; rw [B_mk] at h; have h2 : q.length = 0 := congrArg List.length h; omega)
    have h1 : rplGet (mkB q) = (y, 0) := rplGet_ok (by rw [B_mk, hq]; exact rplC.get_put hm)
    have h3 : rplGet (mkB q ++ ⟨#[0]⟩) = (rpl0, 500) := rplGet_no (by rw [B_app, B_mk, hq]; exact rplC.get_more hm)
    obtain ⟨K, hK⟩ : ∃ K, K = IntKind.i64.wrap ((IntKind.u64.wrap c).tmod (IntKind.u64.wrap ((mkB q).size : Int))) := ⟨_, rfl⟩
    have hKv : 0 ≤ K ∧ K < (q.length : Int) := by
      have e1 : IntKind.u64.wrap ((mkB q).size : Int) = (q.length : Int) := by rw [wrapu, hqs]; omega
      have e2 : (IntKind.u64.wrap c).tmod (q.length : Int) = (c % 18446744073709551616) % (q.length : Int) := by rw [wrapu, Int.tmod_eq_emod_of_nonneg (by omega)]
      have e3 := Int.emod_nonneg (c % 18446744073709551616) (b := (q.length : Int)) (by omega)
      have e4 := Int.emod_lt_of_pos (c % 18446744073709551616) (b := (q.length : Int)) (by omega)
      rw [hK, e1, e2, i64_in _ (by omega)]; omega
    have hbn : ∀ d, bnd d (some (some (.int .i64 (IntKind.i64.wrap ((IntKind.u64.wrap c).tmod (IntKind.u64.wrap ((mkB q).size : Int))))))) = some K.toNat := fun d => by rw [← hK]; exact bnd_int hKv.1
    have hca : (mkB q).size + (⟨#[0]⟩ : ByteArray).size ≤ 4611686018427387904 := by rw [hqs]; show q.length + 1 ≤ _; omega
    have hK2 : K.toNat ≤ (mkB q).size := by omega
    have h0 : (IntKind.u64.wrap ((mkB q).size : Int)) ≠ 0 := by rw [wrapu, hqs]; omega
    have h2 : rplGet ((mkB q).extract 0 K.toNat) = (rpl0, 500) := rplGet_no (by rw [B_cut, B_mk, List.drop_zero, Nat.sub_zero, hq]; exact rplC.get_cut hm (by rw [← hq]; omega))
    have hcs : ((mkB q).extract 0 K.toNat).size ≤ 9223372036854775807 := by rw [← B_len, B_cut, B_mk, List.length_take]; simp; omega
    have hms : (mkB q ++ (⟨#[0]⟩ : ByteArray)).size ≤ 9223372036854775807 := by rw [ByteArray.size_append, hqs]; show q.length + 1 ≤ _; omega
    have hwd : (IntKind.u64.wrap c).tmod (IntKind.u64.wrap ((mkB q).size : Int)) = (IntKind.u64.wrap c).tmod (IntKind.u64.wrap ((mkB q).size : Int)) := rfl
    cases g with
    | none =>
      have hgt := rplGet_no hg.symm
      refine w1 (w2 (vN tab rfl (vQ tab rfl (w4 (w3 (w1 (w1 (w2 (vF rfl callable_47 (rpl_awake) (vQ tab rfl (w4 (w3 (vc_false rfl (vw_skip (w3 (w1 (w2 (vQ tab rfl (vF rfl callable_41 (rpl_put_as _ hp) (vQ tab rfl (vQ tab rfl (vQ tab rfl (vQ tab rfl ?_)))))))))))))))))))))))
      refine vQ tab rfl (w4 (w3 (w1 (w1 (vw_draw mixed (dq_op tab rfl rfl rfl rfl (df_op rfl rfl rfl rfl rfl callable_23 (num_fun _) (dq_op tab rfl rfl rfl rfl (dq_op tab rfl rfl rfl rfl (df_op rfl rfl rfl rfl rfl callable_45 (rpl_may y) (dq_op tab rfl rfl rfl rfl (dq_op tab rfl rfl rfl rfl (dgd_op false rfl rfl rfl (by simp only [hm, hne, ba_self, eq_self, decide_true, decide_eq_true_eq, decide_eq_false_iff_not, Bool.not_eq_eq_eq_not, Bool.not_true, Bool.not_false, bne_iff_ne, bne_eq_false_iff_eq, beq_iff_eq, beq_eq_false_iff_ne, ne_eq, beq_self_eq_true, bne_self_eq_false, Bool.and_eq_true, Bool.and_eq_false_iff, Bool.or_eq_true, Bool.or_eq_false_iff, and_self, and_true, true_and, Bool.false_eq_true, Bool.true_eq_false, not_false_eq_true, not_true_eq_false]; first | done | omega) ?_)))))))))))))
      refine dq_op tab ⟨_, _, rfl, rfl, rfl⟩ rfl rfl rfl (df_op ⟨_, _, rfl, rfl, rfl⟩ rfl rfl rfl rfl callable_23 (num_fun _) (dq_op tab ⟨_, _, rfl, rfl, rfl⟩ rfl rfl rfl (dq_op tab ⟨_, _, rfl, rfl, rfl⟩ rfl rfl rfl (dq_op tab ⟨_, _, rfl, rfl, rfl⟩ rfl rfl rfl (dq_op tab ⟨_, _, rfl, rfl, rfl⟩ rfl rfl rfl (dq_op tab ⟨_, _, rfl, rfl, rfl⟩ rfl rfl rfl (dq_op tab rfl rfl rfl rfl (vd_nil (by kernel_rfl) ?_))))))))
      refine w3 (vcd_false rfl (by simp only [hm, hne, ba_self, eq_self, decide_true, decide_eq_true_eq, decide_eq_false_iff_not, Bool.not_eq_eq_eq_not, Bool.not_true, Bool.not_false, bne_iff_ne, bne_eq_false_iff_eq, beq_iff_eq, beq_eq_false_iff_ne, ne_eq, beq_self_eq_true, bne_self_eq_false, Bool.and_eq_true, Bool.and_eq_false_iff, Bool.or_eq_true, Bool.or_eq_false_iff, and_self, and_true, true_and, Bool.false_eq_true, Bool.true_eq_false, not_false_eq_true, not_true_eq_false]; first | done | omega) ?_)
      refine vw_skip (w3 (w1 (w1 (w2 (vQ tab rfl (vF rfl callable_23 (num_fun _) (vQ tab rfl (w4 (w3 (vc_true rfl (w1 (w2 (vQ tab rfl (vF rfl callable_43 (rpl_get_as (s := mkB q) _ h1 (by omega)) ?_))))))))))))))
      refine vQ tab rfl (vQ tab rfl (vQ tab rfl (vN tab rfl (vS tab rfl (vQ tab rfl (w4 (w3 (w1 (w2 (vQ tab rfl (vQ tab rfl (vQ tab rfl (vQ tab rfl (vQ tab rfl (vQ tab rfl (vq_op tab rfl rfl rfl (rem_ev rfl rfl h0) (vQ tab rfl (vq_op tab rfl rfl rfl (ev_part rfl rfl rfl rfl (hbn _) (Nat.zero_le _) hK2) (vF rfl callable_43 (rpl_get_as (s := (mkB q).extract 0 K.toNat) _ h2 hcs) (vQ tab rfl (vQ tab rfl (vQ tab rfl (vN tab rfl ?_)))))))))))))))))))))))
      refine vS tab rfl (vQ tab rfl (w4 (w3 (w1 (w2 (vQ tab rfl (vq_op tab rfl rfl rfl (cat_ev rfl rfl hca) (vF rfl callable_43 (rpl_get_as (s := mkB q ++ ⟨#[0]⟩) _ h3 hms) (vQ tab rfl (vQ tab rfl (vQ tab rfl (vN tab rfl (vS tab rfl (vQ tab rfl (w4 (w3 (w1 (w2 (vQ tab rfl (vF rfl callable_23 (num_fun _) (vQ tab rfl (vQ tab rfl (vQ tab rfl ?_)))))))))))))))))))))))
      refine vQ tab rfl (vq_op tab ⟨_, _, rfl, rfl, rfl⟩ rfl rfl (ev_neq rfl rfl rfl (rpl_eq y y)) (vQ tab rfl (vQ tab rfl (vgd_op false rfl rfl rfl (by simp only [hm, hne, ba_self, eq_self, decide_true, decide_eq_true_eq, decide_eq_false_iff_not, Bool.not_eq_eq_eq_not, Bool.not_true, Bool.not_false, bne_iff_ne, bne_eq_false_iff_eq, beq_iff_eq, beq_eq_false_iff_ne, ne_eq, beq_self_eq_true, bne_self_eq_false, Bool.and_eq_true, Bool.and_eq_false_iff, Bool.or_eq_true, Bool.or_eq_false_iff, and_self, and_true, true_and, Bool.false_eq_true, Bool.true_eq_false, not_false_eq_true, not_true_eq_false]; first | done | omega) ?_))))
      refine vQ tab rfl (vF rfl callable_23 (num_fun _) (vQ tab rfl (vQ tab rfl (vQ tab rfl (vQ tab rfl (vF rfl callable_23 (num_fun _) (vQ tab rfl (vQ tab rfl (w4 (w3 (vc_false rfl (vw_skip (w3 (w1 (w2 (vQ tab rfl (vF rfl callable_43 (rpl_get_as (s := t) _ hgt hs) (vQ tab rfl (vQ tab rfl (vQ tab rfl (vN tab rfl (vS tab rfl (vQ tab rfl ?_)))))))))))))))))))))))
      refine w4 (w3 (w1 (w1 (w2 (vQ tab rfl (vF rfl callable_23 (num_fun _) (vQ tab rfl (w4 (w3 (vc_true rfl (w1 (w2 (vQ tab rfl (vQ tab rfl (vq_op tab rfl rfl rfl (ev_eql rfl rfl rfl (rpl_eq rpl0 rpl0)) (vQ tab rfl (w4 (w3 (vw_ret (q_thenr ?_))))))))))))))))))))
      all_goals exact ⟨.inr rfl, rfl⟩
    | some b =>
      have hgt := rplGet_ok hg.symm
      obtain ⟨hmb, hpb⟩ := rplC.get_inv hg.symm
      have hput : rplPut b = (t, 0) := by rw [rplPut_ok hmb, hpb, mk_B]
      refine w1 (w2 (vN tab rfl (vQ tab rfl (w4 (w3 (w1 (w1 (w2 (vF rfl callable_47 (rpl_awake) (vQ tab rfl (w4 (w3 (vc_false rfl (vw_skip (w3 (w1 (w2 (vQ tab rfl (vF rfl callable_41 (rpl_put_as (a := y) _ hp) (vQ tab rfl (vQ tab rfl (vQ tab rfl (vQ tab rfl ?_)))))))))))))))))))))))
      refine vQ tab rfl (w4 (w3 (w1 (w1 (vw_draw mixed (dq_op tab rfl rfl rfl rfl (df_op rfl rfl rfl rfl rfl callable_23 (num_fun _) (dq_op tab rfl rfl rfl rfl (dq_op tab rfl rfl rfl rfl (df_op rfl rfl rfl rfl rfl callable_45 (rpl_may y) (dq_op tab rfl rfl rfl rfl (dq_op tab rfl rfl rfl rfl (dgd_op false rfl rfl rfl (by simp only [hm, hne, ba_self, eq_self, decide_true, decide_eq_true_eq, decide_eq_false_iff_not, Bool.not_eq_eq_eq_not, Bool.not_true, Bool.not_false, bne_iff_ne, bne_eq_false_iff_eq, beq_iff_eq, beq_eq_false_iff_ne, ne_eq, beq_self_eq_true, bne_self_eq_false, Bool.and_eq_true, Bool.and_eq_false_iff, Bool.or_eq_true, Bool.or_eq_false_iff, and_self, and_true, true_and, Bool.false_eq_true, Bool.true_eq_false, not_false_eq_true, not_true_eq_false]; first | done | omega) ?_)))))))))))))
      refine dq_op tab ⟨_, _, rfl, rfl, rfl⟩ rfl rfl rfl (df_op ⟨_, _, rfl, rfl, rfl⟩ rfl rfl rfl rfl callable_23 (num_fun _) (dq_op tab ⟨_, _, rfl, rfl, rfl⟩ rfl rfl rfl (dq_op tab ⟨_, _, rfl, rfl, rfl⟩ rfl rfl rfl (dq_op tab ⟨_, _, rfl, rfl, rfl⟩ rfl rfl rfl (dq_op tab ⟨_, _, rfl, rfl, rfl⟩ rfl rfl rfl (dq_op tab ⟨_, _, rfl, rfl, rfl⟩ rfl rfl rfl (dq_op tab rfl rfl rfl rfl (vd_nil (by kernel_rfl) ?_))))))))
      refine w3 (vcd_false rfl (by simp only [hm, hne, ba_self, eq_self, decide_true, decide_eq_true_eq, decide_eq_false_iff_not, Bool.not_eq_eq_eq_not, Bool.not_true, Bool.not_false, bne_iff_ne, bne_eq_false_iff_eq, beq_iff_eq, beq_eq_false_iff_ne, ne_eq, beq_self_eq_true, bne_self_eq_false, Bool.and_eq_true, Bool.and_eq_false_iff, Bool.or_eq_true, Bool.or_eq_false_iff, and_self, and_true, true_and, Bool.false_eq_true, Bool.true_eq_false, not_false_eq_true, not_true_eq_false]; first | done | omega) ?_)
      refine vw_skip (w3 (w1 (w1 (w2 (vQ tab rfl (vF rfl callable_23 (num_fun _) (vQ tab rfl (w4 (w3 (vc_true rfl (w1 (w2 (vQ tab rfl (vF rfl callable_43 (rpl_get_as (s := mkB q) _ h1 (by omega)) ?_))))))))))))))
      refine vQ tab rfl (vQ tab rfl (vQ tab rfl (vN tab rfl (vS tab rfl (vQ tab rfl (w4 (w3 (w1 (w2 (vQ tab rfl (vQ tab rfl (vQ tab rfl (vQ tab rfl (vQ tab rfl (vQ tab rfl (vq_op tab rfl rfl rfl (rem_ev rfl rfl h0) (vQ tab rfl (vq_op tab rfl rfl rfl (ev_part rfl rfl rfl rfl (hbn _) (Nat.zero_le _) hK2) (vF rfl callable_43 (rpl_get_as (s := (mkB q).extract 0 K.toNat) _ h2 hcs) (vQ tab rfl (vQ tab rfl (vQ tab rfl (vN tab rfl ?_)))))))))))))))))))))))
      refine vS tab rfl (vQ tab rfl (w4 (w3 (w1 (w2 (vQ tab rfl (vq_op tab rfl rfl rfl (cat_ev rfl rfl hca) (vF rfl callable_43 (rpl_get_as (s := mkB q ++ ⟨#[0]⟩) _ h3 hms) (vQ tab rfl (vQ tab rfl (vQ tab rfl (vN tab rfl (vS tab rfl (vQ tab rfl (w4 (w3 (w1 (w2 (vQ tab rfl (vF rfl callable_23 (num_fun _) (vQ tab rfl (vQ tab rfl (vQ tab rfl ?_)))))))))))))))))))))))
      refine vQ tab rfl (vq_op tab ⟨_, _, rfl, rfl, rfl⟩ rfl rfl (ev_neq rfl rfl rfl (rpl_eq y y)) (vQ tab rfl (vQ tab rfl (vgd_op false rfl rfl rfl (by simp only [hm, hne, ba_self, eq_self, decide_true, decide_eq_true_eq, decide_eq_false_iff_not, Bool.not_eq_eq_eq_not, Bool.not_true, Bool.not_false, bne_iff_ne, bne_eq_false_iff_eq, beq_iff_eq, beq_eq_false_iff_ne, ne_eq, beq_self_eq_true, bne_self_eq_false, Bool.and_eq_true, Bool.and_eq_false_iff, Bool.or_eq_true, Bool.or_eq_false_iff, and_self, and_true, true_and, Bool.false_eq_true, Bool.true_eq_false, not_false_eq_true, not_true_eq_false]; first | done | omega) ?_))))
      refine vQ tab rfl (vF rfl callable_23 (num_fun _) (vQ tab rfl (vQ tab rfl (vQ tab rfl (vQ tab rfl (vF rfl callable_23 (num_fun _) (vQ tab rfl (vQ tab rfl (w4 (w3 (vc_false rfl (vw_skip (w3 (w1 (w2 (vQ tab rfl (vF rfl callable_43 (rpl_get_as (s := t) _ hgt hs) (vQ tab rfl (vQ tab rfl (vQ tab rfl (vN tab rfl (vS tab rfl (vQ tab rfl ?_)))))))))))))))))))))))
      refine w4 (w3 (w1 (w1 (w2 (vQ tab rfl (vF rfl callable_23 (num_fun _) (vQ tab rfl (w4 (w3 (vc_false rfl (vw_skip (w3 (w1 (w2 (vQ tab rfl (vF rfl callable_41 (rpl_put_as (a := b) (t, 0) hput) (vQ tab rfl (vQ tab rfl (vQ tab rfl (vQ tab rfl (vQ tab rfl (w4 (w3 ?_)))))))))))))))))))))))
      refine w1 (w2 (vQ tab rfl (vF rfl callable_23 (num_fun _) (vQ tab rfl (vQ tab rfl (vQ tab rfl (vQ tab rfl (vQ tab rfl (vQ tab rfl (vQ tab rfl (w4 (w3 (vw_ret ?_)))))))))))))
      all_goals exact ⟨.inr rfl, Eq.trans (b := some (.bool (t == t))) rfl (by rw [ba_self])⟩
set_option maxHeartbeats 16000000 in
theorem ReplyUnlike_law (a b : ReplyV) : Fun Try.prog 17 [rplV a, rplV b] (.bool true) := by
  refine fun_of_vw tab Try.func17 rfl rfl (by simp [Try.f17]) (lrel_cons (rplRel a) (lrel_cons (rplRel b) lrel_nil)) (.bool _) ?_
  cases ha : rplMay a with
  | false =>
    have hp := rplPut_no ha
    cases hb : rplMay b with
    | false =>
      have hp2 := rplPut_no hb
      refine w1 (w2 (vN tab rfl (vN tab rfl (vQ tab rfl (w4 (w3 (w1 (w1 (w2 (vF rfl callable_47 (rpl_awake) (vQ tab rfl (w4 (w3 (vc_false rfl (vw_skip (w3 (w1 (w2 (vQ tab rfl (vF rfl callable_41 (rpl_put_as (a := a) _ hp) (vQ tab rfl (vQ tab rfl (vQ tab rfl ?_)))))))))))))))))))))))
      refine vQ tab rfl (vQ tab rfl (w4 (w3 (w1 (w2 (vQ tab rfl (vF rfl callable_41 (rpl_put_as (a := b) _ hp2) (vQ tab rfl (vQ tab rfl (vQ tab rfl (vQ tab rfl (vQ tab rfl (w4 (w3 (w1 (w1 (w2 (vQ tab rfl (vF rfl callable_23 (num_fun _) (vQ tab rfl (vQ tab rfl (vK rfl (vK rfl ?_)))))))))))))))))))))))
      refine vK rfl (vQ tab rfl (w4 (w3 (vc_true rfl (w1 (w2 (vQ tab rfl (vF rfl callable_23 (num_fun _) (vQ tab rfl (vQ tab rfl (vQ tab rfl (vQ tab rfl (vQ tab rfl (vQ tab rfl (vQ tab rfl (vF rfl callable_23 (num_fun _) (vQ tab rfl (vQ tab rfl (vQ tab rfl (vQ tab rfl (vQ tab rfl (vQ tab rfl (vQ tab rfl ?_)))))))))))))))))))))))
      refine w4 (w3 (vw_ret (q_thenr ?_)))
      all_goals exact ⟨.inr rfl, rfl⟩
    | true =>
      have hp2 := rplPut_ok hb
      refine w1 (w2 (vN tab rfl (vN tab rfl (vQ tab rfl (w4 (w3 (w1 (w1 (w2 (vF rfl callable_47 (rpl_awake) (vQ tab rfl (w4 (w3 (vc_false rfl (vw_skip (w3 (w1 (w2 (vQ tab rfl (vF rfl callable_41 (rpl_put_as (a := a) _ hp) (vQ tab rfl (vQ tab rfl (vQ tab rfl ?_)))))))))))))))))))))))
      refine vQ tab rfl (vQ tab rfl (w4 (w3 (w1 (w2 (vQ tab rfl (vF rfl callable_41 (rpl_put_as (a := b) _ hp2) (vQ tab rfl (vQ tab rfl (vQ tab rfl (vQ tab rfl (vQ tab rfl (w4 (w3 (w1 (w1 (w2 (vQ tab rfl (vF rfl callable_23 (num_fun _) (vQ tab rfl (vQ tab rfl (vK rfl (vK rfl ?_)))))))))))))))))))))))
      refine vK rfl (vQ tab rfl (w4 (w3 (vc_true rfl (w1 (w2 (vQ tab rfl (vF rfl callable_23 (num_fun _) (vQ tab rfl (vQ tab rfl (vQ tab rfl (vQ tab rfl (vQ tab rfl (vQ tab rfl (vQ tab rfl (vF rfl callable_23 (num_fun _) (vQ tab rfl (vQ tab rfl (vK rfl (vK rfl (vQ tab rfl (vQ tab rfl (vQ tab rfl ?_)))))))))))))))))))))))
      refine w4 (w3 (vw_ret (q_thenr ?_)))
      all_goals exact ⟨.inr rfl, rfl⟩
  | true =>
    have hp := rplPut_ok ha
    cases hb : rplMay b with
    | false =>
      have hp2 := rplPut_no hb
      refine w1 (w2 (vN tab rfl (vN tab rfl (vQ tab rfl (w4 (w3 (w1 (w1 (w2 (vF rfl callable_47 (rpl_awake) (vQ tab rfl (w4 (w3 (vc_false rfl (vw_skip (w3 (w1 (w2 (vQ tab rfl (vF rfl callable_41 (rpl_put_as (a := a) _ hp) (vQ tab rfl (vQ tab rfl (vQ tab rfl ?_)))))))))))))))))))))))
      refine vQ tab rfl (vQ tab rfl (w4 (w3 (w1 (w2 (vQ tab rfl (vF rfl callable_41 (rpl_put_as (a := b) _ hp2) (vQ tab rfl (vQ tab rfl (vQ tab rfl (vQ tab rfl (vQ tab rfl (w4 (w3 (w1 (w1 (w2 (vQ tab rfl (vF rfl callable_23 (num_fun _) (vQ tab rfl (vQ tab rfl (vQ tab rfl (vF rfl callable_23 (num_fun _) ?_)))))))))))))))))))))))
      refine vQ tab rfl (vQ tab rfl (w4 (w3 (vc_true rfl (w1 (w2 (vQ tab rfl (vF rfl callable_23 (num_fun _) (vQ tab rfl (vQ tab rfl (vK rfl (vK rfl (vQ tab rfl (vQ tab rfl (vQ tab rfl (vF rfl callable_23 (num_fun _) (vQ tab rfl (vQ tab rfl (vQ tab rfl (vQ tab rfl (vQ tab rfl (vQ tab rfl (vQ tab rfl ?_)))))))))))))))))))))))
      refine w4 (w3 (vw_ret (q_thenr ?_)))
      all_goals exact ⟨.inr rfl, rfl⟩
    | true =>
      have hp2 := rplPut_ok hb
      have he : (mkB (rplC.put a) == mkB (rplC.put b)) = decide (a = b) := by
        rw [ba_beq, decide_eq_decide]
        exact ⟨fun e => rplC.put_inj ha hb (mkB_inj e), fun e => by rw [e]⟩
      refine w1 (w2 (vN tab rfl (vN tab rfl (vQ tab rfl (w4 (w3 (w1 (w1 (w2 (vF rfl callable_47 (rpl_awake) (vQ tab rfl (w4 (w3 (vc_false rfl (vw_skip (w3 (w1 (w2 (vQ tab rfl (vF rfl callable_41 (rpl_put_as (a := a) _ hp) (vQ tab rfl (vQ tab rfl (vQ tab rfl ?_)))))))))))))))))))))))
      refine vQ tab rfl (vQ tab rfl (w4 (w3 (w1 (w2 (vQ tab rfl (vF rfl callable_41 (rpl_put_as (a := b) _ hp2) (vQ tab rfl (vQ tab rfl (vQ tab rfl (vQ tab rfl (vQ tab rfl (w4 (w3 (w1 (w1 (w2 (vQ tab rfl (vF rfl callable_23 (num_fun _) (vQ tab rfl (vQ tab rfl (vQ tab rfl (vF rfl callable_23 (num_fun _) ?_)))))))))))))))))))))))
      refine vQ tab rfl (vQ tab rfl (w4 (w3 (vc_false rfl (vw_skip (w3 (w1 (w2 (vQ tab rfl (vQ tab rfl (vQ tab rfl (vQ tab rfl (vQ tab rfl (vq_op tab rfl rfl rfl (ev_eql rfl rfl rfl (rpl_eq a b)) (vQ tab rfl (vQ tab rfl (w4 (w3 (vw_ret ?_)))))))))))))))))))
      all_goals exact ⟨.inr rfl, Eq.trans (b := some (.bool ((mkB (rplC.put a) == mkB (rplC.put b)) == decide (a = b)))) rfl (by rw [he]; simp)⟩
end Go.Proofs.Yticaicdopfpknaa
