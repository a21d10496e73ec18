/- Law 7: awake; Events, EventBack, EventUnlike. -/
import Derived.Test.YticaicdopfpknaaVmSh
import Derived.Test.YticaicdopfpknaaEv3
import Derived.Test.YticaicdopfpknaaCl0
namespace Go.Proofs.Yticaicdopfpknaa
open Go Vm IntWalk
set_option linter.unusedVariables false
set_option linter.unusedSimpArgs false
def evtA : EventV := ⟨5, 2, 1, 3, 0, 0, 0, 4⟩
set_option maxHeartbeats 8000000 in
theorem evt_awake : Fun Try.prog 33 [] (.bool true) := by
  refine fun_of_vw tab Try.func33 rfl rfl (by simp [Try.f33]) lrel_nil (.bool _) ?_
  have h1 : evtPut evtA = (⟨#[1, 5, 1, 1, 1, 2, 1, 3, 1, 4]⟩, 0) := by decide
  have h2 : evtGet ⟨#[1, 5, 1, 1, 1, 2, 1, 3, 1, 4]⟩ = (evtA, 0) := by decide
  have h3 : evtGet ⟨#[6, 1, 2, 5, 0]⟩ = (⟨0, 0, 0, 0, 0, 0, 0, 0⟩, 700) := by decide
  have h4 : evtPut ⟨8, 0, 0, 0, 1, 0, 0, 0⟩ = (⟨#[]⟩, 700) := by decide
  have p1 : Fun Try.prog 27 [evtV evtA] (.tuple #[.string ⟨#[1, 5, 1, 1, 1, 2, 1, 3, 1, 4]⟩, .int .i64 0]) := by have := evt_put evtA; rw [h1] at this; exact this
  have p2 : Fun Try.prog 27 [evtV ⟨8, 0, 0, 0, 1, 0, 0, 0⟩] (.tuple #[.string ⟨#[]⟩, .int .i64 700]) := by have := evt_put ⟨8, 0, 0, 0, 1, 0, 0, 0⟩; rw [h4] at this; exact this
  have g1 : Fun Try.prog 29 [.string ⟨#[1, 5, 1, 1, 1, 2, 1, 3, 1, 4]⟩] (.tuple #[evtV evtA, .int .i64 0]) := by have := evt_get ⟨#[1, 5, 1, 1, 1, 2, 1, 3, 1, 4]⟩ (by decide); rw [h2] at this; exact this
  have g2 : Fun Try.prog 29 [.string ⟨#[6, 1, 2, 5, 0]⟩] (.tuple #[evtV ⟨0, 0, 0, 0, 0, 0, 0, 0⟩, .int .i64 700]) := by have := evt_get ⟨#[6, 1, 2, 5, 0]⟩ (by decide); rw [h3] at this; exact this
  have m1 : Fun Try.prog 31 [evtV evtA] (.bool true) := by have := evt_may evtA; rw [show evtMay evtA = true by decide] at this; exact this
  have m2 : Fun Try.prog 31 [evtV ⟨10, 0, 0, 0, 0, 0, 0, 0⟩] (.bool false) := by have := evt_may ⟨10, 0, 0, 0, 0, 0, 0, 0⟩; rw [show evtMay ⟨10, 0, 0, 0, 0, 0, 0, 0⟩ = false by decide] at this; exact this
  refine w1 (w2 (vQ tab rfl (w4 (w3 (w1 (w2 (vQ tab rfl (vN tab rfl (vS tab rfl (w4 (w3 (w1 (w2 (vQ tab rfl (vF rfl callable_27 (p1) (vQ tab rfl (vQ tab rfl (vQ tab rfl (vQ tab rfl (vQ tab rfl (w4 (w3 (w1 ?_)))))))))))))))))))))))
  refine w2 (vQ tab rfl (vF rfl callable_29 (g1) (vQ tab rfl (vQ tab rfl (vQ tab rfl (vN tab rfl (vS tab rfl (vQ tab rfl (w4 (w3 (w1 (w2 (vF rfl callable_29 (g2) (vQ tab rfl (vQ tab rfl (vQ tab rfl (vN tab rfl (vS tab rfl (vQ tab rfl (w4 (w3 (w1 (w2 ?_)))))))))))))))))))))))
  refine vQ tab rfl (vF rfl callable_27 (p2) (vQ tab rfl (vQ tab rfl (vQ tab rfl (vQ tab rfl (vQ tab rfl (w4 (w3 (w1 (w2 (vQ tab rfl (vQ tab rfl (vQ tab rfl (vQ tab rfl (vF rfl callable_23 (num_fun _) (vQ tab rfl (vQ tab rfl (vQ tab rfl (vQ tab rfl (vQ tab rfl (vq_op tab ⟨_, _, rfl, rfl, rfl⟩ rfl rfl (ev_eql rfl rfl rfl (evt_eq evtA evtA)) (vQ tab rfl (vQ tab rfl ?_)))))))))))))))))))))))
  refine vQ tab rfl (vF rfl callable_23 (num_fun _) (vQ tab rfl (vQ tab rfl (vQ tab rfl (vQ tab rfl (vF rfl callable_23 (num_fun _) (vQ tab rfl (vQ tab rfl (vQ tab rfl (vQ tab rfl (vF rfl callable_23 (num_fun _) (vQ tab rfl (vQ tab rfl (vQ tab rfl (vQ tab rfl (vF rfl callable_31 (m1) (vQ tab rfl (vQ tab rfl (vQ tab rfl (vF rfl callable_31 (m2) (vQ tab rfl (vQ tab rfl (vQ tab rfl ?_)))))))))))))))))))))))
  refine w4 (w3 (vw_ret ?_))
  exact ⟨.inr rfl, Eq.trans (b := some (.bool _)) rfl (congrArg (fun b => some (Value.bool b)) (by decide))⟩
theorem evt_put_as {a : EventV} (r : ByteArray × Int) (h : evtPut a = r) : Fun Try.prog 27 [evtV a] (.tuple #[.string r.1, .int .i64 r.2]) := by subst h; exact evt_put a
theorem evt_get_as {s : ByteArray} (r : EventV × Int) (h : evtGet s = r) (hs : s.size ≤ 9223372036854775807) : Fun Try.prog 29 [.string s] (.tuple #[evtV r.1, .int .i64 r.2]) := by subst h; exact evt_get s hs
theorem evt_may_as {a : EventV} (r : Bool) (h : evtMay a = r) : Fun Try.prog 31 [evtV a] (.bool r) := by subst h; exact evt_may a
theorem evt_put_len {a : EventV} (h : evtMay a = true) : (evtC.put a).length ≤ 70000 := by
  have h1 := (numL_len (evtC.kind a)).1
  have h2 := numsL_len (evtC.nums a)
  have h3 : (evtC.nums a).length ≤ 8 := by rw [evtC.okC a]; show evtCnt _ ≤ 8; unfold evtCnt; (repeat' split) <;> omega
  have h4 := evtC.okT a h
  have h5 := (numL_len ((evtC.text a).length : Int)).1
  unfold Codec.put
  simp only [List.length_append]
  split
  · unfold txtL; rw [List.length_append]; omega
  · simp only [List.length_nil]; omega
abbrev evt0 : EventV := ⟨0, 0, 0, 0, 0, 0, 0, 0⟩
set_option maxHeartbeats 16000000 in
theorem Events_law (y : EventV) (t : ByteArray) (ht : t.size ≤ maxLen) : Fun Try.prog 7 [evtV y, .string t] (.bool true) := by
  refine fun_of_vw tab Try.func7 rfl rfl (by simp [Try.f7]) (lrel_cons (evtRel y) (lrel_cons (.string _) lrel_nil)) (.bool _) ?_
  have hs : t.size ≤ 9223372036854775807 := by unfold maxLen at ht; omega
  refine w1 (w2 (vN tab rfl (vQ tab rfl (w4 (w3 (w1 (w2 (vQ tab rfl (vF rfl callable_27 (evt_put y) (vQ tab rfl (vQ tab rfl (vQ tab rfl (vQ tab rfl (vQ tab rfl (w4 (w3 (w1 (w2 (vQ tab rfl (vF rfl callable_28 (refevt_put y) (vQ tab rfl (vQ tab rfl (vQ tab rfl ?_)))))))))))))))))))))))
  refine vQ tab rfl (vQ tab rfl (w4 (w3 (w1 (w2 (vQ tab rfl (vF rfl callable_29 (evt_get t hs) (vQ tab rfl (vQ tab rfl (vQ tab rfl (vN tab rfl (vS tab rfl (vQ tab rfl (w4 (w3 (w1 (w2 (vQ tab rfl (vF rfl callable_30 (refevt_get t hs) (vQ tab rfl (vQ tab rfl (vQ tab rfl (vN tab rfl ?_)))))))))))))))))))))))
  refine vS tab rfl (vQ tab rfl (w4 (w3 (w1 (vw_draw mixed (dq_op tab rfl rfl rfl rfl (dq_op tab rfl rfl rfl rfl (dq_op tab rfl rfl rfl rfl (dq_op tab rfl rfl rfl rfl (dgd_op true rfl rfl rfl (by simp only [ba_self, eq_self, decide_true, decide_eq_true_eq, decide_eq_false_iff_not, Bool.not_eq_eq_eq_not, Bool.not_true, Bool.not_false, bne_iff_ne, bne_eq_false_iff_eq, beq_iff_eq, beq_eq_false_iff_ne, ne_eq, beq_self_eq_true, bne_self_eq_false, Bool.and_eq_true, Bool.and_eq_false_iff, Bool.or_eq_true, Bool.or_eq_false_iff, and_self, and_true, true_and, Bool.false_eq_true, Bool.true_eq_false, not_false_eq_true, not_true_eq_false]; first | done | omega) ?_))))))))))
  refine dq_op tab ⟨_, _, rfl, rfl, rfl⟩ rfl rfl rfl (df_op ⟨_, _, rfl, rfl, rfl⟩ rfl rfl rfl rfl callable_23 (num_fun _) (dq_op tab ⟨_, _, rfl, rfl, rfl⟩ rfl rfl rfl (dq_op tab ⟨_, _, rfl, rfl, rfl⟩ rfl rfl rfl (dq_op tab rfl rfl rfl rfl (dq_op tab rfl rfl rfl rfl (dgd_op true rfl rfl rfl (by simp only [ba_self, eq_self, decide_true, decide_eq_true_eq, decide_eq_false_iff_not, Bool.not_eq_eq_eq_not, Bool.not_true, Bool.not_false, bne_iff_ne, bne_eq_false_iff_eq, beq_iff_eq, beq_eq_false_iff_ne, ne_eq, beq_self_eq_true, bne_self_eq_false, Bool.and_eq_true, Bool.and_eq_false_iff, Bool.or_eq_true, Bool.or_eq_false_iff, and_self, and_true, true_and, Bool.false_eq_true, Bool.true_eq_false, not_false_eq_true, not_true_eq_false]; first | done | omega) ?_))))))
  refine dq_op tab ⟨_, _, rfl, rfl, rfl⟩ rfl rfl rfl (dq_op tab ⟨_, _, rfl, rfl, rfl⟩ rfl rfl rfl (dq_op tab ⟨_, _, rfl, rfl, rfl⟩ rfl (ev_eql rfl rfl rfl (evt_eq (evtGet t).1 (evtGet t).1)) (ev_eql rfl rfl rfl (evt_eq (evtGet t).1 (evtGet t).1)) (dq_op tab rfl rfl rfl rfl (dq_op tab rfl rfl rfl rfl (dgd_op true rfl rfl rfl (by simp only [ba_self, eq_self, decide_true, decide_eq_true_eq, decide_eq_false_iff_not, Bool.not_eq_eq_eq_not, Bool.not_true, Bool.not_false, bne_iff_ne, bne_eq_false_iff_eq, beq_iff_eq, beq_eq_false_iff_ne, ne_eq, beq_self_eq_true, bne_self_eq_false, Bool.and_eq_true, Bool.and_eq_false_iff, Bool.or_eq_true, Bool.or_eq_false_iff, and_self, and_true, true_and, Bool.false_eq_true, Bool.true_eq_false, not_false_eq_true, not_true_eq_false]; first | done | omega) ?_)))))
  refine dq_op tab ⟨_, _, rfl, rfl, rfl⟩ rfl rfl rfl (df_op ⟨_, _, rfl, rfl, rfl⟩ rfl rfl rfl rfl callable_23 (num_fun _) (dq_op tab ⟨_, _, rfl, rfl, rfl⟩ rfl rfl rfl (dq_op tab ⟨_, _, rfl, rfl, rfl⟩ rfl rfl rfl (dq_op tab rfl rfl rfl rfl (dq_op tab rfl rfl rfl rfl (dgd_op true rfl rfl rfl (by simp only [ba_self, eq_self, decide_true, decide_eq_true_eq, decide_eq_false_iff_not, Bool.not_eq_eq_eq_not, Bool.not_true, Bool.not_false, bne_iff_ne, bne_eq_false_iff_eq, beq_iff_eq, beq_eq_false_iff_ne, ne_eq, beq_self_eq_true, bne_self_eq_false, Bool.and_eq_true, Bool.and_eq_false_iff, Bool.or_eq_true, Bool.or_eq_false_iff, and_self, and_true, true_and, Bool.false_eq_true, Bool.true_eq_false, not_false_eq_true, not_true_eq_false]; first | done | omega) ?_))))))
  refine dq_op tab ⟨_, _, rfl, rfl, rfl⟩ rfl rfl rfl (df_op ⟨_, _, rfl, rfl, rfl⟩ rfl rfl rfl rfl callable_31 (evt_may y) (dq_op tab ⟨_, _, rfl, rfl, rfl⟩ rfl rfl rfl (df_op ⟨_, _, rfl, rfl, rfl⟩ rfl rfl rfl rfl callable_32 (refevt_may y) (dq_op tab ⟨_, _, rfl, rfl, rfl⟩ rfl rfl rfl (dq_op tab rfl rfl rfl rfl (dq_op tab rfl rfl rfl rfl (dgd_op true rfl rfl rfl (by simp only [ba_self, eq_self, decide_true, decide_eq_true_eq, decide_eq_false_iff_not, Bool.not_eq_eq_eq_not, Bool.not_true, Bool.not_false, bne_iff_ne, bne_eq_false_iff_eq, beq_iff_eq, beq_eq_false_iff_ne, ne_eq, beq_self_eq_true, bne_self_eq_false, Bool.and_eq_true, Bool.and_eq_false_iff, Bool.or_eq_true, Bool.or_eq_false_iff, and_self, and_true, true_and, Bool.false_eq_true, Bool.true_eq_false, not_false_eq_true, not_true_eq_false]; first | done | omega) ?_)))))))
  refine df_op ⟨_, _, rfl, rfl, rfl⟩ rfl rfl rfl rfl callable_33 (evt_awake) (dq_op tab rfl rfl rfl rfl (dq_op tab rfl rfl rfl rfl (vd_nil (by kernel_rfl) ?_)))
  refine w3 (vw_ret ?_)
  all_goals exact ⟨.inr rfl, rfl⟩
set_option maxHeartbeats 32000000 in
theorem EventBack_law (y : EventV) (t : ByteArray) (c : Int) (ht : t.size ≤ maxLen) : Fun Try.prog 8 [evtV y, .string t, .int .i64 c] (.bool true) := by
  refine fun_of_vw tab Try.func8 rfl rfl (by simp [Try.f8]) (lrel_cons (evtRel y) (lrel_cons (.string _) (lrel_cons (.int _ _) lrel_nil))) (.bool _) ?_
  have hs : t.size ≤ 9223372036854775807 := by unfold maxLen at ht; omega
  obtain ⟨g, hg⟩ : ∃ g, g = evtC.get (B t) := ⟨_, rfl⟩
  cases hm : evtMay y with
  | false =>
    have hp := evtPut_no hm
    cases g with
    | none =>
      have hgt := evtGet_no hg.symm
      refine w1 (w2 (vN tab rfl (vQ tab rfl (w4 (w3 (w1 (w1 (w2 (vF rfl callable_33 (evt_awake) (vQ tab rfl (w4 (w3 (vc_false rfl (vw_skip (w3 (w1 (w2 (vQ tab rfl (vF rfl callable_27 (evt_put_as _ hp) (vQ tab rfl (vQ tab rfl (vQ tab rfl (vQ tab rfl ?_)))))))))))))))))))))))
      refine vQ tab rfl (w4 (w3 (w1 (w1 (vw_draw mixed (dq_op tab rfl rfl rfl rfl (df_op rfl rfl rfl rfl rfl callable_23 (num_fun _) (dq_op tab rfl rfl rfl rfl (dq_op tab rfl rfl rfl rfl (df_op rfl rfl rfl rfl rfl callable_31 (evt_may y) (dq_op tab rfl rfl rfl rfl (dq_op tab rfl rfl rfl rfl (dgd_op false rfl rfl rfl (by simp only [hm, ba_self, eq_self, decide_true, decide_eq_true_eq, decide_eq_false_iff_not, Bool.not_eq_eq_eq_not, Bool.not_true, Bool.not_false, bne_iff_ne, bne_eq_false_iff_eq, beq_iff_eq, beq_eq_false_iff_ne, ne_eq, beq_self_eq_true, bne_self_eq_false, Bool.and_eq_true, Bool.and_eq_false_iff, Bool.or_eq_true, Bool.or_eq_false_iff, and_self, and_true, true_and, Bool.false_eq_true, Bool.true_eq_false, not_false_eq_true, not_true_eq_false]; first | done | omega) ?_)))))))))))))
      refine dq_op tab ⟨_, _, rfl, rfl, rfl⟩ rfl rfl rfl (df_op ⟨_, _, rfl, rfl, rfl⟩ rfl rfl rfl rfl callable_23 (num_fun _) (dq_op tab ⟨_, _, rfl, rfl, rfl⟩ rfl rfl rfl (dq_op tab ⟨_, _, rfl, rfl, rfl⟩ rfl rfl rfl (dk_op ⟨_, _, rfl, rfl, rfl⟩ rfl (dk_op ⟨_, _, rfl, rfl, rfl⟩ rfl (dq_op tab ⟨_, _, rfl, rfl, rfl⟩ rfl rfl rfl (dq_op tab rfl rfl rfl rfl (vd_nil (by kernel_rfl) ?_))))))))
      refine w3 (vc_false rfl (vw_skip (w3 (w1 (w1 (w2 (vQ tab rfl (vF rfl callable_23 (num_fun _) (vQ tab rfl (w4 (w3 (vc_false rfl (vw_skip (w3 (w1 (w2 (vQ tab rfl (vF rfl callable_29 (evt_get_as _ hgt hs) (vQ tab rfl (vQ tab rfl (vQ tab rfl (vN tab rfl (vS tab rfl ?_)))))))))))))))))))))))
      refine vQ tab rfl (w4 (w3 (w1 (w1 (w2 (vQ tab rfl (vF rfl callable_23 (num_fun _) (vQ tab rfl (w4 (w3 (vc_true rfl (w1 (w2 (vQ tab rfl (vQ tab rfl (vq_op tab rfl rfl rfl (ev_eql rfl rfl rfl (evt_eq evt0 evt0)) (vQ tab rfl (w4 (w3 (vw_ret (q_thenr ?_)))))))))))))))))))))
      all_goals exact ⟨.inr rfl, rfl⟩
    | some b =>
      have hgt := evtGet_ok hg.symm
      obtain ⟨hmb, hpb⟩ := evtC.get_inv hg.symm
      have hput : evtPut b = (t, 0) := by rw [evtPut_ok hmb, hpb, mk_B]
      refine w1 (w2 (vN tab rfl (vQ tab rfl (w4 (w3 (w1 (w1 (w2 (vF rfl callable_33 (evt_awake) (vQ tab rfl (w4 (w3 (vc_false rfl (vw_skip (w3 (w1 (w2 (vQ tab rfl (vF rfl callable_27 (evt_put_as (a := y) _ hp) (vQ tab rfl (vQ tab rfl (vQ tab rfl (vQ tab rfl ?_)))))))))))))))))))))))
      refine vQ tab rfl (w4 (w3 (w1 (w1 (vw_draw mixed (dq_op tab rfl rfl rfl rfl (df_op rfl rfl rfl rfl rfl callable_23 (num_fun _) (dq_op tab rfl rfl rfl rfl (dq_op tab rfl rfl rfl rfl (df_op rfl rfl rfl rfl rfl callable_31 (evt_may y) (dq_op tab rfl rfl rfl rfl (dq_op tab rfl rfl rfl rfl (dgd_op false rfl rfl rfl (by simp only [hm, ba_self, eq_self, decide_true, decide_eq_true_eq, decide_eq_false_iff_not, Bool.not_eq_eq_eq_not, Bool.not_true, Bool.not_false, bne_iff_ne, bne_eq_false_iff_eq, beq_iff_eq, beq_eq_false_iff_ne, ne_eq, beq_self_eq_true, bne_self_eq_false, Bool.and_eq_true, Bool.and_eq_false_iff, Bool.or_eq_true, Bool.or_eq_false_iff, and_self, and_true, true_and, Bool.false_eq_true, Bool.true_eq_false, not_false_eq_true, not_true_eq_false]; first | done | omega) ?_)))))))))))))
      refine dq_op tab ⟨_, _, rfl, rfl, rfl⟩ rfl rfl rfl (df_op ⟨_, _, rfl, rfl, rfl⟩ rfl rfl rfl rfl callable_23 (num_fun _) (dq_op tab ⟨_, _, rfl, rfl, rfl⟩ rfl rfl rfl (dq_op tab ⟨_, _, rfl, rfl, rfl⟩ rfl rfl rfl (dk_op ⟨_, _, rfl, rfl, rfl⟩ rfl (dk_op ⟨_, _, rfl, rfl, rfl⟩ rfl (dq_op tab ⟨_, _, rfl, rfl, rfl⟩ rfl rfl rfl (dq_op tab rfl rfl rfl rfl (vd_nil (by kernel_rfl) ?_))))))))
      refine w3 (vc_false rfl (vw_skip (w3 (w1 (w1 (w2 (vQ tab rfl (vF rfl callable_23 (num_fun _) (vQ tab rfl (w4 (w3 (vc_false rfl (vw_skip (w3 (w1 (w2 (vQ tab rfl (vF rfl callable_29 (evt_get_as _ hgt hs) (vQ tab rfl (vQ tab rfl (vQ tab rfl (vN tab rfl (vS tab rfl ?_)))))))))))))))))))))))
      refine vQ tab rfl (w4 (w3 (w1 (w1 (w2 (vQ tab rfl (vF rfl callable_23 (num_fun _) (vQ tab rfl (w4 (w3 (vc_false rfl (vw_skip (w3 (w1 (w2 (vQ tab rfl (vF rfl callable_27 (evt_put_as (a := b) (t, 0) hput) (vQ tab rfl (vQ tab rfl (vQ tab rfl (vQ tab rfl (vQ tab rfl (w4 ?_)))))))))))))))))))))))
      refine w3 (w1 (w2 (vQ tab rfl (vF rfl callable_23 (num_fun _) (vQ tab rfl (vQ tab rfl (vQ tab rfl (vQ tab rfl (vQ tab rfl (vQ tab rfl (vQ tab rfl (w4 (w3 (vw_ret ?_))))))))))))))
      all_goals exact ⟨.inr rfl, Eq.trans (b := some (.bool (t == t))) rfl (by rw [ba_self])⟩
  | true =>
    obtain ⟨q, hq⟩ : ∃ q, q = evtC.put y := ⟨_, rfl⟩
    have hp : evtPut y = (mkB q, 0) := by rw [hq]; exact evtPut_ok hm
    have hql : 1 ≤ q.length ∧ q.length ≤ 70000 := by rw [hq]; exact ⟨evtC.put_ne y, evt_put_len hm⟩
    have hqs : (mkB q).size = q.length := mkB_size q
    have hne : ((mkB q) == (⟨#[]⟩ : ByteArray)) = false := by rw [ba_beq]; exact decide_eq_false (fun e => by have h := congrArg B e; rw [B_mk] at h; have h2 : q.length = 0 := congrArg List.length h; omega)
    have h1 : evtGet (mkB q) = (y, 0) := evtGet_ok (by rw [B_mk, hq]; exact evtC.get_put hm)
    have h3 : evtGet (mkB q ++ ⟨#[0]⟩) = (evt0, 700) := evtGet_no (by rw [B_app, B_mk, hq]; exact evtC.get_more hm)
    obtain ⟨K, hK⟩ : ∃ K, K = IntKind.i64.wrap ((IntKind.u64.wrap c).tmod (IntKind.u64.wrap ((mkB q).size : Int))) := ⟨_, rfl⟩
    have hKv : 0 ≤ K ∧ K < (q.length : Int) := by
      have e1 : IntKind.u64.wrap ((mkB q).size : Int) = (q.length : Int) := by rw [wrapu, hqs]; omega
      have e2 : (IntKind.u64.wrap c).tmod (q.length : Int) = (c % 18446744073709551616) % (q.length : Int) := by rw [wrapu, Int.tmod_eq_emod_of_nonneg (by omega)]
      have e3 := Int.emod_nonneg (c % 18446744073709551616) (b := (q.length : Int)) (by omega)
      have e4 := Int.emod_lt_of_pos (c % 18446744073709551616) (b := (q.length : Int)) (by omega)
      rw [hK, e1, e2, i64_in _ (by omega)]; omega
    have hbn : ∀ d, bnd d (some (some (.int .i64 (IntKind.i64.wrap ((IntKind.u64.wrap c).tmod (IntKind.u64.wrap ((mkB q).size : Int))))))) = some K.toNat := fun d => by rw [← hK]; exact bnd_int hKv.1
    have hca : (mkB q).size + (⟨#[0]⟩ : ByteArray).size ≤ 4611686018427387904 := by rw [hqs]; show q.length + 1 ≤ _; omega
    have hK2 : K.toNat ≤ (mkB q).size := by omega
    have h0 : (IntKind.u64.wrap ((mkB q).size : Int)) ≠ 0 := by rw [wrapu, hqs]; omega
    have h2 : evtGet ((mkB q).extract 0 K.toNat) = (evt0, 700) := evtGet_no (by rw [B_cut, B_mk, List.drop_zero, Nat.sub_zero, hq]; exact evtC.get_cut hm (by rw [← hq]; omega))
    have hcs : ((mkB q).extract 0 K.toNat).size ≤ 9223372036854775807 := by rw [← B_len, B_cut, B_mk, List.length_take]; simp; omega
    have hms : (mkB q ++ (⟨#[0]⟩ : ByteArray)).size ≤ 9223372036854775807 := by rw [ByteArray.size_append, hqs]; show q.length + 1 ≤ _; omega
    have hwd : (IntKind.u64.wrap c).tmod (IntKind.u64.wrap ((mkB q).size : Int)) = (IntKind.u64.wrap c).tmod (IntKind.u64.wrap ((mkB q).size : Int)) := rfl
    cases g with
    | none =>
      have hgt := evtGet_no hg.symm
      refine w1 (w2 (vN tab rfl (vQ tab rfl (w4 (w3 (w1 (w1 (w2 (vF rfl callable_33 (evt_awake) (vQ tab rfl (w4 (w3 (vc_false rfl (vw_skip (w3 (w1 (w2 (vQ tab rfl (vF rfl callable_27 (evt_put_as _ hp) (vQ tab rfl (vQ tab rfl (vQ tab rfl (vQ tab rfl ?_)))))))))))))))))))))))
      refine vQ tab rfl (w4 (w3 (w1 (w1 (vw_draw mixed (dq_op tab rfl rfl rfl rfl (df_op rfl rfl rfl rfl rfl callable_23 (num_fun _) (dq_op tab rfl rfl rfl rfl (dq_op tab rfl rfl rfl rfl (df_op rfl rfl rfl rfl rfl callable_31 (evt_may y) (dq_op tab rfl rfl rfl rfl (dq_op tab rfl rfl rfl rfl (dgd_op false rfl rfl rfl (by simp only [hm, hne, ba_self, eq_self, decide_true, decide_eq_true_eq, decide_eq_false_iff_not, Bool.not_eq_eq_eq_not, Bool.not_true, Bool.not_false, bne_iff_ne, bne_eq_false_iff_eq, beq_iff_eq, beq_eq_false_iff_ne, ne_eq, beq_self_eq_true, bne_self_eq_false, Bool.and_eq_true, Bool.and_eq_false_iff, Bool.or_eq_true, Bool.or_eq_false_iff, and_self, and_true, true_and, Bool.false_eq_true, Bool.true_eq_false, not_false_eq_true, not_true_eq_false]; first | done | omega) ?_)))))))))))))
      refine dq_op tab ⟨_, _, rfl, rfl, rfl⟩ rfl rfl rfl (df_op ⟨_, _, rfl, rfl, rfl⟩ rfl rfl rfl rfl callable_23 (num_fun _) (dq_op tab ⟨_, _, rfl, rfl, rfl⟩ rfl rfl rfl (dq_op tab ⟨_, _, rfl, rfl, rfl⟩ rfl rfl rfl (dq_op tab ⟨_, _, rfl, rfl, rfl⟩ rfl rfl rfl (dq_op tab ⟨_, _, rfl, rfl, rfl⟩ rfl rfl rfl (dq_op tab ⟨_, _, rfl, rfl, rfl⟩ rfl rfl rfl (dq_op tab rfl rfl rfl rfl (vd_nil (by kernel_rfl) ?_))))))))
      refine w3 (vcd_false rfl (by simp only [hm, hne, ba_self, eq_self, decide_true, decide_eq_true_eq, decide_eq_false_iff_not, Bool.not_eq_eq_eq_not, Bool.not_true, Bool.not_false, bne_iff_ne, bne_eq_false_iff_eq, beq_iff_eq, beq_eq_false_iff_ne, ne_eq, beq_self_eq_true, bne_self_eq_false, Bool.and_eq_true, Bool.and_eq_false_iff, Bool.or_eq_true, Bool.or_eq_false_iff, and_self, and_true, true_and, Bool.false_eq_true, Bool.true_eq_false, not_false_eq_true, not_true_eq_false]; first | done | omega) ?_)
      refine vw_skip (w3 (w1 (w1 (w2 (vQ tab rfl (vF rfl callable_23 (num_fun _) (vQ tab rfl (w4 (w3 (vc_true rfl (w1 (w2 (vQ tab rfl (vF rfl callable_29 (evt_get_as (s := mkB q) _ h1 (by omega)) ?_))))))))))))))
      refine vQ tab rfl (vQ tab rfl (vQ tab rfl (vN tab rfl (vS tab rfl (vQ tab rfl (w4 (w3 (w1 (w2 (vQ tab rfl (vQ tab rfl (vQ tab rfl (vQ tab rfl (vQ tab rfl (vQ tab rfl (vq_op tab rfl rfl rfl (rem_ev rfl rfl h0) (vQ tab rfl (vq_op tab rfl rfl rfl (ev_part rfl rfl rfl rfl (hbn _) (Nat.zero_le _) hK2) (vF rfl callable_29 (evt_get_as (s := (mkB q).extract 0 K.toNat) _ h2 hcs) (vQ tab rfl (vQ tab rfl (vQ tab rfl (vN tab rfl ?_)))))))))))))))))))))))
      refine vS tab rfl (vQ tab rfl (w4 (w3 (w1 (w2 (vQ tab rfl (vq_op tab rfl rfl rfl (cat_ev rfl rfl hca) (vF rfl callable_29 (evt_get_as (s := mkB q ++ ⟨#[0]⟩) _ h3 hms) (vQ tab rfl (vQ tab rfl (vQ tab rfl (vN tab rfl (vS tab rfl (vQ tab rfl (w4 (w3 (w1 (w2 (vQ tab rfl (vF rfl callable_23 (num_fun _) (vQ tab rfl (vQ tab rfl (vQ tab rfl ?_)))))))))))))))))))))))
      refine vQ tab rfl (vq_op tab ⟨_, _, rfl, rfl, rfl⟩ rfl rfl (ev_neq rfl rfl rfl (evt_eq y y)) (vQ tab rfl (vQ tab rfl (vgd_op false rfl rfl rfl (by simp only [hm, hne, ba_self, eq_self, decide_true, decide_eq_true_eq, decide_eq_false_iff_not, Bool.not_eq_eq_eq_not, Bool.not_true, Bool.not_false, bne_iff_ne, bne_eq_false_iff_eq, beq_iff_eq, beq_eq_false_iff_ne, ne_eq, beq_self_eq_true, bne_self_eq_false, Bool.and_eq_true, Bool.and_eq_false_iff, Bool.or_eq_true, Bool.or_eq_false_iff, and_self, and_true, true_and, Bool.false_eq_true, Bool.true_eq_false, not_false_eq_true, not_true_eq_false]; first | done | omega) ?_))))
      refine vQ tab rfl (vF rfl callable_23 (num_fun _) (vQ tab rfl (vQ tab rfl (vQ tab rfl (vQ tab rfl (vF rfl callable_23 (num_fun _) (vQ tab rfl (vQ tab rfl (w4 (w3 (vc_false rfl (vw_skip (w3 (w1 (w2 (vQ tab rfl (vF rfl callable_29 (evt_get_as (s := t) _ hgt hs) (vQ tab rfl (vQ tab rfl (vQ tab rfl (vN tab rfl (vS tab rfl (vQ tab rfl ?_)))))))))))))))))))))))
      refine w4 (w3 (w1 (w1 (w2 (vQ tab rfl (vF rfl callable_23 (num_fun _) (vQ tab rfl (w4 (w3 (vc_true rfl (w1 (w2 (vQ tab rfl (vQ tab rfl (vq_op tab rfl rfl rfl (ev_eql rfl rfl rfl (evt_eq evt0 evt0)) (vQ tab rfl (w4 (w3 (vw_ret (q_thenr ?_))))))))))))))))))))
      all_goals exact ⟨.inr rfl, rfl⟩
    | some b =>
      have hgt := evtGet_ok hg.symm
      obtain ⟨hmb, hpb⟩ := evtC.get_inv hg.symm
      have hput : evtPut b = (t, 0) := by rw [evtPut_ok hmb, hpb, mk_B]
      refine w1 (w2 (vN tab rfl (vQ tab rfl (w4 (w3 (w1 (w1 (w2 (vF rfl callable_33 (evt_awake) (vQ tab rfl (w4 (w3 (vc_false rfl (vw_skip (w3 (w1 (w2 (vQ tab rfl (vF rfl callable_27 (evt_put_as (a := y) _ hp) (vQ tab rfl (vQ tab rfl (vQ tab rfl (vQ tab rfl ?_)))))))))))))))))))))))
      refine vQ tab rfl (w4 (w3 (w1 (w1 (vw_draw mixed (dq_op tab rfl rfl rfl rfl (df_op rfl rfl rfl rfl rfl callable_23 (num_fun _) (dq_op tab rfl rfl rfl rfl (dq_op tab rfl rfl rfl rfl (df_op rfl rfl rfl rfl rfl callable_31 (evt_may y) (dq_op tab rfl rfl rfl rfl (dq_op tab rfl rfl rfl rfl (dgd_op false rfl rfl rfl (by simp only [hm, hne, ba_self, eq_self, decide_true, decide_eq_true_eq, decide_eq_false_iff_not, Bool.not_eq_eq_eq_not, Bool.not_true, Bool.not_false, bne_iff_ne, bne_eq_false_iff_eq, beq_iff_eq, beq_eq_false_iff_ne, ne_eq, beq_self_eq_true, bne_self_eq_false, Bool.and_eq_true, Bool.and_eq_false_iff, Bool.or_eq_true, Bool.or_eq_false_iff, and_self, and_true, true_and, Bool.false_eq_true, Bool.true_eq_false, not_false_eq_true, not_true_eq_false]; first | done | omega) ?_)))))))))))))
      refine dq_op tab ⟨_, _, rfl, rfl, rfl⟩ rfl rfl rfl (df_op ⟨_, _, rfl, rfl, rfl⟩ rfl rfl rfl rfl callable_23 (num_fun _) (dq_op tab ⟨_, _, rfl, rfl, rfl⟩ rfl rfl rfl (dq_op tab ⟨_, _, rfl, rfl, rfl⟩ rfl rfl rfl (dq_op tab ⟨_, _, rfl, rfl, rfl⟩ rfl rfl rfl (dq_op tab ⟨_, _, rfl, rfl, rfl⟩ rfl rfl rfl (dq_op tab ⟨_, _, rfl, rfl, rfl⟩ rfl rfl rfl (dq_op tab rfl rfl rfl rfl (vd_nil (by kernel_rfl) ?_))))))))
      refine w3 (vcd_false rfl (by simp only [hm, hne, ba_self, eq_self, decide_true, decide_eq_true_eq, decide_eq_false_iff_not, Bool.not_eq_eq_eq_not, Bool.not_true, Bool.not_false, bne_iff_ne, bne_eq_false_iff_eq, beq_iff_eq, beq_eq_false_iff_ne, ne_eq, beq_self_eq_true, bne_self_eq_false, Bool.and_eq_true, Bool.and_eq_false_iff, Bool.or_eq_true, Bool.or_eq_false_iff, and_self, and_true, true_and, Bool.false_eq_true, Bool.true_eq_false, not_false_eq_true, not_true_eq_false]; first | done | omega) ?_)
      refine vw_skip (w3 (w1 (w1 (w2 (vQ tab rfl (vF rfl callable_23 (num_fun _) (vQ tab rfl (w4 (w3 (vc_true rfl (w1 (w2 (vQ tab rfl (vF rfl callable_29 (evt_get_as (s := mkB q) _ h1 (by omega)) ?_))))))))))))))
      refine vQ tab rfl (vQ tab rfl (vQ tab rfl (vN tab rfl (vS tab rfl (vQ tab rfl (w4 (w3 (w1 (w2 (vQ tab rfl (vQ tab rfl (vQ tab rfl (vQ tab rfl (vQ tab rfl (vQ tab rfl (vq_op tab rfl rfl rfl (rem_ev rfl rfl h0) (vQ tab rfl (vq_op tab rfl rfl rfl (ev_part rfl rfl rfl rfl (hbn _) (Nat.zero_le _) hK2) (vF rfl callable_29 (evt_get_as (s := (mkB q).extract 0 K.toNat) _ h2 hcs) (vQ tab rfl (vQ tab rfl (vQ tab rfl (vN tab rfl ?_)))))))))))))))))))))))
      refine vS tab rfl (vQ tab rfl (w4 (w3 (w1 (w2 (vQ tab rfl (vq_op tab rfl rfl rfl (cat_ev rfl rfl hca) (vF rfl callable_29 (evt_get_as (s := mkB q ++ ⟨#[0]⟩) _ h3 hms) (vQ tab rfl (vQ tab rfl (vQ tab rfl (vN tab rfl (vS tab rfl (vQ tab rfl (w4 (w3 (w1 (w2 (vQ tab rfl (vF rfl callable_23 (num_fun _) (vQ tab rfl (vQ tab rfl (vQ tab rfl ?_)))))))))))))))))))))))
      refine vQ tab rfl (vq_op tab ⟨_, _, rfl, rfl, rfl⟩ rfl rfl (ev_neq rfl rfl rfl (evt_eq y y)) (vQ tab rfl (vQ tab rfl (vgd_op false rfl rfl rfl (by simp only [hm, hne, ba_self, eq_self, decide_true, decide_eq_true_eq, decide_eq_false_iff_not, Bool.not_eq_eq_eq_not, Bool.not_true, Bool.not_false, bne_iff_ne, bne_eq_false_iff_eq, beq_iff_eq, beq_eq_false_iff_ne, ne_eq, beq_self_eq_true, bne_self_eq_false, Bool.and_eq_true, Bool.and_eq_false_iff, Bool.or_eq_true, Bool.or_eq_false_iff, and_self, and_true, true_and, Bool.false_eq_true, Bool.true_eq_false, not_false_eq_true, not_true_eq_false]; first | done | omega) ?_))))
      refine vQ tab rfl (vF rfl callable_23 (num_fun _) (vQ tab rfl (vQ tab rfl (vQ tab rfl (vQ tab rfl (vF rfl callable_23 (num_fun _) (vQ tab rfl (vQ tab rfl (w4 (w3 (vc_false rfl (vw_skip (w3 (w1 (w2 (vQ tab rfl (vF rfl callable_29 (evt_get_as (s := t) _ hgt hs) (vQ tab rfl (vQ tab rfl (vQ tab rfl (vN tab rfl (vS tab rfl (vQ tab rfl ?_)))))))))))))))))))))))
      refine w4 (w3 (w1 (w1 (w2 (vQ tab rfl (vF rfl callable_23 (num_fun _) (vQ tab rfl (w4 (w3 (vc_false rfl (vw_skip (w3 (w1 (w2 (vQ tab rfl (vF rfl callable_27 (evt_put_as (a := b) (t, 0) hput) (vQ tab rfl (vQ tab rfl (vQ tab rfl (vQ tab rfl (vQ tab rfl (w4 (w3 ?_)))))))))))))))))))))))
      refine w1 (w2 (vQ tab rfl (vF rfl callable_23 (num_fun _) (vQ tab rfl (vQ tab rfl (vQ tab rfl (vQ tab rfl (vQ tab rfl (vQ tab rfl (vQ tab rfl (w4 (w3 (vw_ret ?_)))))))))))))
      all_goals exact ⟨.inr rfl, Eq.trans (b := some (.bool (t == t))) rfl (by rw [ba_self])⟩
set_option maxHeartbeats 16000000 in
theorem EventUnlike_law (a b : EventV) : Fun Try.prog 9 [evtV a, evtV b] (.bool true) := by
  refine fun_of_vw tab Try.func9 rfl rfl (by simp [Try.f9]) (lrel_cons (evtRel a) (lrel_cons (evtRel b) lrel_nil)) (.bool _) ?_
  cases ha : evtMay a with
  | false =>
    have hp := evtPut_no ha
    cases hb : evtMay b with
    | false =>
      have hp2 := evtPut_no hb
      refine w1 (w2 (vN tab rfl (vN tab rfl (vQ tab rfl (w4 (w3 (w1 (w1 (w2 (vF rfl callable_33 (evt_awake) (vQ tab rfl (w4 (w3 (vc_false rfl (vw_skip (w3 (w1 (w2 (vQ tab rfl (vF rfl callable_27 (evt_put_as (a := a) _ hp) (vQ tab rfl (vQ tab rfl (vQ tab rfl ?_)))))))))))))))))))))))
      refine vQ tab rfl (vQ tab rfl (w4 (w3 (w1 (w2 (vQ tab rfl (vF rfl callable_27 (evt_put_as (a := b) _ hp2) (vQ tab rfl (vQ tab rfl (vQ tab rfl (vQ tab rfl (vQ tab rfl (w4 (w3 (w1 (w1 (w2 (vQ tab rfl (vF rfl callable_23 (num_fun _) (vQ tab rfl (vQ tab rfl (vK rfl (vK rfl ?_)))))))))))))))))))))))
      refine vK rfl (vQ tab rfl (w4 (w3 (vc_true rfl (w1 (w2 (vQ tab rfl (vF rfl callable_23 (num_fun _) (vQ tab rfl (vQ tab rfl (vQ tab rfl (vQ tab rfl (vQ tab rfl (vQ tab rfl (vQ tab rfl (vF rfl callable_23 (num_fun _) (vQ tab rfl (vQ tab rfl (vQ tab rfl (vQ tab rfl (vQ tab rfl (vQ tab rfl (vQ tab rfl ?_)))))))))))))))))))))))
      refine w4 (w3 (vw_ret (q_thenr ?_)))
      all_goals exact ⟨.inr rfl, rfl⟩
    | true =>
      have hp2 := evtPut_ok hb
      refine w1 (w2 (vN tab rfl (vN tab rfl (vQ tab rfl (w4 (w3 (w1 (w1 (w2 (vF rfl callable_33 (evt_awake) (vQ tab rfl (w4 (w3 (vc_false rfl (vw_skip (w3 (w1 (w2 (vQ tab rfl (vF rfl callable_27 (evt_put_as (a := a) _ hp) (vQ tab rfl (vQ tab rfl (vQ tab rfl ?_)))))))))))))))))))))))
      refine vQ tab rfl (vQ tab rfl (w4 (w3 (w1 (w2 (vQ tab rfl (vF rfl callable_27 (evt_put_as (a := b) _ hp2) (vQ tab rfl (vQ tab rfl (vQ tab rfl (vQ tab rfl (vQ tab rfl (w4 (w3 (w1 (w1 (w2 (vQ tab rfl (vF rfl callable_23 (num_fun _) (vQ tab rfl (vQ tab rfl (vK rfl (vK rfl ?_)))))))))))))))))))))))
      refine vK rfl (vQ tab rfl (w4 (w3 (vc_true rfl (w1 (w2 (vQ tab rfl (vF rfl callable_23 (num_fun _) (vQ tab rfl (vQ tab rfl (vQ tab rfl (vQ tab rfl (vQ tab rfl (vQ tab rfl (vQ tab rfl (vF rfl callable_23 (num_fun _) (vQ tab rfl (vQ tab rfl (vK rfl (vK rfl (vQ tab rfl (vQ tab rfl (vQ tab rfl ?_)))))))))))))))))))))))
      refine w4 (w3 (vw_ret (q_thenr ?_)))
      all_goals exact ⟨.inr rfl, rfl⟩
  | true =>
    have hp := evtPut_ok ha
    cases hb : evtMay b with
    | false =>
      have hp2 := evtPut_no hb
      refine w1 (w2 (vN tab rfl (vN tab rfl (vQ tab rfl (w4 (w3 (w1 (w1 (w2 (vF rfl callable_33 (evt_awake) (vQ tab rfl (w4 (w3 (vc_false rfl (vw_skip (w3 (w1 (w2 (vQ tab rfl (vF rfl callable_27 (evt_put_as (a := a) _ hp) (vQ tab rfl (vQ tab rfl (vQ tab rfl ?_)))))))))))))))))))))))
      refine vQ tab rfl (vQ tab rfl (w4 (w3 (w1 (w2 (vQ tab rfl (vF rfl callable_27 (evt_put_as (a := b) _ hp2) (vQ tab rfl (vQ tab rfl (vQ tab rfl (vQ tab rfl (vQ tab rfl (w4 (w3 (w1 (w1 (w2 (vQ tab rfl (vF rfl callable_23 (num_fun _) (vQ tab rfl (vQ tab rfl (vQ tab rfl (vF rfl callable_23 (num_fun _) ?_)))))))))))))))))))))))
      refine vQ tab rfl (vQ tab rfl (w4 (w3 (vc_true rfl (w1 (w2 (vQ tab rfl (vF rfl callable_23 (num_fun _) (vQ tab rfl (vQ tab rfl (vK rfl (vK rfl (vQ tab rfl (vQ tab rfl (vQ tab rfl (vF rfl callable_23 (num_fun _) (vQ tab rfl (vQ tab rfl (vQ tab rfl (vQ tab rfl (vQ tab rfl (vQ tab rfl (vQ tab rfl ?_)))))))))))))))))))))))
      refine w4 (w3 (vw_ret (q_thenr ?_)))
      all_goals exact ⟨.inr rfl, rfl⟩
    | true =>
      have hp2 := evtPut_ok hb
      have he : (mkB (evtC.put a) == mkB (evtC.put b)) = decide (a = b) := by
        rw [ba_beq, decide_eq_decide]
        exact ⟨fun e => evtC.put_inj ha hb (mkB_inj e), fun e => by rw [e]⟩
      refine w1 (w2 (vN tab rfl (vN tab rfl (vQ tab rfl (w4 (w3 (w1 (w1 (w2 (vF rfl callable_33 (evt_awake) (vQ tab rfl (w4 (w3 (vc_false rfl (vw_skip (w3 (w1 (w2 (vQ tab rfl (vF rfl callable_27 (evt_put_as (a := a) _ hp) (vQ tab rfl (vQ tab rfl (vQ tab rfl ?_)))))))))))))))))))))))
      refine vQ tab rfl (vQ tab rfl (w4 (w3 (w1 (w2 (vQ tab rfl (vF rfl callable_27 (evt_put_as (a := b) _ hp2) (vQ tab rfl (vQ tab rfl (vQ tab rfl (vQ tab rfl (vQ tab rfl (w4 (w3 (w1 (w1 (w2 (vQ tab rfl (vF rfl callable_23 (num_fun _) (vQ tab rfl (vQ tab rfl (vQ tab rfl (vF rfl callable_23 (num_fun _) ?_)))))))))))))))))))))))
      refine vQ tab rfl (vQ tab rfl (w4 (w3 (vc_false rfl (vw_skip (w3 (w1 (w2 (vQ tab rfl (vQ tab rfl (vQ tab rfl (vQ tab rfl (vQ tab rfl (vq_op tab rfl rfl rfl (ev_eql rfl rfl rfl (evt_eq a b)) (vQ tab rfl (vQ tab rfl (w4 (w3 (vw_ret ?_)))))))))))))))))))
      all_goals exact ⟨.inr rfl, Eq.trans (b := some (.bool ((mkB (evtC.put a) == mkB (evtC.put b)) == decide (a = b)))) rfl (by rw [he]; simp)⟩
end Go.Proofs.Yticaicdopfpknaa
