/- Law 6: awake; Admins, AdminBack, AdminUnlike. -/
import Derived.Test.YticaicdopfpknaaVmSh
import Derived.Test.YticaicdopfpknaaAd3
import Derived.Test.YticaicdopfpknaaCl0
namespace Go.Proofs.Yticaicdopfpknaa
open Go Vm IntWalk
set_option linter.unusedVariables false
set_option linter.unusedSimpArgs false
def admA : AdminV := ⟨0, 7, 1, 2, 3, 0⟩
set_option maxHeartbeats 8000000 in
theorem adm_awake : Fun Try.prog 26 [] (.bool true) := by
  refine fun_of_vw tab Try.func26 rfl rfl (by simp [Try.f26]) lrel_nil (.bool _) ?_
  have h1 : admPut admA = (⟨#[0, 1, 7, 1, 1, 1, 2, 1, 3]⟩, 0) := by decide
  have h2 : admGet ⟨#[0, 1, 7, 1, 1, 1, 2, 1, 3]⟩ = (admA, 0) := by decide
  have h3 : admGet ⟨#[1, 8]⟩ = (⟨0, 0, 0, 0, 0, 0⟩, 600) := by decide
  have h4 : admPut ⟨3, 1, 0, 0, 0, 0⟩ = (⟨#[]⟩, 600) := by decide
  have p1 : Fun Try.prog 19 [admV admA] (.tuple #[.string ⟨#[0, 1, 7, 1, 1, 1, 2, 1, 3]⟩, .int .i64 0]) := by have := adm_put admA; rw [h1] at this; exact this
  have p2 : Fun Try.prog 19 [admV ⟨3, 1, 0, 0, 0, 0⟩] (.tuple #[.string ⟨#[]⟩, .int .i64 600]) := by have := adm_put ⟨3, 1, 0, 0, 0, 0⟩; rw [h4] at this; exact this
  have g1 : Fun Try.prog 21 [.string ⟨#[0, 1, 7, 1, 1, 1, 2, 1, 3]⟩] (.tuple #[admV admA, .int .i64 0]) := by have := adm_get ⟨#[0, 1, 7, 1, 1, 1, 2, 1, 3]⟩ (by decide); rw [h2] at this; exact this
  have g2 : Fun Try.prog 21 [.string ⟨#[1, 8]⟩] (.tuple #[admV ⟨0, 0, 0, 0, 0, 0⟩, .int .i64 600]) := by have := adm_get ⟨#[1, 8]⟩ (by decide); rw [h3] at this; exact this
  have m1 : Fun Try.prog 24 [admV admA] (.bool true) := by have := adm_may admA; rw [show admMay admA = true by decide] at this; exact this
  have m2 : Fun Try.prog 24 [admV ⟨5, 0, 0, 0, 0, 0⟩] (.bool false) := by have := adm_may ⟨5, 0, 0, 0, 0, 0⟩; rw [show admMay ⟨5, 0, 0, 0, 0, 0⟩ = false by decide] at this; exact this
  refine w1 (w2 (vQ tab rfl (w4 (w3 (w1 (w2 (vQ tab rfl (vN tab rfl (vS tab rfl (w4 (w3 (w1 (w2 (vQ tab rfl (vF rfl callable_19 (p1) (vQ tab rfl (vQ tab rfl (vQ tab rfl (vQ tab rfl (vQ tab rfl (w4 (w3 (w1 ?_)))))))))))))))))))))))
  refine w2 (vQ tab rfl (vF rfl callable_21 (g1) (vQ tab rfl (vQ tab rfl (vQ tab rfl (vN tab rfl (vS tab rfl (vQ tab rfl (w4 (w3 (w1 (w2 (vF rfl callable_21 (g2) (vQ tab rfl (vQ tab rfl (vQ tab rfl (vN tab rfl (vS tab rfl (vQ tab rfl (w4 (w3 (w1 (w2 ?_)))))))))))))))))))))))
  refine vQ tab rfl (vF rfl callable_19 (p2) (vQ tab rfl (vQ tab rfl (vQ tab rfl (vQ tab rfl (vQ tab rfl (w4 (w3 (w1 (w2 (vQ tab rfl (vQ tab rfl (vQ tab rfl (vQ tab rfl (vF rfl callable_23 (num_fun _) (vQ tab rfl (vQ tab rfl (vQ tab rfl (vQ tab rfl (vQ tab rfl (vq_op tab ⟨_, _, rfl, rfl, rfl⟩ rfl rfl (ev_eql rfl rfl rfl (adm_eq admA admA)) (vQ tab rfl (vQ tab rfl ?_)))))))))))))))))))))))
  refine vQ tab rfl (vF rfl callable_23 (num_fun _) (vQ tab rfl (vQ tab rfl (vQ tab rfl (vQ tab rfl (vF rfl callable_23 (num_fun _) (vQ tab rfl (vQ tab rfl (vQ tab rfl (vQ tab rfl (vF rfl callable_23 (num_fun _) (vQ tab rfl (vQ tab rfl (vQ tab rfl (vQ tab rfl (vF rfl callable_24 (m1) (vQ tab rfl (vQ tab rfl (vQ tab rfl (vF rfl callable_24 (m2) (vQ tab rfl (vQ tab rfl (vQ tab rfl ?_)))))))))))))))))))))))
  refine w4 (w3 (vw_ret ?_))
  exact ⟨.inr rfl, Eq.trans (b := some (.bool _)) rfl (congrArg (fun b => some (Value.bool b)) (by decide))⟩
theorem adm_put_as {a : AdminV} (r : ByteArray × Int) (h : admPut a = r) : Fun Try.prog 19 [admV a] (.tuple #[.string r.1, .int .i64 r.2]) := by subst h; exact adm_put a
theorem adm_get_as {s : ByteArray} (r : AdminV × Int) (h : admGet s = r) (hs : s.size ≤ 9223372036854775807) : Fun Try.prog 21 [.string s] (.tuple #[admV r.1, .int .i64 r.2]) := by subst h; exact adm_get s hs
theorem adm_may_as {a : AdminV} (r : Bool) (h : admMay a = r) : Fun Try.prog 24 [admV a] (.bool r) := by subst h; exact adm_may a
theorem adm_put_len {a : AdminV} (h : admMay a = true) : (admC.put a).length ≤ 70000 := by
  have h1 := (numL_len (admC.kind a)).1
  have h2 := numsL_len (admC.nums a)
  have h3 : (admC.nums a).length ≤ 8 := by rw [admC.okC a]; show admCnt _ ≤ 8; unfold admCnt; (repeat' split) <;> omega
  have h4 := admC.okT a h
  have h5 := (numL_len ((admC.text a).length : Int)).1
  unfold Codec.put
  simp only [List.length_append]
  split
  · unfold txtL; rw [List.length_append]; omega
  · simp only [List.length_nil]; omega
abbrev adm0 : AdminV := ⟨0, 0, 0, 0, 0, 0⟩
set_option maxHeartbeats 16000000 in
theorem Admins_law (y : AdminV) (t : ByteArray) (ht : t.size ≤ maxLen) : Fun Try.prog 3 [admV y, .string t] (.bool true) := by
  refine fun_of_vw tab Try.func3 rfl rfl (by simp [Try.f3]) (lrel_cons (admRel y) (lrel_cons (.string _) lrel_nil)) (.bool _) ?_
  have hs : t.size ≤ 9223372036854775807 := by unfold maxLen at ht; omega
  refine w1 (w2 (vN tab rfl (vQ tab rfl (w4 (w3 (w1 (w2 (vQ tab rfl (vF rfl callable_19 (adm_put y) (vQ tab rfl (vQ tab rfl (vQ tab rfl (vQ tab rfl (vQ tab rfl (w4 (w3 (w1 (w2 (vQ tab rfl (vF rfl callable_20 (refadm_put y) (vQ tab rfl (vQ tab rfl (vQ tab rfl ?_)))))))))))))))))))))))
  refine vQ tab rfl (vQ tab rfl (w4 (w3 (w1 (w2 (vQ tab rfl (vF rfl callable_21 (adm_get t hs) (vQ tab rfl (vQ tab rfl (vQ tab rfl (vN tab rfl (vS tab rfl (vQ tab rfl (w4 (w3 (w1 (w2 (vQ tab rfl (vF rfl callable_22 (refadm_get t hs) (vQ tab rfl (vQ tab rfl (vQ tab rfl (vN tab rfl ?_)))))))))))))))))))))))
  refine vS tab rfl (vQ tab rfl (w4 (w3 (w1 (vw_draw mixed (dq_op tab rfl rfl rfl rfl (dq_op tab rfl rfl rfl rfl (dq_op tab rfl rfl rfl rfl (dq_op tab rfl rfl rfl rfl (dgd_op true rfl rfl rfl (by simp only [ba_self, eq_self, decide_true, decide_eq_true_eq, decide_eq_false_iff_not, Bool.not_eq_eq_eq_not, Bool.not_true, Bool.not_false, bne_iff_ne, bne_eq_false_iff_eq, beq_iff_eq, beq_eq_false_iff_ne, ne_eq, beq_self_eq_true, bne_self_eq_false, Bool.and_eq_true, Bool.and_eq_false_iff, Bool.or_eq_true, Bool.or_eq_false_iff, and_self, and_true, true_and, Bool.false_eq_true, Bool.true_eq_false, not_false_eq_true, not_true_eq_false]; first | done | omega) ?_))))))))))
  refine dq_op tab ⟨_, _, rfl, rfl, rfl⟩ rfl rfl rfl (df_op ⟨_, _, rfl, rfl, rfl⟩ rfl rfl rfl rfl callable_23 (num_fun _) (dq_op tab ⟨_, _, rfl, rfl, rfl⟩ rfl rfl rfl (dq_op tab ⟨_, _, rfl, rfl, rfl⟩ rfl rfl rfl (dq_op tab rfl rfl rfl rfl (dq_op tab rfl rfl rfl rfl (dgd_op true rfl rfl rfl (by simp only [ba_self, eq_self, decide_true, decide_eq_true_eq, decide_eq_false_iff_not, Bool.not_eq_eq_eq_not, Bool.not_true, Bool.not_false, bne_iff_ne, bne_eq_false_iff_eq, beq_iff_eq, beq_eq_false_iff_ne, ne_eq, beq_self_eq_true, bne_self_eq_false, Bool.and_eq_true, Bool.and_eq_false_iff, Bool.or_eq_true, Bool.or_eq_false_iff, and_self, and_true, true_and, Bool.false_eq_true, Bool.true_eq_false, not_false_eq_true, not_true_eq_false]; first | done | omega) ?_))))))
  refine dq_op tab ⟨_, _, rfl, rfl, rfl⟩ rfl rfl rfl (dq_op tab ⟨_, _, rfl, rfl, rfl⟩ rfl rfl rfl (dq_op tab ⟨_, _, rfl, rfl, rfl⟩ rfl (ev_eql rfl rfl rfl (adm_eq (admGet t).1 (admGet t).1)) (ev_eql rfl rfl rfl (adm_eq (admGet t).1 (admGet t).1)) (dq_op tab rfl rfl rfl rfl (dq_op tab rfl rfl rfl rfl (dgd_op true rfl rfl rfl (by simp only [ba_self, eq_self, decide_true, decide_eq_true_eq, decide_eq_false_iff_not, Bool.not_eq_eq_eq_not, Bool.not_true, Bool.not_false, bne_iff_ne, bne_eq_false_iff_eq, beq_iff_eq, beq_eq_false_iff_ne, ne_eq, beq_self_eq_true, bne_self_eq_false, Bool.and_eq_true, Bool.and_eq_false_iff, Bool.or_eq_true, Bool.or_eq_false_iff, and_self, and_true, true_and, Bool.false_eq_true, Bool.true_eq_false, not_false_eq_true, not_true_eq_false]; first | done | omega) ?_)))))
  refine dq_op tab ⟨_, _, rfl, rfl, rfl⟩ rfl rfl rfl (df_op ⟨_, _, rfl, rfl, rfl⟩ rfl rfl rfl rfl callable_23 (num_fun _) (dq_op tab ⟨_, _, rfl, rfl, rfl⟩ rfl rfl rfl (dq_op tab ⟨_, _, rfl, rfl, rfl⟩ rfl rfl rfl (dq_op tab rfl rfl rfl rfl (dq_op tab rfl rfl rfl rfl (dgd_op true rfl rfl rfl (by simp only [ba_self, eq_self, decide_true, decide_eq_true_eq, decide_eq_false_iff_not, Bool.not_eq_eq_eq_not, Bool.not_true, Bool.not_false, bne_iff_ne, bne_eq_false_iff_eq, beq_iff_eq, beq_eq_false_iff_ne, ne_eq, beq_self_eq_true, bne_self_eq_false, Bool.and_eq_true, Bool.and_eq_false_iff, Bool.or_eq_true, Bool.or_eq_false_iff, and_self, and_true, true_and, Bool.false_eq_true, Bool.true_eq_false, not_false_eq_true, not_true_eq_false]; first | done | omega) ?_))))))
  refine dq_op tab ⟨_, _, rfl, rfl, rfl⟩ rfl rfl rfl (df_op ⟨_, _, rfl, rfl, rfl⟩ rfl rfl rfl rfl callable_24 (adm_may y) (dq_op tab ⟨_, _, rfl, rfl, rfl⟩ rfl rfl rfl (df_op ⟨_, _, rfl, rfl, rfl⟩ rfl rfl rfl rfl callable_25 (refadm_may y) (dq_op tab ⟨_, _, rfl, rfl, rfl⟩ rfl rfl rfl (dq_op tab rfl rfl rfl rfl (dq_op tab rfl rfl rfl rfl (dgd_op true rfl rfl rfl (by simp only [ba_self, eq_self, decide_true, decide_eq_true_eq, decide_eq_false_iff_not, Bool.not_eq_eq_eq_not, Bool.not_true, Bool.not_false, bne_iff_ne, bne_eq_false_iff_eq, beq_iff_eq, beq_eq_false_iff_ne, ne_eq, beq_self_eq_true, bne_self_eq_false, Bool.and_eq_true, Bool.and_eq_false_iff, Bool.or_eq_true, Bool.or_eq_false_iff, and_self, and_true, true_and, Bool.false_eq_true, Bool.true_eq_false, not_false_eq_true, not_true_eq_false]; first | done | omega) ?_)))))))
  refine df_op ⟨_, _, rfl, rfl, rfl⟩ rfl rfl rfl rfl callable_26 (adm_awake) (dq_op tab rfl rfl rfl rfl (dq_op tab rfl rfl rfl rfl (vd_nil (by kernel_rfl) ?_)))
  refine w3 (vw_ret ?_)
  all_goals exact ⟨.inr rfl, rfl⟩
set_option maxHeartbeats 32000000 in
theorem AdminBack_law (y : AdminV) (t : ByteArray) (c : Int) (ht : t.size ≤ maxLen) : Fun Try.prog 4 [admV y, .string t, .int .i64 c] (.bool true) := by
  refine fun_of_vw tab Try.func4 rfl rfl (by simp [Try.f4]) (lrel_cons (admRel y) (lrel_cons (.string _) (lrel_cons (.int _ _) lrel_nil))) (.bool _) ?_
  have hs : t.size ≤ 9223372036854775807 := by unfold maxLen at ht; omega
  obtain ⟨g, hg⟩ : ∃ g, g = admC.get (B t) := ⟨_, rfl⟩
  cases hm : admMay y with
  | false =>
    have hp := admPut_no hm
    cases g with
    | none =>
      have hgt := admGet_no hg.symm
      refine w1 (w2 (vN tab rfl (vQ tab rfl (w4 (w3 (w1 (w1 (w2 (vF rfl callable_26 (adm_awake) (vQ tab rfl (w4 (w3 (vc_false rfl (vw_skip (w3 (w1 (w2 (vQ tab rfl (vF rfl callable_19 (adm_put_as _ hp) (vQ tab rfl (vQ tab rfl (vQ tab rfl (vQ tab rfl ?_)))))))))))))))))))))))
      refine vQ tab rfl (w4 (w3 (w1 (w1 (vw_draw mixed (dq_op tab rfl rfl rfl rfl (df_op rfl rfl rfl rfl rfl callable_23 (num_fun _) (dq_op tab rfl rfl rfl rfl (dq_op tab rfl rfl rfl rfl (df_op rfl rfl rfl rfl rfl callable_24 (adm_may y) (dq_op tab rfl rfl rfl rfl (dq_op tab rfl rfl rfl rfl (dgd_op false rfl rfl rfl (by simp only [hm, ba_self, eq_self, decide_true, decide_eq_true_eq, decide_eq_false_iff_not, Bool.not_eq_eq_eq_not, Bool.not_true, Bool.not_false, bne_iff_ne, bne_eq_false_iff_eq, beq_iff_eq, beq_eq_false_iff_ne, ne_eq, beq_self_eq_true, bne_self_eq_false, Bool.and_eq_true, Bool.and_eq_false_iff, Bool.or_eq_true, Bool.or_eq_false_iff, and_self, and_true, true_and, Bool.false_eq_true, Bool.true_eq_false, not_false_eq_true, not_true_eq_false]; first | done | omega) ?_)))))))))))))
      refine dq_op tab ⟨_, _, rfl, rfl, rfl⟩ rfl rfl rfl (df_op ⟨_, _, rfl, rfl, rfl⟩ rfl rfl rfl rfl callable_23 (num_fun _) (dq_op tab ⟨_, _, rfl, rfl, rfl⟩ rfl rfl rfl (dq_op tab ⟨_, _, rfl, rfl, rfl⟩ rfl rfl rfl (dk_op ⟨_, _, rfl, rfl, rfl⟩ rfl (dk_op ⟨_, _, rfl, rfl, rfl⟩ rfl (dq_op tab ⟨_, _, rfl, rfl, rfl⟩ rfl rfl rfl (dq_op tab rfl rfl rfl rfl (vd_nil (by kernel_rfl) ?_))))))))
      refine w3 (vc_false rfl (vw_skip (w3 (w1 (w1 (w2 (vQ tab rfl (vF rfl callable_23 (num_fun _) (vQ tab rfl (w4 (w3 (vc_false rfl (vw_skip (w3 (w1 (w2 (vQ tab rfl (vF rfl callable_21 (adm_get_as _ hgt hs) (vQ tab rfl (vQ tab rfl (vQ tab rfl (vN tab rfl (vS tab rfl ?_)))))))))))))))))))))))
      refine vQ tab rfl (w4 (w3 (w1 (w1 (w2 (vQ tab rfl (vF rfl callable_23 (num_fun _) (vQ tab rfl (w4 (w3 (vc_true rfl (w1 (w2 (vQ tab rfl (vQ tab rfl (vq_op tab rfl rfl rfl (ev_eql rfl rfl rfl (adm_eq adm0 adm0)) (vQ tab rfl (w4 (w3 (vw_ret (q_thenr ?_)))))))))))))))))))))
      all_goals exact ⟨.inr rfl, rfl⟩
    | some b =>
      have hgt := admGet_ok hg.symm
      obtain ⟨hmb, hpb⟩ := admC.get_inv hg.symm
      have hput : admPut b = (t, 0) := by rw [admPut_ok hmb, hpb, mk_B]
      refine w1 (w2 (vN tab rfl (vQ tab rfl (w4 (w3 (w1 (w1 (w2 (vF rfl callable_26 (adm_awake) (vQ tab rfl (w4 (w3 (vc_false rfl (vw_skip (w3 (w1 (w2 (vQ tab rfl (vF rfl callable_19 (adm_put_as (a := y) _ hp) (vQ tab rfl (vQ tab rfl (vQ tab rfl (vQ tab rfl ?_)))))))))))))))))))))))
      refine vQ tab rfl (w4 (w3 (w1 (w1 (vw_draw mixed (dq_op tab rfl rfl rfl rfl (df_op rfl rfl rfl rfl rfl callable_23 (num_fun _) (dq_op tab rfl rfl rfl rfl (dq_op tab rfl rfl rfl rfl (df_op rfl rfl rfl rfl rfl callable_24 (adm_may y) (dq_op tab rfl rfl rfl rfl (dq_op tab rfl rfl rfl rfl (dgd_op false rfl rfl rfl (by simp only [hm, ba_self, eq_self, decide_true, decide_eq_true_eq, decide_eq_false_iff_not, Bool.not_eq_eq_eq_not, Bool.not_true, Bool.not_false, bne_iff_ne, bne_eq_false_iff_eq, beq_iff_eq, beq_eq_false_iff_ne, ne_eq, beq_self_eq_true, bne_self_eq_false, Bool.and_eq_true, Bool.and_eq_false_iff, Bool.or_eq_true, Bool.or_eq_false_iff, and_self, and_true, true_and, Bool.false_eq_true, Bool.true_eq_false, not_false_eq_true, not_true_eq_false]; first | done | omega) ?_)))))))))))))
      refine dq_op tab ⟨_, _, rfl, rfl, rfl⟩ rfl rfl rfl (df_op ⟨_, _, rfl, rfl, rfl⟩ rfl rfl rfl rfl callable_23 (num_fun _) (dq_op tab ⟨_, _, rfl, rfl, rfl⟩ rfl rfl rfl (dq_op tab ⟨_, _, rfl, rfl, rfl⟩ rfl rfl rfl (dk_op ⟨_, _, rfl, rfl, rfl⟩ rfl (dk_op ⟨_, _, rfl, rfl, rfl⟩ rfl (dq_op tab ⟨_, _, rfl, rfl, rfl⟩ rfl rfl rfl (dq_op tab rfl rfl rfl rfl (vd_nil (by kernel_rfl) ?_))))))))
      refine w3 (vc_false rfl (vw_skip (w3 (w1 (w1 (w2 (vQ tab rfl (vF rfl callable_23 (num_fun _) (vQ tab rfl (w4 (w3 (vc_false rfl (vw_skip (w3 (w1 (w2 (vQ tab rfl (vF rfl callable_21 (adm_get_as _ hgt hs) (vQ tab rfl (vQ tab rfl (vQ tab rfl (vN tab rfl (vS tab rfl ?_)))))))))))))))))))))))
      refine vQ tab rfl (w4 (w3 (w1 (w1 (w2 (vQ tab rfl (vF rfl callable_23 (num_fun _) (vQ tab rfl (w4 (w3 (vc_false rfl (vw_skip (w3 (w1 (w2 (vQ tab rfl (vF rfl callable_19 (adm_put_as (a := b) (t, 0) hput) (vQ tab rfl (vQ tab rfl (vQ tab rfl (vQ tab rfl (vQ tab rfl (w4 ?_)))))))))))))))))))))))
      refine w3 (w1 (w2 (vQ tab rfl (vF rfl callable_23 (num_fun _) (vQ tab rfl (vQ tab rfl (vQ tab rfl (vQ tab rfl (vQ tab rfl (vQ tab rfl (vQ tab rfl (w4 (w3 (vw_ret ?_))))))))))))))
      all_goals exact ⟨.inr rfl, Eq.trans (b := some (.bool (t == t))) rfl (by rw [ba_self])⟩
  | true =>
    obtain ⟨q, hq⟩ : ∃ q, q = admC.put y := ⟨_, rfl⟩
    have hp : admPut y = (mkB q, 0) := by rw [hq]; exact admPut_ok hm
    have hql : 1 ≤ q.length ∧ q.length ≤ 70000 := by rw [hq]; exact ⟨admC.put_ne y, adm_put_len hm⟩
    have hqs : (mkB q).size = q.length := mkB_size q
    have hne : ((mkB q) == (⟨#[]⟩ : ByteArray)) = false := by rw [ba_beq]; exact decide_eq_false (fun e => by have h := congrArg B e; rw [B_mk] at h; have h2 : q.length = 0 := congrArg List.length h; omega)
    have h1 : admGet (mkB q) = (y, 0) := admGet_ok (by rw [B_mk, hq]; exact admC.get_put hm)
    have h3 : admGet (mkB q ++ ⟨#[0]⟩) = (adm0, 600) := admGet_no (by rw [B_app, B_mk, hq]; exact admC.get_more hm)
    obtain ⟨K, hK⟩ : ∃ K, K = IntKind.i64.wrap ((IntKind.u64.wrap c).tmod (IntKind.u64.wrap ((mkB q).size : Int))) := ⟨_, rfl⟩
    have hKv : 0 ≤ K ∧ K < (q.length : Int) := by
      have e1 : IntKind.u64.wrap ((mkB q).size : Int) = (q.length : Int) := by rw [wrapu, hqs]; omega
      have e2 : (IntKind.u64.wrap c).tmod (q.length : Int) = (c % 18446744073709551616) % (q.length : Int) := by rw [wrapu, Int.tmod_eq_emod_of_nonneg (by omega)]
      have e3 := Int.emod_nonneg (c % 18446744073709551616) (b := (q.length : Int)) (by omega)
      have e4 := Int.emod_lt_of_pos (c % 18446744073709551616) (b := (q.length : Int)) (by omega)
      rw [hK, e1, e2, i64_in _ (by omega)]; omega
    have hbn : ∀ d, bnd d (some (some (.int .i64 (IntKind.i64.wrap ((IntKind.u64.wrap c).tmod (IntKind.u64.wrap ((mkB q).size : Int))))))) = some K.toNat := fun d => by rw [← hK]; exact bnd_int hKv.1
    have hca : (mkB q).size + (⟨#[0]⟩ : ByteArray).size ≤ 4611686018427387904 := by rw [hqs]; show q.length + 1 ≤ _; omega
    have hK2 : K.toNat ≤ (mkB q).size := by omega
    have h0 : (IntKind.u64.wrap ((mkB q).size : Int)) ≠ 0 := by rw [wrapu, hqs]; omega
    have h2 : admGet ((mkB q).extract 0 K.toNat) = (adm0, 600) := admGet_no (by rw [B_cut, B_mk, List.drop_zero, Nat.sub_zero, hq]; exact admC.get_cut hm (by rw [← hq]; omega))
    have hcs : ((mkB q).extract 0 K.toNat).size ≤ 9223372036854775807 := by rw [← B_len, B_cut, B_mk, List.length_take]; simp; omega
    have hms : (mkB q ++ (⟨#[0]⟩ : ByteArray)).size ≤ 9223372036854775807 := by rw [ByteArray.size_append, hqs]; show q.length + 1 ≤ _; omega
    have hwd : (IntKind.u64.wrap c).tmod (IntKind.u64.wrap ((mkB q).size : Int)) = (IntKind.u64.wrap c).tmod (IntKind.u64.wrap ((mkB q).size : Int)) := rfl
    cases g with
    | none =>
      have hgt := admGet_no hg.symm
      refine w1 (w2 (vN tab rfl (vQ tab rfl (w4 (w3 (w1 (w1 (w2 (vF rfl callable_26 (adm_awake) (vQ tab rfl (w4 (w3 (vc_false rfl (vw_skip (w3 (w1 (w2 (vQ tab rfl (vF rfl callable_19 (adm_put_as _ hp) (vQ tab rfl (vQ tab rfl (vQ tab rfl (vQ tab rfl ?_)))))))))))))))))))))))
      refine vQ tab rfl (w4 (w3 (w1 (w1 (vw_draw mixed (dq_op tab rfl rfl rfl rfl (df_op rfl rfl rfl rfl rfl callable_23 (num_fun _) (dq_op tab rfl rfl rfl rfl (dq_op tab rfl rfl rfl rfl (df_op rfl rfl rfl rfl rfl callable_24 (adm_may y) (dq_op tab rfl rfl rfl rfl (dq_op tab rfl rfl rfl rfl (dgd_op false rfl rfl rfl (by simp only [hm, hne, ba_self, eq_self, decide_true, decide_eq_true_eq, decide_eq_false_iff_not, Bool.not_eq_eq_eq_not, Bool.not_true, Bool.not_false, bne_iff_ne, bne_eq_false_iff_eq, beq_iff_eq, beq_eq_false_iff_ne, ne_eq, beq_self_eq_true, bne_self_eq_false, Bool.and_eq_true, Bool.and_eq_false_iff, Bool.or_eq_true, Bool.or_eq_false_iff, and_self, and_true, true_and, Bool.false_eq_true, Bool.true_eq_false, not_false_eq_true, not_true_eq_false]; first | done | omega) ?_)))))))))))))
      refine dq_op tab ⟨_, _, rfl, rfl, rfl⟩ rfl rfl rfl (df_op ⟨_, _, rfl, rfl, rfl⟩ rfl rfl rfl rfl callable_23 (num_fun _) (dq_op tab ⟨_, _, rfl, rfl, rfl⟩ rfl rfl rfl (dq_op tab ⟨_, _, rfl, rfl, rfl⟩ rfl rfl rfl (dq_op tab ⟨_, _, rfl, rfl, rfl⟩ rfl rfl rfl (dq_op tab ⟨_, _, rfl, rfl, rfl⟩ rfl rfl rfl (dq_op tab ⟨_, _, rfl, rfl, rfl⟩ rfl rfl rfl (dq_op tab rfl rfl rfl rfl (vd_nil (by kernel_rfl) ?_))))))))
      refine w3 (vcd_false rfl (by simp only [hm, hne, ba_self, eq_self, decide_true, decide_eq_true_eq, decide_eq_false_iff_not, Bool.not_eq_eq_eq_not, Bool.not_true, Bool.not_false, bne_iff_ne, bne_eq_false_iff_eq, beq_iff_eq, beq_eq_false_iff_ne, ne_eq, beq_self_eq_true, bne_self_eq_false, Bool.and_eq_true, Bool.and_eq_false_iff, Bool.or_eq_true, Bool.or_eq_false_iff, and_self, and_true, true_and, Bool.false_eq_true, Bool.true_eq_false, not_false_eq_true, not_true_eq_false]; first | done | omega) ?_)
      refine vw_skip (w3 (w1 (w1 (w2 (vQ tab rfl (vF rfl callable_23 (num_fun _) (vQ tab rfl (w4 (w3 (vc_true rfl (w1 (w2 (vQ tab rfl (vF rfl callable_21 (adm_get_as (s := mkB q) _ h1 (by omega)) ?_))))))))))))))
      refine vQ tab rfl (vQ tab rfl (vQ tab rfl (vN tab rfl (vS tab rfl (vQ tab rfl (w4 (w3 (w1 (w2 (vQ tab rfl (vQ tab rfl (vQ tab rfl (vQ tab rfl (vQ tab rfl (vQ tab rfl (vq_op tab rfl rfl rfl (rem_ev rfl rfl h0) (vQ tab rfl (vq_op tab rfl rfl rfl (ev_part rfl rfl rfl rfl (hbn _) (Nat.zero_le _) hK2) (vF rfl callable_21 (adm_get_as (s := (mkB q).extract 0 K.toNat) _ h2 hcs) (vQ tab rfl (vQ tab rfl (vQ tab rfl (vN tab rfl ?_)))))))))))))))))))))))
      refine vS tab rfl (vQ tab rfl (w4 (w3 (w1 (w2 (vQ tab rfl (vq_op tab rfl rfl rfl (cat_ev rfl rfl hca) (vF rfl callable_21 (adm_get_as (s := mkB q ++ ⟨#[0]⟩) _ h3 hms) (vQ tab rfl (vQ tab rfl (vQ tab rfl (vN tab rfl (vS tab rfl (vQ tab rfl (w4 (w3 (w1 (w2 (vQ tab rfl (vF rfl callable_23 (num_fun _) (vQ tab rfl (vQ tab rfl (vQ tab rfl ?_)))))))))))))))))))))))
      refine vQ tab rfl (vq_op tab ⟨_, _, rfl, rfl, rfl⟩ rfl rfl (ev_neq rfl rfl rfl (adm_eq y y)) (vQ tab rfl (vQ tab rfl (vgd_op false rfl rfl rfl (by simp only [hm, hne, ba_self, eq_self, decide_true, decide_eq_true_eq, decide_eq_false_iff_not, Bool.not_eq_eq_eq_not, Bool.not_true, Bool.not_false, bne_iff_ne, bne_eq_false_iff_eq, beq_iff_eq, beq_eq_false_iff_ne, ne_eq, beq_self_eq_true, bne_self_eq_false, Bool.and_eq_true, Bool.and_eq_false_iff, Bool.or_eq_true, Bool.or_eq_false_iff, and_self, and_true, true_and, Bool.false_eq_true, Bool.true_eq_false, not_false_eq_true, not_true_eq_false]; first | done | omega) ?_))))
      refine vQ tab rfl (vF rfl callable_23 (num_fun _) (vQ tab rfl (vQ tab rfl (vQ tab rfl (vQ tab rfl (vF rfl callable_23 (num_fun _) (vQ tab rfl (vQ tab rfl (w4 (w3 (vc_false rfl (vw_skip (w3 (w1 (w2 (vQ tab rfl (vF rfl callable_21 (adm_get_as (s := t) _ hgt hs) (vQ tab rfl (vQ tab rfl (vQ tab rfl (vN tab rfl (vS tab rfl (vQ tab rfl ?_)))))))))))))))))))))))
      refine w4 (w3 (w1 (w1 (w2 (vQ tab rfl (vF rfl callable_23 (num_fun _) (vQ tab rfl (w4 (w3 (vc_true rfl (w1 (w2 (vQ tab rfl (vQ tab rfl (vq_op tab rfl rfl rfl (ev_eql rfl rfl rfl (adm_eq adm0 adm0)) (vQ tab rfl (w4 (w3 (vw_ret (q_thenr ?_))))))))))))))))))))
      all_goals exact ⟨.inr rfl, rfl⟩
    | some b =>
      have hgt := admGet_ok hg.symm
      obtain ⟨hmb, hpb⟩ := admC.get_inv hg.symm
      have hput : admPut b = (t, 0) := by rw [admPut_ok hmb, hpb, mk_B]
      refine w1 (w2 (vN tab rfl (vQ tab rfl (w4 (w3 (w1 (w1 (w2 (vF rfl callable_26 (adm_awake) (vQ tab rfl (w4 (w3 (vc_false rfl (vw_skip (w3 (w1 (w2 (vQ tab rfl (vF rfl callable_19 (adm_put_as (a := y) _ hp) (vQ tab rfl (vQ tab rfl (vQ tab rfl (vQ tab rfl ?_)))))))))))))))))))))))
      refine vQ tab rfl (w4 (w3 (w1 (w1 (vw_draw mixed (dq_op tab rfl rfl rfl rfl (df_op rfl rfl rfl rfl rfl callable_23 (num_fun _) (dq_op tab rfl rfl rfl rfl (dq_op tab rfl rfl rfl rfl (df_op rfl rfl rfl rfl rfl callable_24 (adm_may y) (dq_op tab rfl rfl rfl rfl (dq_op tab rfl rfl rfl rfl (dgd_op false rfl rfl rfl (by simp only [hm, hne, ba_self, eq_self, decide_true, decide_eq_true_eq, decide_eq_false_iff_not, Bool.not_eq_eq_eq_not, Bool.not_true, Bool.not_false, bne_iff_ne, bne_eq_false_iff_eq, beq_iff_eq, beq_eq_false_iff_ne, ne_eq, beq_self_eq_true, bne_self_eq_false, Bool.and_eq_true, Bool.and_eq_false_iff, Bool.or_eq_true, Bool.or_eq_false_iff, and_self, and_true, true_and, Bool.false_eq_true, Bool.true_eq_false, not_false_eq_true, not_true_eq_false]; first | done | omega) ?_)))))))))))))
      refine dq_op tab ⟨_, _, rfl, rfl, rfl⟩ rfl rfl rfl (df_op ⟨_, _, rfl, rfl, rfl⟩ rfl rfl rfl rfl callable_23 (num_fun _) (dq_op tab ⟨_, _, rfl, rfl, rfl⟩ rfl rfl rfl (dq_op tab ⟨_, _, rfl, rfl, rfl⟩ rfl rfl rfl (dq_op tab ⟨_, _, rfl, rfl, rfl⟩ rfl rfl rfl (dq_op tab ⟨_, _, rfl, rfl, rfl⟩ rfl rfl rfl (dq_op tab ⟨_, _, rfl, rfl, rfl⟩ rfl rfl rfl (dq_op tab rfl rfl rfl rfl (vd_nil (by kernel_rfl) ?_))))))))
      refine w3 (vcd_false rfl (by simp only [hm, hne, ba_self, eq_self, decide_true, decide_eq_true_eq, decide_eq_false_iff_not, Bool.not_eq_eq_eq_not, Bool.not_true, Bool.not_false, bne_iff_ne, bne_eq_false_iff_eq, beq_iff_eq, beq_eq_false_iff_ne, ne_eq, beq_self_eq_true, bne_self_eq_false, Bool.and_eq_true, Bool.and_eq_false_iff, Bool.or_eq_true, Bool.or_eq_false_iff, and_self, and_true, true_and, Bool.false_eq_true, Bool.true_eq_false, not_false_eq_true, not_true_eq_false]; first | done | omega) ?_)
      refine vw_skip (w3 (w1 (w1 (w2 (vQ tab rfl (vF rfl callable_23 (num_fun _) (vQ tab rfl (w4 (w3 (vc_true rfl (w1 (w2 (vQ tab rfl (vF rfl callable_21 (adm_get_as (s := mkB q) _ h1 (by omega)) ?_))))))))))))))
      refine vQ tab rfl (vQ tab rfl (vQ tab rfl (vN tab rfl (vS tab rfl (vQ tab rfl (w4 (w3 (w1 (w2 (vQ tab rfl (vQ tab rfl (vQ tab rfl (vQ tab rfl (vQ tab rfl (vQ tab rfl (vq_op tab rfl rfl rfl (rem_ev rfl rfl h0) (vQ tab rfl (vq_op tab rfl rfl rfl (ev_part rfl rfl rfl rfl (hbn _) (Nat.zero_le _) hK2) (vF rfl callable_21 (adm_get_as (s := (mkB q).extract 0 K.toNat) _ h2 hcs) (vQ tab rfl (vQ tab rfl (vQ tab rfl (vN tab rfl ?_)))))))))))))))))))))))
      refine vS tab rfl (vQ tab rfl (w4 (w3 (w1 (w2 (vQ tab rfl (vq_op tab rfl rfl rfl (cat_ev rfl rfl hca) (vF rfl callable_21 (adm_get_as (s := mkB q ++ ⟨#[0]⟩) _ h3 hms) (vQ tab rfl (vQ tab rfl (vQ tab rfl (vN tab rfl (vS tab rfl (vQ tab rfl (w4 (w3 (w1 (w2 (vQ tab rfl (vF rfl callable_23 (num_fun _) (vQ tab rfl (vQ tab rfl (vQ tab rfl ?_)))))))))))))))))))))))
      refine vQ tab rfl (vq_op tab ⟨_, _, rfl, rfl, rfl⟩ rfl rfl (ev_neq rfl rfl rfl (adm_eq y y)) (vQ tab rfl (vQ tab rfl (vgd_op false rfl rfl rfl (by simp only [hm, hne, ba_self, eq_self, decide_true, decide_eq_true_eq, decide_eq_false_iff_not, Bool.not_eq_eq_eq_not, Bool.not_true, Bool.not_false, bne_iff_ne, bne_eq_false_iff_eq, beq_iff_eq, beq_eq_false_iff_ne, ne_eq, beq_self_eq_true, bne_self_eq_false, Bool.and_eq_true, Bool.and_eq_false_iff, Bool.or_eq_true, Bool.or_eq_false_iff, and_self, and_true, true_and, Bool.false_eq_true, Bool.true_eq_false, not_false_eq_true, not_true_eq_false]; first | done | omega) ?_))))
      refine vQ tab rfl (vF rfl callable_23 (num_fun _) (vQ tab rfl (vQ tab rfl (vQ tab rfl (vQ tab rfl (vF rfl callable_23 (num_fun _) (vQ tab rfl (vQ tab rfl (w4 (w3 (vc_false rfl (vw_skip (w3 (w1 (w2 (vQ tab rfl (vF rfl callable_21 (adm_get_as (s := t) _ hgt hs) (vQ tab rfl (vQ tab rfl (vQ tab rfl (vN tab rfl (vS tab rfl (vQ tab rfl ?_)))))))))))))))))))))))
      refine w4 (w3 (w1 (w1 (w2 (vQ tab rfl (vF rfl callable_23 (num_fun _) (vQ tab rfl (w4 (w3 (vc_false rfl (vw_skip (w3 (w1 (w2 (vQ tab rfl (vF rfl callable_19 (adm_put_as (a := b) (t, 0) hput) (vQ tab rfl (vQ tab rfl (vQ tab rfl (vQ tab rfl (vQ tab rfl (w4 (w3 ?_)))))))))))))))))))))))
      refine w1 (w2 (vQ tab rfl (vF rfl callable_23 (num_fun _) (vQ tab rfl (vQ tab rfl (vQ tab rfl (vQ tab rfl (vQ tab rfl (vQ tab rfl (vQ tab rfl (w4 (w3 (vw_ret ?_)))))))))))))
      all_goals exact ⟨.inr rfl, Eq.trans (b := some (.bool (t == t))) rfl (by rw [ba_self])⟩
set_option maxHeartbeats 16000000 in
theorem AdminUnlike_law (a b : AdminV) : Fun Try.prog 5 [admV a, admV b] (.bool true) := by
  refine fun_of_vw tab Try.func5 rfl rfl (by simp [Try.f5]) (lrel_cons (admRel a) (lrel_cons (admRel b) lrel_nil)) (.bool _) ?_
  cases ha : admMay a with
  | false =>
    have hp := admPut_no ha
    cases hb : admMay b with
    | false =>
      have hp2 := admPut_no hb
      refine w1 (w2 (vN tab rfl (vN tab rfl (vQ tab rfl (w4 (w3 (w1 (w1 (w2 (vF rfl callable_26 (adm_awake) (vQ tab rfl (w4 (w3 (vc_false rfl (vw_skip (w3 (w1 (w2 (vQ tab rfl (vF rfl callable_19 (adm_put_as (a := a) _ hp) (vQ tab rfl (vQ tab rfl (vQ tab rfl ?_)))))))))))))))))))))))
      refine vQ tab rfl (vQ tab rfl (w4 (w3 (w1 (w2 (vQ tab rfl (vF rfl callable_19 (adm_put_as (a := b) _ hp2) (vQ tab rfl (vQ tab rfl (vQ tab rfl (vQ tab rfl (vQ tab rfl (w4 (w3 (w1 (w1 (w2 (vQ tab rfl (vF rfl callable_23 (num_fun _) (vQ tab rfl (vQ tab rfl (vK rfl (vK rfl ?_)))))))))))))))))))))))
      refine vK rfl (vQ tab rfl (w4 (w3 (vc_true rfl (w1 (w2 (vQ tab rfl (vF rfl callable_23 (num_fun _) (vQ tab rfl (vQ tab rfl (vQ tab rfl (vQ tab rfl (vQ tab rfl (vQ tab rfl (vQ tab rfl (vF rfl callable_23 (num_fun _) (vQ tab rfl (vQ tab rfl (vQ tab rfl (vQ tab rfl (vQ tab rfl (vQ tab rfl (vQ tab rfl ?_)))))))))))))))))))))))
      refine w4 (w3 (vw_ret (q_thenr ?_)))
      all_goals exact ⟨.inr rfl, rfl⟩
    | true =>
      have hp2 := admPut_ok hb
      refine w1 (w2 (vN tab rfl (vN tab rfl (vQ tab rfl (w4 (w3 (w1 (w1 (w2 (vF rfl callable_26 (adm_awake) (vQ tab rfl (w4 (w3 (vc_false rfl (vw_skip (w3 (w1 (w2 (vQ tab rfl (vF rfl callable_19 (adm_put_as (a := a) _ hp) (vQ tab rfl (vQ tab rfl (vQ tab rfl ?_)))))))))))))))))))))))
      refine vQ tab rfl (vQ tab rfl (w4 (w3 (w1 (w2 (vQ tab rfl (vF rfl callable_19 (adm_put_as (a := b) _ hp2) (vQ tab rfl (vQ tab rfl (vQ tab rfl (vQ tab rfl (vQ tab rfl (w4 (w3 (w1 (w1 (w2 (vQ tab rfl (vF rfl callable_23 (num_fun _) (vQ tab rfl (vQ tab rfl (vK rfl (vK rfl ?_)))))))))))))))))))))))
      refine vK rfl (vQ tab rfl (w4 (w3 (vc_true rfl (w1 (w2 (vQ tab rfl (vF rfl callable_23 (num_fun _) (vQ tab rfl (vQ tab rfl (vQ tab rfl (vQ tab rfl (vQ tab rfl (vQ tab rfl (vQ tab rfl (vF rfl callable_23 (num_fun _) (vQ tab rfl (vQ tab rfl (vK rfl (vK rfl (vQ tab rfl (vQ tab rfl (vQ tab rfl ?_)))))))))))))))))))))))
      refine w4 (w3 (vw_ret (q_thenr ?_)))
      all_goals exact ⟨.inr rfl, rfl⟩
  | true =>
    have hp := admPut_ok ha
    cases hb : admMay b with
    | false =>
      have hp2 := admPut_no hb
      refine w1 (w2 (vN tab rfl (vN tab rfl (vQ tab rfl (w4 (w3 (w1 (w1 (w2 (vF rfl callable_26 (adm_awake) (vQ tab rfl (w4 (w3 (vc_false rfl (vw_skip (w3 (w1 (w2 (vQ tab rfl (vF rfl callable_19 (adm_put_as (a := a) _ hp) (vQ tab rfl (vQ tab rfl (vQ tab rfl ?_)))))))))))))))))))))))
      refine vQ tab rfl (vQ tab rfl (w4 (w3 (w1 (w2 (vQ tab rfl (vF rfl callable_19 (adm_put_as (a := b) _ hp2) (vQ tab rfl (vQ tab rfl (vQ tab rfl (vQ tab rfl (vQ tab rfl (w4 (w3 (w1 (w1 (w2 (vQ tab rfl (vF rfl callable_23 (num_fun _) (vQ tab rfl (vQ tab rfl (vQ tab rfl (vF rfl callable_23 (num_fun _) ?_)))))))))))))))))))))))
      refine vQ tab rfl (vQ tab rfl (w4 (w3 (vc_true rfl (w1 (w2 (vQ tab rfl (vF rfl callable_23 (num_fun _) (vQ tab rfl (vQ tab rfl (vK rfl (vK rfl (vQ tab rfl (vQ tab rfl (vQ tab rfl (vF rfl callable_23 (num_fun _) (vQ tab rfl (vQ tab rfl (vQ tab rfl (vQ tab rfl (vQ tab rfl (vQ tab rfl (vQ tab rfl ?_)))))))))))))))))))))))
      refine w4 (w3 (vw_ret (q_thenr ?_)))
      all_goals exact ⟨.inr rfl, rfl⟩
    | true =>
      have hp2 := admPut_ok hb
      have he : (mkB (admC.put a) == mkB (admC.put b)) = decide (a = b) := by
        rw [ba_beq, decide_eq_decide]
        exact ⟨fun e => admC.put_inj ha hb (mkB_inj e), fun e => by rw [e]⟩
      refine w1 (w2 (vN tab rfl (vN tab rfl (vQ tab rfl (w4 (w3 (w1 (w1 (w2 (vF rfl callable_26 (adm_awake) (vQ tab rfl (w4 (w3 (vc_false rfl (vw_skip (w3 (w1 (w2 (vQ tab rfl (vF rfl callable_19 (adm_put_as (a := a) _ hp) (vQ tab rfl (vQ tab rfl (vQ tab rfl ?_)))))))))))))))))))))))
      refine vQ tab rfl (vQ tab rfl (w4 (w3 (w1 (w2 (vQ tab rfl (vF rfl callable_19 (adm_put_as (a := b) _ hp2) (vQ tab rfl (vQ tab rfl (vQ tab rfl (vQ tab rfl (vQ tab rfl (w4 (w3 (w1 (w1 (w2 (vQ tab rfl (vF rfl callable_23 (num_fun _) (vQ tab rfl (vQ tab rfl (vQ tab rfl (vF rfl callable_23 (num_fun _) ?_)))))))))))))))))))))))
      refine vQ tab rfl (vQ tab rfl (w4 (w3 (vc_false rfl (vw_skip (w3 (w1 (w2 (vQ tab rfl (vQ tab rfl (vQ tab rfl (vQ tab rfl (vQ tab rfl (vq_op tab rfl rfl rfl (ev_eql rfl rfl rfl (adm_eq a b)) (vQ tab rfl (vQ tab rfl (w4 (w3 (vw_ret ?_)))))))))))))))))))
      all_goals exact ⟨.inr rfl, Eq.trans (b := some (.bool ((mkB (admC.put a) == mkB (admC.put b)) == decide (a = b)))) rfl (by rw [he]; simp)⟩
end Go.Proofs.Yticaicdopfpknaa
