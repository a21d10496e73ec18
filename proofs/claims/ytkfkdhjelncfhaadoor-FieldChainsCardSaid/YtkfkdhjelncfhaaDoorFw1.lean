/- Law 1: FieldOrder: numbers stand as their bytes do. -/
import Derived.Test.YtkfkdhjelncfhaaDoorVg1
import Derived.Test.YtkfkdhjelncfhaaDoorFw0
namespace Go.Proofs.YtkfkdhjelncfhaaDoor
open Go Vm IntWalk
set_option linter.unusedVariables false
set_option linter.unusedSimpArgs false
theorem fold_be : ∀ (l : Bs) (x : Int), l.foldl (fun x b => x * 256 + (b.toNat : Int)) x = x * 256 ^ l.length + be l
  | [], x => by simp [be]
  | c :: l, x => by
    have h1 := fold_be l (x * 256 + (c.toNat : Int))
    have h2 := fold_be l ((c.toNat : Int))
    have h3 : be (c :: l) = l.foldl (fun x b => x * 256 + (b.toNat : Int)) (c.toNat : Int) := by unfold be; rw [List.foldl_cons]; simp
    rw [h3, h2, List.foldl_cons, h1, List.length_cons, Int.pow_succ, Int.add_mul, Int.mul_assoc, Int.mul_comm 256 (256 ^ l.length), Int.add_assoc]
theorem be_cons (c : UInt8) (l : Bs) : be (c :: l) = (c.toNat : Int) * 256 ^ l.length + be l := by
  have h3 : be (c :: l) = l.foldl (fun x b => x * 256 + (b.toNat : Int)) (c.toNat : Int) := by unfold be; rw [List.foldl_cons]; simp
  rw [h3, fold_be]
theorem be_range (l : Bs) : 0 ≤ be l ∧ be l < 256 ^ l.length := by
  have := be_bound l l.length (Nat.le_refl _); rwa [List.take_length] at this
theorem less_same : ∀ (l m : Bs), l.length = m.length → Op.bytesLess l m = decide (be l < be m)
  | [], [], _ => rfl
  | [], _ :: _, h => by cases h
  | _ :: _, [], h => by cases h
  | a :: l, b :: m, h => by
    have hl : l.length = m.length := by simpa using h
    have ih := less_same l m hl
    have r1 := be_range l
    have r2 := be_range m
    rw [← hl] at r2
    show (decide (a < b) || (a == b && Op.bytesLess l m)) = _
    rw [ih, be_cons, be_cons, ← hl]
    obtain ⟨W, hW⟩ : ∃ W : Int, W = 256 ^ l.length := ⟨_, rfl⟩
    rw [← hW] at r1 r2 ⊢
    rcases Nat.lt_trichotomy a.toNat b.toNat with hab | hab | hab
    · rw [decide_eq_true (show a < b from UInt8.lt_iff_toNat_lt.2 hab), Bool.true_or]
      symm; rw [decide_eq_true_eq]
      have h1 : ((a.toNat : Int) + 1) * W ≤ (b.toNat : Int) * W := Int.mul_le_mul_of_nonneg_right (by omega) (by omega)
      rw [Int.add_mul] at h1; omega
    · have e : a = b := UInt8.toNat_inj.1 hab
      subst e
      rw [decide_eq_false (show ¬ a < a from fun h => by have := UInt8.lt_iff_toNat_lt.1 h; omega)]
      simp
    · rw [decide_eq_false (show ¬ a < b from fun h => by have := UInt8.lt_iff_toNat_lt.1 h; omega), show (a == b) = false from by
        rw [beq_eq_false_iff_ne]; rintro rfl; omega]
      symm; simp only [Bool.false_and, Bool.or_false, decide_eq_false_iff_not]
      have h1 : ((b.toNat : Int) + 1) * W ≤ (a.toNat : Int) * W := Int.mul_le_mul_of_nonneg_right (by omega) (by omega)
      rw [Int.add_mul] at h1; omega
def digs (x : Int) : Bs := (numL x).drop 1
theorem numL_form {x : Int} (h0 : 0 ≤ x) (h1 : x ≤ 1073741823) : numL x = UInt8.ofNat (wid x) :: digs x ∧ (digs x).length = wid x ∧ be (digs x) = x := by
  unfold digs
  have hb := fun j => byt_toNat x j
  rcases (show (x < 1 ∧ wid x = 0) ∨ (¬ x < 1 ∧ x < 256 ∧ wid x = 1) ∨ (¬ x < 256 ∧ x < 65536 ∧ wid x = 2) ∨ (¬ x < 65536 ∧ x < 16777216 ∧ wid x = 3) ∨ (¬ x < 16777216 ∧ wid x = 4) by
      unfold wid; (repeat' split) <;> omega) with ⟨g, hw⟩ | ⟨g, g2, hw⟩ | ⟨g, g2, hw⟩ | ⟨g, g2, hw⟩ | ⟨g, hw⟩
  · have e : numL x = [0] := by unfold numL; rw [if_pos g]
    rw [e, hw]; refine ⟨rfl, rfl, ?_⟩; show (0 : Int) = x; omega
  · have e : numL x = [1, byt x 0] := by unfold numL; rw [if_neg g, if_pos g2]
    rw [e, hw]; refine ⟨rfl, rfl, ?_⟩
    show (0 * 256 + ((byt x 0).toNat : Int)) = x
    rw [hb]; omega
  · have e : numL x = [2, byt x 1, byt x 0] := by unfold numL; rw [if_neg (by omega), if_neg g, if_pos g2]
    rw [e, hw]; refine ⟨rfl, rfl, ?_⟩
    show ((0 * 256 + ((byt x 1).toNat : Int)) * 256 + ((byt x 0).toNat : Int)) = x
    rw [hb, hb]; omega
  · have e : numL x = [3, byt x 2, byt x 1, byt x 0] := by unfold numL; rw [if_neg (by omega), if_neg (by omega), if_neg g, if_pos g2]
    rw [e, hw]; refine ⟨rfl, rfl, ?_⟩
    show (((0 * 256 + ((byt x 2).toNat : Int)) * 256 + ((byt x 1).toNat : Int)) * 256 + ((byt x 0).toNat : Int)) = x
    rw [hb, hb, hb]; omega
  · have e : numL x = [4, byt x 3, byt x 2, byt x 1, byt x 0] := by unfold numL; rw [if_neg (by omega), if_neg (by omega), if_neg (by omega), if_neg g]
    rw [e, hw]; refine ⟨rfl, rfl, ?_⟩
    show ((((0 * 256 + ((byt x 3).toNat : Int)) * 256 + ((byt x 2).toNat : Int)) * 256 + ((byt x 1).toNat : Int)) * 256 + ((byt x 0).toNat : Int)) = x
    rw [hb, hb, hb, hb]; omega
theorem wid_mono {p q : Int} (h : p ≤ q) : wid p ≤ wid q := by unfold wid; (repeat' split) <;> omega
theorem less_num {p q : Int} (p0 : 0 ≤ p) (p1 : p ≤ 1073741823) (q0 : 0 ≤ q) (q1 : q ≤ 1073741823) : Op.bytesLess (numL p) (numL q) = decide (p < q) := by
  obtain ⟨a1, a2, a3⟩ := numL_form p0 p1
  obtain ⟨b1, b2, b3⟩ := numL_form q0 q1
  rw [a1, b1]
  show (decide (UInt8.ofNat (wid p) < UInt8.ofNat (wid q)) || (UInt8.ofNat (wid p) == UInt8.ofNat (wid q) && Op.bytesLess (digs p) (digs q))) = _
  have hp := wid_le p
  have hq := wid_le q
  have tp : (UInt8.ofNat (wid p)).toNat = wid p := by rw [UInt8.toNat_ofNat']; omega
  have tq : (UInt8.ofNat (wid q)).toNat = wid q := by rw [UInt8.toNat_ofNat']; omega
  rcases Nat.lt_trichotomy (wid p) (wid q) with h | h | h
  · rw [decide_eq_true (show UInt8.ofNat (wid p) < UInt8.ofNat (wid q) from UInt8.lt_iff_toNat_lt.2 (by rw [tp, tq]; exact h)), Bool.true_or]
    symm; rw [decide_eq_true_eq]
    rcases Int.lt_or_le p q with h1 | h1
    · exact h1
    · have := wid_mono h1; omega
  · rw [h, less_same _ _ (by rw [a2, b2, h]), a3, b3, decide_eq_false (show ¬ UInt8.ofNat (wid q) < UInt8.ofNat (wid q) from fun h => by have := UInt8.lt_iff_toNat_lt.1 h; omega)]
    simp
  · rw [decide_eq_false (show ¬ UInt8.ofNat (wid p) < UInt8.ofNat (wid q) from fun e => by have := UInt8.lt_iff_toNat_lt.1 e; rw [tp, tq] at this; omega), show (UInt8.ofNat (wid p) == UInt8.ofNat (wid q)) = false from by
      rw [beq_eq_false_iff_ne]; intro e; have := congrArg UInt8.toNat e; rw [tp, tq] at this; omega]
    symm; simp only [Bool.false_and, Bool.or_false, decide_eq_false_iff_not]
    intro h1; have := wid_mono (show p ≤ q by omega); omega
theorem same_num {p q : Int} (p0 : 0 ≤ p) (p1 : p ≤ 1073741823) (q0 : 0 ≤ q) (q1 : q ≤ 1073741823) : (numB p == numB q) = (p == q) := by
  rw [ba_beq, Bool.eq_iff_iff, decide_eq_true_eq, beq_iff_eq]
  constructor
  · intro h
    have h1 := mkB_inj h
    have e1 := (numL_form p0 p1).2.2
    have e2 := (numL_form q0 q1).2.2
    unfold digs at e1 e2
    rw [h1, e2] at e1; exact e1.symm
  · rintro rfl; rfl
set_option maxHeartbeats 16000000 in
theorem FieldOrder_law (x y : Int) : Fun Tryd.prog 4 [.int .i64 x, .int .i64 y] (.bool true) := by
  refine fun_of_vw tab Tryd.func4 rfl rfl (by simp [Tryd.f4]) (lrel_cons (.int _ _) (lrel_cons (.int _ _) lrel_nil)) (.bool _) ?_
  have hp : 0 ≤ bits .and .i64 x 1073741823 ∧ bits .and .i64 x 1073741823 ≤ 1073741823 := by rw [andmax]; omega
  have hq : 0 ≤ bits .and .i64 y 1073741823 ∧ bits .and .i64 y 1073741823 ≤ 1073741823 := by rw [andmax]; omega
  have n1 := num_is (x := bits .and .i64 x 1073741823) (numB (bits .and .i64 x 1073741823)) 0 (numR_ok (okN_iff.2 hp))
  have n2 := num_is (x := bits .and .i64 y 1073741823) (numB (bits .and .i64 y 1073741823)) 0 (numR_ok (okN_iff.2 hq))
  have e1 : Op.bytesLess (numB (bits .and .i64 x 1073741823)).data.toList (numB (bits .and .i64 y 1073741823)).data.toList = decide (bits .and .i64 x 1073741823 < bits .and .i64 y 1073741823) := less_num hp.1 hp.2 hq.1 hq.2
  have e2 := same_num hp.1 hp.2 hq.1 hq.2
  have s1 : (numB (bits .and .i64 x 1073741823)).size = (numL (bits .and .i64 x 1073741823)).length := mkB_size _
  have s2 := numL_len (bits .and .i64 x 1073741823)
  have d1 : decide ((1 : Int) ≤ ((numB (bits .and .i64 x 1073741823)).size : Int)) = true := decide_eq_true (by omega)
  have d2 : decide (((numB (bits .and .i64 x 1073741823)).size : Int) ≤ 5) = true := decide_eq_true (by omega)
  refine wsq (wrg (vQ tab rfl (vnl (qth (wsq (wsq (wrg (vF rfl callable_17 (field_awake) (vQ tab rfl (vnl (qth (vc_false rfl (vw_skip (qth (wsq (wrg (vQ tab rfl (vQ tab rfl (vQ tab rfl (vQ tab rfl (vQ tab rfl (vQ tab rfl (vnl ?_)))))))))))))))))))))))
  refine qth (wsq (wrg (vQ tab rfl (vF rfl callable_8 (n1) (vQ tab rfl (vQ tab rfl (vQ tab rfl (vQ tab rfl (vQ tab rfl (vnl (qth (wsq (wrg (vQ tab rfl (vF rfl callable_8 (n2) (vQ tab rfl (vQ tab rfl (vQ tab rfl (vQ tab rfl (vQ tab rfl (vnl (qth (wsq ?_)))))))))))))))))))))))
  refine wrg (vQ tab rfl (vF rfl callable_10 (num_fun _) (vQ tab rfl (vQ tab rfl (vQ tab rfl (vF rfl callable_10 (num_fun _) (vQ tab rfl (vQ tab rfl (vQ tab rfl (vQ tab rfl (vQ tab rfl (vQ tab rfl (vQ tab rfl (vQ tab rfl (vQ tab rfl (vQ tab rfl (vQ tab rfl (vQ tab rfl (vgd_op true rfl rfl rfl (by simp only [eq_self, decide_true, e1, e2, d1, d2, decide_eq_true_eq, decide_eq_false_iff_not, Bool.not_eq_eq_eq_not, Bool.not_true, Bool.not_false, bne_iff_ne, bne_eq_false_iff_eq, beq_iff_eq, beq_eq_false_iff_ne, ne_eq, beq_self_eq_true, bne_self_eq_false, Bool.and_eq_true, Bool.and_eq_false_iff, Bool.or_eq_true, Bool.or_eq_false_iff, and_self, and_true, true_and, Bool.false_eq_true, Bool.true_eq_false, not_false_eq_true, not_true_eq_false]; first | done | omega) ?_)))))))))))))))))))
  refine vQ tab rfl (vQ tab rfl (vQ tab rfl (vQ tab rfl (vQ tab rfl (vQ tab rfl (vQ tab rfl (vQ tab rfl (vQ tab rfl (vgd_op true rfl rfl rfl (by simp only [eq_self, decide_true, e1, e2, d1, d2, decide_eq_true_eq, decide_eq_false_iff_not, Bool.not_eq_eq_eq_not, Bool.not_true, Bool.not_false, bne_iff_ne, bne_eq_false_iff_eq, beq_iff_eq, beq_eq_false_iff_ne, ne_eq, beq_self_eq_true, bne_self_eq_false, Bool.and_eq_true, Bool.and_eq_false_iff, Bool.or_eq_true, Bool.or_eq_false_iff, and_self, and_true, true_and, Bool.false_eq_true, Bool.true_eq_false, not_false_eq_true, not_true_eq_false]; first | done | omega) ?_)))))))))
  refine vQ tab rfl (vQ tab rfl (vQ tab rfl (vQ tab rfl (vQ tab rfl (vgd_op true rfl rfl rfl (by simp only [eq_self, decide_true, e1, e2, d1, d2, decide_eq_true_eq, decide_eq_false_iff_not, Bool.not_eq_eq_eq_not, Bool.not_true, Bool.not_false, bne_iff_ne, bne_eq_false_iff_eq, beq_iff_eq, beq_eq_false_iff_ne, ne_eq, beq_self_eq_true, bne_self_eq_false, Bool.and_eq_true, Bool.and_eq_false_iff, Bool.or_eq_true, Bool.or_eq_false_iff, and_self, and_true, true_and, Bool.false_eq_true, Bool.true_eq_false, not_false_eq_true, not_true_eq_false]; first | done | omega) ?_)))))
  refine vQ tab rfl (vQ tab rfl (vQ tab rfl (vQ tab rfl (vQ tab rfl (vnl (qth (vw_ret ?_)))))))
  all_goals exact ⟨.inr rfl, Eq.trans (b := some (.bool _)) rfl (congrArg (fun b => some (Value.bool b)) (by simp_all))⟩
end Go.Proofs.YtkfkdhjelncfhaaDoor
