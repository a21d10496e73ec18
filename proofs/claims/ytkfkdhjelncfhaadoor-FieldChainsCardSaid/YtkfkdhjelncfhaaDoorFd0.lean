/- Package field: NumMay, width, Num; the document's num, Num, Nums. -/
import Derived.Test.YtkfkdhjelncfhaaDoorVg1
import Derived.Test.YtkfkdhjelncfhaaDoorFp
import Derived.Test.YtkfkdhjelncfhaaDoorBy0
import Derived.Test.YtkfkdhjelncfhaaDoorCm0
namespace Go.Proofs.YtkfkdhjelncfhaaDoor
open Go Vm IntWalk
set_option linter.unusedVariables false
set_option linter.unusedSimpArgs false
def numB (x : Int) : ByteArray := mkB (numL x)
theorem numB_size (x : Int) : (numB x).size ≤ 5 := by unfold numB; rw [mkB_size]; exact (numL_len x).1
theorem nummay_fun (x : Int) : Fun Tryd.prog 18 [.int .i64 x] (.bool (okN x)) := by
  refine fun_of_vw tab Tryd.func18 rfl rfl (by simp [Tryd.f18]) (lrel_cons (.int _ _) lrel_nil) (.bool _) ?_
  refine wsq (wrg (vQ tab rfl (vnl (qth (wsq (wrg (vQ tab rfl (vQ tab rfl (vQ tab rfl ?_)))))))))
  refine vg_op rfl rfl rfl (fun _ => ?_) (fun _ => ?_)
  refine vQ tab rfl (vQ tab rfl (vQ tab rfl (vQ tab rfl (vnl (qth (vw_ret ?_))))))
  rotate_left
  refine vK rfl (vK rfl (vQ tab rfl (vQ tab rfl (vnl (qth (vw_ret ?_))))))
  rotate_left
  all_goals exact ⟨.inr rfl, Eq.trans (b := some (.bool _)) rfl (congrArg (fun b => some (Value.bool b)) (by simp_all [okN] <;> (intros; omega)))⟩
theorem shr_8 (x : Int) : x.fdiv (2 ^ (min (8 : Int).toNat IntKind.i64.bits)) = x / 256 := Int.fdiv_eq_ediv_of_nonneg _ (by decide)
theorem shr_16 (x : Int) : x.fdiv (2 ^ (min (16 : Int).toNat IntKind.i64.bits)) = x / 65536 := Int.fdiv_eq_ediv_of_nonneg _ (by decide)
theorem shr_24 (x : Int) : x.fdiv (2 ^ (min (24 : Int).toNat IntKind.i64.bits)) = x / 16777216 := Int.fdiv_eq_ediv_of_nonneg _ (by decide)
theorem u8w (n : Int) : IntKind.u8.wrap n = n % 256 := by simp [IntKind.wrap, IntKind.bits, IntKind.signed]
theorem wid_step {x : Int} (h0 : 0 < x) (h1 : x < 4294967296) : wid x = wid (x / 256) + 1 := by
  unfold wid
  repeat' split
  all_goals omega
theorem wid_le (x : Int) : wid x ≤ 4 := by unfold wid; (repeat' split) <;> omega
set_option maxHeartbeats 4000000 in
theorem width_fun {x : Int} (hx : x < 4294967296) : Fun Tryd.prog 19 [.int .i64 x] (.int .i64 (wid x : Nat)) := by
  refine fun_of_vw tab Tryd.func19 rfl rfl (by simp [Tryd.f19]) (lrel_cons (.int _ _) lrel_nil) (.int _ _) ?_
  refine wsq (wrg (vQ tab rfl (vnl (qth (wsq (wrg (vQ tab rfl (vnl (qth (wsq (wbk ?_)))))))))))
  refine vw_loop_env (fun k env => ∃ (y : Int) (m : Nat), y < 4294967296 ∧ wid y + m = wid x ∧ k = y.toNat ∧ env = [(0, .int .i64 y), (3, .int .i64 (m : Int))]) x.toNat
    ⟨_, se_cons rfl (se_cons rfl se_nil), x, 0, hx, rfl, rfl, rfl⟩ ?_
  rintro k env ⟨y, m, hy, hm, rfl, rfl⟩
  by_cases h : 0 < y
  · have hw := wid_step h hy
    have hle := wid_le x
    have hi : IntKind.i64.wrap ((m : Int) + 1) = ((m + 1 : Nat) : Int) := by rw [i64_in _ (by omega)]; omega
    refine wsq (wsq (wrg (vQ tab rfl (vQ tab rfl (vnl (qth (vcd_true rfl (by simp only [decide_eq_true_eq, decide_eq_false_iff_not, Bool.not_eq_eq_eq_not, Bool.not_true, Bool.not_false, bne_iff_ne, bne_eq_false_iff_eq, beq_iff_eq, beq_eq_false_iff_ne, ne_eq, beq_self_eq_true, bne_self_eq_false, Bool.and_eq_true, Bool.and_eq_false_iff, Bool.or_eq_true, Bool.or_eq_false_iff, and_self, and_true, true_and, Bool.false_eq_true, Bool.true_eq_false, not_false_eq_true, not_true_eq_false]; first | done | omega) ?_)))))))
    refine vw_skip (qth (wsq (wbk (wrg (vQ tab rfl (vQ tab rfl (vQ tab rfl (vnl (q_norm (qth (wrg (vQ tab rfl (vQ tab rfl (vQ tab rfl (vnl (qth ?_))))))))))))))))
    exact ⟨rfl, rfl, (y / 256).toNat, _, by omega, se_cons (se_int rfl (shr_8 y)) (se_cons (se_int rfl hi) se_nil), y / 256, m + 1, by omega, by omega, rfl, rfl⟩
  · have hz : wid y = 0 := by unfold wid; rw [if_pos (by omega)]
    have hmx : m = wid x := by omega
    refine wsq (wsq (wrg (vQ tab rfl (vQ tab rfl (vnl (qth (vcd_false rfl (by simp only [decide_eq_true_eq, decide_eq_false_iff_not, Bool.not_eq_eq_eq_not, Bool.not_true, Bool.not_false, bne_iff_ne, bne_eq_false_iff_eq, beq_iff_eq, beq_eq_false_iff_ne, ne_eq, beq_self_eq_true, bne_self_eq_false, Bool.and_eq_true, Bool.and_eq_false_iff, Bool.or_eq_true, Bool.or_eq_false_iff, and_self, and_true, true_and, Bool.false_eq_true, Bool.true_eq_false, not_false_eq_true, not_true_eq_false]; first | done | omega) ?_)))))))
    refine vw_exit (q_thenx (q_thenx (q_here (qth (wsq (wrg (vQ tab rfl (vQ tab rfl (vnl (qth (vw_ret ?_)))))))))))
    exact ⟨.inr rfl, by rw [hmx]; rfl⟩
theorem width_as {x : Int} (k : Nat) (h : wid x = k) (hx : x < 4294967296) : Fun Tryd.prog 19 [.int .i64 x] (.int .i64 (k : Nat)) := by subst h; exact width_fun hx
def E0 (x : Int) : Int := IntKind.u8.wrap x
def E8 (x : Int) : Int := IntKind.u8.wrap (x.fdiv (2 ^ (min (8 : Int).toNat IntKind.i64.bits)))
def E16 (x : Int) : Int := IntKind.u8.wrap (x.fdiv (2 ^ (min (16 : Int).toNat IntKind.i64.bits)))
def E24 (x : Int) : Int := IntKind.u8.wrap (x.fdiv (2 ^ (min (24 : Int).toNat IntKind.i64.bits)))
theorem E_byt {x : Int} (h : 0 ≤ x) : UInt8.ofNat (E0 x).toNat = byt x 0 ∧ UInt8.ofNat (E8 x).toNat = byt x 1 ∧ UInt8.ofNat (E16 x).toNat = byt x 2 ∧ UInt8.ofNat (E24 x).toNat = byt x 3 := by
  unfold E0 E8 E16 E24 byt
  rw [shr_8, shr_16, shr_24]
  simp only [u8w]
  refine ⟨?_, ?_, ?_, ?_⟩ <;> congr 1 <;> simp <;> omega
theorem num_w0 {x : Int} (h0 : 0 ≤ x) (h : x < 1) : bytesL [0] = numB x := by unfold numB numL; rw [if_pos h]; rfl
theorem num_w1 {x : Int} (h0 : 0 ≤ x) (h : ¬ x < 1) (h2 : x < 256) : bytesL [1, E0 x] = numB x := by
  obtain ⟨e0, e8, e16, e24⟩ := E_byt h0
  unfold numB numL; rw [if_neg h, if_pos h2, ← e0]; rfl
theorem num_w2 {x : Int} (h0 : 0 ≤ x) (h : ¬ x < 256) (h2 : x < 65536) : bytesL [2, E8 x, E0 x] = numB x := by
  obtain ⟨e0, e8, e16, e24⟩ := E_byt h0
  unfold numB numL; rw [if_neg (by omega), if_neg h, if_pos h2, ← e0, ← e8]; rfl
theorem num_w3 {x : Int} (h0 : 0 ≤ x) (h : ¬ x < 65536) (h2 : x < 16777216) : bytesL [3, E16 x, E8 x, E0 x] = numB x := by
  obtain ⟨e0, e8, e16, e24⟩ := E_byt h0
  unfold numB numL; rw [if_neg (by omega), if_neg (by omega), if_neg h, if_pos h2, ← e0, ← e8, ← e16]; rfl
theorem num_w4 {x : Int} (h0 : 0 ≤ x) (h : ¬ x < 16777216) : bytesL [4, E24 x, E16 x, E8 x, E0 x] = numB x := by
  obtain ⟨e0, e8, e16, e24⟩ := E_byt h0
  unfold numB numL; rw [if_neg (by omega), if_neg (by omega), if_neg (by omega), if_neg h, ← e0, ← e8, ← e16, ← e24]; rfl
/-- What Num gives. -/
def numR (x : Int) : ByteArray × Int := if okN x = true then (numB x, 0) else (⟨#[]⟩, 100)
theorem numR_ok {x : Int} (h : okN x = true) : numR x = (numB x, 0) := if_pos h
theorem numR_no {x : Int} (h : okN x = false) : numR x = (⟨#[]⟩, 100) := if_neg (by rw [h]; decide)
theorem numR_size (x : Int) : (numR x).1.size ≤ 5 := by
  unfold numR; split
  · exact numB_size x
  · decide
theorem refnum_fun (x : Int) : Fun Tryd.prog 20 [.int .i64 x] (.bool (okN x)) := by
  refine fun_of_vw tab Tryd.func20 rfl rfl (by simp [Tryd.f20]) (lrel_cons (.int _ _) lrel_nil) (.bool _) ?_
  refine wsq (wrg (vQ tab rfl (vnl (qth (wsq (wrg (vQ tab rfl (vQ tab rfl (vQ tab rfl ?_)))))))))
  refine vg_op rfl rfl rfl (fun _ => ?_) (fun _ => ?_)
  refine vQ tab rfl (vQ tab rfl (vQ tab rfl (vQ tab rfl (vnl (qth (vw_ret ?_))))))
  rotate_left
  refine vK rfl (vK rfl (vQ tab rfl (vQ tab rfl (vnl (qth (vw_ret ?_))))))
  rotate_left
  all_goals exact ⟨.inr rfl, Eq.trans (b := some (.bool _)) rfl (congrArg (fun b => some (Value.bool b)) (by simp_all [okN] <;> (intros; omega)))⟩
set_option maxHeartbeats 8000000 in
theorem num_fun_ (x : Int) : Fun Tryd.prog 8 [.int .i64 x] (.tuple #[.string (numR x).1, .int .i64 (numR x).2]) := by
  refine fun_of_vw tab Tryd.func8 rfl rfl (by simp [Tryd.f8]) (lrel_cons (.int _ _) lrel_nil) (vrel_tuple (lrel_cons (.string _) (lrel_cons (.int _ _) lrel_nil))) ?_
  cases hok : okN x with
  | false =>
    rw [numR_no hok]
    refine wsq (wrg (vQ tab rfl (vQ tab rfl (vnl (qth (wsq (wsq (wrg (vQ tab rfl (vF rfl callable_18 (nummay_fun _) (vQ tab rfl (vnl (qth (vcd_true rfl (by simp only [hok, decide_eq_true_eq, decide_eq_false_iff_not, Bool.not_eq_eq_eq_not, Bool.not_true, Bool.not_false, bne_iff_ne, bne_eq_false_iff_eq, beq_iff_eq, beq_eq_false_iff_ne, ne_eq, beq_self_eq_true, bne_self_eq_false, Bool.and_eq_true, Bool.and_eq_false_iff, Bool.or_eq_true, Bool.or_eq_false_iff, and_self, and_true, true_and, Bool.false_eq_true, Bool.true_eq_false, not_false_eq_true, not_true_eq_false]; first | done | omega) ?_))))))))))))))
    refine wsq (wrg (vQ tab rfl (vQ tab rfl (vnl (qth (vw_ret (q_thenr ?_)))))))
    exact ⟨.inr rfl, rfl⟩
  | true =>
    rw [numR_ok hok]
    obtain ⟨x0, x1⟩ := okN_iff.1 hok
    rcases (show (x < 1 ∧ wid x = 0) ∨ (¬ x < 1 ∧ x < 256 ∧ wid x = 1) ∨ (¬ x < 256 ∧ x < 65536 ∧ wid x = 2) ∨ (¬ x < 65536 ∧ x < 16777216 ∧ wid x = 3) ∨ (¬ x < 16777216 ∧ wid x = 4) by
      unfold wid; (repeat' split) <;> omega) with ⟨g, hw⟩ | ⟨g, g2, hw⟩ | ⟨g, g2, hw⟩ | ⟨g, g2, hw⟩ | ⟨g, hw⟩
    · rw [← num_w0 x0 g]
      refine wsq (wrg (vQ tab rfl (vQ tab rfl (vnl (qth (wsq (wsq (wrg (vQ tab rfl (vF rfl callable_18 (nummay_fun _) (vQ tab rfl (vnl (qth (vcd_false rfl (by simp only [hok, decide_eq_true_eq, decide_eq_false_iff_not, Bool.not_eq_eq_eq_not, Bool.not_true, Bool.not_false, bne_iff_ne, bne_eq_false_iff_eq, beq_iff_eq, beq_eq_false_iff_ne, ne_eq, beq_self_eq_true, bne_self_eq_false, Bool.and_eq_true, Bool.and_eq_false_iff, Bool.or_eq_true, Bool.or_eq_false_iff, and_self, and_true, true_and, Bool.false_eq_true, Bool.true_eq_false, not_false_eq_true, not_true_eq_false]; first | done | omega) ?_))))))))))))))
      refine vw_skip (qth (wsq (wrg (vQ tab rfl (vF rfl callable_19 (width_as 0 hw (by omega)) ?_)))))
      refine vQ tab rfl (vnl (qth (wsq (wrg (vQ tab rfl (vQ tab rfl (vN tab rfl (vQ tab rfl (vnl (qth (wsq (wsq (wrg (vQ tab rfl (vnl (qth (wbk (wsq (wbk (wsq (wbk (wsq (wbk ?_)))))))))))))))))))))))
      refine wsq (wbk (wsq (wsq (wsq (wrg (vQ tab rfl (vQ tab rfl (vnl (qth (vc_false rfl (vw_skip (qth (wsq (wsq (wrg (vQ tab rfl (vQ tab rfl (vnl (qth (vc_false rfl (vw_skip (qth (wsq ?_)))))))))))))))))))))))
      refine wsq (wrg (vQ tab rfl (vQ tab rfl (vnl (qth (vc_false rfl (vw_skip (qth (wsq (wrg (vQ tab rfl (vQ tab rfl (vnl (qth (vc_false rfl (vw_skip (qth (vw_exit (q_out rfl (q_thenx (q_out rfl (q_thenx (q_out rfl ?_)))))))))))))))))))))))
      refine q_thenx (q_out rfl (q_thenx (q_here (qth (wsq (wrg (vQ tab rfl (vQ tab rfl (vQ tab rfl (vQ tab rfl (vnl (qth (vw_ret ?_)))))))))))))
      exact ⟨.inr rfl, rfl⟩
    · rw [← num_w1 x0 g g2]
      refine wsq (wrg (vQ tab rfl (vQ tab rfl (vnl (qth (wsq (wsq (wrg (vQ tab rfl (vF rfl callable_18 (nummay_fun _) (vQ tab rfl (vnl (qth (vcd_false rfl (by simp only [hok, decide_eq_true_eq, decide_eq_false_iff_not, Bool.not_eq_eq_eq_not, Bool.not_true, Bool.not_false, bne_iff_ne, bne_eq_false_iff_eq, beq_iff_eq, beq_eq_false_iff_ne, ne_eq, beq_self_eq_true, bne_self_eq_false, Bool.and_eq_true, Bool.and_eq_false_iff, Bool.or_eq_true, Bool.or_eq_false_iff, and_self, and_true, true_and, Bool.false_eq_true, Bool.true_eq_false, not_false_eq_true, not_true_eq_false]; first | done | omega) ?_))))))))))))))
      refine vw_skip (qth (wsq (wrg (vQ tab rfl (vF rfl callable_19 (width_as 1 hw (by omega)) ?_)))))
      refine vQ tab rfl (vnl (qth (wsq (wrg (vQ tab rfl (vQ tab rfl (vN tab rfl (vQ tab rfl (vnl (qth (wsq (wsq (wrg (vQ tab rfl (vnl (qth (wbk (wsq (wbk (wsq (wbk (wsq (wbk ?_)))))))))))))))))))))))
      refine wsq (wbk (wsq (wsq (wsq (wrg (vQ tab rfl (vQ tab rfl (vnl (qth (vc_false rfl (vw_skip (qth (wsq (wsq (wrg (vQ tab rfl (vQ tab rfl (vnl (qth (vc_false rfl (vw_skip (qth (wsq ?_)))))))))))))))))))))))
      refine wsq (wrg (vQ tab rfl (vQ tab rfl (vnl (qth (vc_false rfl (vw_skip (qth (wsq (wrg (vQ tab rfl (vQ tab rfl (vnl (qth (vc_true rfl (vw_exit (q_thenx (q_out rfl (q_thenx (q_out rfl (q_thenx (q_out rfl (q_thenx ?_)))))))))))))))))))))))
      refine q_here (qth (wsq (wrg (vQ tab rfl (vQ tab rfl (vQ tab rfl (vN tab rfl (vo_op rfl rfl rfl (opr_ev tab (ev_app u8R (xs := [1]) (ys := [E0 x]) (m := 1) rfl rfl rfl rfl rfl rfl rfl rfl rfl (Nat.le_of_ble_eq_true rfl) (Nat.le_of_ble_eq_true rfl))) (vQ tab rfl (vnl (qth (vw_exit (q_here (qth (wsq (wrg (vQ tab rfl (vQ tab rfl (vQ tab rfl (vQ tab rfl (vnl (qth (vw_ret ?_)))))))))))))))))))))))
      exact ⟨.inr rfl, rfl⟩
    · rw [← num_w2 x0 g g2]
      refine wsq (wrg (vQ tab rfl (vQ tab rfl (vnl (qth (wsq (wsq (wrg (vQ tab rfl (vF rfl callable_18 (nummay_fun _) (vQ tab rfl (vnl (qth (vcd_false rfl (by simp only [hok, decide_eq_true_eq, decide_eq_false_iff_not, Bool.not_eq_eq_eq_not, Bool.not_true, Bool.not_false, bne_iff_ne, bne_eq_false_iff_eq, beq_iff_eq, beq_eq_false_iff_ne, ne_eq, beq_self_eq_true, bne_self_eq_false, Bool.and_eq_true, Bool.and_eq_false_iff, Bool.or_eq_true, Bool.or_eq_false_iff, and_self, and_true, true_and, Bool.false_eq_true, Bool.true_eq_false, not_false_eq_true, not_true_eq_false]; first | done | omega) ?_))))))))))))))
      refine vw_skip (qth (wsq (wrg (vQ tab rfl (vF rfl callable_19 (width_as 2 hw (by omega)) ?_)))))
      refine vQ tab rfl (vnl (qth (wsq (wrg (vQ tab rfl (vQ tab rfl (vN tab rfl (vQ tab rfl (vnl (qth (wsq (wsq (wrg (vQ tab rfl (vnl (qth (wbk (wsq (wbk (wsq (wbk (wsq (wbk ?_)))))))))))))))))))))))
      refine wsq (wbk (wsq (wsq (wsq (wrg (vQ tab rfl (vQ tab rfl (vnl (qth (vc_false rfl (vw_skip (qth (wsq (wsq (wrg (vQ tab rfl (vQ tab rfl (vnl (qth (vc_false rfl (vw_skip (qth (wsq ?_)))))))))))))))))))))))
      refine wsq (wrg (vQ tab rfl (vQ tab rfl (vnl (qth (vc_true rfl (vw_exit (q_thenx (q_thenx (q_out rfl (q_thenx (q_out rfl (q_thenx (q_here (qth (wrg (vQ tab rfl (vQ tab rfl (vQ tab rfl (vQ tab rfl (vN tab rfl (vo_op rfl rfl rfl (opr_ev tab (ev_app u8R (xs := [2]) (ys := [E8 x]) (m := 1) rfl rfl rfl rfl rfl rfl rfl rfl rfl (Nat.le_of_ble_eq_true rfl) (Nat.le_of_ble_eq_true rfl))) (vQ tab rfl ?_)))))))))))))))))))))))
      refine vnl (q_norm (qth (wsq (wrg (vQ tab rfl (vQ tab rfl (vQ tab rfl (vN tab rfl (vo_op rfl rfl rfl (opr_ev tab (ev_app u8R (xs := [2, E8 x]) (ys := [E0 x]) (m := 1) rfl rfl rfl rfl rfl rfl rfl rfl rfl (Nat.le_of_ble_eq_true rfl) (Nat.le_of_ble_eq_true rfl))) (vQ tab rfl (vnl (qth (vw_exit (q_here (qth (wsq (wrg (vQ tab rfl (vQ tab rfl (vQ tab rfl (vQ tab rfl (vnl (qth ?_)))))))))))))))))))))))
      refine vw_ret ?_
      exact ⟨.inr rfl, rfl⟩
    · rw [← num_w3 x0 g g2]
      refine wsq (wrg (vQ tab rfl (vQ tab rfl (vnl (qth (wsq (wsq (wrg (vQ tab rfl (vF rfl callable_18 (nummay_fun _) (vQ tab rfl (vnl (qth (vcd_false rfl (by simp only [hok, decide_eq_true_eq, decide_eq_false_iff_not, Bool.not_eq_eq_eq_not, Bool.not_true, Bool.not_false, bne_iff_ne, bne_eq_false_iff_eq, beq_iff_eq, beq_eq_false_iff_ne, ne_eq, beq_self_eq_true, bne_self_eq_false, Bool.and_eq_true, Bool.and_eq_false_iff, Bool.or_eq_true, Bool.or_eq_false_iff, and_self, and_true, true_and, Bool.false_eq_true, Bool.true_eq_false, not_false_eq_true, not_true_eq_false]; first | done | omega) ?_))))))))))))))
      refine vw_skip (qth (wsq (wrg (vQ tab rfl (vF rfl callable_19 (width_as 3 hw (by omega)) ?_)))))
      refine vQ tab rfl (vnl (qth (wsq (wrg (vQ tab rfl (vQ tab rfl (vN tab rfl (vQ tab rfl (vnl (qth (wsq (wsq (wrg (vQ tab rfl (vnl (qth (wbk (wsq (wbk (wsq (wbk (wsq (wbk ?_)))))))))))))))))))))))
      refine wsq (wbk (wsq (wsq (wsq (wrg (vQ tab rfl (vQ tab rfl (vnl (qth (vc_false rfl (vw_skip (qth (wsq (wsq (wrg (vQ tab rfl (vQ tab rfl (vnl (qth (vc_true rfl (vw_exit (q_thenx (q_thenx ?_)))))))))))))))))))))))
      refine q_out rfl (q_thenx (q_here (qth (wrg (vQ tab rfl (vQ tab rfl (vQ tab rfl (vQ tab rfl (vN tab rfl (vo_op rfl rfl rfl (opr_ev tab (ev_app u8R (xs := [3]) (ys := [E16 x]) (m := 1) rfl rfl rfl rfl rfl rfl rfl rfl rfl (Nat.le_of_ble_eq_true rfl) (Nat.le_of_ble_eq_true rfl))) (vQ tab rfl (vnl (q_norm (qth (wrg (vQ tab rfl (vQ tab rfl (vQ tab rfl (vQ tab rfl (vN tab rfl (vo_op rfl rfl rfl (opr_ev tab (ev_app u8R (xs := [3, E16 x]) (ys := [E8 x]) (m := 1) rfl rfl rfl rfl rfl rfl rfl rfl rfl (Nat.le_of_ble_eq_true rfl) (Nat.le_of_ble_eq_true rfl))) (vQ tab rfl (vnl ?_)))))))))))))))))))))))
      refine q_norm (qth (wsq (wrg (vQ tab rfl (vQ tab rfl (vQ tab rfl (vN tab rfl (vo_op rfl rfl rfl (opr_ev tab (ev_app u8R (xs := [3, E16 x, E8 x]) (ys := [E0 x]) (m := 1) rfl rfl rfl rfl rfl rfl rfl rfl rfl (Nat.le_of_ble_eq_true rfl) (Nat.le_of_ble_eq_true rfl))) (vQ tab rfl (vnl (qth (vw_exit (q_here (qth (wsq (wrg (vQ tab rfl (vQ tab rfl (vQ tab rfl (vQ tab rfl (vnl (qth (vw_ret ?_)))))))))))))))))))))))
      exact ⟨.inr rfl, rfl⟩
    · rw [← num_w4 x0 g]
      refine wsq (wrg (vQ tab rfl (vQ tab rfl (vnl (qth (wsq (wsq (wrg (vQ tab rfl (vF rfl callable_18 (nummay_fun _) (vQ tab rfl (vnl (qth (vcd_false rfl (by simp only [hok, decide_eq_true_eq, decide_eq_false_iff_not, Bool.not_eq_eq_eq_not, Bool.not_true, Bool.not_false, bne_iff_ne, bne_eq_false_iff_eq, beq_iff_eq, beq_eq_false_iff_ne, ne_eq, beq_self_eq_true, bne_self_eq_false, Bool.and_eq_true, Bool.and_eq_false_iff, Bool.or_eq_true, Bool.or_eq_false_iff, and_self, and_true, true_and, Bool.false_eq_true, Bool.true_eq_false, not_false_eq_true, not_true_eq_false]; first | done | omega) ?_))))))))))))))
      refine vw_skip (qth (wsq (wrg (vQ tab rfl (vF rfl callable_19 (width_as 4 hw (by omega)) ?_)))))
      refine vQ tab rfl (vnl (qth (wsq (wrg (vQ tab rfl (vQ tab rfl (vN tab rfl (vQ tab rfl (vnl (qth (wsq (wsq (wrg (vQ tab rfl (vnl (qth (wbk (wsq (wbk (wsq (wbk (wsq (wbk ?_)))))))))))))))))))))))
      refine wsq (wbk (wsq (wsq (wsq (wrg (vQ tab rfl (vQ tab rfl (vnl (qth (vc_true rfl (vw_exit (q_thenx (q_thenx (q_here (qth (wrg (vQ tab rfl (vQ tab rfl (vQ tab rfl (vQ tab rfl (vN tab rfl (vo_op rfl rfl rfl (opr_ev tab (ev_app u8R (xs := [4]) (ys := [E24 x]) (m := 1) rfl rfl rfl rfl rfl rfl rfl rfl rfl (Nat.le_of_ble_eq_true rfl) (Nat.le_of_ble_eq_true rfl))) (vQ tab rfl ?_)))))))))))))))))))))))
      refine vnl (q_norm (qth (wrg (vQ tab rfl (vQ tab rfl (vQ tab rfl (vQ tab rfl (vN tab rfl (vo_op rfl rfl rfl (opr_ev tab (ev_app u8R (xs := [4, E24 x]) (ys := [E16 x]) (m := 1) rfl rfl rfl rfl rfl rfl rfl rfl rfl (Nat.le_of_ble_eq_true rfl) (Nat.le_of_ble_eq_true rfl))) (vQ tab rfl (vnl (q_norm (qth (wrg (vQ tab rfl (vQ tab rfl (vQ tab rfl (vQ tab rfl (vN tab rfl (vo_op rfl rfl rfl (opr_ev tab (ev_app u8R (xs := [4, E24 x, E16 x]) (ys := [E8 x]) (m := 1) rfl rfl rfl rfl rfl rfl rfl rfl rfl (Nat.le_of_ble_eq_true rfl) (Nat.le_of_ble_eq_true rfl))) (vQ tab rfl (vnl (q_norm ?_)))))))))))))))))))))))
      refine qth (wsq (wrg (vQ tab rfl (vQ tab rfl (vQ tab rfl (vN tab rfl (vo_op rfl rfl rfl (opr_ev tab (ev_app u8R (xs := [4, E24 x, E16 x, E8 x]) (ys := [E0 x]) (m := 1) rfl rfl rfl rfl rfl rfl rfl rfl rfl (Nat.le_of_ble_eq_true rfl) (Nat.le_of_ble_eq_true rfl))) (vQ tab rfl (vnl (qth (vw_exit (q_here (qth (wsq (wrg (vQ tab rfl (vQ tab rfl (vQ tab rfl (vQ tab rfl (vnl (qth (vw_ret ?_))))))))))))))))))))))
      exact ⟨.inr rfl, rfl⟩
end Go.Proofs.YtkfkdhjelncfhaaDoor
