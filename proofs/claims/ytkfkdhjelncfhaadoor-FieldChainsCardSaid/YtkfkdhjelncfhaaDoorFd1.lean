/- The document's Num, Nums. -/
import Derived.Test.YtkfkdhjelncfhaaDoorVg1
import Derived.Test.YtkfkdhjelncfhaaDoorFd0
namespace Go.Proofs.YtkfkdhjelncfhaaDoor
open Go Vm IntWalk
set_option linter.unusedVariables false
set_option linter.unusedSimpArgs false
theorem bytesL_app (a b : List Int) : bytesL a ++ bytesL b = bytesL (a ++ b) := B_inj (by rw [B_app, bytesL_mk, bytesL_mk, bytesL_mk, B_mk, B_mk, B_mk, List.map_append])
theorem bytesL_none (a : List Int) : bytesL a ++ ByteArray.empty = bytesL a := by
  have := bytesL_app a []
  rw [List.append_nil] at this; exact this
theorem E_val {x : Int} : E0 x = x % 256 ∧ E8 x = x / 256 % 256 ∧ E16 x = x / 65536 % 256 ∧ E24 x = x / 16777216 % 256 := by
  unfold E0 E8 E16 E24; rw [shr_8, shr_16, shr_24]; simp only [u8w, and_self]
theorem ne_t {a : Int} (h : a ≠ 0) : (a != 0) = true := by simpa using h
theorem ne_f {a : Int} (h : a = 0) : (a != 0) = false := by simpa using h
def F0 (x : Int) : Int := IntKind.u8.wrap (x.fdiv (2 ^ (min (0 : Int).toNat IntKind.i64.bits)))
theorem F0_eq (x : Int) : F0 x = E0 x := by
  unfold F0 E0
  have : x.fdiv (2 ^ (min (0 : Int).toNat IntKind.i64.bits)) = x := by
    show x.fdiv 1 = x
    simp
  rw [this]
set_option maxHeartbeats 16000000 in
theorem refNum_fun (x : Int) : Fun Tryd.prog 9 [.int .i64 x] (.tuple #[.string (numR x).1, .int .i64 (numR x).2]) := by
  refine fun_of_vw tab Tryd.func9 rfl rfl (by simp [Tryd.f9]) (lrel_cons (.int _ _) lrel_nil) (vrel_tuple (lrel_cons (.string _) (lrel_cons (.int _ _) lrel_nil))) ?_
  cases hok : okN x with
  | false =>
    rw [numR_no hok]
    refine wsq (wrg (vQ tab rfl (vQ tab rfl (vnl (qth (wsq (wsq (wrg (vQ tab rfl (vF rfl callable_20 (refnum_fun _) (vQ tab rfl (vnl (qth (vcd_true rfl (by simp only [hok, decide_eq_true_eq, decide_eq_false_iff_not, Bool.not_eq_eq_eq_not, Bool.not_true, Bool.not_false, bne_iff_ne, bne_eq_false_iff_eq, beq_iff_eq, beq_eq_false_iff_ne, ne_eq, beq_self_eq_true, bne_self_eq_false, Bool.and_eq_true, Bool.and_eq_false_iff, Bool.or_eq_true, Bool.or_eq_false_iff, and_self, and_true, true_and, Bool.false_eq_true, Bool.true_eq_false, not_false_eq_true, not_true_eq_false]; first | done | omega) ?_))))))))))))))
    refine wsq (wrg (vQ tab rfl (vQ tab rfl (vnl (qth (vw_ret (q_thenr ?_)))))))
    exact ⟨.inr rfl, rfl⟩
  | true =>
    rw [numR_ok hok]
    obtain ⟨x0, x1⟩ := okN_iff.1 hok
    obtain ⟨v0, v8, v16, v24⟩ := E_val (x := x)
    rw [← F0_eq] at v0
    refine wsq (wrg (vQ tab rfl (vQ tab rfl (vnl (qth (wsq (wsq (wrg (vQ tab rfl (vF rfl callable_20 (refnum_fun _) (vQ tab rfl (vnl (qth (vcd_false rfl (by simp only [hok, decide_eq_true_eq, decide_eq_false_iff_not, Bool.not_eq_eq_eq_not, Bool.not_true, Bool.not_false, bne_iff_ne, bne_eq_false_iff_eq, beq_iff_eq, beq_eq_false_iff_ne, ne_eq, beq_self_eq_true, bne_self_eq_false, Bool.and_eq_true, Bool.and_eq_false_iff, Bool.or_eq_true, Bool.or_eq_false_iff, and_self, and_true, true_and, Bool.false_eq_true, Bool.true_eq_false, not_false_eq_true, not_true_eq_false]; first | done | omega) ?_))))))))))))))
    refine vw_skip (qth (wsq (wrg (vQ tab rfl (vnl (qth (wsq (wsq (wrg (vQ tab rfl (vnl (qth (wbk ?_)))))))))))))
    refine vw_rounds 5 ?_
    rcases (show (x < 1) ∨ (¬ x < 1 ∧ x < 256) ∨ (¬ x < 256 ∧ x < 65536) ∨ (¬ x < 65536 ∧ x < 16777216) ∨ (¬ x < 16777216) by omega) with g | ⟨g, g2⟩ | ⟨g, g2⟩ | ⟨g, g2⟩ | g
    · rw [← num_w0 x0 g]
      have e0 := ne_f (a := E24 x) (by omega)
      have e1 := ne_f (a := E16 x) (by omega)
      have e2 := ne_f (a := E8 x) (by omega)
      have e3 := ne_f (a := F0 x) (by omega)
      refine rd_step (wsq (wsq (wrg (vQ tab rfl (vQ tab rfl (vnl (qth (vc_true rfl (vw_skip (qth (wsq (wbk (wsq (wrg (vQ tab rfl (vQ tab rfl (vQ tab rfl (vQ tab rfl (vQ tab rfl (vQ tab rfl (vQ tab rfl (vnl (qth ?_)))))))))))))))))))))))
      refine wsq (wrg (vQ tab rfl (vQ tab rfl (vQ tab rfl (vgd_op false rfl rfl rfl e0 (vQ tab rfl (vQ tab rfl (vQ tab rfl (vQ tab rfl (vnl (qth (vc_false rfl (vw_skip (q_norm (qth (wrg (vQ tab rfl (vQ tab rfl (vQ tab rfl (vnl (qth (rd_step (wsq ?_)))))))))))))))))))))))
      refine wsq (wrg (vQ tab rfl (vQ tab rfl (vnl (qth (vc_true rfl (vw_skip (qth (wsq (wbk (wsq (wrg (vQ tab rfl (vQ tab rfl (vQ tab rfl (vQ tab rfl (vQ tab rfl (vQ tab rfl (vQ tab rfl (vnl (qth (wsq (wrg ?_)))))))))))))))))))))))
      refine vQ tab rfl (vQ tab rfl (vQ tab rfl (vgd_op false rfl rfl rfl e1 (vQ tab rfl (vQ tab rfl (vQ tab rfl (vQ tab rfl (vnl (qth (vc_false rfl (vw_skip (q_norm (qth (wrg (vQ tab rfl (vQ tab rfl (vQ tab rfl (vnl (qth (rd_step (wsq (wsq (wrg ?_)))))))))))))))))))))))
      refine vQ tab rfl (vQ tab rfl (vnl (qth (vc_true rfl (vw_skip (qth (wsq (wbk (wsq (wrg (vQ tab rfl (vQ tab rfl (vQ tab rfl (vQ tab rfl (vQ tab rfl (vQ tab rfl (vQ tab rfl (vnl (qth (wsq (wrg (vQ tab rfl (vQ tab rfl ?_)))))))))))))))))))))))
      refine vQ tab rfl (vgd_op false rfl rfl rfl e2 (vQ tab rfl (vQ tab rfl (vQ tab rfl (vQ tab rfl (vnl (qth (vc_false rfl (vw_skip (q_norm (qth (wrg (vQ tab rfl (vQ tab rfl (vQ tab rfl (vnl (qth (rd_step (wsq (wsq (wrg (vQ tab rfl (vQ tab rfl ?_)))))))))))))))))))))))
      refine vnl (qth (vc_true rfl (vw_skip (qth (wsq (wbk (wsq (wrg (vQ tab rfl (vQ tab rfl (vQ tab rfl (vQ tab rfl (vQ tab rfl (vQ tab rfl (vQ tab rfl (vnl (qth (wsq (wrg (vQ tab rfl (vQ tab rfl (vQ tab rfl (vgd_op false rfl rfl rfl e3 ?_)))))))))))))))))))))))
      refine vQ tab rfl (vQ tab rfl (vQ tab rfl (vQ tab rfl (vnl (qth (vc_false rfl (vw_skip (q_norm (qth (wrg (vQ tab rfl (vQ tab rfl (vQ tab rfl (vnl (qth (rd_step (wsq (wsq (wrg (vQ tab rfl (vQ tab rfl (vnl (qth ?_)))))))))))))))))))))))
      refine vc_false rfl (vw_exit (q_thenx (q_thenx (q_here (qth (wsq (wrg (vQ tab rfl (vQ tab rfl (vQ tab rfl (vN tab rfl (vQ tab rfl (vQ tab rfl (vQ tab rfl (vQ tab rfl (vQ tab rfl (vQ tab rfl (vnl (qth (vw_ret ?_))))))))))))))))))))
      all_goals exact ⟨.inr rfl, Eq.trans (b := some (.tuple #[.string (bytesL [0] ++ ByteArray.empty), .int .i64 0])) rfl (by rw [bytesL_none])⟩
    · rw [← num_w1 x0 g g2]
      have e0 := ne_f (a := E24 x) (by omega)
      have e1 := ne_f (a := E16 x) (by omega)
      have e2 := ne_f (a := E8 x) (by omega)
      have e3 := ne_t (a := F0 x) (by omega)
      refine rd_step (wsq (wsq (wrg (vQ tab rfl (vQ tab rfl (vnl (qth (vc_true rfl (vw_skip (qth (wsq (wbk (wsq (wrg (vQ tab rfl (vQ tab rfl (vQ tab rfl (vQ tab rfl (vQ tab rfl (vQ tab rfl (vQ tab rfl (vnl (qth ?_)))))))))))))))))))))))
      refine wsq (wrg (vQ tab rfl (vQ tab rfl (vQ tab rfl (vgd_op false rfl rfl rfl e0 (vQ tab rfl (vQ tab rfl (vQ tab rfl (vQ tab rfl (vnl (qth (vc_false rfl (vw_skip (q_norm (qth (wrg (vQ tab rfl (vQ tab rfl (vQ tab rfl (vnl (qth (rd_step (wsq ?_)))))))))))))))))))))))
      refine wsq (wrg (vQ tab rfl (vQ tab rfl (vnl (qth (vc_true rfl (vw_skip (qth (wsq (wbk (wsq (wrg (vQ tab rfl (vQ tab rfl (vQ tab rfl (vQ tab rfl (vQ tab rfl (vQ tab rfl (vQ tab rfl (vnl (qth (wsq (wrg ?_)))))))))))))))))))))))
      refine vQ tab rfl (vQ tab rfl (vQ tab rfl (vgd_op false rfl rfl rfl e1 (vQ tab rfl (vQ tab rfl (vQ tab rfl (vQ tab rfl (vnl (qth (vc_false rfl (vw_skip (q_norm (qth (wrg (vQ tab rfl (vQ tab rfl (vQ tab rfl (vnl (qth (rd_step (wsq (wsq (wrg ?_)))))))))))))))))))))))
      refine vQ tab rfl (vQ tab rfl (vnl (qth (vc_true rfl (vw_skip (qth (wsq (wbk (wsq (wrg (vQ tab rfl (vQ tab rfl (vQ tab rfl (vQ tab rfl (vQ tab rfl (vQ tab rfl (vQ tab rfl (vnl (qth (wsq (wrg (vQ tab rfl (vQ tab rfl ?_)))))))))))))))))))))))
      refine vQ tab rfl (vgd_op false rfl rfl rfl e2 (vQ tab rfl (vQ tab rfl (vQ tab rfl (vQ tab rfl (vnl (qth (vc_false rfl (vw_skip (q_norm (qth (wrg (vQ tab rfl (vQ tab rfl (vQ tab rfl (vnl (qth (rd_step (wsq (wsq (wrg (vQ tab rfl (vQ tab rfl ?_)))))))))))))))))))))))
      refine vnl (qth (vc_true rfl (vw_skip (qth (wsq (wbk (wsq (wrg (vQ tab rfl (vQ tab rfl (vQ tab rfl (vQ tab rfl (vQ tab rfl (vQ tab rfl (vQ tab rfl (vnl (qth (wsq (wrg (vQ tab rfl (vQ tab rfl (vQ tab rfl (vgd_op true rfl rfl rfl e3 ?_)))))))))))))))))))))))
      refine vK rfl (vK rfl (vK rfl (vQ tab rfl (vnl (qth (vc_true rfl (wrg (vQ tab rfl (vQ tab rfl (vN tab rfl (vN tab rfl (vQ tab rfl (vnl (q_norm (qth (wrg (vQ tab rfl (vQ tab rfl (vQ tab rfl (vnl (qth (rd_step (wsq ?_)))))))))))))))))))))))
      refine wsq (wrg (vQ tab rfl (vQ tab rfl (vnl (qth (vc_false rfl (vw_exit (q_thenx (q_thenx (q_here (qth (wsq (wrg (vQ tab rfl (vQ tab rfl (vQ tab rfl (vN tab rfl (vQ tab rfl (vQ tab rfl (vQ tab rfl (vQ tab rfl (vQ tab rfl (vQ tab rfl ?_)))))))))))))))))))))))
      refine vnl (qth (vw_ret ?_))
      all_goals exact ⟨.inr rfl, Eq.trans (b := some (.tuple #[.string (bytesL [1] ++ bytesL [F0 x]), .int .i64 0])) rfl (by rw [bytesL_app, F0_eq]; rfl)⟩
    · rw [← num_w2 x0 g g2]
      have e0 := ne_f (a := E24 x) (by omega)
      have e1 := ne_f (a := E16 x) (by omega)
      have e2 := ne_t (a := E8 x) (by omega)
      refine rd_step (wsq (wsq (wrg (vQ tab rfl (vQ tab rfl (vnl (qth (vc_true rfl (vw_skip (qth (wsq (wbk (wsq (wrg (vQ tab rfl (vQ tab rfl (vQ tab rfl (vQ tab rfl (vQ tab rfl (vQ tab rfl (vQ tab rfl (vnl (qth ?_)))))))))))))))))))))))
      refine wsq (wrg (vQ tab rfl (vQ tab rfl (vQ tab rfl (vgd_op false rfl rfl rfl e0 (vQ tab rfl (vQ tab rfl (vQ tab rfl (vQ tab rfl (vnl (qth (vc_false rfl (vw_skip (q_norm (qth (wrg (vQ tab rfl (vQ tab rfl (vQ tab rfl (vnl (qth (rd_step (wsq ?_)))))))))))))))))))))))
      refine wsq (wrg (vQ tab rfl (vQ tab rfl (vnl (qth (vc_true rfl (vw_skip (qth (wsq (wbk (wsq (wrg (vQ tab rfl (vQ tab rfl (vQ tab rfl (vQ tab rfl (vQ tab rfl (vQ tab rfl (vQ tab rfl (vnl (qth (wsq (wrg ?_)))))))))))))))))))))))
      refine vQ tab rfl (vQ tab rfl (vQ tab rfl (vgd_op false rfl rfl rfl e1 (vQ tab rfl (vQ tab rfl (vQ tab rfl (vQ tab rfl (vnl (qth (vc_false rfl (vw_skip (q_norm (qth (wrg (vQ tab rfl (vQ tab rfl (vQ tab rfl (vnl (qth (rd_step (wsq (wsq (wrg ?_)))))))))))))))))))))))
      refine vQ tab rfl (vQ tab rfl (vnl (qth (vc_true rfl (vw_skip (qth (wsq (wbk (wsq (wrg (vQ tab rfl (vQ tab rfl (vQ tab rfl (vQ tab rfl (vQ tab rfl (vQ tab rfl (vQ tab rfl (vnl (qth (wsq (wrg (vQ tab rfl (vQ tab rfl ?_)))))))))))))))))))))))
      refine vQ tab rfl (vgd_op true rfl rfl rfl e2 (vK rfl (vK rfl (vK rfl (vQ tab rfl (vnl (qth (vc_true rfl (wrg (vQ tab rfl (vQ tab rfl (vN tab rfl (vN tab rfl (vQ tab rfl (vnl (q_norm (qth (wrg (vQ tab rfl (vQ tab rfl (vQ tab rfl (vnl (qth ?_)))))))))))))))))))))))
      refine rd_step (wsq (wsq (wrg (vQ tab rfl (vQ tab rfl (vnl (qth (vc_true rfl (vw_skip (qth (wsq (wbk (wsq (wrg (vQ tab rfl (vQ tab rfl (vQ tab rfl (vQ tab rfl (vQ tab rfl (vQ tab rfl (vQ tab rfl (vnl (qth ?_)))))))))))))))))))))))
      refine wsq (wrg (vQ tab rfl (vQ tab rfl (vQ tab rfl ?_))))
      refine vg_op rfl rfl rfl (fun _ => ?_) (fun _ => ?_)
      refine vQ tab rfl (vQ tab rfl (vQ tab rfl (vQ tab rfl (vnl (qth (vc_true rfl (wrg (vQ tab rfl (vQ tab rfl (vN tab rfl (vo_op rfl rfl rfl (opr_ev tab (ev_app u8R (xs := [E8 x]) (ys := [F0 x]) (m := 1) rfl rfl rfl rfl rfl rfl rfl rfl rfl (Nat.le_of_ble_eq_true rfl) (Nat.le_of_ble_eq_true rfl))) (vQ tab rfl (vnl (q_norm (qth (wrg (vQ tab rfl (vQ tab rfl (vQ tab rfl (vnl (qth (rd_step (wsq ?_)))))))))))))))))))))))
      refine wsq (wrg (vQ tab rfl (vQ tab rfl (vnl (qth (vc_false rfl (vw_exit (q_thenx (q_thenx (q_here (qth (wsq (wrg (vQ tab rfl (vQ tab rfl (vQ tab rfl (vN tab rfl (vQ tab rfl (vQ tab rfl (vQ tab rfl (vQ tab rfl (vQ tab rfl (vQ tab rfl ?_)))))))))))))))))))))))
      refine vnl (qth (vw_ret ?_))
      rotate_left
      refine vK rfl (vK rfl (vK rfl (vQ tab rfl (vnl (qth (vc_true rfl (wrg (vQ tab rfl (vQ tab rfl (vN tab rfl (vo_op rfl rfl rfl (opr_ev tab (ev_app u8R (xs := [E8 x]) (ys := [F0 x]) (m := 1) rfl rfl rfl rfl rfl rfl rfl rfl rfl (Nat.le_of_ble_eq_true rfl) (Nat.le_of_ble_eq_true rfl))) (vQ tab rfl (vnl (q_norm (qth (wrg (vQ tab rfl (vQ tab rfl (vQ tab rfl (vnl (qth (rd_step (wsq ?_)))))))))))))))))))))))
      refine wsq (wrg (vQ tab rfl (vQ tab rfl (vnl (qth (vc_false rfl (vw_exit (q_thenx (q_thenx (q_here (qth (wsq (wrg (vQ tab rfl (vQ tab rfl (vQ tab rfl (vN tab rfl (vQ tab rfl (vQ tab rfl (vQ tab rfl (vQ tab rfl (vQ tab rfl (vQ tab rfl ?_)))))))))))))))))))))))
      refine vnl (qth (vw_ret ?_))
      rotate_left
      all_goals exact ⟨.inr rfl, Eq.trans (b := some (.tuple #[.string (bytesL [2] ++ bytesL [E8 x, F0 x]), .int .i64 0])) rfl (by rw [bytesL_app, F0_eq]; rfl)⟩
    · rw [← num_w3 x0 g g2]
      have e0 := ne_f (a := E24 x) (by omega)
      have e1 := ne_t (a := E16 x) (by omega)
      refine rd_step (wsq (wsq (wrg (vQ tab rfl (vQ tab rfl (vnl (qth (vc_true rfl (vw_skip (qth (wsq (wbk (wsq (wrg (vQ tab rfl (vQ tab rfl (vQ tab rfl (vQ tab rfl (vQ tab rfl (vQ tab rfl (vQ tab rfl (vnl (qth ?_)))))))))))))))))))))))
      refine wsq (wrg (vQ tab rfl (vQ tab rfl (vQ tab rfl (vgd_op false rfl rfl rfl e0 (vQ tab rfl (vQ tab rfl (vQ tab rfl (vQ tab rfl (vnl (qth (vc_false rfl (vw_skip (q_norm (qth (wrg (vQ tab rfl (vQ tab rfl (vQ tab rfl (vnl (qth (rd_step (wsq ?_)))))))))))))))))))))))
      refine wsq (wrg (vQ tab rfl (vQ tab rfl (vnl (qth (vc_true rfl (vw_skip (qth (wsq (wbk (wsq (wrg (vQ tab rfl (vQ tab rfl (vQ tab rfl (vQ tab rfl (vQ tab rfl (vQ tab rfl (vQ tab rfl (vnl (qth (wsq (wrg ?_)))))))))))))))))))))))
      refine vQ tab rfl (vQ tab rfl (vQ tab rfl (vgd_op true rfl rfl rfl e1 (vK rfl (vK rfl (vK rfl (vQ tab rfl (vnl (qth (vc_true rfl (wrg (vQ tab rfl (vQ tab rfl (vN tab rfl (vN tab rfl (vQ tab rfl (vnl (q_norm (qth (wrg (vQ tab rfl (vQ tab rfl (vQ tab rfl ?_)))))))))))))))))))))))
      refine vnl (qth (rd_step (wsq (wsq (wrg (vQ tab rfl (vQ tab rfl (vnl (qth (vc_true rfl (vw_skip (qth (wsq (wbk (wsq (wrg (vQ tab rfl (vQ tab rfl (vQ tab rfl (vQ tab rfl (vQ tab rfl (vQ tab rfl (vQ tab rfl ?_)))))))))))))))))))))))
      refine vnl (qth (wsq (wrg (vQ tab rfl (vQ tab rfl (vQ tab rfl ?_))))))
      refine vg_op rfl rfl rfl (fun _ => ?_) (fun _ => ?_)
      refine vQ tab rfl (vQ tab rfl (vQ tab rfl (vQ tab rfl (vnl (qth (vc_true rfl (wrg (vQ tab rfl (vQ tab rfl (vN tab rfl (vo_op rfl rfl rfl (opr_ev tab (ev_app u8R (xs := [E16 x]) (ys := [E8 x]) (m := 1) rfl rfl rfl rfl rfl rfl rfl rfl rfl (Nat.le_of_ble_eq_true rfl) (Nat.le_of_ble_eq_true rfl))) (vQ tab rfl (vnl (q_norm (qth (wrg (vQ tab rfl (vQ tab rfl (vQ tab rfl (vnl (qth (rd_step (wsq ?_)))))))))))))))))))))))
      refine wsq (wrg (vQ tab rfl (vQ tab rfl (vnl (qth (vc_true rfl (vw_skip (qth (wsq (wbk (wsq (wrg (vQ tab rfl (vQ tab rfl (vQ tab rfl (vQ tab rfl (vQ tab rfl (vQ tab rfl (vQ tab rfl (vnl (qth (wsq (wrg ?_)))))))))))))))))))))))
      refine vQ tab rfl (vQ tab rfl (vQ tab rfl ?_))
      refine vg_op rfl rfl rfl (fun _ => ?_) (fun _ => ?_)
      refine vQ tab rfl (vQ tab rfl (vQ tab rfl (vQ tab rfl (vnl (qth (vc_true rfl (wrg (vQ tab rfl (vQ tab rfl (vN tab rfl (vo_op rfl rfl rfl (opr_ev tab (ev_app u8R (xs := [E16 x, E8 x]) (ys := [F0 x]) (m := 1) rfl rfl rfl rfl rfl rfl rfl rfl rfl (Nat.le_of_ble_eq_true rfl) (Nat.le_of_ble_eq_true rfl))) (vQ tab rfl (vnl (q_norm (qth (wrg (vQ tab rfl (vQ tab rfl (vQ tab rfl (vnl (qth (rd_step (wsq ?_)))))))))))))))))))))))
      refine wsq (wrg (vQ tab rfl (vQ tab rfl (vnl (qth (vc_false rfl (vw_exit (q_thenx (q_thenx (q_here (qth (wsq (wrg (vQ tab rfl (vQ tab rfl (vQ tab rfl (vN tab rfl (vQ tab rfl (vQ tab rfl (vQ tab rfl (vQ tab rfl (vQ tab rfl (vQ tab rfl ?_)))))))))))))))))))))))
      refine vnl (qth (vw_ret ?_))
      rotate_left
      refine vK rfl (vK rfl (vK rfl (vQ tab rfl (vnl (qth (vc_true rfl (wrg (vQ tab rfl (vQ tab rfl (vN tab rfl (vo_op rfl rfl rfl (opr_ev tab (ev_app u8R (xs := [E16 x, E8 x]) (ys := [F0 x]) (m := 1) rfl rfl rfl rfl rfl rfl rfl rfl rfl (Nat.le_of_ble_eq_true rfl) (Nat.le_of_ble_eq_true rfl))) (vQ tab rfl (vnl (q_norm (qth (wrg (vQ tab rfl (vQ tab rfl (vQ tab rfl (vnl (qth (rd_step (wsq ?_)))))))))))))))))))))))
      refine wsq (wrg (vQ tab rfl (vQ tab rfl (vnl (qth (vc_false rfl (vw_exit (q_thenx (q_thenx (q_here (qth (wsq (wrg (vQ tab rfl (vQ tab rfl (vQ tab rfl (vN tab rfl (vQ tab rfl (vQ tab rfl (vQ tab rfl (vQ tab rfl (vQ tab rfl (vQ tab rfl ?_)))))))))))))))))))))))
      refine vnl (qth (vw_ret ?_))
      rotate_left
      refine vK rfl (vK rfl (vK rfl (vQ tab rfl (vnl (qth (vc_true rfl (wrg (vQ tab rfl (vQ tab rfl (vN tab rfl (vo_op rfl rfl rfl (opr_ev tab (ev_app u8R (xs := [E16 x]) (ys := [E8 x]) (m := 1) rfl rfl rfl rfl rfl rfl rfl rfl rfl (Nat.le_of_ble_eq_true rfl) (Nat.le_of_ble_eq_true rfl))) (vQ tab rfl (vnl (q_norm (qth (wrg (vQ tab rfl (vQ tab rfl (vQ tab rfl (vnl (qth (rd_step (wsq ?_)))))))))))))))))))))))
      refine wsq (wrg (vQ tab rfl (vQ tab rfl (vnl (qth (vc_true rfl (vw_skip (qth (wsq (wbk (wsq (wrg (vQ tab rfl (vQ tab rfl (vQ tab rfl (vQ tab rfl (vQ tab rfl (vQ tab rfl (vQ tab rfl (vnl (qth (wsq (wrg ?_)))))))))))))))))))))))
      refine vQ tab rfl (vQ tab rfl (vQ tab rfl ?_))
      refine vg_op rfl rfl rfl (fun _ => ?_) (fun _ => ?_)
      refine vQ tab rfl (vQ tab rfl (vQ tab rfl (vQ tab rfl (vnl (qth (vc_true rfl (wrg (vQ tab rfl (vQ tab rfl (vN tab rfl (vo_op rfl rfl rfl (opr_ev tab (ev_app u8R (xs := [E16 x, E8 x]) (ys := [F0 x]) (m := 1) rfl rfl rfl rfl rfl rfl rfl rfl rfl (Nat.le_of_ble_eq_true rfl) (Nat.le_of_ble_eq_true rfl))) (vQ tab rfl (vnl (q_norm (qth (wrg (vQ tab rfl (vQ tab rfl (vQ tab rfl (vnl (qth (rd_step (wsq ?_)))))))))))))))))))))))
      refine wsq (wrg (vQ tab rfl (vQ tab rfl (vnl (qth (vc_false rfl (vw_exit (q_thenx (q_thenx (q_here (qth (wsq (wrg (vQ tab rfl (vQ tab rfl (vQ tab rfl (vN tab rfl (vQ tab rfl (vQ tab rfl (vQ tab rfl (vQ tab rfl (vQ tab rfl (vQ tab rfl ?_)))))))))))))))))))))))
      refine vnl (qth (vw_ret ?_))
      rotate_left
      refine vK rfl (vK rfl (vK rfl (vQ tab rfl (vnl (qth (vc_true rfl (wrg (vQ tab rfl (vQ tab rfl (vN tab rfl (vo_op rfl rfl rfl (opr_ev tab (ev_app u8R (xs := [E16 x, E8 x]) (ys := [F0 x]) (m := 1) rfl rfl rfl rfl rfl rfl rfl rfl rfl (Nat.le_of_ble_eq_true rfl) (Nat.le_of_ble_eq_true rfl))) (vQ tab rfl (vnl (q_norm (qth (wrg (vQ tab rfl (vQ tab rfl (vQ tab rfl (vnl (qth (rd_step (wsq ?_)))))))))))))))))))))))
      refine wsq (wrg (vQ tab rfl (vQ tab rfl (vnl (qth (vc_false rfl (vw_exit (q_thenx (q_thenx (q_here (qth (wsq (wrg (vQ tab rfl (vQ tab rfl (vQ tab rfl (vN tab rfl (vQ tab rfl (vQ tab rfl (vQ tab rfl (vQ tab rfl (vQ tab rfl (vQ tab rfl ?_)))))))))))))))))))))))
      refine vnl (qth (vw_ret ?_))
      rotate_left
      all_goals exact ⟨.inr rfl, Eq.trans (b := some (.tuple #[.string (bytesL [3] ++ bytesL [E16 x, E8 x, F0 x]), .int .i64 0])) rfl (by rw [bytesL_app, F0_eq]; rfl)⟩
    · rw [← num_w4 x0 g]
      have e0 := ne_t (a := E24 x) (by omega)
      refine rd_step (wsq (wsq (wrg (vQ tab rfl (vQ tab rfl (vnl (qth (vc_true rfl (vw_skip (qth (wsq (wbk (wsq (wrg (vQ tab rfl (vQ tab rfl (vQ tab rfl (vQ tab rfl (vQ tab rfl (vQ tab rfl (vQ tab rfl (vnl (qth ?_)))))))))))))))))))))))
      refine wsq (wrg (vQ tab rfl (vQ tab rfl (vQ tab rfl (vgd_op true rfl rfl rfl e0 (vK rfl (vK rfl (vK rfl (vQ tab rfl (vnl (qth (vc_true rfl (wrg (vQ tab rfl (vQ tab rfl (vN tab rfl (vN tab rfl (vQ tab rfl (vnl (q_norm (qth (wrg (vQ tab rfl ?_)))))))))))))))))))))))
      refine vQ tab rfl (vQ tab rfl (vnl (qth (rd_step (wsq (wsq (wrg (vQ tab rfl (vQ tab rfl (vnl (qth (vc_true rfl (vw_skip (qth (wsq (wbk (wsq (wrg (vQ tab rfl (vQ tab rfl (vQ tab rfl (vQ tab rfl (vQ tab rfl ?_)))))))))))))))))))))))
      refine vQ tab rfl (vQ tab rfl (vnl (qth (wsq (wrg (vQ tab rfl (vQ tab rfl (vQ tab rfl ?_))))))))
      refine vg_op rfl rfl rfl (fun _ => ?_) (fun _ => ?_)
      refine vQ tab rfl (vQ tab rfl (vQ tab rfl (vQ tab rfl (vnl (qth (vc_true rfl (wrg (vQ tab rfl (vQ tab rfl (vN tab rfl (vo_op rfl rfl rfl (opr_ev tab (ev_app u8R (xs := [E24 x]) (ys := [E16 x]) (m := 1) rfl rfl rfl rfl rfl rfl rfl rfl rfl (Nat.le_of_ble_eq_true rfl) (Nat.le_of_ble_eq_true rfl))) (vQ tab rfl (vnl (q_norm (qth (wrg (vQ tab rfl (vQ tab rfl (vQ tab rfl (vnl (qth (rd_step (wsq ?_)))))))))))))))))))))))
      refine wsq (wrg (vQ tab rfl (vQ tab rfl (vnl (qth (vc_true rfl (vw_skip (qth (wsq (wbk (wsq (wrg (vQ tab rfl (vQ tab rfl (vQ tab rfl (vQ tab rfl (vQ tab rfl (vQ tab rfl (vQ tab rfl (vnl (qth (wsq (wrg ?_)))))))))))))))))))))))
      refine vQ tab rfl (vQ tab rfl (vQ tab rfl ?_))
      refine vg_op rfl rfl rfl (fun _ => ?_) (fun _ => ?_)
      refine vQ tab rfl (vQ tab rfl (vQ tab rfl (vQ tab rfl (vnl (qth (vc_true rfl (wrg (vQ tab rfl (vQ tab rfl (vN tab rfl (vo_op rfl rfl rfl (opr_ev tab (ev_app u8R (xs := [E24 x, E16 x]) (ys := [E8 x]) (m := 1) rfl rfl rfl rfl rfl rfl rfl rfl rfl (Nat.le_of_ble_eq_true rfl) (Nat.le_of_ble_eq_true rfl))) (vQ tab rfl (vnl (q_norm (qth (wrg (vQ tab rfl (vQ tab rfl (vQ tab rfl (vnl (qth (rd_step (wsq ?_)))))))))))))))))))))))
      refine wsq (wrg (vQ tab rfl (vQ tab rfl (vnl (qth (vc_true rfl (vw_skip (qth (wsq (wbk (wsq (wrg (vQ tab rfl (vQ tab rfl (vQ tab rfl (vQ tab rfl (vQ tab rfl (vQ tab rfl (vQ tab rfl (vnl (qth (wsq (wrg ?_)))))))))))))))))))))))
      refine vQ tab rfl (vQ tab rfl (vQ tab rfl ?_))
      refine vg_op rfl rfl rfl (fun _ => ?_) (fun _ => ?_)
      refine vQ tab rfl (vQ tab rfl (vQ tab rfl (vQ tab rfl (vnl (qth (vc_true rfl (wrg (vQ tab rfl (vQ tab rfl (vN tab rfl (vo_op rfl rfl rfl (opr_ev tab (ev_app u8R (xs := [E24 x, E16 x, E8 x]) (ys := [F0 x]) (m := 1) rfl rfl rfl rfl rfl rfl rfl rfl rfl (Nat.le_of_ble_eq_true rfl) (Nat.le_of_ble_eq_true rfl))) (vQ tab rfl (vnl (q_norm (qth (wrg (vQ tab rfl (vQ tab rfl (vQ tab rfl (vnl (qth (rd_step (wsq ?_)))))))))))))))))))))))
      refine wsq (wrg (vQ tab rfl (vQ tab rfl (vnl (qth (vc_false rfl (vw_exit (q_thenx (q_thenx (q_here (qth (wsq (wrg (vQ tab rfl (vQ tab rfl (vQ tab rfl (vN tab rfl (vQ tab rfl (vQ tab rfl (vQ tab rfl (vQ tab rfl (vQ tab rfl (vQ tab rfl ?_)))))))))))))))))))))))
      refine vnl (qth (vw_ret ?_))
      rotate_left
      refine vK rfl (vK rfl (vK rfl (vQ tab rfl (vnl (qth (vc_true rfl (wrg (vQ tab rfl (vQ tab rfl (vN tab rfl (vo_op rfl rfl rfl (opr_ev tab (ev_app u8R (xs := [E24 x, E16 x, E8 x]) (ys := [F0 x]) (m := 1) rfl rfl rfl rfl rfl rfl rfl rfl rfl (Nat.le_of_ble_eq_true rfl) (Nat.le_of_ble_eq_true rfl))) (vQ tab rfl (vnl (q_norm (qth (wrg (vQ tab rfl (vQ tab rfl (vQ tab rfl (vnl (qth (rd_step (wsq ?_)))))))))))))))))))))))
      refine wsq (wrg (vQ tab rfl (vQ tab rfl (vnl (qth (vc_false rfl (vw_exit (q_thenx (q_thenx (q_here (qth (wsq (wrg (vQ tab rfl (vQ tab rfl (vQ tab rfl (vN tab rfl (vQ tab rfl (vQ tab rfl (vQ tab rfl (vQ tab rfl (vQ tab rfl (vQ tab rfl ?_)))))))))))))))))))))))
      refine vnl (qth (vw_ret ?_))
      rotate_left
      refine vK rfl (vK rfl (vK rfl (vQ tab rfl (vnl (qth (vc_true rfl (wrg (vQ tab rfl (vQ tab rfl (vN tab rfl (vo_op rfl rfl rfl (opr_ev tab (ev_app u8R (xs := [E24 x, E16 x]) (ys := [E8 x]) (m := 1) rfl rfl rfl rfl rfl rfl rfl rfl rfl (Nat.le_of_ble_eq_true rfl) (Nat.le_of_ble_eq_true rfl))) (vQ tab rfl (vnl (q_norm (qth (wrg (vQ tab rfl (vQ tab rfl (vQ tab rfl (vnl (qth (rd_step (wsq ?_)))))))))))))))))))))))
      refine wsq (wrg (vQ tab rfl (vQ tab rfl (vnl (qth (vc_true rfl (vw_skip (qth (wsq (wbk (wsq (wrg (vQ tab rfl (vQ tab rfl (vQ tab rfl (vQ tab rfl (vQ tab rfl (vQ tab rfl (vQ tab rfl (vnl (qth (wsq (wrg ?_)))))))))))))))))))))))
      refine vQ tab rfl (vQ tab rfl (vQ tab rfl ?_))
      refine vg_op rfl rfl rfl (fun _ => ?_) (fun _ => ?_)
      refine vQ tab rfl (vQ tab rfl (vQ tab rfl (vQ tab rfl (vnl (qth (vc_true rfl (wrg (vQ tab rfl (vQ tab rfl (vN tab rfl (vo_op rfl rfl rfl (opr_ev tab (ev_app u8R (xs := [E24 x, E16 x, E8 x]) (ys := [F0 x]) (m := 1) rfl rfl rfl rfl rfl rfl rfl rfl rfl (Nat.le_of_ble_eq_true rfl) (Nat.le_of_ble_eq_true rfl))) (vQ tab rfl (vnl (q_norm (qth (wrg (vQ tab rfl (vQ tab rfl (vQ tab rfl (vnl (qth (rd_step (wsq ?_)))))))))))))))))))))))
      refine wsq (wrg (vQ tab rfl (vQ tab rfl (vnl (qth (vc_false rfl (vw_exit (q_thenx (q_thenx (q_here (qth (wsq (wrg (vQ tab rfl (vQ tab rfl (vQ tab rfl (vN tab rfl (vQ tab rfl (vQ tab rfl (vQ tab rfl (vQ tab rfl (vQ tab rfl (vQ tab rfl ?_)))))))))))))))))))))))
      refine vnl (qth (vw_ret ?_))
      rotate_left
      refine vK rfl (vK rfl (vK rfl (vQ tab rfl (vnl (qth (vc_true rfl (wrg (vQ tab rfl (vQ tab rfl (vN tab rfl (vo_op rfl rfl rfl (opr_ev tab (ev_app u8R (xs := [E24 x, E16 x, E8 x]) (ys := [F0 x]) (m := 1) rfl rfl rfl rfl rfl rfl rfl rfl rfl (Nat.le_of_ble_eq_true rfl) (Nat.le_of_ble_eq_true rfl))) (vQ tab rfl (vnl (q_norm (qth (wrg (vQ tab rfl (vQ tab rfl (vQ tab rfl (vnl (qth (rd_step (wsq ?_)))))))))))))))))))))))
      refine wsq (wrg (vQ tab rfl (vQ tab rfl (vnl (qth (vc_false rfl (vw_exit (q_thenx (q_thenx (q_here (qth (wsq (wrg (vQ tab rfl (vQ tab rfl (vQ tab rfl (vN tab rfl (vQ tab rfl (vQ tab rfl (vQ tab rfl (vQ tab rfl (vQ tab rfl (vQ tab rfl ?_)))))))))))))))))))))))
      refine vnl (qth (vw_ret ?_))
      rotate_left
      refine vK rfl (vK rfl (vK rfl (vQ tab rfl (vnl (qth (vc_true rfl (wrg (vQ tab rfl (vQ tab rfl (vN tab rfl (vo_op rfl rfl rfl (opr_ev tab (ev_app u8R (xs := [E24 x]) (ys := [E16 x]) (m := 1) rfl rfl rfl rfl rfl rfl rfl rfl rfl (Nat.le_of_ble_eq_true rfl) (Nat.le_of_ble_eq_true rfl))) (vQ tab rfl (vnl (q_norm (qth (wrg (vQ tab rfl (vQ tab rfl (vQ tab rfl (vnl (qth (rd_step (wsq ?_)))))))))))))))))))))))
      refine wsq (wrg (vQ tab rfl (vQ tab rfl (vnl (qth (vc_true rfl (vw_skip (qth (wsq (wbk (wsq (wrg (vQ tab rfl (vQ tab rfl (vQ tab rfl (vQ tab rfl (vQ tab rfl (vQ tab rfl (vQ tab rfl (vnl (qth (wsq (wrg ?_)))))))))))))))))))))))
      refine vQ tab rfl (vQ tab rfl (vQ tab rfl ?_))
      refine vg_op rfl rfl rfl (fun _ => ?_) (fun _ => ?_)
      refine vQ tab rfl (vQ tab rfl (vQ tab rfl (vQ tab rfl (vnl (qth (vc_true rfl (wrg (vQ tab rfl (vQ tab rfl (vN tab rfl (vo_op rfl rfl rfl (opr_ev tab (ev_app u8R (xs := [E24 x, E16 x]) (ys := [E8 x]) (m := 1) rfl rfl rfl rfl rfl rfl rfl rfl rfl (Nat.le_of_ble_eq_true rfl) (Nat.le_of_ble_eq_true rfl))) (vQ tab rfl (vnl (q_norm (qth (wrg (vQ tab rfl (vQ tab rfl (vQ tab rfl (vnl (qth (rd_step (wsq ?_)))))))))))))))))))))))
      refine wsq (wrg (vQ tab rfl (vQ tab rfl (vnl (qth (vc_true rfl (vw_skip (qth (wsq (wbk (wsq (wrg (vQ tab rfl (vQ tab rfl (vQ tab rfl (vQ tab rfl (vQ tab rfl (vQ tab rfl (vQ tab rfl (vnl (qth (wsq (wrg ?_)))))))))))))))))))))))
      refine vQ tab rfl (vQ tab rfl (vQ tab rfl ?_))
      refine vg_op rfl rfl rfl (fun _ => ?_) (fun _ => ?_)
      refine vQ tab rfl (vQ tab rfl (vQ tab rfl (vQ tab rfl (vnl (qth (vc_true rfl (wrg (vQ tab rfl (vQ tab rfl (vN tab rfl (vo_op rfl rfl rfl (opr_ev tab (ev_app u8R (xs := [E24 x, E16 x, E8 x]) (ys := [F0 x]) (m := 1) rfl rfl rfl rfl rfl rfl rfl rfl rfl (Nat.le_of_ble_eq_true rfl) (Nat.le_of_ble_eq_true rfl))) (vQ tab rfl (vnl (q_norm (qth (wrg (vQ tab rfl (vQ tab rfl (vQ tab rfl (vnl (qth (rd_step (wsq ?_)))))))))))))))))))))))
      refine wsq (wrg (vQ tab rfl (vQ tab rfl (vnl (qth (vc_false rfl (vw_exit (q_thenx (q_thenx (q_here (qth (wsq (wrg (vQ tab rfl (vQ tab rfl (vQ tab rfl (vN tab rfl (vQ tab rfl (vQ tab rfl (vQ tab rfl (vQ tab rfl (vQ tab rfl (vQ tab rfl ?_)))))))))))))))))))))))
      refine vnl (qth (vw_ret ?_))
      rotate_left
      refine vK rfl (vK rfl (vK rfl (vQ tab rfl (vnl (qth (vc_true rfl (wrg (vQ tab rfl (vQ tab rfl (vN tab rfl (vo_op rfl rfl rfl (opr_ev tab (ev_app u8R (xs := [E24 x, E16 x, E8 x]) (ys := [F0 x]) (m := 1) rfl rfl rfl rfl rfl rfl rfl rfl rfl (Nat.le_of_ble_eq_true rfl) (Nat.le_of_ble_eq_true rfl))) (vQ tab rfl (vnl (q_norm (qth (wrg (vQ tab rfl (vQ tab rfl (vQ tab rfl (vnl (qth (rd_step (wsq ?_)))))))))))))))))))))))
      refine wsq (wrg (vQ tab rfl (vQ tab rfl (vnl (qth (vc_false rfl (vw_exit (q_thenx (q_thenx (q_here (qth (wsq (wrg (vQ tab rfl (vQ tab rfl (vQ tab rfl (vN tab rfl (vQ tab rfl (vQ tab rfl (vQ tab rfl (vQ tab rfl (vQ tab rfl (vQ tab rfl ?_)))))))))))))))))))))))
      refine vnl (qth (vw_ret ?_))
      rotate_left
      refine vK rfl (vK rfl (vK rfl (vQ tab rfl (vnl (qth (vc_true rfl (wrg (vQ tab rfl (vQ tab rfl (vN tab rfl (vo_op rfl rfl rfl (opr_ev tab (ev_app u8R (xs := [E24 x, E16 x]) (ys := [E8 x]) (m := 1) rfl rfl rfl rfl rfl rfl rfl rfl rfl (Nat.le_of_ble_eq_true rfl) (Nat.le_of_ble_eq_true rfl))) (vQ tab rfl (vnl (q_norm (qth (wrg (vQ tab rfl (vQ tab rfl (vQ tab rfl (vnl (qth (rd_step (wsq ?_)))))))))))))))))))))))
      refine wsq (wrg (vQ tab rfl (vQ tab rfl (vnl (qth (vc_true rfl (vw_skip (qth (wsq (wbk (wsq (wrg (vQ tab rfl (vQ tab rfl (vQ tab rfl (vQ tab rfl (vQ tab rfl (vQ tab rfl (vQ tab rfl (vnl (qth (wsq (wrg ?_)))))))))))))))))))))))
      refine vQ tab rfl (vQ tab rfl (vQ tab rfl ?_))
      refine vg_op rfl rfl rfl (fun _ => ?_) (fun _ => ?_)
      refine vQ tab rfl (vQ tab rfl (vQ tab rfl (vQ tab rfl (vnl (qth (vc_true rfl (wrg (vQ tab rfl (vQ tab rfl (vN tab rfl (vo_op rfl rfl rfl (opr_ev tab (ev_app u8R (xs := [E24 x, E16 x, E8 x]) (ys := [F0 x]) (m := 1) rfl rfl rfl rfl rfl rfl rfl rfl rfl (Nat.le_of_ble_eq_true rfl) (Nat.le_of_ble_eq_true rfl))) (vQ tab rfl (vnl (q_norm (qth (wrg (vQ tab rfl (vQ tab rfl (vQ tab rfl (vnl (qth (rd_step (wsq ?_)))))))))))))))))))))))
      refine wsq (wrg (vQ tab rfl (vQ tab rfl (vnl (qth (vc_false rfl (vw_exit (q_thenx (q_thenx (q_here (qth (wsq (wrg (vQ tab rfl (vQ tab rfl (vQ tab rfl (vN tab rfl (vQ tab rfl (vQ tab rfl (vQ tab rfl (vQ tab rfl (vQ tab rfl (vQ tab rfl ?_)))))))))))))))))))))))
      refine vnl (qth (vw_ret ?_))
      rotate_left
      refine vK rfl (vK rfl (vK rfl (vQ tab rfl (vnl (qth (vc_true rfl (wrg (vQ tab rfl (vQ tab rfl (vN tab rfl (vo_op rfl rfl rfl (opr_ev tab (ev_app u8R (xs := [E24 x, E16 x, E8 x]) (ys := [F0 x]) (m := 1) rfl rfl rfl rfl rfl rfl rfl rfl rfl (Nat.le_of_ble_eq_true rfl) (Nat.le_of_ble_eq_true rfl))) (vQ tab rfl (vnl (q_norm (qth (wrg (vQ tab rfl (vQ tab rfl (vQ tab rfl (vnl (qth (rd_step (wsq ?_)))))))))))))))))))))))
      refine wsq (wrg (vQ tab rfl (vQ tab rfl (vnl (qth (vc_false rfl (vw_exit (q_thenx (q_thenx (q_here (qth (wsq (wrg (vQ tab rfl (vQ tab rfl (vQ tab rfl (vN tab rfl (vQ tab rfl (vQ tab rfl (vQ tab rfl (vQ tab rfl (vQ tab rfl (vQ tab rfl ?_)))))))))))))))))))))))
      refine vnl (qth (vw_ret ?_))
      rotate_left
      all_goals exact ⟨.inr rfl, Eq.trans (b := some (.tuple #[.string (bytesL [4] ++ bytesL [E24 x, E16 x, E8 x, F0 x]), .int .i64 0])) rfl (by rw [bytesL_app, F0_eq]; rfl)⟩
def numsB (l : List Int) : ByteArray := l.foldl (fun s x => s ++ (numR x).1) ⟨#[]⟩
theorem numsB_snoc (l : List Int) (x : Int) : numsB (l ++ [x]) = numsB l ++ (numR x).1 := by unfold numsB; rw [List.foldl_append]; rfl
theorem numsB_next {l : List Int} {j : Nat} {x : Int} (h : l[j]? = some x) : numsB (l.take (j + 1)) = numsB (l.take j) ++ (numR x).1 := by
  rw [List.take_add_one, h]; exact numsB_snoc _ _
theorem numsB_size (l : List Int) : ∀ j, j ≤ l.length → (numsB (l.take j)).size ≤ 5 * j
  | 0, _ => by simp [numsB]; rfl
  | j + 1, h => by
    have hx : l[j]? = some l[j] := by simp
    rw [numsB_next hx, ByteArray.size_append]
    have := numsB_size l j (by omega)
    have := numR_size l[j]
    omega
set_option maxHeartbeats 4000000 in
theorem nums_tri {V : Heap} {n : Nat} {sv : Value} {xs : List Int} (hl : Looks V 1 sv ((intR .i64).cells xs) xs.length) (hx : xs.length ≤ 1000) :
    Tri Tryd.prog 23 [sv] n 0 V (fun u L => u = .string (numsB xs) ∧ L = []) := by
  refine reads_of_vw (K := 1) (argsI := [.slice (some ⟨0, 0, none⟩) xs.length 0]) tab Tryd.func23 rfl rfl (by simp [Tryd.f23]) [.look sv xs.length 1] [.win ((intR .i64).cells xs) 1] rfl (.look hl ((intR .i64).flat_cells xs) .nil) (by simp [ownNames]) (by simp [ownNames, lookNames]) (al_cons (.look (a := 0) rfl) al_nil) (seen_of (sn_look (seen_top (j := 0) rfl) sn_nil)) (.string _) ?_
  refine wsq (wrg (vQ tab rfl (vnl (qth (wsq (wrg (vQ tab rfl (vnl (qth (wsq (wsq (wrg (vQ tab rfl (vnl (qth (wbk ?_))))))))))))))))
  refine vw_loop_env (fun k env => ∃ j : Int, 0 ≤ j ∧ j ≤ xs.length ∧ k = (xs.length - j).toNat ∧
      env = [(0, .slice (some ⟨0, 0, none⟩) xs.length 0), (3, .string (numsB (xs.take j.toNat))), (4, .int .i64 j)]) (xs.length - 0)
    ⟨_, se_cons rfl (se_cons rfl (se_cons rfl se_nil)), 0, by omega, by omega, by simp, rfl⟩ ?_
  rintro k env ⟨j, h0, h1, rfl, rfl⟩
  by_cases hj : j < (xs.length : Int)
  case neg =>
    refine wsq (wsq (wrg (vQ tab rfl (vQ tab rfl (vQ tab rfl (vQ tab rfl (vnl (qth (vcd_false rfl (by simp only [decide_eq_true_eq, decide_eq_false_iff_not, Bool.not_eq_eq_eq_not, Bool.not_true, Bool.not_false, bne_iff_ne, bne_eq_false_iff_eq, beq_iff_eq, beq_eq_false_iff_ne, ne_eq, beq_self_eq_true, bne_self_eq_false, Bool.and_eq_true, Bool.and_eq_false_iff, Bool.or_eq_true, Bool.or_eq_false_iff, and_self, and_true, true_and, Bool.false_eq_true, Bool.true_eq_false, not_false_eq_true, not_true_eq_false]; first | done | omega) ?_)))))))))
    refine vw_exit (q_thenx (q_thenx (q_here (qth (wsq (wrg (vQ tab rfl (vQ tab rfl (vnl (qth (vw_ret ?_)))))))))))
    rw [show j.toNat = xs.length by omega, List.take_length]
    exact ⟨⟨.inr rfl, rfl⟩, trivial⟩
  obtain ⟨a, ha⟩ := get_some h0 hj
  have hi : IntKind.i64.wrap (j + 1) = j + 1 := i64_in _ (by omega)
  have hjn : (j + 1).toNat = j.toNat + 1 := by omega
  have hs := numsB_size xs j.toNat (by omega)
  have hr := numR_size a
  have hst : ∀ (env : List (Nat × Value)) (t : Nat), lkp env t = some (.string (numsB (xs.take j.toNat) ++ (numR a).1)) → lkp env t = some (.string (numsB (xs.take (j + 1).toNat))) := fun env t h => by rw [h, hjn, numsB_next ha]
  refine wsq (wsq (wrg (vQ tab rfl (vQ tab rfl (vQ tab rfl (vQ tab rfl (vnl (qth (vcd_true rfl (by simp only [hi, decide_eq_true_eq, decide_eq_false_iff_not, Bool.not_eq_eq_eq_not, Bool.not_true, Bool.not_false, bne_iff_ne, bne_eq_false_iff_eq, beq_iff_eq, beq_eq_false_iff_ne, ne_eq, beq_self_eq_true, bne_self_eq_false, Bool.and_eq_true, Bool.and_eq_false_iff, Bool.or_eq_true, Bool.or_eq_false_iff, and_self, and_true, true_and, Bool.false_eq_true, Bool.true_eq_false, not_false_eq_true, not_true_eq_false]; first | done | omega) ?_)))))))))
  refine vw_skip (qth (wsq (wbk (wsq (wrg (vQ tab rfl (vQ tab rfl (vq_op tab rfl rfl rfl (ev_index rfl rfl rfl rfl rfl (by omega) (by omega)) ?_))))))))
  refine vq_op tab rfl rfl rfl (ev_val (intR .i64) rfl rfl rfl rfl rfl ha rfl) (vF rfl callable_9 (refNum_fun _) (vQ tab rfl (vQ tab rfl (vQ tab rfl (vQ tab rfl (vQ tab rfl (vnl (qth (wrg (vQ tab rfl (vQ tab rfl (vq_op tab rfl rfl rfl (cat_ev rfl rfl (by omega)) ?_))))))))))))
  refine vQ tab rfl (vnl (q_norm (qth (wrg (vQ tab rfl (vQ tab rfl (vQ tab rfl (vnl (qth ?_)))))))))
  exact ⟨rfl, rfl, (xs.length - (j + 1)).toNat, _, by omega, se_cons rfl (se_cons (hst _ _ rfl) (se_cons (se_int rfl hi) se_nil)), j + 1, by omega, by omega, rfl, rfl⟩
end Go.Proofs.YtkfkdhjelncfhaaDoor
