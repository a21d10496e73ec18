/- Law 24: ClientAgree. -/
import Derived.Test.YtjkidjplbddmmaaVg1
import Derived.Test.YtjkidjplbddmmaaCb0
namespace Go.Proofs.Ytjkidjplbddmmaa
open Go Vm IntWalk
set_option linter.unusedVariables false
set_option linter.unusedSimpArgs false
set_option maxHeartbeats 64000000 in
theorem ClientAgree_law (key other : Int) (xs : List Int) (hb : xs.length * 8 ≤ 140737488351232) :
    Tri Try.prog 4 [.int .i64 key, .int .i64 other, .slice (some ⟨0, 0, none⟩) xs.length 0] 1 0 (lkp (oHeap 0 (wObjs [((intR .i64).cells xs, 1)]))) (fun u L => u = .bool true ∧ L = []) := by
  refine law_of_vw tab Try.func4 rfl rfl (by simp [Try.f4]) 1 [((intR .i64).cells xs, 1)] rfl (by intro x hx; simp only [List.mem_cons, List.not_mem_nil, or_false] at hx; rcases hx with rfl; exact (intR .i64).flat_cells xs)
    (lrel_cons (.int _ _) (lrel_cons (.int _ _) (lrel_cons (rel_slice rfl rfl) lrel_nil))) (.bool _) ?_
  refine wsq (wrg (vQ tab rfl (vnl (qth (wsq (wsq (wrg (vF rfl callable_13 (client_awake) (vQ tab rfl (vnl (qth (vc_false rfl (vw_skip (qth (wsq (wrg (vT rfl callable_14 (twin_ok (most := 999) (by unfold badNew; omega)) ?_)))))))))))))))))
  refine vQ tab rfl (vQ tab rfl (vQ tab rfl (vQ tab rfl (vQ tab rfl (vnl (qth (wsq (wsq (wrg (vQ tab rfl (vQ tab rfl (vnl (qth (vc_false rfl (vw_skip (qth (wsq (wrg (vQ tab rfl (vnl (qth (wsq (wrg ?_)))))))))))))))))))))))
  refine vQ tab rfl (vnl (qth (wsq (wsq (wrg (vQ tab rfl (vnl (qth (wbk ?_)))))))))
  refine vw_loop_sub (fun k s => ∃ (i : Int) (l : List ByteArray) (ks : List Int) (ws : List BodyV), 0 ≤ i ∧ i ≤ xs.length ∧ i ≤ 20 ∧ l.Nodup ∧ (l.length : Int) ≤ 3 * i ∧ (ks.length : Int) ≤ i ∧ ks.length = ws.length ∧ (∀ (j : Nat) (y : Int) (w : BodyV), ks[j]? = some y → ws[j]? = some w → AgOk l y w) ∧ k = (xs.length - i).toNat ∧
      s = ⟨[(0, .int .i64 key), (1, .int .i64 other), (2, .slice (some ⟨0, 0, none⟩) xs.length 0), (7, .pointer (some ⟨1, 0, none⟩)), (9, .slice (some ⟨4, 0, none⟩) ks.length 0), (10, .slice (some ⟨5, 0, none⟩) ws.length 0), (11, .int .i64 i)],
        lkp [(0, .win ((intR .i64).cells xs) 1), (1, bookC 999 2 l.length 3), (2, .opn (strR.cells l) 9 1), (3, .map (ents 0 l) l.length), (4, .opn ((intR .i64).cells ks) 3 1), (5, .opn (bodyR.cells ws) 45 5)], 6⟩) xs.length
    ⟨_, (sub_of (g := 1) [1, 2, 3, NIL, NIL] (by decide) (by decide) (by repeat' first | exact ep_nil | exact ov_book (rel_slice rfl rfl) (rel_map rfl) | exact ov_ents rfl rfl | refine ep_cons rfl ?_ ?_ | exact .int _ _ | exact .bool _ | exact .string _ | exact rel_slice rfl rfl | exact rel_nil rfl rfl | exact rel_ptr rfl | exact .nilPtr | exact .nilIface | exact .nilSlice) (by repeat' first | exact hp_nil | exact ov_book (rel_slice rfl rfl) (rel_map rfl) | exact ov_ents rfl rfl | refine hp_cons rfl rfl ?_ ?_ | refine hp_void rfl rfl ?_ | exact ov_win _ | exact ov_opn _ rfl | exact ov_cells _ _ (by decide))), 0, [], [], [], by omega, by omega, by omega, by simp, by simp, by simp, rfl, by simp, by simp, rfl⟩ ?_
  rintro k s ⟨i, l, ks, ws, g0, g1, g2, hn, hl, hp, hw, hf, rfl, rfl⟩
  have hi : IntKind.i64.wrap (i + 1) = i + 1 := i64_in _ (by omega)
  by_cases hx : i < (xs.length : Int)
  case neg =>
    refine wsq (wsq (wrg (vQ tab rfl (vQ tab rfl (vQ tab rfl (vQ tab rfl (vQ tab rfl (vgd_op false rfl rfl rfl (by simp only [decide_eq_true_eq, decide_eq_false_iff_not, Bool.not_eq_eq_eq_not, Bool.not_true, Bool.not_false, bne_iff_ne, bne_eq_false_iff_eq, beq_iff_eq, beq_eq_false_iff_ne, ne_eq, beq_self_eq_true, bne_self_eq_false, Bool.and_eq_true, Bool.and_eq_false_iff, Bool.or_eq_true, Bool.or_eq_false_iff, and_self, and_true, true_and, Bool.false_eq_true, Bool.true_eq_false, not_false_eq_true, not_true_eq_false]; first | done | omega) ?_))))))))
    refine vK rfl (vK rfl (vQ tab rfl (vnl (qth (vc_false rfl (vw_exit (q_thenx (q_thenx (q_here (qth (wsq (wrg (vQ tab rfl (vnl (qth (vw_ret ?_))))))))))))))))
    exact ⟨.inr rfl, rfl⟩
  by_cases h12 : i < 20
  case neg =>
    refine wsq (wsq (wrg (vQ tab rfl (vQ tab rfl (vQ tab rfl (vQ tab rfl (vQ tab rfl (vgd_op true rfl rfl rfl (by simp only [decide_eq_true_eq, decide_eq_false_iff_not, Bool.not_eq_eq_eq_not, Bool.not_true, Bool.not_false, bne_iff_ne, bne_eq_false_iff_eq, beq_iff_eq, beq_eq_false_iff_ne, ne_eq, beq_self_eq_true, bne_self_eq_false, Bool.and_eq_true, Bool.and_eq_false_iff, Bool.or_eq_true, Bool.or_eq_false_iff, and_self, and_true, true_and, Bool.false_eq_true, Bool.true_eq_false, not_false_eq_true, not_true_eq_false]; first | done | omega) ?_))))))))
    refine vQ tab rfl (vQ tab rfl (vQ tab rfl (vnl (qth (vcd_false rfl (by simp only [decide_eq_true_eq, decide_eq_false_iff_not, Bool.not_eq_eq_eq_not, Bool.not_true, Bool.not_false, bne_iff_ne, bne_eq_false_iff_eq, beq_iff_eq, beq_eq_false_iff_ne, ne_eq, beq_self_eq_true, bne_self_eq_false, Bool.and_eq_true, Bool.and_eq_false_iff, Bool.or_eq_true, Bool.or_eq_false_iff, and_self, and_true, true_and, Bool.false_eq_true, Bool.true_eq_false, not_false_eq_true, not_true_eq_false]; first | done | omega) ?_)))))
    refine vw_exit (q_thenx (q_thenx (q_here (qth (wsq (wrg (vQ tab rfl (vnl (qth (vw_ret ?_))))))))))
    exact ⟨.inr rfl, rfl⟩
  obtain ⟨x, hx1⟩ := get_some g0 hx
  obtain ⟨U, hU⟩ : ∃ U, U = bits .and .i64 (x.fdiv (2 ^ (min (1 : Int).toNat IntKind.i64.bits))) 3 := ⟨_, rfl⟩
  obtain ⟨G, hG⟩ : ∃ G, G = bits .and .i64 (x.fdiv (2 ^ (min (3 : Int).toNat IntKind.i64.bits))) 3 := ⟨_, rfl⟩
  obtain ⟨E, hE⟩ : ∃ E, E = bits .and .i64 (x.fdiv (2 ^ (min (5 : Int).toNat IntKind.i64.bits))) 3 := ⟨_, rfl⟩
  have oU : okN U = true := by rw [okN_iff, hU, and3]; omega
  have oG : okN G = true := by rw [okN_iff, hG, and3]; omega
  have oE : okN E = true := by rw [okN_iff, hE, and3]; omega
  have oi : okN i = true := by rw [okN_iff]; omega
  have ii : (i == i) = true := by simp
  have hl16 : (l.length : Int) ≤ 65536 := by omega
  cases hb1 : (bits .and .i64 x 1 == 1) with
  | false =>
    obtain ⟨K, hK⟩ : ∃ K, K = bits .and .i64 key 1073741823 := ⟨_, rfl⟩
    have oK : okN K = true := by rw [okN_iff, hK, andmax]; omega
    obtain ⟨a, y, c, l', e1, hay, p2, p3, p4, p5⟩ := proof_places oK oU oG oE oi (by omega) hn
    rw [hK, hU, hG, hE] at e1
    refine wsq (wsq (wrg (vQ tab rfl (vQ tab rfl (vQ tab rfl (vQ tab rfl (vQ tab rfl (vgd_op true rfl rfl rfl (by simp only [hb1, hay, ii, decide_eq_true_eq, decide_eq_false_iff_not, Bool.not_eq_eq_eq_not, Bool.not_true, Bool.not_false, bne_iff_ne, bne_eq_false_iff_eq, beq_iff_eq, beq_eq_false_iff_ne, ne_eq, beq_self_eq_true, bne_self_eq_false, Bool.and_eq_true, Bool.and_eq_false_iff, Bool.or_eq_true, Bool.or_eq_false_iff, and_self, and_true, true_and, Bool.false_eq_true, Bool.true_eq_false, not_false_eq_true, not_true_eq_false]; first | done | omega) ?_))))))))
    refine vQ tab rfl (vQ tab rfl (vQ tab rfl (vnl (qth (vcd_true rfl (by simp only [hb1, hay, ii, decide_eq_true_eq, decide_eq_false_iff_not, Bool.not_eq_eq_eq_not, Bool.not_true, Bool.not_false, bne_iff_ne, bne_eq_false_iff_eq, beq_iff_eq, beq_eq_false_iff_ne, ne_eq, beq_self_eq_true, bne_self_eq_false, Bool.and_eq_true, Bool.and_eq_false_iff, Bool.or_eq_true, Bool.or_eq_false_iff, and_self, and_true, true_and, Bool.false_eq_true, Bool.true_eq_false, not_false_eq_true, not_true_eq_false]; first | done | omega) ?_)))))
    refine vw_skip (qth (wsq (wbk (wsq (wrg (vQ tab rfl (vQ tab rfl (vQ tab rfl (vnl (qth (wsq (wsq (wrg (vQ tab rfl (vQ tab rfl (vq_op tab rfl rfl rfl (ev_index rfl rfl rfl rfl rfl (by omega) (by omega)) ?_))))))))))))))))
    refine vq_op tab rfl rfl rfl (ev_val (intR .i64) rfl rfl rfl rfl rfl hx1 rfl) (vQ tab rfl (vQ tab rfl (vnl (qth (vcd_false rfl (by simp only [hb1, hay, ii, decide_eq_true_eq, decide_eq_false_iff_not, Bool.not_eq_eq_eq_not, Bool.not_true, Bool.not_false, bne_iff_ne, bne_eq_false_iff_eq, beq_iff_eq, beq_eq_false_iff_ne, ne_eq, beq_self_eq_true, bne_self_eq_false, Bool.and_eq_true, Bool.and_eq_false_iff, Bool.or_eq_true, Bool.or_eq_false_iff, and_self, and_true, true_and, Bool.false_eq_true, Bool.true_eq_false, not_false_eq_true, not_true_eq_false]; first | done | omega) ?_)))))
    refine vw_skip (qth (wsq (vw_draw mixed (dq_op tab rfl rfl rfl rfl (dq_op tab rfl rfl rfl rfl (dq_op tab rfl rfl (ev_index rfl rfl rfl rfl rfl (by omega) (by omega)) (ev_index rfl rfl rfl rfl rfl (by omega) (by omega)) ?_))))))
    refine dq_op tab rfl rfl (ev_val (intR .i64) rfl rfl rfl rfl rfl hx1 rfl) (ev_val (intR .i64) rfl rfl rfl rfl rfl hx1 rfl) (dq_op tab rfl rfl rfl rfl (dq_op tab rfl rfl rfl rfl (dq_op tab rfl rfl rfl rfl (dq_op tab rfl rfl rfl rfl (dq_op tab rfl rfl (ev_index rfl rfl rfl rfl rfl (by omega) (by omega)) (ev_index rfl rfl rfl rfl rfl (by omega) (by omega)) ?_)))))
    refine dq_op tab rfl rfl (ev_val (intR .i64) rfl rfl rfl rfl rfl hx1 rfl) (ev_val (intR .i64) rfl rfl rfl rfl rfl hx1 rfl) (dq_op tab rfl rfl rfl rfl (dq_op tab rfl rfl rfl rfl (dq_op tab rfl rfl rfl rfl (dn_op tab rfl rfl rfl rfl (ds_op tab rfl rfl rfl rfl (vd_nil (by kernel_rfl) ?_))))))
    refine qth (wsq (wrg (vQ tab rfl (vQ tab rfl (vQ tab rfl (vq_op tab rfl rfl rfl (ev_index rfl rfl rfl rfl rfl (by omega) (by omega)) ?_))))))
    refine vq_op tab rfl rfl rfl (ev_val (intR .i64) rfl rfl rfl rfl rfl hx1 rfl) (vQ tab rfl (vQ tab rfl (vQ tab rfl (vN tab rfl (vS tab rfl (vnl (qth (wsq (wrg (vQ tab rfl (vQ tab rfl (vQ tab rfl (vQ tab rfl (vT rfl callable_15 (cproof_as _ e1 ⟨rfl, rfl, rfl, by decide, by decide, by decide⟩ (by decide) (by decide) hl16) ?_))))))))))))))
    refine vQ tab rfl (vQ tab rfl (vQ tab rfl (vQ tab rfl (vN tab rfl (vS tab rfl (vQ tab rfl (vQ tab rfl (vnl (qth (wsq (wsq (wrg (vQ tab rfl (vF rfl callable_16 (num_fun _) (vQ tab rfl (vQ tab rfl (vQ tab rfl (vQ tab rfl (vQ tab rfl (vQ tab rfl (vQ tab rfl (vQ tab rfl (vgd_op false rfl rfl rfl (by simp only [hb1, hay, ii, decide_eq_true_eq, decide_eq_false_iff_not, Bool.not_eq_eq_eq_not, Bool.not_true, Bool.not_false, bne_iff_ne, bne_eq_false_iff_eq, beq_iff_eq, beq_eq_false_iff_ne, ne_eq, beq_self_eq_true, bne_self_eq_false, Bool.and_eq_true, Bool.and_eq_false_iff, Bool.or_eq_true, Bool.or_eq_false_iff, and_self, and_true, true_and, Bool.false_eq_true, Bool.true_eq_false, not_false_eq_true, not_true_eq_false]; first | done | omega) ?_)))))))))))))))))))))))
    refine vQ tab rfl (vQ tab rfl (vQ tab rfl (vQ tab rfl (vQ tab rfl (vnl (qth (vcd_false rfl (by simp only [hb1, hay, ii, decide_eq_true_eq, decide_eq_false_iff_not, Bool.not_eq_eq_eq_not, Bool.not_true, Bool.not_false, bne_iff_ne, bne_eq_false_iff_eq, beq_iff_eq, beq_eq_false_iff_ne, ne_eq, beq_self_eq_true, bne_self_eq_false, Bool.and_eq_true, Bool.and_eq_false_iff, Bool.or_eq_true, Bool.or_eq_false_iff, and_self, and_true, true_and, Bool.false_eq_true, Bool.true_eq_false, not_false_eq_true, not_true_eq_false]; first | done | omega) ?_)))))))
    refine vw_skip (qth (wsq (wrg (vQ tab rfl (vQ tab rfl (vQ tab rfl (vQ tab rfl (vQ tab rfl (vQ tab rfl (vQ tab rfl (vQ tab rfl (vN tab rfl (vS tab rfl (vnl (qth (wsq (wsq (wrg (vQ tab rfl (vnl (qth (wbk ?_))))))))))))))))))))))
    rw [← hK, ← hU, ← hG, ← hE]
    have hf' : ∀ (j : Nat) (y : Int) (w : BodyV), ks[j]? = some y → ws[j]? = some w → AgOk l' y w := fun j y w h1 h2 => agOk_pre (hf j y w h1 h2) p3
    refine vw_loop_env (fun k env => ∃ j : Int, 0 ≤ j ∧ j ≤ ks.length ∧ k = (ks.length - j).toNat ∧
        env = [(0, .int .i64 key), (1, .int .i64 other), (2, .slice (some ⟨0, 0, none⟩) xs.length 0), (7, .pointer (some ⟨1, 0, none⟩)), (9, .slice (some ⟨4, 0, none⟩) ks.length 0), (10, .slice (some ⟨5, 0, none⟩) ws.length 0), (11, .int .i64 i), (16, .int .i64 (y : Int)), (18, .pointer (some ⟨10, 0, none⟩)), (19, .int .i64 j)]) ks.length
      ⟨_, se_cons rfl (se_cons rfl (se_cons rfl (se_cons rfl (se_cons rfl (se_cons rfl (se_cons rfl (se_cons rfl (se_cons rfl (se_cons rfl se_nil))))))))), 0, by omega, by omega, by simp, rfl⟩ ?_
    rintro k env ⟨j, j0, j1, rfl, rfl⟩
    by_cases hj : j < (ks.length : Int)
    · obtain ⟨y1, hy⟩ := get_some (xs := ks) j0 hj
      have hjw : j < (ws.length : Int) := by omega
      obtain ⟨w, hww⟩ := get_some (xs := ws) j0 hjw
      have hj2 : IntKind.i64.wrap (j + 1) = j + 1 := i64_in _ (by omega)
      have ht := agOk_same (hf' _ y1 w hy hww) p4 oU oG oE oK p2
      cases c1 : decide (w = ⟨U, G, E, 0, K⟩) with
      | false =>
        rw [c1] at ht
        refine wsq (wsq (wrg (vQ tab rfl (vQ tab rfl (vQ tab rfl (vQ tab rfl (vnl (qth (vcd_true rfl (by simp only [hj2, c1, ht, decide_eq_true_eq, decide_eq_false_iff_not, Bool.not_eq_eq_eq_not, Bool.not_true, Bool.not_false, bne_iff_ne, bne_eq_false_iff_eq, beq_iff_eq, beq_eq_false_iff_ne, ne_eq, beq_self_eq_true, bne_self_eq_false, Bool.and_eq_true, Bool.and_eq_false_iff, Bool.or_eq_true, Bool.or_eq_false_iff, and_self, and_true, true_and, Bool.false_eq_true, Bool.true_eq_false, not_false_eq_true, not_true_eq_false]; first | done | omega) ?_)))))))))
        refine vw_skip (qth (wsq (wbk (wsq (vw_draw mixed (dq_op tab rfl rfl rfl rfl (dq_op tab rfl rfl rfl rfl (dq_op tab rfl rfl (ev_index rfl rfl rfl rfl rfl (by omega) (by omega)) (ev_index rfl rfl rfl rfl rfl (by omega) (by omega)) ?_))))))))
        refine dq_op tab rfl rfl (ev_val (intR .i64) rfl rfl rfl rfl rfl hy rfl) (ev_val (intR .i64) rfl rfl rfl rfl rfl hy rfl) (dq_op tab rfl rfl rfl rfl (dq_op tab rfl rfl rfl rfl (dq_op tab rfl rfl rfl rfl (dq_op tab rfl rfl rfl rfl (dq_op tab rfl rfl (ev_index rfl rfl rfl rfl rfl (by omega) (by omega)) (ev_index rfl rfl rfl rfl rfl (by omega) (by omega)) ?_)))))
        refine dq_op tab rfl rfl (ev_loadrow bodyR rfl rfl rfl rfl rfl rfl hww) (ev_loadrow bodyR rfl rfl rfl rfl rfl rfl hww) (dq_op tab rfl rfl rfl rfl (dq_op tab rfl rfl (ev_eql rfl rfl rfl (body_eq w ⟨U, G, E, 0, K⟩)) (ev_eql rfl rfl rfl (body_eq w ⟨U, G, E, 0, K⟩)) (dq_op tab rfl rfl rfl rfl (vd_nil (by kernel_rfl) ?_))))
        refine qth (vcd_false rfl (by simp only [hj2, c1, ht, decide_eq_true_eq, decide_eq_false_iff_not, Bool.not_eq_eq_eq_not, Bool.not_true, Bool.not_false, bne_iff_ne, bne_eq_false_iff_eq, beq_iff_eq, beq_eq_false_iff_ne, ne_eq, beq_self_eq_true, bne_self_eq_false, Bool.and_eq_true, Bool.and_eq_false_iff, Bool.or_eq_true, Bool.or_eq_false_iff, and_self, and_true, true_and, Bool.false_eq_true, Bool.true_eq_false, not_false_eq_true, not_true_eq_false]; first | done | omega) ?_)
        refine vw_skip (q_norm (qth (wrg (vQ tab rfl (vQ tab rfl (vQ tab rfl (vnl (qth ?_))))))))
        exact ⟨rfl, rfl, (ks.length - (j + 1)).toNat, _, by omega, se_cons rfl (se_cons rfl (se_cons rfl (se_cons rfl (se_cons rfl (se_cons rfl (se_cons rfl (se_cons rfl (se_cons rfl (se_cons (se_int rfl hj2) se_nil))))))))), j + 1, by omega, by omega, rfl, rfl⟩
      | true =>
        rw [c1] at ht
        refine wsq (wsq (wrg (vQ tab rfl (vQ tab rfl (vQ tab rfl (vQ tab rfl (vnl (qth (vcd_true rfl (by simp only [hj2, c1, ht, decide_eq_true_eq, decide_eq_false_iff_not, Bool.not_eq_eq_eq_not, Bool.not_true, Bool.not_false, bne_iff_ne, bne_eq_false_iff_eq, beq_iff_eq, beq_eq_false_iff_ne, ne_eq, beq_self_eq_true, bne_self_eq_false, Bool.and_eq_true, Bool.and_eq_false_iff, Bool.or_eq_true, Bool.or_eq_false_iff, and_self, and_true, true_and, Bool.false_eq_true, Bool.true_eq_false, not_false_eq_true, not_true_eq_false]; first | done | omega) ?_)))))))))
        refine vw_skip (qth (wsq (wbk (wsq (vw_draw mixed (dq_op tab rfl rfl rfl rfl (dq_op tab rfl rfl rfl rfl (dq_op tab rfl rfl (ev_index rfl rfl rfl rfl rfl (by omega) (by omega)) (ev_index rfl rfl rfl rfl rfl (by omega) (by omega)) ?_))))))))
        refine dq_op tab rfl rfl (ev_val (intR .i64) rfl rfl rfl rfl rfl hy rfl) (ev_val (intR .i64) rfl rfl rfl rfl rfl hy rfl) (dq_op tab rfl rfl rfl rfl (dq_op tab rfl rfl rfl rfl (dq_op tab rfl rfl rfl rfl (dq_op tab rfl rfl rfl rfl (dq_op tab rfl rfl (ev_index rfl rfl rfl rfl rfl (by omega) (by omega)) (ev_index rfl rfl rfl rfl rfl (by omega) (by omega)) ?_)))))
        refine dq_op tab rfl rfl (ev_loadrow bodyR rfl rfl rfl rfl rfl rfl hww) (ev_loadrow bodyR rfl rfl rfl rfl rfl rfl hww) (dq_op tab rfl rfl rfl rfl (dq_op tab rfl rfl (ev_eql rfl rfl rfl (body_eq w ⟨U, G, E, 0, K⟩)) (ev_eql rfl rfl rfl (body_eq w ⟨U, G, E, 0, K⟩)) (dq_op tab rfl rfl rfl rfl (vd_nil (by kernel_rfl) ?_))))
        refine qth (vcd_false rfl (by simp only [hj2, c1, ht, decide_eq_true_eq, decide_eq_false_iff_not, Bool.not_eq_eq_eq_not, Bool.not_true, Bool.not_false, bne_iff_ne, bne_eq_false_iff_eq, beq_iff_eq, beq_eq_false_iff_ne, ne_eq, beq_self_eq_true, bne_self_eq_false, Bool.and_eq_true, Bool.and_eq_false_iff, Bool.or_eq_true, Bool.or_eq_false_iff, and_self, and_true, true_and, Bool.false_eq_true, Bool.true_eq_false, not_false_eq_true, not_true_eq_false]; first | done | omega) ?_)
        refine vw_skip (q_norm (qth (wrg (vQ tab rfl (vQ tab rfl (vQ tab rfl (vnl (qth ?_))))))))
        exact ⟨rfl, rfl, (ks.length - (j + 1)).toNat, _, by omega, se_cons rfl (se_cons rfl (se_cons rfl (se_cons rfl (se_cons rfl (se_cons rfl (se_cons rfl (se_cons rfl (se_cons rfl (se_cons (se_int rfl hj2) se_nil))))))))), j + 1, by omega, by omega, rfl, rfl⟩
    refine wsq (wsq (wrg (vQ tab rfl (vQ tab rfl (vQ tab rfl (vQ tab rfl (vnl (qth (vcd_false rfl (by simp only [decide_eq_true_eq, decide_eq_false_iff_not, Bool.not_eq_eq_eq_not, Bool.not_true, Bool.not_false, bne_iff_ne, bne_eq_false_iff_eq, beq_iff_eq, beq_eq_false_iff_ne, ne_eq, beq_self_eq_true, bne_self_eq_false, Bool.and_eq_true, Bool.and_eq_false_iff, Bool.or_eq_true, Bool.or_eq_false_iff, and_self, and_true, true_and, Bool.false_eq_true, Bool.true_eq_false, not_false_eq_true, not_true_eq_false]; first | done | omega) ?_)))))))))
    refine vw_exit (q_thenx (q_thenx (q_here (qth (wsq (wrg (vQ tab rfl (vQ tab rfl (vN tab rfl (vo_op rfl rfl rfl (opr_ev tab (ev_app (intR .i64) (ys := [(y : Int)]) (m := 1) rfl rfl rfl rfl rfl rfl rfl rfl rfl (by show (_ + 1) * 8 ≤ _; omega) (by omega))) ?_))))))))))
    refine vQ tab rfl (vnl (qth (wrg (vQ tab rfl (vQ tab rfl (vN tab rfl (vo_op rfl rfl rfl (opr_ev tab (ev_app bodyR (ys := [⟨U, G, E, 0, K⟩]) (m := 1) rfl rfl rfl rfl rfl rfl rfl rfl rfl (by show (_ + 1) * 40 ≤ _; omega) (by omega))) ?_)))))))
    refine vQ tab rfl (vnl (q_norm (qth (wrg (vQ tab rfl (vQ tab rfl (vQ tab rfl (vnl (qth ?_)))))))))
    refine ⟨(xs.length - (i + 1)).toNat, _, by omega, (sub_of (g := 1) [1, 8, 3, 12, 14] (by decide) (by decide) (by repeat' first | exact ep_nil | exact ov_book (rel_slice rfl rfl) (rel_map rfl) | exact ov_ents rfl rfl | exact ri hi.symm | exact rel_slice rfl (by rw [List.length_append]; rfl) | exact rel_slice rfl (by rw [List.length_append]; rfl) | refine ep_cons rfl ?_ ?_ | exact .int _ _ | exact .bool _ | exact .string _ | exact rel_slice rfl rfl | exact rel_nil rfl rfl | exact rel_ptr rfl | exact .nilPtr | exact .nilIface | exact .nilSlice) (by repeat' first | exact hp_nil | exact ov_book (rel_slice rfl rfl) (rel_map rfl) | exact ov_ents rfl rfl | exact ri hi.symm | exact rel_slice rfl (by rw [List.length_append]; rfl) | exact rel_slice rfl (by rw [List.length_append]; rfl) | refine hp_cons rfl rfl ?_ ?_ | refine hp_void rfl rfl ?_ | exact ov_win _ | exact ov_opn _ rfl | exact ov_cells _ _ (by decide))), i + 1, l', ks ++ [(y : Int)], ws ++ [⟨U, G, E, 0, K⟩], by omega, by omega, by omega, p4, by omega, by simp; omega, by simp [hw], ?_, rfl, rfl⟩
    intro j y2 w2 h1 h2
    rcases Nat.lt_or_ge j ks.length with hlt | hge
    · rw [List.getElem?_append_left hlt] at h1
      rw [List.getElem?_append_left (by omega)] at h2
      exact hf' j y2 w2 h1 h2
    · rw [List.getElem?_append_right hge] at h1
      rw [List.getElem?_append_right (by omega), ← hw] at h2
      obtain ⟨_, h3⟩ := List.getElem?_eq_some_iff.1 h1
      obtain ⟨_, h4⟩ := List.getElem?_eq_some_iff.1 h2
      rw [List.getElem_singleton] at h3 h4
      subst h3 h4
      exact ⟨oU, oG, oE, oK, rfl, y, rfl, p2⟩
  | true =>
    obtain ⟨K, hK⟩ : ∃ K, K = bits .and .i64 other 1073741823 := ⟨_, rfl⟩
    have oK : okN K = true := by rw [okN_iff, hK, andmax]; omega
    obtain ⟨a, y, c, l', e1, hay, p2, p3, p4, p5⟩ := proof_places oK oU oG oE oi (by omega) hn
    rw [hK, hU, hG, hE] at e1
    refine wsq (wsq (wrg (vQ tab rfl (vQ tab rfl (vQ tab rfl (vQ tab rfl (vQ tab rfl (vgd_op true rfl rfl rfl (by simp only [hb1, hay, ii, decide_eq_true_eq, decide_eq_false_iff_not, Bool.not_eq_eq_eq_not, Bool.not_true, Bool.not_false, bne_iff_ne, bne_eq_false_iff_eq, beq_iff_eq, beq_eq_false_iff_ne, ne_eq, beq_self_eq_true, bne_self_eq_false, Bool.and_eq_true, Bool.and_eq_false_iff, Bool.or_eq_true, Bool.or_eq_false_iff, and_self, and_true, true_and, Bool.false_eq_true, Bool.true_eq_false, not_false_eq_true, not_true_eq_false]; first | done | omega) ?_))))))))
    refine vQ tab rfl (vQ tab rfl (vQ tab rfl (vnl (qth (vcd_true rfl (by simp only [hb1, hay, ii, decide_eq_true_eq, decide_eq_false_iff_not, Bool.not_eq_eq_eq_not, Bool.not_true, Bool.not_false, bne_iff_ne, bne_eq_false_iff_eq, beq_iff_eq, beq_eq_false_iff_ne, ne_eq, beq_self_eq_true, bne_self_eq_false, Bool.and_eq_true, Bool.and_eq_false_iff, Bool.or_eq_true, Bool.or_eq_false_iff, and_self, and_true, true_and, Bool.false_eq_true, Bool.true_eq_false, not_false_eq_true, not_true_eq_false]; first | done | omega) ?_)))))
    refine vw_skip (qth (wsq (wbk (wsq (wrg (vQ tab rfl (vQ tab rfl (vQ tab rfl (vnl (qth (wsq (wsq (wrg (vQ tab rfl (vQ tab rfl (vq_op tab rfl rfl rfl (ev_index rfl rfl rfl rfl rfl (by omega) (by omega)) ?_))))))))))))))))
    refine vq_op tab rfl rfl rfl (ev_val (intR .i64) rfl rfl rfl rfl rfl hx1 rfl) (vQ tab rfl (vQ tab rfl (vnl (qth (vcd_true rfl (by simp only [hb1, hay, ii, decide_eq_true_eq, decide_eq_false_iff_not, Bool.not_eq_eq_eq_not, Bool.not_true, Bool.not_false, bne_iff_ne, bne_eq_false_iff_eq, beq_iff_eq, beq_eq_false_iff_ne, ne_eq, beq_self_eq_true, bne_self_eq_false, Bool.and_eq_true, Bool.and_eq_false_iff, Bool.or_eq_true, Bool.or_eq_false_iff, and_self, and_true, true_and, Bool.false_eq_true, Bool.true_eq_false, not_false_eq_true, not_true_eq_false]; first | done | omega) ?_)))))
    refine wrg (vQ tab rfl (vQ tab rfl (vQ tab rfl (vnl (qth (wsq (vw_draw mixed (dq_op tab rfl rfl rfl rfl (dq_op tab rfl rfl rfl rfl (dq_op tab rfl rfl (ev_index rfl rfl rfl rfl rfl (by omega) (by omega)) (ev_index rfl rfl rfl rfl rfl (by omega) (by omega)) ?_))))))))))
    refine dq_op tab rfl rfl (ev_val (intR .i64) rfl rfl rfl rfl rfl hx1 rfl) (ev_val (intR .i64) rfl rfl rfl rfl rfl hx1 rfl) (dq_op tab rfl rfl rfl rfl (dq_op tab rfl rfl rfl rfl (dq_op tab rfl rfl rfl rfl (dq_op tab rfl rfl rfl rfl (dq_op tab rfl rfl (ev_index rfl rfl rfl rfl rfl (by omega) (by omega)) (ev_index rfl rfl rfl rfl rfl (by omega) (by omega)) ?_)))))
    refine dq_op tab rfl rfl (ev_val (intR .i64) rfl rfl rfl rfl rfl hx1 rfl) (ev_val (intR .i64) rfl rfl rfl rfl rfl hx1 rfl) (dq_op tab rfl rfl rfl rfl (dq_op tab rfl rfl rfl rfl (dq_op tab rfl rfl rfl rfl (dn_op tab rfl rfl rfl rfl (ds_op tab rfl rfl rfl rfl (vd_nil (by kernel_rfl) ?_))))))
    refine qth (wsq (wrg (vQ tab rfl (vQ tab rfl (vQ tab rfl (vq_op tab rfl rfl rfl (ev_index rfl rfl rfl rfl rfl (by omega) (by omega)) ?_))))))
    refine vq_op tab rfl rfl rfl (ev_val (intR .i64) rfl rfl rfl rfl rfl hx1 rfl) (vQ tab rfl (vQ tab rfl (vQ tab rfl (vN tab rfl (vS tab rfl (vnl (qth (wsq (wrg (vQ tab rfl (vQ tab rfl (vQ tab rfl (vQ tab rfl (vT rfl callable_15 (cproof_as _ e1 ⟨rfl, rfl, rfl, by decide, by decide, by decide⟩ (by decide) (by decide) hl16) ?_))))))))))))))
    refine vQ tab rfl (vQ tab rfl (vQ tab rfl (vQ tab rfl (vN tab rfl (vS tab rfl (vQ tab rfl (vQ tab rfl (vnl (qth (wsq (wsq (wrg (vQ tab rfl (vF rfl callable_16 (num_fun _) (vQ tab rfl (vQ tab rfl (vQ tab rfl (vQ tab rfl (vQ tab rfl (vQ tab rfl (vQ tab rfl (vQ tab rfl (vgd_op false rfl rfl rfl (by simp only [hb1, hay, ii, decide_eq_true_eq, decide_eq_false_iff_not, Bool.not_eq_eq_eq_not, Bool.not_true, Bool.not_false, bne_iff_ne, bne_eq_false_iff_eq, beq_iff_eq, beq_eq_false_iff_ne, ne_eq, beq_self_eq_true, bne_self_eq_false, Bool.and_eq_true, Bool.and_eq_false_iff, Bool.or_eq_true, Bool.or_eq_false_iff, and_self, and_true, true_and, Bool.false_eq_true, Bool.true_eq_false, not_false_eq_true, not_true_eq_false]; first | done | omega) ?_)))))))))))))))))))))))
    refine vQ tab rfl (vQ tab rfl (vQ tab rfl (vQ tab rfl (vQ tab rfl (vnl (qth (vcd_false rfl (by simp only [hb1, hay, ii, decide_eq_true_eq, decide_eq_false_iff_not, Bool.not_eq_eq_eq_not, Bool.not_true, Bool.not_false, bne_iff_ne, bne_eq_false_iff_eq, beq_iff_eq, beq_eq_false_iff_ne, ne_eq, beq_self_eq_true, bne_self_eq_false, Bool.and_eq_true, Bool.and_eq_false_iff, Bool.or_eq_true, Bool.or_eq_false_iff, and_self, and_true, true_and, Bool.false_eq_true, Bool.true_eq_false, not_false_eq_true, not_true_eq_false]; first | done | omega) ?_)))))))
    refine vw_skip (qth (wsq (wrg (vQ tab rfl (vQ tab rfl (vQ tab rfl (vQ tab rfl (vQ tab rfl (vQ tab rfl (vQ tab rfl (vQ tab rfl (vN tab rfl (vS tab rfl (vnl (qth (wsq (wsq (wrg (vQ tab rfl (vnl (qth (wbk ?_))))))))))))))))))))))
    rw [← hK, ← hU, ← hG, ← hE]
    have hf' : ∀ (j : Nat) (y : Int) (w : BodyV), ks[j]? = some y → ws[j]? = some w → AgOk l' y w := fun j y w h1 h2 => agOk_pre (hf j y w h1 h2) p3
    refine vw_loop_env (fun k env => ∃ j : Int, 0 ≤ j ∧ j ≤ ks.length ∧ k = (ks.length - j).toNat ∧
        env = [(0, .int .i64 key), (1, .int .i64 other), (2, .slice (some ⟨0, 0, none⟩) xs.length 0), (7, .pointer (some ⟨1, 0, none⟩)), (9, .slice (some ⟨4, 0, none⟩) ks.length 0), (10, .slice (some ⟨5, 0, none⟩) ws.length 0), (11, .int .i64 i), (16, .int .i64 (y : Int)), (18, .pointer (some ⟨10, 0, none⟩)), (19, .int .i64 j)]) ks.length
      ⟨_, se_cons rfl (se_cons rfl (se_cons rfl (se_cons rfl (se_cons rfl (se_cons rfl (se_cons rfl (se_cons rfl (se_cons rfl (se_cons rfl se_nil))))))))), 0, by omega, by omega, by simp, rfl⟩ ?_
    rintro k env ⟨j, j0, j1, rfl, rfl⟩
    by_cases hj : j < (ks.length : Int)
    · obtain ⟨y1, hy⟩ := get_some (xs := ks) j0 hj
      have hjw : j < (ws.length : Int) := by omega
      obtain ⟨w, hww⟩ := get_some (xs := ws) j0 hjw
      have hj2 : IntKind.i64.wrap (j + 1) = j + 1 := i64_in _ (by omega)
      have ht := agOk_same (hf' _ y1 w hy hww) p4 oU oG oE oK p2
      cases c1 : decide (w = ⟨U, G, E, 0, K⟩) with
      | false =>
        rw [c1] at ht
        refine wsq (wsq (wrg (vQ tab rfl (vQ tab rfl (vQ tab rfl (vQ tab rfl (vnl (qth (vcd_true rfl (by simp only [hj2, c1, ht, decide_eq_true_eq, decide_eq_false_iff_not, Bool.not_eq_eq_eq_not, Bool.not_true, Bool.not_false, bne_iff_ne, bne_eq_false_iff_eq, beq_iff_eq, beq_eq_false_iff_ne, ne_eq, beq_self_eq_true, bne_self_eq_false, Bool.and_eq_true, Bool.and_eq_false_iff, Bool.or_eq_true, Bool.or_eq_false_iff, and_self, and_true, true_and, Bool.false_eq_true, Bool.true_eq_false, not_false_eq_true, not_true_eq_false]; first | done | omega) ?_)))))))))
        refine vw_skip (qth (wsq (wbk (wsq (vw_draw mixed (dq_op tab rfl rfl rfl rfl (dq_op tab rfl rfl rfl rfl (dq_op tab rfl rfl (ev_index rfl rfl rfl rfl rfl (by omega) (by omega)) (ev_index rfl rfl rfl rfl rfl (by omega) (by omega)) ?_))))))))
        refine dq_op tab rfl rfl (ev_val (intR .i64) rfl rfl rfl rfl rfl hy rfl) (ev_val (intR .i64) rfl rfl rfl rfl rfl hy rfl) (dq_op tab rfl rfl rfl rfl (dq_op tab rfl rfl rfl rfl (dq_op tab rfl rfl rfl rfl (dq_op tab rfl rfl rfl rfl (dq_op tab rfl rfl (ev_index rfl rfl rfl rfl rfl (by omega) (by omega)) (ev_index rfl rfl rfl rfl rfl (by omega) (by omega)) ?_)))))
        refine dq_op tab rfl rfl (ev_loadrow bodyR rfl rfl rfl rfl rfl rfl hww) (ev_loadrow bodyR rfl rfl rfl rfl rfl rfl hww) (dq_op tab rfl rfl rfl rfl (dq_op tab rfl rfl (ev_eql rfl rfl rfl (body_eq w ⟨U, G, E, 0, K⟩)) (ev_eql rfl rfl rfl (body_eq w ⟨U, G, E, 0, K⟩)) (dq_op tab rfl rfl rfl rfl (vd_nil (by kernel_rfl) ?_))))
        refine qth (vcd_false rfl (by simp only [hj2, c1, ht, decide_eq_true_eq, decide_eq_false_iff_not, Bool.not_eq_eq_eq_not, Bool.not_true, Bool.not_false, bne_iff_ne, bne_eq_false_iff_eq, beq_iff_eq, beq_eq_false_iff_ne, ne_eq, beq_self_eq_true, bne_self_eq_false, Bool.and_eq_true, Bool.and_eq_false_iff, Bool.or_eq_true, Bool.or_eq_false_iff, and_self, and_true, true_and, Bool.false_eq_true, Bool.true_eq_false, not_false_eq_true, not_true_eq_false]; first | done | omega) ?_)
        refine vw_skip (q_norm (qth (wrg (vQ tab rfl (vQ tab rfl (vQ tab rfl (vnl (qth ?_))))))))
        exact ⟨rfl, rfl, (ks.length - (j + 1)).toNat, _, by omega, se_cons rfl (se_cons rfl (se_cons rfl (se_cons rfl (se_cons rfl (se_cons rfl (se_cons rfl (se_cons rfl (se_cons rfl (se_cons (se_int rfl hj2) se_nil))))))))), j + 1, by omega, by omega, rfl, rfl⟩
      | true =>
        rw [c1] at ht
        refine wsq (wsq (wrg (vQ tab rfl (vQ tab rfl (vQ tab rfl (vQ tab rfl (vnl (qth (vcd_true rfl (by simp only [hj2, c1, ht, decide_eq_true_eq, decide_eq_false_iff_not, Bool.not_eq_eq_eq_not, Bool.not_true, Bool.not_false, bne_iff_ne, bne_eq_false_iff_eq, beq_iff_eq, beq_eq_false_iff_ne, ne_eq, beq_self_eq_true, bne_self_eq_false, Bool.and_eq_true, Bool.and_eq_false_iff, Bool.or_eq_true, Bool.or_eq_false_iff, and_self, and_true, true_and, Bool.false_eq_true, Bool.true_eq_false, not_false_eq_true, not_true_eq_false]; first | done | omega) ?_)))))))))
        refine vw_skip (qth (wsq (wbk (wsq (vw_draw mixed (dq_op tab rfl rfl rfl rfl (dq_op tab rfl rfl rfl rfl (dq_op tab rfl rfl (ev_index rfl rfl rfl rfl rfl (by omega) (by omega)) (ev_index rfl rfl rfl rfl rfl (by omega) (by omega)) ?_))))))))
        refine dq_op tab rfl rfl (ev_val (intR .i64) rfl rfl rfl rfl rfl hy rfl) (ev_val (intR .i64) rfl rfl rfl rfl rfl hy rfl) (dq_op tab rfl rfl rfl rfl (dq_op tab rfl rfl rfl rfl (dq_op tab rfl rfl rfl rfl (dq_op tab rfl rfl rfl rfl (dq_op tab rfl rfl (ev_index rfl rfl rfl rfl rfl (by omega) (by omega)) (ev_index rfl rfl rfl rfl rfl (by omega) (by omega)) ?_)))))
        refine dq_op tab rfl rfl (ev_loadrow bodyR rfl rfl rfl rfl rfl rfl hww) (ev_loadrow bodyR rfl rfl rfl rfl rfl rfl hww) (dq_op tab rfl rfl rfl rfl (dq_op tab rfl rfl (ev_eql rfl rfl rfl (body_eq w ⟨U, G, E, 0, K⟩)) (ev_eql rfl rfl rfl (body_eq w ⟨U, G, E, 0, K⟩)) (dq_op tab rfl rfl rfl rfl (vd_nil (by kernel_rfl) ?_))))
        refine qth (vcd_false rfl (by simp only [hj2, c1, ht, decide_eq_true_eq, decide_eq_false_iff_not, Bool.not_eq_eq_eq_not, Bool.not_true, Bool.not_false, bne_iff_ne, bne_eq_false_iff_eq, beq_iff_eq, beq_eq_false_iff_ne, ne_eq, beq_self_eq_true, bne_self_eq_false, Bool.and_eq_true, Bool.and_eq_false_iff, Bool.or_eq_true, Bool.or_eq_false_iff, and_self, and_true, true_and, Bool.false_eq_true, Bool.true_eq_false, not_false_eq_true, not_true_eq_false]; first | done | omega) ?_)
        refine vw_skip (q_norm (qth (wrg (vQ tab rfl (vQ tab rfl (vQ tab rfl (vnl (qth ?_))))))))
        exact ⟨rfl, rfl, (ks.length - (j + 1)).toNat, _, by omega, se_cons rfl (se_cons rfl (se_cons rfl (se_cons rfl (se_cons rfl (se_cons rfl (se_cons rfl (se_cons rfl (se_cons rfl (se_cons (se_int rfl hj2) se_nil))))))))), j + 1, by omega, by omega, rfl, rfl⟩
    refine wsq (wsq (wrg (vQ tab rfl (vQ tab rfl (vQ tab rfl (vQ tab rfl (vnl (qth (vcd_false rfl (by simp only [decide_eq_true_eq, decide_eq_false_iff_not, Bool.not_eq_eq_eq_not, Bool.not_true, Bool.not_false, bne_iff_ne, bne_eq_false_iff_eq, beq_iff_eq, beq_eq_false_iff_ne, ne_eq, beq_self_eq_true, bne_self_eq_false, Bool.and_eq_true, Bool.and_eq_false_iff, Bool.or_eq_true, Bool.or_eq_false_iff, and_self, and_true, true_and, Bool.false_eq_true, Bool.true_eq_false, not_false_eq_true, not_true_eq_false]; first | done | omega) ?_)))))))))
    refine vw_exit (q_thenx (q_thenx (q_here (qth (wsq (wrg (vQ tab rfl (vQ tab rfl (vN tab rfl (vo_op rfl rfl rfl (opr_ev tab (ev_app (intR .i64) (ys := [(y : Int)]) (m := 1) rfl rfl rfl rfl rfl rfl rfl rfl rfl (by show (_ + 1) * 8 ≤ _; omega) (by omega))) ?_))))))))))
    refine vQ tab rfl (vnl (qth (wrg (vQ tab rfl (vQ tab rfl (vN tab rfl (vo_op rfl rfl rfl (opr_ev tab (ev_app bodyR (ys := [⟨U, G, E, 0, K⟩]) (m := 1) rfl rfl rfl rfl rfl rfl rfl rfl rfl (by show (_ + 1) * 40 ≤ _; omega) (by omega))) ?_)))))))
    refine vQ tab rfl (vnl (q_norm (qth (wrg (vQ tab rfl (vQ tab rfl (vQ tab rfl (vnl (qth ?_)))))))))
    refine ⟨(xs.length - (i + 1)).toNat, _, by omega, (sub_of (g := 1) [1, 8, 3, 12, 14] (by decide) (by decide) (by repeat' first | exact ep_nil | exact ov_book (rel_slice rfl rfl) (rel_map rfl) | exact ov_ents rfl rfl | exact ri hi.symm | exact rel_slice rfl (by rw [List.length_append]; rfl) | exact rel_slice rfl (by rw [List.length_append]; rfl) | refine ep_cons rfl ?_ ?_ | exact .int _ _ | exact .bool _ | exact .string _ | exact rel_slice rfl rfl | exact rel_nil rfl rfl | exact rel_ptr rfl | exact .nilPtr | exact .nilIface | exact .nilSlice) (by repeat' first | exact hp_nil | exact ov_book (rel_slice rfl rfl) (rel_map rfl) | exact ov_ents rfl rfl | exact ri hi.symm | exact rel_slice rfl (by rw [List.length_append]; rfl) | exact rel_slice rfl (by rw [List.length_append]; rfl) | refine hp_cons rfl rfl ?_ ?_ | refine hp_void rfl rfl ?_ | exact ov_win _ | exact ov_opn _ rfl | exact ov_cells _ _ (by decide))), i + 1, l', ks ++ [(y : Int)], ws ++ [⟨U, G, E, 0, K⟩], by omega, by omega, by omega, p4, by omega, by simp; omega, by simp [hw], ?_, rfl, rfl⟩
    intro j y2 w2 h1 h2
    rcases Nat.lt_or_ge j ks.length with hlt | hge
    · rw [List.getElem?_append_left hlt] at h1
      rw [List.getElem?_append_left (by omega)] at h2
      exact hf' j y2 w2 h1 h2
    · rw [List.getElem?_append_right hge] at h1
      rw [List.getElem?_append_right (by omega), ← hw] at h2
      obtain ⟨_, h3⟩ := List.getElem?_eq_some_iff.1 h1
      obtain ⟨_, h4⟩ := List.getElem?_eq_some_iff.1 h2
      rw [List.getElem_singleton] at h3 h4
      subst h3 h4
      exact ⟨oU, oG, oE, oK, rfl, y, rfl, p2⟩
end Go.Proofs.Ytjkidjplbddmmaa
