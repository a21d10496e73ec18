/- Law 20: lists that are the same; the config, the states of its statements. -/
import Derived.Test.YtcjfidfealifhaaVg1
import Derived.Test.YtcjfidfealifhaaSa6
import Derived.Test.YtcjfidfealifhaaSm0
import Derived.Test.YtcjfidfealifhaaCm0
namespace Go.Proofs.Ytcjfidfealifhaa
open Go Vm IntWalk
set_option linter.unusedVariables false
set_option linter.unusedSimpArgs false
set_option maxHeartbeats 16000000
set_option maxHeartbeats 4000000 in
theorem same_users {V : Heap} {n : Nat} {sva svb : Value} {xs ys : List UserV} (ha : Looks V 9 sva (userR.cells xs) xs.length) (hb : Looks V 9 svb (userR.cells ys) ys.length) (hx : xs.length ≤ 140737488355328) (hy : ys.length ≤ 140737488355328) :
    Tri Try.prog 18 [sva, svb] n 0 V (fun u L => u = .bool (decide (xs = ys)) ∧ L = []) := by
  refine reads_of_vw (K := 2) (argsI := [.slice (some ⟨0, 0, none⟩) xs.length 0, .slice (some ⟨1, 0, none⟩) ys.length 0]) tab Try.func18 rfl rfl (by simp [Try.f18]) [.look sva xs.length 9, .look svb ys.length 9] [.win (userR.cells xs) 9, .win (userR.cells ys) 9] rfl (.look ha (userR.flat_cells xs) (.look hb (userR.flat_cells ys) .nil)) (by simp [ownNames]) (by simp [ownNames, lookNames]) (al_cons (.look (a := 0) rfl) (al_cons (.look (a := 1) rfl) al_nil)) (seen_of (sn_look (seen_top (j := 0) rfl) (sn_look (seen_top (j := 1) rfl) sn_nil))) (.bool _) ?_
  by_cases hlen : xs.length = ys.length
  case neg =>
    have hne : xs ≠ ys := fun e => hlen (by rw [e])
    have hd : ((xs.length : Int) != (ys.length : Int)) = true := by simpa using (show ¬ (xs.length : Int) = ys.length by omega)
    refine wsq (wrg (vQ tab rfl (vnl (qth (wsq (wsq (wrg (vQ tab rfl (vQ tab rfl (vQ tab rfl (vQ tab rfl (vQ tab rfl (vnl (qth (vcd_true rfl (by simp only [hd, decide_eq_true_eq, decide_eq_false_iff_not, Bool.not_eq_eq_eq_not, Bool.not_true, Bool.not_false, bne_iff_ne, bne_eq_false_iff_eq, beq_iff_eq, beq_eq_false_iff_ne, ne_eq, beq_self_eq_true, bne_self_eq_false, Bool.and_eq_true, Bool.and_eq_false_iff, Bool.or_eq_true, Bool.or_eq_false_iff, and_self, and_true, true_and, Bool.false_eq_true, Bool.true_eq_false, not_false_eq_true, not_true_eq_false]; first | done | omega) ?_)))))))))))))))
    refine wsq (wrg (vQ tab rfl (vnl (qth (vw_ret (q_thenr ?_))))))
    exact ⟨⟨.inr rfl, by rw [decide_eq_false hne]; rfl⟩, trivial⟩
  have hd : ((xs.length : Int) != (ys.length : Int)) = false := by simpa using (show (xs.length : Int) = ys.length by omega)
  refine wsq (wrg (vQ tab rfl (vnl (qth (wsq (wsq (wrg (vQ tab rfl (vQ tab rfl (vQ tab rfl (vQ tab rfl (vQ tab rfl (vnl (qth (vcd_false rfl (by simp only [hd, decide_eq_true_eq, decide_eq_false_iff_not, Bool.not_eq_eq_eq_not, Bool.not_true, Bool.not_false, bne_iff_ne, bne_eq_false_iff_eq, beq_iff_eq, beq_eq_false_iff_ne, ne_eq, beq_self_eq_true, bne_self_eq_false, Bool.and_eq_true, Bool.and_eq_false_iff, Bool.or_eq_true, Bool.or_eq_false_iff, and_self, and_true, true_and, Bool.false_eq_true, Bool.true_eq_false, not_false_eq_true, not_true_eq_false]; first | done | omega) ?_)))))))))))))))
  refine vw_skip (qth (wsq (wsq (wrg (vQ tab rfl (vnl (qth (wbk ?_))))))))
  refine vw_loop_sub (fun k s => ∃ j : Int, 0 ≤ j ∧ j ≤ xs.length ∧ xs.take j.toNat = ys.take j.toNat ∧ k = (xs.length - j).toNat ∧
      s = ⟨[(0, .slice (some ⟨0, 0, none⟩) xs.length 0), (1, .slice (some ⟨1, 0, none⟩) ys.length 0), (5, .int .i64 j)], lkp [(0, .win (userR.cells xs) 9), (1, .win (userR.cells ys) 9)], 2⟩) (xs.length - 0)
    ⟨_, (sub_of (g := 2) [] (by decide) (by decide) (by repeat' first | exact ep_nil | refine ep_cons rfl ?_ ?_ | exact .int _ _ | exact .bool _ | exact .string _ | exact rel_slice rfl rfl | exact rel_nil rfl rfl | exact rel_ptr rfl | exact .nilPtr | exact .nilIface | exact .nilSlice) (by repeat' first | exact hp_nil | refine hp_cons rfl rfl ?_ ?_ | refine hp_void rfl rfl ?_ | exact ov_win _ | exact ov_opn _ rfl | exact ov_cells _ _ (by decide))), 0, by omega, by omega, by simp, by simp, rfl⟩ ?_
  rintro k s ⟨j, h0, h1, ht, rfl, rfl⟩
  by_cases hj : j < (xs.length : Int)
  case neg =>
    have he : xs = ys := by rw [show j.toNat = xs.length by omega, List.take_length, hlen, List.take_length] at ht; exact ht
    refine wsq (wsq (wrg (vQ tab rfl (vQ tab rfl (vQ tab rfl (vQ tab rfl (vnl (qth (vcd_false rfl (by simp only [decide_eq_true_eq, decide_eq_false_iff_not, Bool.not_eq_eq_eq_not, Bool.not_true, Bool.not_false, bne_iff_ne, bne_eq_false_iff_eq, beq_iff_eq, beq_eq_false_iff_ne, ne_eq, beq_self_eq_true, bne_self_eq_false, Bool.and_eq_true, Bool.and_eq_false_iff, Bool.or_eq_true, Bool.or_eq_false_iff, and_self, and_true, true_and, Bool.false_eq_true, Bool.true_eq_false, not_false_eq_true, not_true_eq_false]; first | done | omega) ?_)))))))))
    refine vw_exit (q_thenx (q_thenx (q_here (qth (wsq (wrg (vQ tab rfl (vnl (qth (vw_ret ?_))))))))))
    exact ⟨⟨.inr rfl, by rw [decide_eq_true he]; rfl⟩, trivial⟩
  obtain ⟨a, hxa⟩ := get_some h0 hj
  obtain ⟨b, hyb⟩ := get_some (xs := ys) h0 (by omega)
  have hi : IntKind.i64.wrap (j + 1) = j + 1 := i64_in _ (by omega)
  have hjn : (j + 1).toNat = j.toNat + 1 := by omega
  by_cases hab : a = b
  · have hd := decide_eq_true hab
    refine wsq (wsq (wrg (vQ tab rfl (vQ tab rfl (vQ tab rfl (vQ tab rfl (vnl (qth (vcd_true rfl (by simp only [hi, hd, decide_eq_true_eq, decide_eq_false_iff_not, Bool.not_eq_eq_eq_not, Bool.not_true, Bool.not_false, bne_iff_ne, bne_eq_false_iff_eq, beq_iff_eq, beq_eq_false_iff_ne, ne_eq, beq_self_eq_true, bne_self_eq_false, Bool.and_eq_true, Bool.and_eq_false_iff, Bool.or_eq_true, Bool.or_eq_false_iff, and_self, and_true, true_and, Bool.false_eq_true, Bool.true_eq_false, not_false_eq_true, not_true_eq_false]; first | done | omega) ?_)))))))))
    refine vw_skip (qth (wsq (wbk (wsq (vw_draw mixed (dq_op tab rfl rfl rfl rfl (dq_op tab rfl rfl rfl rfl (dq_op tab rfl rfl (ev_index rfl rfl rfl rfl rfl (by omega) (by omega)) (ev_index rfl rfl rfl rfl rfl (by omega) (by omega)) ?_))))))))
    refine dq_op tab rfl rfl (ev_loadrow userR rfl rfl rfl rfl rfl rfl hxa) (ev_loadrow userR rfl rfl rfl rfl rfl rfl hxa) (dq_op tab rfl rfl rfl rfl (dq_op tab rfl rfl rfl rfl (dq_op tab rfl rfl (ev_index rfl rfl rfl rfl rfl (by omega) (by omega)) (ev_index rfl rfl rfl rfl rfl (by omega) (by omega)) ?_)))
    refine dq_op tab rfl rfl (ev_loadrow userR rfl rfl rfl rfl rfl rfl hyb) (ev_loadrow userR rfl rfl rfl rfl rfl rfl hyb) (dq_op tab rfl rfl (ev_neq rfl rfl rfl (user_eq a b)) (ev_neq rfl rfl rfl (user_eq a b)) (vd_nil (by kernel_rfl) ?_))
    refine qth (vcd_false rfl (by simp only [hi, hd, decide_eq_true_eq, decide_eq_false_iff_not, Bool.not_eq_eq_eq_not, Bool.not_true, Bool.not_false, bne_iff_ne, bne_eq_false_iff_eq, beq_iff_eq, beq_eq_false_iff_ne, ne_eq, beq_self_eq_true, bne_self_eq_false, Bool.and_eq_true, Bool.and_eq_false_iff, Bool.or_eq_true, Bool.or_eq_false_iff, and_self, and_true, true_and, Bool.false_eq_true, Bool.true_eq_false, not_false_eq_true, not_true_eq_false]; first | done | omega) ?_)
    refine vw_skip (q_norm (qth (wrg (vQ tab rfl (vQ tab rfl (vQ tab rfl (vnl (qth ?_))))))))
    exact ⟨(xs.length - (j + 1)).toNat, _, by omega, (sub_of (g := 2) [] (by decide) (by decide) (by repeat' first | exact ep_nil | exact ri hi.symm | refine ep_cons rfl ?_ ?_ | exact .int _ _ | exact .bool _ | exact .string _ | exact rel_slice rfl rfl | exact rel_nil rfl rfl | exact rel_ptr rfl | exact .nilPtr | exact .nilIface | exact .nilSlice) (by repeat' first | exact hp_nil | exact ri hi.symm | refine hp_cons rfl rfl ?_ ?_ | refine hp_void rfl rfl ?_ | exact ov_win _ | exact ov_opn _ rfl | exact ov_cells _ _ (by decide))), j + 1, by omega, by omega, by rw [hjn]; exact take_same hxa hyb ht hab, rfl, rfl⟩
  · have hd := decide_eq_false hab
    refine wsq (wsq (wrg (vQ tab rfl (vQ tab rfl (vQ tab rfl (vQ tab rfl (vnl (qth (vcd_true rfl (by simp only [hi, hd, decide_eq_true_eq, decide_eq_false_iff_not, Bool.not_eq_eq_eq_not, Bool.not_true, Bool.not_false, bne_iff_ne, bne_eq_false_iff_eq, beq_iff_eq, beq_eq_false_iff_ne, ne_eq, beq_self_eq_true, bne_self_eq_false, Bool.and_eq_true, Bool.and_eq_false_iff, Bool.or_eq_true, Bool.or_eq_false_iff, and_self, and_true, true_and, Bool.false_eq_true, Bool.true_eq_false, not_false_eq_true, not_true_eq_false]; first | done | omega) ?_)))))))))
    refine vw_skip (qth (wsq (wbk (wsq (vw_draw mixed (dq_op tab rfl rfl rfl rfl (dq_op tab rfl rfl rfl rfl (dq_op tab rfl rfl (ev_index rfl rfl rfl rfl rfl (by omega) (by omega)) (ev_index rfl rfl rfl rfl rfl (by omega) (by omega)) ?_))))))))
    refine dq_op tab rfl rfl (ev_loadrow userR rfl rfl rfl rfl rfl rfl hxa) (ev_loadrow userR rfl rfl rfl rfl rfl rfl hxa) (dq_op tab rfl rfl rfl rfl (dq_op tab rfl rfl rfl rfl (dq_op tab rfl rfl (ev_index rfl rfl rfl rfl rfl (by omega) (by omega)) (ev_index rfl rfl rfl rfl rfl (by omega) (by omega)) ?_)))
    refine dq_op tab rfl rfl (ev_loadrow userR rfl rfl rfl rfl rfl rfl hyb) (ev_loadrow userR rfl rfl rfl rfl rfl rfl hyb) (dq_op tab rfl rfl (ev_neq rfl rfl rfl (user_eq a b)) (ev_neq rfl rfl rfl (user_eq a b)) (vd_nil (by kernel_rfl) ?_))
    refine qth (vcd_true rfl (by simp only [hi, hd, decide_eq_true_eq, decide_eq_false_iff_not, Bool.not_eq_eq_eq_not, Bool.not_true, Bool.not_false, bne_iff_ne, bne_eq_false_iff_eq, beq_iff_eq, beq_eq_false_iff_ne, ne_eq, beq_self_eq_true, bne_self_eq_false, Bool.and_eq_true, Bool.and_eq_false_iff, Bool.or_eq_true, Bool.or_eq_false_iff, and_self, and_true, true_and, Bool.false_eq_true, Bool.true_eq_false, not_false_eq_true, not_true_eq_false]; first | done | omega) ?_)
    refine wsq (wrg (vQ tab rfl (vnl (qth (vw_ret (q_ret (q_thenr (q_thenr (q_ret (q_thenr ?_))))))))))
    exact ⟨⟨.inr rfl, by rw [decide_eq_false (take_diff hxa hyb hab)]; rfl⟩, trivial⟩
set_option maxHeartbeats 4000000 in
theorem same_sess {V : Heap} {n : Nat} {sva svb : Value} {xs ys : List SessV} (ha : Looks V 4 sva (sessR.cells xs) xs.length) (hb : Looks V 4 svb (sessR.cells ys) ys.length) (hx : xs.length ≤ 140737488355328) (hy : ys.length ≤ 140737488355328) :
    Tri Try.prog 16 [sva, svb] n 0 V (fun u L => u = .bool (decide (xs = ys)) ∧ L = []) := by
  refine reads_of_vw (K := 2) (argsI := [.slice (some ⟨0, 0, none⟩) xs.length 0, .slice (some ⟨1, 0, none⟩) ys.length 0]) tab Try.func16 rfl rfl (by simp [Try.f16]) [.look sva xs.length 4, .look svb ys.length 4] [.win (sessR.cells xs) 4, .win (sessR.cells ys) 4] rfl (.look ha (sessR.flat_cells xs) (.look hb (sessR.flat_cells ys) .nil)) (by simp [ownNames]) (by simp [ownNames, lookNames]) (al_cons (.look (a := 0) rfl) (al_cons (.look (a := 1) rfl) al_nil)) (seen_of (sn_look (seen_top (j := 0) rfl) (sn_look (seen_top (j := 1) rfl) sn_nil))) (.bool _) ?_
  by_cases hlen : xs.length = ys.length
  case neg =>
    have hne : xs ≠ ys := fun e => hlen (by rw [e])
    have hd : ((xs.length : Int) != (ys.length : Int)) = true := by simpa using (show ¬ (xs.length : Int) = ys.length by omega)
    refine wsq (wrg (vQ tab rfl (vnl (qth (wsq (wsq (wrg (vQ tab rfl (vQ tab rfl (vQ tab rfl (vQ tab rfl (vQ tab rfl (vnl (qth (vcd_true rfl (by simp only [hd, decide_eq_true_eq, decide_eq_false_iff_not, Bool.not_eq_eq_eq_not, Bool.not_true, Bool.not_false, bne_iff_ne, bne_eq_false_iff_eq, beq_iff_eq, beq_eq_false_iff_ne, ne_eq, beq_self_eq_true, bne_self_eq_false, Bool.and_eq_true, Bool.and_eq_false_iff, Bool.or_eq_true, Bool.or_eq_false_iff, and_self, and_true, true_and, Bool.false_eq_true, Bool.true_eq_false, not_false_eq_true, not_true_eq_false]; first | done | omega) ?_)))))))))))))))
    refine wsq (wrg (vQ tab rfl (vnl (qth (vw_ret (q_thenr ?_))))))
    exact ⟨⟨.inr rfl, by rw [decide_eq_false hne]; rfl⟩, trivial⟩
  have hd : ((xs.length : Int) != (ys.length : Int)) = false := by simpa using (show (xs.length : Int) = ys.length by omega)
  refine wsq (wrg (vQ tab rfl (vnl (qth (wsq (wsq (wrg (vQ tab rfl (vQ tab rfl (vQ tab rfl (vQ tab rfl (vQ tab rfl (vnl (qth (vcd_false rfl (by simp only [hd, decide_eq_true_eq, decide_eq_false_iff_not, Bool.not_eq_eq_eq_not, Bool.not_true, Bool.not_false, bne_iff_ne, bne_eq_false_iff_eq, beq_iff_eq, beq_eq_false_iff_ne, ne_eq, beq_self_eq_true, bne_self_eq_false, Bool.and_eq_true, Bool.and_eq_false_iff, Bool.or_eq_true, Bool.or_eq_false_iff, and_self, and_true, true_and, Bool.false_eq_true, Bool.true_eq_false, not_false_eq_true, not_true_eq_false]; first | done | omega) ?_)))))))))))))))
  refine vw_skip (qth (wsq (wsq (wrg (vQ tab rfl (vnl (qth (wbk ?_))))))))
  refine vw_loop_sub (fun k s => ∃ j : Int, 0 ≤ j ∧ j ≤ xs.length ∧ xs.take j.toNat = ys.take j.toNat ∧ k = (xs.length - j).toNat ∧
      s = ⟨[(0, .slice (some ⟨0, 0, none⟩) xs.length 0), (1, .slice (some ⟨1, 0, none⟩) ys.length 0), (5, .int .i64 j)], lkp [(0, .win (sessR.cells xs) 4), (1, .win (sessR.cells ys) 4)], 2⟩) (xs.length - 0)
    ⟨_, (sub_of (g := 2) [] (by decide) (by decide) (by repeat' first | exact ep_nil | refine ep_cons rfl ?_ ?_ | exact .int _ _ | exact .bool _ | exact .string _ | exact rel_slice rfl rfl | exact rel_nil rfl rfl | exact rel_ptr rfl | exact .nilPtr | exact .nilIface | exact .nilSlice) (by repeat' first | exact hp_nil | refine hp_cons rfl rfl ?_ ?_ | refine hp_void rfl rfl ?_ | exact ov_win _ | exact ov_opn _ rfl | exact ov_cells _ _ (by decide))), 0, by omega, by omega, by simp, by simp, rfl⟩ ?_
  rintro k s ⟨j, h0, h1, ht, rfl, rfl⟩
  by_cases hj : j < (xs.length : Int)
  case neg =>
    have he : xs = ys := by rw [show j.toNat = xs.length by omega, List.take_length, hlen, List.take_length] at ht; exact ht
    refine wsq (wsq (wrg (vQ tab rfl (vQ tab rfl (vQ tab rfl (vQ tab rfl (vnl (qth (vcd_false rfl (by simp only [decide_eq_true_eq, decide_eq_false_iff_not, Bool.not_eq_eq_eq_not, Bool.not_true, Bool.not_false, bne_iff_ne, bne_eq_false_iff_eq, beq_iff_eq, beq_eq_false_iff_ne, ne_eq, beq_self_eq_true, bne_self_eq_false, Bool.and_eq_true, Bool.and_eq_false_iff, Bool.or_eq_true, Bool.or_eq_false_iff, and_self, and_true, true_and, Bool.false_eq_true, Bool.true_eq_false, not_false_eq_true, not_true_eq_false]; first | done | omega) ?_)))))))))
    refine vw_exit (q_thenx (q_thenx (q_here (qth (wsq (wrg (vQ tab rfl (vnl (qth (vw_ret ?_))))))))))
    exact ⟨⟨.inr rfl, by rw [decide_eq_true he]; rfl⟩, trivial⟩
  obtain ⟨a, hxa⟩ := get_some h0 hj
  obtain ⟨b, hyb⟩ := get_some (xs := ys) h0 (by omega)
  have hi : IntKind.i64.wrap (j + 1) = j + 1 := i64_in _ (by omega)
  have hjn : (j + 1).toNat = j.toNat + 1 := by omega
  by_cases hab : a = b
  · have hd := decide_eq_true hab
    refine wsq (wsq (wrg (vQ tab rfl (vQ tab rfl (vQ tab rfl (vQ tab rfl (vnl (qth (vcd_true rfl (by simp only [hi, hd, decide_eq_true_eq, decide_eq_false_iff_not, Bool.not_eq_eq_eq_not, Bool.not_true, Bool.not_false, bne_iff_ne, bne_eq_false_iff_eq, beq_iff_eq, beq_eq_false_iff_ne, ne_eq, beq_self_eq_true, bne_self_eq_false, Bool.and_eq_true, Bool.and_eq_false_iff, Bool.or_eq_true, Bool.or_eq_false_iff, and_self, and_true, true_and, Bool.false_eq_true, Bool.true_eq_false, not_false_eq_true, not_true_eq_false]; first | done | omega) ?_)))))))))
    refine vw_skip (qth (wsq (wbk (wsq (vw_draw mixed (dq_op tab rfl rfl rfl rfl (dq_op tab rfl rfl rfl rfl (dq_op tab rfl rfl (ev_index rfl rfl rfl rfl rfl (by omega) (by omega)) (ev_index rfl rfl rfl rfl rfl (by omega) (by omega)) ?_))))))))
    refine dq_op tab rfl rfl (ev_loadrow sessR rfl rfl rfl rfl rfl rfl hxa) (ev_loadrow sessR rfl rfl rfl rfl rfl rfl hxa) (dq_op tab rfl rfl rfl rfl (dq_op tab rfl rfl rfl rfl (dq_op tab rfl rfl (ev_index rfl rfl rfl rfl rfl (by omega) (by omega)) (ev_index rfl rfl rfl rfl rfl (by omega) (by omega)) ?_)))
    refine dq_op tab rfl rfl (ev_loadrow sessR rfl rfl rfl rfl rfl rfl hyb) (ev_loadrow sessR rfl rfl rfl rfl rfl rfl hyb) (dq_op tab rfl rfl (ev_neq rfl rfl rfl (sess_eq a b)) (ev_neq rfl rfl rfl (sess_eq a b)) (vd_nil (by kernel_rfl) ?_))
    refine qth (vcd_false rfl (by simp only [hi, hd, decide_eq_true_eq, decide_eq_false_iff_not, Bool.not_eq_eq_eq_not, Bool.not_true, Bool.not_false, bne_iff_ne, bne_eq_false_iff_eq, beq_iff_eq, beq_eq_false_iff_ne, ne_eq, beq_self_eq_true, bne_self_eq_false, Bool.and_eq_true, Bool.and_eq_false_iff, Bool.or_eq_true, Bool.or_eq_false_iff, and_self, and_true, true_and, Bool.false_eq_true, Bool.true_eq_false, not_false_eq_true, not_true_eq_false]; first | done | omega) ?_)
    refine vw_skip (q_norm (qth (wrg (vQ tab rfl (vQ tab rfl (vQ tab rfl (vnl (qth ?_))))))))
    exact ⟨(xs.length - (j + 1)).toNat, _, by omega, (sub_of (g := 2) [] (by decide) (by decide) (by repeat' first | exact ep_nil | exact ri hi.symm | refine ep_cons rfl ?_ ?_ | exact .int _ _ | exact .bool _ | exact .string _ | exact rel_slice rfl rfl | exact rel_nil rfl rfl | exact rel_ptr rfl | exact .nilPtr | exact .nilIface | exact .nilSlice) (by repeat' first | exact hp_nil | exact ri hi.symm | refine hp_cons rfl rfl ?_ ?_ | refine hp_void rfl rfl ?_ | exact ov_win _ | exact ov_opn _ rfl | exact ov_cells _ _ (by decide))), j + 1, by omega, by omega, by rw [hjn]; exact take_same hxa hyb ht hab, rfl, rfl⟩
  · have hd := decide_eq_false hab
    refine wsq (wsq (wrg (vQ tab rfl (vQ tab rfl (vQ tab rfl (vQ tab rfl (vnl (qth (vcd_true rfl (by simp only [hi, hd, decide_eq_true_eq, decide_eq_false_iff_not, Bool.not_eq_eq_eq_not, Bool.not_true, Bool.not_false, bne_iff_ne, bne_eq_false_iff_eq, beq_iff_eq, beq_eq_false_iff_ne, ne_eq, beq_self_eq_true, bne_self_eq_false, Bool.and_eq_true, Bool.and_eq_false_iff, Bool.or_eq_true, Bool.or_eq_false_iff, and_self, and_true, true_and, Bool.false_eq_true, Bool.true_eq_false, not_false_eq_true, not_true_eq_false]; first | done | omega) ?_)))))))))
    refine vw_skip (qth (wsq (wbk (wsq (vw_draw mixed (dq_op tab rfl rfl rfl rfl (dq_op tab rfl rfl rfl rfl (dq_op tab rfl rfl (ev_index rfl rfl rfl rfl rfl (by omega) (by omega)) (ev_index rfl rfl rfl rfl rfl (by omega) (by omega)) ?_))))))))
    refine dq_op tab rfl rfl (ev_loadrow sessR rfl rfl rfl rfl rfl rfl hxa) (ev_loadrow sessR rfl rfl rfl rfl rfl rfl hxa) (dq_op tab rfl rfl rfl rfl (dq_op tab rfl rfl rfl rfl (dq_op tab rfl rfl (ev_index rfl rfl rfl rfl rfl (by omega) (by omega)) (ev_index rfl rfl rfl rfl rfl (by omega) (by omega)) ?_)))
    refine dq_op tab rfl rfl (ev_loadrow sessR rfl rfl rfl rfl rfl rfl hyb) (ev_loadrow sessR rfl rfl rfl rfl rfl rfl hyb) (dq_op tab rfl rfl (ev_neq rfl rfl rfl (sess_eq a b)) (ev_neq rfl rfl rfl (sess_eq a b)) (vd_nil (by kernel_rfl) ?_))
    refine qth (vcd_true rfl (by simp only [hi, hd, decide_eq_true_eq, decide_eq_false_iff_not, Bool.not_eq_eq_eq_not, Bool.not_true, Bool.not_false, bne_iff_ne, bne_eq_false_iff_eq, beq_iff_eq, beq_eq_false_iff_ne, ne_eq, beq_self_eq_true, bne_self_eq_false, Bool.and_eq_true, Bool.and_eq_false_iff, Bool.or_eq_true, Bool.or_eq_false_iff, and_self, and_true, true_and, Bool.false_eq_true, Bool.true_eq_false, not_false_eq_true, not_true_eq_false]; first | done | omega) ?_)
    refine wsq (wrg (vQ tab rfl (vnl (qth (vw_ret (q_ret (q_thenr (q_thenr (q_ret (q_thenr ?_))))))))))
    exact ⟨⟨.inr rfl, by rw [decide_eq_false (take_diff hxa hyb hab)]; rfl⟩, trivial⟩
theorem same_ints {V : Heap} {n : Nat} {sva svb : Value} {xs ys : List Int} (ha : Looks V 1 sva ((intR .i64).cells xs) xs.length) (hb : Looks V 1 svb ((intR .i64).cells ys) ys.length) (hx : xs.length ≤ 140737488355328) (hy : ys.length ≤ 140737488355328) :
    Tri Try.prog 19 [sva, svb] n 0 V (fun u L => u = .bool (decide (xs = ys)) ∧ L = []) := by
  refine reads_of_vw (K := 2) (argsI := [.slice (some ⟨0, 0, none⟩) xs.length 0, .slice (some ⟨1, 0, none⟩) ys.length 0]) tab Try.func19 rfl rfl (by simp [Try.f19]) [.look sva xs.length 1, .look svb ys.length 1] [.win ((intR .i64).cells xs) 1, .win ((intR .i64).cells ys) 1] rfl (.look ha ((intR .i64).flat_cells xs) (.look hb ((intR .i64).flat_cells ys) .nil)) (by simp [ownNames]) (by simp [ownNames, lookNames]) (al_cons (.look (a := 0) rfl) (al_cons (.look (a := 1) rfl) al_nil)) (seen_of (sn_look (seen_top (j := 0) rfl) (sn_look (seen_top (j := 1) rfl) sn_nil))) (.bool _) ?_
  by_cases hlen : xs.length = ys.length
  case neg =>
    have hne : xs ≠ ys := fun e => hlen (by rw [e])
    have hd : ((xs.length : Int) != (ys.length : Int)) = true := by simpa using (show ¬ (xs.length : Int) = ys.length by omega)
    refine wsq (wrg (vQ tab rfl (vnl (qth (wsq (wsq (wrg (vQ tab rfl (vQ tab rfl (vQ tab rfl (vQ tab rfl (vQ tab rfl (vnl (qth (vcd_true rfl (by simp only [hd, decide_eq_true_eq, decide_eq_false_iff_not, Bool.not_eq_eq_eq_not, Bool.not_true, Bool.not_false, bne_iff_ne, bne_eq_false_iff_eq, beq_iff_eq, beq_eq_false_iff_ne, ne_eq, beq_self_eq_true, bne_self_eq_false, Bool.and_eq_true, Bool.and_eq_false_iff, Bool.or_eq_true, Bool.or_eq_false_iff, and_self, and_true, true_and, Bool.false_eq_true, Bool.true_eq_false, not_false_eq_true, not_true_eq_false]; first | done | omega) ?_)))))))))))))))
    refine wsq (wrg (vQ tab rfl (vnl (qth (vw_ret (q_thenr ?_))))))
    exact ⟨⟨.inr rfl, by rw [decide_eq_false hne]; rfl⟩, trivial⟩
  have hd : ((xs.length : Int) != (ys.length : Int)) = false := by simpa using (show (xs.length : Int) = ys.length by omega)
  refine wsq (wrg (vQ tab rfl (vnl (qth (wsq (wsq (wrg (vQ tab rfl (vQ tab rfl (vQ tab rfl (vQ tab rfl (vQ tab rfl (vnl (qth (vcd_false rfl (by simp only [hd, decide_eq_true_eq, decide_eq_false_iff_not, Bool.not_eq_eq_eq_not, Bool.not_true, Bool.not_false, bne_iff_ne, bne_eq_false_iff_eq, beq_iff_eq, beq_eq_false_iff_ne, ne_eq, beq_self_eq_true, bne_self_eq_false, Bool.and_eq_true, Bool.and_eq_false_iff, Bool.or_eq_true, Bool.or_eq_false_iff, and_self, and_true, true_and, Bool.false_eq_true, Bool.true_eq_false, not_false_eq_true, not_true_eq_false]; first | done | omega) ?_)))))))))))))))
  refine vw_skip (qth (wsq (wsq (wrg (vQ tab rfl (vnl (qth (wbk ?_))))))))
  refine vw_loop_sub (fun k s => ∃ j : Int, 0 ≤ j ∧ j ≤ xs.length ∧ xs.take j.toNat = ys.take j.toNat ∧ k = (xs.length - j).toNat ∧
      s = ⟨[(0, .slice (some ⟨0, 0, none⟩) xs.length 0), (1, .slice (some ⟨1, 0, none⟩) ys.length 0), (5, .int .i64 j)], lkp [(0, .win ((intR .i64).cells xs) 1), (1, .win ((intR .i64).cells ys) 1)], 2⟩) (xs.length - 0)
    ⟨_, (sub_of (g := 2) [] (by decide) (by decide) (by repeat' first | exact ep_nil | refine ep_cons rfl ?_ ?_ | exact .int _ _ | exact .bool _ | exact .string _ | exact rel_slice rfl rfl | exact rel_nil rfl rfl | exact rel_ptr rfl | exact .nilPtr | exact .nilIface | exact .nilSlice) (by repeat' first | exact hp_nil | refine hp_cons rfl rfl ?_ ?_ | refine hp_void rfl rfl ?_ | exact ov_win _ | exact ov_opn _ rfl | exact ov_cells _ _ (by decide))), 0, by omega, by omega, by simp, by simp, rfl⟩ ?_
  rintro k s ⟨j, h0, h1, ht, rfl, rfl⟩
  by_cases hj : j < (xs.length : Int)
  case neg =>
    have he : xs = ys := by rw [show j.toNat = xs.length by omega, List.take_length, hlen, List.take_length] at ht; exact ht
    refine wsq (wsq (wrg (vQ tab rfl (vQ tab rfl (vQ tab rfl (vQ tab rfl (vnl (qth (vcd_false rfl (by simp only [decide_eq_true_eq, decide_eq_false_iff_not, Bool.not_eq_eq_eq_not, Bool.not_true, Bool.not_false, bne_iff_ne, bne_eq_false_iff_eq, beq_iff_eq, beq_eq_false_iff_ne, ne_eq, beq_self_eq_true, bne_self_eq_false, Bool.and_eq_true, Bool.and_eq_false_iff, Bool.or_eq_true, Bool.or_eq_false_iff, and_self, and_true, true_and, Bool.false_eq_true, Bool.true_eq_false, not_false_eq_true, not_true_eq_false]; first | done | omega) ?_)))))))))
    refine vw_exit (q_thenx (q_thenx (q_here (qth (wsq (wrg (vQ tab rfl (vnl (qth (vw_ret ?_))))))))))
    exact ⟨⟨.inr rfl, by rw [decide_eq_true he]; rfl⟩, trivial⟩
  obtain ⟨a, hxa⟩ := get_some h0 hj
  obtain ⟨b, hyb⟩ := get_some (xs := ys) h0 (by omega)
  have hi : IntKind.i64.wrap (j + 1) = j + 1 := i64_in _ (by omega)
  have hjn : (j + 1).toNat = j.toNat + 1 := by omega
  by_cases hab : a = b
  · have hd : (a != b) = false := by simpa using hab
    refine wsq (wsq (wrg (vQ tab rfl (vQ tab rfl (vQ tab rfl (vQ tab rfl (vnl (qth (vcd_true rfl (by simp only [hi, hd, decide_eq_true_eq, decide_eq_false_iff_not, Bool.not_eq_eq_eq_not, Bool.not_true, Bool.not_false, bne_iff_ne, bne_eq_false_iff_eq, beq_iff_eq, beq_eq_false_iff_ne, ne_eq, beq_self_eq_true, bne_self_eq_false, Bool.and_eq_true, Bool.and_eq_false_iff, Bool.or_eq_true, Bool.or_eq_false_iff, and_self, and_true, true_and, Bool.false_eq_true, Bool.true_eq_false, not_false_eq_true, not_true_eq_false]; first | done | omega) ?_)))))))))
    refine vw_skip (qth (wsq (wbk (wsq (vw_draw mixed (dq_op tab rfl rfl rfl rfl (dq_op tab rfl rfl rfl rfl (dq_op tab rfl rfl (ev_index rfl rfl rfl rfl rfl (by omega) (by omega)) (ev_index rfl rfl rfl rfl rfl (by omega) (by omega)) ?_))))))))
    refine dq_op tab rfl rfl (ev_val (intR .i64) rfl rfl rfl rfl rfl hxa rfl) (ev_val (intR .i64) rfl rfl rfl rfl rfl hxa rfl) (dq_op tab rfl rfl rfl rfl (dq_op tab rfl rfl rfl rfl (dq_op tab rfl rfl (ev_index rfl rfl rfl rfl rfl (by omega) (by omega)) (ev_index rfl rfl rfl rfl rfl (by omega) (by omega)) ?_)))
    refine dq_op tab rfl rfl (ev_val (intR .i64) rfl rfl rfl rfl rfl hyb rfl) (ev_val (intR .i64) rfl rfl rfl rfl rfl hyb rfl) (dq_op tab rfl rfl rfl rfl (vd_nil (by kernel_rfl) ?_))
    refine qth (vcd_false rfl (by simp only [hi, hd, decide_eq_true_eq, decide_eq_false_iff_not, Bool.not_eq_eq_eq_not, Bool.not_true, Bool.not_false, bne_iff_ne, bne_eq_false_iff_eq, beq_iff_eq, beq_eq_false_iff_ne, ne_eq, beq_self_eq_true, bne_self_eq_false, Bool.and_eq_true, Bool.and_eq_false_iff, Bool.or_eq_true, Bool.or_eq_false_iff, and_self, and_true, true_and, Bool.false_eq_true, Bool.true_eq_false, not_false_eq_true, not_true_eq_false]; first | done | omega) ?_)
    refine vw_skip (q_norm (qth (wrg (vQ tab rfl (vQ tab rfl (vQ tab rfl (vnl (qth ?_))))))))
    exact ⟨(xs.length - (j + 1)).toNat, _, by omega, (sub_of (g := 2) [] (by decide) (by decide) (by repeat' first | exact ep_nil | exact ri hi.symm | refine ep_cons rfl ?_ ?_ | exact .int _ _ | exact .bool _ | exact .string _ | exact rel_slice rfl rfl | exact rel_nil rfl rfl | exact rel_ptr rfl | exact .nilPtr | exact .nilIface | exact .nilSlice) (by repeat' first | exact hp_nil | exact ri hi.symm | refine hp_cons rfl rfl ?_ ?_ | refine hp_void rfl rfl ?_ | exact ov_win _ | exact ov_opn _ rfl | exact ov_cells _ _ (by decide))), j + 1, by omega, by omega, by rw [hjn]; exact take_same hxa hyb ht hab, rfl, rfl⟩
  · have hd : (a != b) = true := by simpa using hab
    refine wsq (wsq (wrg (vQ tab rfl (vQ tab rfl (vQ tab rfl (vQ tab rfl (vnl (qth (vcd_true rfl (by simp only [hi, hd, decide_eq_true_eq, decide_eq_false_iff_not, Bool.not_eq_eq_eq_not, Bool.not_true, Bool.not_false, bne_iff_ne, bne_eq_false_iff_eq, beq_iff_eq, beq_eq_false_iff_ne, ne_eq, beq_self_eq_true, bne_self_eq_false, Bool.and_eq_true, Bool.and_eq_false_iff, Bool.or_eq_true, Bool.or_eq_false_iff, and_self, and_true, true_and, Bool.false_eq_true, Bool.true_eq_false, not_false_eq_true, not_true_eq_false]; first | done | omega) ?_)))))))))
    refine vw_skip (qth (wsq (wbk (wsq (vw_draw mixed (dq_op tab rfl rfl rfl rfl (dq_op tab rfl rfl rfl rfl (dq_op tab rfl rfl (ev_index rfl rfl rfl rfl rfl (by omega) (by omega)) (ev_index rfl rfl rfl rfl rfl (by omega) (by omega)) ?_))))))))
    refine dq_op tab rfl rfl (ev_val (intR .i64) rfl rfl rfl rfl rfl hxa rfl) (ev_val (intR .i64) rfl rfl rfl rfl rfl hxa rfl) (dq_op tab rfl rfl rfl rfl (dq_op tab rfl rfl rfl rfl (dq_op tab rfl rfl (ev_index rfl rfl rfl rfl rfl (by omega) (by omega)) (ev_index rfl rfl rfl rfl rfl (by omega) (by omega)) ?_)))
    refine dq_op tab rfl rfl (ev_val (intR .i64) rfl rfl rfl rfl rfl hyb rfl) (ev_val (intR .i64) rfl rfl rfl rfl rfl hyb rfl) (dq_op tab rfl rfl rfl rfl (vd_nil (by kernel_rfl) ?_))
    refine qth (vcd_true rfl (by simp only [hi, hd, decide_eq_true_eq, decide_eq_false_iff_not, Bool.not_eq_eq_eq_not, Bool.not_true, Bool.not_false, bne_iff_ne, bne_eq_false_iff_eq, beq_iff_eq, beq_eq_false_iff_ne, ne_eq, beq_self_eq_true, bne_self_eq_false, Bool.and_eq_true, Bool.and_eq_false_iff, Bool.or_eq_true, Bool.or_eq_false_iff, and_self, and_true, true_and, Bool.false_eq_true, Bool.true_eq_false, not_false_eq_true, not_true_eq_false]; first | done | omega) ?_)
    refine wsq (wrg (vQ tab rfl (vnl (qth (vw_ret (q_ret (q_thenr (q_thenr (q_ret (q_thenr ?_))))))))))
    exact ⟨⟨.inr rfl, by rw [decide_eq_false (take_diff hxa hyb hab)]; rfl⟩, trivial⟩
/-- The config of the statements. -/
def plainC : ConfV := ⟨100, 2, 2, 3, 2, 20, 10, 15, 60, 8, 50, 1⟩
theorem plain_fun : Fun Try.prog 14 [] (confV plainC) := by
  refine fun_of_vw tab Try.func14 rfl rfl (by simp [Try.f14]) lrel_nil (confRel _) ?_
  refine wsq (wrg (vN tab rfl (vnl (qth (wsq (wrg (vQ tab rfl (vS tab rfl (vnl (qth (vw_ret ?_)))))))))))
  exact ⟨.inr rfl, rfl⟩
/-- Two users come, then more. -/
def beginE : List EventV := [⟨0, 0, 0, 0, 0, 0, 0, 0⟩, ⟨1, 0, 0, 0, 5, 6, 50, 0⟩, ⟨1, 1, 0, 0, 7, 8, 60, 0⟩]
theorem begun_tri {V : Heap} {n : Nat} {sv : Value} {cf : ConfV} {es : List EventV} {s : StV} (hl : Looks V 8 sv (evtR.cells es) es.length) (hb : es.length ≤ 1000) (hr : allS cf (beginE ++ es) = (s, 0)) (hEnd : endsB cf (newS cf.addresses).1 (beginE ++ es) = true) :
    Tri Try.prog 15 [confV cf, sv] n 4 V (fun u L => u = .tuple #[stV n (n + 1) (n + 2) (n + 3) s, .bool true] ∧ L = stL n s) := by
  refine call_of_vw (K := 1) (argsI := [confV cf, .slice (some ⟨0, 0, none⟩) es.length 0]) tab Try.func15 rfl rfl (by simp [Try.f15]) [.look sv es.length 8] [.win (evtR.cells es) 8] rfl (.look hl (evtR.flat_cells es) .nil) (by simp [ownNames]) (by simp [ownNames, lookNames]) (by simp [ownNames, *]) (al_cons (.val (confRel cf)) (al_cons (.look (a := 0) rfl) al_nil)) (seen_of (sn_look (seen_top (j := 1) rfl) sn_nil)) ?_
  have hlen : (beginE ++ es).length = 3 + es.length := by rw [List.length_append]; rfl
  refine wsq (wrg (vN tab rfl (vN tab rfl (vQ tab rfl (vnl (qth (wsq (wrg (vQ tab rfl (vQ tab rfl (vQ tab rfl (vN tab rfl (vQ tab rfl (vnl (qth (wsq (wrg (vQ tab rfl (vQ tab rfl (vo_op rfl rfl rfl (opr_ev tab (ev_app evtR (xs := beginE) (ys := es) (m := es.length) rfl rfl rfl rfl rfl rfl (news_all evtR rfl rfl) rfl rfl (by show (3 + _) * 64 ≤ _; omega) (by omega))) ?_))))))))))))))))))))
  refine vQ tab rfl (vnl (qth (wsq (wrg (vQ tab rfl (vQ tab rfl (vT rfl callable_10 (all_as (es := beginE ++ es) hr hEnd (by omega) (looks_of (looks_opn evtR (xs := beginE ++ es) rfl hlen.symm) hlen.symm)) ?_)))))))
  refine vQ tab rfl (vQ tab rfl (vQ tab rfl (vN tab rfl (vS tab rfl (vQ tab rfl (vnl (qth (wsq (vw_draw mixed (dq_op tab rfl rfl rfl rfl (dq_op tab rfl rfl rfl rfl (df_op rfl rfl rfl rfl rfl callable_11 (num_fun _) (dq_op tab rfl rfl rfl rfl (ds_op tab rfl rfl rfl rfl (dq_op tab rfl rfl rfl rfl (vd_nil (by kernel_rfl) ?_))))))))))))))))
  refine qth (vw_ret ?_)
  exact out_mk [5, 6, 7, 8] (.inr rfl) ⟨rfl, rfl⟩ rfl (vrel_tuple (lrel_cons (vrel_agg (lrel_cons (.int _ _) (lrel_cons (.int _ _) (lrel_cons (.int _ _) (lrel_cons (rel_slice (sigma_look (i := 0) rfl) rfl) (lrel_cons (rel_slice (sigma_look (i := 1) rfl) rfl) (lrel_cons (rel_slice (sigma_look (i := 2) rfl) rfl) (lrel_cons (rel_slice (sigma_look (i := 3) rfl) rfl) lrel_nil)))))))) (lrel_cons (.bool _) lrel_nil))) (op_cons (sigma_look (i := 0) rfl) rfl rfl (ov_opn userR rfl) rfl (op_cons (sigma_look (i := 1) rfl) rfl rfl (ov_opn sessR rfl) rfl (op_cons (sigma_look (i := 2) rfl) rfl rfl (ov_opn addrR rfl) rfl (op_cons (sigma_look (i := 3) rfl) rfl rfl (ov_opn (intR .i64) rfl) rfl op_nil)))) trivial
end Go.Proofs.Ytcjfidfealifhaa
