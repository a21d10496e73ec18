/- Law 20: StateParts: the state of events is that of their beginning, and the rest behind. -/
import Derived.Test.YtcjfidfealifhaaVg1
import Derived.Test.YtcjfidfealifhaaSb5
import Derived.Test.YtcjfidfealifhaaCl0
namespace Go.Proofs.Ytcjfidfealifhaa
open Go Vm IntWalk
set_option linter.unusedVariables false
set_option linter.unusedSimpArgs false
set_option maxHeartbeats 16000000
theorem goS_bad {c : ConfV} : ∀ (xs : List EventV) (s : StV), (goS c s xs).2 ≠ 0 → (goS c s xs).1 = st0
  | [], s, h => absurd rfl h
  | e :: r, s, h => by
    obtain ⟨t, f, ha⟩ : ∃ t f, applyS c s e = (t, f) := ⟨_, _, rfl⟩
    rw [goS_cons, ha, goS_if] at h ⊢
    by_cases hf : f = 0
    · rw [if_pos hf] at h ⊢; exact goS_bad r t h
    · rw [if_neg hf]
theorem goS_app {c : ConfV} {ys : List EventV} : ∀ (xs : List EventV) (s : StV), goS c s (xs ++ ys) = if (goS c s xs).2 = 0 then goS c (goS c s xs).1 ys else (st0, (goS c s xs).2)
  | [], s => (if_pos rfl).symm
  | e :: r, s => by
    obtain ⟨t, f, ha⟩ : ∃ t f, applyS c s e = (t, f) := ⟨_, _, rfl⟩
    rw [List.cons_append, goS_cons, goS_cons, ha, goS_if, goS_if]
    by_cases hf : f = 0
    · simp only [if_pos hf]; exact goS_app r t
    · simp only [if_neg hf]
theorem goS_fit {c : ConfV} : ∀ (xs : List EventV) (k : Nat) (s : StV), Fit k s → Fit (k + xs.length) (goS c s xs).1
  | [], k, s, h => h
  | e :: r, k, s, h => by
    obtain ⟨t, f, ha⟩ : ∃ t f, applyS c s e = (t, f) := ⟨_, _, rfl⟩
    rw [goS_cons, ha, goS_if]
    have ht : Fit (k + 1) t := by have := apply_fit (c := c) (e := e) h; rw [ha] at this; exact this
    by_cases hf : f = 0
    · rw [if_pos hf]
      have := goS_fit (c := c) r (k + 1) t ht
      rw [List.length_cons, show k + (r.length + 1) = k + 1 + r.length by omega]; exact this
    · rw [if_neg hf]; exact fit_st0
theorem allS_app {c : ConfV} {xs ys : List EventV} : allS c (xs ++ ys) = if (allS c xs).2 = 0 then goS c (allS c xs).1 ys else (st0, (allS c xs).2) := by
  obtain ⟨s, f, hn⟩ : ∃ s f, newS c.addresses = (s, f) := ⟨_, _, rfl⟩
  rw [allS_eq hn, allS_eq hn]
  by_cases hf : f = 0
  · simp only [if_pos hf]; exact goS_app xs s
  · simp only [if_neg hf]
theorem allS_bad {c : ConfV} {xs : List EventV} (h : (allS c xs).2 ≠ 0) : (allS c xs).1 = st0 := by
  obtain ⟨s, f, hn⟩ : ∃ s f, newS c.addresses = (s, f) := ⟨_, _, rfl⟩
  rw [allS_eq hn] at h ⊢
  by_cases hf : f = 0
  · rw [if_pos hf] at h ⊢; exact goS_bad xs s h
  · rw [if_neg hf]
theorem allS_fit {c : ConfV} {xs : List EventV} : Fit xs.length (allS c xs).1 := by
  obtain ⟨s, f, hn⟩ : ∃ s f, newS c.addresses = (s, f) := ⟨_, _, rfl⟩
  rw [allS_eq hn]
  have hs : Fit 0 s := by have := @new_fit c.addresses; rw [hn] at this; exact this
  by_cases hf : f = 0
  · rw [if_pos hf]; have := goS_fit (c := c) xs 0 s hs; rw [Nat.zero_add] at this; exact this
  · rw [if_neg hf]; exact fit_st0
theorem looks_pre {V : Heap} {es : List EventV} {k : Nat} {off : Nat} (hV : V 0 = some (.win (evtR.cells es) 8)) (ho : off = 0) (hk : k ≤ es.length) : Looks V 8 (.slice (some ⟨0, off, none⟩) k 0) (evtR.cells (es.take k)) (es.take k).length := by
  subst ho
  have := Looks.win (V := V) (i := 0) (off := 0) (m := k) hV evtR.pos (by rw [evtR.length, Nat.zero_add]; exact Nat.mul_le_mul_right _ hk)
  have h2 : (evtR.cells es).take (k * 8) = evtR.cells (es.take k) := evtR.take es k
  rw [List.drop_zero, h2] at this
  rw [List.length_take, Nat.min_eq_left hk]; exact this
theorem fit_lens {k : Nat} {s : StV} (h : Fit k s) (hk : k ≤ 2199023255488) : s.users.length ≤ 8 ∧ s.sess.length ≤ 2199023255488 ∧ s.addrs.length ≤ 16 ∧ s.spent.length ≤ 2199023255488 :=
  ⟨srt_eight h.1, Nat.le_trans h.2.1 hk, h.2.2.1, Nat.le_trans h.2.2.2 hk⟩
theorem StateParts_law (cf : ConfV) (es : List EventV) (cut : Int) (hb : es.length * 64 ≤ 140737488351232) :
    Tri Try.prog 3 [confV cf, .slice (some ⟨0, 0, none⟩) es.length 0, .int .i64 cut] 1 0 (lkp (oHeap 0 (wObjs [(evtR.cells es, 8)]))) (fun u L => u = .bool true ∧ L = []) := by
  refine law_of_vw tab Try.func3 rfl rfl (by simp [Try.f3]) 1 [(evtR.cells es, 8)] rfl (by intro x hx; simp only [List.mem_singleton] at hx; subst hx; exact evtR.flat_cells es)
    (lrel_cons (confRel cf) (lrel_cons (rel_slice rfl rfl) (lrel_cons (.int _ _) lrel_nil))) (.bool _) ?_
  have hel : es.length ≤ 2199023255488 := by omega
  obtain ⟨K, hK⟩ : ∃ K, K = IntKind.i64.wrap ((IntKind.u64.wrap cut).tmod (IntKind.u64.wrap (IntKind.i64.wrap ((es.length : Int) + 1)))) := ⟨_, rfl⟩
  have hKv : 0 ≤ K ∧ K ≤ (es.length : Int) := by
    have e1 : IntKind.u64.wrap (IntKind.i64.wrap ((es.length : Int) + 1)) = (es.length : Int) + 1 := by rw [i64_in _ (by omega), wrapu]; omega
    have e2 : (IntKind.u64.wrap cut).tmod ((es.length : Int) + 1) = (cut % 18446744073709551616) % ((es.length : Int) + 1) := by rw [wrapu, Int.tmod_eq_emod_of_nonneg (by omega)]
    have e3 := Int.emod_nonneg (cut % 18446744073709551616) (b := (es.length : Int) + 1) (by omega)
    have e4 := Int.emod_lt_of_pos (cut % 18446744073709551616) (b := (es.length : Int) + 1) (by omega)
    rw [hK, e1, e2, i64_in _ (by omega)]; omega
  have h0 : IntKind.u64.wrap (IntKind.i64.wrap ((es.length : Int) + 1)) ≠ 0 := by rw [i64_in _ (by omega), wrapu]; omega
  obtain ⟨k, hk⟩ : ∃ k : Nat, K = (k : Int) := ⟨K.toNat, by omega⟩
  have hkl : k ≤ es.length := by omega
  obtain ⟨S, e, hS⟩ : ∃ S e, allS cf es = (S, e) := ⟨_, _, rfl⟩
  obtain ⟨T, f, hT⟩ : ∃ T f, allS cf (es.take k) = (T, f) := ⟨_, _, rfl⟩
  have hfS := fit_lens (s := S) (by have := @allS_fit cf es; rw [hS] at this; exact this) hel
  have hfT : Fit k T := by have := @allS_fit cf (es.take k); rw [hT, List.length_take, Nat.min_eq_left hkl] at this; exact this
  have hfTl := fit_lens hfT (by omega)
  have hcutv : IntKind.i64.wrap ((IntKind.u64.wrap cut).tmod (IntKind.u64.wrap (IntKind.i64.wrap ((es.length : Int) + 1)))) = (k : Int) := by rw [← hK, hk]
  have happ : allS cf es = if f = 0 then goS cf T (es.drop k) else (st0, f) := by
    have := @allS_app cf (es.take k) (es.drop k)
    rw [List.take_append_drop, hT] at this; exact this
  rw [hS] at happ
  have hbn : ∀ d, bnd d (some (some (.int .i64 (IntKind.i64.wrap ((IntKind.u64.wrap cut).tmod (IntKind.u64.wrap (IntKind.i64.wrap ((es.length : Int) + 1)))))))) = some k := fun d => by rw [hcutv]; exact bnd_nat _
  obtain ⟨s1, s2, s3, s4⟩ := hfS
  obtain ⟨t1, t2, t3, t4⟩ := hfTl
  by_cases hf : f = 0
  case neg =>
    rw [if_neg hf] at happ
    obtain ⟨rfl, rfl⟩ : S = st0 ∧ e = f := ⟨(Prod.mk.inj happ).1, (Prod.mk.inj happ).2⟩
    obtain rfl : T = st0 := by have := allS_bad (c := cf) (xs := es.take k) (by rw [hT]; exact hf); rw [hT] at this; exact this
    have hfn : (e != 0) = true := by simpa using hf
    refine wsq (wrg (vN tab rfl (vQ tab rfl (vnl (qth (wsq (wsq (wrg (vF rfl callable_9 (state_awake) (vQ tab rfl (vnl (qth (vc_false rfl (vw_skip (qth (wsq (wrg (vQ tab rfl (vQ tab rfl (vQ tab rfl (vQ tab rfl (vQ tab rfl (vQ tab rfl ?_)))))))))))))))))))))))
    refine vq_op tab rfl rfl rfl (rem_ev rfl rfl h0) (vQ tab rfl (vQ tab rfl (vnl (qth (wsq (wrg (vQ tab rfl (vQ tab rfl (vT rfl callable_10 (all_any hS hel (looks_win evtR rfl rfl)) (vQ tab rfl (vQ tab rfl (vQ tab rfl (vN tab rfl (vS tab rfl (vQ tab rfl (vnl (qth (wsq (vw_draw mixed (dq_op tab rfl rfl rfl rfl (dq_op tab rfl rfl rfl rfl (dq_op tab rfl rfl rfl rfl (dq_op tab rfl rfl (ev_slice_win evtR (p := 0) (l := 0) (h := k) rfl rfl rfl rfl rfl rfl rfl (hbn _) (Nat.zero_le _) hkl (.inr rfl)) (ev_slice_win evtR (p := 0) (l := 0) (h := k) rfl rfl rfl rfl rfl rfl rfl (hbn _) (Nat.zero_le _) hkl (.inr rfl)) ?_)))))))))))))))))))))))
    refine dt_op [0, 1] rfl rfl rfl rfl rfl callable_10 (all_any (es := es.take k) hT (by rw [List.length_take]; omega) (looks_pre rfl rfl hkl)) ?_
    refine dq_op tab rfl rfl rfl rfl (dq_op tab rfl rfl rfl rfl (dq_op tab rfl rfl rfl rfl (dn_op tab rfl rfl rfl rfl (ds_op tab rfl rfl rfl rfl (dq_op tab rfl rfl rfl rfl (vd_nil (by kernel_rfl) ?_))))))
    refine qth (wsq (wsq (wrg (vQ tab rfl (vF rfl callable_11 (num_fun _) (vQ tab rfl (vnl (qth (vcd_true rfl (by simp only [eq_self, decide_true, hfn, decide_eq_true_eq, decide_eq_false_iff_not, Bool.not_eq_eq_eq_not, Bool.not_true, Bool.not_false, bne_iff_ne, bne_eq_false_iff_eq, beq_iff_eq, beq_eq_false_iff_ne, ne_eq, beq_self_eq_true, bne_self_eq_false, Bool.and_eq_true, Bool.and_eq_false_iff, Bool.or_eq_true, Bool.or_eq_false_iff, and_self, and_true, true_and, Bool.false_eq_true, Bool.true_eq_false, not_false_eq_true, not_true_eq_false]; first | done | omega) ?_)))))))))
    refine wsq (wrg (vQ tab rfl (vF rfl callable_11 (num_fun _) (vQ tab rfl (vF rfl callable_11 (num_fun _) (vQ tab rfl (vQ tab rfl (vgd_op true rfl rfl rfl (by simp only [eq_self, decide_true, hfn, decide_eq_true_eq, decide_eq_false_iff_not, Bool.not_eq_eq_eq_not, Bool.not_true, Bool.not_false, bne_iff_ne, bne_eq_false_iff_eq, beq_iff_eq, beq_eq_false_iff_ne, ne_eq, beq_self_eq_true, bne_self_eq_false, Bool.and_eq_true, Bool.and_eq_false_iff, Bool.or_eq_true, Bool.or_eq_false_iff, and_self, and_true, true_and, Bool.false_eq_true, Bool.true_eq_false, not_false_eq_true, not_true_eq_false]; first | done | omega) ?_))))))))
    refine vQ tab rfl (vQ tab rfl (vR rfl callable_12 (same_state (s := st0) (t := st0) (looks_opn userR rfl rfl) (looks_opn sessR rfl rfl) (looks_opn addrR rfl rfl) (looks_opn (intR .i64) rfl rfl) (looks_opn userR rfl rfl) (looks_opn sessR rfl rfl) (looks_opn addrR rfl rfl) (looks_opn (intR .i64) rfl rfl) (by omega) (by omega) (by omega) (by omega) (by omega) (by omega) (by omega) (by omega)) ?_))
    refine vQ tab rfl (vQ tab rfl (vnl (qth (vw_ret (q_thenr ?_)))))
    exact ⟨.inr rfl, rfl⟩
  subst hf
  rw [if_pos rfl] at happ
  refine wsq (wrg (vN tab rfl (vQ tab rfl (vnl (qth (wsq (wsq (wrg (vF rfl callable_9 (state_awake) (vQ tab rfl (vnl (qth (vc_false rfl (vw_skip (qth (wsq (wrg (vQ tab rfl (vQ tab rfl (vQ tab rfl (vQ tab rfl (vQ tab rfl (vQ tab rfl ?_)))))))))))))))))))))))
  refine vq_op tab rfl rfl rfl (rem_ev rfl rfl h0) (vQ tab rfl (vQ tab rfl (vnl (qth (wsq (wrg (vQ tab rfl (vQ tab rfl (vT rfl callable_10 (all_any hS hel (looks_win evtR rfl rfl)) (vQ tab rfl (vQ tab rfl (vQ tab rfl (vN tab rfl (vS tab rfl (vQ tab rfl (vnl (qth (wsq (vw_draw mixed (dq_op tab rfl rfl rfl rfl (dq_op tab rfl rfl rfl rfl (dq_op tab rfl rfl rfl rfl (dq_op tab rfl rfl (ev_slice_win evtR (p := 0) (l := 0) (h := k) rfl rfl rfl rfl rfl rfl rfl (hbn _) (Nat.zero_le _) hkl (.inr rfl)) (ev_slice_win evtR (p := 0) (l := 0) (h := k) rfl rfl rfl rfl rfl rfl rfl (hbn _) (Nat.zero_le _) hkl (.inr rfl)) ?_)))))))))))))))))))))))
  refine dt_op [0, 1] rfl rfl rfl rfl rfl callable_10 (all_any (es := es.take k) hT (by rw [List.length_take]; omega) (looks_pre rfl rfl hkl)) ?_
  refine dq_op tab rfl rfl rfl rfl (dq_op tab rfl rfl rfl rfl (dq_op tab rfl rfl rfl rfl (dn_op tab rfl rfl rfl rfl (ds_op tab rfl rfl rfl rfl (dq_op tab rfl rfl rfl rfl (vd_nil (by kernel_rfl) ?_))))))
  refine qth (wsq (wsq (wrg (vQ tab rfl (vF rfl callable_11 (num_fun _) (vQ tab rfl (vnl (qth (vc_false rfl (vw_skip (qth (wsq (wsq (wrg (vQ tab rfl (vQ tab rfl (vnl (qth (wbk ?_)))))))))))))))))))
  rw [hcutv]
  refine vw_loop_sub (fun m st => ∃ (j : Int) (t : StV), 0 ≤ j ∧ j ≤ es.length ∧ Fit j.toNat t ∧ (S, e) = goS cf t (es.drop j.toNat) ∧ m = (es.length - j).toNat ∧
      st = ⟨[(1, .slice (some ⟨0, 0, none⟩) es.length 0), (3, .pointer (some ⟨1, 0, none⟩)), (8, .pointer (some ⟨2, 0, none⟩)), (9, .int .i64 e), (10, .pointer (some ⟨3, 0, none⟩)), (12, .int .i64 j)],
        lkp [(0, .win (evtR.cells es) 8), (1, confO cf), (2, stO 4 5 6 7 S), (3, stO 8 9 10 11 t), (4, .opn (userR.cells S.users) 49 9), (5, .opn (sessR.cells S.sess) 54 4), (6, .opn (addrR.cells S.addrs) 58 3), (7, .opn ((intR .i64).cells S.spent) 3 1), (8, .opn (userR.cells t.users) 49 9), (9, .opn (sessR.cells t.sess) 54 4), (10, .opn (addrR.cells t.addrs) 58 3), (11, .opn ((intR .i64).cells t.spent) 3 1)], 12⟩) (es.length - k)
    ⟨_, (sub_of (g := 1) [1, 6, 11, 2, 3, 4, 5, 7, 8, 9, 10] (by decide) (by decide) (by repeat' first | exact ep_nil | exact ov_conf rfl | exact ov_st (rel_slice rfl rfl) (rel_slice rfl rfl) (rel_slice rfl rfl) (rel_slice rfl rfl) | refine ep_cons rfl ?_ ?_ | exact .int _ _ | exact .bool _ | exact .string _ | exact rel_slice rfl rfl | exact rel_nil rfl rfl | exact rel_ptr rfl | exact .nilPtr | exact .nilIface | exact .nilSlice) (by repeat' first | exact hp_nil | exact ov_conf rfl | exact ov_st (rel_slice rfl rfl) (rel_slice rfl rfl) (rel_slice rfl rfl) (rel_slice rfl rfl) | refine hp_cons rfl rfl ?_ ?_ | refine hp_void rfl rfl ?_ | exact ov_win _ | exact ov_opn _ rfl | exact ov_cells _ _ (by decide))), k, T, by omega, by omega, hfT, happ, by omega, rfl⟩ ?_
  rintro m st ⟨j, t, g0, g1, hs, hr, rfl, rfl⟩
  obtain ⟨t1, t2, t3, t4⟩ := fit_lens hs (by omega)
  by_cases hj : j < (es.length : Int)
  case neg =>
    rw [List.drop_eq_nil_of_le (by omega)] at hr
    obtain ⟨rfl, rfl⟩ : S = t ∧ e = 0 := ⟨(Prod.mk.inj hr).1, (Prod.mk.inj hr).2⟩
    refine wsq (wsq (wrg (vQ tab rfl (vQ tab rfl (vQ tab rfl (vQ tab rfl (vnl (qth (vcd_false rfl (by simp only [eq_self, decide_true, decide_eq_true_eq, decide_eq_false_iff_not, Bool.not_eq_eq_eq_not, Bool.not_true, Bool.not_false, bne_iff_ne, bne_eq_false_iff_eq, beq_iff_eq, beq_eq_false_iff_ne, ne_eq, beq_self_eq_true, bne_self_eq_false, Bool.and_eq_true, Bool.and_eq_false_iff, Bool.or_eq_true, Bool.or_eq_false_iff, and_self, and_true, true_and, Bool.false_eq_true, Bool.true_eq_false, not_false_eq_true, not_true_eq_false]; first | done | omega) ?_)))))))))
    refine vw_exit (q_thenx (q_thenx (q_here (qth (wsq (wrg (vQ tab rfl (vF rfl callable_11 (num_fun _) (vQ tab rfl (vQ tab rfl (vQ tab rfl (vQ tab rfl (vR rfl callable_12 (same_state (s := S) (t := S) (looks_opn userR rfl rfl) (looks_opn sessR rfl rfl) (looks_opn addrR rfl rfl) (looks_opn (intR .i64) rfl rfl) (looks_opn userR rfl rfl) (looks_opn sessR rfl rfl) (looks_opn addrR rfl rfl) (looks_opn (intR .i64) rfl rfl) (by omega) (by omega) (by omega) (by omega) (by omega) (by omega) (by omega) (by omega)) ?_)))))))))))))
    refine vQ tab rfl (vQ tab rfl (vnl (qth (vw_ret ?_))))
    exact ⟨.inr rfl, Eq.trans (b := some (.bool (decide (S = S)))) rfl (by rw [decide_eq_true rfl])⟩
  obtain ⟨x, hx⟩ := get_some g0 hj
  have hi : IntKind.i64.wrap (j + 1) = j + 1 := i64_in _ (by omega)
  have hjn : (j + 1).toNat = j.toNat + 1 := by omega
  obtain ⟨t', f', ha⟩ : ∃ t' f', applyS cf t x = (t', f') := ⟨_, _, rfl⟩
  rw [goS_step hx ha] at hr
  have hs' : Fit (j.toNat + 1) t' := by have := apply_fit (c := cf) (e := x) hs; rw [ha] at this; exact this
  by_cases hf : f' = 0
  case neg =>
    rw [if_neg hf] at hr
    obtain ⟨rfl, rfl⟩ : S = st0 ∧ e = f' := ⟨(Prod.mk.inj hr).1, (Prod.mk.inj hr).2⟩
    have hfn : (e != 0) = true := by simpa using hf
    refine wsq (wsq (wrg (vQ tab rfl (vQ tab rfl (vQ tab rfl (vQ tab rfl (vnl (qth (vcd_true rfl (by simp only [eq_self, decide_true, hfn, decide_eq_true_eq, decide_eq_false_iff_not, Bool.not_eq_eq_eq_not, Bool.not_true, Bool.not_false, bne_iff_ne, bne_eq_false_iff_eq, beq_iff_eq, beq_eq_false_iff_ne, ne_eq, beq_self_eq_true, bne_self_eq_false, Bool.and_eq_true, Bool.and_eq_false_iff, Bool.or_eq_true, Bool.or_eq_false_iff, and_self, and_true, true_and, Bool.false_eq_true, Bool.true_eq_false, not_false_eq_true, not_true_eq_false]; first | done | omega) ?_)))))))))
    refine vw_skip (qth (wsq (wbk (wsq (vw_draw mixed (dq_op tab rfl rfl rfl rfl (dq_op tab rfl rfl rfl rfl (dq_op tab rfl rfl rfl rfl (dq_op tab rfl rfl rfl rfl (dq_op tab rfl rfl (ev_index rfl rfl rfl rfl rfl (by omega) (by omega)) (ev_index rfl rfl rfl rfl rfl (by omega) (by omega)) ?_))))))))))
    refine dq_op tab rfl rfl (ev_loadrow evtR rfl rfl rfl rfl rfl rfl hx) (ev_loadrow evtR rfl rfl rfl rfl rfl rfl hx) (dt_op [1, 8, 9, 10, 11] rfl rfl rfl rfl rfl callable_13 (apply_any ha (looks_opn userR rfl rfl) (looks_opn sessR rfl rfl) (looks_opn addrR rfl rfl) (looks_opn (intR .i64) rfl rfl) (by omega) (by omega) (by omega) (by omega)) ?_)
    refine dq_op tab rfl rfl rfl rfl (dq_op tab rfl rfl rfl rfl (dq_op tab rfl rfl rfl rfl (dn_op tab rfl rfl rfl rfl (ds_op tab rfl rfl rfl rfl (dq_op tab rfl rfl rfl rfl (vd_nil (by kernel_rfl) ?_))))))
    refine qth (wsq (wsq (wrg (vQ tab rfl (vF rfl callable_11 (num_fun _) (vQ tab rfl (vnl (qth (vcd_true rfl (by simp only [eq_self, decide_true, hfn, decide_eq_true_eq, decide_eq_false_iff_not, Bool.not_eq_eq_eq_not, Bool.not_true, Bool.not_false, bne_iff_ne, bne_eq_false_iff_eq, beq_iff_eq, beq_eq_false_iff_ne, ne_eq, beq_self_eq_true, bne_self_eq_false, Bool.and_eq_true, Bool.and_eq_false_iff, Bool.or_eq_true, Bool.or_eq_false_iff, and_self, and_true, true_and, Bool.false_eq_true, Bool.true_eq_false, not_false_eq_true, not_true_eq_false]; first | done | omega) ?_)))))))))
    refine wsq (wrg (vQ tab rfl (vF rfl callable_11 (num_fun _) (vQ tab rfl (vF rfl callable_11 (num_fun _) (vQ tab rfl (vQ tab rfl (vgd_op true rfl rfl rfl (by simp only [eq_self, decide_true, hfn, decide_eq_true_eq, decide_eq_false_iff_not, Bool.not_eq_eq_eq_not, Bool.not_true, Bool.not_false, bne_iff_ne, bne_eq_false_iff_eq, beq_iff_eq, beq_eq_false_iff_ne, ne_eq, beq_self_eq_true, bne_self_eq_false, Bool.and_eq_true, Bool.and_eq_false_iff, Bool.or_eq_true, Bool.or_eq_false_iff, and_self, and_true, true_and, Bool.false_eq_true, Bool.true_eq_false, not_false_eq_true, not_true_eq_false]; first | done | omega) ?_))))))))
    refine vQ tab rfl (vQ tab rfl (vR rfl callable_12 (same_state (s := st0) (t := st0) (looks_opn userR rfl rfl) (looks_opn sessR rfl rfl) (looks_opn addrR rfl rfl) (looks_opn (intR .i64) rfl rfl) .nil .nil .nil .nil (by omega) (by omega) (by omega) (by omega) (by decide) (by decide) (by decide) (by decide)) ?_))
    refine vQ tab rfl (vQ tab rfl (vnl (qth (vw_ret (q_thenr (q_ret (q_thenr (q_thenr (q_ret (q_thenr ?_))))))))))
    exact ⟨.inr rfl, rfl⟩
  subst hf
  rw [if_pos rfl] at hr
  refine wsq (wsq (wrg (vQ tab rfl (vQ tab rfl (vQ tab rfl (vQ tab rfl (vnl (qth (vcd_true rfl (by simp only [eq_self, decide_true, decide_eq_true_eq, decide_eq_false_iff_not, Bool.not_eq_eq_eq_not, Bool.not_true, Bool.not_false, bne_iff_ne, bne_eq_false_iff_eq, beq_iff_eq, beq_eq_false_iff_ne, ne_eq, beq_self_eq_true, bne_self_eq_false, Bool.and_eq_true, Bool.and_eq_false_iff, Bool.or_eq_true, Bool.or_eq_false_iff, and_self, and_true, true_and, Bool.false_eq_true, Bool.true_eq_false, not_false_eq_true, not_true_eq_false]; first | done | omega) ?_)))))))))
  refine vw_skip (qth (wsq (wbk (wsq (vw_draw mixed (dq_op tab rfl rfl rfl rfl (dq_op tab rfl rfl rfl rfl (dq_op tab rfl rfl rfl rfl (dq_op tab rfl rfl rfl rfl (dq_op tab rfl rfl (ev_index rfl rfl rfl rfl rfl (by omega) (by omega)) (ev_index rfl rfl rfl rfl rfl (by omega) (by omega)) ?_))))))))))
  refine dq_op tab rfl rfl (ev_loadrow evtR rfl rfl rfl rfl rfl rfl hx) (ev_loadrow evtR rfl rfl rfl rfl rfl rfl hx) (dt_op [1, 8, 9, 10, 11] rfl rfl rfl rfl rfl callable_13 (apply_any ha (looks_opn userR rfl rfl) (looks_opn sessR rfl rfl) (looks_opn addrR rfl rfl) (looks_opn (intR .i64) rfl rfl) (by omega) (by omega) (by omega) (by omega)) ?_)
  refine dq_op tab rfl rfl rfl rfl (dq_op tab rfl rfl rfl rfl (dq_op tab rfl rfl rfl rfl (dn_op tab rfl rfl rfl rfl (ds_op tab rfl rfl rfl rfl (dq_op tab rfl rfl rfl rfl (vd_nil (by kernel_rfl) ?_))))))
  refine qth (wsq (wsq (wrg (vQ tab rfl (vF rfl callable_11 (num_fun _) (vQ tab rfl (vnl (qth (vc_false rfl (vw_skip (qth (wrg (vQ tab rfl (vS tab rfl (vnl (q_norm (qth (wrg (vQ tab rfl (vQ tab rfl (vQ tab rfl (vnl (qth ?_)))))))))))))))))))))))
  exact ⟨(es.length - (j + 1)).toNat, _, by omega, (sub_of (g := 1) [1, 2, 3, 4, 5, 6, 7, 12, 13, 14, 15] (by decide) (by decide) (by repeat' first | exact ep_nil | exact ri hi.symm | exact ov_conf rfl | exact ov_st (rel_slice rfl rfl) (rel_slice rfl rfl) (rel_slice rfl rfl) (rel_slice rfl rfl) | refine ep_cons rfl ?_ ?_ | exact .int _ _ | exact .bool _ | exact .string _ | exact rel_slice rfl rfl | exact rel_nil rfl rfl | exact rel_ptr rfl | exact .nilPtr | exact .nilIface | exact .nilSlice) (by repeat' first | exact hp_nil | exact ri hi.symm | exact ov_conf rfl | exact ov_st (rel_slice rfl rfl) (rel_slice rfl rfl) (rel_slice rfl rfl) (rel_slice rfl rfl) | refine hp_cons rfl rfl ?_ ?_ | refine hp_void rfl rfl ?_ | exact ov_win _ | exact ov_opn _ rfl | exact ov_cells _ _ (by decide))), j + 1, t', by omega, by omega, by rw [hjn]; exact hs', by rw [hjn]; exact hr, rfl, rfl⟩
end Go.Proofs.Ytcjfidfealifhaa
