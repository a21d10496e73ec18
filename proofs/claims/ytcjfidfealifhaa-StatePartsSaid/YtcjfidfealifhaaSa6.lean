/- Package state: All. -/
import Derived.Test.YtcjfidfealifhaaVg1
import Derived.Test.YtcjfidfealifhaaSa5
import Derived.Test.YtcjfidfealifhaaSu0
namespace Go.Proofs.Ytcjfidfealifhaa
open Go Vm IntWalk
set_option linter.unusedVariables false
set_option linter.unusedSimpArgs false
set_option maxHeartbeats 16000000
/-- How long a state's slices are. -/
def Small (k : Nat) (s : StV) : Prop := s.users.length ≤ k ∧ s.sess.length ≤ k ∧ s.addrs.length ≤ 16 ∧ s.spent.length ≤ k
theorem small_st0 {k : Nat} : Small k st0 := ⟨Nat.zero_le _, Nat.zero_le _, by decide, Nat.zero_le _⟩
theorem freeAll_len {W : Int} : ∀ (xs : List SessV) (aa r : List AddrV), freeAll W xs aa = some r → r.length = aa.length
  | [], aa, r, h => by cases h; rfl
  | x :: xs, aa, r, h => by
    unfold freeAll at h
    split at h
    · rename_i hc; rw [freeAll_len xs _ r h, freeA_lenOk hc]
    · cases h
theorem useU_len {us : List UserV} {u a : Int} : (useU us u a).length = us.length := by
  unfold useU; split
  · rfl
  · split
    · rfl
    · simp
theorem does_len {c : ConfV} {s s' : StV} {e : EventV} (h : doesE c s e = some s') : s'.users.length ≤ s.users.length + 1 ∧ s'.sess.length ≤ s.sess.length + 1 ∧ s'.addrs.length = s.addrs.length ∧ s'.spent.length ≤ s.spent.length + 1 := by
  unfold doesE at h
  split at h
  · unfold bootE at h; split at h
    · cases h
    · rename_i hf; split at h
      · cases h; exact ⟨Nat.le_add_right _ _, Nat.zero_le _, freeAll_len _ _ _ hf, Nat.le_add_right _ _⟩
      · cases h
  split at h
  · unfold userE at h; split at h
    · cases h
    · cases h
      refine ⟨?_, Nat.le_add_right _ _, rfl, Nat.le_add_right _ _⟩
      simp only [userPut, List.length_append, List.length_take, List.length_cons, List.length_drop]; omega
  split at h
  · unfold leaseE at h; split at h
    · rename_i hq
      cases h
      refine ⟨Nat.le_add_right _ _, by simp, ?_, Nat.le_add_right _ _⟩
      show (takeA _ _ _).1.length = _; rw [takeA_ok hq.1]; simp
    · cases h
  split at h
  · unfold closeE at h; split at h
    · cases h
    · split at h
      · cases h
      · split at h
        · rename_i hf
          cases h
          refine ⟨by show (useU _ _ _).length ≤ _; rw [useU_len]; omega, ?_, freeA_lenOk hf, Nat.le_add_right _ _⟩
          show (List.eraseIdx _ _).length ≤ _
          rw [List.length_eraseIdx]; split <;> omega
        · cases h
  split at h
  · split at h
    · cases h; exact ⟨Nat.le_add_right _ _, Nat.le_add_right _ _, rfl, Nat.le_add_right _ _⟩
    · cases h
  split at h
  · unfold spendE at h; split at h
    · cases h
    · cases h; exact ⟨Nat.le_add_right _ _, Nat.le_add_right _ _, rfl, by simp⟩
  · cases hk1 : userAt s.users e.user with
    | none => rw [ofE_none hk1] at h; cases h
    | some j =>
      have hjl := (user_found hk1).1
      have hj : s.users[j]? = some s.users[j] := List.getElem?_eq_getElem hjl
      rw [ofE_eq hk1 hj] at h
      obtain ⟨w, _, rfl⟩ := Option.map_eq_some_iff.1 h
      exact ⟨by simp, Nat.le_add_right _ _, rfl, Nat.le_add_right _ _⟩
theorem apply_small {k : Nat} {c : ConfV} {s : StV} {e : EventV} (h : Small k s) : Small (k + 1) (applyS c s e).1 := by
  unfold applyS
  split
  · cases hE : doesE c s e with
    | none => exact small_st0
    | some s' =>
      obtain ⟨h1, h2, h3, h4⟩ := does_len hE
      obtain ⟨g1, g2, g3, g4⟩ := h
      exact ⟨by show s'.users.length ≤ _; omega, by show s'.sess.length ≤ _; omega, by show s'.addrs.length ≤ _; omega, by show s'.spent.length ≤ _; omega⟩
  · exact small_st0
theorem new_small {c : Int} : Small 0 (newS c).1 := by
  unfold newS; split
  · rename_i h
    refine ⟨Nat.le_refl _, Nat.le_refl _, ?_, Nat.le_refl _⟩
    show (newP c).1.length ≤ 16
    rw [newP_ok h]; simp; omega
  · exact small_st0
/-- Users that come stand behind all: at each event of a row. -/
def endB (s : StV) (e : EventV) : Bool := !(e.kind == 1) || (userAt s.users e.user).isSome || s.users.all fun y => decide (y.user ≤ e.user)
theorem endB_of {s : StV} {e : EventV} (h : endB s e = true) : e.kind = 1 → userAt s.users e.user = none → EndU s e := by
  intro hk hn y hy
  unfold endB at h; rw [hk, hn] at h
  have h2 : ∀ x ∈ s.users, x.user ≤ e.user := by simpa using h
  exact h2 y hy
def endsB (c : ConfV) : StV → List EventV → Bool
  | _, [] => true
  | s, e :: es => endB s e && endsB c (applyS c s e).1 es
theorem goS_cons {c : ConfV} {s : StV} {e : EventV} {es : List EventV} : goS c s (e :: es) = (match applyS c s e with
    | (t, 0) => goS c t es
    | (_, f) => (st0, f)) := id rfl
theorem goS_if {c : ConfV} {es : List EventV} {s' : StV} {f : Int} : (match (s', f) with
    | (t, 0) => goS c t es
    | (_, f) => (st0, f)) = if f = 0 then goS c s' es else (st0, f) := by
  by_cases hf : f = 0
  · subst hf; rw [if_pos rfl]; rfl
  · rw [if_neg hf]
    split
    · rename_i h; exact absurd (Prod.mk.inj h).2 hf
    · rename_i h; rw [(Prod.mk.inj h).2]
theorem goS_step {c : ConfV} {s s' : StV} {f : Int} {es : List EventV} {j : Nat} {e : EventV} (h : es[j]? = some e) (ha : applyS c s e = (s', f)) : goS c s (es.drop j) = if f = 0 then goS c s' (es.drop (j + 1)) else (st0, f) := by
  have hi := (List.getElem?_eq_some_iff.1 h).1
  rw [List.drop_eq_getElem_cons hi, (List.getElem?_eq_some_iff.1 h).2, goS_cons, ha]
  exact goS_if
theorem ends_step {c : ConfV} {s s' : StV} {f : Int} {es : List EventV} {j : Nat} {e : EventV} (h : es[j]? = some e) (ha : applyS c s e = (s', f)) (hE : endsB c s (es.drop j) = true) : endB s e = true ∧ endsB c s' (es.drop (j + 1)) = true := by
  have hi := (List.getElem?_eq_some_iff.1 h).1
  rw [List.drop_eq_getElem_cons hi, (List.getElem?_eq_some_iff.1 h).2] at hE
  unfold endsB at hE; rw [ha] at hE
  simpa using hE
theorem allS_eq {c : ConfV} {es : List EventV} {s : StV} {f : Int} (h : newS c.addresses = (s, f)) : allS c es = if f = 0 then goS c s es else (st0, f) := by
  unfold allS; rw [h]
  exact goS_if
theorem snew_as {V : Heap} {n : Nat} {c : Int} (r : StV × Int) (h : newS c = r) :
    Tri Try.prog 20 [.int .i64 c] n 4 V (fun u L => u = .tuple #[stV n (n + 1) (n + 2) (n + 3) r.1, .int .i64 r.2] ∧ L = stL n r.1) := by subst h; exact snew_tri c
/-- A state's own object. -/
abbrev stO (u x a p : Nat) (s : StV) : VObj := .cells [.int .i64 s.boots, .int .i64 s.epoch, .int .i64 s.next, .slice (some ⟨u, 0, none⟩) s.users.length 0, .slice (some ⟨x, 0, none⟩) s.sess.length 0, .slice (some ⟨a, 0, none⟩) s.addrs.length 0, .slice (some ⟨p, 0, none⟩) s.spent.length 0] 32 (0, 0)
abbrev zO : VObj := .cells [.int .i64 0, .int .i64 0, .int .i64 0, .slice none 0 0, .slice none 0 0, .slice none 0 0, .slice none 0 0] 32 (0, 0)
theorem ov_st {σ : Ren} {b1 b2 b3 : Int} {v1 v2 v3 v4 w1 w2 w3 w4 : Value} (h1 : VRel σ v1 w1) (h2 : VRel σ v2 w2) (h3 : VRel σ v3 w3) (h4 : VRel σ v4 w4) :
    OV σ (.cells [.int .i64 b1, .int .i64 b2, .int .i64 b3, v1, v2, v3, v4] 32 (0, 0)) (.cells [.int .i64 b1, .int .i64 b2, .int .i64 b3, w1, w2, w3, w4] 32 (0, 0)) :=
  .cells _ _ (lrel_cons (.int _ _) (lrel_cons (.int _ _) (lrel_cons (.int _ _) (lrel_cons h1 (lrel_cons h2 (lrel_cons h3 (lrel_cons h4 lrel_nil)))))))
/-- A state that events tell: how long its slices are; its users in a row. -/
def Fit (k : Nat) (s : StV) : Prop := SrtN (s.users.map UserV.user) ∧ s.sess.length ≤ k ∧ s.addrs.length ≤ 16 ∧ s.spent.length ≤ k
theorem srt_nil : SrtN [] := ⟨.nil, fun y hy => by cases hy⟩
theorem fit_st0 {k : Nat} : Fit k st0 := ⟨srt_nil, Nat.zero_le _, by decide, Nat.zero_le _⟩
theorem apply_fit {k : Nat} {c : ConfV} {s : StV} {e : EventV} (h : Fit k s) : Fit (k + 1) (applyS c s e).1 := by
  unfold applyS
  split
  · rename_i hC
    cases hE : doesE c s e with
    | none => exact fit_st0
    | some s' =>
      obtain ⟨h1, h2, h3, h4⟩ := does_len hE
      obtain ⟨g1, g2, g3, g4⟩ := h
      have hm : evtMay e = true := by unfold applyC at hC; simp only [Bool.and_eq_true] at hC; exact hC.1.2
      exact ⟨does_srt hm g1 hE, by show s'.sess.length ≤ _; omega, by show s'.addrs.length ≤ _; omega, by show s'.spent.length ≤ _; omega⟩
  · exact fit_st0
theorem new_fit {c : Int} : Fit 0 (newS c).1 := by
  unfold newS; split
  · rename_i h
    refine ⟨srt_nil, Nat.le_refl _, ?_, Nat.le_refl _⟩
    show (newP c).1.length ≤ 16
    rw [newP_ok h]; simp; omega
  · exact fit_st0
theorem all_tri {V : Heap} {n : Nat} {sv : Value} {cf : ConfV} {es : List EventV} (hl : Looks V 8 sv (evtR.cells es) es.length) (hb : es.length ≤ 2199023255488) :
    Tri Try.prog 10 [confV cf, sv] n 4 V (fun u L => u = .tuple #[stV n (n + 1) (n + 2) (n + 3) (allS cf es).1, .int .i64 (allS cf es).2] ∧ L = stL n (allS cf es).1) := by
  refine call_of_vw (K := 1) (argsI := [confV cf, .slice (some ⟨0, 0, none⟩) es.length 0]) tab Try.func10 rfl rfl (by simp [Try.f10]) [.look sv es.length 8] [.win (evtR.cells es) 8] rfl (.look hl (evtR.flat_cells es) .nil) (by simp [ownNames]) (by simp [ownNames, lookNames]) (by simp [ownNames, *]) (al_cons (.val (confRel cf)) (al_cons (.look (a := 0) rfl) al_nil)) (seen_of (sn_look (seen_top (j := 1) rfl) sn_nil)) ?_
  obtain ⟨s1, f1, hn⟩ : ∃ s1 f1, newS cf.addresses = (s1, f1) := ⟨_, _, rfl⟩
  have hsm : Fit 0 s1 := by have := @new_fit cf.addresses; rw [hn] at this; exact this
  obtain ⟨R, hR⟩ : ∃ R, allS cf es = R := ⟨_, rfl⟩
  have hA := (allS_eq (es := es) hn).symm.trans hR
  rw [hR]
  refine wsq (wrg (vN tab rfl (vN tab rfl (vQ tab rfl (vnl (qth (wsq (wrg (vQ tab rfl (vQ tab rfl (vT rfl callable_20 (snew_as _ hn) (vQ tab rfl (vQ tab rfl (vQ tab rfl (vN tab rfl (vS tab rfl (vQ tab rfl (vnl (qth (wsq (wsq (wrg (vQ tab rfl ?_)))))))))))))))))))))))
  refine vnl (qth (wbk ?_))
  refine vw_loop_sub (fun k st => ∃ (j : Int) (s : StV) (f : Int), 0 ≤ j ∧ j ≤ es.length ∧ Fit j.toNat s ∧ (if f = 0 then goS cf s (es.drop j.toNat) else (st0, f)) = R ∧ k = (es.length - j).toNat ∧
      st = ⟨[(1, .slice (some ⟨0, 0, none⟩) es.length 0), (2, .pointer (some ⟨1, 0, none⟩)), (4, .pointer (some ⟨2, 0, none⟩)), (6, .pointer (some ⟨3, 0, none⟩)), (7, .int .i64 f), (8, .int .i64 j)],
        lkp [(0, .win (evtR.cells es) 8), (1, confO cf), (2, zO), (3, stO 4 5 6 7 s), (4, .opn (userR.cells s.users) 49 9), (5, .opn (sessR.cells s.sess) 54 4), (6, .opn (addrR.cells s.addrs) 58 3), (7, .opn ((intR .i64).cells s.spent) 3 1)], 8⟩) (es.length - 0)
    ⟨_, (sub_of (g := 1) [1, 2, 7, 3, 4, 5, 6] (by decide) (by decide) (by repeat' first | exact ep_nil | exact ov_conf rfl | exact ov_st .nilSlice .nilSlice .nilSlice .nilSlice | exact ov_st (rel_slice rfl rfl) (rel_slice rfl rfl) (rel_slice rfl rfl) (rel_slice rfl rfl) | refine ep_cons rfl ?_ ?_ | exact .int _ _ | exact .bool _ | exact .string _ | exact rel_slice rfl rfl | exact rel_nil rfl rfl | exact rel_ptr rfl | exact .nilPtr | exact .nilIface | exact .nilSlice) (by repeat' first | exact hp_nil | exact ov_conf rfl | exact ov_st .nilSlice .nilSlice .nilSlice .nilSlice | exact ov_st (rel_slice rfl rfl) (rel_slice rfl rfl) (rel_slice rfl rfl) (rel_slice rfl rfl) | refine hp_cons rfl rfl ?_ ?_ | refine hp_void rfl rfl ?_ | exact ov_win _ | exact ov_opn _ rfl | exact ov_cells _ _ (by decide))), 0, s1, f1, by omega, by omega, hsm, hA, by simp, rfl⟩ ?_
  rintro k st ⟨j, s, f, g0, g1, hs, hr, rfl, rfl⟩
  by_cases hf : f = 0
  case neg =>
    rw [if_neg hf] at hr; subst hr
    have hfb : (f == 0) = false := by simpa using hf
    have hfn : (f != 0) = true := by simpa using hf
    refine wsq (wsq (wrg (vQ tab rfl (vQ tab rfl (vQ tab rfl (vQ tab rfl (vQ tab rfl ?_)))))))
    refine vg_op rfl rfl rfl (fun _ => ?_) (fun _ => ?_)
    refine vQ tab rfl (vQ tab rfl (vQ tab rfl (vnl (qth (vcd_false rfl (by simp only [hfb, hfn, decide_eq_true_eq, decide_eq_false_iff_not, Bool.not_eq_eq_eq_not, Bool.not_true, Bool.not_false, bne_iff_ne, bne_eq_false_iff_eq, beq_iff_eq, beq_eq_false_iff_ne, ne_eq, beq_self_eq_true, bne_self_eq_false, Bool.and_eq_true, Bool.and_eq_false_iff, Bool.or_eq_true, Bool.or_eq_false_iff, and_self, and_true, true_and, Bool.false_eq_true, Bool.true_eq_false, not_false_eq_true, not_true_eq_false]; first | done | omega) ?_)))))
    refine vw_exit (q_thenx (q_thenx (q_here (qth (wsq (wsq (wrg (vQ tab rfl (vQ tab rfl (vnl (qth (vcd_true rfl (by simp only [hfb, hfn, decide_eq_true_eq, decide_eq_false_iff_not, Bool.not_eq_eq_eq_not, Bool.not_true, Bool.not_false, bne_iff_ne, bne_eq_false_iff_eq, beq_iff_eq, beq_eq_false_iff_ne, ne_eq, beq_self_eq_true, bne_self_eq_false, Bool.and_eq_true, Bool.and_eq_false_iff, Bool.or_eq_true, Bool.or_eq_false_iff, and_self, and_true, true_and, Bool.false_eq_true, Bool.true_eq_false, not_false_eq_true, not_true_eq_false]; first | done | omega) ?_))))))))))))
    refine wsq (wrg (vQ tab rfl (vQ tab rfl (vS tab rfl (vQ tab rfl (vnl (qth (vw_ret (q_thenr ?_)))))))))
    rotate_left
    refine vK rfl (vK rfl (vQ tab rfl (vnl (qth (vc_false rfl (vw_exit (q_thenx (q_thenx (q_here (qth (wsq (wsq (wrg (vQ tab rfl (vQ tab rfl (vnl (qth (vcd_true rfl (by simp only [hfb, hfn, decide_eq_true_eq, decide_eq_false_iff_not, Bool.not_eq_eq_eq_not, Bool.not_true, Bool.not_false, bne_iff_ne, bne_eq_false_iff_eq, beq_iff_eq, beq_eq_false_iff_ne, ne_eq, beq_self_eq_true, bne_self_eq_false, Bool.and_eq_true, Bool.and_eq_false_iff, Bool.or_eq_true, Bool.or_eq_false_iff, and_self, and_true, true_and, Bool.false_eq_true, Bool.true_eq_false, not_false_eq_true, not_true_eq_false]; first | done | omega) ?_))))))))))))))))))
    refine wsq (wrg (vQ tab rfl (vQ tab rfl (vS tab rfl (vQ tab rfl (vnl (qth (vw_ret (q_thenr ?_)))))))))
    rotate_left
    all_goals exact out_mk [NIL, NIL, NIL, NIL] (.inr rfl) ⟨rfl, rfl⟩ rfl (vrel_tuple (lrel_cons (vrel_agg (lrel_cons (.int _ _) (lrel_cons (.int _ _) (lrel_cons (.int _ _) (lrel_cons (rel_nil (sigma_nil (i := 0) rfl) rfl) (lrel_cons (rel_nil (sigma_nil (i := 1) rfl) rfl) (lrel_cons (rel_nil (sigma_nil (i := 2) rfl) rfl) (lrel_cons (rel_nil (sigma_nil (i := 3) rfl) rfl) lrel_nil)))))))) (lrel_cons (.int _ _) lrel_nil))) (op_void (sigma_nil (i := 0) rfl) rfl rfl rfl (op_void (sigma_nil (i := 1) rfl) rfl rfl rfl (op_void (sigma_nil (i := 2) rfl) rfl rfl rfl (op_void (sigma_nil (i := 3) rfl) rfl rfl rfl op_nil)))) trivial
  subst hf
  rw [if_pos rfl] at hr
  by_cases hj : j < (es.length : Int)
  case neg =>
    rw [List.drop_eq_nil_of_le (by omega)] at hr
    have hr : (s, (0 : Int)) = R := hr
    subst hr
    refine wsq (wsq (wrg (vQ tab rfl (vQ tab rfl (vQ tab rfl (vQ tab rfl (vQ tab rfl (vgd_op false rfl rfl rfl (by simp only [decide_eq_true_eq, decide_eq_false_iff_not, Bool.not_eq_eq_eq_not, Bool.not_true, Bool.not_false, bne_iff_ne, bne_eq_false_iff_eq, beq_iff_eq, beq_eq_false_iff_ne, ne_eq, beq_self_eq_true, bne_self_eq_false, Bool.and_eq_true, Bool.and_eq_false_iff, Bool.or_eq_true, Bool.or_eq_false_iff, and_self, and_true, true_and, Bool.false_eq_true, Bool.true_eq_false, not_false_eq_true, not_true_eq_false]; first | done | omega) ?_))))))))
    refine vK rfl (vK rfl (vQ tab rfl (vnl (qth (vc_false rfl (vw_exit (q_thenx (q_thenx (q_here (qth (wsq (wsq (wrg (vQ tab rfl (vQ tab rfl (vnl (qth (vc_false rfl (vw_skip (qth (wsq (wrg (vQ tab rfl ?_)))))))))))))))))))))))
    refine vS tab rfl (vQ tab rfl (vnl (qth (vw_ret ?_))))
    exact out_mk [4, 5, 6, 7] (.inr rfl) ⟨rfl, rfl⟩ rfl (vrel_tuple (lrel_cons (vrel_agg (lrel_cons (.int _ _) (lrel_cons (.int _ _) (lrel_cons (.int _ _) (lrel_cons (rel_slice (sigma_look (i := 0) rfl) rfl) (lrel_cons (rel_slice (sigma_look (i := 1) rfl) rfl) (lrel_cons (rel_slice (sigma_look (i := 2) rfl) rfl) (lrel_cons (rel_slice (sigma_look (i := 3) rfl) rfl) lrel_nil)))))))) (lrel_cons (.int _ _) lrel_nil))) (op_cons (sigma_look (i := 0) rfl) rfl rfl (ov_opn userR rfl) rfl (op_cons (sigma_look (i := 1) rfl) rfl rfl (ov_opn sessR rfl) rfl (op_cons (sigma_look (i := 2) rfl) rfl rfl (ov_opn addrR rfl) rfl (op_cons (sigma_look (i := 3) rfl) rfl rfl (ov_opn (intR .i64) rfl) rfl op_nil)))) trivial
  obtain ⟨e, hx⟩ := get_some g0 hj
  have hi : IntKind.i64.wrap (j + 1) = j + 1 := i64_in _ (by omega)
  have hjn : (j + 1).toNat = j.toNat + 1 := by omega
  obtain ⟨s', f', ha⟩ : ∃ s' f', applyS cf s e = (s', f') := ⟨_, _, rfl⟩
  rw [goS_step hx ha] at hr
  have hs' : Fit (j.toNat + 1) s' := by have := apply_fit (c := cf) (e := e) hs; rw [ha] at this; exact this
  obtain ⟨z0, z2, z3, z4⟩ := hs
  have z1 := srt_eight z0
  refine wsq (wsq (wrg (vQ tab rfl (vQ tab rfl (vQ tab rfl (vQ tab rfl (vQ tab rfl (vgd_op true rfl rfl rfl (by simp only [decide_eq_true_eq, decide_eq_false_iff_not, Bool.not_eq_eq_eq_not, Bool.not_true, Bool.not_false, bne_iff_ne, bne_eq_false_iff_eq, beq_iff_eq, beq_eq_false_iff_ne, ne_eq, beq_self_eq_true, bne_self_eq_false, Bool.and_eq_true, Bool.and_eq_false_iff, Bool.or_eq_true, Bool.or_eq_false_iff, and_self, and_true, true_and, Bool.false_eq_true, Bool.true_eq_false, not_false_eq_true, not_true_eq_false]; first | done | omega) ?_))))))))
  refine vQ tab rfl (vQ tab rfl (vQ tab rfl (vnl (qth (vc_true rfl (vw_skip (qth (wsq (wbk (vw_draw mixed (dq_op tab rfl rfl rfl rfl (dq_op tab rfl rfl rfl rfl (dq_op tab rfl rfl rfl rfl (dq_op tab rfl rfl rfl rfl (dq_op tab rfl rfl (ev_index rfl rfl rfl rfl rfl (by omega) (by omega)) (ev_index rfl rfl rfl rfl rfl (by omega) (by omega)) ?_)))))))))))))))
  refine dq_op tab rfl rfl (ev_loadrow evtR rfl rfl rfl rfl rfl rfl hx) (ev_loadrow evtR rfl rfl rfl rfl rfl rfl hx) (dt_op [4, 5, 6, 7] rfl rfl rfl rfl rfl callable_13 (apply_any ha (looks_opn userR rfl rfl) (looks_opn sessR rfl rfl) (looks_opn addrR rfl rfl) (looks_opn (intR .i64) rfl rfl) (by omega) (by omega) (by omega) (by omega)) ?_)
  refine dq_op tab rfl rfl rfl rfl (dq_op tab rfl rfl rfl rfl (dq_op tab rfl rfl rfl rfl (ds_op tab rfl rfl rfl rfl (dq_op tab rfl rfl rfl rfl (vd_nil (by kernel_rfl) ?_)))))
  refine q_norm (qth (wrg (vQ tab rfl (vQ tab rfl (vQ tab rfl (vnl (qth ?_)))))))
  exact ⟨(es.length - (j + 1)).toNat, _, by omega, (sub_of (g := 1) [1, 2, 3, 8, 9, 10, 11] (by decide) (by decide) (by repeat' first | exact ep_nil | exact ri hi.symm | exact ov_conf rfl | exact ov_st .nilSlice .nilSlice .nilSlice .nilSlice | exact ov_st (rel_slice rfl rfl) (rel_slice rfl rfl) (rel_slice rfl rfl) (rel_slice rfl rfl) | refine ep_cons rfl ?_ ?_ | exact .int _ _ | exact .bool _ | exact .string _ | exact rel_slice rfl rfl | exact rel_nil rfl rfl | exact rel_ptr rfl | exact .nilPtr | exact .nilIface | exact .nilSlice) (by repeat' first | exact hp_nil | exact ri hi.symm | exact ov_conf rfl | exact ov_st .nilSlice .nilSlice .nilSlice .nilSlice | exact ov_st (rel_slice rfl rfl) (rel_slice rfl rfl) (rel_slice rfl rfl) (rel_slice rfl rfl) | refine hp_cons rfl rfl ?_ ?_ | refine hp_void rfl rfl ?_ | exact ov_win _ | exact ov_opn _ rfl | exact ov_cells _ _ (by decide))), j + 1, s', f', by omega, by omega, by rw [hjn]; exact hs', by rw [hjn]; exact hr, rfl, rfl⟩
theorem all_any {V : Heap} {n : Nat} {sv : Value} {cf : ConfV} {es : List EventV} {s : StV} {r : Int} (hr : allS cf es = (s, r)) (hb : es.length ≤ 2199023255488) (hl : Looks V 8 sv (evtR.cells es) es.length) :
    Tri Try.prog 10 [confV cf, sv] n 4 V (fun u L => u = .tuple #[stV n (n + 1) (n + 2) (n + 3) s, .int .i64 r] ∧ L = stL n s) := by
  have := all_tri (cf := cf) (n := n) hl hb; rw [hr] at this; exact this
theorem all_as {V : Heap} {n : Nat} {sv : Value} {cf : ConfV} {es : List EventV} {s : StV} {r : Int} (hr : allS cf es = (s, r)) (_ : endsB cf (newS cf.addresses).1 es = true) (hb : es.length ≤ 1000000000) (hl : Looks V 8 sv (evtR.cells es) es.length) :
    Tri Try.prog 10 [confV cf, sv] n 4 V (fun u L => u = .tuple #[stV n (n + 1) (n + 2) (n + 3) s, .int .i64 r] ∧ L = stL n s) := all_any hr (by omega) hl
end Go.Proofs.Ytcjfidfealifhaa
