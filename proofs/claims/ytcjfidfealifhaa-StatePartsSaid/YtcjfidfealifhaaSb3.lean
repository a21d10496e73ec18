/- Law 20: StateBoots: each boot ends all sessions, frees their addresses when the time is over, and counts itself; all else stays. -/
import Derived.Test.YtcjfidfealifhaaVg1
import Derived.Test.YtcjfidfealifhaaSb2
namespace Go.Proofs.Ytcjfidfealifhaa
open Go Vm IntWalk
set_option linter.unusedVariables false
set_option linter.unusedSimpArgs false
set_option maxHeartbeats 32000000
def moreB : List EventV := [⟨5, 0, 0, 2, 0, 0, 0, 1⟩, ⟨5, 1, 1, 0, 0, 0, 0, 2⟩, ⟨9, 0, 7, 0, 0, 0, 0, 0⟩, ⟨8, 0, 0, 0, 0, 0, 0, 0⟩]
def sH : StV := ⟨1, 1, 2, [⟨0, 5, 6, 50, 0, 0, 0, 0, 0⟩, ⟨1, 7, 8, 60, 0, 0, 0, 0, 0⟩], [⟨0, 0, 2, 1⟩, ⟨1, 1, 0, 2⟩], [⟨true, 1, 0⟩, ⟨false, -1, 0⟩, ⟨true, 0, 0⟩], [7]⟩
/-- An address when a boot has freed it. -/
def nxt (t : Int) (p : AddrV) : AddrV := if p.busy = true then ⟨false, p.last, IntKind.i64.wrap (t + plainC.quarantine)⟩ else p
def BootI (k : Int) (s : StV) : Prop := 0 ≤ s.boots ∧ s.boots ≤ k ∧ s.users.length ≤ 2 ∧ s.spent.length ≤ 1 ∧ s.sess.length ≤ 2 ∧ s.addrs.length = 3 ∧ ((s.sess = sH.sess ∧ s.addrs = sH.addrs) ∨ (s.sess = [] ∧ ∀ a ∈ s.addrs, a.busy = false))
theorem boot_may {t : Int} (h0 : 0 ≤ t) (h1 : t ≤ 1023) : evtMay ⟨0, 0, 0, 0, 0, 0, 0, t⟩ = true := by
  have hk : okN t = true := by rw [okN_iff]; omega
  have e1 : evtNums ⟨0, 0, 0, 0, 0, 0, 0, t⟩ = [t] := rfl
  have e2 : evtPlain ⟨0, 0, 0, 0, 0, 0, 0, t⟩ = ⟨0, 0, 0, 0, 0, 0, 0, t⟩ := rfl
  have e3 : decide (t ≤ 1048575) = true := decide_eq_true (by omega)
  unfold evtMay; rw [e1, e2]; simp [hk, e3]
theorem free_two {T : Int} (h : 0 ≤ T) : freeAll T sH.sess sH.addrs = some [⟨false, 1, T⟩, ⟨false, -1, 0⟩, ⟨false, 0, T⟩] := by
  have hT : decide (T < 0) = false := decide_eq_false (by omega)
  have c1 : freeC [⟨true, 1, 0⟩, ⟨false, -1, 0⟩, ⟨true, 0, 0⟩] 2 T = true := by show (true && !decide (T < 0)) = true; rw [hT]; rfl
  have c2 : freeC [⟨true, 1, 0⟩, ⟨false, -1, 0⟩, ⟨false, 0, T⟩] 0 T = true := by
    have hm : mayP [⟨true, 1, 0⟩, ⟨false, -1, 0⟩, ⟨false, 0, T⟩] = true := by
      simp [mayP, badA_of, hT]
    unfold freeC; rw [hm, hT]; rfl
  show (if freeC [⟨true, 1, 0⟩, ⟨false, -1, 0⟩, ⟨true, 0, 0⟩] 2 T = true then freeAll T [⟨1, 1, 0, 2⟩] (freeA [⟨true, 1, 0⟩, ⟨false, -1, 0⟩, ⟨true, 0, 0⟩] 2 T).1 else none) = _
  rw [if_pos c1, freeA_ok c1]
  show (if freeC [⟨true, 1, 0⟩, ⟨false, -1, 0⟩, ⟨false, 0, T⟩] 0 T = true then some (freeA [⟨true, 1, 0⟩, ⟨false, -1, 0⟩, ⟨false, 0, T⟩] 0 T).1 else none) = _
  rw [if_pos c2, freeA_ok c2]; rfl
theorem boot_ap {s : StV} {t k : Int} (h : BootI k s) (hk : k ≤ 1000) (h0 : 0 ≤ t) (h1 : t ≤ 1023) : ∃ s', applyS plainC s ⟨0, 0, 0, 0, 0, 0, 0, t⟩ = (s', 0) ∧ s'.boots = s.boots + 1 ∧ s'.sess = [] ∧ s'.users = s.users ∧ s'.spent = s.spent ∧ s'.epoch = s.epoch ∧ s'.next = s.next ∧ s'.addrs = s.addrs.map (nxt t) ∧ BootI (k + 1) s' := by
  obtain ⟨i1, i2, i3, i4, i5, i6, i7⟩ := h
  have hw : IntKind.i64.wrap (t + plainC.quarantine) = t + 8 := i64_in _ (by show -9223372036854775808 ≤ t + 8 ∧ t + 8 ≤ 9223372036854775807; omega)
  have hC : applyC plainC s ⟨0, 0, 0, 0, 0, 0, 0, t⟩ = true := by unfold applyC; rw [boot_may h0 h1, i6]; rfl
  have hF : freeAll (IntKind.i64.wrap (t + plainC.quarantine)) s.sess s.addrs = some (s.addrs.map (nxt t)) := by
    rcases i7 with ⟨j1, j2⟩ | ⟨j1, j2⟩
    · rw [j1, j2, free_two (by rw [hw]; omega)]; rfl
    · rw [j1]
      show some s.addrs = _
      have hid : s.addrs.map (nxt t) = s.addrs.map id := List.map_congr_left fun a ha => by
        unfold nxt; rw [if_neg (by rw [j2 a ha]; decide)]; rfl
      rw [hid, List.map_id]
  have hE : doesE plainC s ⟨0, 0, 0, 0, 0, 0, 0, t⟩ = some { s with boots := s.boots + 1, addrs := s.addrs.map (nxt t), sess := [] } := by
    show bootE plainC s ⟨0, 0, 0, 0, 0, 0, 0, t⟩ = _
    unfold bootE
    have hF' : freeAll (IntKind.i64.wrap ((⟨0, 0, 0, 0, 0, 0, 0, t⟩ : EventV).tick + plainC.quarantine)) s.sess s.addrs = some (s.addrs.map (nxt t)) := hF
    rw [hF']
    show (if 0 ≤ s.boots ∧ s.boots ≤ 1073741822 then _ else none) = _
    rw [if_pos (by omega)]
  refine ⟨_, applyS_ok hC hE, rfl, rfl, rfl, rfl, rfl, rfl, rfl, by show 0 ≤ s.boots + 1; omega, by show s.boots + 1 ≤ k + 1; omega, i3, i4, Nat.zero_le _, by show (s.addrs.map (nxt t)).length = 3; rw [List.length_map]; exact i6, .inr ⟨rfl, ?_⟩⟩
  intro a ha
  obtain ⟨b, hb, rfl⟩ := List.mem_map.1 ha
  unfold nxt; split
  · rfl
  · rename_i hq; simpa using hq
theorem StateBoots_law (xs : List Int) (hb : xs.length * 8 ≤ 140737488351232) :
    Tri Try.prog 7 [.slice (some ⟨0, 0, none⟩) xs.length 0] 1 0 (lkp (oHeap 0 (wObjs [((intR .i64).cells xs, 1)]))) (fun u L => u = .bool true ∧ L = []) := by
  refine law_of_vw tab Try.func7 rfl rfl (by simp [Try.f7]) 1 [((intR .i64).cells xs, 1)] rfl (by intro x hx; simp only [List.mem_singleton] at hx; subst hx; exact (intR .i64).flat_cells xs)
    (lrel_cons (rel_slice rfl rfl) lrel_nil) (.bool _) ?_
  refine wsq (wrg (vQ tab rfl (vnl (qth (wsq (wsq (wrg (vF rfl callable_9 (state_awake) (vQ tab rfl (vnl (qth (vc_false rfl (vw_skip (qth (wsq (wrg (vF rfl callable_14 (plain_fun) (vN tab rfl (vS tab rfl (vnl (qth (wsq (wrg ?_)))))))))))))))))))))))
  refine vQ tab rfl (vQ tab rfl (vQ tab rfl (vQ tab rfl (vQ tab rfl (vN tab rfl (vT rfl callable_15 (begun_tri (cf := plainC) (es := moreB) (s := sH) (looks_opn evtR (xs := moreB) rfl rfl) (by decide) (by decide +kernel) (by decide +kernel)) ?_))))))
  refine vQ tab rfl (vQ tab rfl (vQ tab rfl (vN tab rfl (vS tab rfl (vQ tab rfl (vnl (qth (wsq (wsq (wrg (vQ tab rfl (vQ tab rfl (vQ tab rfl (vQ tab rfl (vQ tab rfl (vQ tab rfl (vQ tab rfl (vQ tab rfl (vnl (qth (vc_false rfl (vw_skip (qth ?_)))))))))))))))))))))))
  refine wsq (wsq (wrg (vQ tab rfl (vnl (qth (wbk ?_))))))
  refine vw_loop_sub (fun k st => ∃ (i : Int) (s : StV), 0 ≤ i ∧ i ≤ xs.length ∧ i ≤ 10 ∧ BootI (i + 1) s ∧ k = (10 - i).toNat ∧
      st = ⟨[(0, .slice (some ⟨0, 0, none⟩) xs.length 0), (3, .pointer (some ⟨1, 0, none⟩)), (4, .pointer (some ⟨2, 0, none⟩)), (6, .int .i64 i)],
        lkp [(0, .win ((intR .i64).cells xs) 1), (1, confO plainC), (2, stO 3 4 5 6 (s)), (3, .opn (userR.cells (s).users) 49 9), (4, .opn (sessR.cells (s).sess) 54 4), (5, .opn (addrR.cells (s).addrs) 58 3), (6, .opn ((intR .i64).cells (s).spent) 3 1)], 7⟩) 10
    ⟨_, (sub_of (g := 1) [1, 7, 3, 4, 5, 6] (by decide) (by decide) (by repeat' first | exact ep_nil | exact ov_conf rfl | exact ov_st (rel_slice rfl rfl) (rel_slice rfl rfl) (rel_slice rfl rfl) (rel_slice rfl rfl) | refine ep_cons rfl ?_ ?_ | exact .int _ _ | exact .bool _ | exact .string _ | exact rel_slice rfl rfl | exact rel_nil rfl rfl | exact rel_ptr rfl | exact .nilPtr | exact .nilIface | exact .nilSlice) (by repeat' first | exact hp_nil | exact ov_conf rfl | exact ov_st (rel_slice rfl rfl) (rel_slice rfl rfl) (rel_slice rfl rfl) (rel_slice rfl rfl) | refine hp_cons rfl rfl ?_ ?_ | refine hp_void rfl rfl ?_ | exact ov_win _ | exact ov_opn _ rfl | exact ov_cells _ _ (by decide))), 0, sH, by omega, by omega, by omega, by unfold BootI; refine ⟨by decide, by decide, by decide, by decide, by decide, by decide, .inl ⟨rfl, rfl⟩⟩, by decide, rfl⟩ ?_
  rintro k st ⟨i, s, g0, g1, g2, hI, rfl, rfl⟩
  have hi : IntKind.i64.wrap (i + 1) = i + 1 := i64_in _ (by omega)
  by_cases hx : i < (xs.length : Int)
  case neg =>
    refine wsq (wsq (wrg (vQ tab rfl (vQ tab rfl (vQ tab rfl (vQ tab rfl (vQ tab rfl (vgd_op false rfl rfl rfl (by simp only [decide_eq_true_eq, decide_eq_false_iff_not, Bool.not_eq_eq_eq_not, Bool.not_true, Bool.not_false, bne_iff_ne, bne_eq_false_iff_eq, beq_iff_eq, beq_eq_false_iff_ne, ne_eq, beq_self_eq_true, bne_self_eq_false, Bool.and_eq_true, Bool.and_eq_false_iff, Bool.or_eq_true, Bool.or_eq_false_iff, and_self, and_true, true_and, Bool.false_eq_true, Bool.true_eq_false, not_false_eq_true, not_true_eq_false]; first | done | omega) ?_))))))))
    refine vK rfl (vK rfl (vQ tab rfl (vnl (qth (vc_false rfl (vw_exit (q_thenx (q_thenx (q_here (qth (wsq (wrg (vQ tab rfl (vnl (qth (vw_ret ?_))))))))))))))))
    exact ⟨.inr rfl, rfl⟩
  by_cases h40 : i < 10
  case neg =>
    refine wsq (wsq (wrg (vQ tab rfl (vQ tab rfl (vQ tab rfl (vQ tab rfl (vQ tab rfl (vgd_op true rfl rfl rfl (by simp only [decide_eq_true_eq, decide_eq_false_iff_not, Bool.not_eq_eq_eq_not, Bool.not_true, Bool.not_false, bne_iff_ne, bne_eq_false_iff_eq, beq_iff_eq, beq_eq_false_iff_ne, ne_eq, beq_self_eq_true, bne_self_eq_false, Bool.and_eq_true, Bool.and_eq_false_iff, Bool.or_eq_true, Bool.or_eq_false_iff, and_self, and_true, true_and, Bool.false_eq_true, Bool.true_eq_false, not_false_eq_true, not_true_eq_false]; first | done | omega) ?_))))))))
    refine vQ tab rfl (vQ tab rfl (vQ tab rfl (vnl (qth (vcd_false rfl (by simp only [decide_eq_true_eq, decide_eq_false_iff_not, Bool.not_eq_eq_eq_not, Bool.not_true, Bool.not_false, bne_iff_ne, bne_eq_false_iff_eq, beq_iff_eq, beq_eq_false_iff_ne, ne_eq, beq_self_eq_true, bne_self_eq_false, Bool.and_eq_true, Bool.and_eq_false_iff, Bool.or_eq_true, Bool.or_eq_false_iff, and_self, and_true, true_and, Bool.false_eq_true, Bool.true_eq_false, not_false_eq_true, not_true_eq_false]; first | done | omega) ?_)))))
    refine vw_exit (q_thenx (q_thenx (q_here (qth (wsq (wrg (vQ tab rfl (vnl (qth (vw_ret ?_))))))))))
    exact ⟨.inr rfl, rfl⟩
  obtain ⟨x, hx1⟩ := get_some g0 hx
  obtain ⟨K, hK⟩ : ∃ K, K = bits .and .i64 x 1023 := ⟨_, rfl⟩
  have k0 : 0 ≤ K ∧ K ≤ 1023 := by rw [hK, and1023]; omega
  refine wsq (wsq (wrg (vQ tab rfl (vQ tab rfl (vQ tab rfl (vQ tab rfl (vQ tab rfl (vgd_op true rfl rfl rfl (by simp only [decide_eq_true_eq, decide_eq_false_iff_not, Bool.not_eq_eq_eq_not, Bool.not_true, Bool.not_false, bne_iff_ne, bne_eq_false_iff_eq, beq_iff_eq, beq_eq_false_iff_ne, ne_eq, beq_self_eq_true, bne_self_eq_false, Bool.and_eq_true, Bool.and_eq_false_iff, Bool.or_eq_true, Bool.or_eq_false_iff, and_self, and_true, true_and, Bool.false_eq_true, Bool.true_eq_false, not_false_eq_true, not_true_eq_false]; first | done | omega) ?_))))))))
  refine vQ tab rfl (vQ tab rfl (vQ tab rfl (vnl (qth (vcd_true rfl (by simp only [decide_eq_true_eq, decide_eq_false_iff_not, Bool.not_eq_eq_eq_not, Bool.not_true, Bool.not_false, bne_iff_ne, bne_eq_false_iff_eq, beq_iff_eq, beq_eq_false_iff_ne, ne_eq, beq_self_eq_true, bne_self_eq_false, Bool.and_eq_true, Bool.and_eq_false_iff, Bool.or_eq_true, Bool.or_eq_false_iff, and_self, and_true, true_and, Bool.false_eq_true, Bool.true_eq_false, not_false_eq_true, not_true_eq_false]; first | done | omega) ?_)))))
  refine vw_skip (qth (wsq (wbk (wsq (wrg (vQ tab rfl (vQ tab rfl (vq_op tab rfl rfl rfl (ev_index rfl rfl rfl rfl rfl (by omega) (by omega)) ?_))))))))
  refine vq_op tab rfl rfl rfl (ev_val (intR .i64) rfl rfl rfl rfl rfl hx1 rfl) (vQ tab rfl (vQ tab rfl (vnl (qth (wsq (wrg (vQ tab rfl (vQ tab rfl (vQ tab rfl (vQ tab rfl ?_))))))))))
  rw [← hK]
  obtain ⟨s', hs, f1, f2, f3, f4, f5, f6, f7, hI'⟩ := boot_ap hI (by omega) k0.1 k0.2
  obtain ⟨i1, i2, i3, i4, i5, i6, i7⟩ := hI
  have hl2 : s'.addrs.length = 3 := by rw [f7, List.length_map, i6]
  have u1 : (s'.boots != IntKind.i64.wrap (s.boots + 1)) = false := by rw [f1, i64_in _ (by omega)]; simp
  have u2 : ((s'.sess.length : Int) != 0) = false := by rw [f2]; rfl
  have u3 := decide_eq_true f3
  have u4 := decide_eq_true f4
  have u5 : (s'.epoch != s.epoch) = false := by rw [f5]; simp
  have u6 : (s'.next != s.next) = false := by rw [f6]; simp
  have u7 : ((s'.addrs.length : Int) != 3) = false := by rw [hl2]; rfl
  refine vT rfl callable_13 (apply_as (cf := plainC) (s := s) hs (looks_opn userR rfl rfl) (looks_opn sessR rfl rfl) (looks_opn addrR rfl rfl) (looks_opn (intR .i64) rfl rfl) (by omega) (by omega) (by omega) (by omega) (fun h => absurd (show (0 : Int) = 1 from h) (by decide))) ?_
  refine vQ tab rfl (vQ tab rfl (vQ tab rfl (vN tab rfl (vS tab rfl (vQ tab rfl (vnl (qth (wsq (wsq (wrg (vQ tab rfl (vF rfl callable_11 (num_fun _) (vQ tab rfl (vQ tab rfl (vQ tab rfl (vQ tab rfl (vQ tab rfl (vQ tab rfl (vQ tab rfl (vQ tab rfl (vQ tab rfl (vQ tab rfl (vgd_op false rfl rfl rfl (by simp only [u1, u2, u3, u4, u5, u6, u7, decide_eq_true_eq, decide_eq_false_iff_not, Bool.not_eq_eq_eq_not, Bool.not_true, Bool.not_false, bne_iff_ne, bne_eq_false_iff_eq, beq_iff_eq, beq_eq_false_iff_ne, ne_eq, beq_self_eq_true, bne_self_eq_false, Bool.and_eq_true, Bool.and_eq_false_iff, Bool.or_eq_true, Bool.or_eq_false_iff, and_self, and_true, true_and, Bool.false_eq_true, Bool.true_eq_false, not_false_eq_true, not_true_eq_false]; first | done | omega) ?_)))))))))))))))))))))))
  refine vQ tab rfl (vQ tab rfl (vQ tab rfl (vQ tab rfl (vQ tab rfl (vQ tab rfl (vgd_op false rfl rfl rfl (by simp only [u1, u2, u3, u4, u5, u6, u7, decide_eq_true_eq, decide_eq_false_iff_not, Bool.not_eq_eq_eq_not, Bool.not_true, Bool.not_false, bne_iff_ne, bne_eq_false_iff_eq, beq_iff_eq, beq_eq_false_iff_ne, ne_eq, beq_self_eq_true, bne_self_eq_false, Bool.and_eq_true, Bool.and_eq_false_iff, Bool.or_eq_true, Bool.or_eq_false_iff, and_self, and_true, true_and, Bool.false_eq_true, Bool.true_eq_false, not_false_eq_true, not_true_eq_false]; first | done | omega) ?_))))))
  refine vQ tab rfl (vQ tab rfl (vQ tab rfl (vQ tab rfl (vR rfl callable_18 (same_users (xs := s'.users) (ys := s.users) (looks_opn userR rfl rfl) (looks_opn userR rfl rfl) (by rw [f3]; omega) (by omega)) ?_))))
  refine vQ tab rfl (vQ tab rfl (vQ tab rfl (vgd_op false rfl rfl rfl (by simp only [u1, u2, u3, u4, u5, u6, u7, decide_eq_true_eq, decide_eq_false_iff_not, Bool.not_eq_eq_eq_not, Bool.not_true, Bool.not_false, bne_iff_ne, bne_eq_false_iff_eq, beq_iff_eq, beq_eq_false_iff_ne, ne_eq, beq_self_eq_true, bne_self_eq_false, Bool.and_eq_true, Bool.and_eq_false_iff, Bool.or_eq_true, Bool.or_eq_false_iff, and_self, and_true, true_and, Bool.false_eq_true, Bool.true_eq_false, not_false_eq_true, not_true_eq_false]; first | done | omega) ?_)))
  refine vQ tab rfl (vQ tab rfl (vQ tab rfl (vQ tab rfl (vR rfl callable_19 (same_ints (xs := s'.spent) (ys := s.spent) (looks_opn (intR .i64) rfl rfl) (looks_opn (intR .i64) rfl rfl) (by rw [f4]; omega) (by omega)) ?_))))
  refine vQ tab rfl (vQ tab rfl (vQ tab rfl (vgd_op false rfl rfl rfl (by simp only [u1, u2, u3, u4, u5, u6, u7, decide_eq_true_eq, decide_eq_false_iff_not, Bool.not_eq_eq_eq_not, Bool.not_true, Bool.not_false, bne_iff_ne, bne_eq_false_iff_eq, beq_iff_eq, beq_eq_false_iff_ne, ne_eq, beq_self_eq_true, bne_self_eq_false, Bool.and_eq_true, Bool.and_eq_false_iff, Bool.or_eq_true, Bool.or_eq_false_iff, and_self, and_true, true_and, Bool.false_eq_true, Bool.true_eq_false, not_false_eq_true, not_true_eq_false]; first | done | omega) ?_)))
  refine vQ tab rfl (vQ tab rfl (vQ tab rfl (vQ tab rfl (vQ tab rfl (vQ tab rfl (vQ tab rfl (vgd_op false rfl rfl rfl (by simp only [u1, u2, u3, u4, u5, u6, u7, decide_eq_true_eq, decide_eq_false_iff_not, Bool.not_eq_eq_eq_not, Bool.not_true, Bool.not_false, bne_iff_ne, bne_eq_false_iff_eq, beq_iff_eq, beq_eq_false_iff_ne, ne_eq, beq_self_eq_true, bne_self_eq_false, Bool.and_eq_true, Bool.and_eq_false_iff, Bool.or_eq_true, Bool.or_eq_false_iff, and_self, and_true, true_and, Bool.false_eq_true, Bool.true_eq_false, not_false_eq_true, not_true_eq_false]; first | done | omega) ?_)))))))
  refine vQ tab rfl (vQ tab rfl (vQ tab rfl (vQ tab rfl (vQ tab rfl (vQ tab rfl (vQ tab rfl (vgd_op false rfl rfl rfl (by simp only [u1, u2, u3, u4, u5, u6, u7, decide_eq_true_eq, decide_eq_false_iff_not, Bool.not_eq_eq_eq_not, Bool.not_true, Bool.not_false, bne_iff_ne, bne_eq_false_iff_eq, beq_iff_eq, beq_eq_false_iff_ne, ne_eq, beq_self_eq_true, bne_self_eq_false, Bool.and_eq_true, Bool.and_eq_false_iff, Bool.or_eq_true, Bool.or_eq_false_iff, and_self, and_true, true_and, Bool.false_eq_true, Bool.true_eq_false, not_false_eq_true, not_true_eq_false]; first | done | omega) ?_)))))))
  refine vQ tab rfl (vQ tab rfl (vQ tab rfl (vQ tab rfl (vQ tab rfl (vnl (qth (vcd_false rfl (by simp only [u1, u2, u3, u4, u5, u6, u7, decide_eq_true_eq, decide_eq_false_iff_not, Bool.not_eq_eq_eq_not, Bool.not_true, Bool.not_false, bne_iff_ne, bne_eq_false_iff_eq, beq_iff_eq, beq_eq_false_iff_ne, ne_eq, beq_self_eq_true, bne_self_eq_false, Bool.and_eq_true, Bool.and_eq_false_iff, Bool.or_eq_true, Bool.or_eq_false_iff, and_self, and_true, true_and, Bool.false_eq_true, Bool.true_eq_false, not_false_eq_true, not_true_eq_false]; first | done | omega) ?_)))))))
  refine vw_skip (qth (wsq (wsq (wrg (vQ tab rfl (vnl (qth (wbk ?_))))))))
  refine vw_loop_sub (fun m st => ∃ j : Int, 0 ≤ j ∧ j ≤ 3 ∧ m = (3 - j).toNat ∧
      st = ⟨[(0, .slice (some ⟨0, 0, none⟩) xs.length 0), (3, .pointer (some ⟨1, 0, none⟩)), (4, .pointer (some ⟨2, 0, none⟩)), (6, .int .i64 i), (7, .int .i64 K), (8, .pointer (some ⟨7, 0, none⟩)), (10, .int .i64 j)],
        lkp [(0, .win ((intR .i64).cells xs) 1), (1, confO plainC), (2, stO 3 4 5 6 (s)), (3, .opn (userR.cells (s).users) 49 9), (4, .opn (sessR.cells (s).sess) 54 4), (5, .opn (addrR.cells (s).addrs) 58 3), (6, .opn ((intR .i64).cells (s).spent) 3 1), (7, stO 8 9 10 11 (s')), (8, .opn (userR.cells (s').users) 49 9), (9, .opn (sessR.cells (s').sess) 54 4), (10, .opn (addrR.cells (s').addrs) 58 3), (11, .opn ((intR .i64).cells (s').spent) 3 1)], 12⟩) 3
    ⟨_, (sub_of (g := 1) [1, 2, 3, 4, 5, 6, 11, 7, 8, 9, 10] (by decide) (by decide) (by repeat' first | exact ep_nil | exact ov_conf rfl | exact ov_st (rel_slice rfl rfl) (rel_slice rfl rfl) (rel_slice rfl rfl) (rel_slice rfl rfl) | refine ep_cons rfl ?_ ?_ | exact .int _ _ | exact .bool _ | exact .string _ | exact rel_slice rfl rfl | exact rel_nil rfl rfl | exact rel_ptr rfl | exact .nilPtr | exact .nilIface | exact .nilSlice) (by repeat' first | exact hp_nil | exact ov_conf rfl | exact ov_st (rel_slice rfl rfl) (rel_slice rfl rfl) (rel_slice rfl rfl) (rel_slice rfl rfl) | refine hp_cons rfl rfl ?_ ?_ | refine hp_void rfl rfl ?_ | exact ov_win _ | exact ov_opn _ rfl | exact ov_cells _ _ (by decide))), 0, by omega, by omega, by decide, rfl⟩ ?_
  rintro m st ⟨j, j0, j1, rfl, rfl⟩
  by_cases hj : j < 3
  case neg =>
    refine wsq (wsq (wrg (vQ tab rfl (vQ tab rfl (vnl (qth (vcd_false rfl (by simp only [decide_eq_true_eq, decide_eq_false_iff_not, Bool.not_eq_eq_eq_not, Bool.not_true, Bool.not_false, bne_iff_ne, bne_eq_false_iff_eq, beq_iff_eq, beq_eq_false_iff_ne, ne_eq, beq_self_eq_true, bne_self_eq_false, Bool.and_eq_true, Bool.and_eq_false_iff, Bool.or_eq_true, Bool.or_eq_false_iff, and_self, and_true, true_and, Bool.false_eq_true, Bool.true_eq_false, not_false_eq_true, not_true_eq_false]; first | done | omega) ?_)))))))
    refine vw_exit (q_thenx (q_thenx (q_here (qth (wrg (vQ tab rfl (vS tab rfl (vnl (q_norm (qth (wrg (vQ tab rfl (vQ tab rfl (vQ tab rfl (vnl (qth ?_))))))))))))))))
    exact ⟨(10 - (i + 1)).toNat, _, by omega, (sub_of (g := 1) [1, 2, 8, 9, 10, 11] (by decide) (by decide) (by repeat' first | exact ep_nil | exact ri hi.symm | exact ov_conf rfl | exact ov_st (rel_slice rfl rfl) (rel_slice rfl rfl) (rel_slice rfl rfl) (rel_slice rfl rfl) | refine ep_cons rfl ?_ ?_ | exact .int _ _ | exact .bool _ | exact .string _ | exact rel_slice rfl rfl | exact rel_nil rfl rfl | exact rel_ptr rfl | exact .nilPtr | exact .nilIface | exact .nilSlice) (by repeat' first | exact hp_nil | exact ri hi.symm | exact ov_conf rfl | exact ov_st (rel_slice rfl rfl) (rel_slice rfl rfl) (rel_slice rfl rfl) (rel_slice rfl rfl) | refine hp_cons rfl rfl ?_ ?_ | refine hp_void rfl rfl ?_ | exact ov_win _ | exact ov_opn _ rfl | exact ov_cells _ _ (by decide))), i + 1, s', by omega, by omega, by omega, hI', rfl, rfl⟩
  obtain ⟨p, hp⟩ := get_some (xs := s.addrs) j0 (by omega)
  have hq : s'.addrs[j.toNat]? = some (nxt K p) := by rw [f7, List.getElem?_map, hp]; rfl
  have hj1 : IntKind.i64.wrap (j + 1) = j + 1 := i64_in _ (by omega)
  cases hbz : p.busy with
  | true =>
    unfold nxt at hq; rw [if_pos hbz] at hq
    refine wsq (wsq (wrg (vQ tab rfl (vQ tab rfl (vnl (qth (vcd_true rfl (by simp only [hj1, hbz, eq_self, decide_true, decide_eq_true_eq, decide_eq_false_iff_not, Bool.not_eq_eq_eq_not, Bool.not_true, Bool.not_false, bne_iff_ne, bne_eq_false_iff_eq, beq_iff_eq, beq_eq_false_iff_ne, ne_eq, beq_self_eq_true, bne_self_eq_false, Bool.and_eq_true, Bool.and_eq_false_iff, Bool.or_eq_true, Bool.or_eq_false_iff, and_self, and_true, true_and, Bool.false_eq_true, Bool.true_eq_false, not_false_eq_true, not_true_eq_false]; first | done | omega) ?_)))))))
    refine vw_skip (qth (wsq (wbk (wsq (wrg (vQ tab rfl (vQ tab rfl (vQ tab rfl (vq_op tab rfl rfl rfl (ev_index rfl rfl rfl rfl rfl (by omega) (by omega)) ?_)))))))))
    refine vq_op tab rfl rfl rfl (ev_loadrow addrR rfl rfl rfl rfl rfl rfl hp) (vN tab rfl (vS tab rfl (vnl (qth (wsq (wsq (wrg (vQ tab rfl (vQ tab rfl (vnl (qth (vcd_true rfl (by simp only [hj1, hbz, eq_self, decide_true, decide_eq_true_eq, decide_eq_false_iff_not, Bool.not_eq_eq_eq_not, Bool.not_true, Bool.not_false, bne_iff_ne, bne_eq_false_iff_eq, beq_iff_eq, beq_eq_false_iff_ne, ne_eq, beq_self_eq_true, bne_self_eq_false, Bool.and_eq_true, Bool.and_eq_false_iff, Bool.or_eq_true, Bool.or_eq_false_iff, and_self, and_true, true_and, Bool.false_eq_true, Bool.true_eq_false, not_false_eq_true, not_true_eq_false]; first | done | omega) ?_))))))))))))
    refine wsq (wrg (vQ tab rfl (vS tab rfl (vnl (qth (wrg (vQ tab rfl (vQ tab rfl (vQ tab rfl (vQ tab rfl (vQ tab rfl (vS tab rfl (vnl (qth (wsq (vw_draw mixed (dq_op tab rfl rfl rfl rfl (dq_op tab rfl rfl rfl rfl (dq_op tab rfl rfl rfl rfl (dq_op tab rfl rfl (ev_index rfl rfl rfl rfl rfl (by omega) (by omega)) (ev_index rfl rfl rfl rfl rfl (by omega) (by omega)) ?_))))))))))))))))))))
    refine dq_op tab rfl rfl (ev_loadrow addrR rfl rfl rfl rfl rfl rfl hq) (ev_loadrow addrR rfl rfl rfl rfl rfl rfl hq) (dq_op tab rfl rfl rfl rfl (dq_op tab rfl rfl (ev_neq rfl rfl rfl (addr_eq ⟨false, p.last, IntKind.i64.wrap (K + plainC.quarantine)⟩ ⟨false, p.last, IntKind.i64.wrap (K + plainC.quarantine)⟩)) (ev_neq rfl rfl rfl (addr_eq ⟨false, p.last, IntKind.i64.wrap (K + plainC.quarantine)⟩ ⟨false, p.last, IntKind.i64.wrap (K + plainC.quarantine)⟩)) (vd_nil (by kernel_rfl) ?_)))
    refine qth (vcd_false rfl (by simp only [hj1, hbz, eq_self, decide_true, decide_eq_true_eq, decide_eq_false_iff_not, Bool.not_eq_eq_eq_not, Bool.not_true, Bool.not_false, bne_iff_ne, bne_eq_false_iff_eq, beq_iff_eq, beq_eq_false_iff_ne, ne_eq, beq_self_eq_true, bne_self_eq_false, Bool.and_eq_true, Bool.and_eq_false_iff, Bool.or_eq_true, Bool.or_eq_false_iff, and_self, and_true, true_and, Bool.false_eq_true, Bool.true_eq_false, not_false_eq_true, not_true_eq_false]; first | done | omega) ?_)
    refine vw_skip (q_norm (qth (wrg (vQ tab rfl (vQ tab rfl (vQ tab rfl (vnl (qth ?_))))))))
    exact ⟨(3 - (j + 1)).toNat, _, by omega, (sub_of (g := 1) [1, 2, 3, 4, 5, 6, 7, 8, 9, 10, 11] (by decide) (by decide) (by repeat' first | exact ep_nil | exact ri hj1.symm | exact ov_conf rfl | exact ov_st (rel_slice rfl rfl) (rel_slice rfl rfl) (rel_slice rfl rfl) (rel_slice rfl rfl) | refine ep_cons rfl ?_ ?_ | exact .int _ _ | exact .bool _ | exact .string _ | exact rel_slice rfl rfl | exact rel_nil rfl rfl | exact rel_ptr rfl | exact .nilPtr | exact .nilIface | exact .nilSlice) (by repeat' first | exact hp_nil | exact ri hj1.symm | exact ov_conf rfl | exact ov_st (rel_slice rfl rfl) (rel_slice rfl rfl) (rel_slice rfl rfl) (rel_slice rfl rfl) | refine hp_cons rfl rfl ?_ ?_ | refine hp_void rfl rfl ?_ | exact ov_win _ | exact ov_opn _ rfl | exact ov_cells _ _ (by decide))), j + 1, by omega, by omega, rfl, rfl⟩
  | false =>
    unfold nxt at hq; rw [if_neg (by rw [hbz]; decide)] at hq
    refine wsq (wsq (wrg (vQ tab rfl (vQ tab rfl (vnl (qth (vcd_true rfl (by simp only [hj1, hbz, eq_self, decide_true, decide_eq_true_eq, decide_eq_false_iff_not, Bool.not_eq_eq_eq_not, Bool.not_true, Bool.not_false, bne_iff_ne, bne_eq_false_iff_eq, beq_iff_eq, beq_eq_false_iff_ne, ne_eq, beq_self_eq_true, bne_self_eq_false, Bool.and_eq_true, Bool.and_eq_false_iff, Bool.or_eq_true, Bool.or_eq_false_iff, and_self, and_true, true_and, Bool.false_eq_true, Bool.true_eq_false, not_false_eq_true, not_true_eq_false]; first | done | omega) ?_)))))))
    refine vw_skip (qth (wsq (wbk (wsq (wrg (vQ tab rfl (vQ tab rfl (vQ tab rfl (vq_op tab rfl rfl rfl (ev_index rfl rfl rfl rfl rfl (by omega) (by omega)) ?_)))))))))
    refine vq_op tab rfl rfl rfl (ev_loadrow addrR rfl rfl rfl rfl rfl rfl hp) (vN tab rfl (vS tab rfl (vnl (qth (wsq (wsq (wrg (vQ tab rfl (vQ tab rfl (vnl (qth (vcd_false rfl (by simp only [hj1, hbz, eq_self, decide_true, decide_eq_true_eq, decide_eq_false_iff_not, Bool.not_eq_eq_eq_not, Bool.not_true, Bool.not_false, bne_iff_ne, bne_eq_false_iff_eq, beq_iff_eq, beq_eq_false_iff_ne, ne_eq, beq_self_eq_true, bne_self_eq_false, Bool.and_eq_true, Bool.and_eq_false_iff, Bool.or_eq_true, Bool.or_eq_false_iff, and_self, and_true, true_and, Bool.false_eq_true, Bool.true_eq_false, not_false_eq_true, not_true_eq_false]; first | done | omega) ?_))))))))))))
    refine vw_skip (qth (wsq (vw_draw mixed (dq_op tab rfl rfl rfl rfl (dq_op tab rfl rfl rfl rfl (dq_op tab rfl rfl rfl rfl (dq_op tab rfl rfl (ev_index rfl rfl rfl rfl rfl (by omega) (by omega)) (ev_index rfl rfl rfl rfl rfl (by omega) (by omega)) ?_)))))))
    refine dq_op tab rfl rfl (ev_loadrow addrR rfl rfl rfl rfl rfl rfl hq) (ev_loadrow addrR rfl rfl rfl rfl rfl rfl hq) (dq_op tab rfl rfl rfl rfl (dq_op tab rfl rfl (ev_neq rfl rfl rfl (addr_eq p p)) (ev_neq rfl rfl rfl (addr_eq p p)) (vd_nil (by kernel_rfl) ?_)))
    refine qth (vcd_false rfl (by simp only [hj1, hbz, eq_self, decide_true, decide_eq_true_eq, decide_eq_false_iff_not, Bool.not_eq_eq_eq_not, Bool.not_true, Bool.not_false, bne_iff_ne, bne_eq_false_iff_eq, beq_iff_eq, beq_eq_false_iff_ne, ne_eq, beq_self_eq_true, bne_self_eq_false, Bool.and_eq_true, Bool.and_eq_false_iff, Bool.or_eq_true, Bool.or_eq_false_iff, and_self, and_true, true_and, Bool.false_eq_true, Bool.true_eq_false, not_false_eq_true, not_true_eq_false]; first | done | omega) ?_)
    refine vw_skip (q_norm (qth (wrg (vQ tab rfl (vQ tab rfl (vQ tab rfl (vnl (qth ?_))))))))
    exact ⟨(3 - (j + 1)).toNat, _, by omega, (sub_of (g := 1) [1, 2, 3, 4, 5, 6, 7, 8, 9, 10, 11] (by decide) (by decide) (by repeat' first | exact ep_nil | exact ri hj1.symm | exact ov_conf rfl | exact ov_st (rel_slice rfl rfl) (rel_slice rfl rfl) (rel_slice rfl rfl) (rel_slice rfl rfl) | refine ep_cons rfl ?_ ?_ | exact .int _ _ | exact .bool _ | exact .string _ | exact rel_slice rfl rfl | exact rel_nil rfl rfl | exact rel_ptr rfl | exact .nilPtr | exact .nilIface | exact .nilSlice) (by repeat' first | exact hp_nil | exact ri hj1.symm | exact ov_conf rfl | exact ov_st (rel_slice rfl rfl) (rel_slice rfl rfl) (rel_slice rfl rfl) (rel_slice rfl rfl) | refine hp_cons rfl rfl ?_ ?_ | refine hp_void rfl rfl ?_ | exact ov_win _ | exact ov_opn _ rfl | exact ov_cells _ _ (by decide))), j + 1, by omega, by omega, rfl, rfl⟩
end Go.Proofs.Ytcjfidfealifhaa
