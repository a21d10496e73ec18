/- Package field: num. -/
import Derived.Test.YtkfkdhjelncfhaaDoorVg1
import Derived.Test.YtkfkdhjelncfhaaDoorFd2
namespace Go.Proofs.YtkfkdhjelncfhaaDoor
open Go Vm IntWalk
set_option linter.unusedVariables false
set_option linter.unusedSimpArgs false
theorem ov_u8 {σ : Ren} {xs : List Int} {s : ByteArray} {e : TypeId} (h : xs = (B s).map fun b => ((b.toNat : Nat) : Int)) : OV σ (.opn (u8R.cells xs) e 1) (.opn (u8s s) e 1) := by
  rw [u8s_rows]; exact ov_opn u8R h
theorem wid_be {r : Bs} (h : r.length ≤ 4) : wid (be r) = r.length ↔ ¬ (0 < r.length ∧ r.getD 0 0 = 0) := by
  have hz : ∀ z : UInt8, z = 0 ↔ z.toNat = 0 := fun z => ⟨fun h => by rw [h]; rfl, fun h => UInt8.toNat_inj.1 h⟩
  match r, h with
  | [], _ => simp [be, wid]
  | [a], _ =>
    have := a.toNat_lt
    simp only [be, List.foldl_cons, List.foldl_nil, List.length_cons, List.length_nil, List.getD_cons_zero, hz]
    unfold wid; (repeat' split) <;> omega
  | [a, b], _ =>
    have := a.toNat_lt; have := b.toNat_lt
    simp only [be, List.foldl_cons, List.foldl_nil, List.length_cons, List.length_nil, List.getD_cons_zero, hz]
    unfold wid; (repeat' split) <;> omega
  | [a, b, c], _ =>
    have := a.toNat_lt; have := b.toNat_lt; have := c.toNat_lt
    simp only [be, List.foldl_cons, List.foldl_nil, List.length_cons, List.length_nil, List.getD_cons_zero, hz]
    unfold wid; (repeat' split) <;> omega
  | [a, b, c, d], _ =>
    have := a.toNat_lt; have := b.toNat_lt; have := c.toNat_lt; have := d.toNat_lt
    simp only [be, List.foldl_cons, List.foldl_nil, List.length_cons, List.length_nil, List.getD_cons_zero, hz]
    unfold wid; (repeat' split) <;> omega
theorem getN_good {s : Bs} {a x t : Int} (h : getN s a = (x, t, 0, 0)) : ¬ (a < 0 ∨ (s.length : Int) < a) ∧ ¬ a = s.length ∧ ¬ 4 < (s.getD a.toNat 0).toNat ∧ ¬ (s.length : Int) - a - 1 < ((s.getD a.toNat 0).toNat : Int) ∧
    ¬ ((0 < (s.getD a.toNat 0).toNat ∧ s.getD (a.toNat + 1) 0 = 0) ∨ 1073741823 < be ((s.drop (a.toNat + 1)).take (s.getD a.toNat 0).toNat)) ∧ x = be ((s.drop (a.toNat + 1)).take (s.getD a.toNat 0).toNat) ∧ t = a + 1 + ((s.getD a.toNat 0).toNat : Int) := by
  unfold getN at h
  split at h
  · simp at h
  split at h
  · simp at h
  split at h
  · simp at h
  split at h
  · simp at h
  split at h
  · simp at h
  rename_i c0 c1 c2 c3 c4
  simp only [Prod.mk.injEq, and_true] at h
  exact ⟨c0, c1, c2, c3, c4, h.1.symm, h.2.symm⟩
set_option maxHeartbeats 16000000 in
theorem fnum_good {s : ByteArray} {a x t : Int} (h : getN (B s) a = (x, t, 0, 0)) (hs : s.size ≤ 9223372036854775807) : Fun Tryd.prog 21 [.string s, .int .i64 a] (.tuple #[.int .i64 x, .int .i64 t, .nilIface]) := by
  refine fun_of_vw tab Tryd.func21 rfl rfl (by simp [Tryd.f21]) (lrel_cons (.string _) (lrel_cons (.int _ _) lrel_nil)) (vrel_tuple (lrel_cons (.int _ _) (lrel_cons (.int _ _) (lrel_cons .nilIface lrel_nil)))) ?_
  have hl := B_len s
  obtain ⟨c0, c1, c2, c3, c4, hx, ht⟩ := getN_good h
  rw [hl] at c0 c1 c3
  obtain ⟨k, hk⟩ : ∃ k, k = ((B s).getD a.toNat 0).toNat := ⟨_, rfl⟩
  have hkl : k < 256 := by rw [hk]; exact UInt8.toNat_lt _
  have hkw : IntKind.i64.wrap (k : Int) = k := i64_in _ (by omega)
  have a0 : 0 ≤ a := by omega
  have a1 : a < (s.size : Int) := by omega
  have hw1 : IntKind.i64.wrap (a + 1) = a + 1 := i64_in _ (by omega)
  have hbn : bnd 0 (some (some (.int .i64 (IntKind.i64.wrap (a + 1))))) = some (a.toNat + 1) := by rw [hw1, bnd_int (by omega)]; congr 1; omega
  obtain ⟨rest, hrest⟩ : ∃ rest, rest = s.extract (a.toNat + 1) s.size := ⟨_, rfl⟩
  have hBr : B rest = (B s).drop (a.toNat + 1) := by rw [hrest, B_cut, List.take_of_length_le]; rw [List.length_drop]; omega
  have hrs : rest.size = s.size - (a.toNat + 1) := by rw [← B_len rest, hBr, List.length_drop, hl]
  have hbk : ∀ d, bnd d (some (some (.int .i64 (IntKind.i64.wrap (k : Int))))) = some k := fun d => by rw [hkw]; exact bnd_nat k
  rw [← hk] at c2 c3 c4 hx ht
  obtain ⟨r, hr⟩ : ∃ r, r = ((B s).drop (a.toNat + 1)).take k := ⟨_, rfl⟩
  have hrl : r.length = k := by rw [hr, List.length_take, List.length_drop]; omega
  have hBt : B (rest.extract 0 k) = r := by rw [B_cut, hBr, List.drop_zero, Nat.sub_zero, hr]
  have hts : (rest.extract 0 k).size = k := by rw [← B_len, hBt, hrl]
  refine wsq (wrg (vQ tab rfl (vQ tab rfl (vQ tab rfl (vnl (qth (wsq (wbk (wsq (wrg (vQ tab rfl (vQ tab rfl (vQ tab rfl (vgd_op false rfl rfl rfl (by simp only [hkw, decide_eq_true_eq, decide_eq_false_iff_not, Bool.not_eq_eq_eq_not, Bool.not_true, Bool.not_false, bne_iff_ne, bne_eq_false_iff_eq, beq_iff_eq, beq_eq_false_iff_ne, ne_eq, beq_self_eq_true, bne_self_eq_false, Bool.and_eq_true, Bool.and_eq_false_iff, Bool.or_eq_true, Bool.or_eq_false_iff, and_self, and_true, true_and, Bool.false_eq_true, Bool.true_eq_false, not_false_eq_true, not_true_eq_false]; first | done | omega) ?_))))))))))))))
  refine vQ tab rfl (vQ tab rfl (vQ tab rfl (vQ tab rfl (vQ tab rfl (vQ tab rfl (vnl (qth (vcd_false rfl (by simp only [hkw, decide_eq_true_eq, decide_eq_false_iff_not, Bool.not_eq_eq_eq_not, Bool.not_true, Bool.not_false, bne_iff_ne, bne_eq_false_iff_eq, beq_iff_eq, beq_eq_false_iff_ne, ne_eq, beq_self_eq_true, bne_self_eq_false, Bool.and_eq_true, Bool.and_eq_false_iff, Bool.or_eq_true, Bool.or_eq_false_iff, and_self, and_true, true_and, Bool.false_eq_true, Bool.true_eq_false, not_false_eq_true, not_true_eq_false]; first | done | omega) ?_))))))))
  refine wsq (wrg (vQ tab rfl (vQ tab rfl (vQ tab rfl (vQ tab rfl (vQ tab rfl (vnl (qth (vcd_false rfl (by simp only [hkw, decide_eq_true_eq, decide_eq_false_iff_not, Bool.not_eq_eq_eq_not, Bool.not_true, Bool.not_false, bne_iff_ne, bne_eq_false_iff_eq, beq_iff_eq, beq_eq_false_iff_ne, ne_eq, beq_self_eq_true, bne_self_eq_false, Bool.and_eq_true, Bool.and_eq_false_iff, Bool.or_eq_true, Bool.or_eq_false_iff, and_self, and_true, true_and, Bool.false_eq_true, Bool.true_eq_false, not_false_eq_true, not_true_eq_false]; first | done | omega) ?_)))))))))
  refine vw_skip (q_norm (qth (wsq (vw_draw mixed (dq_op tab rfl rfl rfl rfl (dq_op tab rfl rfl rfl rfl (dq_op tab rfl rfl (ev_char_as rfl rfl rfl rfl a0 a1 hk.symm) (ev_char_as rfl rfl rfl rfl a0 a1 hk.symm) (dq_op tab rfl rfl rfl rfl (dq_op tab rfl rfl rfl rfl (dq_op tab rfl rfl rfl rfl (dq_op tab rfl rfl rfl rfl (dq_op tab rfl rfl (ev_part_as rfl rfl rfl hbn rfl (by omega) (Nat.le_refl _) hrest.symm) (ev_part_as rfl rfl rfl hbn rfl (by omega) (Nat.le_refl _) hrest.symm) ?_))))))))))))
  refine dq_op tab rfl rfl rfl rfl (dq_op tab rfl rfl rfl rfl (vd_nil (by kernel_rfl) ?_))
  refine qth (wsq (wbk (wsq (wrg (vQ tab rfl (vQ tab rfl (vQ tab rfl (vnl (qth (vcd_false rfl (by simp only [hkw, decide_eq_true_eq, decide_eq_false_iff_not, Bool.not_eq_eq_eq_not, Bool.not_true, Bool.not_false, bne_iff_ne, bne_eq_false_iff_eq, beq_iff_eq, beq_eq_false_iff_ne, ne_eq, beq_self_eq_true, bne_self_eq_false, Bool.and_eq_true, Bool.and_eq_false_iff, Bool.or_eq_true, Bool.or_eq_false_iff, and_self, and_true, true_and, Bool.false_eq_true, Bool.true_eq_false, not_false_eq_true, not_true_eq_false]; first | done | omega) ?_))))))))))
  refine wsq (wrg (vQ tab rfl (vQ tab rfl (vQ tab rfl (vQ tab rfl (vQ tab rfl (vnl (qth (vcd_false rfl (by simp only [hkw, decide_eq_true_eq, decide_eq_false_iff_not, Bool.not_eq_eq_eq_not, Bool.not_true, Bool.not_false, bne_iff_ne, bne_eq_false_iff_eq, beq_iff_eq, beq_eq_false_iff_ne, ne_eq, beq_self_eq_true, bne_self_eq_false, Bool.and_eq_true, Bool.and_eq_false_iff, Bool.or_eq_true, Bool.or_eq_false_iff, and_self, and_true, true_and, Bool.false_eq_true, Bool.true_eq_false, not_false_eq_true, not_true_eq_false]; first | done | omega) ?_)))))))))
  refine vw_skip (q_norm (qth (wsq (wrg (vQ tab rfl (vnl (qth (wsq (wsq (wrg (vQ tab rfl (vQ tab rfl (vq_op tab rfl rfl rfl (ev_part rfl rfl rfl rfl (hbk _) (Nat.zero_le _) (by omega)) ?_)))))))))))))
  refine vN tab rfl (vQ tab rfl (vQ tab rfl (vnl (qth (wbk ?_)))))
  have hb0 : (be (r.take 0) : Int) = 0 := rfl
  have hk2 : (k : Int) = ((rest.extract 0 k).size : Int) := by rw [hts]
  have hmap : (r.map fun b => ((b.toNat : Nat) : Int)) = (B (rest.extract 0 k)).map fun b => ((b.toNat : Nat) : Int) := by rw [hBt]
  refine vw_loop_sub (fun m st => ∃ j : Nat, j ≤ k ∧ m = k - j ∧
      st = ⟨[(1, .int .i64 a), (7, .int .i64 (k : Int)), (9, .int .i64 (be (r.take j))), (66, .slice (some ⟨0, 0, none⟩) k 0), (67, .int .i64 (k : Int)), (68, .int .i64 ((j : Nat) : Int))], lkp [(0, .opn (u8R.cells (r.map fun b => ((b.toNat : Nat) : Int))) 5 1)], 1⟩) k
    ⟨_, (sub_of (g := 0) [0] (by decide) (by decide) (by repeat' first | exact ep_nil | exact ri hkw.symm | exact ri hb0 | exact rel_slice rfl hts.symm | exact ri hk2 | exact ov_u8 hmap | refine ep_cons rfl ?_ ?_ | exact .int _ _ | exact .bool _ | exact .string _ | exact rel_slice rfl rfl | exact rel_nil rfl rfl | exact rel_ptr rfl | exact .nilPtr | exact .nilIface | exact .nilSlice) (by repeat' first | exact hp_nil | exact ri hkw.symm | exact ri hb0 | exact rel_slice rfl hts.symm | exact ri hk2 | exact ov_u8 hmap | refine hp_cons rfl rfl ?_ ?_ | refine hp_void rfl rfl ?_ | exact ov_win _ | exact ov_opn _ rfl | exact ov_cells _ _ (by decide))), 0, by omega, by omega, rfl⟩ ?_
  rintro m st ⟨j, j0, rfl, rfl⟩
  by_cases hj : j < k
  · have hb := be_small (s := B s) (p := a.toNat + 1) (k := k) (j := j) (by omega) hj (by omega)
    rw [← hr] at hb
    have hx := row_at (s := B s) (p := a.toNat + 1) (k := k) (j := j) hj (by omega)
    rw [← hr] at hx
    obtain ⟨c, hc⟩ : ∃ c, c = (B s).getD (a.toNat + 1 + j) 0 := ⟨_, rfl⟩
    have hcl := c.toNat_lt
    rw [← hc] at hx
    have hx2 : (r.map fun b => ((b.toNat : Nat) : Int))[((j : Nat) : Int).toNat]? = some ((c.toNat : Nat) : Int) := by rw [Int.toNat_natCast, List.getElem?_map, hx]; rfl
    have hor : bits .or .i64 (IntKind.i64.wrap (be (r.take j) * 2 ^ (min (8 : Int).toNat IntKind.i64.bits))) (IntKind.i64.wrap ((c.toNat : Nat) : Int)) = be (r.take (j + 1)) := by
      rw [i64_in ((c.toNat : Nat) : Int) (by omega), or_8 hb.1 hb.2 (by omega) (by omega), be_next hx]
    have hj1 : IntKind.i64.wrap (((j : Nat) : Int) + 1) = ((j + 1 : Nat) : Int) := by rw [i64_in _ (by omega)]; omega
    refine wsq (wrg (vQ tab rfl (vnl (qth (wsq (vcd_true rfl (by simp only [decide_eq_true_eq, decide_eq_false_iff_not, Bool.not_eq_eq_eq_not, Bool.not_true, Bool.not_false, bne_iff_ne, bne_eq_false_iff_eq, beq_iff_eq, beq_eq_false_iff_ne, ne_eq, beq_self_eq_true, bne_self_eq_false, Bool.and_eq_true, Bool.and_eq_false_iff, Bool.or_eq_true, Bool.or_eq_false_iff, and_self, and_true, true_and, Bool.false_eq_true, Bool.true_eq_false, not_false_eq_true, not_true_eq_false]; first | done | omega) ?_))))))
    refine vw_skip (qth (wsq (wbk (wsq (wrg (vq_op tab rfl rfl rfl (ev_index rfl rfl rfl rfl rfl (by omega) (by omega)) ?_))))))
    refine vq_op tab rfl rfl rfl (ev_val u8R rfl rfl rfl rfl rfl hx2 rfl) (vQ tab rfl (vnl (qth (wrg (vQ tab rfl (vQ tab rfl (vQ tab rfl (vQ tab rfl (vQ tab rfl (vQ tab rfl (vnl (q_norm (qth (wrg (vQ tab rfl (vQ tab rfl (vnl (qth ?_))))))))))))))))))
    exact ⟨k - (j + 1), _, by omega, (sub_of (g := 0) [0] (by decide) (by decide) (by repeat' first | exact ep_nil | exact ri hor.symm | exact ri hj1.symm | exact ov_opn u8R rfl | refine ep_cons rfl ?_ ?_ | exact .int _ _ | exact .bool _ | exact .string _ | exact rel_slice rfl rfl | exact rel_nil rfl rfl | exact rel_ptr rfl | exact .nilPtr | exact .nilIface | exact .nilSlice) (by repeat' first | exact hp_nil | exact ri hor.symm | exact ri hj1.symm | exact ov_opn u8R rfl | refine hp_cons rfl rfl ?_ ?_ | refine hp_void rfl rfl ?_ | exact ov_win _ | exact ov_opn _ rfl | exact ov_cells _ _ (by decide))), j + 1, by omega, rfl, rfl⟩
  have hjk : j = k := by omega
  subst hjk
  have hrt : r.take j = r := by rw [← hrl, List.take_length]
  rw [hrt]
  have hbb := be_bound r r.length (Nat.le_refl _)
  rw [List.take_length] at hbb
  have hb32 : be r < 4294967296 := by
    have h5 : r.length = 0 ∨ r.length = 1 ∨ r.length = 2 ∨ r.length = 3 ∨ r.length = 4 := by omega
    have p0 : (256 : Int) ^ 0 = 1 := rfl
    have p1 : (256 : Int) ^ 1 = 256 := rfl
    have p2 : (256 : Int) ^ 2 = 65536 := rfl
    have p3 : (256 : Int) ^ 3 = 16777216 := rfl
    have p4 : (256 : Int) ^ 4 = 4294967296 := rfl
    rcases h5 with h | h | h | h | h <;> rw [h] at hbb <;> omega
  have hwid := wid_be (r := r) (by omega)
  have hgd : 0 < j → r.getD 0 0 = (B s).getD (a.toNat + 1) 0 := fun h => by
    have := row_at (s := B s) (p := a.toNat + 1) (k := j) (j := 0) h (by omega)
    rw [← hr, Nat.add_zero] at this
    rw [List.getD_eq_getElem?_getD, this]; rfl
  rw [← hr] at c4 hx
  have hne : (((wid (be r) : Nat) : Int) != (j : Int)) = false := by
    have : wid (be r) = r.length := hwid.2 (fun q => c4 (.inl ⟨by omega, by rw [← hgd (by omega)]; exact q.2⟩))
    rw [this, hrl]; simp
  have hw5 : IntKind.i64.wrap (IntKind.i64.wrap (a + 1) + (j : Int)) = t := by rw [hw1, i64_in _ (by omega)]; omega
  refine wsq (wrg (vQ tab rfl (vnl (qth (wsq (vcd_false rfl (by simp only [hne, decide_eq_true_eq, decide_eq_false_iff_not, Bool.not_eq_eq_eq_not, Bool.not_true, Bool.not_false, bne_iff_ne, bne_eq_false_iff_eq, beq_iff_eq, beq_eq_false_iff_ne, ne_eq, beq_self_eq_true, bne_self_eq_false, Bool.and_eq_true, Bool.and_eq_false_iff, Bool.or_eq_true, Bool.or_eq_false_iff, and_self, and_true, true_and, Bool.false_eq_true, Bool.true_eq_false, not_false_eq_true, not_true_eq_false]; first | done | omega) ?_))))))
  refine vw_exit (q_thenx (q_thenx (q_here (qth (wsq (wsq (wrg (vQ tab rfl (vF rfl callable_19 (width_fun hb32) (vQ tab rfl (vQ tab rfl (vQ tab rfl (vgd_op false rfl rfl rfl (by simp only [hne, decide_eq_true_eq, decide_eq_false_iff_not, Bool.not_eq_eq_eq_not, Bool.not_true, Bool.not_false, bne_iff_ne, bne_eq_false_iff_eq, beq_iff_eq, beq_eq_false_iff_ne, ne_eq, beq_self_eq_true, bne_self_eq_false, Bool.and_eq_true, Bool.and_eq_false_iff, Bool.or_eq_true, Bool.or_eq_false_iff, and_self, and_true, true_and, Bool.false_eq_true, Bool.true_eq_false, not_false_eq_true, not_true_eq_false]; first | done | omega) ?_)))))))))))))
  refine vQ tab rfl (vQ tab rfl (vQ tab rfl (vnl (qth (vcd_false rfl (by simp only [hne, decide_eq_true_eq, decide_eq_false_iff_not, Bool.not_eq_eq_eq_not, Bool.not_true, Bool.not_false, bne_iff_ne, bne_eq_false_iff_eq, beq_iff_eq, beq_eq_false_iff_ne, ne_eq, beq_self_eq_true, bne_self_eq_false, Bool.and_eq_true, Bool.and_eq_false_iff, Bool.or_eq_true, Bool.or_eq_false_iff, and_self, and_true, true_and, Bool.false_eq_true, Bool.true_eq_false, not_false_eq_true, not_true_eq_false]; first | done | omega) ?_)))))
  refine vw_skip (qth (wsq (wrg (vQ tab rfl (vQ tab rfl (vQ tab rfl (vQ tab rfl (vQ tab rfl (vQ tab rfl (vQ tab rfl (vQ tab rfl (vnl (qth (vw_ret ?_))))))))))))))
  exact ⟨.inr rfl, Eq.trans (b := some (.tuple #[.int .i64 (be r), .int .i64 (IntKind.i64.wrap (IntKind.i64.wrap (a + 1) + (j : Int))), .nilIface])) rfl (by rw [hw5, hx])⟩
abbrev faultO (p e : Int) : VObj := .cells [.int .i64 p, .iface 22 (.int .i64 e)] 58 (0, 0)
abbrev errP (i : Nat) : Value := .iface 56 (.pointer (some ⟨i, 0, none⟩))
set_option maxHeartbeats 16000000 in
theorem fnum_bad {V : Heap} {n : Nat} {s : ByteArray} {a e p : Int} (h : getN (B s) a = (0, 0, e, p)) (he : e ≠ 0) (hs : s.size ≤ 9223372036854775807) :
    Tri Tryd.prog 21 [.string s, .int .i64 a] n 1 V (fun u L => u = .tuple #[.int .i64 0, .int .i64 0, errP n] ∧ L = [(n, some (faultO p e))]) := by
  refine call_of_vw (K := 0) (argsI := [.string s, .int .i64 a]) tab Tryd.func21 rfl rfl (by simp [Tryd.f21]) [] [] rfl .nil (by simp [ownNames]) (by simp [ownNames, lookNames]) (by simp [ownNames, *]) (al_cons (.val (.string _)) (al_cons (.val (.int _ _)) al_nil)) (seen_of sn_nil) ?_
  have hl := B_len s
  unfold getN at h
  rw [hl] at h
  by_cases c0 : a < 0 ∨ (s.size : Int) < a
  · rw [if_pos c0] at h; cases h
    rcases (show a < 0 ∨ (¬ a < 0 ∧ (s.size : Int) < a) by omega) with h | h
    all_goals
      first
        | refine wsq (wrg (vQ tab rfl (vQ tab rfl (vQ tab rfl (vnl (qth (wsq (wbk (wsq (wrg (vQ tab rfl (vQ tab rfl (vQ tab rfl (vgd_op true rfl rfl rfl (by simp only [decide_eq_true_eq, decide_eq_false_iff_not, Bool.not_eq_eq_eq_not, Bool.not_true, Bool.not_false, bne_iff_ne, bne_eq_false_iff_eq, beq_iff_eq, beq_eq_false_iff_ne, ne_eq, beq_self_eq_true, bne_self_eq_false, Bool.and_eq_true, Bool.and_eq_false_iff, Bool.or_eq_true, Bool.or_eq_false_iff, and_self, and_true, true_and, Bool.false_eq_true, Bool.true_eq_false, not_false_eq_true, not_true_eq_false]; first | done | omega) ?_))))))))))))))
          refine vK rfl (vK rfl (vK rfl (vK rfl (vQ tab rfl (vQ tab rfl (vnl (qth (vc_true rfl (wsq (wrg (vQ tab rfl (vQ tab rfl (vQ tab rfl (vN tab rfl (vQ tab rfl (vQ tab rfl (vQ tab rfl (vQ tab rfl (vnl (qth (vw_ret (q_ret (q_thenr ?_)))))))))))))))))))))))
        | refine wsq (wrg (vQ tab rfl (vQ tab rfl (vQ tab rfl (vnl (qth (wsq (wbk (wsq (wrg (vQ tab rfl (vQ tab rfl (vQ tab rfl (vgd_op false rfl rfl rfl (by simp only [decide_eq_true_eq, decide_eq_false_iff_not, Bool.not_eq_eq_eq_not, Bool.not_true, Bool.not_false, bne_iff_ne, bne_eq_false_iff_eq, beq_iff_eq, beq_eq_false_iff_ne, ne_eq, beq_self_eq_true, bne_self_eq_false, Bool.and_eq_true, Bool.and_eq_false_iff, Bool.or_eq_true, Bool.or_eq_false_iff, and_self, and_true, true_and, Bool.false_eq_true, Bool.true_eq_false, not_false_eq_true, not_true_eq_false]; first | done | omega) ?_))))))))))))))
          refine vQ tab rfl (vQ tab rfl (vQ tab rfl (vQ tab rfl (vQ tab rfl (vQ tab rfl (vnl (qth (vcd_true rfl (by simp only [decide_eq_true_eq, decide_eq_false_iff_not, Bool.not_eq_eq_eq_not, Bool.not_true, Bool.not_false, bne_iff_ne, bne_eq_false_iff_eq, beq_iff_eq, beq_eq_false_iff_ne, ne_eq, beq_self_eq_true, bne_self_eq_false, Bool.and_eq_true, Bool.and_eq_false_iff, Bool.or_eq_true, Bool.or_eq_false_iff, and_self, and_true, true_and, Bool.false_eq_true, Bool.true_eq_false, not_false_eq_true, not_true_eq_false]; first | done | omega) ?_))))))))
          refine wsq (wrg (vQ tab rfl (vQ tab rfl (vQ tab rfl (vN tab rfl (vQ tab rfl (vQ tab rfl (vQ tab rfl (vQ tab rfl (vnl (qth (vw_ret (q_ret (q_thenr ?_))))))))))))))
      exact out_mk [0] (.inr rfl) ⟨rfl, rfl⟩ rfl (vrel_tuple (lrel_cons (.int _ _) (lrel_cons (.int _ _) (lrel_cons (.iface _ (rel_ptr (sigma_look (i := 0) rfl))) lrel_nil)))) (op_cons (sigma_look (i := 0) rfl) rfl rfl (.cells _ _ (lrel_cons (.int _ _) (lrel_cons (.iface _ (.int _ _)) lrel_nil))) rfl op_nil) trivial
  rw [if_neg c0] at h
  by_cases c1 : a = s.size
  · rw [if_pos c1] at h; cases h
    refine wsq (wrg (vQ tab rfl (vQ tab rfl (vQ tab rfl (vnl (qth (wsq (wbk (wsq (wrg (vQ tab rfl (vQ tab rfl (vQ tab rfl (vgd_op false rfl rfl rfl (by simp only [decide_eq_true_eq, decide_eq_false_iff_not, Bool.not_eq_eq_eq_not, Bool.not_true, Bool.not_false, bne_iff_ne, bne_eq_false_iff_eq, beq_iff_eq, beq_eq_false_iff_ne, ne_eq, beq_self_eq_true, bne_self_eq_false, Bool.and_eq_true, Bool.and_eq_false_iff, Bool.or_eq_true, Bool.or_eq_false_iff, and_self, and_true, true_and, Bool.false_eq_true, Bool.true_eq_false, not_false_eq_true, not_true_eq_false]; first | done | omega) ?_))))))))))))))
    refine vQ tab rfl (vQ tab rfl (vQ tab rfl (vQ tab rfl (vQ tab rfl (vQ tab rfl (vnl (qth (vcd_false rfl (by simp only [decide_eq_true_eq, decide_eq_false_iff_not, Bool.not_eq_eq_eq_not, Bool.not_true, Bool.not_false, bne_iff_ne, bne_eq_false_iff_eq, beq_iff_eq, beq_eq_false_iff_ne, ne_eq, beq_self_eq_true, bne_self_eq_false, Bool.and_eq_true, Bool.and_eq_false_iff, Bool.or_eq_true, Bool.or_eq_false_iff, and_self, and_true, true_and, Bool.false_eq_true, Bool.true_eq_false, not_false_eq_true, not_true_eq_false]; first | done | omega) ?_))))))))
    refine wsq (wrg (vQ tab rfl (vQ tab rfl (vQ tab rfl (vQ tab rfl (vQ tab rfl (vnl (qth (vcd_true rfl (by simp only [decide_eq_true_eq, decide_eq_false_iff_not, Bool.not_eq_eq_eq_not, Bool.not_true, Bool.not_false, bne_iff_ne, bne_eq_false_iff_eq, beq_iff_eq, beq_eq_false_iff_ne, ne_eq, beq_self_eq_true, bne_self_eq_false, Bool.and_eq_true, Bool.and_eq_false_iff, Bool.or_eq_true, Bool.or_eq_false_iff, and_self, and_true, true_and, Bool.false_eq_true, Bool.true_eq_false, not_false_eq_true, not_true_eq_false]; first | done | omega) ?_)))))))))
    refine wsq (wrg (vQ tab rfl (vQ tab rfl (vQ tab rfl (vN tab rfl (vQ tab rfl (vQ tab rfl (vQ tab rfl (vQ tab rfl (vnl (qth (vw_ret (q_ret (q_thenr ?_))))))))))))))
    exact out_mk [0] (.inr rfl) ⟨rfl, rfl⟩ rfl (vrel_tuple (lrel_cons (.int _ _) (lrel_cons (.int _ _) (lrel_cons (.iface _ (rel_ptr (sigma_look (i := 0) rfl))) lrel_nil)))) (op_cons (sigma_look (i := 0) rfl) rfl rfl (.cells _ _ (lrel_cons (.int _ _) (lrel_cons (.iface _ (.int _ _)) lrel_nil))) rfl op_nil) trivial
  rw [if_neg c1] at h
  obtain ⟨k, hk⟩ : ∃ k, k = ((B s).getD a.toNat 0).toNat := ⟨_, rfl⟩
  have hkl : k < 256 := by rw [hk]; exact UInt8.toNat_lt _
  have hkw : IntKind.i64.wrap (k : Int) = k := i64_in _ (by omega)
  have a0 : 0 ≤ a := by omega
  have a1 : a < (s.size : Int) := by omega
  have hw1 : IntKind.i64.wrap (a + 1) = a + 1 := i64_in _ (by omega)
  have hbn : bnd 0 (some (some (.int .i64 (IntKind.i64.wrap (a + 1))))) = some (a.toNat + 1) := by rw [hw1, bnd_int (by omega)]; congr 1; omega
  obtain ⟨rest, hrest⟩ : ∃ rest, rest = s.extract (a.toNat + 1) s.size := ⟨_, rfl⟩
  have hBr : B rest = (B s).drop (a.toNat + 1) := by rw [hrest, B_cut, List.take_of_length_le]; rw [List.length_drop]; omega
  have hrs : rest.size = s.size - (a.toNat + 1) := by rw [← B_len rest, hBr, List.length_drop, hl]
  have hbk : ∀ d, bnd d (some (some (.int .i64 (IntKind.i64.wrap (k : Int))))) = some k := fun d => by rw [hkw]; exact bnd_nat k
  rw [← hk] at h
  by_cases c2 : 4 < k
  · rw [if_pos c2] at h; cases h
    refine wsq (wrg (vQ tab rfl (vQ tab rfl (vQ tab rfl (vnl (qth (wsq (wbk (wsq (wrg (vQ tab rfl (vQ tab rfl (vQ tab rfl (vgd_op false rfl rfl rfl (by simp only [hkw, decide_eq_true_eq, decide_eq_false_iff_not, Bool.not_eq_eq_eq_not, Bool.not_true, Bool.not_false, bne_iff_ne, bne_eq_false_iff_eq, beq_iff_eq, beq_eq_false_iff_ne, ne_eq, beq_self_eq_true, bne_self_eq_false, Bool.and_eq_true, Bool.and_eq_false_iff, Bool.or_eq_true, Bool.or_eq_false_iff, and_self, and_true, true_and, Bool.false_eq_true, Bool.true_eq_false, not_false_eq_true, not_true_eq_false]; first | done | omega) ?_))))))))))))))
    refine vQ tab rfl (vQ tab rfl (vQ tab rfl (vQ tab rfl (vQ tab rfl (vQ tab rfl (vnl (qth (vcd_false rfl (by simp only [hkw, decide_eq_true_eq, decide_eq_false_iff_not, Bool.not_eq_eq_eq_not, Bool.not_true, Bool.not_false, bne_iff_ne, bne_eq_false_iff_eq, beq_iff_eq, beq_eq_false_iff_ne, ne_eq, beq_self_eq_true, bne_self_eq_false, Bool.and_eq_true, Bool.and_eq_false_iff, Bool.or_eq_true, Bool.or_eq_false_iff, and_self, and_true, true_and, Bool.false_eq_true, Bool.true_eq_false, not_false_eq_true, not_true_eq_false]; first | done | omega) ?_))))))))
    refine wsq (wrg (vQ tab rfl (vQ tab rfl (vQ tab rfl (vQ tab rfl (vQ tab rfl (vnl (qth (vcd_false rfl (by simp only [hkw, decide_eq_true_eq, decide_eq_false_iff_not, Bool.not_eq_eq_eq_not, Bool.not_true, Bool.not_false, bne_iff_ne, bne_eq_false_iff_eq, beq_iff_eq, beq_eq_false_iff_ne, ne_eq, beq_self_eq_true, bne_self_eq_false, Bool.and_eq_true, Bool.and_eq_false_iff, Bool.or_eq_true, Bool.or_eq_false_iff, and_self, and_true, true_and, Bool.false_eq_true, Bool.true_eq_false, not_false_eq_true, not_true_eq_false]; first | done | omega) ?_)))))))))
    refine vw_skip (q_norm (qth (wsq (vw_draw mixed (dq_op tab rfl rfl rfl rfl (dq_op tab rfl rfl rfl rfl (dq_op tab rfl rfl (ev_char_as rfl rfl rfl rfl a0 a1 hk.symm) (ev_char_as rfl rfl rfl rfl a0 a1 hk.symm) (dq_op tab rfl rfl rfl rfl (dq_op tab rfl rfl rfl rfl (dq_op tab rfl rfl rfl rfl (dq_op tab rfl rfl rfl rfl (dq_op tab rfl rfl (ev_part_as rfl rfl rfl hbn rfl (by omega) (Nat.le_refl _) hrest.symm) (ev_part_as rfl rfl rfl hbn rfl (by omega) (Nat.le_refl _) hrest.symm) ?_))))))))))))
    refine dq_op tab rfl rfl rfl rfl (dq_op tab rfl rfl rfl rfl (vd_nil (by kernel_rfl) ?_))
    refine qth (wsq (wbk (wsq (wrg (vQ tab rfl (vQ tab rfl (vQ tab rfl (vnl (qth (vcd_true rfl (by simp only [hkw, decide_eq_true_eq, decide_eq_false_iff_not, Bool.not_eq_eq_eq_not, Bool.not_true, Bool.not_false, bne_iff_ne, bne_eq_false_iff_eq, beq_iff_eq, beq_eq_false_iff_ne, ne_eq, beq_self_eq_true, bne_self_eq_false, Bool.and_eq_true, Bool.and_eq_false_iff, Bool.or_eq_true, Bool.or_eq_false_iff, and_self, and_true, true_and, Bool.false_eq_true, Bool.true_eq_false, not_false_eq_true, not_true_eq_false]; first | done | omega) ?_))))))))))
    refine wsq (wrg (vQ tab rfl (vQ tab rfl (vQ tab rfl (vN tab rfl (vQ tab rfl (vQ tab rfl (vQ tab rfl (vQ tab rfl (vnl (qth (vw_ret (q_ret (q_thenr ?_))))))))))))))
    exact out_mk [0] (.inr rfl) ⟨rfl, rfl⟩ rfl (vrel_tuple (lrel_cons (.int _ _) (lrel_cons (.int _ _) (lrel_cons (.iface _ (rel_ptr (sigma_look (i := 0) rfl))) lrel_nil)))) (op_cons (sigma_look (i := 0) rfl) rfl rfl (.cells _ _ (lrel_cons (.int _ _) (lrel_cons (.iface _ (.int _ _)) lrel_nil))) rfl op_nil) trivial
  rw [if_neg c2] at h
  by_cases c3 : (s.size : Int) - a - 1 < (k : Int)
  · rw [if_pos c3] at h; cases h
    refine wsq (wrg (vQ tab rfl (vQ tab rfl (vQ tab rfl (vnl (qth (wsq (wbk (wsq (wrg (vQ tab rfl (vQ tab rfl (vQ tab rfl (vgd_op false rfl rfl rfl (by simp only [hkw, decide_eq_true_eq, decide_eq_false_iff_not, Bool.not_eq_eq_eq_not, Bool.not_true, Bool.not_false, bne_iff_ne, bne_eq_false_iff_eq, beq_iff_eq, beq_eq_false_iff_ne, ne_eq, beq_self_eq_true, bne_self_eq_false, Bool.and_eq_true, Bool.and_eq_false_iff, Bool.or_eq_true, Bool.or_eq_false_iff, and_self, and_true, true_and, Bool.false_eq_true, Bool.true_eq_false, not_false_eq_true, not_true_eq_false]; first | done | omega) ?_))))))))))))))
    refine vQ tab rfl (vQ tab rfl (vQ tab rfl (vQ tab rfl (vQ tab rfl (vQ tab rfl (vnl (qth (vcd_false rfl (by simp only [hkw, decide_eq_true_eq, decide_eq_false_iff_not, Bool.not_eq_eq_eq_not, Bool.not_true, Bool.not_false, bne_iff_ne, bne_eq_false_iff_eq, beq_iff_eq, beq_eq_false_iff_ne, ne_eq, beq_self_eq_true, bne_self_eq_false, Bool.and_eq_true, Bool.and_eq_false_iff, Bool.or_eq_true, Bool.or_eq_false_iff, and_self, and_true, true_and, Bool.false_eq_true, Bool.true_eq_false, not_false_eq_true, not_true_eq_false]; first | done | omega) ?_))))))))
    refine wsq (wrg (vQ tab rfl (vQ tab rfl (vQ tab rfl (vQ tab rfl (vQ tab rfl (vnl (qth (vcd_false rfl (by simp only [hkw, decide_eq_true_eq, decide_eq_false_iff_not, Bool.not_eq_eq_eq_not, Bool.not_true, Bool.not_false, bne_iff_ne, bne_eq_false_iff_eq, beq_iff_eq, beq_eq_false_iff_ne, ne_eq, beq_self_eq_true, bne_self_eq_false, Bool.and_eq_true, Bool.and_eq_false_iff, Bool.or_eq_true, Bool.or_eq_false_iff, and_self, and_true, true_and, Bool.false_eq_true, Bool.true_eq_false, not_false_eq_true, not_true_eq_false]; first | done | omega) ?_)))))))))
    refine vw_skip (q_norm (qth (wsq (vw_draw mixed (dq_op tab rfl rfl rfl rfl (dq_op tab rfl rfl rfl rfl (dq_op tab rfl rfl (ev_char_as rfl rfl rfl rfl a0 a1 hk.symm) (ev_char_as rfl rfl rfl rfl a0 a1 hk.symm) (dq_op tab rfl rfl rfl rfl (dq_op tab rfl rfl rfl rfl (dq_op tab rfl rfl rfl rfl (dq_op tab rfl rfl rfl rfl (dq_op tab rfl rfl (ev_part_as rfl rfl rfl hbn rfl (by omega) (Nat.le_refl _) hrest.symm) (ev_part_as rfl rfl rfl hbn rfl (by omega) (Nat.le_refl _) hrest.symm) ?_))))))))))))
    refine dq_op tab rfl rfl rfl rfl (dq_op tab rfl rfl rfl rfl (vd_nil (by kernel_rfl) ?_))
    refine qth (wsq (wbk (wsq (wrg (vQ tab rfl (vQ tab rfl (vQ tab rfl (vnl (qth (vcd_false rfl (by simp only [hkw, decide_eq_true_eq, decide_eq_false_iff_not, Bool.not_eq_eq_eq_not, Bool.not_true, Bool.not_false, bne_iff_ne, bne_eq_false_iff_eq, beq_iff_eq, beq_eq_false_iff_ne, ne_eq, beq_self_eq_true, bne_self_eq_false, Bool.and_eq_true, Bool.and_eq_false_iff, Bool.or_eq_true, Bool.or_eq_false_iff, and_self, and_true, true_and, Bool.false_eq_true, Bool.true_eq_false, not_false_eq_true, not_true_eq_false]; first | done | omega) ?_))))))))))
    refine wsq (wrg (vQ tab rfl (vQ tab rfl (vQ tab rfl (vQ tab rfl (vQ tab rfl (vnl (qth (vcd_true rfl (by simp only [hkw, decide_eq_true_eq, decide_eq_false_iff_not, Bool.not_eq_eq_eq_not, Bool.not_true, Bool.not_false, bne_iff_ne, bne_eq_false_iff_eq, beq_iff_eq, beq_eq_false_iff_ne, ne_eq, beq_self_eq_true, bne_self_eq_false, Bool.and_eq_true, Bool.and_eq_false_iff, Bool.or_eq_true, Bool.or_eq_false_iff, and_self, and_true, true_and, Bool.false_eq_true, Bool.true_eq_false, not_false_eq_true, not_true_eq_false]; first | done | omega) ?_)))))))))
    refine wsq (wrg (vQ tab rfl (vQ tab rfl (vQ tab rfl (vQ tab rfl (vN tab rfl (vQ tab rfl (vQ tab rfl (vQ tab rfl (vQ tab rfl (vnl (qth (vw_ret (q_ret (q_thenr ?_)))))))))))))))
    exact out_mk [0] (.inr rfl) ⟨rfl, rfl⟩ rfl (vrel_tuple (lrel_cons (.int _ _) (lrel_cons (.int _ _) (lrel_cons (.iface _ (rel_ptr (sigma_look (i := 0) rfl))) lrel_nil)))) (op_cons (sigma_look (i := 0) rfl) rfl rfl (.cells _ _ (lrel_cons (ri hw1.symm) (lrel_cons (.iface _ (.int _ _)) lrel_nil))) rfl op_nil) trivial
  rw [if_neg c3] at h
  obtain ⟨r, hr⟩ : ∃ r, r = ((B s).drop (a.toNat + 1)).take k := ⟨_, rfl⟩
  have hrl : r.length = k := by rw [hr, List.length_take, List.length_drop]; omega
  have hBt : B (rest.extract 0 k) = r := by rw [B_cut, hBr, List.drop_zero, Nat.sub_zero, hr]
  have hts : (rest.extract 0 k).size = k := by rw [← B_len, hBt, hrl]
  refine wsq (wrg (vQ tab rfl (vQ tab rfl (vQ tab rfl (vnl (qth (wsq (wbk (wsq (wrg (vQ tab rfl (vQ tab rfl (vQ tab rfl (vgd_op false rfl rfl rfl (by simp only [hkw, decide_eq_true_eq, decide_eq_false_iff_not, Bool.not_eq_eq_eq_not, Bool.not_true, Bool.not_false, bne_iff_ne, bne_eq_false_iff_eq, beq_iff_eq, beq_eq_false_iff_ne, ne_eq, beq_self_eq_true, bne_self_eq_false, Bool.and_eq_true, Bool.and_eq_false_iff, Bool.or_eq_true, Bool.or_eq_false_iff, and_self, and_true, true_and, Bool.false_eq_true, Bool.true_eq_false, not_false_eq_true, not_true_eq_false]; first | done | omega) ?_))))))))))))))
  refine vQ tab rfl (vQ tab rfl (vQ tab rfl (vQ tab rfl (vQ tab rfl (vQ tab rfl (vnl (qth (vcd_false rfl (by simp only [hkw, decide_eq_true_eq, decide_eq_false_iff_not, Bool.not_eq_eq_eq_not, Bool.not_true, Bool.not_false, bne_iff_ne, bne_eq_false_iff_eq, beq_iff_eq, beq_eq_false_iff_ne, ne_eq, beq_self_eq_true, bne_self_eq_false, Bool.and_eq_true, Bool.and_eq_false_iff, Bool.or_eq_true, Bool.or_eq_false_iff, and_self, and_true, true_and, Bool.false_eq_true, Bool.true_eq_false, not_false_eq_true, not_true_eq_false]; first | done | omega) ?_))))))))
  refine wsq (wrg (vQ tab rfl (vQ tab rfl (vQ tab rfl (vQ tab rfl (vQ tab rfl (vnl (qth (vcd_false rfl (by simp only [hkw, decide_eq_true_eq, decide_eq_false_iff_not, Bool.not_eq_eq_eq_not, Bool.not_true, Bool.not_false, bne_iff_ne, bne_eq_false_iff_eq, beq_iff_eq, beq_eq_false_iff_ne, ne_eq, beq_self_eq_true, bne_self_eq_false, Bool.and_eq_true, Bool.and_eq_false_iff, Bool.or_eq_true, Bool.or_eq_false_iff, and_self, and_true, true_and, Bool.false_eq_true, Bool.true_eq_false, not_false_eq_true, not_true_eq_false]; first | done | omega) ?_)))))))))
  refine vw_skip (q_norm (qth (wsq (vw_draw mixed (dq_op tab rfl rfl rfl rfl (dq_op tab rfl rfl rfl rfl (dq_op tab rfl rfl (ev_char_as rfl rfl rfl rfl a0 a1 hk.symm) (ev_char_as rfl rfl rfl rfl a0 a1 hk.symm) (dq_op tab rfl rfl rfl rfl (dq_op tab rfl rfl rfl rfl (dq_op tab rfl rfl rfl rfl (dq_op tab rfl rfl rfl rfl (dq_op tab rfl rfl (ev_part_as rfl rfl rfl hbn rfl (by omega) (Nat.le_refl _) hrest.symm) (ev_part_as rfl rfl rfl hbn rfl (by omega) (Nat.le_refl _) hrest.symm) ?_))))))))))))
  refine dq_op tab rfl rfl rfl rfl (dq_op tab rfl rfl rfl rfl (vd_nil (by kernel_rfl) ?_))
  refine qth (wsq (wbk (wsq (wrg (vQ tab rfl (vQ tab rfl (vQ tab rfl (vnl (qth (vcd_false rfl (by simp only [hkw, decide_eq_true_eq, decide_eq_false_iff_not, Bool.not_eq_eq_eq_not, Bool.not_true, Bool.not_false, bne_iff_ne, bne_eq_false_iff_eq, beq_iff_eq, beq_eq_false_iff_ne, ne_eq, beq_self_eq_true, bne_self_eq_false, Bool.and_eq_true, Bool.and_eq_false_iff, Bool.or_eq_true, Bool.or_eq_false_iff, and_self, and_true, true_and, Bool.false_eq_true, Bool.true_eq_false, not_false_eq_true, not_true_eq_false]; first | done | omega) ?_))))))))))
  refine wsq (wrg (vQ tab rfl (vQ tab rfl (vQ tab rfl (vQ tab rfl (vQ tab rfl (vnl (qth (vcd_false rfl (by simp only [hkw, decide_eq_true_eq, decide_eq_false_iff_not, Bool.not_eq_eq_eq_not, Bool.not_true, Bool.not_false, bne_iff_ne, bne_eq_false_iff_eq, beq_iff_eq, beq_eq_false_iff_ne, ne_eq, beq_self_eq_true, bne_self_eq_false, Bool.and_eq_true, Bool.and_eq_false_iff, Bool.or_eq_true, Bool.or_eq_false_iff, and_self, and_true, true_and, Bool.false_eq_true, Bool.true_eq_false, not_false_eq_true, not_true_eq_false]; first | done | omega) ?_)))))))))
  refine vw_skip (q_norm (qth (wsq (wrg (vQ tab rfl (vnl (qth (wsq (wsq (wrg (vQ tab rfl (vQ tab rfl (vq_op tab rfl rfl rfl (ev_part rfl rfl rfl rfl (hbk _) (Nat.zero_le _) (by omega)) ?_)))))))))))))
  refine vN tab rfl (vQ tab rfl (vQ tab rfl (vnl (qth (wbk ?_)))))
  have hb0 : (be (r.take 0) : Int) = 0 := rfl
  have hk2 : (k : Int) = ((rest.extract 0 k).size : Int) := by rw [hts]
  have hmap : (r.map fun b => ((b.toNat : Nat) : Int)) = (B (rest.extract 0 k)).map fun b => ((b.toNat : Nat) : Int) := by rw [hBt]
  refine vw_loop_sub (fun m st => ∃ j : Nat, j ≤ k ∧ m = k - j ∧
      st = ⟨[(1, .int .i64 a), (7, .int .i64 (k : Int)), (9, .int .i64 (be (r.take j))), (66, .slice (some ⟨0, 0, none⟩) k 0), (67, .int .i64 (k : Int)), (68, .int .i64 ((j : Nat) : Int))], lkp [(0, .opn (u8R.cells (r.map fun b => ((b.toNat : Nat) : Int))) 5 1)], 1⟩) k
    ⟨_, (sub_of (g := 0) [0] (by decide) (by decide) (by repeat' first | exact ep_nil | exact ri hkw.symm | exact ri hb0 | exact rel_slice rfl hts.symm | exact ri hk2 | exact ov_u8 hmap | refine ep_cons rfl ?_ ?_ | exact .int _ _ | exact .bool _ | exact .string _ | exact rel_slice rfl rfl | exact rel_nil rfl rfl | exact rel_ptr rfl | exact .nilPtr | exact .nilIface | exact .nilSlice) (by repeat' first | exact hp_nil | exact ri hkw.symm | exact ri hb0 | exact rel_slice rfl hts.symm | exact ri hk2 | exact ov_u8 hmap | refine hp_cons rfl rfl ?_ ?_ | refine hp_void rfl rfl ?_ | exact ov_win _ | exact ov_opn _ rfl | exact ov_cells _ _ (by decide))), 0, by omega, by omega, rfl⟩ ?_
  rintro m st ⟨j, j0, rfl, rfl⟩
  by_cases hj : j < k
  · have hb := be_small (s := B s) (p := a.toNat + 1) (k := k) (j := j) (by omega) hj (by omega)
    rw [← hr] at hb
    have hx := row_at (s := B s) (p := a.toNat + 1) (k := k) (j := j) hj (by omega)
    rw [← hr] at hx
    obtain ⟨c, hc⟩ : ∃ c, c = (B s).getD (a.toNat + 1 + j) 0 := ⟨_, rfl⟩
    have hcl := c.toNat_lt
    rw [← hc] at hx
    have hx2 : (r.map fun b => ((b.toNat : Nat) : Int))[((j : Nat) : Int).toNat]? = some ((c.toNat : Nat) : Int) := by rw [Int.toNat_natCast, List.getElem?_map, hx]; rfl
    have hor : bits .or .i64 (IntKind.i64.wrap (be (r.take j) * 2 ^ (min (8 : Int).toNat IntKind.i64.bits))) (IntKind.i64.wrap ((c.toNat : Nat) : Int)) = be (r.take (j + 1)) := by
      rw [i64_in ((c.toNat : Nat) : Int) (by omega), or_8 hb.1 hb.2 (by omega) (by omega), be_next hx]
    have hj1 : IntKind.i64.wrap (((j : Nat) : Int) + 1) = ((j + 1 : Nat) : Int) := by rw [i64_in _ (by omega)]; omega
    refine wsq (wrg (vQ tab rfl (vnl (qth (wsq (vcd_true rfl (by simp only [decide_eq_true_eq, decide_eq_false_iff_not, Bool.not_eq_eq_eq_not, Bool.not_true, Bool.not_false, bne_iff_ne, bne_eq_false_iff_eq, beq_iff_eq, beq_eq_false_iff_ne, ne_eq, beq_self_eq_true, bne_self_eq_false, Bool.and_eq_true, Bool.and_eq_false_iff, Bool.or_eq_true, Bool.or_eq_false_iff, and_self, and_true, true_and, Bool.false_eq_true, Bool.true_eq_false, not_false_eq_true, not_true_eq_false]; first | done | omega) ?_))))))
    refine vw_skip (qth (wsq (wbk (wsq (wrg (vq_op tab rfl rfl rfl (ev_index rfl rfl rfl rfl rfl (by omega) (by omega)) ?_))))))
    refine vq_op tab rfl rfl rfl (ev_val u8R rfl rfl rfl rfl rfl hx2 rfl) (vQ tab rfl (vnl (qth (wrg (vQ tab rfl (vQ tab rfl (vQ tab rfl (vQ tab rfl (vQ tab rfl (vQ tab rfl (vnl (q_norm (qth (wrg (vQ tab rfl (vQ tab rfl (vnl (qth ?_))))))))))))))))))
    exact ⟨k - (j + 1), _, by omega, (sub_of (g := 0) [0] (by decide) (by decide) (by repeat' first | exact ep_nil | exact ri hor.symm | exact ri hj1.symm | exact ov_opn u8R rfl | refine ep_cons rfl ?_ ?_ | exact .int _ _ | exact .bool _ | exact .string _ | exact rel_slice rfl rfl | exact rel_nil rfl rfl | exact rel_ptr rfl | exact .nilPtr | exact .nilIface | exact .nilSlice) (by repeat' first | exact hp_nil | exact ri hor.symm | exact ri hj1.symm | exact ov_opn u8R rfl | refine hp_cons rfl rfl ?_ ?_ | refine hp_void rfl rfl ?_ | exact ov_win _ | exact ov_opn _ rfl | exact ov_cells _ _ (by decide))), j + 1, by omega, rfl, rfl⟩
  have hjk : j = k := by omega
  subst hjk
  have hrt : r.take j = r := by rw [← hrl, List.take_length]
  rw [hrt]
  have hbb := be_bound r r.length (Nat.le_refl _)
  rw [List.take_length] at hbb
  have hb32 : be r < 4294967296 := by
    have h5 : r.length = 0 ∨ r.length = 1 ∨ r.length = 2 ∨ r.length = 3 ∨ r.length = 4 := by omega
    have p0 : (256 : Int) ^ 0 = 1 := rfl
    have p1 : (256 : Int) ^ 1 = 256 := rfl
    have p2 : (256 : Int) ^ 2 = 65536 := rfl
    have p3 : (256 : Int) ^ 3 = 16777216 := rfl
    have p4 : (256 : Int) ^ 4 = 4294967296 := rfl
    rcases h5 with h | h | h | h | h <;> rw [h] at hbb <;> omega
  have hwid := wid_be (r := r) (by omega)
  have hgd : 0 < j → r.getD 0 0 = (B s).getD (a.toNat + 1) 0 := fun h => by
    have := row_at (s := B s) (p := a.toNat + 1) (k := j) (j := 0) h (by omega)
    rw [← hr, Nat.add_zero] at this
    rw [List.getD_eq_getElem?_getD, this]; rfl
  rw [← hr] at h
  by_cases c4 : (0 < j ∧ (B s).getD (a.toNat + 1) 0 = 0) ∨ 1073741823 < be r
  case neg => rw [if_neg c4] at h; simp only [Prod.mk.injEq] at h; exact (he h.2.2.1.symm).elim
  rw [if_pos c4] at h; cases h
  by_cases hz : 0 < j ∧ (B s).getD (a.toNat + 1) 0 = 0
  · have hne : (((wid (be r) : Nat) : Int) != (j : Int)) = true := by
      have : wid (be r) ≠ r.length := fun q => hwid.1 q ⟨by omega, by rw [hgd (by omega)]; exact hz.2⟩
      simp; omega
    refine wsq (wrg (vQ tab rfl (vnl (qth (wsq (vcd_false rfl (by simp only [hne, decide_eq_true_eq, decide_eq_false_iff_not, Bool.not_eq_eq_eq_not, Bool.not_true, Bool.not_false, bne_iff_ne, bne_eq_false_iff_eq, beq_iff_eq, beq_eq_false_iff_ne, ne_eq, beq_self_eq_true, bne_self_eq_false, Bool.and_eq_true, Bool.and_eq_false_iff, Bool.or_eq_true, Bool.or_eq_false_iff, and_self, and_true, true_and, Bool.false_eq_true, Bool.true_eq_false, not_false_eq_true, not_true_eq_false]; first | done | omega) ?_))))))
    refine vw_exit (q_thenx (q_thenx (q_here (qth (wsq (wsq (wrg (vQ tab rfl (vF rfl callable_19 (width_fun hb32) (vQ tab rfl (vQ tab rfl (vQ tab rfl (vgd_op true rfl rfl rfl (by simp only [hne, decide_eq_true_eq, decide_eq_false_iff_not, Bool.not_eq_eq_eq_not, Bool.not_true, Bool.not_false, bne_iff_ne, bne_eq_false_iff_eq, beq_iff_eq, beq_eq_false_iff_ne, ne_eq, beq_self_eq_true, bne_self_eq_false, Bool.and_eq_true, Bool.and_eq_false_iff, Bool.or_eq_true, Bool.or_eq_false_iff, and_self, and_true, true_and, Bool.false_eq_true, Bool.true_eq_false, not_false_eq_true, not_true_eq_false]; first | done | omega) ?_)))))))))))))
    refine vK rfl (vK rfl (vQ tab rfl (vnl (qth (vc_true rfl (wsq (wrg (vQ tab rfl (vQ tab rfl (vQ tab rfl (vQ tab rfl (vN tab rfl (vQ tab rfl (vQ tab rfl (vQ tab rfl (vQ tab rfl (vnl (qth (vw_ret (q_thenr ?_))))))))))))))))))))
    exact out_mk [1] (.inr rfl) ⟨rfl, rfl⟩ rfl (vrel_tuple (lrel_cons (.int _ _) (lrel_cons (.int _ _) (lrel_cons (.iface _ (rel_ptr (sigma_look (i := 0) rfl))) lrel_nil)))) (op_cons (sigma_look (i := 0) rfl) rfl rfl (.cells _ _ (lrel_cons (ri hw1.symm) (lrel_cons (.iface _ (.int _ _)) lrel_nil))) rfl op_nil) trivial
  · have hbig : 1073741823 < be r := c4.resolve_left hz
    have hne : (((wid (be r) : Nat) : Int) != (j : Int)) = false := by
      have : wid (be r) = r.length := hwid.2 (fun q => hz ⟨by omega, by rw [← hgd (by omega)]; exact q.2⟩)
      rw [this, hrl]; simp
    refine wsq (wrg (vQ tab rfl (vnl (qth (wsq (vcd_false rfl (by simp only [hne, decide_eq_true_eq, decide_eq_false_iff_not, Bool.not_eq_eq_eq_not, Bool.not_true, Bool.not_false, bne_iff_ne, bne_eq_false_iff_eq, beq_iff_eq, beq_eq_false_iff_ne, ne_eq, beq_self_eq_true, bne_self_eq_false, Bool.and_eq_true, Bool.and_eq_false_iff, Bool.or_eq_true, Bool.or_eq_false_iff, and_self, and_true, true_and, Bool.false_eq_true, Bool.true_eq_false, not_false_eq_true, not_true_eq_false]; first | done | omega) ?_))))))
    refine vw_exit (q_thenx (q_thenx (q_here (qth (wsq (wsq (wrg (vQ tab rfl (vF rfl callable_19 (width_fun hb32) (vQ tab rfl (vQ tab rfl (vQ tab rfl (vgd_op false rfl rfl rfl (by simp only [hne, decide_eq_true_eq, decide_eq_false_iff_not, Bool.not_eq_eq_eq_not, Bool.not_true, Bool.not_false, bne_iff_ne, bne_eq_false_iff_eq, beq_iff_eq, beq_eq_false_iff_ne, ne_eq, beq_self_eq_true, bne_self_eq_false, Bool.and_eq_true, Bool.and_eq_false_iff, Bool.or_eq_true, Bool.or_eq_false_iff, and_self, and_true, true_and, Bool.false_eq_true, Bool.true_eq_false, not_false_eq_true, not_true_eq_false]; first | done | omega) ?_)))))))))))))
    refine vQ tab rfl (vQ tab rfl (vQ tab rfl (vnl (qth (vcd_true rfl (by simp only [hne, decide_eq_true_eq, decide_eq_false_iff_not, Bool.not_eq_eq_eq_not, Bool.not_true, Bool.not_false, bne_iff_ne, bne_eq_false_iff_eq, beq_iff_eq, beq_eq_false_iff_ne, ne_eq, beq_self_eq_true, bne_self_eq_false, Bool.and_eq_true, Bool.and_eq_false_iff, Bool.or_eq_true, Bool.or_eq_false_iff, and_self, and_true, true_and, Bool.false_eq_true, Bool.true_eq_false, not_false_eq_true, not_true_eq_false]; first | done | omega) ?_)))))
    refine wsq (wrg (vQ tab rfl (vQ tab rfl (vQ tab rfl (vQ tab rfl (vN tab rfl (vQ tab rfl (vQ tab rfl (vQ tab rfl (vQ tab rfl (vnl (qth (vw_ret (q_thenr ?_))))))))))))))
    exact out_mk [1] (.inr rfl) ⟨rfl, rfl⟩ rfl (vrel_tuple (lrel_cons (.int _ _) (lrel_cons (.int _ _) (lrel_cons (.iface _ (rel_ptr (sigma_look (i := 0) rfl))) lrel_nil)))) (op_cons (sigma_look (i := 0) rfl) rfl rfl (.cells _ _ (lrel_cons (ri hw1.symm) (lrel_cons (.iface _ (.int _ _)) lrel_nil))) rfl op_nil) trivial
end Go.Proofs.YtkfkdhjelncfhaaDoor
