/- Package pool: New; the document's may; Take, Free, and the document's. -/
import Derived.Test.YtcjfidfealifhaaVg1
import Derived.Test.YtcjfidfealifhaaPl1
namespace Go.Proofs.Ytcjfidfealifhaa
open Go Vm IntWalk
set_option linter.unusedVariables false
set_option linter.unusedSimpArgs false
theorem mask32 {b : Int} (h0 : 0 ≤ b) (h1 : b < 4294967296) : bits .and .u64 b 4294967295 = b := by
  obtain ⟨k, rfl⟩ := Int.eq_ofNat_of_zero_le h0
  have hk : k < 4294967296 := by omega
  show IntKind.u64.wrap (((BitVec.ofInt 64 (k : Int) &&& BitVec.ofInt 64 4294967295).toNat : Nat) : Int) = _
  have h2 : (BitVec.ofInt 64 (4294967295 : Int)).toNat = 2 ^ 32 - 1 := by decide
  have h3 : (BitVec.ofInt 64 (k : Int)).toNat = k := by
    rw [BitVec.toNat_ofInt]
    have : ((k : Int) % ((2 ^ 64 : Nat) : Int)).toNat = k := by omega
    exact this
  rw [BitVec.toNat_and, h2, h3, Nat.and_two_pow_sub_one_eq_mod, Nat.mod_eq_of_lt hk, wrapu]
  omega
theorem shr32 {b : Int} (h0 : 0 ≤ b) (h1 : b < 4294967296) : b.fdiv (2 ^ (min (32 : Int).toNat IntKind.u64.bits)) = 0 := by
  rw [Int.fdiv_eq_ediv_of_nonneg _ (by decide)]
  show b / 4294967296 = 0
  omega
set_option maxHeartbeats 4000000 in
theorem mul64_fun {b : Int} (h0 : 0 ≤ b) (h1 : b < 4294967296) : Fun Try.prog 68 [.int .u64 1, .int .u64 b] (.tuple #[.int .u64 0, .int .u64 b]) := by
  refine fun_of_vw tab Try.func68 rfl rfl (by simp [Try.f68]) (lrel_cons (.int _ _) (lrel_cons (.int _ _) lrel_nil)) (vrel_tuple (lrel_cons (.int _ _) (lrel_cons (.int _ _) lrel_nil))) ?_
  refine wsq (wrg (vQ tab rfl (vQ tab rfl (vnl (qth (wsq (wrg (vQ tab rfl (vQ tab rfl (vQ tab rfl (vnl (qth (wsq (wrg (vQ tab rfl (vQ tab rfl (vQ tab rfl (vnl (qth (wsq (wrg (vQ tab rfl (vQ tab rfl ?_)))))))))))))))))))))))
  refine vQ tab rfl (vnl (qth (wsq (wrg (vQ tab rfl (vQ tab rfl (vQ tab rfl (vnl (qth (wsq (wrg (vQ tab rfl (vQ tab rfl (vQ tab rfl (vQ tab rfl (vnl (qth (wsq (wrg (vQ tab rfl (vQ tab rfl (vQ tab rfl (vQ tab rfl ?_)))))))))))))))))))))))
  refine vQ tab rfl (vQ tab rfl (vQ tab rfl (vnl (qth (wsq (wrg (vQ tab rfl (vQ tab rfl (vQ tab rfl (vnl (qth (wsq (wrg (vQ tab rfl (vQ tab rfl (vQ tab rfl (vnl (qth (wsq (wrg (vQ tab rfl (vQ tab rfl (vQ tab rfl ?_)))))))))))))))))))))))
  refine vQ tab rfl (vQ tab rfl (vQ tab rfl (vnl (qth (wsq (wrg (vQ tab rfl (vQ tab rfl (vQ tab rfl (vQ tab rfl (vQ tab rfl (vQ tab rfl (vQ tab rfl (vQ tab rfl (vQ tab rfl (vnl (qth (wsq (wrg (vQ tab rfl (vQ tab rfl (vQ tab rfl (vQ tab rfl ?_)))))))))))))))))))))))
  refine vnl (qth (vw_ret ?_))
  have e1 : bits .and .u64 1 4294967295 = 1 := mask32 (by decide) (by decide)
  have e2 : (1 : Int).fdiv (2 ^ (min (32 : Int).toNat IntKind.u64.bits)) = 0 := shr32 (by decide) (by decide)
  have e3 := mask32 h0 h1
  have e4 := shr32 h0 h1
  have e5 : IntKind.u64.wrap b = b := by rw [wrapu]; omega
  have e6 : IntKind.u64.wrap 0 = 0 := by decide
  have e7 : bits .and .u64 0 4294967295 = 0 := by decide
  have e8 : (0 : Int).fdiv (2 ^ (min (32 : Int).toNat IntKind.u64.bits)) = 0 := by decide
  refine ⟨.inr rfl, Eq.trans (b := some (.tuple #[.int .u64 _, .int .u64 _])) rfl ?_⟩
  simp only [e1, e2, e3, e4, e5, e6, e7, e8, Int.one_mul, Int.zero_mul, Int.mul_zero, Int.add_zero, Int.zero_add]
theorem mul_fun {x y b : Int} (hx : x = 1) (hy : y = b) (h0 : 0 ≤ b) (h1 : b < 4294967296) : Fun Try.prog 56 [.int .u64 x, .int .u64 y] (.tuple #[.int .u64 0, .int .u64 b]) := by
  subst hx; subst hy
  refine fun_of_vw tab Try.func56 rfl rfl (by simp [Try.f56]) (lrel_cons (.int _ _) (lrel_cons (.int _ _) lrel_nil)) (vrel_tuple (lrel_cons (.int _ _) (lrel_cons (.int _ _) lrel_nil))) ?_
  refine wsq (wrg (vQ tab rfl (vQ tab rfl (vnl (qth (wsq (vcc_false (vw_skip (qth (wsq (wrg (vQ tab rfl (vQ tab rfl (vF rfl callable_68 (mul64_fun h0 h1) (vQ tab rfl (vQ tab rfl (vQ tab rfl (vQ tab rfl (vQ tab rfl (vnl (qth (wsq (wrg ?_)))))))))))))))))))))))
  refine vQ tab rfl (vQ tab rfl (vQ tab rfl (vQ tab rfl (vnl (qth (vw_ret ?_))))))
  exact ⟨.inr rfl, rfl⟩
set_option maxHeartbeats 4000000 in
theorem repeat_tri {V : Heap} {n : Nat} {sv : Value} (a : AddrV) (b : Nat) (hl : Looks V 3 sv (addrR.cells [a]) [a].length) (h0 : 1 ≤ b) (h1 : b ≤ 16) :
    Tri Try.prog 43 [sv, .int .i64 (b : Int)] n 1 V (fun u L => u = .slice (some ⟨n, 0, none⟩) b 0 ∧ L = [(n, some (.opn (addrR.cells (List.replicate b a)) 58 3))]) := by
  refine call_of_vw (K := 1) (argsI := [.slice (some ⟨0, 0, none⟩) ([a]).length 0, .int .i64 (b : Int)]) tab Try.func43 rfl rfl (by simp [Try.f43]) [.look sv ([a]).length 3] [.win (addrR.cells ([a])) 3] rfl (.look hl (addrR.flat_cells ([a])) .nil) (by simp [ownNames]) (by simp [ownNames, lookNames]) (by simp [ownNames, *]) (al_cons (.look (a := 0) rfl) (al_cons (.val (.int _ _)) al_nil)) (seen_of (sn_look (seen_top (j := 0) rfl) sn_nil)) ?_
  have w1 : IntKind.u64.wrap (([a].length : Nat) : Int) = 1 := by rw [wrapu]; rfl
  have w2 : IntKind.u64.wrap (b : Int) = b := by rw [wrapu]; omega
  have w3 : IntKind.i64.wrap (b : Int) = b := i64_in _ (by omega)
  refine wsq (wrg (vQ tab rfl (vnl (qth (wsq (wsq (wrg (vQ tab rfl (vQ tab rfl (vnl (qth (vc_false rfl (vw_skip (qth (wsq (wrg (vQ tab rfl (vQ tab rfl (vQ tab rfl (vQ tab rfl (vQ tab rfl (vF rfl callable_56 (mul_fun w1 w2 (by omega) (by omega)) ?_))))))))))))))))))))))
  refine vQ tab rfl (vQ tab rfl (vQ tab rfl (vQ tab rfl (vQ tab rfl (vnl (qth (wsq (wsq (wrg (vQ tab rfl (vQ tab rfl (vQ tab rfl (vQ tab rfl (vQ tab rfl (vQ tab rfl (vnl (qth (vcd_false rfl (by simp only [decide_eq_true_eq, decide_eq_false_iff_not, Bool.not_eq_eq_eq_not, Bool.not_true, Bool.not_false, bne_iff_ne, bne_eq_false_iff_eq, beq_iff_eq, beq_eq_false_iff_ne, ne_eq, beq_self_eq_true, bne_self_eq_false, Bool.and_eq_true, Bool.and_eq_false_iff, Bool.or_eq_true, Bool.or_eq_false_iff, and_self, and_true, true_and, Bool.false_eq_true, Bool.true_eq_false, not_false_eq_true, not_true_eq_false]; first | done | omega) ?_))))))))))))))))))
  refine vw_skip (qth (wsq (wrg (vQ tab rfl (vQ tab rfl (vn_op tab rfl rfl rfl (ev_make addrR ⟨false, 0, 0⟩ (k := b) rfl rfl rfl rfl rfl rfl rfl w3 w3 (by show 24 * b ≤ _; omega) (by omega)) ?_))))))
  refine vQ tab rfl (vnl (qth (wsq (wrg (vQ tab rfl (vQ tab rfl (vo_op rfl rfl rfl (opr_ev tab (ev_copy addrR (p := 0) (m := 1) (ys := [a]) rfl rfl rfl rfl rfl rfl rfl (by show min 1 b = 1; omega) (first_rows addrR (q := 0) (m := 1) (zs := [a]) rfl (by simp) (by simp)) rfl rfl (by simp; omega))) ?_)))))))
  refine vQ tab rfl (vnl (qth (wsq (wbk ?_))))
  have hst : (List.replicate b (⟨false, 0, 0⟩ : AddrV)).take 0 ++ [a] ++ (List.replicate b ⟨false, 0, 0⟩).drop (0 + 1) = List.replicate 1 a ++ List.replicate (b - 1) ⟨false, 0, 0⟩ := by
    rw [List.take_zero, List.drop_replicate]; rfl
  refine vw_loop_sub (fun k s => ∃ m : Nat, 1 ≤ m ∧ m ≤ b ∧ k = b - m ∧
      s = ⟨[(7, .slice (some ⟨1, 0, none⟩) b 0), (8, .int .i64 (m : Int))],
        lkp [(0, .win (addrR.cells [a]) 3), (1, .opn (addrR.cells (List.replicate m a ++ List.replicate (b - m) ⟨false, 0, 0⟩)) 58 3)], 2⟩) (b - 1)
    ⟨_, (sub_of (g := 1) [1] (by decide) (by decide) (by repeat' first | exact ep_nil | exact ov_opn addrR hst.symm | refine ep_cons rfl ?_ ?_ | exact .int _ _ | exact .bool _ | exact .string _ | exact rel_slice rfl rfl | exact rel_nil rfl rfl | exact rel_ptr rfl | exact .nilPtr | exact .nilIface | exact .nilSlice) (by repeat' first | exact hp_nil | exact ov_opn addrR hst.symm | refine hp_cons rfl rfl ?_ ?_ | refine hp_void rfl rfl ?_ | exact ov_win _ | exact ov_opn _ rfl | exact ov_cells _ _ (by decide))), 1, by omega, by omega, by omega, rfl⟩ ?_
  rintro k s ⟨m, g0, g1, rfl, rfl⟩
  by_cases hm : (m : Int) < b
  case neg =>
    have hmb : m = b := by omega
    subst hmb
    refine wsq (wsq (wrg (vQ tab rfl (vQ tab rfl (vQ tab rfl (vQ tab rfl (vnl (qth (vcd_false rfl (by simp only [decide_eq_true_eq, decide_eq_false_iff_not, Bool.not_eq_eq_eq_not, Bool.not_true, Bool.not_false, bne_iff_ne, bne_eq_false_iff_eq, beq_iff_eq, beq_eq_false_iff_ne, ne_eq, beq_self_eq_true, bne_self_eq_false, Bool.and_eq_true, Bool.and_eq_false_iff, Bool.or_eq_true, Bool.or_eq_false_iff, and_self, and_true, true_and, Bool.false_eq_true, Bool.true_eq_false, not_false_eq_true, not_true_eq_false]; first | done | omega) ?_)))))))))
    refine vw_exit (q_thenx (q_thenx (q_here (qth (wsq (wrg (vQ tab rfl (vQ tab rfl (vnl (qth (vw_ret ?_)))))))))))
    exact out_mk [1] (.inr rfl) ⟨rfl, rfl⟩ rfl (rel_slice (sigma_look (i := 0) rfl) rfl) (op_cons (sigma_look (i := 0) rfl) rfl rfl (ov_opn addrR (by simp)) rfl op_nil) trivial
  obtain ⟨c, hc⟩ : ∃ c, c = min m (b - m) := ⟨_, rfl⟩
  have hlen : (List.replicate m a ++ List.replicate (b - m) (⟨false, 0, 0⟩ : AddrV)).length = b := by simp; omega
  have hys : ((List.replicate m a ++ List.replicate (b - m) (⟨false, 0, 0⟩ : AddrV)).drop (0 + 0)).take c = List.replicate c a := by
    rw [List.drop_zero, List.take_append_of_le_length (by simp; omega), List.take_replicate, Nat.min_eq_left (by omega)]
  have hnew : (List.replicate m a ++ List.replicate (b - m) (⟨false, 0, 0⟩ : AddrV)).take (0 + m) ++ List.replicate c a ++ (List.replicate m a ++ List.replicate (b - m) (⟨false, 0, 0⟩ : AddrV)).drop (0 + m + c) = List.replicate (m + c) a ++ List.replicate (b - (m + c)) (⟨false, 0, 0⟩ : AddrV) := by
    rw [Nat.zero_add, List.take_left' (by simp), List.drop_append, List.drop_of_length_le (by simp), List.drop_replicate, List.length_replicate, List.nil_append, ← List.replicate_append_replicate]
    congr 2; omega
  have hw : IntKind.i64.wrap ((m : Int) + (c : Nat)) = ((m + c : Nat) : Int) := by rw [i64_in _ (by omega)]; omega
  refine wsq (wsq (wrg (vQ tab rfl (vQ tab rfl (vQ tab rfl (vQ tab rfl (vnl (qth (vcd_true rfl (by simp only [decide_eq_true_eq, decide_eq_false_iff_not, Bool.not_eq_eq_eq_not, Bool.not_true, Bool.not_false, bne_iff_ne, bne_eq_false_iff_eq, beq_iff_eq, beq_eq_false_iff_ne, ne_eq, beq_self_eq_true, bne_self_eq_false, Bool.and_eq_true, Bool.and_eq_false_iff, Bool.or_eq_true, Bool.or_eq_false_iff, and_self, and_true, true_and, Bool.false_eq_true, Bool.true_eq_false, not_false_eq_true, not_true_eq_false]; first | done | omega) ?_)))))))))
  refine vw_skip (qth (wbk (vw_draw mixed (dq_op tab rfl rfl rfl rfl (dq_op tab rfl rfl rfl rfl (dq_op tab rfl rfl rfl rfl (dq_op tab rfl rfl (ev_slice addrR (p := 0) (l := m) (h := b) rfl rfl rfl rfl rfl rfl (bnd_nat m) rfl (by omega) (by omega) (.inl (by omega))) (ev_slice addrR (p := 0) (l := m) (h := b) rfl rfl rfl rfl rfl rfl (bnd_nat m) rfl (by omega) (by omega) (.inl (by omega))) ?_)))))))
  refine dq_op tab rfl rfl rfl rfl (dq_op tab rfl rfl rfl rfl (dq_op tab rfl rfl (ev_slice addrR (p := 0) (l := 0) (h := m) rfl rfl rfl rfl rfl rfl rfl (bnd_nat m) (by omega) (by omega) (.inr rfl)) (ev_slice addrR (p := 0) (l := 0) (h := m) rfl rfl rfl rfl rfl rfl rfl (bnd_nat m) (by omega) (by omega) (.inr rfl)) ?_))
  refine do_op [1] rfl rfl (opr_ev tab (ev_copy addrR (p := 0 + m) (m := c) (ys := List.replicate c a) rfl rfl rfl rfl rfl rfl rfl (by rw [hc, Nat.sub_zero]) (Eq.trans (first_rows addrR (q := 0 + 0) (m := c) rfl (by omega) (by omega)) (by rw [hys])) rfl (by simp) (by omega))) ?_
  refine dq_op tab rfl rfl rfl rfl (dq_op tab rfl rfl rfl rfl (vd_nil (by kernel_rfl) ?_))
  refine q_norm (qth ?_)
  exact ⟨b - (m + c), _, by omega, (sub_of (g := 1) [1] (by decide) (by decide) (by repeat' first | exact ep_nil | exact ri hw.symm | exact ov_opn addrR hnew.symm | refine ep_cons rfl ?_ ?_ | exact .int _ _ | exact .bool _ | exact .string _ | exact rel_slice rfl rfl | exact rel_nil rfl rfl | exact rel_ptr rfl | exact .nilPtr | exact .nilIface | exact .nilSlice) (by repeat' first | exact hp_nil | exact ri hw.symm | exact ov_opn addrR hnew.symm | refine hp_cons rfl rfl ?_ ?_ | refine hp_void rfl rfl ?_ | exact ov_win _ | exact ov_opn _ rfl | exact ov_cells _ _ (by decide))), m + c, by omega, by omega, by omega, rfl⟩
def newP (c : Int) : List AddrV × Int := if 1 ≤ c ∧ c ≤ 16 then (List.replicate c.toNat ⟨false, -1, 0⟩, 0) else ([], 1600)
theorem newP_bad {c : Int} (h : ¬ (1 ≤ c ∧ c ≤ 16)) : newP c = ([], 1600) := if_neg h
theorem newP_ok {c : Int} (h : 1 ≤ c ∧ c ≤ 16) : newP c = (List.replicate c.toNat ⟨false, -1, 0⟩, 0) := if_pos h
set_option maxHeartbeats 4000000 in
theorem new_tri {V : Heap} {n : Nat} (c : Int) :
    Tri Try.prog 25 [.int .i64 c] n 1 V (fun u L => u = .tuple #[.slice (some ⟨n, 0, none⟩) (newP c).1.length 0, .int .i64 (newP c).2] ∧ L = [(n, some (.opn (addrR.cells (newP c).1) 58 3))]) := by
  refine call_of_vw (K := 0) (argsI := [.int .i64 c]) tab Try.func25 rfl rfl (by simp [Try.f25]) [] [] rfl .nil (by simp [ownNames]) (by simp [ownNames, lookNames]) (by simp [ownNames, *]) (al_cons (.val (.int _ _)) al_nil) (seen_of sn_nil) ?_
  by_cases hc : 1 ≤ c ∧ c ≤ 16
  case neg =>
    rw [newP_bad hc]
    rcases (show c < 1 ∨ (¬ c < 1 ∧ 16 < c) by omega) with h | h
    all_goals
      first
        | refine wsq (wrg (vQ tab rfl (vQ tab rfl (vnl (qth (wsq (wsq (wrg (vQ tab rfl (vQ tab rfl (vQ tab rfl (vgd_op true rfl rfl rfl (by simp only [decide_eq_true_eq, decide_eq_false_iff_not, Bool.not_eq_eq_eq_not, Bool.not_true, Bool.not_false, bne_iff_ne, bne_eq_false_iff_eq, beq_iff_eq, beq_eq_false_iff_ne, ne_eq, beq_self_eq_true, bne_self_eq_false, Bool.and_eq_true, Bool.and_eq_false_iff, Bool.or_eq_true, Bool.or_eq_false_iff, and_self, and_true, true_and, Bool.false_eq_true, Bool.true_eq_false, not_false_eq_true, not_true_eq_false]; first | done | omega) ?_))))))))))))
          refine vK rfl (vK rfl (vQ tab rfl (vnl (qth (vc_true rfl (wsq (wrg (vQ tab rfl (vQ tab rfl (vnl (qth (vw_ret (q_thenr ?_)))))))))))))
        | refine wsq (wrg (vQ tab rfl (vQ tab rfl (vnl (qth (wsq (wsq (wrg (vQ tab rfl (vQ tab rfl (vQ tab rfl (vgd_op false rfl rfl rfl (by simp only [decide_eq_true_eq, decide_eq_false_iff_not, Bool.not_eq_eq_eq_not, Bool.not_true, Bool.not_false, bne_iff_ne, bne_eq_false_iff_eq, beq_iff_eq, beq_eq_false_iff_ne, ne_eq, beq_self_eq_true, bne_self_eq_false, Bool.and_eq_true, Bool.and_eq_false_iff, Bool.or_eq_true, Bool.or_eq_false_iff, and_self, and_true, true_and, Bool.false_eq_true, Bool.true_eq_false, not_false_eq_true, not_true_eq_false]; first | done | omega) ?_))))))))))))
          refine vQ tab rfl (vQ tab rfl (vQ tab rfl (vnl (qth (vcd_true rfl (by simp only [decide_eq_true_eq, decide_eq_false_iff_not, Bool.not_eq_eq_eq_not, Bool.not_true, Bool.not_false, bne_iff_ne, bne_eq_false_iff_eq, beq_iff_eq, beq_eq_false_iff_ne, ne_eq, beq_self_eq_true, bne_self_eq_false, Bool.and_eq_true, Bool.and_eq_false_iff, Bool.or_eq_true, Bool.or_eq_false_iff, and_self, and_true, true_and, Bool.false_eq_true, Bool.true_eq_false, not_false_eq_true, not_true_eq_false]; first | done | omega) ?_)))))
          refine wsq (wrg (vQ tab rfl (vQ tab rfl (vnl (qth (vw_ret (q_thenr ?_)))))))
      exact out_mk [NIL] (.inr rfl) ⟨rfl, rfl⟩ rfl (vrel_tuple (lrel_cons (rel_nil (sigma_nil (i := 0) rfl) rfl) (lrel_cons (.int _ _) lrel_nil))) (op_void (sigma_nil (i := 0) rfl) rfl rfl rfl op_nil) trivial
  rw [newP_ok hc]
  obtain ⟨b, rfl⟩ := Int.eq_ofNat_of_zero_le (show 0 ≤ c by omega)
  refine wsq (wrg (vQ tab rfl (vQ tab rfl (vnl (qth (wsq (wsq (wrg (vQ tab rfl (vQ tab rfl (vQ tab rfl (vgd_op false rfl rfl rfl (by simp only [decide_eq_true_eq, decide_eq_false_iff_not, Bool.not_eq_eq_eq_not, Bool.not_true, Bool.not_false, bne_iff_ne, bne_eq_false_iff_eq, beq_iff_eq, beq_eq_false_iff_ne, ne_eq, beq_self_eq_true, bne_self_eq_false, Bool.and_eq_true, Bool.and_eq_false_iff, Bool.or_eq_true, Bool.or_eq_false_iff, and_self, and_true, true_and, Bool.false_eq_true, Bool.true_eq_false, not_false_eq_true, not_true_eq_false]; first | done | omega) ?_))))))))))))
  refine vQ tab rfl (vQ tab rfl (vQ tab rfl (vnl (qth (vcd_false rfl (by simp only [decide_eq_true_eq, decide_eq_false_iff_not, Bool.not_eq_eq_eq_not, Bool.not_true, Bool.not_false, bne_iff_ne, bne_eq_false_iff_eq, beq_iff_eq, beq_eq_false_iff_ne, ne_eq, beq_self_eq_true, bne_self_eq_false, Bool.and_eq_true, Bool.and_eq_false_iff, Bool.or_eq_true, Bool.or_eq_false_iff, and_self, and_true, true_and, Bool.false_eq_true, Bool.true_eq_false, not_false_eq_true, not_true_eq_false]; first | done | omega) ?_)))))
  refine vw_skip (qth (wsq (wrg (vQ tab rfl (vN tab rfl (vQ tab rfl (vT rfl callable_43 (repeat_tri ⟨false, -1, 0⟩ b (looks_opn addrR (xs := [⟨false, -1, 0⟩]) rfl rfl) (by omega) (by omega)) ?_)))))))
  refine vQ tab rfl (vQ tab rfl (vnl (qth (vw_ret ?_))))
  exact out_mk [1] (.inr rfl) ⟨rfl, rfl⟩ rfl (vrel_tuple (lrel_cons (rel_slice (sigma_look (i := 0) rfl) (by simp)) (lrel_cons (.int _ _) lrel_nil))) (op_cons (sigma_look (i := 0) rfl) rfl rfl (ov_opn addrR (by simp)) rfl op_nil) trivial
theorem badA_of (a : AddrV) : badA a = (decide (a.last < -1) || decide (8 ≤ a.last) || decide (a.until_ < 0)) := by
  unfold badA userOk
  rw [Bool.eq_iff_iff]
  simp only [Bool.or_eq_true, Bool.and_eq_true, bne_iff_ne, ne_eq, Bool.not_eq_true', Bool.and_eq_false_iff, decide_eq_false_iff_not, decide_eq_true_eq]
  omega
theorem mayP_bad {xs : List AddrV} {j : Nat} {a : AddrV} (h : xs[j]? = some a) (hb : badA a = true) : mayP xs = false := by
  unfold mayP
  rw [List.any_eq_true.2 ⟨a, List.mem_of_getElem? h, hb⟩]; simp
theorem tickmay_fun (t : Int) : Fun Try.prog 65 [.int .i64 t] (.bool (decide (0 ≤ t) && decide (t ≤ 1048575))) := by
  refine fun_of_vw tab Try.func65 rfl rfl (by simp [Try.f65]) (lrel_cons (.int _ _) lrel_nil) (.bool _) ?_
  refine wsq (wrg (vQ tab rfl (vnl (qth (wsq (wrg (vQ tab rfl (vQ tab rfl (vQ tab rfl ?_)))))))))
  refine vg_op rfl rfl rfl (fun _ => ?_) (fun _ => ?_)
  refine vQ tab rfl (vQ tab rfl (vQ tab rfl (vQ tab rfl (vnl (qth (vw_ret ?_))))))
  rotate_left
  refine vK rfl (vK rfl (vQ tab rfl (vQ tab rfl (vnl (qth (vw_ret ?_))))))
  rotate_left
  all_goals exact ⟨.inr rfl, Eq.trans (b := some (.bool _)) rfl (congrArg (fun b => some (Value.bool b)) (by simp_all <;> (intros; omega)))⟩
end Go.Proofs.Ytcjfidfealifhaa
