/- Package pool: addresses; lists of them. -/
import Derived.Test.YtcjfidfealifhaaVg1
import Derived.Test.YtcjfidfealifhaaSm0
import Derived.Test.YtcjfidfealifhaaCm0
import Derived.Test.YtcjfidfealifhaaVmT
import Derived.Test.YtcjfidfealifhaaVmC0
import Derived.IntWalk
namespace Go.Proofs.Ytcjfidfealifhaa
open Go Vm IntWalk
set_option linter.unusedVariables false
set_option linter.unusedSimpArgs false
structure AddrV where
  busy : Bool
  last : Int
  until_ : Int
  deriving DecidableEq
def addrL (a : AddrV) : List Value := [.bool a.busy, .int .i64 a.last, .int .i64 a.until_]
def addrR : Rw AddrV := ⟨addrL, 3, fun _ => rfl, fun a v h => by unfold addrL at h; simp only [List.mem_cons, List.not_mem_nil, or_false] at h; rcases h with rfl | rfl | rfl <;> rfl, by decide⟩
abbrev addrV (a : AddrV) : Value := .agg (addrL a).toArray
theorem addr_eq (a b : AddrV) : evEq tys 50 58 (.agg (addrR.f a).toArray) (.agg (addrR.f b).toArray) = some (decide (a = b)) := by
  refine Eq.trans (b := some (a.busy == b.busy && (a.last == b.last && (a.until_ == b.until_ && true)))) rfl (congrArg some ?_)
  rw [Bool.eq_iff_iff]
  cases a; cases b; simp
def spoilAddr (a : AddrV) : AddrV := { a with until_ := bits .xor .i64 a.until_ 90 }
abbrev addrRel {ρ : Ren} (a : AddrV) : VRel ρ (addrV a) (addrV a) := vrel_agg (addrR.flat a).rel
set_option maxHeartbeats 4000000 in
theorem same_addrs {V : Heap} {n : Nat} {sva svb : Value} {xs ys : List AddrV} (ha : Looks V 3 sva (addrR.cells xs) xs.length) (hb : Looks V 3 svb (addrR.cells ys) ys.length) (hx : xs.length ≤ 140737488355328) (hy : ys.length ≤ 140737488355328) :
    Tri Try.prog 17 [sva, svb] n 0 V (fun u L => u = .bool (decide (xs = ys)) ∧ L = []) := by
  refine reads_of_vw (K := 2) (argsI := [.slice (some ⟨0, 0, none⟩) xs.length 0, .slice (some ⟨1, 0, none⟩) ys.length 0]) tab Try.func17 rfl rfl (by simp [Try.f17]) [.look sva xs.length 3, .look svb ys.length 3] [.win (addrR.cells xs) 3, .win (addrR.cells ys) 3] rfl (.look ha (addrR.flat_cells xs) (.look hb (addrR.flat_cells ys) .nil)) (by simp [ownNames]) (by simp [ownNames, lookNames]) (al_cons (.look (a := 0) rfl) (al_cons (.look (a := 1) rfl) al_nil)) (seen_of (sn_look (seen_top (j := 0) rfl) (sn_look (seen_top (j := 1) rfl) sn_nil))) (.bool _) ?_
  by_cases hlen : xs.length = ys.length
  case neg =>
    have hne : xs ≠ ys := fun e => hlen (by rw [e])
    have hd : ((xs.length : Int) != (ys.length : Int)) = true := by simpa using (show ¬ (xs.length : Int) = ys.length by omega)
    refine wsq (wrg (vQ tab rfl (vnl (qth (wsq (wsq (wrg (vQ tab rfl (vQ tab rfl (vQ tab rfl (vQ tab rfl (vQ tab rfl (vnl (qth (vcd_true rfl (by simp only [hd, decide_eq_true_eq, decide_eq_false_iff_not, Bool.not_eq_eq_eq_not, Bool.not_true, Bool.not_false, bne_iff_ne, bne_eq_false_iff_eq, beq_iff_eq, beq_eq_false_iff_ne, ne_eq, beq_self_eq_true, bne_self_eq_false, Bool.and_eq_true, Bool.and_eq_false_iff, Bool.or_eq_true, Bool.or_eq_false_iff, and_self, and_true, true_and, Bool.false_eq_true, Bool.true_eq_false, not_false_eq_true, not_true_eq_false]; first | done | omega) ?_)))))))))))))))
    refine wsq (wrg (vQ tab rfl (vnl (qth (vw_ret (q_thenr ?_))))))
    exact ⟨⟨.inr rfl, by rw [decide_eq_false hne]; rfl⟩, trivial⟩
  have hd : ((xs.length : Int) != (ys.length : Int)) = false := by simpa using (show (xs.length : Int) = ys.length by omega)
  refine wsq (wrg (vQ tab rfl (vnl (qth (wsq (wsq (wrg (vQ tab rfl (vQ tab rfl (vQ tab rfl (vQ tab rfl (vQ tab rfl (vnl (qth (vcd_false rfl (by simp only [hd, decide_eq_true_eq, decide_eq_false_iff_not, Bool.not_eq_eq_eq_not, Bool.not_true, Bool.not_false, bne_iff_ne, bne_eq_false_iff_eq, beq_iff_eq, beq_eq_false_iff_ne, ne_eq, beq_self_eq_true, bne_self_eq_false, Bool.and_eq_true, Bool.and_eq_false_iff, Bool.or_eq_true, Bool.or_eq_false_iff, and_self, and_true, true_and, Bool.false_eq_true, Bool.true_eq_false, not_false_eq_true, not_true_eq_false]; first | done | omega) ?_)))))))))))))))
  refine vw_skip (qth (wsq (wsq (wrg (vQ tab rfl (vnl (qth (wbk ?_))))))))
  refine vw_loop_sub (fun k s => ∃ j : Int, 0 ≤ j ∧ j ≤ xs.length ∧ xs.take j.toNat = ys.take j.toNat ∧ k = (xs.length - j).toNat ∧
      s = ⟨[(0, .slice (some ⟨0, 0, none⟩) xs.length 0), (1, .slice (some ⟨1, 0, none⟩) ys.length 0), (5, .int .i64 j)], lkp [(0, .win (addrR.cells xs) 3), (1, .win (addrR.cells ys) 3)], 2⟩) (xs.length - 0)
    ⟨_, (sub_of (g := 2) [] (by decide) (by decide) (by repeat' first | exact ep_nil | refine ep_cons rfl ?_ ?_ | exact .int _ _ | exact .bool _ | exact .string _ | exact rel_slice rfl rfl | exact rel_nil rfl rfl | exact rel_ptr rfl | exact .nilPtr | exact .nilIface | exact .nilSlice) (by repeat' first | exact hp_nil | refine hp_cons rfl rfl ?_ ?_ | refine hp_void rfl rfl ?_ | exact ov_win _ | exact ov_opn _ rfl | exact ov_cells _ _ (by decide))), 0, by omega, by omega, by simp, by simp, rfl⟩ ?_
  rintro k s ⟨j, h0, h1, ht, rfl, rfl⟩
  by_cases hj : j < (xs.length : Int)
  case neg =>
    have he : xs = ys := by rw [show j.toNat = xs.length by omega, List.take_length, hlen, List.take_length] at ht; exact ht
    refine wsq (wsq (wrg (vQ tab rfl (vQ tab rfl (vQ tab rfl (vQ tab rfl (vnl (qth (vcd_false rfl (by simp only [decide_eq_true_eq, decide_eq_false_iff_not, Bool.not_eq_eq_eq_not, Bool.not_true, Bool.not_false, bne_iff_ne, bne_eq_false_iff_eq, beq_iff_eq, beq_eq_false_iff_ne, ne_eq, beq_self_eq_true, bne_self_eq_false, Bool.and_eq_true, Bool.and_eq_false_iff, Bool.or_eq_true, Bool.or_eq_false_iff, and_self, and_true, true_and, Bool.false_eq_true, Bool.true_eq_false, not_false_eq_true, not_true_eq_false]; first | done | omega) ?_)))))))))
    refine vw_exit (q_thenx (q_thenx (q_here (qth (wsq (wrg (vQ tab rfl (vnl (qth (vw_ret ?_))))))))))
    exact ⟨⟨.inr rfl, by rw [decide_eq_true he]; rfl⟩, trivial⟩
  obtain ⟨a, hxa⟩ := get_some h0 hj
  obtain ⟨b, hyb⟩ := get_some (xs := ys) h0 (by omega)
  have hi : IntKind.i64.wrap (j + 1) = j + 1 := i64_in _ (by omega)
  have hjn : (j + 1).toNat = j.toNat + 1 := by omega
  by_cases hab : a = b
  · have hd := decide_eq_true hab
    refine wsq (wsq (wrg (vQ tab rfl (vQ tab rfl (vQ tab rfl (vQ tab rfl (vnl (qth (vcd_true rfl (by simp only [hi, hd, decide_eq_true_eq, decide_eq_false_iff_not, Bool.not_eq_eq_eq_not, Bool.not_true, Bool.not_false, bne_iff_ne, bne_eq_false_iff_eq, beq_iff_eq, beq_eq_false_iff_ne, ne_eq, beq_self_eq_true, bne_self_eq_false, Bool.and_eq_true, Bool.and_eq_false_iff, Bool.or_eq_true, Bool.or_eq_false_iff, and_self, and_true, true_and, Bool.false_eq_true, Bool.true_eq_false, not_false_eq_true, not_true_eq_false]; first | done | omega) ?_)))))))))
    refine vw_skip (qth (wsq (wbk (wsq (vw_draw mixed (dq_op tab rfl rfl rfl rfl (dq_op tab rfl rfl rfl rfl (dq_op tab rfl rfl (ev_index rfl rfl rfl rfl rfl (by omega) (by omega)) (ev_index rfl rfl rfl rfl rfl (by omega) (by omega)) ?_))))))))
    refine dq_op tab rfl rfl (ev_loadrow addrR rfl rfl rfl rfl rfl rfl hxa) (ev_loadrow addrR rfl rfl rfl rfl rfl rfl hxa) (dq_op tab rfl rfl rfl rfl (dq_op tab rfl rfl rfl rfl (dq_op tab rfl rfl (ev_index rfl rfl rfl rfl rfl (by omega) (by omega)) (ev_index rfl rfl rfl rfl rfl (by omega) (by omega)) ?_)))
    refine dq_op tab rfl rfl (ev_loadrow addrR rfl rfl rfl rfl rfl rfl hyb) (ev_loadrow addrR rfl rfl rfl rfl rfl rfl hyb) (dq_op tab rfl rfl (ev_neq rfl rfl rfl (addr_eq a b)) (ev_neq rfl rfl rfl (addr_eq a b)) (vd_nil (by kernel_rfl) ?_))
    refine qth (vcd_false rfl (by simp only [hi, hd, decide_eq_true_eq, decide_eq_false_iff_not, Bool.not_eq_eq_eq_not, Bool.not_true, Bool.not_false, bne_iff_ne, bne_eq_false_iff_eq, beq_iff_eq, beq_eq_false_iff_ne, ne_eq, beq_self_eq_true, bne_self_eq_false, Bool.and_eq_true, Bool.and_eq_false_iff, Bool.or_eq_true, Bool.or_eq_false_iff, and_self, and_true, true_and, Bool.false_eq_true, Bool.true_eq_false, not_false_eq_true, not_true_eq_false]; first | done | omega) ?_)
    refine vw_skip (q_norm (qth (wrg (vQ tab rfl (vQ tab rfl (vQ tab rfl (vnl (qth ?_))))))))
    exact ⟨(xs.length - (j + 1)).toNat, _, by omega, (sub_of (g := 2) [] (by decide) (by decide) (by repeat' first | exact ep_nil | exact ri hi.symm | refine ep_cons rfl ?_ ?_ | exact .int _ _ | exact .bool _ | exact .string _ | exact rel_slice rfl rfl | exact rel_nil rfl rfl | exact rel_ptr rfl | exact .nilPtr | exact .nilIface | exact .nilSlice) (by repeat' first | exact hp_nil | exact ri hi.symm | refine hp_cons rfl rfl ?_ ?_ | refine hp_void rfl rfl ?_ | exact ov_win _ | exact ov_opn _ rfl | exact ov_cells _ _ (by decide))), j + 1, by omega, by omega, by rw [hjn]; exact take_same hxa hyb ht hab, rfl, rfl⟩
  · have hd := decide_eq_false hab
    refine wsq (wsq (wrg (vQ tab rfl (vQ tab rfl (vQ tab rfl (vQ tab rfl (vnl (qth (vcd_true rfl (by simp only [hi, hd, decide_eq_true_eq, decide_eq_false_iff_not, Bool.not_eq_eq_eq_not, Bool.not_true, Bool.not_false, bne_iff_ne, bne_eq_false_iff_eq, beq_iff_eq, beq_eq_false_iff_ne, ne_eq, beq_self_eq_true, bne_self_eq_false, Bool.and_eq_true, Bool.and_eq_false_iff, Bool.or_eq_true, Bool.or_eq_false_iff, and_self, and_true, true_and, Bool.false_eq_true, Bool.true_eq_false, not_false_eq_true, not_true_eq_false]; first | done | omega) ?_)))))))))
    refine vw_skip (qth (wsq (wbk (wsq (vw_draw mixed (dq_op tab rfl rfl rfl rfl (dq_op tab rfl rfl rfl rfl (dq_op tab rfl rfl (ev_index rfl rfl rfl rfl rfl (by omega) (by omega)) (ev_index rfl rfl rfl rfl rfl (by omega) (by omega)) ?_))))))))
    refine dq_op tab rfl rfl (ev_loadrow addrR rfl rfl rfl rfl rfl rfl hxa) (ev_loadrow addrR rfl rfl rfl rfl rfl rfl hxa) (dq_op tab rfl rfl rfl rfl (dq_op tab rfl rfl rfl rfl (dq_op tab rfl rfl (ev_index rfl rfl rfl rfl rfl (by omega) (by omega)) (ev_index rfl rfl rfl rfl rfl (by omega) (by omega)) ?_)))
    refine dq_op tab rfl rfl (ev_loadrow addrR rfl rfl rfl rfl rfl rfl hyb) (ev_loadrow addrR rfl rfl rfl rfl rfl rfl hyb) (dq_op tab rfl rfl (ev_neq rfl rfl rfl (addr_eq a b)) (ev_neq rfl rfl rfl (addr_eq a b)) (vd_nil (by kernel_rfl) ?_))
    refine qth (vcd_true rfl (by simp only [hi, hd, decide_eq_true_eq, decide_eq_false_iff_not, Bool.not_eq_eq_eq_not, Bool.not_true, Bool.not_false, bne_iff_ne, bne_eq_false_iff_eq, beq_iff_eq, beq_eq_false_iff_ne, ne_eq, beq_self_eq_true, bne_self_eq_false, Bool.and_eq_true, Bool.and_eq_false_iff, Bool.or_eq_true, Bool.or_eq_false_iff, and_self, and_true, true_and, Bool.false_eq_true, Bool.true_eq_false, not_false_eq_true, not_true_eq_false]; first | done | omega) ?_)
    refine wsq (wrg (vQ tab rfl (vnl (qth (vw_ret (q_ret (q_thenr (q_thenr (q_ret (q_thenr ?_))))))))))
    exact ⟨⟨.inr rfl, by rw [decide_eq_false (take_diff hxa hyb hab)]; rfl⟩, trivial⟩
end Go.Proofs.Ytcjfidfealifhaa
