/- Package pool: Take, Free, and the document's. -/
import Derived.Test.YtcjfidfealifhaaVg1
import Derived.Test.YtcjfidfealifhaaPl2
namespace Go.Proofs.Ytcjfidfealifhaa
open Go Vm IntWalk
set_option linter.unusedVariables false
set_option linter.unusedSimpArgs false
def atA (xs : List AddrV) (i : Int) : AddrV := xs.getD i.toNat ⟨false, 0, 0⟩
def takeC (xs : List AddrV) (i b : Int) : Bool := mayP xs && userOk b && thereB xs i && !(atA xs i).busy
def takeA (xs : List AddrV) (i b : Int) : List AddrV × Int := if takeC xs i b = true then (xs.set i.toNat ⟨true, b, 0⟩, 0) else ([], 1600)
theorem takeA_ok {xs : List AddrV} {i b : Int} (h : takeC xs i b = true) : takeA xs i b = (xs.set i.toNat ⟨true, b, 0⟩, 0) := if_pos h
theorem takeA_bad {xs : List AddrV} {i b : Int} (h : takeC xs i b = false) : takeA xs i b = ([], 1600) := if_neg (by rw [h]; decide)
def freeC (xs : List AddrV) (i b : Int) : Bool := mayP xs && thereB xs i && (atA xs i).busy && !decide (b < 0)
def freeA (xs : List AddrV) (i b : Int) : List AddrV × Int := if freeC xs i b = true then (xs.set i.toNat ⟨false, (atA xs i).last, b⟩, 0) else ([], 1600)
theorem freeA_ok {xs : List AddrV} {i b : Int} (h : freeC xs i b = true) : freeA xs i b = (xs.set i.toNat ⟨false, (atA xs i).last, b⟩, 0) := if_pos h
theorem freeA_bad {xs : List AddrV} {i b : Int} (h : freeC xs i b = false) : freeA xs i b = ([], 1600) := if_neg (by rw [h]; decide)
theorem userOk_zero : userOk 0 = true := rfl
set_option maxHeartbeats 8000000 in
theorem ptake_tri {V : Heap} {n : Nat} {sv : Value} {xs : List AddrV} (i b : Int) (hl : Looks V 3 sv (addrR.cells xs) xs.length) (hb : xs.length * 24 ≤ 140737488355328) :
    Tri Try.prog 49 [sv, .int .i64 i, .int .i64 b] n 1 V (fun u L => u = .tuple #[.slice (some ⟨n, 0, none⟩) (takeA xs i b).1.length 0, .int .i64 (takeA xs i b).2] ∧ L = [(n, some (.opn (addrR.cells (takeA xs i b).1) 58 3))]) := by
  refine call_of_vw (K := 1) (argsI := [.slice (some ⟨0, 0, none⟩) xs.length 0, .int .i64 i, .int .i64 b]) tab Try.func49 rfl rfl (by simp [Try.f49]) [.look sv xs.length 3] [.win (addrR.cells xs) 3] rfl (.look hl (addrR.flat_cells xs) .nil) (by simp [ownNames]) (by simp [ownNames, lookNames]) (by simp [ownNames, *]) (al_cons (.look (a := 0) rfl) (al_cons (.val (.int _ _)) (al_cons (.val (.int _ _)) al_nil))) (seen_of (sn_look (seen_top (j := 0) rfl) sn_nil)) ?_
  by_cases hth : 0 ≤ i ∧ i < (xs.length : Int)
  case neg =>
    have ht : thereB xs i = false := by unfold thereB; rw [Bool.and_eq_false_iff, decide_eq_false_iff_not, decide_eq_false_iff_not]; omega
    have hc : takeC xs i b = false := by unfold takeC; rw [ht]; simp
    rw [takeA_bad hc]
    rcases (show i < 0 ∨ (¬ i < 0 ∧ (xs.length : Int) ≤ i) by omega) with h | h
    all_goals
      refine wsq (wrg (vQ tab rfl (vQ tab rfl (vnl (qth (wsq (wsq (wrg (vQ tab rfl (vR rfl callable_60 (may_tri (looks_win addrR rfl rfl) (by omega)) ?_))))))))))
      refine vQ tab rfl (vQ tab rfl ?_)
      refine vg_op rfl rfl rfl (fun _ => ?_) (fun _ => ?_)
      refine vQ tab rfl (vF rfl callable_61 (usermay_fun _) (vQ tab rfl (vQ tab rfl (vQ tab rfl ?_))))
      refine vg_op rfl rfl rfl (fun _ => ?_) (fun _ => ?_)
      refine vQ tab rfl (vQ tab rfl (vR rfl callable_62 (there_tri _ (looks_win addrR rfl rfl)) (vQ tab rfl (vQ tab rfl (vQ tab rfl (vgd_op true rfl rfl rfl (by simp only [ht, decide_eq_true_eq, decide_eq_false_iff_not, Bool.not_eq_eq_eq_not, Bool.not_true, Bool.not_false, bne_iff_ne, bne_eq_false_iff_eq, beq_iff_eq, beq_eq_false_iff_ne, ne_eq, beq_self_eq_true, bne_self_eq_false, Bool.and_eq_true, Bool.and_eq_false_iff, Bool.or_eq_true, Bool.or_eq_false_iff, and_self, and_true, true_and, Bool.false_eq_true, Bool.true_eq_false, not_false_eq_true, not_true_eq_false]; first | done | omega) ?_))))))
      refine vK rfl (vK rfl (vK rfl (vK rfl (vK rfl (vQ tab rfl (vnl (qth (vc_true rfl (wsq (wrg (vQ tab rfl (vQ tab rfl (vnl (qth (vw_ret (q_thenr ?_))))))))))))))))
      rotate_left
      refine vK rfl (vK rfl (vK rfl (vK rfl (vQ tab rfl (vQ tab rfl (vK rfl (vK rfl (vK rfl (vK rfl (vK rfl (vQ tab rfl (vnl (qth (vc_true rfl (wsq (wrg (vQ tab rfl (vQ tab rfl (vnl (qth (vw_ret (q_thenr ?_))))))))))))))))))))))
      rotate_left
      refine vK rfl (vK rfl (vK rfl (vQ tab rfl (vQ tab rfl (vK rfl (vK rfl (vK rfl (vK rfl (vQ tab rfl (vQ tab rfl (vK rfl (vK rfl (vK rfl (vK rfl (vK rfl (vQ tab rfl (vnl (qth (vc_true rfl (wsq (wrg (vQ tab rfl (vQ tab rfl ?_)))))))))))))))))))))))
      refine vnl (qth (vw_ret (q_thenr ?_)))
      rotate_left
      all_goals exact out_mk [NIL] (.inr rfl) ⟨rfl, rfl⟩ rfl (vrel_tuple (lrel_cons (rel_nil (sigma_nil (i := 0) rfl) rfl) (lrel_cons (.int _ _) lrel_nil))) (op_void (sigma_nil (i := 0) rfl) rfl rfl rfl op_nil) trivial
  obtain ⟨h0, h1⟩ := hth
  have ht : thereB xs i = true := by unfold thereB; rw [decide_eq_true h0, decide_eq_true h1]; rfl
  obtain ⟨a, ha⟩ := get_some h0 h1
  have hat : atA xs i = a := by unfold atA; simp [List.getD_eq_getElem?_getD, ha]
  have hd0 : decide (i < 0) = false := decide_eq_false (by omega)
  have hd1 : decide ((xs.length : Int) ≤ i) = false := decide_eq_false (by omega)
  refine wsq (wrg (vQ tab rfl (vQ tab rfl (vnl (qth (wsq (wsq (wrg (vQ tab rfl (vR rfl callable_60 (may_tri (looks_win addrR rfl rfl) (by omega)) ?_))))))))))
  refine vQ tab rfl (vQ tab rfl ?_)
  refine vg_op rfl rfl rfl (fun _ => ?_) (fun _ => ?_)
  refine vQ tab rfl (vF rfl callable_61 (usermay_fun _) (vQ tab rfl (vQ tab rfl (vQ tab rfl ?_))))
  refine vg_op rfl rfl rfl (fun _ => ?_) (fun _ => ?_)
  refine vQ tab rfl (vQ tab rfl (vR rfl callable_62 (there_tri _ (looks_win addrR rfl rfl)) (vQ tab rfl (vQ tab rfl (vQ tab rfl (vgd_op false rfl rfl rfl (by simp only [ht, decide_eq_true_eq, decide_eq_false_iff_not, Bool.not_eq_eq_eq_not, Bool.not_true, Bool.not_false, bne_iff_ne, bne_eq_false_iff_eq, beq_iff_eq, beq_eq_false_iff_ne, ne_eq, beq_self_eq_true, bne_self_eq_false, Bool.and_eq_true, Bool.and_eq_false_iff, Bool.or_eq_true, Bool.or_eq_false_iff, and_self, and_true, true_and, Bool.false_eq_true, Bool.true_eq_false, not_false_eq_true, not_true_eq_false]; first | done | omega) ?_))))))
  refine vQ tab rfl (vQ tab rfl (vq_op tab ⟨_, _, rfl, rfl, rfl⟩ rfl rfl (ev_index rfl rfl rfl rfl rfl (by omega) (by omega)) ?_))
  refine vQ tab rfl (vq_op tab ⟨_, _, rfl, rfl, rfl⟩ rfl rfl (ev_loadcell addrR rfl rfl rfl rfl rfl ha rfl) (vQ tab rfl (vnl (qth ?_))))
  refine vc_part rfl (fun _ => ?_) (fun _ => ?_)
  refine wsq (wrg (vQ tab rfl (vQ tab rfl (vnl (qth (vw_ret (q_thenr ?_)))))))
  rotate_left
  refine vw_skip (qth (wsq (wrg (vQ tab rfl (vQ tab rfl (vQ tab rfl (vQ tab rfl (vT rfl callable_63 (with_tri ⟨true, b, 0⟩ (looks_win addrR rfl rfl) hb h0 h1) (vQ tab rfl (vQ tab rfl (vnl (qth (vw_ret ?_)))))))))))))
  rotate_left
  refine vK rfl (vK rfl (vK rfl (vK rfl (vQ tab rfl (vQ tab rfl (vK rfl (vK rfl (vK rfl (vK rfl (vK rfl (vQ tab rfl (vnl (qth (vc_true rfl (wsq (wrg (vQ tab rfl (vQ tab rfl (vnl (qth (vw_ret (q_thenr ?_))))))))))))))))))))))
  rotate_left
  refine vK rfl (vK rfl (vK rfl (vQ tab rfl (vQ tab rfl (vK rfl (vK rfl (vK rfl (vK rfl (vQ tab rfl (vQ tab rfl (vK rfl (vK rfl (vK rfl (vK rfl (vK rfl (vQ tab rfl (vnl (qth (vc_true rfl (wsq (wrg (vQ tab rfl (vQ tab rfl ?_)))))))))))))))))))))))
  refine vnl (qth (vw_ret (q_thenr ?_)))
  rotate_left
  all_goals first
    | (have hc : takeC xs i b = false := by cases h9 : mayP xs <;> cases h8 : userOk b <;> simp_all [takeC, userOk_zero]
       rw [takeA_bad hc]
       exact out_mk [NIL] (.inr rfl) ⟨rfl, rfl⟩ rfl (vrel_tuple (lrel_cons (rel_nil (sigma_nil (i := 0) rfl) rfl) (lrel_cons (.int _ _) lrel_nil))) (op_void (sigma_nil (i := 0) rfl) rfl rfl rfl op_nil) trivial)
    | (have hc : takeC xs i b = true := by cases h9 : mayP xs <;> cases h8 : userOk b <;> simp_all [takeC, userOk_zero]
       rw [takeA_ok hc]
       try rw [hat]
       exact out_mk [1] (.inr rfl) ⟨rfl, rfl⟩ rfl (vrel_tuple (lrel_cons (rel_slice (sigma_look (i := 0) rfl) (by simp)) (lrel_cons (.int _ _) lrel_nil))) (op_cons (sigma_look (i := 0) rfl) rfl rfl (ov_opn addrR rfl) rfl op_nil) trivial)
set_option maxHeartbeats 8000000 in
theorem pfree_tri {V : Heap} {n : Nat} {sv : Value} {xs : List AddrV} (i b : Int) (hl : Looks V 3 sv (addrR.cells xs) xs.length) (hb : xs.length * 24 ≤ 140737488355328) :
    Tri Try.prog 57 [sv, .int .i64 i, .int .i64 b] n 1 V (fun u L => u = .tuple #[.slice (some ⟨n, 0, none⟩) (freeA xs i b).1.length 0, .int .i64 (freeA xs i b).2] ∧ L = [(n, some (.opn (addrR.cells (freeA xs i b).1) 58 3))]) := by
  refine call_of_vw (K := 1) (argsI := [.slice (some ⟨0, 0, none⟩) xs.length 0, .int .i64 i, .int .i64 b]) tab Try.func57 rfl rfl (by simp [Try.f57]) [.look sv xs.length 3] [.win (addrR.cells xs) 3] rfl (.look hl (addrR.flat_cells xs) .nil) (by simp [ownNames]) (by simp [ownNames, lookNames]) (by simp [ownNames, *]) (al_cons (.look (a := 0) rfl) (al_cons (.val (.int _ _)) (al_cons (.val (.int _ _)) al_nil))) (seen_of (sn_look (seen_top (j := 0) rfl) sn_nil)) ?_
  by_cases hth : 0 ≤ i ∧ i < (xs.length : Int)
  case neg =>
    have ht : thereB xs i = false := by unfold thereB; rw [Bool.and_eq_false_iff, decide_eq_false_iff_not, decide_eq_false_iff_not]; omega
    have hc : freeC xs i b = false := by unfold freeC; rw [ht]; simp
    rw [freeA_bad hc]
    rcases (show i < 0 ∨ (¬ i < 0 ∧ (xs.length : Int) ≤ i) by omega) with h | h
    all_goals
      refine wsq (wrg (vQ tab rfl (vQ tab rfl (vnl (qth (wsq (wsq (wrg (vQ tab rfl (vR rfl callable_60 (may_tri (looks_win addrR rfl rfl) (by omega)) ?_))))))))))
      refine vQ tab rfl (vQ tab rfl ?_)
      refine vg_op rfl rfl rfl (fun _ => ?_) (fun _ => ?_)
      refine vQ tab rfl (vQ tab rfl (vR rfl callable_62 (there_tri _ (looks_win addrR rfl rfl)) (vQ tab rfl (vQ tab rfl (vQ tab rfl (vgd_op true rfl rfl rfl (by simp only [ht, decide_eq_true_eq, decide_eq_false_iff_not, Bool.not_eq_eq_eq_not, Bool.not_true, Bool.not_false, bne_iff_ne, bne_eq_false_iff_eq, beq_iff_eq, beq_eq_false_iff_ne, ne_eq, beq_self_eq_true, bne_self_eq_false, Bool.and_eq_true, Bool.and_eq_false_iff, Bool.or_eq_true, Bool.or_eq_false_iff, and_self, and_true, true_and, Bool.false_eq_true, Bool.true_eq_false, not_false_eq_true, not_true_eq_false]; first | done | omega) ?_))))))
      refine vK rfl (vK rfl (vK rfl (vK rfl (vK rfl (vK rfl (vQ tab rfl (vQ tab rfl (vK rfl (vK rfl (vQ tab rfl (vnl (qth (vc_true rfl (wsq (wrg (vQ tab rfl (vQ tab rfl (vnl (qth (vw_ret (q_thenr ?_)))))))))))))))))))))
      rotate_left
      refine vK rfl (vK rfl (vK rfl (vK rfl (vQ tab rfl (vQ tab rfl (vK rfl (vK rfl (vK rfl (vK rfl (vK rfl (vK rfl (vQ tab rfl (vQ tab rfl (vK rfl (vK rfl (vQ tab rfl (vnl (qth (vc_true rfl (wsq (wrg (vQ tab rfl (vQ tab rfl ?_)))))))))))))))))))))))
      refine vnl (qth (vw_ret (q_thenr ?_)))
      rotate_left
      all_goals exact out_mk [NIL] (.inr rfl) ⟨rfl, rfl⟩ rfl (vrel_tuple (lrel_cons (rel_nil (sigma_nil (i := 0) rfl) rfl) (lrel_cons (.int _ _) lrel_nil))) (op_void (sigma_nil (i := 0) rfl) rfl rfl rfl op_nil) trivial
  obtain ⟨h0, h1⟩ := hth
  have ht : thereB xs i = true := by unfold thereB; rw [decide_eq_true h0, decide_eq_true h1]; rfl
  obtain ⟨a, ha⟩ := get_some h0 h1
  have hat : atA xs i = a := by unfold atA; simp [List.getD_eq_getElem?_getD, ha]
  have hd0 : decide (i < 0) = false := decide_eq_false (by omega)
  have hd1 : decide ((xs.length : Int) ≤ i) = false := decide_eq_false (by omega)
  refine wsq (wrg (vQ tab rfl (vQ tab rfl (vnl (qth (wsq (wsq (wrg (vQ tab rfl (vR rfl callable_60 (may_tri (looks_win addrR rfl rfl) (by omega)) ?_))))))))))
  refine vQ tab rfl (vQ tab rfl ?_)
  refine vg_op rfl rfl rfl (fun _ => ?_) (fun _ => ?_)
  refine vQ tab rfl (vQ tab rfl (vR rfl callable_62 (there_tri _ (looks_win addrR rfl rfl)) (vQ tab rfl (vQ tab rfl (vQ tab rfl (vgd_op false rfl rfl rfl (by simp only [ht, decide_eq_true_eq, decide_eq_false_iff_not, Bool.not_eq_eq_eq_not, Bool.not_true, Bool.not_false, bne_iff_ne, bne_eq_false_iff_eq, beq_iff_eq, beq_eq_false_iff_ne, ne_eq, beq_self_eq_true, bne_self_eq_false, Bool.and_eq_true, Bool.and_eq_false_iff, Bool.or_eq_true, Bool.or_eq_false_iff, and_self, and_true, true_and, Bool.false_eq_true, Bool.true_eq_false, not_false_eq_true, not_true_eq_false]; first | done | omega) ?_))))))
  refine vQ tab rfl (vQ tab rfl (vq_op tab ⟨_, _, rfl, rfl, rfl⟩ rfl rfl (ev_index rfl rfl rfl rfl rfl (by omega) (by omega)) ?_))
  refine vQ tab rfl (vq_op tab ⟨_, _, rfl, rfl, rfl⟩ rfl rfl (ev_loadcell addrR rfl rfl rfl rfl rfl ha rfl) (vQ tab rfl (vQ tab rfl (vQ tab rfl ?_))))
  refine vg_op rfl rfl rfl (fun _ => ?_) (fun _ => ?_)
  refine vQ tab rfl (vQ tab rfl (vQ tab rfl (vnl (qth ?_))))
  refine vc_part rfl (fun _ => ?_) (fun _ => ?_)
  refine wsq (wrg (vQ tab rfl (vQ tab rfl (vnl (qth (vw_ret (q_thenr ?_)))))))
  rotate_left
  refine vw_skip (qth (wsq (wrg (vQ tab rfl (vQ tab rfl (vQ tab rfl (vQ tab rfl (vq_op tab rfl rfl rfl (ev_index rfl rfl rfl rfl rfl (by omega) (by omega)) ?_))))))))
  refine vQ tab rfl (vq_op tab rfl rfl rfl (ev_loadcell addrR rfl rfl rfl rfl rfl ha rfl) (vQ tab rfl (vQ tab rfl (vT rfl callable_63 (with_tri ⟨false, a.last, b⟩ (looks_win addrR rfl rfl) hb h0 h1) (vQ tab rfl (vQ tab rfl (vnl (qth (vw_ret ?_)))))))))
  rotate_left
  refine vK rfl (vK rfl (vQ tab rfl (vnl (qth (vc_true rfl (wsq (wrg (vQ tab rfl (vQ tab rfl (vnl (qth (vw_ret (q_thenr ?_)))))))))))))
  rotate_left
  refine vK rfl (vK rfl (vK rfl (vK rfl (vQ tab rfl (vQ tab rfl (vK rfl (vK rfl (vK rfl (vK rfl (vK rfl (vK rfl (vQ tab rfl (vQ tab rfl (vK rfl (vK rfl (vQ tab rfl (vnl (qth (vc_true rfl (wsq (wrg (vQ tab rfl (vQ tab rfl ?_)))))))))))))))))))))))
  refine vnl (qth (vw_ret (q_thenr ?_)))
  rotate_left
  all_goals first
    | (have hc : freeC xs i b = false := by cases h9 : mayP xs <;> cases h8 : userOk b <;> simp_all [freeC, userOk_zero]
       rw [freeA_bad hc]
       exact out_mk [NIL] (.inr rfl) ⟨rfl, rfl⟩ rfl (vrel_tuple (lrel_cons (rel_nil (sigma_nil (i := 0) rfl) rfl) (lrel_cons (.int _ _) lrel_nil))) (op_void (sigma_nil (i := 0) rfl) rfl rfl rfl op_nil) trivial)
    | (have hc : freeC xs i b = true := by cases h9 : mayP xs <;> cases h8 : userOk b <;> simp_all [freeC, userOk_zero]
       rw [freeA_ok hc]
       try rw [hat]
       exact out_mk [1] (.inr rfl) ⟨rfl, rfl⟩ rfl (vrel_tuple (lrel_cons (rel_slice (sigma_look (i := 0) rfl) (by simp)) (lrel_cons (.int _ _) lrel_nil))) (op_cons (sigma_look (i := 0) rfl) rfl rfl (ov_opn addrR rfl) rfl op_nil) trivial)
end Go.Proofs.Ytcjfidfealifhaa
