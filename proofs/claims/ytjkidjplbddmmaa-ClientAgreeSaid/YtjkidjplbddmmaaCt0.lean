/- Field's All, Text at any size; totp's Step, Code; what a client makes. -/
import Derived.Test.YtjkidjplbddmmaaVg1
import Derived.Test.YtjkidjplbddmmaaCr0
import Derived.Test.YtjkidjplbddmmaaFd5
import Derived.Test.YtjkidjplbddmmaaPk1
import Derived.Test.YtjkidjplbddmmaaRp1
import Derived.Test.YtjkidjplbddmmaaPl2
namespace Go.Proofs.Ytjkidjplbddmmaa
open Go Vm IntWalk
set_option linter.unusedVariables false
set_option linter.unusedSimpArgs false
set_option maxHeartbeats 4000000
def allR (xs : List Int) : ByteArray × Bool := if xs.all okN = true then (numsB xs, true) else (⟨#[]⟩, false)
theorem allR_ok {xs : List Int} (h : xs.all okN = true) : allR xs = (numsB xs, true) := if_pos h
theorem allR_no {xs : List Int} (h : xs.all okN = false) : allR xs = (⟨#[]⟩, false) := if_neg (by rw [h]; decide)
theorem all_tri {V : Heap} {n : Nat} {sv : Value} {xs : List Int} (hl : Looks V 1 sv ((intR .i64).cells xs) xs.length) (hx : xs.length ≤ 1000) :
    Tri Try.prog 41 [sv] n 0 V (fun u L => u = .tuple #[.string (allR xs).1, .bool (allR xs).2] ∧ L = []) := by
  refine reads_of_vw (K := 1) (argsI := [.slice (some ⟨0, 0, none⟩) xs.length 0]) tab Try.func41 rfl rfl (by simp [Try.f41]) [.look sv xs.length 1] [.win ((intR .i64).cells xs) 1] rfl (.look hl ((intR .i64).flat_cells xs) .nil) (by simp [ownNames]) (by simp [ownNames, lookNames]) (al_cons (.look (a := 0) rfl) al_nil) (seen_of (sn_look (seen_top (j := 0) rfl) sn_nil)) (vrel_tuple (lrel_cons (.string _) (lrel_cons (.bool _) lrel_nil))) ?_
  refine wsq (wrg (vQ tab rfl (vQ tab rfl (vnl (qth (wsq (wrg (vQ tab rfl (vnl (qth (wsq (wsq (wrg (vQ tab rfl (vQ tab rfl (vQ tab rfl (vnl (qth (wbk ?_)))))))))))))))))))
  refine vw_loop_env (fun k env => ∃ j : Int, 0 ≤ j ∧ j ≤ xs.length ∧ k = (xs.length - j).toNat ∧ (xs.take j.toNat).all okN = true ∧
      env = [(4, .string (numsB (xs.take j.toNat))), (9, .slice (some ⟨0, 0, none⟩) xs.length 0), (10, .int .i64 xs.length), (11, .int .i64 j)]) (xs.length - 0)
    ⟨_, se_cons rfl (se_cons rfl (se_cons rfl (se_cons rfl se_nil))), 0, by omega, by omega, by simp, by simp, rfl⟩ ?_
  rintro k env ⟨j, h0, h1, rfl, ha, rfl⟩
  by_cases hj : j < (xs.length : Int)
  case neg =>
    rw [show j.toNat = xs.length by omega, List.take_length] at *
    rw [allR_ok ha]
    refine wsq (wrg (vQ tab rfl (vnl (qth (wsq (vcd_false rfl (by simp only [decide_eq_true_eq, decide_eq_false_iff_not, Bool.not_eq_eq_eq_not, Bool.not_true, Bool.not_false, bne_iff_ne, bne_eq_false_iff_eq, beq_iff_eq, beq_eq_false_iff_ne, ne_eq, beq_self_eq_true, bne_self_eq_false, Bool.and_eq_true, Bool.and_eq_false_iff, Bool.or_eq_true, Bool.or_eq_false_iff, and_self, and_true, true_and, Bool.false_eq_true, Bool.true_eq_false, not_false_eq_true, not_true_eq_false]; first | done | omega) ?_))))))
    refine vw_exit (q_thenx (q_thenx (q_here (qth (wsq (wrg (vQ tab rfl (vQ tab rfl (vQ tab rfl (vnl (qth (vw_ret ?_))))))))))))
    exact ⟨⟨.inr rfl, rfl⟩, trivial⟩
  obtain ⟨x, hxa⟩ := get_some h0 hj
  have hi : IntKind.i64.wrap (j + 1) = j + 1 := i64_in _ (by omega)
  have hjn : (j + 1).toNat = j.toNat + 1 := by omega
  have hs := numsB_size xs j.toNat (by omega)
  have hz := numR_size x
  have hm := numR_may x
  cases hk : okN x with
  | false =>
    have hn : ((numR x).2 != 0) = true := by rw [numR_no hk]; rfl
    have hall : xs.all okN = false := by
      rw [← Bool.not_eq_true, List.all_eq_true]
      intro h; have := h x (List.mem_of_getElem? hxa); rw [hk] at this; cases this
    rw [allR_no hall]
    refine wsq (wrg (vQ tab rfl (vnl (qth (wsq (vcd_true rfl (by simp only [hn, decide_eq_true_eq, decide_eq_false_iff_not, Bool.not_eq_eq_eq_not, Bool.not_true, Bool.not_false, bne_iff_ne, bne_eq_false_iff_eq, beq_iff_eq, beq_eq_false_iff_ne, ne_eq, beq_self_eq_true, bne_self_eq_false, Bool.and_eq_true, Bool.and_eq_false_iff, Bool.or_eq_true, Bool.or_eq_false_iff, and_self, and_true, true_and, Bool.false_eq_true, Bool.true_eq_false, not_false_eq_true, not_true_eq_false]; first | done | omega) ?_))))))
    refine vw_skip (qth (wsq (wbk (wsq (wrg (vq_op tab rfl rfl rfl (ev_index rfl rfl rfl rfl rfl (by omega) (by omega)) ?_))))))
    refine vq_op tab rfl rfl rfl (ev_val (intR .i64) rfl rfl rfl rfl rfl hxa rfl) (vQ tab rfl (vnl (qth (wsq (wrg (vQ tab rfl (vF rfl callable_45 (num_fun_ x) (vQ tab rfl (vQ tab rfl (vQ tab rfl (vQ tab rfl (vQ tab rfl (vnl (qth (wsq (wsq (wrg (vQ tab rfl (vQ tab rfl (vnl (qth (vcd_true rfl (by simp only [hn, decide_eq_true_eq, decide_eq_false_iff_not, Bool.not_eq_eq_eq_not, Bool.not_true, Bool.not_false, bne_iff_ne, bne_eq_false_iff_eq, beq_iff_eq, beq_eq_false_iff_ne, ne_eq, beq_self_eq_true, bne_self_eq_false, Bool.and_eq_true, Bool.and_eq_false_iff, Bool.or_eq_true, Bool.or_eq_false_iff, and_self, and_true, true_and, Bool.false_eq_true, Bool.true_eq_false, not_false_eq_true, not_true_eq_false]; first | done | omega) ?_))))))))))))))))))))))
    refine wsq (wrg (vQ tab rfl (vQ tab rfl (vnl (qth (vw_ret (q_thenr (q_ret (q_thenr (q_thenr (q_ret (q_thenr ?_))))))))))))
    exact ⟨⟨.inr rfl, rfl⟩, trivial⟩
  | true =>
    have hn : ((numR x).2 != 0) = false := by rw [numR_ok hk]; rfl
    refine wsq (wrg (vQ tab rfl (vnl (qth (wsq (vcd_true rfl (by simp only [hi, hn, decide_eq_true_eq, decide_eq_false_iff_not, Bool.not_eq_eq_eq_not, Bool.not_true, Bool.not_false, bne_iff_ne, bne_eq_false_iff_eq, beq_iff_eq, beq_eq_false_iff_ne, ne_eq, beq_self_eq_true, bne_self_eq_false, Bool.and_eq_true, Bool.and_eq_false_iff, Bool.or_eq_true, Bool.or_eq_false_iff, and_self, and_true, true_and, Bool.false_eq_true, Bool.true_eq_false, not_false_eq_true, not_true_eq_false]; first | done | omega) ?_))))))
    refine vw_skip (qth (wsq (wbk (wsq (wrg (vq_op tab rfl rfl rfl (ev_index rfl rfl rfl rfl rfl (by omega) (by omega)) ?_))))))
    refine vq_op tab rfl rfl rfl (ev_val (intR .i64) rfl rfl rfl rfl rfl hxa rfl) (vQ tab rfl (vnl (qth (wsq (wrg (vQ tab rfl (vF rfl callable_45 (num_fun_ x) (vQ tab rfl (vQ tab rfl (vQ tab rfl (vQ tab rfl (vQ tab rfl (vnl (qth (wsq (wsq (wrg (vQ tab rfl (vQ tab rfl (vnl (qth (vcd_false rfl (by simp only [hi, hn, decide_eq_true_eq, decide_eq_false_iff_not, Bool.not_eq_eq_eq_not, Bool.not_true, Bool.not_false, bne_iff_ne, bne_eq_false_iff_eq, beq_iff_eq, beq_eq_false_iff_ne, ne_eq, beq_self_eq_true, bne_self_eq_false, Bool.and_eq_true, Bool.and_eq_false_iff, Bool.or_eq_true, Bool.or_eq_false_iff, and_self, and_true, true_and, Bool.false_eq_true, Bool.true_eq_false, not_false_eq_true, not_true_eq_false]; first | done | omega) ?_))))))))))))))))))))))
    refine vw_skip (qth (wrg (vQ tab rfl (vQ tab rfl (vq_op tab rfl rfl rfl (cat_ev rfl rfl (by omega)) ?_)))))
    refine vQ tab rfl (vnl (q_norm (qth (wrg (vQ tab rfl (vQ tab rfl (vnl (qth ?_))))))))
    refine ⟨rfl, rfl, (xs.length - (j + 1)).toNat, _, by omega, se_cons (v := .string (numsB (xs.take (j + 1).toNat))) ?_ (se_cons rfl (se_cons rfl (se_cons (se_int rfl hi) se_nil))), j + 1, by omega, by omega, rfl, ?_, rfl⟩
    · rw [hjn, numsB_next hxa]; rfl
    · rw [hjn, List.take_add_one, hxa, List.all_append, ha]; simp [hk]
def textR (d : ByteArray) : ByteArray × Int := if d.size ≤ 65536 then (txtB d, 0) else (⟨#[]⟩, 100)
theorem textR_size (d : ByteArray) : (textR d).1.size ≤ 65541 := by
  unfold textR
  split
  · have := txtB_size d; show (txtB d).size ≤ _; omega
  · show 0 ≤ _; omega
theorem textA_fun (d : ByteArray) (hd : d.size ≤ 9223372036854775807) : Fun Try.prog 46 [.string d] (.tuple #[.string (textR d).1, .int .i64 (textR d).2]) := by
  by_cases h : d.size ≤ 65536
  · have e : textR d = (txtB d, 0) := if_pos h
    rw [e]; exact text_fun d h
  · have e : textR d = (⟨#[]⟩, 100) := if_neg h
    rw [e]
    refine fun_of_vw tab Try.func46 rfl rfl (by simp [Try.f46]) (lrel_cons (.string _) lrel_nil) (vrel_tuple (lrel_cons (.string _) (lrel_cons (.int _ _) lrel_nil))) ?_
    refine wsq (wrg (vQ tab rfl (vQ tab rfl (vnl (qth (wsq (wsq (wrg (vQ tab rfl (vQ tab rfl (vQ tab rfl (vnl (qth (vcd_true rfl (by simp only [decide_eq_true_eq, decide_eq_false_iff_not, Bool.not_eq_eq_eq_not, Bool.not_true, Bool.not_false, bne_iff_ne, bne_eq_false_iff_eq, beq_iff_eq, beq_eq_false_iff_ne, ne_eq, beq_self_eq_true, bne_self_eq_false, Bool.and_eq_true, Bool.and_eq_false_iff, Bool.or_eq_true, Bool.or_eq_false_iff, and_self, and_true, true_and, Bool.false_eq_true, Bool.true_eq_false, not_false_eq_true, not_true_eq_false]; first | done | omega) ?_))))))))))))))
    refine wsq (wrg (vQ tab rfl (vQ tab rfl (vnl (qth (vw_ret (q_thenr ?_)))))))
    exact ⟨.inr rfl, rfl⟩
def stepR (t : Int) : Int := if 0 ≤ t ∧ t ≤ 1048575 then t / 30 + 1 else 0
theorem step_fun (t : Int) : Fun Try.prog 44 [.int .i64 t] (.int .i64 (stepR t)) := by
  refine fun_of_vw tab Try.func44 rfl rfl (by simp [Try.f44]) (lrel_cons (.int _ _) lrel_nil) (.int _ _) ?_
  by_cases h : 0 ≤ t ∧ t ≤ 1048575
  · have e : stepR t = t / 30 + 1 := if_pos h
    have hc : (decide (0 ≤ t) && decide (t ≤ 1048575)) = true := by simp [h]
    rw [e]
    refine wsq (wrg (vQ tab rfl (vnl (qth (wsq (wsq (wrg (vQ tab rfl (vF rfl callable_71 (tickmay_fun t) (vQ tab rfl (vnl (qth (vcd_false rfl (by simp only [hc, decide_eq_true_eq, decide_eq_false_iff_not, Bool.not_eq_eq_eq_not, Bool.not_true, Bool.not_false, bne_iff_ne, bne_eq_false_iff_eq, beq_iff_eq, beq_eq_false_iff_ne, ne_eq, beq_self_eq_true, bne_self_eq_false, Bool.and_eq_true, Bool.and_eq_false_iff, Bool.or_eq_true, Bool.or_eq_false_iff, and_self, and_true, true_and, Bool.false_eq_true, Bool.true_eq_false, not_false_eq_true, not_true_eq_false]; first | done | omega) ?_)))))))))))))
    refine vw_skip (qth (wsq (wrg (vQ tab rfl (vQ tab rfl (vQ tab rfl (vQ tab rfl (vnl (qth (vw_ret ?_))))))))))
    refine ⟨.inr rfl, Eq.trans (b := some (.int .i64 _)) rfl (congrArg (fun b => some (Value.int .i64 b)) ?_)⟩
    have e1 := i64_in (t / 30) (by omega)
    have e2 := i64_in (t / 30 + 1) (by omega)
    rw [Int.tdiv_eq_ediv_of_nonneg h.1, e1, e2]
  · have e : stepR t = 0 := if_neg h
    have hc : (decide (0 ≤ t) && decide (t ≤ 1048575)) = false := by
      rw [Bool.and_eq_false_iff, decide_eq_false_iff_not, decide_eq_false_iff_not]; omega
    rw [e]
    refine wsq (wrg (vQ tab rfl (vnl (qth (wsq (wsq (wrg (vQ tab rfl (vF rfl callable_71 (tickmay_fun t) (vQ tab rfl (vnl (qth (vcd_true rfl (by simp only [hc, decide_eq_true_eq, decide_eq_false_iff_not, Bool.not_eq_eq_eq_not, Bool.not_true, Bool.not_false, bne_iff_ne, bne_eq_false_iff_eq, beq_iff_eq, beq_eq_false_iff_ne, ne_eq, beq_self_eq_true, bne_self_eq_false, Bool.and_eq_true, Bool.and_eq_false_iff, Bool.or_eq_true, Bool.or_eq_false_iff, and_self, and_true, true_and, Bool.false_eq_true, Bool.true_eq_false, not_false_eq_true, not_true_eq_false]; first | done | omega) ?_)))))))))))))
    refine wsq (wrg (vQ tab rfl (vnl (qth (vw_ret (q_thenr ?_))))))
    exact ⟨.inr rfl, rfl⟩
def stepOk (s : Int) : Bool := decide (1 ≤ s) && decide (s ≤ 1048575)
theorem stepmay_fun (s : Int) : Fun Try.prog 70 [.int .i64 s] (.bool (stepOk s)) := by
  refine fun_of_vw tab Try.func70 rfl rfl (by simp [Try.f70]) (lrel_cons (.int _ _) lrel_nil) (.bool _) ?_
  refine wsq (wrg (vQ tab rfl (vnl (qth (wsq (wrg (vQ tab rfl (vQ tab rfl (vQ tab rfl ?_)))))))))
  refine vg_op rfl rfl rfl (fun _ => ?_) (fun _ => ?_)
  refine vQ tab rfl (vQ tab rfl (vQ tab rfl (vQ tab rfl (vnl (qth (vw_ret ?_))))))
  rotate_left
  refine vK rfl (vK rfl (vQ tab rfl (vQ tab rfl (vnl (qth (vw_ret ?_))))))
  rotate_left
  all_goals exact ⟨.inr rfl, Eq.trans (b := some (.bool _)) rfl (congrArg (fun b => some (Value.bool b)) (by simp_all [stepOk] <;> (intros; omega)))⟩
/-- A code, and the terms behind it. -/
def codeT (step : Int) : ByteArray := ⟨#[99, 111, 100, 101]⟩ ++ (numR step).1
theorem codeT_size (s : Int) : (codeT s).size ≤ 9 := by
  unfold codeT
  have := numR_size s
  rw [ByteArray.size_append]; show 4 + _ ≤ 9; omega
def codeR (most : Int) (l : List ByteArray) (secret step : Int) : Int × Int × List ByteArray :=
  if stepOk step = true then (if (macB most l secret (codeT step)).2.1 = 0 then ((macB most l secret (codeT step)).1, 0, (macB most l secret (codeT step)).2.2) else (0, 1200, l)) else (0, 1200, l)
theorem codeR_no {most : Int} {l : List ByteArray} {k s : Int} (h : stepOk s = false) : codeR most l k s = (0, 1200, l) := if_neg (by rw [h]; decide)
theorem codeR_bad {most : Int} {l : List ByteArray} {k s : Int} (h : stepOk s = true) (he : (macB most l k (codeT s)).2.1 ≠ 0) : codeR most l k s = (0, 1200, l) := by unfold codeR; rw [if_pos h, if_neg he]
theorem codeR_ok {most : Int} {l : List ByteArray} {k s : Int} (h : stepOk s = true) (he : (macB most l k (codeT s)).2.1 = 0) : codeR most l k s = ((macB most l k (codeT s)).1, 0, (macB most l k (codeT s)).2.2) := by unfold codeR; rw [if_pos h, if_pos he]
theorem craftB_err {most : Int} {l : List ByteArray} {s : ByteArray} {b : Bool} (h : (craftB most l s b).2.1 ≠ 0) : (craftB most l s b).2.2 = l := by
  unfold craftB at h ⊢
  split
  · split
    · rename_i h1 h2; rw [if_pos h1, if_pos h2] at h; exact (h rfl).elim
    · rfl
  · rfl
theorem macB_err {most : Int} {l : List ByteArray} {k : Int} {s : ByteArray} (h : (macB most l k s).2.1 ≠ 0) : (macB most l k s).2.2 = l := craftB_err h
theorem code_tri {V : Heap} {n p t m : Nat} {most : Int} {l : List ByteArray} (h : BkAt V p t m most l) (hn : p < n ∧ t < n ∧ m < n) (hl : (l.length : Int) ≤ 65536) (secret step : Int) :
    Tri Try.prog 43 [.pointer (some ⟨p, 0, none⟩), .int .i64 secret, .int .i64 step] n 1 V (fun u L => u = .tuple #[.int .i64 (codeR most l secret step).1, .int .i64 (codeR most l secret step).2.1] ∧ L = nameL most p t m n (codeR most l secret step).2.2) := by
  obtain ⟨hp, ht, hm, d1, d2, d3⟩ := h
  obtain ⟨n1, n2, n3⟩ := hn
  refine call_of_vw (K := 3) (argsI := [.pointer (some ⟨0, 0, none⟩), .int .i64 secret, .int .i64 step]) tab Try.func43 rfl rfl (by simp [Try.f43]) [.own p, .own t, .own m] [bookC most 1 l.length 2, .opn (strR.cells l) 9 1, .map (ents 0 l) l.length] rfl (.own hp (ov_book (rel_slice rfl rfl) (rel_map rfl)) (.own ht (ov_opn strR rfl) (.own hm (ov_ents rfl rfl) .nil))) (by simp [ownNames, *]) (by simp [ownNames, lookNames, *]) (by simp [ownNames, *]) (al_cons (.val (rel_ptr rfl)) (al_cons (.val (.int _ _)) (al_cons (.val (.int _ _)) al_nil))) (seen_of (sn_own (sn_own (sn_own sn_nil)))) ?_
  have hz := codeT_size step
  have hz1 := numR_size step
  cases hk : stepOk step with
  | false =>
    rw [codeR_no hk]
    refine wsq (wrg (vQ tab rfl (vQ tab rfl (vnl (qth (wsq (wsq (wrg (vQ tab rfl (vQ tab rfl (vnl (qth (vc_false rfl (vw_skip (qth (wsq (wrg (vQ tab rfl (vF rfl callable_45 (num_fun_ step) (vQ tab rfl (vQ tab rfl (vQ tab rfl (vQ tab rfl ?_)))))))))))))))))))))))
    refine vQ tab rfl (vnl (qth (wsq (wrg (vQ tab rfl (vQ tab rfl (vnl (qth (wsq (wsq (wrg (vQ tab rfl (vF rfl callable_70 (stepmay_fun step) (vnl (qth (vcd_false rfl (by simp only [hk, decide_eq_true_eq, decide_eq_false_iff_not, Bool.not_eq_eq_eq_not, Bool.not_true, Bool.not_false, bne_iff_ne, bne_eq_false_iff_eq, beq_iff_eq, beq_eq_false_iff_ne, ne_eq, beq_self_eq_true, bne_self_eq_false, Bool.and_eq_true, Bool.and_eq_false_iff, Bool.or_eq_true, Bool.or_eq_false_iff, and_self, and_true, true_and, Bool.false_eq_true, Bool.true_eq_false, not_false_eq_true, not_true_eq_false]; first | done | omega) ?_))))))))))))))))
    refine vw_skip (qth (wsq (wsq (wrg (vQ tab rfl (vQ tab rfl (vnl (qth (vc_true rfl (wsq (wrg (vQ tab rfl (vQ tab rfl (vnl (qth (vw_ret (q_thenr ?_)))))))))))))))))
    exact out_mk [1] (.inr rfl) ⟨rfl, rfl⟩ rfl (vrel_tuple (lrel_cons (.int _ _) (lrel_cons (.int _ _) lrel_nil))) (out_book0 (sigma_own (a := 0) (by simp [ownNames, *]) rfl) (sigma_at (i := 0) (by simp [ownNames, *]) rfl) (sigma_own (a := 2) (by simp [ownNames, *]) rfl) rfl rfl rfl) (told_of (by simp [ownNames, nameL]))
  | true =>
    by_cases he : (macB most l secret (codeT step)).2.1 = 0
    · rw [codeR_ok hk he]
      have h0 : ((macB most l secret (codeT step)).2.1 != 0) = false := by rw [he]; rfl
      refine wsq (wrg (vQ tab rfl (vQ tab rfl (vnl (qth (wsq (wsq (wrg (vQ tab rfl (vQ tab rfl (vnl (qth (vc_false rfl (vw_skip (qth (wsq (wrg (vQ tab rfl (vF rfl callable_45 (num_fun_ step) (vQ tab rfl (vQ tab rfl (vQ tab rfl (vQ tab rfl ?_)))))))))))))))))))))))
      refine vQ tab rfl (vnl (qth (wsq (wrg (vQ tab rfl (vQ tab rfl (vnl (qth (wsq (wsq (wrg (vQ tab rfl (vF rfl callable_70 (stepmay_fun step) (vnl (qth (vcd_true rfl (by simp only [hk, h0, decide_eq_true_eq, decide_eq_false_iff_not, Bool.not_eq_eq_eq_not, Bool.not_true, Bool.not_false, bne_iff_ne, bne_eq_false_iff_eq, beq_iff_eq, beq_eq_false_iff_ne, ne_eq, beq_self_eq_true, bne_self_eq_false, Bool.and_eq_true, Bool.and_eq_false_iff, Bool.or_eq_true, Bool.or_eq_false_iff, and_self, and_true, true_and, Bool.false_eq_true, Bool.true_eq_false, not_false_eq_true, not_true_eq_false]; first | done | omega) ?_))))))))))))))))
      refine wrg (vQ tab rfl (vQ tab rfl (vQ tab rfl (vq_op tab rfl rfl rfl (cat_ev rfl rfl (by show 4 + _ ≤ _; omega)) ?_))))
      refine vT rfl callable_69 (mac_tri ⟨rfl, rfl, rfl, by decide, by decide, by decide⟩ (by decide) hl secret (codeT step) (by omega)) ?_
      refine vQ tab rfl (vQ tab rfl (vQ tab rfl (vQ tab rfl (vQ tab rfl (vnl (qth (wsq (wsq (wrg (vQ tab rfl (vQ tab rfl (vnl (qth (vcd_false rfl (by simp only [hk, h0, decide_eq_true_eq, decide_eq_false_iff_not, Bool.not_eq_eq_eq_not, Bool.not_true, Bool.not_false, bne_iff_ne, bne_eq_false_iff_eq, beq_iff_eq, beq_eq_false_iff_ne, ne_eq, beq_self_eq_true, bne_self_eq_false, Bool.and_eq_true, Bool.and_eq_false_iff, Bool.or_eq_true, Bool.or_eq_false_iff, and_self, and_true, true_and, Bool.false_eq_true, Bool.true_eq_false, not_false_eq_true, not_true_eq_false]; first | done | omega) ?_))))))))))))))
      refine vw_skip (qth (wsq (wrg (vQ tab rfl (vQ tab rfl (vQ tab rfl (vnl (qth (vw_ret ?_)))))))))
      exact out_mk [3] (.inr rfl) ⟨rfl, rfl⟩ rfl (vrel_tuple (lrel_cons (.int _ _) (lrel_cons (.int _ _) lrel_nil))) (out_book0 (sigma_own (a := 0) (by simp [ownNames, *]) rfl) (sigma_at (i := 0) (by simp [ownNames, *]) rfl) (sigma_own (a := 2) (by simp [ownNames, *]) rfl) rfl rfl rfl) (told_of (by simp [ownNames, nameL]))
    · rw [codeR_bad hk he]
      have h0 : ((macB most l secret (codeT step)).2.1 != 0) = true := by simpa using he
      have hkk := macB_err he
      refine wsq (wrg (vQ tab rfl (vQ tab rfl (vnl (qth (wsq (wsq (wrg (vQ tab rfl (vQ tab rfl (vnl (qth (vc_false rfl (vw_skip (qth (wsq (wrg (vQ tab rfl (vF rfl callable_45 (num_fun_ step) (vQ tab rfl (vQ tab rfl (vQ tab rfl (vQ tab rfl ?_)))))))))))))))))))))))
      refine vQ tab rfl (vnl (qth (wsq (wrg (vQ tab rfl (vQ tab rfl (vnl (qth (wsq (wsq (wrg (vQ tab rfl (vF rfl callable_70 (stepmay_fun step) (vnl (qth (vcd_true rfl (by simp only [hk, h0, decide_eq_true_eq, decide_eq_false_iff_not, Bool.not_eq_eq_eq_not, Bool.not_true, Bool.not_false, bne_iff_ne, bne_eq_false_iff_eq, beq_iff_eq, beq_eq_false_iff_ne, ne_eq, beq_self_eq_true, bne_self_eq_false, Bool.and_eq_true, Bool.and_eq_false_iff, Bool.or_eq_true, Bool.or_eq_false_iff, and_self, and_true, true_and, Bool.false_eq_true, Bool.true_eq_false, not_false_eq_true, not_true_eq_false]; first | done | omega) ?_))))))))))))))))
      refine wrg (vQ tab rfl (vQ tab rfl (vQ tab rfl (vq_op tab rfl rfl rfl (cat_ev rfl rfl (by show 4 + _ ≤ _; omega)) ?_))))
      refine vT rfl callable_69 (mac_tri ⟨rfl, rfl, rfl, by decide, by decide, by decide⟩ (by decide) hl secret (codeT step) (by omega)) ?_
      refine vQ tab rfl (vQ tab rfl (vQ tab rfl (vQ tab rfl (vQ tab rfl (vnl (qth (wsq (wsq (wrg (vQ tab rfl (vQ tab rfl (vnl (qth (vcd_true rfl (by simp only [hk, h0, decide_eq_true_eq, decide_eq_false_iff_not, Bool.not_eq_eq_eq_not, Bool.not_true, Bool.not_false, bne_iff_ne, bne_eq_false_iff_eq, beq_iff_eq, beq_eq_false_iff_ne, ne_eq, beq_self_eq_true, bne_self_eq_false, Bool.and_eq_true, Bool.and_eq_false_iff, Bool.or_eq_true, Bool.or_eq_false_iff, and_self, and_true, true_and, Bool.false_eq_true, Bool.true_eq_false, not_false_eq_true, not_true_eq_false]; first | done | omega) ?_))))))))))))))
      refine wsq (wrg (vQ tab rfl (vQ tab rfl (vnl (qth (vw_ret (q_thenr ?_)))))))
      exact out_mk [3] (.inr rfl) ⟨rfl, rfl⟩ rfl (vrel_tuple (lrel_cons (.int _ _) (lrel_cons (.int _ _) lrel_nil))) (out_book0 (sigma_own (a := 0) (by simp [ownNames, *]) rfl) (sigma_at (i := 0) (by simp [ownNames, *]) rfl) (sigma_own (a := 2) (by simp [ownNames, *]) rfl) (congrArg (fun l : List ByteArray => some (bookC most 3 l.length 2)) hkk) (congrArg (fun l : List ByteArray => some (VObj.opn (strR.cells l) 9 1)) hkk) (congrArg (fun l : List ByteArray => some (VObj.map (ents 0 l) l.length)) hkk)) (told_of (by simp [ownNames, nameL]))
end Go.Proofs.Ytjkidjplbddmmaa
