/- Law 1: FieldChains: numbers and texts in turn, one behind the other, come back in their row. -/
import Derived.Test.YtkfkdhjelncfhaaDoorVg1
import Derived.Test.YtkfkdhjelncfhaaDoorFw2
namespace Go.Proofs.YtkfkdhjelncfhaaDoor
open Go Vm IntWalk
set_option linter.unusedVariables false
set_option linter.unusedSimpArgs false
def prt (xs : List Int) (ss : List ByteArray) (j : Nat) : Bs := numL (bits .and .i64 (xs.getD j 0) 1073741823) ++ txtL (B (ss.getD j ⟨#[]⟩))
def chn (xs : List Int) (ss : List ByteArray) : Nat → Bs
  | 0 => []
  | i + 1 => chn xs ss i ++ prt xs ss i
theorem chn_pre (xs : List Int) (ss : List ByteArray) (i : Nat) : ∀ d : Nat, ∃ r, chn xs ss (i + d) = chn xs ss i ++ r
  | 0 => ⟨[], by simp⟩
  | d + 1 => by
    obtain ⟨r, h⟩ := chn_pre xs ss i d
    refine ⟨r ++ prt xs ss (i + d), ?_⟩
    show chn xs ss (i + d) ++ prt xs ss (i + d) = _
    rw [h, List.append_assoc]
theorem txtL_len {t : Bs} : (txtL t).length ≤ 5 + t.length := by unfold txtL; rw [List.length_append]; have := (numL_len (t.length : Int)).1; omega
theorem chn_len {xs : List Int} {ss : List ByteArray} : ∀ i : Nat, (∀ j, j < i → (ss.getD j ⟨#[]⟩).size ≤ 100) → (chn xs ss i).length ≤ 110 * i
  | 0, _ => by simp [chn]
  | i + 1, h => by
    have h1 := chn_len (xs := xs) i fun j hj => h j (by omega)
    have h2 := h i (by omega)
    have h3 := (numL_len (bits .and .i64 (xs.getD i 0) 1073741823)).1
    have h4 := txtL_len (t := B (ss.getD i ⟨#[]⟩))
    rw [B_len] at h4
    show (chn xs ss i ++ (numL _ ++ txtL _)).length ≤ _
    rw [List.length_append, List.length_append]; omega
/-- Where a part is read. -/
theorem read_part {s r : Bs} {a p : Int} {t : Bs} (h0 : 0 ≤ a) (h1 : a ≤ s.length) (hp : okN p = true) (ht : t.length ≤ 65536) (hd : s.drop a.toNat = (numL p ++ txtL t) ++ r) :
    ∃ to tT, getN s a = (p, to, 0, 0) ∧ 0 ≤ to ∧ to ≤ s.length ∧ s.drop to.toNat = txtL t ++ r ∧ GoodT s to t tT ∧ 0 ≤ tT ∧ tT ≤ s.length ∧ tT = (s.length : Int) - r.length := by
  rw [List.append_assoc] at hd
  obtain ⟨to, e1, e2, e3, e4⟩ := getN_some h0 h1 (show rdN (s.drop a.toNat) = some (p, txtL t ++ r) by rw [hd]; exact rd_num hp _)
  obtain ⟨tT, f1, f2, f3, f4⟩ := getT_some (s := s) (a := to) (by omega) e3 (show rdT (s.drop to.toNat) = some (t, r) by rw [e4]; exact rdT_txt ht _)
  refine ⟨to, tT, e1, by omega, e3, e4, f1, by omega, f3, ?_⟩
  have := congrArg List.length f4
  rw [List.length_drop] at this; omega
/-- Of less than all the last one is cut. -/
theorem cut_part {s t : Bs} {to : Int} (h0 : 0 ≤ to) (h1 : to ≤ s.length) (ht : t.length ≤ 65536) (hd : s.drop to.toNat = txtL t ++ []) : BadT (s.take (s.length - 1)) to 101 := by
  rw [List.append_nil] at hd
  have hl := congrArg List.length hd
  rw [List.length_drop] at hl
  have hs' : (s.take (s.length - 1)).length = s.length - 1 := by rw [List.length_take]; omega
  by_cases hz : t = []
  · subst hz
    have h2 : (txtL []).length = 1 := rfl
    refine .inl ⟨to, ?_, by decide⟩
    unfold getN
    rw [hs', if_neg (by omega), if_pos (by omega)]
  · have hpos : 0 < t.length := List.length_pos_iff.2 hz
    have hnl := (numL_len (t.length : Int)).2
    have e : (s.take (s.length - 1)).drop to.toNat = numL (t.length : Int) ++ t.take (t.length - 1) := by
      rw [List.drop_take, hd]
      unfold txtL at hl ⊢
      rw [List.length_append] at hl
      rw [List.take_append, List.take_of_length_le (by omega)]
      congr 2; omega
    have hok : okN (t.length : Int) = true := okN_iff.2 ⟨by omega, by omega⟩
    have hle : to ≤ ((s.take (s.length - 1)).length : Int) := by
      rw [hs']; unfold txtL at hl; rw [List.length_append] at hl; omega
    obtain ⟨t0, g1, g2, g3, g4⟩ := getN_some h0 hle (show rdN ((s.take (s.length - 1)).drop to.toNat) = some ((t.length : Int), t.take (t.length - 1)) by rw [e]; exact rd_num hok _)
    have hl2 := congrArg List.length g4
    rw [List.length_drop, hs', List.length_take] at hl2
    have g5 := g3
    rw [hs'] at g5
    exact .inr ⟨t0, (t.length : Int), t0, g1, by omega, by omega, by omega, g3, .inr ⟨by omega, by rw [hs']; omega, rfl, rfl⟩⟩
set_option maxHeartbeats 64000000 in
theorem FieldChains_law (xs : List Int) (ss : List ByteArray) (hb : xs.length * 8 ≤ 140737488351232) (hb2 : ss.length * 16 ≤ 140737488351232) :
    Tri Tryd.prog 6 [.slice (some ⟨0, 0, none⟩) xs.length 0, .slice (some ⟨1, 0, none⟩) ss.length 0] 2 0 (lkp (oHeap 0 (wObjs [((intR .i64).cells xs, 1), (strR.cells ss, 1)]))) (fun u L => u = .bool true ∧ L = []) := by
  refine law_of_vw tab Tryd.func6 rfl rfl (by simp [Tryd.f6]) 2 [((intR .i64).cells xs, 1), (strR.cells ss, 1)] rfl (by intro x hx; simp only [List.mem_cons, List.not_mem_nil, or_false] at hx; rcases hx with rfl | rfl; exact (intR .i64).flat_cells xs; exact strR.flat_cells ss)
    (lrel_cons (rel_slice rfl rfl) (lrel_cons (rel_slice rfl rfl) lrel_nil)) (.bool _) ?_
  refine wsq (wrg (vQ tab rfl (vnl (qth (wsq (wsq (wrg (vF rfl callable_17 (field_awake) (vQ tab rfl (vnl (qth (vc_false rfl (vw_skip (qth (wsq (wrg (vQ tab rfl (vnl (qth (wsq (wrg (vQ tab rfl (vQ tab rfl ?_)))))))))))))))))))))))
  refine vQ tab rfl (vQ tab rfl (vQ tab rfl (vQ tab rfl (vnl (qth (wsq (wsq (wrg (vQ tab rfl (vnl (qth (wbk ?_))))))))))))
  obtain ⟨k0, hk0⟩ : ∃ k0 : Int, k0 = (if (8 : Int) < (if (ss.length : Int) < (xs.length : Int) then (ss.length : Int) else (xs.length : Int)) then (8 : Int) else (if (ss.length : Int) < (xs.length : Int) then (ss.length : Int) else (xs.length : Int))) := ⟨_, rfl⟩
  have hk1 : 0 ≤ k0 ∧ k0 ≤ 8 ∧ k0 ≤ xs.length ∧ k0 ≤ ss.length := by rw [hk0]; (repeat' split) <;> omega
  refine vw_loop_env (fun k env => ∃ (i : Int) (S : ByteArray), 0 ≤ i ∧ i ≤ k0 ∧ B S = chn xs ss i.toNat ∧ (∀ j, j < i.toNat → (ss.getD j ⟨#[]⟩).size ≤ 100) ∧ k = (8 - i).toNat ∧
      env = [(0, .slice (some ⟨0, 0, none⟩) xs.length 0), (1, .slice (some ⟨1, 0, none⟩) ss.length 0), (5, .string S), (6, .int .i64 k0), (7, .int .i64 i)]) 8
    ⟨_, se_cons rfl (se_cons rfl (se_cons rfl (se_cons (by rw [hk0]; rfl) (se_cons rfl se_nil)))), 0, ⟨#[]⟩, by omega, by omega, rfl, fun j hj => absurd hj (Nat.not_lt_zero _), by decide, rfl⟩ ?_
  rintro k env ⟨i, S, g0, g1, hS, hsz, rfl, rfl⟩
  have hlS := chn_len (xs := xs) i.toNat hsz
  rw [← hS, B_len] at hlS
  by_cases hx : i < k0
  · obtain ⟨x, hx1⟩ := get_some (xs := xs) g0 (by omega)
    obtain ⟨t, ht1⟩ := get_some (xs := ss) g0 (by omega)
    have hi : IntKind.i64.wrap (i + 1) = i + 1 := i64_in _ (by omega)
    have hin : (i + 1).toNat = i.toNat + 1 := by omega
    by_cases h100 : (100 : Int) < (t.size : Int)
    · have hd := decide_eq_true h100
      refine wsq (wsq (wrg (vQ tab rfl (vQ tab rfl (vQ tab rfl (vnl (qth (vcd_true rfl (by simp only [hd, decide_eq_true_eq, decide_eq_false_iff_not, Bool.not_eq_eq_eq_not, Bool.not_true, Bool.not_false, bne_iff_ne, bne_eq_false_iff_eq, beq_iff_eq, beq_eq_false_iff_ne, ne_eq, beq_self_eq_true, bne_self_eq_false, Bool.and_eq_true, Bool.and_eq_false_iff, Bool.or_eq_true, Bool.or_eq_false_iff, and_self, and_true, true_and, Bool.false_eq_true, Bool.true_eq_false, not_false_eq_true, not_true_eq_false]; first | done | omega) ?_))))))))
      refine vw_skip (qth (wsq (wbk (wsq (wsq (wrg (vQ tab rfl (vQ tab rfl (vq_op tab rfl rfl rfl (ev_index rfl rfl rfl rfl rfl (by omega) (by omega)) ?_)))))))))
      refine vq_op tab rfl rfl rfl (ev_val strR rfl rfl rfl rfl rfl ht1 rfl) (vQ tab rfl (vQ tab rfl (vnl (qth (vcd_true rfl (by simp only [hd, decide_eq_true_eq, decide_eq_false_iff_not, Bool.not_eq_eq_eq_not, Bool.not_true, Bool.not_false, bne_iff_ne, bne_eq_false_iff_eq, beq_iff_eq, beq_eq_false_iff_ne, ne_eq, beq_self_eq_true, bne_self_eq_false, Bool.and_eq_true, Bool.and_eq_false_iff, Bool.or_eq_true, Bool.or_eq_false_iff, and_self, and_true, true_and, Bool.false_eq_true, Bool.true_eq_false, not_false_eq_true, not_true_eq_false]; first | done | omega) ?_)))))
      refine wsq (wrg (vQ tab rfl (vnl (qth (vw_ret (q_thenr (q_ret (q_thenr (q_thenr (q_ret (q_thenr ?_)))))))))))
      exact ⟨.inr rfl, rfl⟩
    have hd := decide_eq_false h100
    have hp : okN (bits .and .i64 x 1073741823) = true := by rw [okN_iff, andmax]; omega
    have n1 := num_is (x := bits .and .i64 x 1073741823) (numB (bits .and .i64 x 1073741823)) 0 (numR_ok hp)
    have n2 := text_is (d := t) (txtB t) 0 (if_pos (by omega))
    have s1 := numB_size (bits .and .i64 x 1073741823)
    have s2 := txtB_size t
    have s3 : 1 ≤ (txtB t).size := by
      rw [← B_len, txtB_B (by omega)]
      unfold txtL; rw [List.length_append]; have := (numL_len ((B t).length : Int)).2; omega
    have d3 : decide (((txtB t).size : Int) < 1) = false := decide_eq_false (by omega)
    have ha : (S ++ numB (bits .and .i64 x 1073741823)).size = S.size + (numB (bits .and .i64 x 1073741823)).size := ByteArray.size_append
    refine wsq (wsq (wrg (vQ tab rfl (vQ tab rfl (vQ tab rfl (vnl (qth (vcd_true rfl (by simp only [hd, d3, eq_self, decide_true, decide_eq_true_eq, decide_eq_false_iff_not, Bool.not_eq_eq_eq_not, Bool.not_true, Bool.not_false, bne_iff_ne, bne_eq_false_iff_eq, beq_iff_eq, beq_eq_false_iff_ne, ne_eq, beq_self_eq_true, bne_self_eq_false, Bool.and_eq_true, Bool.and_eq_false_iff, Bool.or_eq_true, Bool.or_eq_false_iff, and_self, and_true, true_and, Bool.false_eq_true, Bool.true_eq_false, not_false_eq_true, not_true_eq_false]; first | done | omega) ?_))))))))
    refine vw_skip (qth (wsq (wbk (wsq (wsq (wrg (vQ tab rfl (vQ tab rfl (vq_op tab rfl rfl rfl (ev_index rfl rfl rfl rfl rfl (by omega) (by omega)) ?_)))))))))
    refine vq_op tab rfl rfl rfl (ev_val strR rfl rfl rfl rfl rfl ht1 rfl) (vQ tab rfl (vQ tab rfl (vnl (qth (vcd_false rfl (by simp only [hd, d3, eq_self, decide_true, decide_eq_true_eq, decide_eq_false_iff_not, Bool.not_eq_eq_eq_not, Bool.not_true, Bool.not_false, bne_iff_ne, bne_eq_false_iff_eq, beq_iff_eq, beq_eq_false_iff_ne, ne_eq, beq_self_eq_true, bne_self_eq_false, Bool.and_eq_true, Bool.and_eq_false_iff, Bool.or_eq_true, Bool.or_eq_false_iff, and_self, and_true, true_and, Bool.false_eq_true, Bool.true_eq_false, not_false_eq_true, not_true_eq_false]; first | done | omega) ?_)))))
    refine vw_skip (qth (wsq (wrg (vQ tab rfl (vQ tab rfl (vq_op tab rfl rfl rfl (ev_index rfl rfl rfl rfl rfl (by omega) (by omega)) ?_))))))
    refine vq_op tab rfl rfl rfl (ev_val (intR .i64) rfl rfl rfl rfl rfl hx1 rfl) (vQ tab rfl (vF rfl callable_8 (n1) (vQ tab rfl (vQ tab rfl (vQ tab rfl (vQ tab rfl (vQ tab rfl (vnl (qth (wsq (wrg (vQ tab rfl (vQ tab rfl (vq_op tab rfl rfl rfl (ev_index rfl rfl rfl rfl rfl (by omega) (by omega)) ?_))))))))))))))
    refine vq_op tab rfl rfl rfl (ev_val strR rfl rfl rfl rfl rfl ht1 rfl) (vF rfl callable_13 (n2) (vQ tab rfl (vQ tab rfl (vQ tab rfl (vQ tab rfl (vQ tab rfl (vnl (qth (wsq (wsq (wrg (vQ tab rfl (vF rfl callable_10 (num_fun _) (vQ tab rfl (vQ tab rfl (vQ tab rfl (vF rfl callable_10 (num_fun _) (vQ tab rfl (vQ tab rfl (vQ tab rfl (vQ tab rfl (vQ tab rfl (vQ tab rfl ?_)))))))))))))))))))))))
    refine vQ tab rfl (vnl (qth (vcd_false rfl (by simp only [hd, d3, eq_self, decide_true, decide_eq_true_eq, decide_eq_false_iff_not, Bool.not_eq_eq_eq_not, Bool.not_true, Bool.not_false, bne_iff_ne, bne_eq_false_iff_eq, beq_iff_eq, beq_eq_false_iff_ne, ne_eq, beq_self_eq_true, bne_self_eq_false, Bool.and_eq_true, Bool.and_eq_false_iff, Bool.or_eq_true, Bool.or_eq_false_iff, and_self, and_true, true_and, Bool.false_eq_true, Bool.true_eq_false, not_false_eq_true, not_true_eq_false]; first | done | omega) ?_)))
    refine vw_skip (qth (wrg (vQ tab rfl (vQ tab rfl (vq_op tab rfl rfl rfl (cat_ev rfl rfl (by omega)) ?_)))))
    refine vQ tab rfl (vq_op tab rfl rfl rfl (cat_ev rfl rfl (by omega)) ?_)
    refine vQ tab rfl (vnl (q_norm (qth (wrg (vQ tab rfl (vQ tab rfl (vQ tab rfl (vnl (qth ?_)))))))))
    refine ⟨rfl, rfl, (8 - (i + 1)).toNat, _, by omega, se_cons rfl (se_cons rfl (se_cons rfl (se_cons rfl (se_cons (se_int rfl hi) se_nil)))), i + 1, _, by omega, by omega, ?_, ?_, rfl, rfl⟩
    · rw [hin]
      show _ = chn xs ss i.toNat ++ prt xs ss i.toNat
      rw [B_app, B_app, hS, List.append_assoc]
      unfold prt numB
      rw [txtB_B (by omega), B_mk, List.getD_eq_getElem?_getD, List.getD_eq_getElem?_getD, hx1, ht1]; rfl
    · intro j hj
      rw [hin] at hj
      by_cases hj2 : j < i.toNat
      · exact hsz j hj2
      · obtain rfl : j = i.toNat := by omega
        rw [List.getD_eq_getElem?_getD, ht1]; show t.size ≤ 100; omega
  obtain rfl : i = k0 := by omega
  have hs9 : S.size ≤ 9223372036854775807 := by omega
  refine wsq (wsq (wrg (vQ tab rfl (vQ tab rfl (vQ tab rfl (vnl (qth (vcd_false rfl (by simp only [decide_eq_true_eq, decide_eq_false_iff_not, Bool.not_eq_eq_eq_not, Bool.not_true, Bool.not_false, bne_iff_ne, bne_eq_false_iff_eq, beq_iff_eq, beq_eq_false_iff_ne, ne_eq, beq_self_eq_true, bne_self_eq_false, Bool.and_eq_true, Bool.and_eq_false_iff, Bool.or_eq_true, Bool.or_eq_false_iff, and_self, and_true, true_and, Bool.false_eq_true, Bool.true_eq_false, not_false_eq_true, not_true_eq_false]; first | done | omega) ?_))))))))
  refine vw_exit (q_thenx (q_thenx (q_here (qth (wsq (wrg (vQ tab rfl (vnl (qth (wsq (wsq (wrg (vQ tab rfl (vnl (qth (wbk ?_))))))))))))))))
  refine vw_loop_env (fun k env => ∃ j : Int, 0 ≤ j ∧ j ≤ i ∧ k = (8 - j).toNat ∧
      env = [(0, .slice (some ⟨0, 0, none⟩) xs.length 0), (1, .slice (some ⟨1, 0, none⟩) ss.length 0), (5, .string S), (6, .int .i64 i), (12, .int .i64 ((chn xs ss j.toNat).length : Nat)), (13, .int .i64 j)]) 8
    ⟨_, se_cons rfl (se_cons rfl (se_cons rfl (se_cons rfl (se_cons rfl (se_cons rfl se_nil))))), 0, by omega, by omega, by decide, rfl⟩ ?_
  rintro k env ⟨j, j0, j1, rfl, rfl⟩
  by_cases hj : j < i
  case neg =>
    obtain rfl : j = i := by omega
    have he : (((chn xs ss j.toNat).length : Int) == (S.size : Int)) = true := by rw [← hS, B_len]; simp
    refine wsq (wsq (wrg (vQ tab rfl (vQ tab rfl (vQ tab rfl (vnl (qth (vcd_false rfl (by simp only [he, decide_eq_true_eq, decide_eq_false_iff_not, Bool.not_eq_eq_eq_not, Bool.not_true, Bool.not_false, bne_iff_ne, bne_eq_false_iff_eq, beq_iff_eq, beq_eq_false_iff_ne, ne_eq, beq_self_eq_true, bne_self_eq_false, Bool.and_eq_true, Bool.and_eq_false_iff, Bool.or_eq_true, Bool.or_eq_false_iff, and_self, and_true, true_and, Bool.false_eq_true, Bool.true_eq_false, not_false_eq_true, not_true_eq_false]; first | done | omega) ?_))))))))
    refine vw_exit (q_thenx (q_thenx (q_here (qth (wsq (wrg (vQ tab rfl (vQ tab rfl (vQ tab rfl (vQ tab rfl (vQ tab rfl (vnl (qth (vw_ret ?_))))))))))))))
    exact ⟨.inr rfl, Eq.trans (b := some (.bool _)) rfl (congrArg (fun b => some (Value.bool b)) he)⟩
  obtain ⟨x, hx1⟩ := get_some (xs := xs) j0 (by omega)
  obtain ⟨t, ht1⟩ := get_some (xs := ss) j0 (by omega)
  have hj1 : IntKind.i64.wrap (j + 1) = j + 1 := i64_in _ (by omega)
  have hi1 : IntKind.i64.wrap (i - 1) = i - 1 := i64_in _ (by omega)
  have hjn : (j + 1).toNat = j.toNat + 1 := by omega
  have hp : okN (bits .and .i64 x 1073741823) = true := by rw [okN_iff, andmax]; omega
  have ht100 : t.size ≤ 100 := by
    have := hsz j.toNat (by omega)
    rw [List.getD_eq_getElem?_getD, ht1] at this; exact this
  have hprt : prt xs ss j.toNat = numL (bits .and .i64 x 1073741823) ++ txtL (B t) := by
    unfold prt; rw [List.getD_eq_getElem?_getD, List.getD_eq_getElem?_getD, hx1, ht1]; rfl
  obtain ⟨r, hr⟩ := chn_pre xs ss (j.toNat + 1) (i.toNat - (j.toNat + 1))
  rw [show j.toNat + 1 + (i.toNat - (j.toNat + 1)) = i.toNat by omega] at hr
  have hr2 : B S = chn xs ss j.toNat ++ (numL (bits .and .i64 x 1073741823) ++ txtL (B t)) ++ r := by
    rw [hS, hr]; show chn xs ss j.toNat ++ prt xs ss j.toNat ++ r = _; rw [hprt]
  have hlen1 : (chn xs ss (j.toNat + 1)).length + r.length = (B S).length := by rw [hS, hr, List.length_append]
  have hlen0 : ((chn xs ss j.toNat).length : Int) ≤ (B S).length := by rw [hr2, List.length_append, List.length_append]; omega
  obtain ⟨to, tT, e1, e2, e3, e4, e5, e6, e7, e8⟩ := read_part (s := B S) (r := r) (a := ((chn xs ss j.toNat).length : Nat)) (p := bits .and .i64 x 1073741823) (t := B t) (by omega) hlen0 hp (by rw [B_len]; omega) (by
    rw [Int.toNat_natCast, hr2, List.append_assoc, List.drop_left])
  have c1 := getnum_is (s := S) (a := ((chn xs ss j.toNat).length : Nat)) (bits .and .i64 x 1073741823) to 0 (by rw [e1]; exact ⟨rfl, rfl, rfl⟩) hs9
  have c2 : Fun Tryd.prog 15 [.string S, .int .i64 to] (.tuple #[.string t, .int .i64 tT, .int .i64 0]) := by
    have := fgettext_good e5 hs9; rw [mk_B] at this; exact this
  have hTT : tT = (((chn xs ss (j + 1).toNat).length : Nat) : Int) := by rw [hjn]; omega
  by_cases hlast : j = i - 1
  · have hle : (j == IntKind.i64.wrap (i - 1)) = true := by rw [hi1, hlast]; simp
    have hrn : r = [] := by
      have : i.toNat - (j.toNat + 1) = 0 := by omega
      have h9 : (chn xs ss i.toNat).length = (chn xs ss (j.toNat + 1)).length := by rw [show i.toNat = j.toNat + 1 by omega]
      rw [← hS] at h9
      exact List.length_eq_zero_iff.1 (by omega)
    rw [hrn] at e4
    have hbad := cut_part e2 e3 (by rw [B_len]; omega) e4
    have hS1 : 1 ≤ S.size := by
      have := congrArg List.length e4
      rw [List.length_drop, List.append_nil, B_len] at this
      have h1 : 1 ≤ (txtL (B t)).length := by unfold txtL; rw [List.length_append]; have := (numL_len ((B t).length : Int)).2; omega
      omega
    have hcut : B (S.extract 0 (S.size - 1)) = (B S).take ((B S).length - 1) := by rw [B_cut, List.drop_zero, B_len, Nat.sub_zero]
    rw [← hcut] at hbad
    have hws : IntKind.i64.wrap ((S.size : Int) - 1) = (S.size : Int) - 1 := i64_in _ (by omega)
    have hbn : ∀ d, bnd d (some (some (.int .i64 (IntKind.i64.wrap ((S.size : Int) - 1))))) = some (S.size - 1) := fun d => by rw [hws, show (S.size : Int) - 1 = ((S.size - 1 : Nat) : Int) by omega]; exact bnd_nat _
    have c3 := fgettext_bad hbad (by rw [ByteArray.size_extract]; omega)
    refine wsq (wsq (wrg (vQ tab rfl (vQ tab rfl (vQ tab rfl (vnl (qth (vcd_true rfl (by simp only [hj1, hle, ba_self, eq_self, decide_true, decide_eq_true_eq, decide_eq_false_iff_not, Bool.not_eq_eq_eq_not, Bool.not_true, Bool.not_false, bne_iff_ne, bne_eq_false_iff_eq, beq_iff_eq, beq_eq_false_iff_ne, ne_eq, beq_self_eq_true, bne_self_eq_false, Bool.and_eq_true, Bool.and_eq_false_iff, Bool.or_eq_true, Bool.or_eq_false_iff, and_self, and_true, true_and, Bool.false_eq_true, Bool.true_eq_false, not_false_eq_true, not_true_eq_false]; first | done | omega) ?_))))))))
    refine vw_skip (qth (wsq (wbk (wsq (wrg (vQ tab rfl (vQ tab rfl (vF rfl callable_11 (c1) (vQ tab rfl (vQ tab rfl (vQ tab rfl (vQ tab rfl (vQ tab rfl (vQ tab rfl (vQ tab rfl (vnl (qth (wsq (wrg (vQ tab rfl (vQ tab rfl (vF rfl callable_15 (c2) (vQ tab rfl ?_)))))))))))))))))))))))
    refine vQ tab rfl (vQ tab rfl (vQ tab rfl (vQ tab rfl (vQ tab rfl (vQ tab rfl (vnl (qth (wsq (wsq (wrg (vQ tab rfl (vF rfl callable_10 (num_fun _) (vQ tab rfl (vQ tab rfl (vQ tab rfl (vF rfl callable_10 (num_fun _) (vQ tab rfl (vQ tab rfl (vQ tab rfl (vQ tab rfl (vQ tab rfl (vQ tab rfl (vq_op tab ⟨_, _, rfl, rfl, rfl⟩ rfl rfl (ev_index rfl rfl rfl rfl rfl (by omega) (by omega)) ?_)))))))))))))))))))))))
    refine vq_op tab ⟨_, _, rfl, rfl, rfl⟩ rfl rfl (ev_val (intR .i64) rfl rfl rfl rfl rfl hx1 rfl) (vQ tab rfl (vQ tab rfl (vQ tab rfl (vQ tab rfl (vgd_op false rfl rfl rfl (by simp only [hj1, hle, ba_self, eq_self, decide_true, decide_eq_true_eq, decide_eq_false_iff_not, Bool.not_eq_eq_eq_not, Bool.not_true, Bool.not_false, bne_iff_ne, bne_eq_false_iff_eq, beq_iff_eq, beq_eq_false_iff_ne, ne_eq, beq_self_eq_true, bne_self_eq_false, Bool.and_eq_true, Bool.and_eq_false_iff, Bool.or_eq_true, Bool.or_eq_false_iff, and_self, and_true, true_and, Bool.false_eq_true, Bool.true_eq_false, not_false_eq_true, not_true_eq_false]; first | done | omega) ?_)))))
    refine vQ tab rfl (vQ tab rfl (vQ tab rfl (vq_op tab ⟨_, _, rfl, rfl, rfl⟩ rfl rfl (ev_index rfl rfl rfl rfl rfl (by omega) (by omega)) ?_)))
    refine vq_op tab ⟨_, _, rfl, rfl, rfl⟩ rfl rfl (ev_val strR rfl rfl rfl rfl rfl ht1 rfl) (vQ tab rfl (vQ tab rfl (vnl (qth (vcd_false rfl (by simp only [hj1, hle, ba_self, eq_self, decide_true, decide_eq_true_eq, decide_eq_false_iff_not, Bool.not_eq_eq_eq_not, Bool.not_true, Bool.not_false, bne_iff_ne, bne_eq_false_iff_eq, beq_iff_eq, beq_eq_false_iff_ne, ne_eq, beq_self_eq_true, bne_self_eq_false, Bool.and_eq_true, Bool.and_eq_false_iff, Bool.or_eq_true, Bool.or_eq_false_iff, and_self, and_true, true_and, Bool.false_eq_true, Bool.true_eq_false, not_false_eq_true, not_true_eq_false]; first | done | omega) ?_)))))
    refine vw_skip (qth (wsq (wsq (wrg (vQ tab rfl (vQ tab rfl (vQ tab rfl (vQ tab rfl (vnl (qth (vcd_true rfl (by simp only [hj1, hle, ba_self, eq_self, decide_true, decide_eq_true_eq, decide_eq_false_iff_not, Bool.not_eq_eq_eq_not, Bool.not_true, Bool.not_false, bne_iff_ne, bne_eq_false_iff_eq, beq_iff_eq, beq_eq_false_iff_ne, ne_eq, beq_self_eq_true, bne_self_eq_false, Bool.and_eq_true, Bool.and_eq_false_iff, Bool.or_eq_true, Bool.or_eq_false_iff, and_self, and_true, true_and, Bool.false_eq_true, Bool.true_eq_false, not_false_eq_true, not_true_eq_false]; first | done | omega) ?_)))))))))))
    refine wsq (wrg (vQ tab rfl (vQ tab rfl (vQ tab rfl (vQ tab rfl (vq_op tab rfl rfl rfl (ev_part_as rfl rfl rfl rfl (hbn _) (Nat.zero_le _) (by omega) rfl) ?_))))))
    refine vQ tab rfl (vF rfl callable_15 (c3) (vQ tab rfl (vQ tab rfl (vQ tab rfl (vQ tab rfl (vQ tab rfl (vQ tab rfl (vQ tab rfl (vnl (qth (wsq (wrg (vQ tab rfl (vF rfl callable_10 (num_fun _) (vQ tab rfl (vnl (qth (vc_false rfl (vw_skip (qth (wrg (vQ tab rfl (vQ tab rfl ?_)))))))))))))))))))))))
    refine vnl (q_norm (qth (wrg (vQ tab rfl (vQ tab rfl (vQ tab rfl (vnl (qth ?_))))))))
    exact ⟨rfl, rfl, (8 - (j + 1)).toNat, _, by omega, se_cons rfl (se_cons rfl (se_cons rfl (se_cons rfl (se_cons (by rw [← hTT]; rfl) (se_cons (se_int rfl hj1) se_nil))))), j + 1, by omega, by omega, rfl, rfl⟩
  · have hle : (j == IntKind.i64.wrap (i - 1)) = false := by rw [hi1, beq_eq_false_iff_ne]; exact hlast
    refine wsq (wsq (wrg (vQ tab rfl (vQ tab rfl (vQ tab rfl (vnl (qth (vcd_true rfl (by simp only [hj1, hle, ba_self, eq_self, decide_true, decide_eq_true_eq, decide_eq_false_iff_not, Bool.not_eq_eq_eq_not, Bool.not_true, Bool.not_false, bne_iff_ne, bne_eq_false_iff_eq, beq_iff_eq, beq_eq_false_iff_ne, ne_eq, beq_self_eq_true, bne_self_eq_false, Bool.and_eq_true, Bool.and_eq_false_iff, Bool.or_eq_true, Bool.or_eq_false_iff, and_self, and_true, true_and, Bool.false_eq_true, Bool.true_eq_false, not_false_eq_true, not_true_eq_false]; first | done | omega) ?_))))))))
    refine vw_skip (qth (wsq (wbk (wsq (wrg (vQ tab rfl (vQ tab rfl (vF rfl callable_11 (c1) (vQ tab rfl (vQ tab rfl (vQ tab rfl (vQ tab rfl (vQ tab rfl (vQ tab rfl (vQ tab rfl (vnl (qth (wsq (wrg (vQ tab rfl (vQ tab rfl (vF rfl callable_15 (c2) (vQ tab rfl ?_)))))))))))))))))))))))
    refine vQ tab rfl (vQ tab rfl (vQ tab rfl (vQ tab rfl (vQ tab rfl (vQ tab rfl (vnl (qth (wsq (wsq (wrg (vQ tab rfl (vF rfl callable_10 (num_fun _) (vQ tab rfl (vQ tab rfl (vQ tab rfl (vF rfl callable_10 (num_fun _) (vQ tab rfl (vQ tab rfl (vQ tab rfl (vQ tab rfl (vQ tab rfl (vQ tab rfl (vq_op tab ⟨_, _, rfl, rfl, rfl⟩ rfl rfl (ev_index rfl rfl rfl rfl rfl (by omega) (by omega)) ?_)))))))))))))))))))))))
    refine vq_op tab ⟨_, _, rfl, rfl, rfl⟩ rfl rfl (ev_val (intR .i64) rfl rfl rfl rfl rfl hx1 rfl) (vQ tab rfl (vQ tab rfl (vQ tab rfl (vQ tab rfl (vgd_op false rfl rfl rfl (by simp only [hj1, hle, ba_self, eq_self, decide_true, decide_eq_true_eq, decide_eq_false_iff_not, Bool.not_eq_eq_eq_not, Bool.not_true, Bool.not_false, bne_iff_ne, bne_eq_false_iff_eq, beq_iff_eq, beq_eq_false_iff_ne, ne_eq, beq_self_eq_true, bne_self_eq_false, Bool.and_eq_true, Bool.and_eq_false_iff, Bool.or_eq_true, Bool.or_eq_false_iff, and_self, and_true, true_and, Bool.false_eq_true, Bool.true_eq_false, not_false_eq_true, not_true_eq_false]; first | done | omega) ?_)))))
    refine vQ tab rfl (vQ tab rfl (vQ tab rfl (vq_op tab ⟨_, _, rfl, rfl, rfl⟩ rfl rfl (ev_index rfl rfl rfl rfl rfl (by omega) (by omega)) ?_)))
    refine vq_op tab ⟨_, _, rfl, rfl, rfl⟩ rfl rfl (ev_val strR rfl rfl rfl rfl rfl ht1 rfl) (vQ tab rfl (vQ tab rfl (vnl (qth (vcd_false rfl (by simp only [hj1, hle, ba_self, eq_self, decide_true, decide_eq_true_eq, decide_eq_false_iff_not, Bool.not_eq_eq_eq_not, Bool.not_true, Bool.not_false, bne_iff_ne, bne_eq_false_iff_eq, beq_iff_eq, beq_eq_false_iff_ne, ne_eq, beq_self_eq_true, bne_self_eq_false, Bool.and_eq_true, Bool.and_eq_false_iff, Bool.or_eq_true, Bool.or_eq_false_iff, and_self, and_true, true_and, Bool.false_eq_true, Bool.true_eq_false, not_false_eq_true, not_true_eq_false]; first | done | omega) ?_)))))
    refine vw_skip (qth (wsq (wsq (wrg (vQ tab rfl (vQ tab rfl (vQ tab rfl (vQ tab rfl (vnl (qth (vcd_false rfl (by simp only [hj1, hle, ba_self, eq_self, decide_true, decide_eq_true_eq, decide_eq_false_iff_not, Bool.not_eq_eq_eq_not, Bool.not_true, Bool.not_false, bne_iff_ne, bne_eq_false_iff_eq, beq_iff_eq, beq_eq_false_iff_ne, ne_eq, beq_self_eq_true, bne_self_eq_false, Bool.and_eq_true, Bool.and_eq_false_iff, Bool.or_eq_true, Bool.or_eq_false_iff, and_self, and_true, true_and, Bool.false_eq_true, Bool.true_eq_false, not_false_eq_true, not_true_eq_false]; first | done | omega) ?_)))))))))))
    refine vw_skip (qth (wrg (vQ tab rfl (vQ tab rfl (vnl (q_norm (qth (wrg (vQ tab rfl (vQ tab rfl (vQ tab rfl (vnl (qth ?_)))))))))))))
    exact ⟨rfl, rfl, (8 - (j + 1)).toNat, _, by omega, se_cons rfl (se_cons rfl (se_cons rfl (se_cons rfl (se_cons (by rw [← hTT]; rfl) (se_cons (se_int rfl hj1) se_nil))))), j + 1, by omega, by omega, rfl, rfl⟩
end Go.Proofs.YtkfkdhjelncfhaaDoor
