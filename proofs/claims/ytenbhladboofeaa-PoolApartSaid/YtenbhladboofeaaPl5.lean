/- Package pool: the document's Lease. -/
import Derived.Test.YtenbhladboofeaaPl4
namespace Go.Proofs.Ytenbhladboofeaa
open Go Vm IntWalk
set_option linter.unusedVariables false
set_option linter.unusedSimpArgs false
def rkA (u : Int) (a : AddrV) : Int := if a.last = u then 0 else if a.last = -1 then 1 else 2
def scan (u t : Int) : List AddrV → Int → Int × Int → Int × Int
  | [], _, s => s
  | a :: r, i, s => scan u t r (i + 1) (if freeB t a = true ∧ rkA u a < s.2 then (i, rkA u a) else s)
theorem findI_cons {α : Type} (p : α → Bool) (a : α) (xs : List α) : findI p (a :: xs) = if p a = true then 0 else if xs.any p = true then findI p xs + 1 else -1 := by
  unfold findI
  rw [List.findIdx?_cons]
  cases hp : p a with
  | true => simp
  | false =>
    cases hx : xs.findIdx? p with
    | none =>
      have := findI_any p xs
      have h2 : xs.any p = false := by rw [← this]; unfold findI; rw [hx]; rfl
      simp [h2]
    | some j =>
      have := findI_any p xs
      have h2 : xs.any p = true := by rw [← this]; unfold findI; rw [hx]; simp
      simp [h2]
def pickS (u t : Int) (xs : List AddrV) (i b r : Int) : Int × Int :=
  if r ≤ 0 then (b, r) else if xs.any (ownB u t) = true then (i + findI (ownB u t) xs, 0) else
  if r ≤ 1 then (b, r) else if xs.any (freshB t) = true then (i + findI (freshB t) xs, 1) else
  if r ≤ 2 then (b, r) else if xs.any (freeB t) = true then (i + findI (freeB t) xs, 2) else (b, r)
theorem scan_eq (u t : Int) : ∀ (xs : List AddrV) (i b r : Int), scan u t xs i (b, r) = pickS u t xs i b r
  | [], i, b, r => by simp [scan, pickS]
  | a :: xs, i, b, r => by
    unfold scan
    have hcase : (freeB t a = false ∧ ownB u t a = false ∧ freshB t a = false) ∨ (freeB t a = true ∧ ownB u t a = true ∧ rkA u a = 0) ∨ (freeB t a = true ∧ ownB u t a = false ∧ freshB t a = true ∧ rkA u a = 1) ∨ (freeB t a = true ∧ ownB u t a = false ∧ freshB t a = false ∧ rkA u a = 2) := by
      cases hf : freeB t a with
      | false => exact .inl ⟨rfl, by simp [ownB, hf], by simp [freshB, hf]⟩
      | true =>
        by_cases ho : a.last = u
        · exact .inr (.inl ⟨rfl, by simp [ownB, hf, ho], if_pos ho⟩)
        · by_cases hn : a.last = -1
          · exact .inr (.inr (.inl ⟨rfl, by simp [ownB, ho], by simp [freshB, hf, hn], by unfold rkA; rw [if_neg ho, if_pos hn]⟩))
          · exact .inr (.inr (.inr ⟨rfl, by simp [ownB, ho], by simp [freshB, hn], by unfold rkA; rw [if_neg ho, if_neg hn]⟩))
    rcases hcase with ⟨hf, h1, h2⟩ | ⟨hf, h1, hk⟩ | ⟨hf, h1, h2, hk⟩ | ⟨hf, h1, h2, hk⟩
    · rw [if_neg (by simp [hf]), scan_eq u t xs]
      simp only [pickS, List.any_cons, findI_cons, h1, h2, hf, Bool.false_or, Bool.false_eq_true, if_false]
      repeat' split
      all_goals first | rfl | (exfalso; omega) | contradiction | (congr 1 <;> omega)
    · simp only [hk, hf, true_and]
      by_cases hr : 0 < r
      · rw [if_pos hr, scan_eq u t xs]
        simp only [pickS, List.any_cons, findI_cons, h1, Bool.true_or, if_true]
        repeat' split
        all_goals first | rfl | (exfalso; omega) | contradiction | (congr 1 <;> omega)
      · rw [if_neg hr, scan_eq u t xs]
        simp only [pickS]
        repeat' split
        all_goals first | rfl | (exfalso; omega) | contradiction | (congr 1 <;> omega)
    · simp only [hk, hf, true_and]
      by_cases hr : 1 < r
      · rw [if_pos hr, scan_eq u t xs]
        simp only [pickS, List.any_cons, findI_cons, h1, h2, Bool.true_or, Bool.false_or, if_true, Bool.false_eq_true, if_false]
        repeat' split
        all_goals first | rfl | (exfalso; omega) | contradiction | (congr 1 <;> omega)
      · rw [if_neg hr, scan_eq u t xs]
        simp only [pickS, List.any_cons, findI_cons, h1, Bool.false_or, Bool.false_eq_true, if_false]
        repeat' split
        all_goals first | rfl | (exfalso; omega) | contradiction | (congr 1 <;> omega)
    · simp only [hk, hf, true_and]
      by_cases hr : 2 < r
      · rw [if_pos hr, scan_eq u t xs]
        simp only [pickS, List.any_cons, findI_cons, h1, h2, hf, Bool.true_or, Bool.false_or, if_true, Bool.false_eq_true, if_false]
        repeat' split
        all_goals first | rfl | (exfalso; omega) | contradiction | (congr 1 <;> omega)
      · rw [if_neg hr, scan_eq u t xs]
        simp only [pickS, List.any_cons, findI_cons, h1, h2, Bool.false_or, Bool.false_eq_true, if_false]
        repeat' split
        all_goals first | rfl | (exfalso; omega) | contradiction | (congr 1 <;> omega)
theorem scan_lease (u t : Int) (xs : List AddrV) : (if (scan u t xs 0 (-1, 3)).1 < 0 then ((0 : Int), (1601 : Int)) else ((scan u t xs 0 (-1, 3)).1, 0)) = leaseL xs u t := by
  have b1 : (xs.any (ownB u t) = true) = (0 ≤ findI (ownB u t) xs) := by rw [← findI_any]; simp
  have b2 : (xs.any (freshB t) = true) = (0 ≤ findI (freshB t) xs) := by rw [← findI_any]; simp
  have b3 : (xs.any (freeB t) = true) = (0 ≤ findI (freeB t) xs) := by rw [← findI_any]; simp
  have c1 : ¬ (3 : Int) ≤ 0 := by decide
  have c2 : ¬ (3 : Int) ≤ 1 := by decide
  have c3 : ¬ (3 : Int) ≤ 2 := by decide
  rw [scan_eq]
  simp only [pickS, leaseL, b1, b2, b3, c1, c2, c3, if_false, Int.zero_add]
  by_cases h1 : 0 ≤ findI (ownB u t) xs
  · simp only [if_pos h1]; rw [if_neg (by omega)]
  simp only [if_neg h1]
  by_cases h2 : 0 ≤ findI (freshB t) xs
  · simp only [if_pos h2]; rw [if_neg (by omega)]
  simp only [if_neg h2]
  by_cases h3 : 0 ≤ findI (freeB t) xs
  · simp only [if_pos h3]; rw [if_neg (by omega)]
  simp only [if_neg h3]; rfl
theorem scan_step {u t : Int} {xs : List AddrV} {j : Int} {a : AddrV} {s : Int × Int} (h0 : 0 ≤ j) (h : xs[j.toNat]? = some a) : scan u t (xs.drop j.toNat) j s = scan u t (xs.drop (j + 1).toNat) (j + 1) (if freeB t a = true ∧ rkA u a < s.2 then (j, rkA u a) else s) := by
  obtain ⟨h1, h2⟩ := List.getElem?_eq_some_iff.1 h
  rw [List.drop_eq_getElem_cons h1, h2, show (j + 1).toNat = j.toNat + 1 by omega]
  rfl
set_option maxHeartbeats 8000000 in
theorem reflease_tri {V : Heap} {n : Nat} {sv : Value} {xs : List AddrV} (u t : Int) (hl : Looks V 3 sv (addrR.cells xs) xs.length) (hx : xs.length ≤ 140737488355328) :
    Tri Try.prog 42 [sv, .int .i64 u, .int .i64 t] n 0 V (fun v L => v = .tuple #[.int .i64 (leaseA xs u t).1, .int .i64 (leaseA xs u t).2] ∧ L = []) := by
  refine reads_of_vw (K := 1) (argsI := [.slice (some ⟨0, 0, none⟩) xs.length 0, .int .i64 u, .int .i64 t]) tab Try.func42 rfl rfl (by simp [Try.f42]) [.look sv xs.length 3] [.win (addrR.cells xs) 3] rfl (.look hl (addrR.flat_cells xs) .nil) (by simp [ownNames]) (by simp [ownNames, lookNames]) (al_cons (.look (a := 0) rfl) (al_cons (.val (.int _ _)) (al_cons (.val (.int _ _)) al_nil))) (seen_of (sn_look (seen_top (j := 0) rfl) sn_nil)) (vrel_tuple (lrel_cons (.int _ _) (lrel_cons (.int _ _) lrel_nil))) ?_
  cases hc : leaseC xs u t with
  | false =>
    rw [leaseA_bad hc]
    cases hmu : (mayP xs && userOk u) with
    | false =>
      repeat' first
        | (refine vq_op tab rfl rfl rfl rfl ?_)
        | (refine vq_op tab ⟨_, _, rfl, rfl, rfl⟩ rfl rfl rfl ?_)
        | (refine vn_op tab rfl rfl rfl rfl ?_)
        | (refine vr_op rfl rfl rfl rfl rfl rfl callable_65 (refmay_tri _ (looks_win addrR rfl rfl) hx) ?_)
        | (refine vr_op ⟨_, _, rfl, rfl, rfl⟩ rfl rfl rfl rfl rfl callable_65 (refmay_tri _ (looks_win addrR rfl rfl) hx) ?_)
        | (refine vf_op rfl rfl rfl rfl rfl rfl callable_66 (reftick_fun _) ?_)
        | (refine vf_op ⟨_, _, rfl, rfl, rfl⟩ rfl rfl rfl rfl rfl callable_66 (reftick_fun _) ?_)
        | (refine vs_op tab rfl rfl rfl ?_)
        | (refine vk_op ⟨_, _, rfl, rfl, rfl⟩ rfl rfl ?_)
        | (refine vku_op rfl rfl rfl rfl rfl ?_)
        | (refine vn_op tab ⟨_, _, rfl, rfl, rfl⟩ rfl rfl rfl ?_)
        | (refine vgd_op true rfl rfl rfl (by decide) ?_)
        | (refine vgd_op false rfl rfl rfl (by decide) ?_)
        | (refine vgd_op true rfl rfl rfl (by simp only [hmu, decide_eq_true_eq, decide_eq_false_iff_not, Bool.not_eq_eq_eq_not, Bool.not_true, Bool.not_false, bne_iff_ne, bne_eq_false_iff_eq, beq_iff_eq, beq_eq_false_iff_ne, ne_eq, beq_self_eq_true, bne_self_eq_false, Bool.and_eq_true, Bool.and_eq_false_iff, Bool.or_eq_true, Bool.or_eq_false_iff, and_self, and_true, true_and, Bool.false_eq_true, Bool.true_eq_false, not_false_eq_true, not_true_eq_false]; first | done | omega) ?_)
        | (refine vgd_op false rfl rfl rfl (by simp only [hmu, decide_eq_true_eq, decide_eq_false_iff_not, Bool.not_eq_eq_eq_not, Bool.not_true, Bool.not_false, bne_iff_ne, bne_eq_false_iff_eq, beq_iff_eq, beq_eq_false_iff_ne, ne_eq, beq_self_eq_true, bne_self_eq_false, Bool.and_eq_true, Bool.and_eq_false_iff, Bool.or_eq_true, Bool.or_eq_false_iff, and_self, and_true, true_and, Bool.false_eq_true, Bool.true_eq_false, not_false_eq_true, not_true_eq_false]; first | done | omega) ?_)
        | (refine vg_op rfl rfl rfl (fun _ => ?_) (fun _ => ?_))
        | (refine v_nil ?_)
        | (refine vw_seq ?_)
        | (refine vw_region ?_)
        | (refine vw_draw mixed ?_)
        | (refine dq_op tab rfl rfl rfl rfl ?_)
        | (refine dq_op tab ⟨_, _, rfl, rfl, rfl⟩ rfl rfl rfl ?_)
        | (refine dr_op rfl rfl rfl rfl rfl callable_65 (refmay_tri _ (looks_win addrR rfl rfl) hx) ?_)
        | (refine dr_op ⟨_, _, rfl, rfl, rfl⟩ rfl rfl rfl rfl callable_65 (refmay_tri _ (looks_win addrR rfl rfl) hx) ?_)
        | (refine df_op rfl rfl rfl rfl rfl callable_66 (reftick_fun _) ?_)
        | (refine df_op ⟨_, _, rfl, rfl, rfl⟩ rfl rfl rfl rfl callable_66 (reftick_fun _) ?_)
        | (refine dn_op tab rfl rfl rfl rfl ?_)
        | (refine ds_op tab rfl rfl rfl rfl ?_)
        | (refine dk_op ⟨_, _, rfl, rfl, rfl⟩ rfl ?_)
        | (refine dku_op rfl rfl rfl rfl ?_)
        | (refine dn_op tab ⟨_, _, rfl, rfl, rfl⟩ rfl rfl rfl ?_)
        | (refine ds_op tab ⟨_, _, rfl, rfl, rfl⟩ rfl rfl rfl ?_)
        | (refine dgd_op true rfl rfl rfl (by decide) ?_)
        | (refine dgd_op false rfl rfl rfl (by decide) ?_)
        | (refine dgd_op true rfl rfl rfl (by simp only [hmu, decide_eq_true_eq, decide_eq_false_iff_not, Bool.not_eq_eq_eq_not, Bool.not_true, Bool.not_false, bne_iff_ne, bne_eq_false_iff_eq, beq_iff_eq, beq_eq_false_iff_ne, ne_eq, beq_self_eq_true, bne_self_eq_false, Bool.and_eq_true, Bool.and_eq_false_iff, Bool.or_eq_true, Bool.or_eq_false_iff, and_self, and_true, true_and, Bool.false_eq_true, Bool.true_eq_false, not_false_eq_true, not_true_eq_false]; first | done | omega) ?_)
        | (refine dgd_op false rfl rfl rfl (by simp only [hmu, decide_eq_true_eq, decide_eq_false_iff_not, Bool.not_eq_eq_eq_not, Bool.not_true, Bool.not_false, bne_iff_ne, bne_eq_false_iff_eq, beq_iff_eq, beq_eq_false_iff_ne, ne_eq, beq_self_eq_true, bne_self_eq_false, Bool.and_eq_true, Bool.and_eq_false_iff, Bool.or_eq_true, Bool.or_eq_false_iff, and_self, and_true, true_and, Bool.false_eq_true, Bool.true_eq_false, not_false_eq_true, not_true_eq_false]; first | done | omega) ?_)
        | (refine dg_op rfl rfl rfl (fun _ => ?_) (fun _ => ?_))
        | (refine vd_nil (by kernel_rfl) ?_)
        | (refine vc_true rfl ?_)
        | (refine vc_false rfl ?_)
        | (refine vcd_true rfl (by decide) ?_)
        | (refine vcd_false rfl (by decide) ?_)
        | (refine vcd_true rfl (by simp only [hmu, decide_eq_true_eq, decide_eq_false_iff_not, Bool.not_eq_eq_eq_not, Bool.not_true, Bool.not_false, bne_iff_ne, bne_eq_false_iff_eq, beq_iff_eq, beq_eq_false_iff_ne, ne_eq, beq_self_eq_true, bne_self_eq_false, Bool.and_eq_true, Bool.and_eq_false_iff, Bool.or_eq_true, Bool.or_eq_false_iff, and_self, and_true, true_and, Bool.false_eq_true, Bool.true_eq_false, not_false_eq_true, not_true_eq_false]; first | done | omega) ?_)
        | (refine vcd_false rfl (by simp only [hmu, decide_eq_true_eq, decide_eq_false_iff_not, Bool.not_eq_eq_eq_not, Bool.not_true, Bool.not_false, bne_iff_ne, bne_eq_false_iff_eq, beq_iff_eq, beq_eq_false_iff_ne, ne_eq, beq_self_eq_true, bne_self_eq_false, Bool.and_eq_true, Bool.and_eq_false_iff, Bool.or_eq_true, Bool.or_eq_false_iff, and_self, and_true, true_and, Bool.false_eq_true, Bool.true_eq_false, not_false_eq_true, not_true_eq_false]; first | done | omega) ?_)
        | (refine vc_part rfl (fun _ => ?_) (fun _ => ?_))
        | (refine vw_block ?_)
        | (refine q_then ?_)
        | (refine q_norm ?_)
        | (refine q_here ?_)
        | (refine q_out rfl ?_)
        | (refine q_thenx ?_)
        | (refine q_thenr ?_)
        | (refine q_ret ?_)
        | (refine rd_step ?_)
        | (refine vcc_false ?_)
        | (refine vcc_true ?_)
        | (refine vw_skip ?_)
        | (refine vw_exit ?_)
        | (refine vw_ret ?_)
      exact ⟨⟨.inr rfl, rfl⟩, trivial⟩
    | true =>
      have ht : (decide (0 ≤ t) && decide (t ≤ 1048575)) = false := by unfold leaseC at hc; rw [hmu] at hc; simpa using hc
      repeat' first
        | (refine vq_op tab rfl rfl rfl rfl ?_)
        | (refine vq_op tab ⟨_, _, rfl, rfl, rfl⟩ rfl rfl rfl ?_)
        | (refine vn_op tab rfl rfl rfl rfl ?_)
        | (refine vr_op rfl rfl rfl rfl rfl rfl callable_65 (refmay_tri _ (looks_win addrR rfl rfl) hx) ?_)
        | (refine vr_op ⟨_, _, rfl, rfl, rfl⟩ rfl rfl rfl rfl rfl callable_65 (refmay_tri _ (looks_win addrR rfl rfl) hx) ?_)
        | (refine vf_op rfl rfl rfl rfl rfl rfl callable_66 (reftick_fun _) ?_)
        | (refine vf_op ⟨_, _, rfl, rfl, rfl⟩ rfl rfl rfl rfl rfl callable_66 (reftick_fun _) ?_)
        | (refine vs_op tab rfl rfl rfl ?_)
        | (refine vk_op ⟨_, _, rfl, rfl, rfl⟩ rfl rfl ?_)
        | (refine vku_op rfl rfl rfl rfl rfl ?_)
        | (refine vn_op tab ⟨_, _, rfl, rfl, rfl⟩ rfl rfl rfl ?_)
        | (refine vgd_op true rfl rfl rfl (by decide) ?_)
        | (refine vgd_op false rfl rfl rfl (by decide) ?_)
        | (refine vgd_op true rfl rfl rfl (by simp only [hmu, ht, decide_eq_true_eq, decide_eq_false_iff_not, Bool.not_eq_eq_eq_not, Bool.not_true, Bool.not_false, bne_iff_ne, bne_eq_false_iff_eq, beq_iff_eq, beq_eq_false_iff_ne, ne_eq, beq_self_eq_true, bne_self_eq_false, Bool.and_eq_true, Bool.and_eq_false_iff, Bool.or_eq_true, Bool.or_eq_false_iff, and_self, and_true, true_and, Bool.false_eq_true, Bool.true_eq_false, not_false_eq_true, not_true_eq_false]; first | done | omega) ?_)
        | (refine vgd_op false rfl rfl rfl (by simp only [hmu, ht, decide_eq_true_eq, decide_eq_false_iff_not, Bool.not_eq_eq_eq_not, Bool.not_true, Bool.not_false, bne_iff_ne, bne_eq_false_iff_eq, beq_iff_eq, beq_eq_false_iff_ne, ne_eq, beq_self_eq_true, bne_self_eq_false, Bool.and_eq_true, Bool.and_eq_false_iff, Bool.or_eq_true, Bool.or_eq_false_iff, and_self, and_true, true_and, Bool.false_eq_true, Bool.true_eq_false, not_false_eq_true, not_true_eq_false]; first | done | omega) ?_)
        | (refine vg_op rfl rfl rfl (fun _ => ?_) (fun _ => ?_))
        | (refine v_nil ?_)
        | (refine vw_seq ?_)
        | (refine vw_region ?_)
        | (refine vw_draw mixed ?_)
        | (refine dq_op tab rfl rfl rfl rfl ?_)
        | (refine dq_op tab ⟨_, _, rfl, rfl, rfl⟩ rfl rfl rfl ?_)
        | (refine dr_op rfl rfl rfl rfl rfl callable_65 (refmay_tri _ (looks_win addrR rfl rfl) hx) ?_)
        | (refine dr_op ⟨_, _, rfl, rfl, rfl⟩ rfl rfl rfl rfl callable_65 (refmay_tri _ (looks_win addrR rfl rfl) hx) ?_)
        | (refine df_op rfl rfl rfl rfl rfl callable_66 (reftick_fun _) ?_)
        | (refine df_op ⟨_, _, rfl, rfl, rfl⟩ rfl rfl rfl rfl callable_66 (reftick_fun _) ?_)
        | (refine dn_op tab rfl rfl rfl rfl ?_)
        | (refine ds_op tab rfl rfl rfl rfl ?_)
        | (refine dk_op ⟨_, _, rfl, rfl, rfl⟩ rfl ?_)
        | (refine dku_op rfl rfl rfl rfl ?_)
        | (refine dn_op tab ⟨_, _, rfl, rfl, rfl⟩ rfl rfl rfl ?_)
        | (refine ds_op tab ⟨_, _, rfl, rfl, rfl⟩ rfl rfl rfl ?_)
        | (refine dgd_op true rfl rfl rfl (by decide) ?_)
        | (refine dgd_op false rfl rfl rfl (by decide) ?_)
        | (refine dgd_op true rfl rfl rfl (by simp only [hmu, ht, decide_eq_true_eq, decide_eq_false_iff_not, Bool.not_eq_eq_eq_not, Bool.not_true, Bool.not_false, bne_iff_ne, bne_eq_false_iff_eq, beq_iff_eq, beq_eq_false_iff_ne, ne_eq, beq_self_eq_true, bne_self_eq_false, Bool.and_eq_true, Bool.and_eq_false_iff, Bool.or_eq_true, Bool.or_eq_false_iff, and_self, and_true, true_and, Bool.false_eq_true, Bool.true_eq_false, not_false_eq_true, not_true_eq_false]; first | done | omega) ?_)
        | (refine dgd_op false rfl rfl rfl (by simp only [hmu, ht, decide_eq_true_eq, decide_eq_false_iff_not, Bool.not_eq_eq_eq_not, Bool.not_true, Bool.not_false, bne_iff_ne, bne_eq_false_iff_eq, beq_iff_eq, beq_eq_false_iff_ne, ne_eq, beq_self_eq_true, bne_self_eq_false, Bool.and_eq_true, Bool.and_eq_false_iff, Bool.or_eq_true, Bool.or_eq_false_iff, and_self, and_true, true_and, Bool.false_eq_true, Bool.true_eq_false, not_false_eq_true, not_true_eq_false]; first | done | omega) ?_)
        | (refine dg_op rfl rfl rfl (fun _ => ?_) (fun _ => ?_))
        | (refine vd_nil (by kernel_rfl) ?_)
        | (refine vc_true rfl ?_)
        | (refine vc_false rfl ?_)
        | (refine vcd_true rfl (by decide) ?_)
        | (refine vcd_false rfl (by decide) ?_)
        | (refine vcd_true rfl (by simp only [hmu, ht, decide_eq_true_eq, decide_eq_false_iff_not, Bool.not_eq_eq_eq_not, Bool.not_true, Bool.not_false, bne_iff_ne, bne_eq_false_iff_eq, beq_iff_eq, beq_eq_false_iff_ne, ne_eq, beq_self_eq_true, bne_self_eq_false, Bool.and_eq_true, Bool.and_eq_false_iff, Bool.or_eq_true, Bool.or_eq_false_iff, and_self, and_true, true_and, Bool.false_eq_true, Bool.true_eq_false, not_false_eq_true, not_true_eq_false]; first | done | omega) ?_)
        | (refine vcd_false rfl (by simp only [hmu, ht, decide_eq_true_eq, decide_eq_false_iff_not, Bool.not_eq_eq_eq_not, Bool.not_true, Bool.not_false, bne_iff_ne, bne_eq_false_iff_eq, beq_iff_eq, beq_eq_false_iff_ne, ne_eq, beq_self_eq_true, bne_self_eq_false, Bool.and_eq_true, Bool.and_eq_false_iff, Bool.or_eq_true, Bool.or_eq_false_iff, and_self, and_true, true_and, Bool.false_eq_true, Bool.true_eq_false, not_false_eq_true, not_true_eq_false]; first | done | omega) ?_)
        | (refine vc_part rfl (fun _ => ?_) (fun _ => ?_))
        | (refine vw_block ?_)
        | (refine q_then ?_)
        | (refine q_norm ?_)
        | (refine q_here ?_)
        | (refine q_out rfl ?_)
        | (refine q_thenx ?_)
        | (refine q_thenr ?_)
        | (refine q_ret ?_)
        | (refine rd_step ?_)
        | (refine vcc_false ?_)
        | (refine vcc_true ?_)
        | (refine vw_skip ?_)
        | (refine vw_exit ?_)
        | (refine vw_ret ?_)
      exact ⟨⟨.inr rfl, rfl⟩, trivial⟩
  | true =>
    rw [leaseA_ok hc]
    have hmu : (mayP xs && userOk u) = true := by simp_all [leaseC]
    have ht : (decide (0 ≤ t) && decide (t ≤ 1048575)) = true := by simp_all [leaseC]
    repeat' first
      | (refine vq_op tab rfl rfl rfl rfl ?_)
      | (refine vq_op tab ⟨_, _, rfl, rfl, rfl⟩ rfl rfl rfl ?_)
      | (refine vn_op tab rfl rfl rfl rfl ?_)
      | (refine vr_op rfl rfl rfl rfl rfl rfl callable_65 (refmay_tri _ (looks_win addrR rfl rfl) hx) ?_)
      | (refine vr_op ⟨_, _, rfl, rfl, rfl⟩ rfl rfl rfl rfl rfl callable_65 (refmay_tri _ (looks_win addrR rfl rfl) hx) ?_)
      | (refine vf_op rfl rfl rfl rfl rfl rfl callable_66 (reftick_fun _) ?_)
      | (refine vf_op ⟨_, _, rfl, rfl, rfl⟩ rfl rfl rfl rfl rfl callable_66 (reftick_fun _) ?_)
      | (refine vs_op tab rfl rfl rfl ?_)
      | (refine vk_op ⟨_, _, rfl, rfl, rfl⟩ rfl rfl ?_)
      | (refine vku_op rfl rfl rfl rfl rfl ?_)
      | (refine vn_op tab ⟨_, _, rfl, rfl, rfl⟩ rfl rfl rfl ?_)
      | (refine vgd_op true rfl rfl rfl (by decide) ?_)
      | (refine vgd_op false rfl rfl rfl (by decide) ?_)
      | (refine vgd_op true rfl rfl rfl (by simp only [hmu, ht, decide_eq_true_eq, decide_eq_false_iff_not, Bool.not_eq_eq_eq_not, Bool.not_true, Bool.not_false, bne_iff_ne, bne_eq_false_iff_eq, beq_iff_eq, beq_eq_false_iff_ne, ne_eq, beq_self_eq_true, bne_self_eq_false, Bool.and_eq_true, Bool.and_eq_false_iff, Bool.or_eq_true, Bool.or_eq_false_iff, and_self, and_true, true_and, Bool.false_eq_true, Bool.true_eq_false, not_false_eq_true, not_true_eq_false]; first | done | omega) ?_)
      | (refine vgd_op false rfl rfl rfl (by simp only [hmu, ht, decide_eq_true_eq, decide_eq_false_iff_not, Bool.not_eq_eq_eq_not, Bool.not_true, Bool.not_false, bne_iff_ne, bne_eq_false_iff_eq, beq_iff_eq, beq_eq_false_iff_ne, ne_eq, beq_self_eq_true, bne_self_eq_false, Bool.and_eq_true, Bool.and_eq_false_iff, Bool.or_eq_true, Bool.or_eq_false_iff, and_self, and_true, true_and, Bool.false_eq_true, Bool.true_eq_false, not_false_eq_true, not_true_eq_false]; first | done | omega) ?_)
      | (refine vg_op rfl rfl rfl (fun _ => ?_) (fun _ => ?_))
      | (refine v_nil ?_)
      | (refine vw_seq ?_)
      | (refine vw_region ?_)
      | (refine vw_draw mixed ?_)
      | (refine dq_op tab rfl rfl rfl rfl ?_)
      | (refine dq_op tab ⟨_, _, rfl, rfl, rfl⟩ rfl rfl rfl ?_)
      | (refine dr_op rfl rfl rfl rfl rfl callable_65 (refmay_tri _ (looks_win addrR rfl rfl) hx) ?_)
      | (refine dr_op ⟨_, _, rfl, rfl, rfl⟩ rfl rfl rfl rfl callable_65 (refmay_tri _ (looks_win addrR rfl rfl) hx) ?_)
      | (refine df_op rfl rfl rfl rfl rfl callable_66 (reftick_fun _) ?_)
      | (refine df_op ⟨_, _, rfl, rfl, rfl⟩ rfl rfl rfl rfl callable_66 (reftick_fun _) ?_)
      | (refine dn_op tab rfl rfl rfl rfl ?_)
      | (refine ds_op tab rfl rfl rfl rfl ?_)
      | (refine dk_op ⟨_, _, rfl, rfl, rfl⟩ rfl ?_)
      | (refine dku_op rfl rfl rfl rfl ?_)
      | (refine dn_op tab ⟨_, _, rfl, rfl, rfl⟩ rfl rfl rfl ?_)
      | (refine ds_op tab ⟨_, _, rfl, rfl, rfl⟩ rfl rfl rfl ?_)
      | (refine dgd_op true rfl rfl rfl (by decide) ?_)
      | (refine dgd_op false rfl rfl rfl (by decide) ?_)
      | (refine dgd_op true rfl rfl rfl (by simp only [hmu, ht, decide_eq_true_eq, decide_eq_false_iff_not, Bool.not_eq_eq_eq_not, Bool.not_true, Bool.not_false, bne_iff_ne, bne_eq_false_iff_eq, beq_iff_eq, beq_eq_false_iff_ne, ne_eq, beq_self_eq_true, bne_self_eq_false, Bool.and_eq_true, Bool.and_eq_false_iff, Bool.or_eq_true, Bool.or_eq_false_iff, and_self, and_true, true_and, Bool.false_eq_true, Bool.true_eq_false, not_false_eq_true, not_true_eq_false]; first | done | omega) ?_)
      | (refine dgd_op false rfl rfl rfl (by simp only [hmu, ht, decide_eq_true_eq, decide_eq_false_iff_not, Bool.not_eq_eq_eq_not, Bool.not_true, Bool.not_false, bne_iff_ne, bne_eq_false_iff_eq, beq_iff_eq, beq_eq_false_iff_ne, ne_eq, beq_self_eq_true, bne_self_eq_false, Bool.and_eq_true, Bool.and_eq_false_iff, Bool.or_eq_true, Bool.or_eq_false_iff, and_self, and_true, true_and, Bool.false_eq_true, Bool.true_eq_false, not_false_eq_true, not_true_eq_false]; first | done | omega) ?_)
      | (refine dg_op rfl rfl rfl (fun _ => ?_) (fun _ => ?_))
      | (refine vd_nil (by kernel_rfl) ?_)
      | (refine vc_true rfl ?_)
      | (refine vc_false rfl ?_)
      | (refine vcd_true rfl (by decide) ?_)
      | (refine vcd_false rfl (by decide) ?_)
      | (refine vcd_true rfl (by simp only [hmu, ht, decide_eq_true_eq, decide_eq_false_iff_not, Bool.not_eq_eq_eq_not, Bool.not_true, Bool.not_false, bne_iff_ne, bne_eq_false_iff_eq, beq_iff_eq, beq_eq_false_iff_ne, ne_eq, beq_self_eq_true, bne_self_eq_false, Bool.and_eq_true, Bool.and_eq_false_iff, Bool.or_eq_true, Bool.or_eq_false_iff, and_self, and_true, true_and, Bool.false_eq_true, Bool.true_eq_false, not_false_eq_true, not_true_eq_false]; first | done | omega) ?_)
      | (refine vcd_false rfl (by simp only [hmu, ht, decide_eq_true_eq, decide_eq_false_iff_not, Bool.not_eq_eq_eq_not, Bool.not_true, Bool.not_false, bne_iff_ne, bne_eq_false_iff_eq, beq_iff_eq, beq_eq_false_iff_ne, ne_eq, beq_self_eq_true, bne_self_eq_false, Bool.and_eq_true, Bool.and_eq_false_iff, Bool.or_eq_true, Bool.or_eq_false_iff, and_self, and_true, true_and, Bool.false_eq_true, Bool.true_eq_false, not_false_eq_true, not_true_eq_false]; first | done | omega) ?_)
      | (refine vc_part rfl (fun _ => ?_) (fun _ => ?_))
      | (refine vw_block ?_)
      | (refine q_then ?_)
      | (refine q_norm ?_)
      | (refine q_here ?_)
      | (refine q_out rfl ?_)
      | (refine q_thenx ?_)
      | (refine q_thenr ?_)
      | (refine q_ret ?_)
      | (refine rd_step ?_)
      | (refine vcc_false ?_)
      | (refine vcc_true ?_)
      | (refine vw_skip ?_)
      | (refine vw_exit ?_)
      | (refine vw_ret ?_)
    refine vw_loop_env (fun k env => ∃ j b r : Int, 0 ≤ j ∧ j ≤ xs.length ∧ scan u t (xs.drop j.toNat) j (b, r) = scan u t xs 0 (-1, 3) ∧ k = (xs.length - j).toNat ∧
        env = [(0, .slice (some ⟨0, 0, none⟩) xs.length 0), (1, .int .i64 u), (2, .int .i64 t), (8, .int .i64 b), (9, .int .i64 r), (10, .int .i64 j)]) (xs.length - 0)
      ⟨_, se_cons rfl (se_cons rfl (se_cons rfl (se_cons rfl (se_cons rfl (se_cons rfl se_nil))))), 0, -1, 3, by omega, by omega, rfl, by simp, rfl⟩ ?_
    rintro k env ⟨j, b, r, h0, h1, hs, rfl, rfl⟩
    by_cases hj : j < (xs.length : Int)
    case neg =>
      rw [List.drop_of_length_le (by omega)] at hs
      rw [← scan_lease, ← hs]
      by_cases hb : b < 0
      · repeat' first
          | (refine vq_op tab rfl rfl rfl rfl ?_)
          | (refine vq_op tab ⟨_, _, rfl, rfl, rfl⟩ rfl rfl rfl ?_)
          | (refine vn_op tab rfl rfl rfl rfl ?_)
          | (refine vs_op tab rfl rfl rfl ?_)
          | (refine vk_op ⟨_, _, rfl, rfl, rfl⟩ rfl rfl ?_)
          | (refine vku_op rfl rfl rfl rfl rfl ?_)
          | (refine vn_op tab ⟨_, _, rfl, rfl, rfl⟩ rfl rfl rfl ?_)
          | (refine vgd_op true rfl rfl rfl (by decide) ?_)
          | (refine vgd_op false rfl rfl rfl (by decide) ?_)
          | (refine vgd_op true rfl rfl rfl (by simp only [decide_eq_true_eq, decide_eq_false_iff_not, Bool.not_eq_eq_eq_not, Bool.not_true, Bool.not_false, bne_iff_ne, bne_eq_false_iff_eq, beq_iff_eq, beq_eq_false_iff_ne, ne_eq, beq_self_eq_true, bne_self_eq_false, Bool.and_eq_true, Bool.and_eq_false_iff, Bool.or_eq_true, Bool.or_eq_false_iff, and_self, and_true, true_and, Bool.false_eq_true, Bool.true_eq_false, not_false_eq_true, not_true_eq_false]; first | done | omega) ?_)
          | (refine vgd_op false rfl rfl rfl (by simp only [decide_eq_true_eq, decide_eq_false_iff_not, Bool.not_eq_eq_eq_not, Bool.not_true, Bool.not_false, bne_iff_ne, bne_eq_false_iff_eq, beq_iff_eq, beq_eq_false_iff_ne, ne_eq, beq_self_eq_true, bne_self_eq_false, Bool.and_eq_true, Bool.and_eq_false_iff, Bool.or_eq_true, Bool.or_eq_false_iff, and_self, and_true, true_and, Bool.false_eq_true, Bool.true_eq_false, not_false_eq_true, not_true_eq_false]; first | done | omega) ?_)
          | (refine vg_op rfl rfl rfl (fun _ => ?_) (fun _ => ?_))
          | (refine v_nil ?_)
          | (refine vw_seq ?_)
          | (refine vw_region ?_)
          | (refine vw_draw mixed ?_)
          | (refine dq_op tab rfl rfl rfl rfl ?_)
          | (refine dq_op tab ⟨_, _, rfl, rfl, rfl⟩ rfl rfl rfl ?_)
          | (refine dn_op tab rfl rfl rfl rfl ?_)
          | (refine ds_op tab rfl rfl rfl rfl ?_)
          | (refine dk_op ⟨_, _, rfl, rfl, rfl⟩ rfl ?_)
          | (refine dku_op rfl rfl rfl rfl ?_)
          | (refine dn_op tab ⟨_, _, rfl, rfl, rfl⟩ rfl rfl rfl ?_)
          | (refine ds_op tab ⟨_, _, rfl, rfl, rfl⟩ rfl rfl rfl ?_)
          | (refine dgd_op true rfl rfl rfl (by decide) ?_)
          | (refine dgd_op false rfl rfl rfl (by decide) ?_)
          | (refine dgd_op true rfl rfl rfl (by simp only [decide_eq_true_eq, decide_eq_false_iff_not, Bool.not_eq_eq_eq_not, Bool.not_true, Bool.not_false, bne_iff_ne, bne_eq_false_iff_eq, beq_iff_eq, beq_eq_false_iff_ne, ne_eq, beq_self_eq_true, bne_self_eq_false, Bool.and_eq_true, Bool.and_eq_false_iff, Bool.or_eq_true, Bool.or_eq_false_iff, and_self, and_true, true_and, Bool.false_eq_true, Bool.true_eq_false, not_false_eq_true, not_true_eq_false]; first | done | omega) ?_)
          | (refine dgd_op false rfl rfl rfl (by simp only [decide_eq_true_eq, decide_eq_false_iff_not, Bool.not_eq_eq_eq_not, Bool.not_true, Bool.not_false, bne_iff_ne, bne_eq_false_iff_eq, beq_iff_eq, beq_eq_false_iff_ne, ne_eq, beq_self_eq_true, bne_self_eq_false, Bool.and_eq_true, Bool.and_eq_false_iff, Bool.or_eq_true, Bool.or_eq_false_iff, and_self, and_true, true_and, Bool.false_eq_true, Bool.true_eq_false, not_false_eq_true, not_true_eq_false]; first | done | omega) ?_)
          | (refine dg_op rfl rfl rfl (fun _ => ?_) (fun _ => ?_))
          | (refine vd_nil (by kernel_rfl) ?_)
          | (refine vc_true rfl ?_)
          | (refine vc_false rfl ?_)
          | (refine vcd_true rfl (by decide) ?_)
          | (refine vcd_false rfl (by decide) ?_)
          | (refine vcd_true rfl (by simp only [decide_eq_true_eq, decide_eq_false_iff_not, Bool.not_eq_eq_eq_not, Bool.not_true, Bool.not_false, bne_iff_ne, bne_eq_false_iff_eq, beq_iff_eq, beq_eq_false_iff_ne, ne_eq, beq_self_eq_true, bne_self_eq_false, Bool.and_eq_true, Bool.and_eq_false_iff, Bool.or_eq_true, Bool.or_eq_false_iff, and_self, and_true, true_and, Bool.false_eq_true, Bool.true_eq_false, not_false_eq_true, not_true_eq_false]; first | done | omega) ?_)
          | (refine vcd_false rfl (by simp only [decide_eq_true_eq, decide_eq_false_iff_not, Bool.not_eq_eq_eq_not, Bool.not_true, Bool.not_false, bne_iff_ne, bne_eq_false_iff_eq, beq_iff_eq, beq_eq_false_iff_ne, ne_eq, beq_self_eq_true, bne_self_eq_false, Bool.and_eq_true, Bool.and_eq_false_iff, Bool.or_eq_true, Bool.or_eq_false_iff, and_self, and_true, true_and, Bool.false_eq_true, Bool.true_eq_false, not_false_eq_true, not_true_eq_false]; first | done | omega) ?_)
          | (refine vc_part rfl (fun _ => ?_) (fun _ => ?_))
          | (refine vw_block ?_)
          | (refine q_then ?_)
          | (refine q_norm ?_)
          | (refine q_here ?_)
          | (refine q_out rfl ?_)
          | (refine q_thenx ?_)
          | (refine q_thenr ?_)
          | (refine q_ret ?_)
          | (refine rd_step ?_)
          | (refine vcc_false ?_)
          | (refine vcc_true ?_)
          | (refine vw_skip ?_)
          | (refine vw_exit ?_)
          | (refine vw_ret ?_)
        exact ⟨⟨.inr rfl, by rw [if_pos (show (scan u t [] j (b, r)).1 < 0 from hb)]; rfl⟩, trivial⟩
      · repeat' first
          | (refine vq_op tab rfl rfl rfl rfl ?_)
          | (refine vq_op tab ⟨_, _, rfl, rfl, rfl⟩ rfl rfl rfl ?_)
          | (refine vn_op tab rfl rfl rfl rfl ?_)
          | (refine vs_op tab rfl rfl rfl ?_)
          | (refine vk_op ⟨_, _, rfl, rfl, rfl⟩ rfl rfl ?_)
          | (refine vku_op rfl rfl rfl rfl rfl ?_)
          | (refine vn_op tab ⟨_, _, rfl, rfl, rfl⟩ rfl rfl rfl ?_)
          | (refine vgd_op true rfl rfl rfl (by decide) ?_)
          | (refine vgd_op false rfl rfl rfl (by decide) ?_)
          | (refine vgd_op true rfl rfl rfl (by simp only [decide_eq_true_eq, decide_eq_false_iff_not, Bool.not_eq_eq_eq_not, Bool.not_true, Bool.not_false, bne_iff_ne, bne_eq_false_iff_eq, beq_iff_eq, beq_eq_false_iff_ne, ne_eq, beq_self_eq_true, bne_self_eq_false, Bool.and_eq_true, Bool.and_eq_false_iff, Bool.or_eq_true, Bool.or_eq_false_iff, and_self, and_true, true_and, Bool.false_eq_true, Bool.true_eq_false, not_false_eq_true, not_true_eq_false]; first | done | omega) ?_)
          | (refine vgd_op false rfl rfl rfl (by simp only [decide_eq_true_eq, decide_eq_false_iff_not, Bool.not_eq_eq_eq_not, Bool.not_true, Bool.not_false, bne_iff_ne, bne_eq_false_iff_eq, beq_iff_eq, beq_eq_false_iff_ne, ne_eq, beq_self_eq_true, bne_self_eq_false, Bool.and_eq_true, Bool.and_eq_false_iff, Bool.or_eq_true, Bool.or_eq_false_iff, and_self, and_true, true_and, Bool.false_eq_true, Bool.true_eq_false, not_false_eq_true, not_true_eq_false]; first | done | omega) ?_)
          | (refine vg_op rfl rfl rfl (fun _ => ?_) (fun _ => ?_))
          | (refine v_nil ?_)
          | (refine vw_seq ?_)
          | (refine vw_region ?_)
          | (refine vw_draw mixed ?_)
          | (refine dq_op tab rfl rfl rfl rfl ?_)
          | (refine dq_op tab ⟨_, _, rfl, rfl, rfl⟩ rfl rfl rfl ?_)
          | (refine dn_op tab rfl rfl rfl rfl ?_)
          | (refine ds_op tab rfl rfl rfl rfl ?_)
          | (refine dk_op ⟨_, _, rfl, rfl, rfl⟩ rfl ?_)
          | (refine dku_op rfl rfl rfl rfl ?_)
          | (refine dn_op tab ⟨_, _, rfl, rfl, rfl⟩ rfl rfl rfl ?_)
          | (refine ds_op tab ⟨_, _, rfl, rfl, rfl⟩ rfl rfl rfl ?_)
          | (refine dgd_op true rfl rfl rfl (by decide) ?_)
          | (refine dgd_op false rfl rfl rfl (by decide) ?_)
          | (refine dgd_op true rfl rfl rfl (by simp only [decide_eq_true_eq, decide_eq_false_iff_not, Bool.not_eq_eq_eq_not, Bool.not_true, Bool.not_false, bne_iff_ne, bne_eq_false_iff_eq, beq_iff_eq, beq_eq_false_iff_ne, ne_eq, beq_self_eq_true, bne_self_eq_false, Bool.and_eq_true, Bool.and_eq_false_iff, Bool.or_eq_true, Bool.or_eq_false_iff, and_self, and_true, true_and, Bool.false_eq_true, Bool.true_eq_false, not_false_eq_true, not_true_eq_false]; first | done | omega) ?_)
          | (refine dgd_op false rfl rfl rfl (by simp only [decide_eq_true_eq, decide_eq_false_iff_not, Bool.not_eq_eq_eq_not, Bool.not_true, Bool.not_false, bne_iff_ne, bne_eq_false_iff_eq, beq_iff_eq, beq_eq_false_iff_ne, ne_eq, beq_self_eq_true, bne_self_eq_false, Bool.and_eq_true, Bool.and_eq_false_iff, Bool.or_eq_true, Bool.or_eq_false_iff, and_self, and_true, true_and, Bool.false_eq_true, Bool.true_eq_false, not_false_eq_true, not_true_eq_false]; first | done | omega) ?_)
          | (refine dg_op rfl rfl rfl (fun _ => ?_) (fun _ => ?_))
          | (refine vd_nil (by kernel_rfl) ?_)
          | (refine vc_true rfl ?_)
          | (refine vc_false rfl ?_)
          | (refine vcd_true rfl (by decide) ?_)
          | (refine vcd_false rfl (by decide) ?_)
          | (refine vcd_true rfl (by simp only [decide_eq_true_eq, decide_eq_false_iff_not, Bool.not_eq_eq_eq_not, Bool.not_true, Bool.not_false, bne_iff_ne, bne_eq_false_iff_eq, beq_iff_eq, beq_eq_false_iff_ne, ne_eq, beq_self_eq_true, bne_self_eq_false, Bool.and_eq_true, Bool.and_eq_false_iff, Bool.or_eq_true, Bool.or_eq_false_iff, and_self, and_true, true_and, Bool.false_eq_true, Bool.true_eq_false, not_false_eq_true, not_true_eq_false]; first | done | omega) ?_)
          | (refine vcd_false rfl (by simp only [decide_eq_true_eq, decide_eq_false_iff_not, Bool.not_eq_eq_eq_not, Bool.not_true, Bool.not_false, bne_iff_ne, bne_eq_false_iff_eq, beq_iff_eq, beq_eq_false_iff_ne, ne_eq, beq_self_eq_true, bne_self_eq_false, Bool.and_eq_true, Bool.and_eq_false_iff, Bool.or_eq_true, Bool.or_eq_false_iff, and_self, and_true, true_and, Bool.false_eq_true, Bool.true_eq_false, not_false_eq_true, not_true_eq_false]; first | done | omega) ?_)
          | (refine vc_part rfl (fun _ => ?_) (fun _ => ?_))
          | (refine vw_block ?_)
          | (refine q_then ?_)
          | (refine q_norm ?_)
          | (refine q_here ?_)
          | (refine q_out rfl ?_)
          | (refine q_thenx ?_)
          | (refine q_thenr ?_)
          | (refine q_ret ?_)
          | (refine rd_step ?_)
          | (refine vcc_false ?_)
          | (refine vcc_true ?_)
          | (refine vw_skip ?_)
          | (refine vw_exit ?_)
          | (refine vw_ret ?_)
        exact ⟨⟨.inr rfl, by rw [if_neg (show ¬ (scan u t [] j (b, r)).1 < 0 from hb)]; rfl⟩, trivial⟩
    obtain ⟨a, ha⟩ := get_some h0 hj
    have hi : IntKind.i64.wrap (j + 1) = j + 1 := i64_in _ (by omega)
    rw [scan_step h0 ha] at hs
    cases hbz : a.busy with
    | true =>
      rw [if_neg (by simp [freeB, hbz])] at hs
      repeat' first
        | (refine vq_op tab rfl rfl rfl rfl ?_)
        | (refine vq_op tab ⟨_, _, rfl, rfl, rfl⟩ rfl rfl rfl ?_)
        | (refine vn_op tab rfl rfl rfl rfl ?_)
        | (refine vq_op tab rfl rfl rfl (ev_index rfl rfl rfl rfl rfl (by omega) (by omega)) ?_)
        | (refine vq_op tab ⟨_, _, rfl, rfl, rfl⟩ rfl rfl (ev_index rfl rfl rfl rfl rfl (by omega) (by omega)) ?_)
        | (refine vq_op tab rfl rfl rfl (ev_loadcell addrR rfl rfl rfl rfl rfl ha rfl) ?_)
        | (refine vq_op tab ⟨_, _, rfl, rfl, rfl⟩ rfl rfl (ev_loadcell addrR rfl rfl rfl rfl rfl ha rfl) ?_)
        | (refine vs_op tab rfl rfl rfl ?_)
        | (refine vk_op ⟨_, _, rfl, rfl, rfl⟩ rfl rfl ?_)
        | (refine vku_op rfl rfl rfl rfl rfl ?_)
        | (refine vn_op tab ⟨_, _, rfl, rfl, rfl⟩ rfl rfl rfl ?_)
        | (refine vgd_op true rfl rfl rfl (by decide) ?_)
        | (refine vgd_op false rfl rfl rfl (by decide) ?_)
        | (refine vgd_op true rfl rfl rfl (by simp only [hi, hbz, decide_eq_true_eq, decide_eq_false_iff_not, Bool.not_eq_eq_eq_not, Bool.not_true, Bool.not_false, bne_iff_ne, bne_eq_false_iff_eq, beq_iff_eq, beq_eq_false_iff_ne, ne_eq, beq_self_eq_true, bne_self_eq_false, Bool.and_eq_true, Bool.and_eq_false_iff, Bool.or_eq_true, Bool.or_eq_false_iff, and_self, and_true, true_and, Bool.false_eq_true, Bool.true_eq_false, not_false_eq_true, not_true_eq_false]; first | done | omega) ?_)
        | (refine vgd_op false rfl rfl rfl (by simp only [hi, hbz, decide_eq_true_eq, decide_eq_false_iff_not, Bool.not_eq_eq_eq_not, Bool.not_true, Bool.not_false, bne_iff_ne, bne_eq_false_iff_eq, beq_iff_eq, beq_eq_false_iff_ne, ne_eq, beq_self_eq_true, bne_self_eq_false, Bool.and_eq_true, Bool.and_eq_false_iff, Bool.or_eq_true, Bool.or_eq_false_iff, and_self, and_true, true_and, Bool.false_eq_true, Bool.true_eq_false, not_false_eq_true, not_true_eq_false]; first | done | omega) ?_)
        | (refine vg_op rfl rfl rfl (fun _ => ?_) (fun _ => ?_))
        | (refine v_nil ?_)
        | (refine vw_seq ?_)
        | (refine vw_region ?_)
        | (refine vw_draw mixed ?_)
        | (refine dq_op tab rfl rfl rfl rfl ?_)
        | (refine dq_op tab ⟨_, _, rfl, rfl, rfl⟩ rfl rfl rfl ?_)
        | (refine dq_op tab rfl rfl (ev_index rfl rfl rfl rfl rfl (by omega) (by omega)) (ev_index rfl rfl rfl rfl rfl (by omega) (by omega)) ?_)
        | (refine dq_op tab ⟨_, _, rfl, rfl, rfl⟩ rfl (ev_index rfl rfl rfl rfl rfl (by omega) (by omega)) (ev_index rfl rfl rfl rfl rfl (by omega) (by omega)) ?_)
        | (refine dq_op tab rfl rfl (ev_loadcell addrR rfl rfl rfl rfl rfl ha rfl) (ev_loadcell addrR rfl rfl rfl rfl rfl ha rfl) ?_)
        | (refine dq_op tab ⟨_, _, rfl, rfl, rfl⟩ rfl (ev_loadcell addrR rfl rfl rfl rfl rfl ha rfl) (ev_loadcell addrR rfl rfl rfl rfl rfl ha rfl) ?_)
        | (refine dn_op tab rfl rfl rfl rfl ?_)
        | (refine ds_op tab rfl rfl rfl rfl ?_)
        | (refine dk_op ⟨_, _, rfl, rfl, rfl⟩ rfl ?_)
        | (refine dku_op rfl rfl rfl rfl ?_)
        | (refine dn_op tab ⟨_, _, rfl, rfl, rfl⟩ rfl rfl rfl ?_)
        | (refine ds_op tab ⟨_, _, rfl, rfl, rfl⟩ rfl rfl rfl ?_)
        | (refine dgd_op true rfl rfl rfl (by decide) ?_)
        | (refine dgd_op false rfl rfl rfl (by decide) ?_)
        | (refine dgd_op true rfl rfl rfl (by simp only [hi, hbz, decide_eq_true_eq, decide_eq_false_iff_not, Bool.not_eq_eq_eq_not, Bool.not_true, Bool.not_false, bne_iff_ne, bne_eq_false_iff_eq, beq_iff_eq, beq_eq_false_iff_ne, ne_eq, beq_self_eq_true, bne_self_eq_false, Bool.and_eq_true, Bool.and_eq_false_iff, Bool.or_eq_true, Bool.or_eq_false_iff, and_self, and_true, true_and, Bool.false_eq_true, Bool.true_eq_false, not_false_eq_true, not_true_eq_false]; first | done | omega) ?_)
        | (refine dgd_op false rfl rfl rfl (by simp only [hi, hbz, decide_eq_true_eq, decide_eq_false_iff_not, Bool.not_eq_eq_eq_not, Bool.not_true, Bool.not_false, bne_iff_ne, bne_eq_false_iff_eq, beq_iff_eq, beq_eq_false_iff_ne, ne_eq, beq_self_eq_true, bne_self_eq_false, Bool.and_eq_true, Bool.and_eq_false_iff, Bool.or_eq_true, Bool.or_eq_false_iff, and_self, and_true, true_and, Bool.false_eq_true, Bool.true_eq_false, not_false_eq_true, not_true_eq_false]; first | done | omega) ?_)
        | (refine dg_op rfl rfl rfl (fun _ => ?_) (fun _ => ?_))
        | (refine vd_nil (by kernel_rfl) ?_)
        | (refine vc_true rfl ?_)
        | (refine vc_false rfl ?_)
        | (refine vcd_true rfl (by decide) ?_)
        | (refine vcd_false rfl (by decide) ?_)
        | (refine vcd_true rfl (by simp only [hi, hbz, decide_eq_true_eq, decide_eq_false_iff_not, Bool.not_eq_eq_eq_not, Bool.not_true, Bool.not_false, bne_iff_ne, bne_eq_false_iff_eq, beq_iff_eq, beq_eq_false_iff_ne, ne_eq, beq_self_eq_true, bne_self_eq_false, Bool.and_eq_true, Bool.and_eq_false_iff, Bool.or_eq_true, Bool.or_eq_false_iff, and_self, and_true, true_and, Bool.false_eq_true, Bool.true_eq_false, not_false_eq_true, not_true_eq_false]; first | done | omega) ?_)
        | (refine vcd_false rfl (by simp only [hi, hbz, decide_eq_true_eq, decide_eq_false_iff_not, Bool.not_eq_eq_eq_not, Bool.not_true, Bool.not_false, bne_iff_ne, bne_eq_false_iff_eq, beq_iff_eq, beq_eq_false_iff_ne, ne_eq, beq_self_eq_true, bne_self_eq_false, Bool.and_eq_true, Bool.and_eq_false_iff, Bool.or_eq_true, Bool.or_eq_false_iff, and_self, and_true, true_and, Bool.false_eq_true, Bool.true_eq_false, not_false_eq_true, not_true_eq_false]; first | done | omega) ?_)
        | (refine vc_part rfl (fun _ => ?_) (fun _ => ?_))
        | (refine vw_block ?_)
        | (refine q_then ?_)
        | (refine q_norm ?_)
        | (refine q_here ?_)
        | (refine q_out rfl ?_)
        | (refine q_thenx ?_)
        | (refine q_thenr ?_)
        | (refine q_ret ?_)
        | (refine rd_step ?_)
        | (refine vcc_false ?_)
        | (refine vcc_true ?_)
        | (refine vw_skip ?_)
        | (refine vw_exit ?_)
        | (refine vw_ret ?_)
      exact ⟨rfl, rfl, (xs.length - (j + 1)).toNat, _, by omega, se_cons rfl (se_cons rfl (se_cons rfl (se_cons rfl (se_cons rfl (se_cons (se_int rfl hi) se_nil))))), j + 1, b, r, by omega, by omega, hs, rfl, rfl⟩
    | false =>
      by_cases hu : t < a.until_
      · rw [if_neg (by simp only [freeB, hbz, Bool.not_false, Bool.true_and, decide_eq_true_eq]; omega)] at hs
        repeat' first
          | (refine vq_op tab rfl rfl rfl rfl ?_)
          | (refine vq_op tab ⟨_, _, rfl, rfl, rfl⟩ rfl rfl rfl ?_)
          | (refine vn_op tab rfl rfl rfl rfl ?_)
          | (refine vq_op tab rfl rfl rfl (ev_index rfl rfl rfl rfl rfl (by omega) (by omega)) ?_)
          | (refine vq_op tab ⟨_, _, rfl, rfl, rfl⟩ rfl rfl (ev_index rfl rfl rfl rfl rfl (by omega) (by omega)) ?_)
          | (refine vq_op tab rfl rfl rfl (ev_loadcell addrR rfl rfl rfl rfl rfl ha rfl) ?_)
          | (refine vq_op tab ⟨_, _, rfl, rfl, rfl⟩ rfl rfl (ev_loadcell addrR rfl rfl rfl rfl rfl ha rfl) ?_)
          | (refine vs_op tab rfl rfl rfl ?_)
          | (refine vk_op ⟨_, _, rfl, rfl, rfl⟩ rfl rfl ?_)
          | (refine vku_op rfl rfl rfl rfl rfl ?_)
          | (refine vn_op tab ⟨_, _, rfl, rfl, rfl⟩ rfl rfl rfl ?_)
          | (refine vgd_op true rfl rfl rfl (by decide) ?_)
          | (refine vgd_op false rfl rfl rfl (by decide) ?_)
          | (refine vgd_op true rfl rfl rfl (by simp only [hi, hbz, decide_eq_true_eq, decide_eq_false_iff_not, Bool.not_eq_eq_eq_not, Bool.not_true, Bool.not_false, bne_iff_ne, bne_eq_false_iff_eq, beq_iff_eq, beq_eq_false_iff_ne, ne_eq, beq_self_eq_true, bne_self_eq_false, Bool.and_eq_true, Bool.and_eq_false_iff, Bool.or_eq_true, Bool.or_eq_false_iff, and_self, and_true, true_and, Bool.false_eq_true, Bool.true_eq_false, not_false_eq_true, not_true_eq_false]; first | done | omega) ?_)
          | (refine vgd_op false rfl rfl rfl (by simp only [hi, hbz, decide_eq_true_eq, decide_eq_false_iff_not, Bool.not_eq_eq_eq_not, Bool.not_true, Bool.not_false, bne_iff_ne, bne_eq_false_iff_eq, beq_iff_eq, beq_eq_false_iff_ne, ne_eq, beq_self_eq_true, bne_self_eq_false, Bool.and_eq_true, Bool.and_eq_false_iff, Bool.or_eq_true, Bool.or_eq_false_iff, and_self, and_true, true_and, Bool.false_eq_true, Bool.true_eq_false, not_false_eq_true, not_true_eq_false]; first | done | omega) ?_)
          | (refine vg_op rfl rfl rfl (fun _ => ?_) (fun _ => ?_))
          | (refine v_nil ?_)
          | (refine vw_seq ?_)
          | (refine vw_region ?_)
          | (refine vw_draw mixed ?_)
          | (refine dq_op tab rfl rfl rfl rfl ?_)
          | (refine dq_op tab ⟨_, _, rfl, rfl, rfl⟩ rfl rfl rfl ?_)
          | (refine dq_op tab rfl rfl (ev_index rfl rfl rfl rfl rfl (by omega) (by omega)) (ev_index rfl rfl rfl rfl rfl (by omega) (by omega)) ?_)
          | (refine dq_op tab ⟨_, _, rfl, rfl, rfl⟩ rfl (ev_index rfl rfl rfl rfl rfl (by omega) (by omega)) (ev_index rfl rfl rfl rfl rfl (by omega) (by omega)) ?_)
          | (refine dq_op tab rfl rfl (ev_loadcell addrR rfl rfl rfl rfl rfl ha rfl) (ev_loadcell addrR rfl rfl rfl rfl rfl ha rfl) ?_)
          | (refine dq_op tab ⟨_, _, rfl, rfl, rfl⟩ rfl (ev_loadcell addrR rfl rfl rfl rfl rfl ha rfl) (ev_loadcell addrR rfl rfl rfl rfl rfl ha rfl) ?_)
          | (refine dn_op tab rfl rfl rfl rfl ?_)
          | (refine ds_op tab rfl rfl rfl rfl ?_)
          | (refine dk_op ⟨_, _, rfl, rfl, rfl⟩ rfl ?_)
          | (refine dku_op rfl rfl rfl rfl ?_)
          | (refine dn_op tab ⟨_, _, rfl, rfl, rfl⟩ rfl rfl rfl ?_)
          | (refine ds_op tab ⟨_, _, rfl, rfl, rfl⟩ rfl rfl rfl ?_)
          | (refine dgd_op true rfl rfl rfl (by decide) ?_)
          | (refine dgd_op false rfl rfl rfl (by decide) ?_)
          | (refine dgd_op true rfl rfl rfl (by simp only [hi, hbz, decide_eq_true_eq, decide_eq_false_iff_not, Bool.not_eq_eq_eq_not, Bool.not_true, Bool.not_false, bne_iff_ne, bne_eq_false_iff_eq, beq_iff_eq, beq_eq_false_iff_ne, ne_eq, beq_self_eq_true, bne_self_eq_false, Bool.and_eq_true, Bool.and_eq_false_iff, Bool.or_eq_true, Bool.or_eq_false_iff, and_self, and_true, true_and, Bool.false_eq_true, Bool.true_eq_false, not_false_eq_true, not_true_eq_false]; first | done | omega) ?_)
          | (refine dgd_op false rfl rfl rfl (by simp only [hi, hbz, decide_eq_true_eq, decide_eq_false_iff_not, Bool.not_eq_eq_eq_not, Bool.not_true, Bool.not_false, bne_iff_ne, bne_eq_false_iff_eq, beq_iff_eq, beq_eq_false_iff_ne, ne_eq, beq_self_eq_true, bne_self_eq_false, Bool.and_eq_true, Bool.and_eq_false_iff, Bool.or_eq_true, Bool.or_eq_false_iff, and_self, and_true, true_and, Bool.false_eq_true, Bool.true_eq_false, not_false_eq_true, not_true_eq_false]; first | done | omega) ?_)
          | (refine dg_op rfl rfl rfl (fun _ => ?_) (fun _ => ?_))
          | (refine vd_nil (by kernel_rfl) ?_)
          | (refine vc_true rfl ?_)
          | (refine vc_false rfl ?_)
          | (refine vcd_true rfl (by decide) ?_)
          | (refine vcd_false rfl (by decide) ?_)
          | (refine vcd_true rfl (by simp only [hi, hbz, decide_eq_true_eq, decide_eq_false_iff_not, Bool.not_eq_eq_eq_not, Bool.not_true, Bool.not_false, bne_iff_ne, bne_eq_false_iff_eq, beq_iff_eq, beq_eq_false_iff_ne, ne_eq, beq_self_eq_true, bne_self_eq_false, Bool.and_eq_true, Bool.and_eq_false_iff, Bool.or_eq_true, Bool.or_eq_false_iff, and_self, and_true, true_and, Bool.false_eq_true, Bool.true_eq_false, not_false_eq_true, not_true_eq_false]; first | done | omega) ?_)
          | (refine vcd_false rfl (by simp only [hi, hbz, decide_eq_true_eq, decide_eq_false_iff_not, Bool.not_eq_eq_eq_not, Bool.not_true, Bool.not_false, bne_iff_ne, bne_eq_false_iff_eq, beq_iff_eq, beq_eq_false_iff_ne, ne_eq, beq_self_eq_true, bne_self_eq_false, Bool.and_eq_true, Bool.and_eq_false_iff, Bool.or_eq_true, Bool.or_eq_false_iff, and_self, and_true, true_and, Bool.false_eq_true, Bool.true_eq_false, not_false_eq_true, not_true_eq_false]; first | done | omega) ?_)
          | (refine vc_part rfl (fun _ => ?_) (fun _ => ?_))
          | (refine vw_block ?_)
          | (refine q_then ?_)
          | (refine q_norm ?_)
          | (refine q_here ?_)
          | (refine q_out rfl ?_)
          | (refine q_thenx ?_)
          | (refine q_thenr ?_)
          | (refine q_ret ?_)
          | (refine rd_step ?_)
          | (refine vcc_false ?_)
          | (refine vcc_true ?_)
          | (refine vw_skip ?_)
          | (refine vw_exit ?_)
          | (refine vw_ret ?_)
        exact ⟨rfl, rfl, (xs.length - (j + 1)).toNat, _, by omega, se_cons rfl (se_cons rfl (se_cons rfl (se_cons rfl (se_cons rfl (se_cons (se_int rfl hi) se_nil))))), j + 1, b, r, by omega, by omega, hs, rfl, rfl⟩
      · have hf : freeB t a = true := by simp only [freeB, hbz, Bool.not_false, Bool.true_and, decide_eq_true_eq]; omega
        rcases (show (a.last = u ∧ rkA u a = 0) ∨ (a.last ≠ u ∧ a.last = -1 ∧ rkA u a = 1) ∨ (a.last ≠ u ∧ a.last ≠ -1 ∧ rkA u a = 2) by
          unfold rkA
          by_cases e1 : a.last = u
          · exact .inl ⟨e1, if_pos e1⟩
          · rw [if_neg e1]
            by_cases e2 : a.last = -1
            · exact .inr (.inl ⟨e1, e2, if_pos e2⟩)
            · exact .inr (.inr ⟨e1, e2, if_neg e2⟩)) with ⟨e1, hk⟩ | ⟨e1, e2, hk⟩ | ⟨e1, e2, hk⟩
        all_goals
          rw [hk] at hs
          by_cases hr : rkA u a < r
        all_goals
          rw [hk] at hr
          simp only [hf, hr, true_and, if_true, if_false] at hs
          repeat' first
            | (refine vq_op tab rfl rfl rfl rfl ?_)
            | (refine vq_op tab ⟨_, _, rfl, rfl, rfl⟩ rfl rfl rfl ?_)
            | (refine vn_op tab rfl rfl rfl rfl ?_)
            | (refine vq_op tab rfl rfl rfl (ev_index rfl rfl rfl rfl rfl (by omega) (by omega)) ?_)
            | (refine vq_op tab ⟨_, _, rfl, rfl, rfl⟩ rfl rfl (ev_index rfl rfl rfl rfl rfl (by omega) (by omega)) ?_)
            | (refine vq_op tab rfl rfl rfl (ev_loadcell addrR rfl rfl rfl rfl rfl ha rfl) ?_)
            | (refine vq_op tab ⟨_, _, rfl, rfl, rfl⟩ rfl rfl (ev_loadcell addrR rfl rfl rfl rfl rfl ha rfl) ?_)
            | (refine vs_op tab rfl rfl rfl ?_)
            | (refine vk_op ⟨_, _, rfl, rfl, rfl⟩ rfl rfl ?_)
            | (refine vku_op rfl rfl rfl rfl rfl ?_)
            | (refine vn_op tab ⟨_, _, rfl, rfl, rfl⟩ rfl rfl rfl ?_)
            | (refine vgd_op true rfl rfl rfl (by decide) ?_)
            | (refine vgd_op false rfl rfl rfl (by decide) ?_)
            | (refine vgd_op true rfl rfl rfl (by simp only [hi, hbz, decide_eq_true_eq, decide_eq_false_iff_not, Bool.not_eq_eq_eq_not, Bool.not_true, Bool.not_false, bne_iff_ne, bne_eq_false_iff_eq, beq_iff_eq, beq_eq_false_iff_ne, ne_eq, beq_self_eq_true, bne_self_eq_false, Bool.and_eq_true, Bool.and_eq_false_iff, Bool.or_eq_true, Bool.or_eq_false_iff, and_self, and_true, true_and, Bool.false_eq_true, Bool.true_eq_false, not_false_eq_true, not_true_eq_false]; first | done | omega) ?_)
            | (refine vgd_op false rfl rfl rfl (by simp only [hi, hbz, decide_eq_true_eq, decide_eq_false_iff_not, Bool.not_eq_eq_eq_not, Bool.not_true, Bool.not_false, bne_iff_ne, bne_eq_false_iff_eq, beq_iff_eq, beq_eq_false_iff_ne, ne_eq, beq_self_eq_true, bne_self_eq_false, Bool.and_eq_true, Bool.and_eq_false_iff, Bool.or_eq_true, Bool.or_eq_false_iff, and_self, and_true, true_and, Bool.false_eq_true, Bool.true_eq_false, not_false_eq_true, not_true_eq_false]; first | done | omega) ?_)
            | (refine vg_op rfl rfl rfl (fun _ => ?_) (fun _ => ?_))
            | (refine v_nil ?_)
            | (refine vw_seq ?_)
            | (refine vw_region ?_)
            | (refine vw_draw mixed ?_)
            | (refine dq_op tab rfl rfl rfl rfl ?_)
            | (refine dq_op tab ⟨_, _, rfl, rfl, rfl⟩ rfl rfl rfl ?_)
            | (refine dq_op tab rfl rfl (ev_index rfl rfl rfl rfl rfl (by omega) (by omega)) (ev_index rfl rfl rfl rfl rfl (by omega) (by omega)) ?_)
            | (refine dq_op tab ⟨_, _, rfl, rfl, rfl⟩ rfl (ev_index rfl rfl rfl rfl rfl (by omega) (by omega)) (ev_index rfl rfl rfl rfl rfl (by omega) (by omega)) ?_)
            | (refine dq_op tab rfl rfl (ev_loadcell addrR rfl rfl rfl rfl rfl ha rfl) (ev_loadcell addrR rfl rfl rfl rfl rfl ha rfl) ?_)
            | (refine dq_op tab ⟨_, _, rfl, rfl, rfl⟩ rfl (ev_loadcell addrR rfl rfl rfl rfl rfl ha rfl) (ev_loadcell addrR rfl rfl rfl rfl rfl ha rfl) ?_)
            | (refine dn_op tab rfl rfl rfl rfl ?_)
            | (refine ds_op tab rfl rfl rfl rfl ?_)
            | (refine dk_op ⟨_, _, rfl, rfl, rfl⟩ rfl ?_)
            | (refine dku_op rfl rfl rfl rfl ?_)
            | (refine dn_op tab ⟨_, _, rfl, rfl, rfl⟩ rfl rfl rfl ?_)
            | (refine ds_op tab ⟨_, _, rfl, rfl, rfl⟩ rfl rfl rfl ?_)
            | (refine dgd_op true rfl rfl rfl (by decide) ?_)
            | (refine dgd_op false rfl rfl rfl (by decide) ?_)
            | (refine dgd_op true rfl rfl rfl (by simp only [hi, hbz, decide_eq_true_eq, decide_eq_false_iff_not, Bool.not_eq_eq_eq_not, Bool.not_true, Bool.not_false, bne_iff_ne, bne_eq_false_iff_eq, beq_iff_eq, beq_eq_false_iff_ne, ne_eq, beq_self_eq_true, bne_self_eq_false, Bool.and_eq_true, Bool.and_eq_false_iff, Bool.or_eq_true, Bool.or_eq_false_iff, and_self, and_true, true_and, Bool.false_eq_true, Bool.true_eq_false, not_false_eq_true, not_true_eq_false]; first | done | omega) ?_)
            | (refine dgd_op false rfl rfl rfl (by simp only [hi, hbz, decide_eq_true_eq, decide_eq_false_iff_not, Bool.not_eq_eq_eq_not, Bool.not_true, Bool.not_false, bne_iff_ne, bne_eq_false_iff_eq, beq_iff_eq, beq_eq_false_iff_ne, ne_eq, beq_self_eq_true, bne_self_eq_false, Bool.and_eq_true, Bool.and_eq_false_iff, Bool.or_eq_true, Bool.or_eq_false_iff, and_self, and_true, true_and, Bool.false_eq_true, Bool.true_eq_false, not_false_eq_true, not_true_eq_false]; first | done | omega) ?_)
            | (refine dg_op rfl rfl rfl (fun _ => ?_) (fun _ => ?_))
            | (refine vd_nil (by kernel_rfl) ?_)
            | (refine vc_true rfl ?_)
            | (refine vc_false rfl ?_)
            | (refine vcd_true rfl (by decide) ?_)
            | (refine vcd_false rfl (by decide) ?_)
            | (refine vcd_true rfl (by simp only [hi, hbz, decide_eq_true_eq, decide_eq_false_iff_not, Bool.not_eq_eq_eq_not, Bool.not_true, Bool.not_false, bne_iff_ne, bne_eq_false_iff_eq, beq_iff_eq, beq_eq_false_iff_ne, ne_eq, beq_self_eq_true, bne_self_eq_false, Bool.and_eq_true, Bool.and_eq_false_iff, Bool.or_eq_true, Bool.or_eq_false_iff, and_self, and_true, true_and, Bool.false_eq_true, Bool.true_eq_false, not_false_eq_true, not_true_eq_false]; first | done | omega) ?_)
            | (refine vcd_false rfl (by simp only [hi, hbz, decide_eq_true_eq, decide_eq_false_iff_not, Bool.not_eq_eq_eq_not, Bool.not_true, Bool.not_false, bne_iff_ne, bne_eq_false_iff_eq, beq_iff_eq, beq_eq_false_iff_ne, ne_eq, beq_self_eq_true, bne_self_eq_false, Bool.and_eq_true, Bool.and_eq_false_iff, Bool.or_eq_true, Bool.or_eq_false_iff, and_self, and_true, true_and, Bool.false_eq_true, Bool.true_eq_false, not_false_eq_true, not_true_eq_false]; first | done | omega) ?_)
            | (refine vc_part rfl (fun _ => ?_) (fun _ => ?_))
            | (refine vw_block ?_)
            | (refine q_then ?_)
            | (refine q_norm ?_)
            | (refine q_here ?_)
            | (refine q_out rfl ?_)
            | (refine q_thenx ?_)
            | (refine q_thenr ?_)
            | (refine q_ret ?_)
            | (refine rd_step ?_)
            | (refine vcc_false ?_)
            | (refine vcc_true ?_)
            | (refine vw_skip ?_)
            | (refine vw_exit ?_)
            | (refine vw_ret ?_)
          exact ⟨rfl, rfl, (xs.length - (j + 1)).toNat, _, by omega, se_cons rfl (se_cons rfl (se_cons rfl (se_cons rfl (se_cons rfl (se_cons (se_int rfl hi) se_nil))))), j + 1, _, _, by omega, by omega, hs, rfl, rfl⟩
end Go.Proofs.Ytenbhladboofeaa
