/- Law 18: HalfForms. -/
import Derived.Test.YtenbhladboofeaaHv4
import Derived.Test.YtenbhladboofeaaVmP
namespace Go.Proofs.Ytenbhladboofeaa
open Go Vm IntWalk
set_option linter.unusedVariables false
set_option linter.unusedSimpArgs false
theorem add_one {h : HalfV} {most tick : Int} (hb : ¬ addBad h most tick) : addR [] h most tick = ([h], 0) := by
  rw [add_ok hb (by unfold addBad at hb; show ¬ most ≤ 0; omega)]; rfl
theorem take_no {hs : List HalfV} {half tick : Int} (h : ∀ x ∈ hs, x.half ≠ half) : takeR hs half tick = (noHalf, [], 1802) := by
  unfold takeR
  rw [any_find (p := isHalf half)]
  rw [List.any_eq_false]; intro x hx; have := h x ((List.mem_filter.1 hx).1); simpa [isHalf] using this
theorem add_as {V : Heap} {n : Nat} {sv : Value} {hs : List HalfV} {h : HalfV} {most tick : Int} (r : List HalfV × Int) (hr : addR hs h most tick = r) (hl : Looks V 5 sv (halfR.cells hs) hs.length) (hb : hs.length * 40 ≤ 140737488355248) :
    Tri Try.prog 30 [sv, halfV h, .int .i64 most, .int .i64 tick] n 1 V (fun u L => u = .tuple #[.slice (some ⟨n, 0, none⟩) r.1.length 0, .int .i64 r.2] ∧ L = [(n, some (.opn (halfR.cells r.1) 52 5))]) := by subst hr; exact add_tri h most tick hl hb
theorem take_as {V : Heap} {n : Nat} {sv : Value} {hs : List HalfV} {half tick : Int} (r : HalfV × List HalfV × Int) (hr : takeR hs half tick = r) (hl : Looks V 5 sv (halfR.cells hs) hs.length) (hb : hs.length * 40 ≤ 140737488355248) :
    Tri Try.prog 32 [sv, .int .i64 half, .int .i64 tick] n 1 V (fun u L => u = takeV n r ∧ L = [(n, some (.opn (halfR.cells r.2.1) 52 5))]) := by subst hr; exact take_tri half tick hl hb
theorem expire_as {V : Heap} {n : Nat} {sv : Value} {hs : List HalfV} {tick : Int} (r : List HalfV) (hr : expireL hs tick = r) (hl : Looks V 5 sv (halfR.cells hs) hs.length) (hb : hs.length * 40 ≤ 140737488355328) :
    Tri Try.prog 34 [sv, .int .i64 tick] n 1 V (fun u L => u = .slice (some ⟨n, 0, none⟩) r.length 0 ∧ L = [(n, some (.opn (halfR.cells r) 52 5))]) := by subst hr; exact expire_tri tick hl hb
theorem expire_none {hs : List HalfV} {tick : Int} (h : ∀ x ∈ hs, x.until_ ≤ tick) : expireL hs tick = [] := by
  unfold expireL; rw [List.filter_eq_nil_iff]; intro x hx; have := h x hx; simp only [decide_eq_true_eq]; omega
set_option maxHeartbeats 8000000 in
theorem HalfForms_law (a b : Int) : Fun Try.prog 9 [.int .i64 a, .int .i64 b] (.bool true) := by
  refine fun_of_vw tab Try.func9 rfl rfl (by simp [Try.f9]) (lrel_cons (.int _ _) (lrel_cons (.int _ _) lrel_nil)) (.bool _) ?_
  repeat' first
    | (refine vq_op tab rfl rfl rfl rfl ?_)
    | (refine vq_op tab ⟨_, _, rfl, rfl, rfl⟩ rfl rfl rfl ?_)
    | (refine vn_op tab rfl rfl rfl rfl ?_)
    | (refine vf_op rfl rfl rfl rfl rfl rfl callable_39 (half_awake) ?_)
    | (refine vf_op ⟨_, _, rfl, rfl, rfl⟩ rfl rfl rfl rfl rfl callable_39 (half_awake) ?_)
    | (refine vt_op rfl rfl rfl rfl rfl rfl callable_30 (add_as (hs := []) (h := ⟨0, 0, 0, 0, IntKind.i64.wrap (bits .and .i64 b 1023 + 1)⟩) ([], 1800) (add_bad (by unfold addBad; simp only [and1023, IntKind.wrap_i64]; first | done | omega)) .nil (by simp)) ?_)
    | (refine vt_op ⟨_, _, rfl, rfl, rfl⟩ rfl rfl rfl rfl rfl callable_30 (add_as (hs := []) (h := ⟨0, 0, 0, 0, IntKind.i64.wrap (bits .and .i64 b 1023 + 1)⟩) ([], 1800) (add_bad (by unfold addBad; simp only [and1023, IntKind.wrap_i64]; first | done | omega)) .nil (by simp)) ?_)
    | (refine vt_op rfl rfl rfl rfl rfl rfl callable_30 (add_as (hs := []) (h := ⟨0, 0, 0, 0, bits .and .i64 b 1023⟩) ([], 1800) (add_bad (by unfold addBad; simp only [and1023, IntKind.wrap_i64]; first | done | omega)) .nil (by simp)) ?_)
    | (refine vt_op ⟨_, _, rfl, rfl, rfl⟩ rfl rfl rfl rfl rfl callable_30 (add_as (hs := []) (h := ⟨0, 0, 0, 0, bits .and .i64 b 1023⟩) ([], 1800) (add_bad (by unfold addBad; simp only [and1023, IntKind.wrap_i64]; first | done | omega)) .nil (by simp)) ?_)
    | (refine vt_op rfl rfl rfl rfl rfl rfl callable_30 (add_as (hs := []) (h := ⟨0, 0, 0, 0, IntKind.i64.wrap (bits .and .i64 b 1023 - IntKind.i64.wrap (1 + bits .and .i64 a 1023))⟩) ([], 1800) (add_bad (by unfold addBad; simp only [and1023, IntKind.wrap_i64]; first | done | omega)) .nil (by simp)) ?_)
    | (refine vt_op ⟨_, _, rfl, rfl, rfl⟩ rfl rfl rfl rfl rfl callable_30 (add_as (hs := []) (h := ⟨0, 0, 0, 0, IntKind.i64.wrap (bits .and .i64 b 1023 - IntKind.i64.wrap (1 + bits .and .i64 a 1023))⟩) ([], 1800) (add_bad (by unfold addBad; simp only [and1023, IntKind.wrap_i64]; first | done | omega)) .nil (by simp)) ?_)
    | (refine vt_op rfl rfl rfl rfl rfl rfl callable_30 (add_as (hs := []) (h := ⟨IntKind.i64.wrap (1 + bits .and .i64 a 1023), 0, 0, 0, IntKind.i64.wrap (bits .and .i64 b 1023 + 1)⟩) ([⟨IntKind.i64.wrap (1 + bits .and .i64 a 1023), 0, 0, 0, IntKind.i64.wrap (bits .and .i64 b 1023 + 1)⟩], 0) (add_one (by unfold addBad; simp only [and1023, IntKind.wrap_i64]; first | done | omega)) .nil (by simp)) ?_)
    | (refine vt_op ⟨_, _, rfl, rfl, rfl⟩ rfl rfl rfl rfl rfl callable_30 (add_as (hs := []) (h := ⟨IntKind.i64.wrap (1 + bits .and .i64 a 1023), 0, 0, 0, IntKind.i64.wrap (bits .and .i64 b 1023 + 1)⟩) ([⟨IntKind.i64.wrap (1 + bits .and .i64 a 1023), 0, 0, 0, IntKind.i64.wrap (bits .and .i64 b 1023 + 1)⟩], 0) (add_one (by unfold addBad; simp only [and1023, IntKind.wrap_i64]; first | done | omega)) .nil (by simp)) ?_)
    | (refine vt_op rfl rfl rfl rfl rfl rfl callable_32 (take_as (hs := [⟨IntKind.i64.wrap (1 + bits .and .i64 a 1023), 0, 0, 0, IntKind.i64.wrap (bits .and .i64 b 1023 + 1)⟩]) (noHalf, [], 1802) (take_no (by simp only [List.mem_singleton, forall_eq, and1023, IntKind.wrap_i64]; first | done | omega)) (looks_opn halfR rfl rfl) (by simp)) ?_)
    | (refine vt_op ⟨_, _, rfl, rfl, rfl⟩ rfl rfl rfl rfl rfl callable_32 (take_as (hs := [⟨IntKind.i64.wrap (1 + bits .and .i64 a 1023), 0, 0, 0, IntKind.i64.wrap (bits .and .i64 b 1023 + 1)⟩]) (noHalf, [], 1802) (take_no (by simp only [List.mem_singleton, forall_eq, and1023, IntKind.wrap_i64]; first | done | omega)) (looks_opn halfR rfl rfl) (by simp)) ?_)
    | (refine vt_op rfl rfl rfl rfl rfl rfl callable_32 (take_as (hs := []) (noHalf, [], 1802) (take_no (by simp)) .nil (by simp)) ?_)
    | (refine vt_op ⟨_, _, rfl, rfl, rfl⟩ rfl rfl rfl rfl rfl callable_32 (take_as (hs := []) (noHalf, [], 1802) (take_no (by simp)) .nil (by simp)) ?_)
    | (refine vf_op rfl rfl rfl rfl rfl rfl callable_18 (num_fun _) ?_)
    | (refine vf_op ⟨_, _, rfl, rfl, rfl⟩ rfl rfl rfl rfl rfl callable_18 (num_fun _) ?_)
    | (refine vr_op rfl rfl rfl rfl rfl rfl callable_35 (same_halfs (looks_opn halfR rfl rfl) (looks_opn halfR (xs := [⟨IntKind.i64.wrap (1 + bits .and .i64 a 1023), 0, 0, 0, IntKind.i64.wrap (bits .and .i64 b 1023 + 1)⟩]) rfl rfl) (by simp) (by simp)) ?_)
    | (refine vr_op ⟨_, _, rfl, rfl, rfl⟩ rfl rfl rfl rfl rfl callable_35 (same_halfs (looks_opn halfR rfl rfl) (looks_opn halfR (xs := [⟨IntKind.i64.wrap (1 + bits .and .i64 a 1023), 0, 0, 0, IntKind.i64.wrap (bits .and .i64 b 1023 + 1)⟩]) rfl rfl) (by simp) (by simp)) ?_)
    | (refine vt_op rfl rfl rfl rfl rfl rfl callable_34 (expire_as (hs := [⟨IntKind.i64.wrap (1 + bits .and .i64 a 1023), 0, 0, 0, IntKind.i64.wrap (bits .and .i64 b 1023 + 1)⟩]) [] (expire_none (by simp only [List.mem_singleton, forall_eq, and1023, IntKind.wrap_i64]; first | done | omega)) (looks_opn halfR rfl rfl) (by simp)) ?_)
    | (refine vt_op ⟨_, _, rfl, rfl, rfl⟩ rfl rfl rfl rfl rfl callable_34 (expire_as (hs := [⟨IntKind.i64.wrap (1 + bits .and .i64 a 1023), 0, 0, 0, IntKind.i64.wrap (bits .and .i64 b 1023 + 1)⟩]) [] (expire_none (by simp only [List.mem_singleton, forall_eq, and1023, IntKind.wrap_i64]; first | done | omega)) (looks_opn halfR rfl rfl) (by simp)) ?_)
    | (refine vs_op tab rfl rfl rfl ?_)
    | (refine vk_op ⟨_, _, rfl, rfl, rfl⟩ rfl rfl ?_)
    | (refine vku_op rfl rfl rfl rfl rfl ?_)
    | (refine vn_op tab ⟨_, _, rfl, rfl, rfl⟩ rfl rfl rfl ?_)
    | (refine vgd_op true rfl rfl rfl (by decide) ?_)
    | (refine vgd_op false rfl rfl rfl (by decide) ?_)
    | (refine vgd_op true rfl rfl rfl (by simp only [eq_self, decide_true, decide_eq_true_eq, decide_eq_false_iff_not, Bool.not_eq_eq_eq_not, Bool.not_true, Bool.not_false, bne_iff_ne, bne_eq_false_iff_eq, beq_iff_eq, beq_eq_false_iff_ne, ne_eq, beq_self_eq_true, bne_self_eq_false, Bool.and_eq_true, Bool.and_eq_false_iff, Bool.or_eq_true, Bool.or_eq_false_iff, and_self, and_true, true_and, Bool.false_eq_true, Bool.true_eq_false, not_false_eq_true, not_true_eq_false]; first | done | omega) ?_)
    | (refine vgd_op false rfl rfl rfl (by simp only [eq_self, decide_true, decide_eq_true_eq, decide_eq_false_iff_not, Bool.not_eq_eq_eq_not, Bool.not_true, Bool.not_false, bne_iff_ne, bne_eq_false_iff_eq, beq_iff_eq, beq_eq_false_iff_ne, ne_eq, beq_self_eq_true, bne_self_eq_false, Bool.and_eq_true, Bool.and_eq_false_iff, Bool.or_eq_true, Bool.or_eq_false_iff, and_self, and_true, true_and, Bool.false_eq_true, Bool.true_eq_false, not_false_eq_true, not_true_eq_false]; first | done | omega) ?_)
    | (refine vg_op rfl rfl rfl (fun _ => ?_) (fun _ => ?_))
    | (refine v_nil ?_)
    | (refine vw_seq ?_)
    | (refine vw_region ?_)
    | (refine vw_draw mixed ?_)
    | (refine dq_op tab rfl rfl rfl rfl ?_)
    | (refine dq_op tab ⟨_, _, rfl, rfl, rfl⟩ rfl rfl rfl ?_)
    | (refine df_op rfl rfl rfl rfl rfl callable_39 (half_awake) ?_)
    | (refine df_op ⟨_, _, rfl, rfl, rfl⟩ rfl rfl rfl rfl callable_39 (half_awake) ?_)
    | (refine df_op rfl rfl rfl rfl rfl callable_18 (num_fun _) ?_)
    | (refine df_op ⟨_, _, rfl, rfl, rfl⟩ rfl rfl rfl rfl callable_18 (num_fun _) ?_)
    | (refine dr_op rfl rfl rfl rfl rfl callable_35 (same_halfs (looks_opn halfR rfl rfl) (looks_opn halfR (xs := [⟨IntKind.i64.wrap (1 + bits .and .i64 a 1023), 0, 0, 0, IntKind.i64.wrap (bits .and .i64 b 1023 + 1)⟩]) rfl rfl) (by simp) (by simp)) ?_)
    | (refine dr_op ⟨_, _, rfl, rfl, rfl⟩ rfl rfl rfl rfl callable_35 (same_halfs (looks_opn halfR rfl rfl) (looks_opn halfR (xs := [⟨IntKind.i64.wrap (1 + bits .and .i64 a 1023), 0, 0, 0, IntKind.i64.wrap (bits .and .i64 b 1023 + 1)⟩]) rfl rfl) (by simp) (by simp)) ?_)
    | (refine dn_op tab rfl rfl rfl rfl ?_)
    | (refine ds_op tab rfl rfl rfl rfl ?_)
    | (refine dk_op ⟨_, _, rfl, rfl, rfl⟩ rfl ?_)
    | (refine dku_op rfl rfl rfl rfl ?_)
    | (refine dn_op tab ⟨_, _, rfl, rfl, rfl⟩ rfl rfl rfl ?_)
    | (refine ds_op tab ⟨_, _, rfl, rfl, rfl⟩ rfl rfl rfl ?_)
    | (refine dgd_op true rfl rfl rfl (by decide) ?_)
    | (refine dgd_op false rfl rfl rfl (by decide) ?_)
    | (refine dgd_op true rfl rfl rfl (by simp only [eq_self, decide_true, decide_eq_true_eq, decide_eq_false_iff_not, Bool.not_eq_eq_eq_not, Bool.not_true, Bool.not_false, bne_iff_ne, bne_eq_false_iff_eq, beq_iff_eq, beq_eq_false_iff_ne, ne_eq, beq_self_eq_true, bne_self_eq_false, Bool.and_eq_true, Bool.and_eq_false_iff, Bool.or_eq_true, Bool.or_eq_false_iff, and_self, and_true, true_and, Bool.false_eq_true, Bool.true_eq_false, not_false_eq_true, not_true_eq_false]; first | done | omega) ?_)
    | (refine dgd_op false rfl rfl rfl (by simp only [eq_self, decide_true, decide_eq_true_eq, decide_eq_false_iff_not, Bool.not_eq_eq_eq_not, Bool.not_true, Bool.not_false, bne_iff_ne, bne_eq_false_iff_eq, beq_iff_eq, beq_eq_false_iff_ne, ne_eq, beq_self_eq_true, bne_self_eq_false, Bool.and_eq_true, Bool.and_eq_false_iff, Bool.or_eq_true, Bool.or_eq_false_iff, and_self, and_true, true_and, Bool.false_eq_true, Bool.true_eq_false, not_false_eq_true, not_true_eq_false]; first | done | omega) ?_)
    | (refine dg_op rfl rfl rfl (fun _ => ?_) (fun _ => ?_))
    | (refine vd_nil (by kernel_rfl) ?_)
    | (refine vc_true rfl ?_)
    | (refine vc_false rfl ?_)
    | (refine vcd_true rfl (by decide) ?_)
    | (refine vcd_false rfl (by decide) ?_)
    | (refine vcd_true rfl (by simp only [eq_self, decide_true, decide_eq_true_eq, decide_eq_false_iff_not, Bool.not_eq_eq_eq_not, Bool.not_true, Bool.not_false, bne_iff_ne, bne_eq_false_iff_eq, beq_iff_eq, beq_eq_false_iff_ne, ne_eq, beq_self_eq_true, bne_self_eq_false, Bool.and_eq_true, Bool.and_eq_false_iff, Bool.or_eq_true, Bool.or_eq_false_iff, and_self, and_true, true_and, Bool.false_eq_true, Bool.true_eq_false, not_false_eq_true, not_true_eq_false]; first | done | omega) ?_)
    | (refine vcd_false rfl (by simp only [eq_self, decide_true, decide_eq_true_eq, decide_eq_false_iff_not, Bool.not_eq_eq_eq_not, Bool.not_true, Bool.not_false, bne_iff_ne, bne_eq_false_iff_eq, beq_iff_eq, beq_eq_false_iff_ne, ne_eq, beq_self_eq_true, bne_self_eq_false, Bool.and_eq_true, Bool.and_eq_false_iff, Bool.or_eq_true, Bool.or_eq_false_iff, and_self, and_true, true_and, Bool.false_eq_true, Bool.true_eq_false, not_false_eq_true, not_true_eq_false]; first | done | omega) ?_)
    | (refine vc_part rfl (fun _ => ?_) (fun _ => ?_))
    | (refine vw_block ?_)
    | (refine q_then ?_)
    | (refine q_norm ?_)
    | (refine q_here ?_)
    | (refine q_out rfl ?_)
    | (refine q_thenx ?_)
    | (refine q_thenr ?_)
    | (refine q_ret ?_)
    | (refine vw_skip ?_)
    | (refine vw_exit ?_)
    | (refine vw_ret ?_)
  all_goals exact ⟨.inr rfl, rfl⟩
end Go.Proofs.Ytenbhladboofeaa
