/- A number's decimal text. -/
import Derived.Test.YtenbhladboofeaaCm0
import Derived.Test.YtenbhladboofeaaVmP
namespace Go.Proofs.Ytenbhladboofeaa
open Go Vm IntWalk
set_option linter.unusedVariables false
set_option linter.unusedSimpArgs false
abbrev u8R : Rw Int := intR .u8
def bytesL (l : List Int) : ByteArray := ⟨(l.map fun n => UInt8.ofNat n.toNat).toArray⟩
theorem asBytes_rows (l : List Int) : asBytes (u8R.cells l) = some (l.map fun n => UInt8.ofNat n.toNat) := by
  rw [intR_cells]
  induction l with
  | nil => rfl
  | cons a l ih => simp only [List.map_cons, asBytes, ih, Option.map_some]
theorem ev_text {env : List (Nat × Value)} {V : Heap} {n s d e i m : Nat} {x : Operand} {ts td te : TI} {l : List Int} (hx : rd env x = some (.slice (some ⟨i, 0, none⟩) m 0)) (h1 : tys s = some ts) (h2 : tys d = some td) (hs : ts.desc = .slice e) (hd : td.desc = .string) (he : tys e = some te) (hu : te.desc = .int .u8)
    (hV : (V i).bind cellsOf = some (u8R.cells l)) (hm : m = l.length) : evOp tys env V n (.convert s d x) = some ⟨.string (bytesL l), [], 0, [i]⟩ := by
  subst hm
  have hl : (u8R.cells l).length = l.length := by rw [intR_cells, List.length_map]
  simp only [evOp, hx, Option.bind_some, evConvert, h1, h2, hs, hd, he, hV, hu, Nat.zero_add, hl, Nat.le_refl, if_true, List.drop_zero]
  rw [List.take_of_length_le (by omega), asBytes_rows]; rfl
def digs : Nat → Nat → List Int → List Int
  | 0, _, out => out
  | f + 1, n, out => if n = 0 ∧ out ≠ [] then out else digs f (n / 10) ((48 + (n % 10 : Nat) : Int) :: out)
def decS (x : Int) : ByteArray := bytesL (digs 20 x.toNat [])
set_option maxHeartbeats 4000000 in
theorem dec_fun {x : Int} (h0 : 0 ≤ x) (h1 : x ≤ 9223372036854775807) : Fun Try.prog 28 [.int .i64 x] (.string (decS x)) := by
  refine fun_of_vw tab Try.func28 rfl rfl (by simp [Try.f28]) (lrel_cons (.int _ _) lrel_nil) (.string _) ?_
  have hx : IntKind.u64.wrap x = ((x.toNat : Nat) : Int) := by rw [wrapu]; omega
  repeat' first
    | (refine vq_op tab rfl rfl rfl rfl ?_)
    | (refine vq_op tab ⟨_, _, rfl, rfl, rfl⟩ rfl rfl rfl ?_)
    | (refine vn_op tab rfl rfl rfl rfl ?_)
    | (refine vs_op tab rfl rfl rfl ?_)
    | (refine vk_op ⟨_, _, rfl, rfl, rfl⟩ rfl rfl ?_)
    | (refine vku_op rfl rfl rfl rfl rfl ?_)
    | (refine vn_op tab ⟨_, _, rfl, rfl, rfl⟩ rfl rfl rfl ?_)
    | (refine vgd_op true rfl rfl rfl (by decide) ?_)
    | (refine vgd_op false rfl rfl rfl (by decide) ?_)
    | (refine vgd_op true rfl rfl rfl (by simp only [decide_eq_true_eq, decide_eq_false_iff_not, Bool.not_eq_eq_eq_not, Bool.not_true, Bool.not_false, bne_iff_ne, bne_eq_false_iff_eq, beq_iff_eq, beq_eq_false_iff_ne, ne_eq, beq_self_eq_true, bne_self_eq_false, Bool.and_eq_true, Bool.and_eq_false_iff, Bool.or_eq_true, Bool.or_eq_false_iff, and_self, and_true, true_and, Bool.false_eq_true, Bool.true_eq_false, not_false_eq_true, not_true_eq_false]; first | done | omega) ?_)
    | (refine vgd_op false rfl rfl rfl (by simp only [decide_eq_true_eq, decide_eq_false_iff_not, Bool.not_eq_eq_eq_not, Bool.not_true, Bool.not_false, bne_iff_ne, bne_eq_false_iff_eq, beq_iff_eq, beq_eq_false_iff_ne, ne_eq, beq_self_eq_true, bne_self_eq_false, Bool.and_eq_true, Bool.and_eq_false_iff, Bool.or_eq_true, Bool.or_eq_false_iff, and_self, and_true, true_and, Bool.false_eq_true, Bool.true_eq_false, not_false_eq_true, not_true_eq_false]; first | done | omega) ?_)
    | (refine vg_op rfl rfl rfl (fun _ => ?_) (fun _ => ?_))
    | (refine v_nil ?_)
    | (refine vw_seq ?_)
    | (refine vw_region ?_)
    | (refine vw_draw mixed ?_)
    | (refine dq_op tab rfl rfl rfl rfl ?_)
    | (refine dq_op tab ⟨_, _, rfl, rfl, rfl⟩ rfl rfl rfl ?_)
    | (refine dn_op tab rfl rfl rfl rfl ?_)
    | (refine ds_op tab rfl rfl rfl rfl ?_)
    | (refine dk_op ⟨_, _, rfl, rfl, rfl⟩ rfl ?_)
    | (refine dku_op rfl rfl rfl rfl ?_)
    | (refine dn_op tab ⟨_, _, rfl, rfl, rfl⟩ rfl rfl rfl ?_)
    | (refine ds_op tab ⟨_, _, rfl, rfl, rfl⟩ rfl rfl rfl ?_)
    | (refine dgd_op true rfl rfl rfl (by decide) ?_)
    | (refine dgd_op false rfl rfl rfl (by decide) ?_)
    | (refine dgd_op true rfl rfl rfl (by simp only [decide_eq_true_eq, decide_eq_false_iff_not, Bool.not_eq_eq_eq_not, Bool.not_true, Bool.not_false, bne_iff_ne, bne_eq_false_iff_eq, beq_iff_eq, beq_eq_false_iff_ne, ne_eq, beq_self_eq_true, bne_self_eq_false, Bool.and_eq_true, Bool.and_eq_false_iff, Bool.or_eq_true, Bool.or_eq_false_iff, and_self, and_true, true_and, Bool.false_eq_true, Bool.true_eq_false, not_false_eq_true, not_true_eq_false]; first | done | omega) ?_)
    | (refine dgd_op false rfl rfl rfl (by simp only [decide_eq_true_eq, decide_eq_false_iff_not, Bool.not_eq_eq_eq_not, Bool.not_true, Bool.not_false, bne_iff_ne, bne_eq_false_iff_eq, beq_iff_eq, beq_eq_false_iff_ne, ne_eq, beq_self_eq_true, bne_self_eq_false, Bool.and_eq_true, Bool.and_eq_false_iff, Bool.or_eq_true, Bool.or_eq_false_iff, and_self, and_true, true_and, Bool.false_eq_true, Bool.true_eq_false, not_false_eq_true, not_true_eq_false]; first | done | omega) ?_)
    | (refine dg_op rfl rfl rfl (fun _ => ?_) (fun _ => ?_))
    | (refine vd_nil (by kernel_rfl) ?_)
    | (refine vc_true rfl ?_)
    | (refine vc_false rfl ?_)
    | (refine vcd_true rfl (by decide) ?_)
    | (refine vcd_false rfl (by decide) ?_)
    | (refine vcd_true rfl (by simp only [decide_eq_true_eq, decide_eq_false_iff_not, Bool.not_eq_eq_eq_not, Bool.not_true, Bool.not_false, bne_iff_ne, bne_eq_false_iff_eq, beq_iff_eq, beq_eq_false_iff_ne, ne_eq, beq_self_eq_true, bne_self_eq_false, Bool.and_eq_true, Bool.and_eq_false_iff, Bool.or_eq_true, Bool.or_eq_false_iff, and_self, and_true, true_and, Bool.false_eq_true, Bool.true_eq_false, not_false_eq_true, not_true_eq_false]; first | done | omega) ?_)
    | (refine vcd_false rfl (by simp only [decide_eq_true_eq, decide_eq_false_iff_not, Bool.not_eq_eq_eq_not, Bool.not_true, Bool.not_false, bne_iff_ne, bne_eq_false_iff_eq, beq_iff_eq, beq_eq_false_iff_ne, ne_eq, beq_self_eq_true, bne_self_eq_false, Bool.and_eq_true, Bool.and_eq_false_iff, Bool.or_eq_true, Bool.or_eq_false_iff, and_self, and_true, true_and, Bool.false_eq_true, Bool.true_eq_false, not_false_eq_true, not_true_eq_false]; first | done | omega) ?_)
    | (refine vc_part rfl (fun _ => ?_) (fun _ => ?_))
    | (refine vw_block ?_)
    | (refine q_then ?_)
    | (refine q_norm ?_)
    | (refine q_here ?_)
    | (refine q_out rfl ?_)
    | (refine q_thenx ?_)
    | (refine q_thenr ?_)
    | (refine q_ret ?_)
    | (refine vw_skip ?_)
    | (refine vw_exit ?_)
    | (refine vw_ret ?_)
  refine vw_loop_sub (fun k s => ∃ (f m : Nat) (out : List Int), digs 20 x.toNat [] = digs f m out ∧ m < 10 ^ f ∧ m < 18446744073709551616 ∧ out.length + f = 20 ∧ (f = 0 → out ≠ []) ∧ k = f ∧
      s = ⟨[(0, .int .i64 x), (3, .int .u64 (m : Int)), (4, .slice (some ⟨0, 0, none⟩) out.length 0)], lkp [(0, .opn (u8R.cells out) 5 1)], 1⟩) 20
    ⟨_, (sub_of (g := 0) [NIL] (by decide) (by decide) (by repeat' first | exact ep_nil | exact ri hx.symm | refine ep_cons rfl ?_ ?_ | exact .int _ _ | exact .bool _ | exact .string _ | exact rel_slice rfl rfl | exact rel_nil rfl rfl | exact rel_ptr rfl | exact .nilPtr | exact .nilIface | exact .nilSlice) (by repeat' first | exact hp_nil | exact ri hx.symm | refine hp_cons rfl rfl ?_ ?_ | refine hp_void rfl rfl ?_ | exact ov_win _ | exact ov_opn _ rfl | exact ov_cells _ _ (by decide))), 20, x.toNat, [], rfl, by omega, by omega, rfl, by omega, rfl, rfl⟩ ?_
  rintro k s ⟨f, m, out, e, hm, hm2, hf, hne, rfl, rfl⟩
  by_cases hend : m = 0 ∧ out ≠ []
  · obtain ⟨rfl, ho⟩ := hend
    have hol : out.length ≠ 0 := by simpa using ho
    have hd : ((out.length : Int) == 0) = false := by simpa using ho
    have hres : decS x = bytesL out := by
      unfold decS; rw [e]; cases k with
      | zero => rfl
      | succ f => unfold digs; rw [if_pos ⟨rfl, ho⟩]
    rw [hres]
    repeat' first
      | (refine vq_op tab rfl rfl rfl rfl ?_)
      | (refine vq_op tab ⟨_, _, rfl, rfl, rfl⟩ rfl rfl rfl ?_)
      | (refine vn_op tab rfl rfl rfl rfl ?_)
      | (refine vq_op tab rfl rfl rfl (ev_text rfl rfl rfl rfl rfl rfl rfl rfl rfl) ?_)
      | (refine vq_op tab ⟨_, _, rfl, rfl, rfl⟩ rfl rfl (ev_text rfl rfl rfl rfl rfl rfl rfl rfl rfl) ?_)
      | (refine vs_op tab rfl rfl rfl ?_)
      | (refine vk_op ⟨_, _, rfl, rfl, rfl⟩ rfl rfl ?_)
      | (refine vku_op rfl rfl rfl rfl rfl ?_)
      | (refine vn_op tab ⟨_, _, rfl, rfl, rfl⟩ rfl rfl rfl ?_)
      | (refine vgd_op true rfl rfl rfl (by decide) ?_)
      | (refine vgd_op false rfl rfl rfl (by decide) ?_)
      | (refine vgd_op true rfl rfl rfl (by simp only [hd, decide_eq_true_eq, decide_eq_false_iff_not, Bool.not_eq_eq_eq_not, Bool.not_true, Bool.not_false, bne_iff_ne, bne_eq_false_iff_eq, beq_iff_eq, beq_eq_false_iff_ne, ne_eq, beq_self_eq_true, bne_self_eq_false, Bool.and_eq_true, Bool.and_eq_false_iff, Bool.or_eq_true, Bool.or_eq_false_iff, and_self, and_true, true_and, Bool.false_eq_true, Bool.true_eq_false, not_false_eq_true, not_true_eq_false]; first | done | omega) ?_)
      | (refine vgd_op false rfl rfl rfl (by simp only [hd, decide_eq_true_eq, decide_eq_false_iff_not, Bool.not_eq_eq_eq_not, Bool.not_true, Bool.not_false, bne_iff_ne, bne_eq_false_iff_eq, beq_iff_eq, beq_eq_false_iff_ne, ne_eq, beq_self_eq_true, bne_self_eq_false, Bool.and_eq_true, Bool.and_eq_false_iff, Bool.or_eq_true, Bool.or_eq_false_iff, and_self, and_true, true_and, Bool.false_eq_true, Bool.true_eq_false, not_false_eq_true, not_true_eq_false]; first | done | omega) ?_)
      | (refine vg_op rfl rfl rfl (fun _ => ?_) (fun _ => ?_))
      | (refine v_nil ?_)
      | (refine vw_seq ?_)
      | (refine vw_region ?_)
      | (refine vw_draw mixed ?_)
      | (refine dq_op tab rfl rfl rfl rfl ?_)
      | (refine dq_op tab ⟨_, _, rfl, rfl, rfl⟩ rfl rfl rfl ?_)
      | (refine dq_op tab rfl rfl (ev_text rfl rfl rfl rfl rfl rfl rfl rfl rfl) (ev_text rfl rfl rfl rfl rfl rfl rfl rfl rfl) ?_)
      | (refine dq_op tab ⟨_, _, rfl, rfl, rfl⟩ rfl (ev_text rfl rfl rfl rfl rfl rfl rfl rfl rfl) (ev_text rfl rfl rfl rfl rfl rfl rfl rfl rfl) ?_)
      | (refine dn_op tab rfl rfl rfl rfl ?_)
      | (refine ds_op tab rfl rfl rfl rfl ?_)
      | (refine dk_op ⟨_, _, rfl, rfl, rfl⟩ rfl ?_)
      | (refine dku_op rfl rfl rfl rfl ?_)
      | (refine dn_op tab ⟨_, _, rfl, rfl, rfl⟩ rfl rfl rfl ?_)
      | (refine ds_op tab ⟨_, _, rfl, rfl, rfl⟩ rfl rfl rfl ?_)
      | (refine dgd_op true rfl rfl rfl (by decide) ?_)
      | (refine dgd_op false rfl rfl rfl (by decide) ?_)
      | (refine dgd_op true rfl rfl rfl (by simp only [hd, decide_eq_true_eq, decide_eq_false_iff_not, Bool.not_eq_eq_eq_not, Bool.not_true, Bool.not_false, bne_iff_ne, bne_eq_false_iff_eq, beq_iff_eq, beq_eq_false_iff_ne, ne_eq, beq_self_eq_true, bne_self_eq_false, Bool.and_eq_true, Bool.and_eq_false_iff, Bool.or_eq_true, Bool.or_eq_false_iff, and_self, and_true, true_and, Bool.false_eq_true, Bool.true_eq_false, not_false_eq_true, not_true_eq_false]; first | done | omega) ?_)
      | (refine dgd_op false rfl rfl rfl (by simp only [hd, decide_eq_true_eq, decide_eq_false_iff_not, Bool.not_eq_eq_eq_not, Bool.not_true, Bool.not_false, bne_iff_ne, bne_eq_false_iff_eq, beq_iff_eq, beq_eq_false_iff_ne, ne_eq, beq_self_eq_true, bne_self_eq_false, Bool.and_eq_true, Bool.and_eq_false_iff, Bool.or_eq_true, Bool.or_eq_false_iff, and_self, and_true, true_and, Bool.false_eq_true, Bool.true_eq_false, not_false_eq_true, not_true_eq_false]; first | done | omega) ?_)
      | (refine dg_op rfl rfl rfl (fun _ => ?_) (fun _ => ?_))
      | (refine vd_nil (by kernel_rfl) ?_)
      | (refine vc_true rfl ?_)
      | (refine vc_false rfl ?_)
      | (refine vcd_true rfl (by decide) ?_)
      | (refine vcd_false rfl (by decide) ?_)
      | (refine vcd_true rfl (by simp only [hd, decide_eq_true_eq, decide_eq_false_iff_not, Bool.not_eq_eq_eq_not, Bool.not_true, Bool.not_false, bne_iff_ne, bne_eq_false_iff_eq, beq_iff_eq, beq_eq_false_iff_ne, ne_eq, beq_self_eq_true, bne_self_eq_false, Bool.and_eq_true, Bool.and_eq_false_iff, Bool.or_eq_true, Bool.or_eq_false_iff, and_self, and_true, true_and, Bool.false_eq_true, Bool.true_eq_false, not_false_eq_true, not_true_eq_false]; first | done | omega) ?_)
      | (refine vcd_false rfl (by simp only [hd, decide_eq_true_eq, decide_eq_false_iff_not, Bool.not_eq_eq_eq_not, Bool.not_true, Bool.not_false, bne_iff_ne, bne_eq_false_iff_eq, beq_iff_eq, beq_eq_false_iff_ne, ne_eq, beq_self_eq_true, bne_self_eq_false, Bool.and_eq_true, Bool.and_eq_false_iff, Bool.or_eq_true, Bool.or_eq_false_iff, and_self, and_true, true_and, Bool.false_eq_true, Bool.true_eq_false, not_false_eq_true, not_true_eq_false]; first | done | omega) ?_)
      | (refine vc_part rfl (fun _ => ?_) (fun _ => ?_))
      | (refine vw_block ?_)
      | (refine q_then ?_)
      | (refine q_norm ?_)
      | (refine q_here ?_)
      | (refine q_out rfl ?_)
      | (refine q_thenx ?_)
      | (refine q_thenr ?_)
      | (refine q_ret ?_)
      | (refine vw_skip ?_)
      | (refine vw_exit ?_)
      | (refine vw_ret ?_)
    exact ⟨.inr rfl, rfl⟩
  cases k with
  | zero => exact (hend ⟨by omega, hne rfl⟩).elim
  | succ f =>
    have hstep : digs (f + 1) m out = digs f (m / 10) ((48 + (m % 10 : Nat) : Int) :: out) := by
      rw [digs, if_neg hend]
    have hdig : IntKind.u8.wrap (IntKind.u64.wrap (48 + (m : Int).tmod 10)) = (48 + (m % 10 : Nat) : Int) := by
      rw [Int.tmod_eq_emod_of_nonneg (by omega), wrapu]
      have : IntKind.u8.wrap ((48 + (m : Int) % 10) % 18446744073709551616) = ((48 + (m : Int) % 10) % 18446744073709551616) % 256 := by simp [IntKind.wrap, IntKind.bits, IntKind.signed]
      rw [this]; omega
    have hquo : IntKind.u64.wrap ((m : Int).tdiv 10) = ((m / 10 : Nat) : Int) := by
      rw [Int.tdiv_eq_ediv_of_nonneg (by omega), wrapu]; omega
    by_cases hm0 : m = 0
    · have ho : out = [] := by
        by_cases h : out = []
        · exact h
        · exact (hend ⟨hm0, h⟩).elim
      have hg : ¬ (0 : Int) < (m : Int) := by omega
      have hd : ((out.length : Int) == 0) = true := by rw [ho]; rfl
      repeat' first
        | (refine vq_op tab rfl rfl rfl rfl ?_)
        | (refine vq_op tab ⟨_, _, rfl, rfl, rfl⟩ rfl rfl rfl ?_)
        | (refine vn_op tab rfl rfl rfl rfl ?_)
        | (refine vo_op rfl rfl rfl (opr_ev tab (ev_app u8R (xs := [IntKind.u8.wrap (IntKind.u64.wrap (48 + (m : Int).tmod 10))]) (ys := out) (m := out.length) rfl rfl rfl rfl rfl rfl (news_all u8R rfl rfl) rfl rfl (by show (1 + out.length) * 1 ≤ _; omega) (by omega))) ?_)
        | (refine vs_op tab rfl rfl rfl ?_)
        | (refine vk_op ⟨_, _, rfl, rfl, rfl⟩ rfl rfl ?_)
        | (refine vku_op rfl rfl rfl rfl rfl ?_)
        | (refine vn_op tab ⟨_, _, rfl, rfl, rfl⟩ rfl rfl rfl ?_)
        | (refine vgd_op true rfl rfl rfl (by decide) ?_)
        | (refine vgd_op false rfl rfl rfl (by decide) ?_)
        | (refine vgd_op true rfl rfl rfl (by simp only [hd, hg, decide_eq_true_eq, decide_eq_false_iff_not, Bool.not_eq_eq_eq_not, Bool.not_true, Bool.not_false, bne_iff_ne, bne_eq_false_iff_eq, beq_iff_eq, beq_eq_false_iff_ne, ne_eq, beq_self_eq_true, bne_self_eq_false, Bool.and_eq_true, Bool.and_eq_false_iff, Bool.or_eq_true, Bool.or_eq_false_iff, and_self, and_true, true_and, Bool.false_eq_true, Bool.true_eq_false, not_false_eq_true, not_true_eq_false]; first | done | omega) ?_)
        | (refine vgd_op false rfl rfl rfl (by simp only [hd, hg, decide_eq_true_eq, decide_eq_false_iff_not, Bool.not_eq_eq_eq_not, Bool.not_true, Bool.not_false, bne_iff_ne, bne_eq_false_iff_eq, beq_iff_eq, beq_eq_false_iff_ne, ne_eq, beq_self_eq_true, bne_self_eq_false, Bool.and_eq_true, Bool.and_eq_false_iff, Bool.or_eq_true, Bool.or_eq_false_iff, and_self, and_true, true_and, Bool.false_eq_true, Bool.true_eq_false, not_false_eq_true, not_true_eq_false]; first | done | omega) ?_)
        | (refine vg_op rfl rfl rfl (fun _ => ?_) (fun _ => ?_))
        | (refine v_nil ?_)
        | (refine vw_seq ?_)
        | (refine vw_region ?_)
        | (refine vw_draw mixed ?_)
        | (refine dq_op tab rfl rfl rfl rfl ?_)
        | (refine dq_op tab ⟨_, _, rfl, rfl, rfl⟩ rfl rfl rfl ?_)
        | (refine dn_op tab rfl rfl rfl rfl ?_)
        | (refine ds_op tab rfl rfl rfl rfl ?_)
        | (refine dk_op ⟨_, _, rfl, rfl, rfl⟩ rfl ?_)
        | (refine dku_op rfl rfl rfl rfl ?_)
        | (refine dn_op tab ⟨_, _, rfl, rfl, rfl⟩ rfl rfl rfl ?_)
        | (refine ds_op tab ⟨_, _, rfl, rfl, rfl⟩ rfl rfl rfl ?_)
        | (refine dgd_op true rfl rfl rfl (by decide) ?_)
        | (refine dgd_op false rfl rfl rfl (by decide) ?_)
        | (refine dgd_op true rfl rfl rfl (by simp only [hd, hg, decide_eq_true_eq, decide_eq_false_iff_not, Bool.not_eq_eq_eq_not, Bool.not_true, Bool.not_false, bne_iff_ne, bne_eq_false_iff_eq, beq_iff_eq, beq_eq_false_iff_ne, ne_eq, beq_self_eq_true, bne_self_eq_false, Bool.and_eq_true, Bool.and_eq_false_iff, Bool.or_eq_true, Bool.or_eq_false_iff, and_self, and_true, true_and, Bool.false_eq_true, Bool.true_eq_false, not_false_eq_true, not_true_eq_false]; first | done | omega) ?_)
        | (refine dgd_op false rfl rfl rfl (by simp only [hd, hg, decide_eq_true_eq, decide_eq_false_iff_not, Bool.not_eq_eq_eq_not, Bool.not_true, Bool.not_false, bne_iff_ne, bne_eq_false_iff_eq, beq_iff_eq, beq_eq_false_iff_ne, ne_eq, beq_self_eq_true, bne_self_eq_false, Bool.and_eq_true, Bool.and_eq_false_iff, Bool.or_eq_true, Bool.or_eq_false_iff, and_self, and_true, true_and, Bool.false_eq_true, Bool.true_eq_false, not_false_eq_true, not_true_eq_false]; first | done | omega) ?_)
        | (refine dg_op rfl rfl rfl (fun _ => ?_) (fun _ => ?_))
        | (refine vd_nil (by kernel_rfl) ?_)
        | (refine vc_true rfl ?_)
        | (refine vc_false rfl ?_)
        | (refine vcd_true rfl (by decide) ?_)
        | (refine vcd_false rfl (by decide) ?_)
        | (refine vcd_true rfl (by simp only [hd, hg, decide_eq_true_eq, decide_eq_false_iff_not, Bool.not_eq_eq_eq_not, Bool.not_true, Bool.not_false, bne_iff_ne, bne_eq_false_iff_eq, beq_iff_eq, beq_eq_false_iff_ne, ne_eq, beq_self_eq_true, bne_self_eq_false, Bool.and_eq_true, Bool.and_eq_false_iff, Bool.or_eq_true, Bool.or_eq_false_iff, and_self, and_true, true_and, Bool.false_eq_true, Bool.true_eq_false, not_false_eq_true, not_true_eq_false]; first | done | omega) ?_)
        | (refine vcd_false rfl (by simp only [hd, hg, decide_eq_true_eq, decide_eq_false_iff_not, Bool.not_eq_eq_eq_not, Bool.not_true, Bool.not_false, bne_iff_ne, bne_eq_false_iff_eq, beq_iff_eq, beq_eq_false_iff_ne, ne_eq, beq_self_eq_true, bne_self_eq_false, Bool.and_eq_true, Bool.and_eq_false_iff, Bool.or_eq_true, Bool.or_eq_false_iff, and_self, and_true, true_and, Bool.false_eq_true, Bool.true_eq_false, not_false_eq_true, not_true_eq_false]; first | done | omega) ?_)
        | (refine vc_part rfl (fun _ => ?_) (fun _ => ?_))
        | (refine vw_block ?_)
        | (refine q_then ?_)
        | (refine q_norm ?_)
        | (refine q_here ?_)
        | (refine q_out rfl ?_)
        | (refine q_thenx ?_)
        | (refine q_thenr ?_)
        | (refine q_ret ?_)
        | (refine vw_skip ?_)
        | (refine vw_exit ?_)
        | (refine vw_ret ?_)
      exact ⟨f, _, by omega, (sub_of (g := 0) [2] (by decide) (by decide) (by repeat' first | exact ep_nil | exact ri hquo.symm | exact rel_slice rfl (by simp; omega) | exact ov_opn u8R (by rw [hdig]; rfl) | refine ep_cons rfl ?_ ?_ | exact .int _ _ | exact .bool _ | exact .string _ | exact rel_slice rfl rfl | exact rel_nil rfl rfl | exact rel_ptr rfl | exact .nilPtr | exact .nilIface | exact .nilSlice) (by repeat' first | exact hp_nil | exact ri hquo.symm | exact rel_slice rfl (by simp; omega) | exact ov_opn u8R (by rw [hdig]; rfl) | refine hp_cons rfl rfl ?_ ?_ | refine hp_void rfl rfl ?_ | exact ov_win _ | exact ov_opn _ rfl | exact ov_cells _ _ (by decide))), f, m / 10, (48 + (m % 10 : Nat) : Int) :: out, by rw [e, hstep], by rw [Nat.pow_succ] at hm; omega, by omega, by simp; omega, fun _ => by simp, rfl, rfl⟩
    · have hg : (0 : Int) < (m : Int) := by omega
      repeat' first
        | (refine vq_op tab rfl rfl rfl rfl ?_)
        | (refine vq_op tab ⟨_, _, rfl, rfl, rfl⟩ rfl rfl rfl ?_)
        | (refine vn_op tab rfl rfl rfl rfl ?_)
        | (refine vo_op rfl rfl rfl (opr_ev tab (ev_app u8R (xs := [IntKind.u8.wrap (IntKind.u64.wrap (48 + (m : Int).tmod 10))]) (ys := out) (m := out.length) rfl rfl rfl rfl rfl rfl (news_all u8R rfl rfl) rfl rfl (by show (1 + out.length) * 1 ≤ _; omega) (by omega))) ?_)
        | (refine vs_op tab rfl rfl rfl ?_)
        | (refine vk_op ⟨_, _, rfl, rfl, rfl⟩ rfl rfl ?_)
        | (refine vku_op rfl rfl rfl rfl rfl ?_)
        | (refine vn_op tab ⟨_, _, rfl, rfl, rfl⟩ rfl rfl rfl ?_)
        | (refine vgd_op true rfl rfl rfl (by decide) ?_)
        | (refine vgd_op false rfl rfl rfl (by decide) ?_)
        | (refine vgd_op true rfl rfl rfl (by simp only [decide_eq_true_eq, decide_eq_false_iff_not, Bool.not_eq_eq_eq_not, Bool.not_true, Bool.not_false, bne_iff_ne, bne_eq_false_iff_eq, beq_iff_eq, beq_eq_false_iff_ne, ne_eq, beq_self_eq_true, bne_self_eq_false, Bool.and_eq_true, Bool.and_eq_false_iff, Bool.or_eq_true, Bool.or_eq_false_iff, and_self, and_true, true_and, Bool.false_eq_true, Bool.true_eq_false, not_false_eq_true, not_true_eq_false]; first | done | omega) ?_)
        | (refine vgd_op false rfl rfl rfl (by simp only [decide_eq_true_eq, decide_eq_false_iff_not, Bool.not_eq_eq_eq_not, Bool.not_true, Bool.not_false, bne_iff_ne, bne_eq_false_iff_eq, beq_iff_eq, beq_eq_false_iff_ne, ne_eq, beq_self_eq_true, bne_self_eq_false, Bool.and_eq_true, Bool.and_eq_false_iff, Bool.or_eq_true, Bool.or_eq_false_iff, and_self, and_true, true_and, Bool.false_eq_true, Bool.true_eq_false, not_false_eq_true, not_true_eq_false]; first | done | omega) ?_)
        | (refine vg_op rfl rfl rfl (fun _ => ?_) (fun _ => ?_))
        | (refine v_nil ?_)
        | (refine vw_seq ?_)
        | (refine vw_region ?_)
        | (refine vw_draw mixed ?_)
        | (refine dq_op tab rfl rfl rfl rfl ?_)
        | (refine dq_op tab ⟨_, _, rfl, rfl, rfl⟩ rfl rfl rfl ?_)
        | (refine dn_op tab rfl rfl rfl rfl ?_)
        | (refine ds_op tab rfl rfl rfl rfl ?_)
        | (refine dk_op ⟨_, _, rfl, rfl, rfl⟩ rfl ?_)
        | (refine dku_op rfl rfl rfl rfl ?_)
        | (refine dn_op tab ⟨_, _, rfl, rfl, rfl⟩ rfl rfl rfl ?_)
        | (refine ds_op tab ⟨_, _, rfl, rfl, rfl⟩ rfl rfl rfl ?_)
        | (refine dgd_op true rfl rfl rfl (by decide) ?_)
        | (refine dgd_op false rfl rfl rfl (by decide) ?_)
        | (refine dgd_op true rfl rfl rfl (by simp only [decide_eq_true_eq, decide_eq_false_iff_not, Bool.not_eq_eq_eq_not, Bool.not_true, Bool.not_false, bne_iff_ne, bne_eq_false_iff_eq, beq_iff_eq, beq_eq_false_iff_ne, ne_eq, beq_self_eq_true, bne_self_eq_false, Bool.and_eq_true, Bool.and_eq_false_iff, Bool.or_eq_true, Bool.or_eq_false_iff, and_self, and_true, true_and, Bool.false_eq_true, Bool.true_eq_false, not_false_eq_true, not_true_eq_false]; first | done | omega) ?_)
        | (refine dgd_op false rfl rfl rfl (by simp only [decide_eq_true_eq, decide_eq_false_iff_not, Bool.not_eq_eq_eq_not, Bool.not_true, Bool.not_false, bne_iff_ne, bne_eq_false_iff_eq, beq_iff_eq, beq_eq_false_iff_ne, ne_eq, beq_self_eq_true, bne_self_eq_false, Bool.and_eq_true, Bool.and_eq_false_iff, Bool.or_eq_true, Bool.or_eq_false_iff, and_self, and_true, true_and, Bool.false_eq_true, Bool.true_eq_false, not_false_eq_true, not_true_eq_false]; first | done | omega) ?_)
        | (refine dg_op rfl rfl rfl (fun _ => ?_) (fun _ => ?_))
        | (refine vd_nil (by kernel_rfl) ?_)
        | (refine vc_true rfl ?_)
        | (refine vc_false rfl ?_)
        | (refine vcd_true rfl (by decide) ?_)
        | (refine vcd_false rfl (by decide) ?_)
        | (refine vcd_true rfl (by simp only [decide_eq_true_eq, decide_eq_false_iff_not, Bool.not_eq_eq_eq_not, Bool.not_true, Bool.not_false, bne_iff_ne, bne_eq_false_iff_eq, beq_iff_eq, beq_eq_false_iff_ne, ne_eq, beq_self_eq_true, bne_self_eq_false, Bool.and_eq_true, Bool.and_eq_false_iff, Bool.or_eq_true, Bool.or_eq_false_iff, and_self, and_true, true_and, Bool.false_eq_true, Bool.true_eq_false, not_false_eq_true, not_true_eq_false]; first | done | omega) ?_)
        | (refine vcd_false rfl (by simp only [decide_eq_true_eq, decide_eq_false_iff_not, Bool.not_eq_eq_eq_not, Bool.not_true, Bool.not_false, bne_iff_ne, bne_eq_false_iff_eq, beq_iff_eq, beq_eq_false_iff_ne, ne_eq, beq_self_eq_true, bne_self_eq_false, Bool.and_eq_true, Bool.and_eq_false_iff, Bool.or_eq_true, Bool.or_eq_false_iff, and_self, and_true, true_and, Bool.false_eq_true, Bool.true_eq_false, not_false_eq_true, not_true_eq_false]; first | done | omega) ?_)
        | (refine vc_part rfl (fun _ => ?_) (fun _ => ?_))
        | (refine vw_block ?_)
        | (refine q_then ?_)
        | (refine q_norm ?_)
        | (refine q_here ?_)
        | (refine q_out rfl ?_)
        | (refine q_thenx ?_)
        | (refine q_thenr ?_)
        | (refine q_ret ?_)
        | (refine vw_skip ?_)
        | (refine vw_exit ?_)
        | (refine vw_ret ?_)
      exact ⟨f, _, by omega, (sub_of (g := 0) [2] (by decide) (by decide) (by repeat' first | exact ep_nil | exact ri hquo.symm | exact rel_slice rfl (by simp; omega) | exact ov_opn u8R (by rw [hdig]; rfl) | refine ep_cons rfl ?_ ?_ | exact .int _ _ | exact .bool _ | exact .string _ | exact rel_slice rfl rfl | exact rel_nil rfl rfl | exact rel_ptr rfl | exact .nilPtr | exact .nilIface | exact .nilSlice) (by repeat' first | exact hp_nil | exact ri hquo.symm | exact rel_slice rfl (by simp; omega) | exact ov_opn u8R (by rw [hdig]; rfl) | refine hp_cons rfl rfl ?_ ?_ | refine hp_void rfl rfl ?_ | exact ov_win _ | exact ov_opn _ rfl | exact ov_cells _ _ (by decide))), f, m / 10, (48 + (m % 10 : Nat) : Int) :: out, by rw [e, hstep], by rw [Nat.pow_succ] at hm; omega, by omega, by simp; omega, fun _ => by simp, rfl, rfl⟩
end Go.Proofs.Ytenbhladboofeaa
