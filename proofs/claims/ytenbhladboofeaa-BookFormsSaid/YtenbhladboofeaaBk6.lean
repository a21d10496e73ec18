/- Law 2: BookForms. -/
import Derived.Test.YtenbhladboofeaaBk3
import Derived.Test.YtenbhladboofeaaDe0
namespace Go.Proofs.Ytenbhladboofeaa
open Go Vm IntWalk
set_option linter.unusedVariables false
set_option linter.unusedSimpArgs false
def tT (i : Nat) : ByteArray := (⟨#[116]⟩ : ByteArray) ++ decS (i : Int)
def tl (i : Nat) : List ByteArray := (List.range i).map tT
theorem tl_len (i : Nat) : (tl i).length = i := by simp [tl]
theorem tl_next (i : Nat) : tl (i + 1) = tl i ++ [tT i] := by simp [tl, List.range_succ]
theorem tl_new : ∀ i : Fin 16, ¬ badT (tT i) ∧ findB (tT i) (tl i) = none := by decide
theorem tl_more : ∀ i : Fin 17, findB ⟨#[109, 111, 114, 101]⟩ (tl i) = none := by decide
theorem tl_t0 : ∀ i : Fin 16, findB ⟨#[116, 48]⟩ (tl (i + 1)) = some 0 := by decide
theorem dec_size : ∀ i : Fin 16, (decS i).size ≤ 20 := by decide
theorem ev_cat {env : List (Nat × Value)} {V : Heap} {n t u : Nat} {x y : Operand} {a b : ByteArray} (hx : rd env x = some (.string a)) (hy : rd env y = some (.string b)) (hs : a.size + b.size ≤ 4611686018427387904) : evOp tys env V n (.binOp .add t x y u) = some ⟨.string (a ++ b), [], 0, []⟩ := by
  simp only [evOp, hx, hy, evBin, evStr, if_pos hs]; rfl
theorem ev_make {env : List (Nat × Value)} {V : Heap} {n t e : Nat} {x y : Operand} {ti te : TI} {l : Int} (hx : rd env x = some (.int .i64 l)) (hy : rd env y = some (.int .i64 l)) (ht : tys t = some ti) (hd : ti.desc = .slice e) (he : tys e = some te) (hz : te.zero.cells.toList = [.int .u8 0]) (hs : te.size = 1) (hb : te.bytes = 1) (h0 : 0 ≤ l) (h1 : l ≤ 140737488355328) :
    evOp tys env V n (.makeSlice t x y) = some ⟨.slice (some ⟨n, 0, none⟩) l.toNat 0, [(n, some (.opn (u8R.cells (List.replicate l.toNat 0)) e 1))], 1, []⟩ := by
  simp only [evOp, hx, hy, evMakeSlice, ht, hd, he, hs, hb, hz]
  rw [if_pos ⟨h0, trivial, by omega, by omega, h1⟩, ← zeros_rows u8R 0]; rfl
set_option maxHeartbeats 16000000 in
theorem BookForms_law (a b : Int) : Fun Try.prog 5 [.int .i64 a, .int .i64 b] (.bool true) := by
  refine fun_of_vw tab Try.func5 rfl rfl (by simp [Try.f5]) (lrel_cons (.int _ _) (lrel_cons (.int _ _) lrel_nil)) (.bool _) ?_
  have hK : 1 ≤ IntKind.i64.wrap (1 + bits .and .i64 a 15) ∧ IntKind.i64.wrap (1 + bits .and .i64 a 15) ≤ 16 := by rw [and15, IntKind.wrap_i64]; omega
  have hD : 1 ≤ IntKind.i64.wrap (1 + bits .and .i64 b 1023) ∧ IntKind.i64.wrap (1 + bits .and .i64 b 1023) ≤ 1024 := by rw [and1023, IntKind.wrap_i64]; omega
  repeat' first
    | (refine vq_op tab rfl rfl rfl rfl ?_)
    | (refine vq_op tab ⟨_, _, rfl, rfl, rfl⟩ rfl rfl rfl ?_)
    | (refine vn_op tab rfl rfl rfl rfl ?_)
    | (refine vf_op rfl rfl rfl rfl rfl rfl callable_19 (book_awake) ?_)
    | (refine vf_op ⟨_, _, rfl, rfl, rfl⟩ rfl rfl rfl rfl rfl callable_19 (book_awake) ?_)
    | (refine vf_op rfl rfl rfl rfl rfl rfl callable_16 (new_bad (by unfold badNew; simp only [and1023, IntKind.wrap_i64]; omega)) ?_)
    | (refine vf_op ⟨_, _, rfl, rfl, rfl⟩ rfl rfl rfl rfl rfl callable_16 (new_bad (by unfold badNew; simp only [and1023, IntKind.wrap_i64]; omega)) ?_)
    | (refine vt_op rfl rfl rfl rfl rfl rfl callable_16 (new_tri (by unfold badNew; omega)) ?_)
    | (refine vt_op ⟨_, _, rfl, rfl, rfl⟩ rfl rfl rfl rfl rfl callable_16 (new_tri (by unfold badNew; omega)) ?_)
    | (refine vf_op rfl rfl rfl rfl rfl rfl callable_18 (num_fun _) ?_)
    | (refine vf_op ⟨_, _, rfl, rfl, rfl⟩ rfl rfl rfl rfl rfl callable_18 (num_fun _) ?_)
    | (refine vs_op tab rfl rfl rfl ?_)
    | (refine vk_op ⟨_, _, rfl, rfl, rfl⟩ rfl rfl ?_)
    | (refine vku_op rfl rfl rfl rfl rfl ?_)
    | (refine vn_op tab ⟨_, _, rfl, rfl, rfl⟩ rfl rfl rfl ?_)
    | (refine vgd_op true rfl rfl rfl (by decide) ?_)
    | (refine vgd_op false rfl rfl rfl (by decide) ?_)
    | (refine vgd_op true rfl rfl rfl (by simp only [decide_eq_true_eq, decide_eq_false_iff_not, Bool.not_eq_eq_eq_not, Bool.not_true, Bool.not_false, bne_iff_ne, bne_eq_false_iff_eq, beq_iff_eq, beq_eq_false_iff_ne, ne_eq, beq_self_eq_true, bne_self_eq_false, Bool.and_eq_true, Bool.and_eq_false_iff, Bool.or_eq_true, Bool.or_eq_false_iff, and_self, and_true, true_and, Bool.false_eq_true, Bool.true_eq_false, not_false_eq_true, not_true_eq_false]; first | done | omega) ?_)
    | (refine vgd_op false rfl rfl rfl (by simp only [decide_eq_true_eq, decide_eq_false_iff_not, Bool.not_eq_eq_eq_not, Bool.not_true, Bool.not_false, bne_iff_ne, bne_eq_false_iff_eq, beq_iff_eq, beq_eq_false_iff_ne, ne_eq, beq_self_eq_true, bne_self_eq_false, Bool.and_eq_true, Bool.and_eq_false_iff, Bool.or_eq_true, Bool.or_eq_false_iff, and_self, and_true, true_and, Bool.false_eq_true, Bool.true_eq_false, not_false_eq_true, not_true_eq_false]; first | done | omega) ?_)
    | (refine vg_op rfl rfl rfl (fun _ => ?_) (fun _ => ?_))
    | (refine v_nil ?_)
    | (refine vw_seq ?_)
    | (refine vw_region ?_)
    | (refine vw_draw mixed ?_)
    | (refine dq_op tab rfl rfl rfl rfl ?_)
    | (refine dq_op tab ⟨_, _, rfl, rfl, rfl⟩ rfl rfl rfl ?_)
    | (refine df_op rfl rfl rfl rfl rfl callable_19 (book_awake) ?_)
    | (refine df_op ⟨_, _, rfl, rfl, rfl⟩ rfl rfl rfl rfl callable_19 (book_awake) ?_)
    | (refine df_op rfl rfl rfl rfl rfl callable_16 (new_bad (by unfold badNew; simp only [and1023, IntKind.wrap_i64]; omega)) ?_)
    | (refine df_op ⟨_, _, rfl, rfl, rfl⟩ rfl rfl rfl rfl callable_16 (new_bad (by unfold badNew; simp only [and1023, IntKind.wrap_i64]; omega)) ?_)
    | (refine df_op rfl rfl rfl rfl rfl callable_18 (num_fun _) ?_)
    | (refine df_op ⟨_, _, rfl, rfl, rfl⟩ rfl rfl rfl rfl callable_18 (num_fun _) ?_)
    | (refine dn_op tab rfl rfl rfl rfl ?_)
    | (refine ds_op tab rfl rfl rfl rfl ?_)
    | (refine dk_op ⟨_, _, rfl, rfl, rfl⟩ rfl ?_)
    | (refine dku_op rfl rfl rfl rfl ?_)
    | (refine dn_op tab ⟨_, _, rfl, rfl, rfl⟩ rfl rfl rfl ?_)
    | (refine ds_op tab ⟨_, _, rfl, rfl, rfl⟩ rfl rfl rfl ?_)
    | (refine dgd_op true rfl rfl rfl (by decide) ?_)
    | (refine dgd_op false rfl rfl rfl (by decide) ?_)
    | (refine dgd_op true rfl rfl rfl (by simp only [decide_eq_true_eq, decide_eq_false_iff_not, Bool.not_eq_eq_eq_not, Bool.not_true, Bool.not_false, bne_iff_ne, bne_eq_false_iff_eq, beq_iff_eq, beq_eq_false_iff_ne, ne_eq, beq_self_eq_true, bne_self_eq_false, Bool.and_eq_true, Bool.and_eq_false_iff, Bool.or_eq_true, Bool.or_eq_false_iff, and_self, and_true, true_and, Bool.false_eq_true, Bool.true_eq_false, not_false_eq_true, not_true_eq_false]; first | done | omega) ?_)
    | (refine dgd_op false rfl rfl rfl (by simp only [decide_eq_true_eq, decide_eq_false_iff_not, Bool.not_eq_eq_eq_not, Bool.not_true, Bool.not_false, bne_iff_ne, bne_eq_false_iff_eq, beq_iff_eq, beq_eq_false_iff_ne, ne_eq, beq_self_eq_true, bne_self_eq_false, Bool.and_eq_true, Bool.and_eq_false_iff, Bool.or_eq_true, Bool.or_eq_false_iff, and_self, and_true, true_and, Bool.false_eq_true, Bool.true_eq_false, not_false_eq_true, not_true_eq_false]; first | done | omega) ?_)
    | (refine dg_op rfl rfl rfl (fun _ => ?_) (fun _ => ?_))
    | (refine vd_nil (by kernel_rfl) ?_)
    | (refine vc_true rfl ?_)
    | (refine vc_false rfl ?_)
    | (refine vcd_true rfl (by decide) ?_)
    | (refine vcd_false rfl (by decide) ?_)
    | (refine vcd_true rfl (by simp only [decide_eq_true_eq, decide_eq_false_iff_not, Bool.not_eq_eq_eq_not, Bool.not_true, Bool.not_false, bne_iff_ne, bne_eq_false_iff_eq, beq_iff_eq, beq_eq_false_iff_ne, ne_eq, beq_self_eq_true, bne_self_eq_false, Bool.and_eq_true, Bool.and_eq_false_iff, Bool.or_eq_true, Bool.or_eq_false_iff, and_self, and_true, true_and, Bool.false_eq_true, Bool.true_eq_false, not_false_eq_true, not_true_eq_false]; first | done | omega) ?_)
    | (refine vcd_false rfl (by simp only [decide_eq_true_eq, decide_eq_false_iff_not, Bool.not_eq_eq_eq_not, Bool.not_true, Bool.not_false, bne_iff_ne, bne_eq_false_iff_eq, beq_iff_eq, beq_eq_false_iff_ne, ne_eq, beq_self_eq_true, bne_self_eq_false, Bool.and_eq_true, Bool.and_eq_false_iff, Bool.or_eq_true, Bool.or_eq_false_iff, and_self, and_true, true_and, Bool.false_eq_true, Bool.true_eq_false, not_false_eq_true, not_true_eq_false]; first | done | omega) ?_)
    | (refine vc_part rfl (fun _ => ?_) (fun _ => ?_))
    | (refine vw_block ?_)
    | (refine q_then ?_)
    | (refine q_norm ?_)
    | (refine q_here ?_)
    | (refine q_out rfl ?_)
    | (refine q_thenx ?_)
    | (refine q_thenr ?_)
    | (refine q_ret ?_)
    | (refine vw_skip ?_)
    | (refine vw_exit ?_)
    | (refine vw_ret ?_)
  refine vw_loop_sub (fun k s => ∃ (i : Int), 0 ≤ i ∧ i ≤ IntKind.i64.wrap (1 + bits .and .i64 a 15) ∧ k = (IntKind.i64.wrap (1 + bits .and .i64 a 15) - i).toNat ∧
      s = ⟨[(5, .int .i64 (IntKind.i64.wrap (1 + bits .and .i64 b 1023))), (7, .int .i64 200), (9, .int .i64 200), (10, .int .i64 (IntKind.i64.wrap (1 + bits .and .i64 a 15))), (11, .pointer (some ⟨0, 0, none⟩)), (13, .int .i64 i)],
        lkp [(0, bookC (IntKind.i64.wrap (1 + bits .and .i64 a 15)) 1 (tl i.toNat).length 2), (1, .opn (strR.cells (tl i.toNat)) 9 1), (2, .map (ents 0 (tl i.toNat)) (tl i.toNat).length)], 3⟩) (IntKind.i64.wrap (1 + bits .and .i64 a 15)).toNat
    ⟨_, (sub_of (g := 0) [0, 1, 2] (by decide) (by decide) (by repeat' first | exact ep_nil | exact ov_book (rel_slice rfl rfl) (rel_map rfl) | exact ov_ents rfl rfl | refine ep_cons rfl ?_ ?_ | exact .int _ _ | exact .bool _ | exact .string _ | exact rel_slice rfl rfl | exact rel_nil rfl rfl | exact rel_ptr rfl | exact .nilPtr | exact .nilIface | exact .nilSlice) (by repeat' first | exact hp_nil | exact ov_book (rel_slice rfl rfl) (rel_map rfl) | exact ov_ents rfl rfl | refine hp_cons rfl rfl ?_ ?_ | refine hp_void rfl rfl ?_ | exact ov_win _ | exact ov_opn _ rfl | exact ov_cells _ _ (by decide))), 0, by omega, by omega, by simp, rfl⟩ ?_
  rintro k s ⟨i, i0, i1, rfl, rfl⟩
  have hi1 : IntKind.i64.wrap (i + 1) = i + 1 := i64_in _ (by omega)
  obtain ⟨q, rfl⟩ : ∃ q : Nat, i = (q : Int) := ⟨i.toNat, by omega⟩
  have hl : ((tl ((q : Int)).toNat).length : Int) ≤ 65536 := by rw [tl_len]; omega
  by_cases hj : (q : Int) < IntKind.i64.wrap (1 + bits .and .i64 a 15)
  · have hnew := tl_new ⟨q, by omega⟩
    have hds := dec_size ⟨q, by omega⟩
    have hr : nameB (IntKind.i64.wrap (1 + bits .and .i64 a 15)) (tl ((q : Int)).toNat) ((⟨#[116]⟩ : ByteArray) ++ decS (q : Int)) = ((q : Int), 0, tl ((q : Int) + 1).toNat) := by
      have h1 := name_new (most := IntKind.i64.wrap (1 + bits .and .i64 a 15)) (l := tl q) (s := tT q) hnew.1 hnew.2 (by rw [tl_len]; omega)
      rw [tl_len] at h1
      rw [show ((q : Int) + 1).toNat = q + 1 by omega, tl_next]; exact h1
    repeat' first
      | (refine vq_op tab rfl rfl rfl rfl ?_)
      | (refine vq_op tab ⟨_, _, rfl, rfl, rfl⟩ rfl rfl rfl ?_)
      | (refine vn_op tab rfl rfl rfl rfl ?_)
      | (refine vf_op rfl rfl rfl rfl rfl rfl callable_28 (dec_fun (by omega) (by omega)) ?_)
      | (refine vf_op ⟨_, _, rfl, rfl, rfl⟩ rfl rfl rfl rfl rfl callable_28 (dec_fun (by omega) (by omega)) ?_)
      | (refine vq_op tab rfl rfl rfl (ev_cat rfl rfl (by show 1 + _ ≤ _; have := hds; simp only at this; omega)) ?_)
      | (refine vq_op tab ⟨_, _, rfl, rfl, rfl⟩ rfl rfl (ev_cat rfl rfl (by show 1 + _ ≤ _; have := hds; simp only at this; omega)) ?_)
      | (refine vt_op rfl rfl rfl rfl rfl rfl callable_22 (name_as (l := tl ((q : Int)).toNat) ((q : Int), 0, tl ((q : Int) + 1).toNat) hr ⟨rfl, rfl, rfl, by decide, by decide, by decide⟩ (by decide) hl) ?_)
      | (refine vt_op ⟨_, _, rfl, rfl, rfl⟩ rfl rfl rfl rfl rfl callable_22 (name_as (l := tl ((q : Int)).toNat) ((q : Int), 0, tl ((q : Int) + 1).toNat) hr ⟨rfl, rfl, rfl, by decide, by decide, by decide⟩ (by decide) hl) ?_)
      | (refine vf_op rfl rfl rfl rfl rfl rfl callable_18 (num_fun _) ?_)
      | (refine vf_op ⟨_, _, rfl, rfl, rfl⟩ rfl rfl rfl rfl rfl callable_18 (num_fun _) ?_)
      | (refine vs_op tab rfl rfl rfl ?_)
      | (refine vk_op ⟨_, _, rfl, rfl, rfl⟩ rfl rfl ?_)
      | (refine vku_op rfl rfl rfl rfl rfl ?_)
      | (refine vn_op tab ⟨_, _, rfl, rfl, rfl⟩ rfl rfl rfl ?_)
      | (refine vgd_op true rfl rfl rfl (by decide) ?_)
      | (refine vgd_op false rfl rfl rfl (by decide) ?_)
      | (refine vgd_op true rfl rfl rfl (by simp only [hj, decide_eq_true_eq, decide_eq_false_iff_not, Bool.not_eq_eq_eq_not, Bool.not_true, Bool.not_false, bne_iff_ne, bne_eq_false_iff_eq, beq_iff_eq, beq_eq_false_iff_ne, ne_eq, beq_self_eq_true, bne_self_eq_false, Bool.and_eq_true, Bool.and_eq_false_iff, Bool.or_eq_true, Bool.or_eq_false_iff, and_self, and_true, true_and, Bool.false_eq_true, Bool.true_eq_false, not_false_eq_true, not_true_eq_false]; first | done | omega) ?_)
      | (refine vgd_op false rfl rfl rfl (by simp only [hj, decide_eq_true_eq, decide_eq_false_iff_not, Bool.not_eq_eq_eq_not, Bool.not_true, Bool.not_false, bne_iff_ne, bne_eq_false_iff_eq, beq_iff_eq, beq_eq_false_iff_ne, ne_eq, beq_self_eq_true, bne_self_eq_false, Bool.and_eq_true, Bool.and_eq_false_iff, Bool.or_eq_true, Bool.or_eq_false_iff, and_self, and_true, true_and, Bool.false_eq_true, Bool.true_eq_false, not_false_eq_true, not_true_eq_false]; first | done | omega) ?_)
      | (refine vg_op rfl rfl rfl (fun _ => ?_) (fun _ => ?_))
      | (refine v_nil ?_)
      | (refine vw_seq ?_)
      | (refine vw_region ?_)
      | (refine vw_draw mixed ?_)
      | (refine dq_op tab rfl rfl rfl rfl ?_)
      | (refine dq_op tab ⟨_, _, rfl, rfl, rfl⟩ rfl rfl rfl ?_)
      | (refine df_op rfl rfl rfl rfl rfl callable_28 (dec_fun (by omega) (by omega)) ?_)
      | (refine df_op ⟨_, _, rfl, rfl, rfl⟩ rfl rfl rfl rfl callable_28 (dec_fun (by omega) (by omega)) ?_)
      | (refine dq_op tab rfl rfl (ev_cat rfl rfl (by show 1 + _ ≤ _; have := hds; simp only at this; omega)) (ev_cat rfl rfl (by show 1 + _ ≤ _; have := hds; simp only at this; omega)) ?_)
      | (refine dq_op tab ⟨_, _, rfl, rfl, rfl⟩ rfl (ev_cat rfl rfl (by show 1 + _ ≤ _; have := hds; simp only at this; omega)) (ev_cat rfl rfl (by show 1 + _ ≤ _; have := hds; simp only at this; omega)) ?_)
      | (refine df_op rfl rfl rfl rfl rfl callable_18 (num_fun _) ?_)
      | (refine df_op ⟨_, _, rfl, rfl, rfl⟩ rfl rfl rfl rfl callable_18 (num_fun _) ?_)
      | (refine dn_op tab rfl rfl rfl rfl ?_)
      | (refine ds_op tab rfl rfl rfl rfl ?_)
      | (refine dk_op ⟨_, _, rfl, rfl, rfl⟩ rfl ?_)
      | (refine dku_op rfl rfl rfl rfl ?_)
      | (refine dn_op tab ⟨_, _, rfl, rfl, rfl⟩ rfl rfl rfl ?_)
      | (refine ds_op tab ⟨_, _, rfl, rfl, rfl⟩ rfl rfl rfl ?_)
      | (refine dgd_op true rfl rfl rfl (by decide) ?_)
      | (refine dgd_op false rfl rfl rfl (by decide) ?_)
      | (refine dgd_op true rfl rfl rfl (by simp only [hj, decide_eq_true_eq, decide_eq_false_iff_not, Bool.not_eq_eq_eq_not, Bool.not_true, Bool.not_false, bne_iff_ne, bne_eq_false_iff_eq, beq_iff_eq, beq_eq_false_iff_ne, ne_eq, beq_self_eq_true, bne_self_eq_false, Bool.and_eq_true, Bool.and_eq_false_iff, Bool.or_eq_true, Bool.or_eq_false_iff, and_self, and_true, true_and, Bool.false_eq_true, Bool.true_eq_false, not_false_eq_true, not_true_eq_false]; first | done | omega) ?_)
      | (refine dgd_op false rfl rfl rfl (by simp only [hj, decide_eq_true_eq, decide_eq_false_iff_not, Bool.not_eq_eq_eq_not, Bool.not_true, Bool.not_false, bne_iff_ne, bne_eq_false_iff_eq, beq_iff_eq, beq_eq_false_iff_ne, ne_eq, beq_self_eq_true, bne_self_eq_false, Bool.and_eq_true, Bool.and_eq_false_iff, Bool.or_eq_true, Bool.or_eq_false_iff, and_self, and_true, true_and, Bool.false_eq_true, Bool.true_eq_false, not_false_eq_true, not_true_eq_false]; first | done | omega) ?_)
      | (refine dg_op rfl rfl rfl (fun _ => ?_) (fun _ => ?_))
      | (refine vd_nil (by kernel_rfl) ?_)
      | (refine vc_true rfl ?_)
      | (refine vc_false rfl ?_)
      | (refine vcd_true rfl (by decide) ?_)
      | (refine vcd_false rfl (by decide) ?_)
      | (refine vcd_true rfl (by simp only [hj, decide_eq_true_eq, decide_eq_false_iff_not, Bool.not_eq_eq_eq_not, Bool.not_true, Bool.not_false, bne_iff_ne, bne_eq_false_iff_eq, beq_iff_eq, beq_eq_false_iff_ne, ne_eq, beq_self_eq_true, bne_self_eq_false, Bool.and_eq_true, Bool.and_eq_false_iff, Bool.or_eq_true, Bool.or_eq_false_iff, and_self, and_true, true_and, Bool.false_eq_true, Bool.true_eq_false, not_false_eq_true, not_true_eq_false]; first | done | omega) ?_)
      | (refine vcd_false rfl (by simp only [hj, decide_eq_true_eq, decide_eq_false_iff_not, Bool.not_eq_eq_eq_not, Bool.not_true, Bool.not_false, bne_iff_ne, bne_eq_false_iff_eq, beq_iff_eq, beq_eq_false_iff_ne, ne_eq, beq_self_eq_true, bne_self_eq_false, Bool.and_eq_true, Bool.and_eq_false_iff, Bool.or_eq_true, Bool.or_eq_false_iff, and_self, and_true, true_and, Bool.false_eq_true, Bool.true_eq_false, not_false_eq_true, not_true_eq_false]; first | done | omega) ?_)
      | (refine vc_part rfl (fun _ => ?_) (fun _ => ?_))
      | (refine vw_block ?_)
      | (refine q_then ?_)
      | (refine q_norm ?_)
      | (refine q_here ?_)
      | (refine q_out rfl ?_)
      | (refine q_thenx ?_)
      | (refine q_thenr ?_)
      | (refine q_ret ?_)
      | (refine vw_skip ?_)
      | (refine vw_exit ?_)
      | (refine vw_ret ?_)
    exact ⟨(IntKind.i64.wrap (1 + bits .and .i64 a 15) - ((q : Int) + 1)).toNat, _, by omega, (sub_of (g := 0) [0, 3, 2] (by decide) (by decide) (by repeat' first | exact ep_nil | exact ri hi1.symm | exact ov_book (rel_slice rfl rfl) (rel_map rfl) | exact ov_ents rfl rfl | refine ep_cons rfl ?_ ?_ | exact .int _ _ | exact .bool _ | exact .string _ | exact rel_slice rfl rfl | exact rel_nil rfl rfl | exact rel_ptr rfl | exact .nilPtr | exact .nilIface | exact .nilSlice) (by repeat' first | exact hp_nil | exact ri hi1.symm | exact ov_book (rel_slice rfl rfl) (rel_map rfl) | exact ov_ents rfl rfl | refine hp_cons rfl rfl ?_ ?_ | refine hp_void rfl rfl ?_ | exact ov_win _ | exact ov_opn _ rfl | exact ov_cells _ _ (by decide))), (q : Int) + 1, by omega, by omega, rfl, rfl⟩
  have hq : (q : Int) = IntKind.i64.wrap (1 + bits .and .i64 a 15) := by omega
  have h1 := tl_more ⟨q, by omega⟩
  have h2 : findB ⟨#[116, 48]⟩ (tl q) = some 0 := by
    have := tl_t0 ⟨q - 1, by omega⟩
    simp only at this; rwa [show q - 1 + 1 = q by omega] at this
  have hm : (IntKind.i64.wrap (1 + bits .and .i64 a 15)) ≤ ((tl ((q : Int)).toNat).length : Int) := by rw [tl_len]; omega
  have hs1 : (findB ⟨#[109, 111, 114, 101]⟩ (tl ((q : Int)).toNat)).isSome = false := by rw [show ((q : Int)).toNat = q by omega]; simp only at h1; rw [h1]; rfl
  have ht1 : termE (tl ((q : Int)).toNat) (IntKind.i64.wrap (IntKind.i64.wrap (IntKind.i64.wrap (1 + bits .and .i64 a 15) - 1) + IntKind.i64.wrap (1 + bits .and .i64 b 1023))) = 202 := by
    unfold termE; rw [if_pos]; rw [i64_in (_ - 1) (by omega), i64_in _ (by omega), tl_len]; omega
  have ht2 : termE (tl ((q : Int)).toNat) (IntKind.i64.wrap (0 - IntKind.i64.wrap (1 + bits .and .i64 b 1023))) = 202 := by
    unfold termE; rw [if_pos]; rw [i64_in _ (by omega)]; omega
  have hlen : ((tl ((q : Int)).toNat).length : Int) = IntKind.i64.wrap (1 + bits .and .i64 a 15) := by rw [tl_len]; omega
  have hbig : badT (bytesL (List.replicate (IntKind.i64.wrap (512 + IntKind.i64.wrap (1 + bits .and .i64 b 1023))).toNat 0)) := by
    right; rw [i64_in _ (by omega)]; show 512 < (List.toArray _).size; simp; omega
  repeat' first
    | (refine vq_op tab rfl rfl rfl rfl ?_)
    | (refine vq_op tab ⟨_, _, rfl, rfl, rfl⟩ rfl rfl rfl ?_)
    | (refine vn_op tab rfl rfl rfl rfl ?_)
    | (refine vt_op rfl rfl rfl rfl rfl rfl callable_22 (name_as (l := tl ((q : Int)).toNat) (s := ⟨#[109, 111, 114, 101]⟩) (0, 201, tl ((q : Int)).toNat) (name_full (by decide) h1 hm) ⟨rfl, rfl, rfl, by decide, by decide, by decide⟩ (by decide) hl) ?_)
    | (refine vt_op ⟨_, _, rfl, rfl, rfl⟩ rfl rfl rfl rfl rfl callable_22 (name_as (l := tl ((q : Int)).toNat) (s := ⟨#[109, 111, 114, 101]⟩) (0, 201, tl ((q : Int)).toNat) (name_full (by decide) h1 hm) ⟨rfl, rfl, rfl, by decide, by decide, by decide⟩ (by decide) hl) ?_)
    | (refine vt_op rfl rfl rfl rfl rfl rfl callable_22 (name_as (l := tl ((q : Int)).toNat) (s := ⟨#[116, 48]⟩) (0, 0, tl ((q : Int)).toNat) (name_old (by decide) h2) ⟨rfl, rfl, rfl, by decide, by decide, by decide⟩ (by decide) hl) ?_)
    | (refine vt_op ⟨_, _, rfl, rfl, rfl⟩ rfl rfl rfl rfl rfl callable_22 (name_as (l := tl ((q : Int)).toNat) (s := ⟨#[116, 48]⟩) (0, 0, tl ((q : Int)).toNat) (name_old (by decide) h2) ⟨rfl, rfl, rfl, by decide, by decide, by decide⟩ (by decide) hl) ?_)
    | (refine vo_op rfl rfl rfl (opr_ev tab (ev_make rfl rfl rfl rfl rfl rfl rfl rfl (by rw [i64_in _ (by omega)]; omega) (by rw [i64_in _ (by omega)]; omega))) ?_)
    | (refine vq_op tab rfl rfl rfl (ev_text rfl rfl rfl rfl rfl rfl rfl rfl (by simp)) ?_)
    | (refine vq_op tab ⟨_, _, rfl, rfl, rfl⟩ rfl rfl (ev_text rfl rfl rfl rfl rfl rfl rfl rfl (by simp)) ?_)
    | (refine vt_op rfl rfl rfl rfl rfl rfl callable_22 (name_as (l := tl ((q : Int)).toNat) (s := bytesL (List.replicate (IntKind.i64.wrap (512 + IntKind.i64.wrap (1 + bits .and .i64 b 1023))).toNat 0)) (0, 200, tl ((q : Int)).toNat) (name_bad hbig) ⟨rfl, rfl, rfl, by decide, by decide, by decide⟩ (by decide) hl) ?_)
    | (refine vt_op ⟨_, _, rfl, rfl, rfl⟩ rfl rfl rfl rfl rfl callable_22 (name_as (l := tl ((q : Int)).toNat) (s := bytesL (List.replicate (IntKind.i64.wrap (512 + IntKind.i64.wrap (1 + bits .and .i64 b 1023))).toNat 0)) (0, 200, tl ((q : Int)).toNat) (name_bad hbig) ⟨rfl, rfl, rfl, by decide, by decide, by decide⟩ (by decide) hl) ?_)
    | (refine vr_op rfl rfl rfl rfl rfl rfl callable_25 (term_tri (l := tl ((q : Int)).toNat) ⟨rfl, rfl, rfl, by decide, by decide, by decide⟩ _) ?_)
    | (refine vr_op ⟨_, _, rfl, rfl, rfl⟩ rfl rfl rfl rfl rfl callable_25 (term_tri (l := tl ((q : Int)).toNat) ⟨rfl, rfl, rfl, by decide, by decide, by decide⟩ _) ?_)
    | (refine vr_op rfl rfl rfl rfl rfl rfl callable_20 (find_tri (l := tl ((q : Int)).toNat) ⟨rfl, rfl, rfl, by decide, by decide, by decide⟩ _) ?_)
    | (refine vr_op ⟨_, _, rfl, rfl, rfl⟩ rfl rfl rfl rfl rfl callable_20 (find_tri (l := tl ((q : Int)).toNat) ⟨rfl, rfl, rfl, by decide, by decide, by decide⟩ _) ?_)
    | (refine vr_op rfl rfl rfl rfl rfl rfl callable_27 (len_tri (l := tl ((q : Int)).toNat) ⟨rfl, rfl, rfl, by decide, by decide, by decide⟩) ?_)
    | (refine vr_op ⟨_, _, rfl, rfl, rfl⟩ rfl rfl rfl rfl rfl callable_27 (len_tri (l := tl ((q : Int)).toNat) ⟨rfl, rfl, rfl, by decide, by decide, by decide⟩) ?_)
    | (refine vf_op rfl rfl rfl rfl rfl rfl callable_18 (num_fun _) ?_)
    | (refine vf_op ⟨_, _, rfl, rfl, rfl⟩ rfl rfl rfl rfl rfl callable_18 (num_fun _) ?_)
    | (refine vs_op tab rfl rfl rfl ?_)
    | (refine vk_op ⟨_, _, rfl, rfl, rfl⟩ rfl rfl ?_)
    | (refine vku_op rfl rfl rfl rfl rfl ?_)
    | (refine vn_op tab ⟨_, _, rfl, rfl, rfl⟩ rfl rfl rfl ?_)
    | (refine vgd_op true rfl rfl rfl (by decide) ?_)
    | (refine vgd_op false rfl rfl rfl (by decide) ?_)
    | (refine vgd_op true rfl rfl rfl (by simp only [hs1, ht1, ht2, hlen, decide_eq_true_eq, decide_eq_false_iff_not, Bool.not_eq_eq_eq_not, Bool.not_true, Bool.not_false, bne_iff_ne, bne_eq_false_iff_eq, beq_iff_eq, beq_eq_false_iff_ne, ne_eq, beq_self_eq_true, bne_self_eq_false, Bool.and_eq_true, Bool.and_eq_false_iff, Bool.or_eq_true, Bool.or_eq_false_iff, and_self, and_true, true_and, Bool.false_eq_true, Bool.true_eq_false, not_false_eq_true, not_true_eq_false]; first | done | omega) ?_)
    | (refine vgd_op false rfl rfl rfl (by simp only [hs1, ht1, ht2, hlen, decide_eq_true_eq, decide_eq_false_iff_not, Bool.not_eq_eq_eq_not, Bool.not_true, Bool.not_false, bne_iff_ne, bne_eq_false_iff_eq, beq_iff_eq, beq_eq_false_iff_ne, ne_eq, beq_self_eq_true, bne_self_eq_false, Bool.and_eq_true, Bool.and_eq_false_iff, Bool.or_eq_true, Bool.or_eq_false_iff, and_self, and_true, true_and, Bool.false_eq_true, Bool.true_eq_false, not_false_eq_true, not_true_eq_false]; first | done | omega) ?_)
    | (refine vg_op rfl rfl rfl (fun _ => ?_) (fun _ => ?_))
    | (refine v_nil ?_)
    | (refine vw_seq ?_)
    | (refine vw_region ?_)
    | (refine vw_draw mixed ?_)
    | (refine dq_op tab rfl rfl rfl rfl ?_)
    | (refine dq_op tab ⟨_, _, rfl, rfl, rfl⟩ rfl rfl rfl ?_)
    | (refine dq_op tab rfl rfl (ev_text rfl rfl rfl rfl rfl rfl rfl rfl (by simp)) (ev_text rfl rfl rfl rfl rfl rfl rfl rfl (by simp)) ?_)
    | (refine dq_op tab ⟨_, _, rfl, rfl, rfl⟩ rfl (ev_text rfl rfl rfl rfl rfl rfl rfl rfl (by simp)) (ev_text rfl rfl rfl rfl rfl rfl rfl rfl (by simp)) ?_)
    | (refine dr_op rfl rfl rfl rfl rfl callable_25 (term_tri (l := tl ((q : Int)).toNat) ⟨rfl, rfl, rfl, by decide, by decide, by decide⟩ _) ?_)
    | (refine dr_op ⟨_, _, rfl, rfl, rfl⟩ rfl rfl rfl rfl callable_25 (term_tri (l := tl ((q : Int)).toNat) ⟨rfl, rfl, rfl, by decide, by decide, by decide⟩ _) ?_)
    | (refine dr_op rfl rfl rfl rfl rfl callable_20 (find_tri (l := tl ((q : Int)).toNat) ⟨rfl, rfl, rfl, by decide, by decide, by decide⟩ _) ?_)
    | (refine dr_op ⟨_, _, rfl, rfl, rfl⟩ rfl rfl rfl rfl callable_20 (find_tri (l := tl ((q : Int)).toNat) ⟨rfl, rfl, rfl, by decide, by decide, by decide⟩ _) ?_)
    | (refine dr_op rfl rfl rfl rfl rfl callable_27 (len_tri (l := tl ((q : Int)).toNat) ⟨rfl, rfl, rfl, by decide, by decide, by decide⟩) ?_)
    | (refine dr_op ⟨_, _, rfl, rfl, rfl⟩ rfl rfl rfl rfl callable_27 (len_tri (l := tl ((q : Int)).toNat) ⟨rfl, rfl, rfl, by decide, by decide, by decide⟩) ?_)
    | (refine df_op rfl rfl rfl rfl rfl callable_18 (num_fun _) ?_)
    | (refine df_op ⟨_, _, rfl, rfl, rfl⟩ rfl rfl rfl rfl callable_18 (num_fun _) ?_)
    | (refine dn_op tab rfl rfl rfl rfl ?_)
    | (refine ds_op tab rfl rfl rfl rfl ?_)
    | (refine dk_op ⟨_, _, rfl, rfl, rfl⟩ rfl ?_)
    | (refine dku_op rfl rfl rfl rfl ?_)
    | (refine dn_op tab ⟨_, _, rfl, rfl, rfl⟩ rfl rfl rfl ?_)
    | (refine ds_op tab ⟨_, _, rfl, rfl, rfl⟩ rfl rfl rfl ?_)
    | (refine dgd_op true rfl rfl rfl (by decide) ?_)
    | (refine dgd_op false rfl rfl rfl (by decide) ?_)
    | (refine dgd_op true rfl rfl rfl (by simp only [hs1, ht1, ht2, hlen, decide_eq_true_eq, decide_eq_false_iff_not, Bool.not_eq_eq_eq_not, Bool.not_true, Bool.not_false, bne_iff_ne, bne_eq_false_iff_eq, beq_iff_eq, beq_eq_false_iff_ne, ne_eq, beq_self_eq_true, bne_self_eq_false, Bool.and_eq_true, Bool.and_eq_false_iff, Bool.or_eq_true, Bool.or_eq_false_iff, and_self, and_true, true_and, Bool.false_eq_true, Bool.true_eq_false, not_false_eq_true, not_true_eq_false]; first | done | omega) ?_)
    | (refine dgd_op false rfl rfl rfl (by simp only [hs1, ht1, ht2, hlen, decide_eq_true_eq, decide_eq_false_iff_not, Bool.not_eq_eq_eq_not, Bool.not_true, Bool.not_false, bne_iff_ne, bne_eq_false_iff_eq, beq_iff_eq, beq_eq_false_iff_ne, ne_eq, beq_self_eq_true, bne_self_eq_false, Bool.and_eq_true, Bool.and_eq_false_iff, Bool.or_eq_true, Bool.or_eq_false_iff, and_self, and_true, true_and, Bool.false_eq_true, Bool.true_eq_false, not_false_eq_true, not_true_eq_false]; first | done | omega) ?_)
    | (refine dg_op rfl rfl rfl (fun _ => ?_) (fun _ => ?_))
    | (refine vd_nil (by kernel_rfl) ?_)
    | (refine vc_true rfl ?_)
    | (refine vc_false rfl ?_)
    | (refine vcd_true rfl (by decide) ?_)
    | (refine vcd_false rfl (by decide) ?_)
    | (refine vcd_true rfl (by simp only [hs1, ht1, ht2, hlen, decide_eq_true_eq, decide_eq_false_iff_not, Bool.not_eq_eq_eq_not, Bool.not_true, Bool.not_false, bne_iff_ne, bne_eq_false_iff_eq, beq_iff_eq, beq_eq_false_iff_ne, ne_eq, beq_self_eq_true, bne_self_eq_false, Bool.and_eq_true, Bool.and_eq_false_iff, Bool.or_eq_true, Bool.or_eq_false_iff, and_self, and_true, true_and, Bool.false_eq_true, Bool.true_eq_false, not_false_eq_true, not_true_eq_false]; first | done | omega) ?_)
    | (refine vcd_false rfl (by simp only [hs1, ht1, ht2, hlen, decide_eq_true_eq, decide_eq_false_iff_not, Bool.not_eq_eq_eq_not, Bool.not_true, Bool.not_false, bne_iff_ne, bne_eq_false_iff_eq, beq_iff_eq, beq_eq_false_iff_ne, ne_eq, beq_self_eq_true, bne_self_eq_false, Bool.and_eq_true, Bool.and_eq_false_iff, Bool.or_eq_true, Bool.or_eq_false_iff, and_self, and_true, true_and, Bool.false_eq_true, Bool.true_eq_false, not_false_eq_true, not_true_eq_false]; first | done | omega) ?_)
    | (refine vc_part rfl (fun _ => ?_) (fun _ => ?_))
    | (refine vw_block ?_)
    | (refine q_then ?_)
    | (refine q_norm ?_)
    | (refine q_here ?_)
    | (refine q_out rfl ?_)
    | (refine q_thenx ?_)
    | (refine q_thenr ?_)
    | (refine q_ret ?_)
    | (refine vw_skip ?_)
    | (refine vw_exit ?_)
    | (refine vw_ret ?_)
  exact ⟨.inr rfl, Eq.trans (b := some (.bool (((tl ((q : Int)).toNat).length : Int) == IntKind.i64.wrap (1 + bits .and .i64 a 15)))) rfl (by rw [hlen]; simp)⟩
end Go.Proofs.Ytenbhladboofeaa
