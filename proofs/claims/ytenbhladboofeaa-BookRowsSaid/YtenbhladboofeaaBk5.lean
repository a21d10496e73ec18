/- Law 2: BookRows. -/
import Derived.Test.YtenbhladboofeaaBk4
namespace Go.Proofs.Ytenbhladboofeaa
open Go Vm IntWalk
set_option linter.unusedVariables false
set_option linter.unusedSimpArgs false
theorem len_le_of_sub {α : Type} [DecidableEq α] : ∀ {l m : List α}, l.Nodup → (∀ x ∈ l, x ∈ m) → l.length ≤ m.length
  | [], m, _, _ => by simp
  | a :: l, m, hn, hs => by
    rw [List.nodup_cons] at hn
    have ha := hs a (by simp)
    have := len_le_of_sub (l := l) (m := m.erase a) hn.2 fun x hx => by
      refine (List.mem_erase_of_ne ?_).2 (hs x (by simp [hx]))
      rintro rfl; exact hn.1 hx
    rw [List.length_erase_of_mem ha] at this
    have : 0 < m.length := List.length_pos_of_mem ha
    simp only [List.length_cons]; omega
theorem three (l : List ByteArray) (x : ByteArray) (h : (l.length : Int) < 99) (hn : l.Nodup) : ∃ v e l', nameB 99 l x = (v, e, l') ∧ 0 ≤ v ∧ l'.Nodup ∧ (∀ y, y ∈ l' ↔ y ∈ l ∨ (y = x ∧ ¬ badT x)) ∧ l'.length ≤ l.length + 1 ∧
    ((decide ((1 : Int) ≤ (x.size : Int)) = true ∧ decide ((x.size : Int) ≤ 512) = true ∧ (e == 0) = true) ∨ (decide ((1 : Int) ≤ (x.size : Int)) = false ∧ True ∧ (e == 0) = false) ∨ (decide ((1 : Int) ≤ (x.size : Int)) = true ∧ decide ((x.size : Int) ≤ 512) = false ∧ (e == 0) = false)) := by
  by_cases hb : badT x
  · refine ⟨0, 200, l, name_bad hb, by omega, hn, fun y => ⟨.inl, fun h => h.elim id fun h => (h.2 hb).elim⟩, by omega, ?_⟩
    unfold badT at hb
    by_cases h0 : x.size = 0
    · exact .inr (.inl ⟨decide_eq_false (by omega), trivial, rfl⟩)
    · exact .inr (.inr ⟨decide_eq_true (by omega), decide_eq_false (by omega), rfl⟩)
  have hb' := hb
  unfold badT at hb'
  cases hf : findB x l with
  | some j =>
    have hm := List.mem_of_getElem? (findB_some hf).1
    exact ⟨j, 0, l, name_old hb hf, by omega, hn, fun y => ⟨.inl, fun h => h.elim id fun h => h.1 ▸ hm⟩, by omega, .inl ⟨decide_eq_true (by omega), decide_eq_true (by omega), rfl⟩⟩
  | none =>
    have hm := findB_none hf
    refine ⟨l.length, 0, l ++ [x], name_new hb hf (by omega), by omega, ?_, fun y => ?_, by simp, .inl ⟨decide_eq_true (by omega), decide_eq_true (by omega), rfl⟩⟩
    · rw [List.nodup_append]; exact ⟨hn, by simp, fun a ha b hb => by rw [List.mem_singleton] at hb; rintro rfl; exact hm (hb ▸ ha)⟩
    · simp only [List.mem_append, List.mem_singleton]
      exact ⟨fun h => h.elim .inl fun h => .inr ⟨h, hb⟩, fun h => h.elim .inl fun h => .inr h.1⟩
theorem findB_mem {l : List ByteArray} {s : ByteArray} (h : s ∈ l) : ∃ j, findB s l = some j := by
  cases hf : findB s l with
  | none => exact (findB_none hf h).elim
  | some j => exact ⟨j, rfl⟩
set_option maxHeartbeats 32000000 in
theorem BookRows_law (ts : List ByteArray) (hb : ts.length * 16 ≤ 140737488351232) :
    Tri Try.prog 6 [.slice (some ⟨0, 0, none⟩) ts.length 0] 1 0 (lkp (oHeap 0 (wObjs [(strR.cells ts, 1)]))) (fun u L => u = .bool true ∧ L = []) := by
  refine law_of_vw tab Try.func6 rfl rfl (by simp [Try.f6]) 1 [(strR.cells ts, 1)] rfl (by intro x hx; simp only [List.mem_singleton] at hx; subst hx; exact strR.flat_cells ts)
    (lrel_cons (rel_slice rfl rfl) lrel_nil) (.bool _) ?_
  repeat' first
    | (refine vq_op tab rfl rfl rfl rfl ?_)
    | (refine vq_op tab ⟨_, _, rfl, rfl, rfl⟩ rfl rfl rfl ?_)
    | (refine vn_op tab rfl rfl rfl rfl ?_)
    | (refine vf_op rfl rfl rfl rfl rfl rfl callable_19 (book_awake) ?_)
    | (refine vf_op ⟨_, _, rfl, rfl, rfl⟩ rfl rfl rfl rfl rfl callable_19 (book_awake) ?_)
    | (refine vt_op rfl rfl rfl rfl rfl rfl callable_16 (new_tri (by unfold badNew; decide)) ?_)
    | (refine vt_op ⟨_, _, rfl, rfl, rfl⟩ rfl rfl rfl rfl rfl callable_16 (new_tri (by unfold badNew; decide)) ?_)
    | (refine vf_op rfl rfl rfl rfl rfl rfl callable_18 (num_fun _) ?_)
    | (refine vf_op ⟨_, _, rfl, rfl, rfl⟩ rfl rfl rfl rfl rfl callable_18 (num_fun _) ?_)
    | (refine vs_op tab rfl rfl rfl ?_)
    | (refine vk_op ⟨_, _, rfl, rfl, rfl⟩ rfl rfl ?_)
    | (refine vku_op rfl rfl rfl rfl rfl ?_)
    | (refine vn_op tab ⟨_, _, rfl, rfl, rfl⟩ rfl rfl rfl ?_)
    | (refine vgd_op true rfl rfl rfl (by decide) ?_)
    | (refine vgd_op false rfl rfl rfl (by decide) ?_)
    | (refine vgd_op true rfl rfl rfl (by simp only [decide_eq_true_eq, decide_eq_false_iff_not, Bool.not_eq_eq_eq_not, Bool.not_true, Bool.not_false, bne_iff_ne, bne_eq_false_iff_eq, beq_iff_eq, beq_eq_false_iff_ne, ne_eq, beq_self_eq_true, bne_self_eq_false, Bool.and_eq_true, Bool.and_eq_false_iff, Bool.or_eq_true, Bool.or_eq_false_iff, and_self, and_true, true_and, Bool.false_eq_true, Bool.true_eq_false, not_false_eq_true, not_true_eq_false]; first | done | omega) ?_)
    | (refine vgd_op false rfl rfl rfl (by simp only [decide_eq_true_eq, decide_eq_false_iff_not, Bool.not_eq_eq_eq_not, Bool.not_true, Bool.not_false, bne_iff_ne, bne_eq_false_iff_eq, beq_iff_eq, beq_eq_false_iff_ne, ne_eq, beq_self_eq_true, bne_self_eq_false, Bool.and_eq_true, Bool.and_eq_false_iff, Bool.or_eq_true, Bool.or_eq_false_iff, and_self, and_true, true_and, Bool.false_eq_true, Bool.true_eq_false, not_false_eq_true, not_true_eq_false]; first | done | omega) ?_)
    | (refine vg_op rfl rfl rfl (fun _ => ?_) (fun _ => ?_))
    | (refine v_nil ?_)
    | (refine vw_seq ?_)
    | (refine vw_region ?_)
    | (refine vw_draw mixed ?_)
    | (refine dq_op tab rfl rfl rfl rfl ?_)
    | (refine dq_op tab ⟨_, _, rfl, rfl, rfl⟩ rfl rfl rfl ?_)
    | (refine df_op rfl rfl rfl rfl rfl callable_19 (book_awake) ?_)
    | (refine df_op ⟨_, _, rfl, rfl, rfl⟩ rfl rfl rfl rfl callable_19 (book_awake) ?_)
    | (refine df_op rfl rfl rfl rfl rfl callable_18 (num_fun _) ?_)
    | (refine df_op ⟨_, _, rfl, rfl, rfl⟩ rfl rfl rfl rfl callable_18 (num_fun _) ?_)
    | (refine dn_op tab rfl rfl rfl rfl ?_)
    | (refine ds_op tab rfl rfl rfl rfl ?_)
    | (refine dk_op ⟨_, _, rfl, rfl, rfl⟩ rfl ?_)
    | (refine dku_op rfl rfl rfl rfl ?_)
    | (refine dn_op tab ⟨_, _, rfl, rfl, rfl⟩ rfl rfl rfl ?_)
    | (refine ds_op tab ⟨_, _, rfl, rfl, rfl⟩ rfl rfl rfl ?_)
    | (refine dgd_op true rfl rfl rfl (by decide) ?_)
    | (refine dgd_op false rfl rfl rfl (by decide) ?_)
    | (refine dgd_op true rfl rfl rfl (by simp only [decide_eq_true_eq, decide_eq_false_iff_not, Bool.not_eq_eq_eq_not, Bool.not_true, Bool.not_false, bne_iff_ne, bne_eq_false_iff_eq, beq_iff_eq, beq_eq_false_iff_ne, ne_eq, beq_self_eq_true, bne_self_eq_false, Bool.and_eq_true, Bool.and_eq_false_iff, Bool.or_eq_true, Bool.or_eq_false_iff, and_self, and_true, true_and, Bool.false_eq_true, Bool.true_eq_false, not_false_eq_true, not_true_eq_false]; first | done | omega) ?_)
    | (refine dgd_op false rfl rfl rfl (by simp only [decide_eq_true_eq, decide_eq_false_iff_not, Bool.not_eq_eq_eq_not, Bool.not_true, Bool.not_false, bne_iff_ne, bne_eq_false_iff_eq, beq_iff_eq, beq_eq_false_iff_ne, ne_eq, beq_self_eq_true, bne_self_eq_false, Bool.and_eq_true, Bool.and_eq_false_iff, Bool.or_eq_true, Bool.or_eq_false_iff, and_self, and_true, true_and, Bool.false_eq_true, Bool.true_eq_false, not_false_eq_true, not_true_eq_false]; first | done | omega) ?_)
    | (refine dg_op rfl rfl rfl (fun _ => ?_) (fun _ => ?_))
    | (refine vd_nil (by kernel_rfl) ?_)
    | (refine vc_true rfl ?_)
    | (refine vc_false rfl ?_)
    | (refine vcd_true rfl (by decide) ?_)
    | (refine vcd_false rfl (by decide) ?_)
    | (refine vcd_true rfl (by simp only [decide_eq_true_eq, decide_eq_false_iff_not, Bool.not_eq_eq_eq_not, Bool.not_true, Bool.not_false, bne_iff_ne, bne_eq_false_iff_eq, beq_iff_eq, beq_eq_false_iff_ne, ne_eq, beq_self_eq_true, bne_self_eq_false, Bool.and_eq_true, Bool.and_eq_false_iff, Bool.or_eq_true, Bool.or_eq_false_iff, and_self, and_true, true_and, Bool.false_eq_true, Bool.true_eq_false, not_false_eq_true, not_true_eq_false]; first | done | omega) ?_)
    | (refine vcd_false rfl (by simp only [decide_eq_true_eq, decide_eq_false_iff_not, Bool.not_eq_eq_eq_not, Bool.not_true, Bool.not_false, bne_iff_ne, bne_eq_false_iff_eq, beq_iff_eq, beq_eq_false_iff_ne, ne_eq, beq_self_eq_true, bne_self_eq_false, Bool.and_eq_true, Bool.and_eq_false_iff, Bool.or_eq_true, Bool.or_eq_false_iff, and_self, and_true, true_and, Bool.false_eq_true, Bool.true_eq_false, not_false_eq_true, not_true_eq_false]; first | done | omega) ?_)
    | (refine vc_part rfl (fun _ => ?_) (fun _ => ?_))
    | (refine vw_block ?_)
    | (refine q_then ?_)
    | (refine q_norm ?_)
    | (refine q_here ?_)
    | (refine q_out rfl ?_)
    | (refine q_thenx ?_)
    | (refine q_thenr ?_)
    | (refine q_ret ?_)
    | (refine rd_step ?_)
    | (refine vcc_false ?_)
    | (refine vcc_true ?_)
    | (refine vw_skip ?_)
    | (refine vw_exit ?_)
    | (refine vw_ret ?_)
  obtain ⟨k0, hk0⟩ : ∃ k0 : Int, k0 = if (20 : Int) < (ts.length : Int) then 20 else (ts.length : Int) := ⟨_, rfl⟩
  have hk1 : 0 ≤ k0 ∧ k0 ≤ 20 ∧ k0 ≤ ts.length := by rw [hk0]; split <;> omega
  refine vw_loop_sub (fun k s => ∃ (i : Int) (la lb : List ByteArray), 0 ≤ i ∧ i ≤ k0 ∧ (la.length : Int) ≤ i ∧ (lb.length : Int) ≤ i ∧ la.Nodup ∧ lb.Nodup ∧ (∀ y, y ∈ la ↔ y ∈ ts.take i.toNat ∧ ¬ badT y) ∧ (∀ y, y ∈ lb ↔ y ∈ (ts.take k0.toNat).drop (k0 - i).toNat ∧ ¬ badT y) ∧ k = (ts.length - i).toNat ∧
      s = ⟨[(0, .slice (some ⟨0, 0, none⟩) ts.length 0), (3, .pointer (some ⟨1, 0, none⟩)), (5, .pointer (some ⟨4, 0, none⟩)), (7, .int .i64 k0), (8, .int .i64 i)],
        lkp [(0, .win (strR.cells ts) 1), (1, bookC 99 2 la.length 3), (2, .opn (strR.cells la) 9 1), (3, .map (ents 0 la) la.length), (4, bookC 99 5 lb.length 6), (5, .opn (strR.cells lb) 9 1), (6, .map (ents 0 lb) lb.length)], 7⟩) ts.length
    ⟨_, (sub_of (g := 1) [1, 2, 3, 4, 5, 6] (by decide) (by decide) (by repeat' first | exact ep_nil | exact ov_book (rel_slice rfl rfl) (rel_map rfl) | exact ov_ents rfl rfl | exact ri hk0 | refine ep_cons rfl ?_ ?_ | exact .int _ _ | exact .bool _ | exact .string _ | exact rel_slice rfl rfl | exact rel_nil rfl rfl | exact rel_ptr rfl | exact .nilPtr | exact .nilIface | exact .nilSlice) (by repeat' first | exact hp_nil | exact ov_book (rel_slice rfl rfl) (rel_map rfl) | exact ov_ents rfl rfl | exact ri hk0 | refine hp_cons rfl rfl ?_ ?_ | refine hp_void rfl rfl ?_ | exact ov_win _ | exact ov_opn _ rfl | exact ov_cells _ _ (by decide))), 0, [], [], by omega, by omega, by simp, by simp, by simp, by simp, by simp, fun y => by simp, by simp, rfl⟩ ?_
  rintro k s ⟨i, la, lb, g0, g1, ga, gb, na, nb, ma, mb, rfl, rfl⟩
  by_cases hik : i < k0
  · have hi : IntKind.i64.wrap (i + 1) = i + 1 := i64_in _ (by omega)
    have hkw : IntKind.i64.wrap (IntKind.i64.wrap (k0 - 1) - i) = k0 - 1 - i := by rw [i64_in (k0 - 1) (by omega), i64_in _ (by omega)]
    obtain ⟨x, hx1⟩ := get_some (xs := ts) g0 (by omega)
    obtain ⟨z, hz0⟩ := get_some (xs := ts) (i := k0 - 1 - i) (by omega) (by omega)
    have hz1 : ts[(IntKind.i64.wrap (IntKind.i64.wrap (k0 - 1) - i)).toNat]? = some z := by rw [hkw]; exact hz0
    obtain ⟨vx, ex, lx, hrx, hvx, nx, mx, gx, casex⟩ := three la x (by omega) na
    obtain ⟨vz, ez, lz, hrz, hvz, nz, mz, gz, casez⟩ := three lb z (by omega) nb
    have hla : (la.length : Int) ≤ 65536 := by omega
    have hlb : (lb.length : Int) ≤ 65536 := by omega
    have hvx' : decide (vx < 0) = false := decide_eq_false (by omega)
    have hvz' : decide (vz < 0) = false := decide_eq_false (by omega)
    have hma : ∀ y, y ∈ lx ↔ y ∈ ts.take (i + 1).toNat ∧ ¬ badT y := fun y => by
      rw [mx, ma, show (i + 1).toNat = i.toNat + 1 by omega, List.take_add_one, hx1]
      simp only [Option.toList_some, List.mem_append, List.mem_singleton]
      exact ⟨fun h => h.elim (fun h => ⟨.inl h.1, h.2⟩) fun h => ⟨.inr h.1, h.1 ▸ h.2⟩, fun h => h.1.elim (fun h1 => .inl ⟨h1, h.2⟩) fun h1 => .inr ⟨h1, h1 ▸ h.2⟩⟩
    have hdrop : (ts.take k0.toNat).drop (k0 - (i + 1)).toNat = z :: (ts.take k0.toNat).drop (k0 - i).toNat := by
      have hlt : (k0 - (i + 1)).toNat < (ts.take k0.toNat).length := by simp; omega
      rw [List.drop_eq_getElem_cons hlt, show (k0 - (i + 1)).toNat + 1 = (k0 - i).toNat by omega]
      congr 1
      have h1 : (ts.take k0.toNat)[(k0 - (i + 1)).toNat]? = some z := by rw [List.getElem?_take, if_pos (by omega), show (k0 - (i + 1)).toNat = (k0 - 1 - i).toNat by omega]; exact hz0
      rw [List.getElem?_eq_getElem hlt] at h1; exact Option.some.inj h1
    have hmb : ∀ y, y ∈ lz ↔ y ∈ (ts.take k0.toNat).drop (k0 - (i + 1)).toNat ∧ ¬ badT y := fun y => by
      rw [mz, mb, hdrop]
      simp only [List.mem_cons]
      exact ⟨fun h => h.elim (fun h => ⟨.inr h.1, h.2⟩) fun h => ⟨.inl h.1, h.1 ▸ h.2⟩, fun h => h.1.elim (fun h1 => .inr ⟨h1, h1 ▸ h.2⟩) fun h1 => .inl ⟨h1, h.2⟩⟩
    rcases casex with ⟨d1, d2, d3⟩ | ⟨d1, d2, d3⟩ | ⟨d1, d2, d3⟩ <;> rcases casez with ⟨e1, e2, e3⟩ | ⟨e1, e2, e3⟩ | ⟨e1, e2, e3⟩
    all_goals
      repeat' first
        | (refine vq_op tab rfl rfl rfl rfl ?_)
        | (refine vq_op tab ⟨_, _, rfl, rfl, rfl⟩ rfl rfl rfl ?_)
        | (refine vn_op tab rfl rfl rfl rfl ?_)
        | (refine vq_op tab rfl rfl rfl (ev_index rfl rfl rfl rfl rfl (by omega) (by omega)) ?_)
        | (refine vq_op tab ⟨_, _, rfl, rfl, rfl⟩ rfl rfl (ev_index rfl rfl rfl rfl rfl (by omega) (by omega)) ?_)
        | (refine vq_op tab rfl rfl rfl (ev_index rfl rfl rfl rfl rfl (by rw [hkw]; omega) (by rw [hkw]; omega)) ?_)
        | (refine vq_op tab ⟨_, _, rfl, rfl, rfl⟩ rfl rfl (ev_index rfl rfl rfl rfl rfl (by rw [hkw]; omega) (by rw [hkw]; omega)) ?_)
        | (refine vq_op tab rfl rfl rfl (ev_val strR rfl rfl rfl rfl rfl hx1 rfl) ?_)
        | (refine vq_op tab ⟨_, _, rfl, rfl, rfl⟩ rfl rfl (ev_val strR rfl rfl rfl rfl rfl hx1 rfl) ?_)
        | (refine vq_op tab rfl rfl rfl (ev_val strR rfl rfl rfl rfl rfl hz1 rfl) ?_)
        | (refine vq_op tab ⟨_, _, rfl, rfl, rfl⟩ rfl rfl (ev_val strR rfl rfl rfl rfl rfl hz1 rfl) ?_)
        | (refine vt_op rfl rfl rfl rfl rfl rfl callable_22 (name_as (l := la) (vx, ex, lx) hrx ⟨rfl, rfl, rfl, by decide, by decide, by decide⟩ (by decide) hla) ?_)
        | (refine vt_op ⟨_, _, rfl, rfl, rfl⟩ rfl rfl rfl rfl rfl callable_22 (name_as (l := la) (vx, ex, lx) hrx ⟨rfl, rfl, rfl, by decide, by decide, by decide⟩ (by decide) hla) ?_)
        | (refine vt_op rfl rfl rfl rfl rfl rfl callable_22 (name_as (l := lb) (vz, ez, lz) hrz ⟨rfl, rfl, rfl, by decide, by decide, by decide⟩ (by decide) hlb) ?_)
        | (refine vt_op ⟨_, _, rfl, rfl, rfl⟩ rfl rfl rfl rfl rfl callable_22 (name_as (l := lb) (vz, ez, lz) hrz ⟨rfl, rfl, rfl, by decide, by decide, by decide⟩ (by decide) hlb) ?_)
        | (refine vf_op rfl rfl rfl rfl rfl rfl callable_18 (num_fun _) ?_)
        | (refine vf_op ⟨_, _, rfl, rfl, rfl⟩ rfl rfl rfl rfl rfl callable_18 (num_fun _) ?_)
        | (refine vs_op tab rfl rfl rfl ?_)
        | (refine vk_op ⟨_, _, rfl, rfl, rfl⟩ rfl rfl ?_)
        | (refine vku_op rfl rfl rfl rfl rfl ?_)
        | (refine vn_op tab ⟨_, _, rfl, rfl, rfl⟩ rfl rfl rfl ?_)
        | (refine vgd_op true rfl rfl rfl (by decide) ?_)
        | (refine vgd_op false rfl rfl rfl (by decide) ?_)
        | (refine vgd_op true rfl rfl rfl (by simp only [d1, d2, d3, e1, e2, e3, hvx', hvz', decide_eq_true_eq, decide_eq_false_iff_not, Bool.not_eq_eq_eq_not, Bool.not_true, Bool.not_false, bne_iff_ne, bne_eq_false_iff_eq, beq_iff_eq, beq_eq_false_iff_ne, ne_eq, beq_self_eq_true, bne_self_eq_false, Bool.and_eq_true, Bool.and_eq_false_iff, Bool.or_eq_true, Bool.or_eq_false_iff, and_self, and_true, true_and, Bool.false_eq_true, Bool.true_eq_false, not_false_eq_true, not_true_eq_false]; first | done | omega) ?_)
        | (refine vgd_op false rfl rfl rfl (by simp only [d1, d2, d3, e1, e2, e3, hvx', hvz', decide_eq_true_eq, decide_eq_false_iff_not, Bool.not_eq_eq_eq_not, Bool.not_true, Bool.not_false, bne_iff_ne, bne_eq_false_iff_eq, beq_iff_eq, beq_eq_false_iff_ne, ne_eq, beq_self_eq_true, bne_self_eq_false, Bool.and_eq_true, Bool.and_eq_false_iff, Bool.or_eq_true, Bool.or_eq_false_iff, and_self, and_true, true_and, Bool.false_eq_true, Bool.true_eq_false, not_false_eq_true, not_true_eq_false]; first | done | omega) ?_)
        | (refine vg_op rfl rfl rfl (fun _ => ?_) (fun _ => ?_))
        | (refine v_nil ?_)
        | (refine vw_seq ?_)
        | (refine vw_region ?_)
        | (refine vw_draw mixed ?_)
        | (refine dq_op tab rfl rfl rfl rfl ?_)
        | (refine dq_op tab ⟨_, _, rfl, rfl, rfl⟩ rfl rfl rfl ?_)
        | (refine dq_op tab rfl rfl (ev_index rfl rfl rfl rfl rfl (by omega) (by omega)) (ev_index rfl rfl rfl rfl rfl (by omega) (by omega)) ?_)
        | (refine dq_op tab ⟨_, _, rfl, rfl, rfl⟩ rfl (ev_index rfl rfl rfl rfl rfl (by omega) (by omega)) (ev_index rfl rfl rfl rfl rfl (by omega) (by omega)) ?_)
        | (refine dq_op tab rfl rfl (ev_index rfl rfl rfl rfl rfl (by rw [hkw]; omega) (by rw [hkw]; omega)) (ev_index rfl rfl rfl rfl rfl (by rw [hkw]; omega) (by rw [hkw]; omega)) ?_)
        | (refine dq_op tab ⟨_, _, rfl, rfl, rfl⟩ rfl (ev_index rfl rfl rfl rfl rfl (by rw [hkw]; omega) (by rw [hkw]; omega)) (ev_index rfl rfl rfl rfl rfl (by rw [hkw]; omega) (by rw [hkw]; omega)) ?_)
        | (refine dq_op tab rfl rfl (ev_val strR rfl rfl rfl rfl rfl hx1 rfl) (ev_val strR rfl rfl rfl rfl rfl hx1 rfl) ?_)
        | (refine dq_op tab ⟨_, _, rfl, rfl, rfl⟩ rfl (ev_val strR rfl rfl rfl rfl rfl hx1 rfl) (ev_val strR rfl rfl rfl rfl rfl hx1 rfl) ?_)
        | (refine dq_op tab rfl rfl (ev_val strR rfl rfl rfl rfl rfl hz1 rfl) (ev_val strR rfl rfl rfl rfl rfl hz1 rfl) ?_)
        | (refine dq_op tab ⟨_, _, rfl, rfl, rfl⟩ rfl (ev_val strR rfl rfl rfl rfl rfl hz1 rfl) (ev_val strR rfl rfl rfl rfl rfl hz1 rfl) ?_)
        | (refine df_op rfl rfl rfl rfl rfl callable_18 (num_fun _) ?_)
        | (refine df_op ⟨_, _, rfl, rfl, rfl⟩ rfl rfl rfl rfl callable_18 (num_fun _) ?_)
        | (refine dn_op tab rfl rfl rfl rfl ?_)
        | (refine ds_op tab rfl rfl rfl rfl ?_)
        | (refine dk_op ⟨_, _, rfl, rfl, rfl⟩ rfl ?_)
        | (refine dku_op rfl rfl rfl rfl ?_)
        | (refine dn_op tab ⟨_, _, rfl, rfl, rfl⟩ rfl rfl rfl ?_)
        | (refine ds_op tab ⟨_, _, rfl, rfl, rfl⟩ rfl rfl rfl ?_)
        | (refine dgd_op true rfl rfl rfl (by decide) ?_)
        | (refine dgd_op false rfl rfl rfl (by decide) ?_)
        | (refine dgd_op true rfl rfl rfl (by simp only [d1, d2, d3, e1, e2, e3, hvx', hvz', decide_eq_true_eq, decide_eq_false_iff_not, Bool.not_eq_eq_eq_not, Bool.not_true, Bool.not_false, bne_iff_ne, bne_eq_false_iff_eq, beq_iff_eq, beq_eq_false_iff_ne, ne_eq, beq_self_eq_true, bne_self_eq_false, Bool.and_eq_true, Bool.and_eq_false_iff, Bool.or_eq_true, Bool.or_eq_false_iff, and_self, and_true, true_and, Bool.false_eq_true, Bool.true_eq_false, not_false_eq_true, not_true_eq_false]; first | done | omega) ?_)
        | (refine dgd_op false rfl rfl rfl (by simp only [d1, d2, d3, e1, e2, e3, hvx', hvz', decide_eq_true_eq, decide_eq_false_iff_not, Bool.not_eq_eq_eq_not, Bool.not_true, Bool.not_false, bne_iff_ne, bne_eq_false_iff_eq, beq_iff_eq, beq_eq_false_iff_ne, ne_eq, beq_self_eq_true, bne_self_eq_false, Bool.and_eq_true, Bool.and_eq_false_iff, Bool.or_eq_true, Bool.or_eq_false_iff, and_self, and_true, true_and, Bool.false_eq_true, Bool.true_eq_false, not_false_eq_true, not_true_eq_false]; first | done | omega) ?_)
        | (refine dg_op rfl rfl rfl (fun _ => ?_) (fun _ => ?_))
        | (refine vd_nil (by kernel_rfl) ?_)
        | (refine vc_true rfl ?_)
        | (refine vc_false rfl ?_)
        | (refine vcd_true rfl (by decide) ?_)
        | (refine vcd_false rfl (by decide) ?_)
        | (refine vcd_true rfl (by simp only [d1, d2, d3, e1, e2, e3, hvx', hvz', decide_eq_true_eq, decide_eq_false_iff_not, Bool.not_eq_eq_eq_not, Bool.not_true, Bool.not_false, bne_iff_ne, bne_eq_false_iff_eq, beq_iff_eq, beq_eq_false_iff_ne, ne_eq, beq_self_eq_true, bne_self_eq_false, Bool.and_eq_true, Bool.and_eq_false_iff, Bool.or_eq_true, Bool.or_eq_false_iff, and_self, and_true, true_and, Bool.false_eq_true, Bool.true_eq_false, not_false_eq_true, not_true_eq_false]; first | done | omega) ?_)
        | (refine vcd_false rfl (by simp only [d1, d2, d3, e1, e2, e3, hvx', hvz', decide_eq_true_eq, decide_eq_false_iff_not, Bool.not_eq_eq_eq_not, Bool.not_true, Bool.not_false, bne_iff_ne, bne_eq_false_iff_eq, beq_iff_eq, beq_eq_false_iff_ne, ne_eq, beq_self_eq_true, bne_self_eq_false, Bool.and_eq_true, Bool.and_eq_false_iff, Bool.or_eq_true, Bool.or_eq_false_iff, and_self, and_true, true_and, Bool.false_eq_true, Bool.true_eq_false, not_false_eq_true, not_true_eq_false]; first | done | omega) ?_)
        | (refine vc_part rfl (fun _ => ?_) (fun _ => ?_))
        | (refine vw_block ?_)
        | (refine q_then ?_)
        | (refine q_norm ?_)
        | (refine q_here ?_)
        | (refine q_out rfl ?_)
        | (refine q_thenx ?_)
        | (refine q_thenr ?_)
        | (refine q_ret ?_)
        | (refine rd_step ?_)
        | (refine vcc_false ?_)
        | (refine vcc_true ?_)
        | (refine vw_skip ?_)
        | (refine vw_exit ?_)
        | (refine vw_ret ?_)
      exact ⟨(ts.length - (i + 1)).toNat, _, by omega, (sub_of (g := 1) [1, 7, 3, 4, 8, 6] (by decide) (by decide) (by repeat' first | exact ep_nil | exact ri hi.symm | exact ov_book (rel_slice rfl rfl) (rel_map rfl) | exact ov_ents rfl rfl | refine ep_cons rfl ?_ ?_ | exact .int _ _ | exact .bool _ | exact .string _ | exact rel_slice rfl rfl | exact rel_nil rfl rfl | exact rel_ptr rfl | exact .nilPtr | exact .nilIface | exact .nilSlice) (by repeat' first | exact hp_nil | exact ri hi.symm | exact ov_book (rel_slice rfl rfl) (rel_map rfl) | exact ov_ents rfl rfl | refine hp_cons rfl rfl ?_ ?_ | refine hp_void rfl rfl ?_ | exact ov_win _ | exact ov_opn _ rfl | exact ov_cells _ _ (by decide))), i + 1, lx, lz, by omega, by omega, by omega, by omega, nx, nz, hma, hmb, rfl, rfl⟩
  obtain rfl : i = k0 := by omega
  have mb' : ∀ y, y ∈ lb ↔ y ∈ ts.take i.toNat ∧ ¬ badT y := fun y => by rw [mb y, show (i - i).toNat = 0 by omega, List.drop_zero]
  have hlen : la.length = lb.length := Nat.le_antisymm (len_le_of_sub na fun y hy => (mb' y).2 ((ma y).1 hy)) (len_le_of_sub nb fun y hy => (ma y).2 ((mb' y).1 hy))
  repeat' first
    | (refine vq_op tab rfl rfl rfl rfl ?_)
    | (refine vq_op tab ⟨_, _, rfl, rfl, rfl⟩ rfl rfl rfl ?_)
    | (refine vn_op tab rfl rfl rfl rfl ?_)
    | (refine vs_op tab rfl rfl rfl ?_)
    | (refine vk_op ⟨_, _, rfl, rfl, rfl⟩ rfl rfl ?_)
    | (refine vku_op rfl rfl rfl rfl rfl ?_)
    | (refine vn_op tab ⟨_, _, rfl, rfl, rfl⟩ rfl rfl rfl ?_)
    | (refine vgd_op true rfl rfl rfl (by decide) ?_)
    | (refine vgd_op false rfl rfl rfl (by decide) ?_)
    | (refine vgd_op true rfl rfl rfl (by simp only [decide_eq_true_eq, decide_eq_false_iff_not, Bool.not_eq_eq_eq_not, Bool.not_true, Bool.not_false, bne_iff_ne, bne_eq_false_iff_eq, beq_iff_eq, beq_eq_false_iff_ne, ne_eq, beq_self_eq_true, bne_self_eq_false, Bool.and_eq_true, Bool.and_eq_false_iff, Bool.or_eq_true, Bool.or_eq_false_iff, and_self, and_true, true_and, Bool.false_eq_true, Bool.true_eq_false, not_false_eq_true, not_true_eq_false]; first | done | omega) ?_)
    | (refine vgd_op false rfl rfl rfl (by simp only [decide_eq_true_eq, decide_eq_false_iff_not, Bool.not_eq_eq_eq_not, Bool.not_true, Bool.not_false, bne_iff_ne, bne_eq_false_iff_eq, beq_iff_eq, beq_eq_false_iff_ne, ne_eq, beq_self_eq_true, bne_self_eq_false, Bool.and_eq_true, Bool.and_eq_false_iff, Bool.or_eq_true, Bool.or_eq_false_iff, and_self, and_true, true_and, Bool.false_eq_true, Bool.true_eq_false, not_false_eq_true, not_true_eq_false]; first | done | omega) ?_)
    | (refine vg_op rfl rfl rfl (fun _ => ?_) (fun _ => ?_))
    | (refine v_nil ?_)
    | (refine vw_seq ?_)
    | (refine vw_region ?_)
    | (refine vw_draw mixed ?_)
    | (refine dq_op tab rfl rfl rfl rfl ?_)
    | (refine dq_op tab ⟨_, _, rfl, rfl, rfl⟩ rfl rfl rfl ?_)
    | (refine dn_op tab rfl rfl rfl rfl ?_)
    | (refine ds_op tab rfl rfl rfl rfl ?_)
    | (refine dk_op ⟨_, _, rfl, rfl, rfl⟩ rfl ?_)
    | (refine dku_op rfl rfl rfl rfl ?_)
    | (refine dn_op tab ⟨_, _, rfl, rfl, rfl⟩ rfl rfl rfl ?_)
    | (refine ds_op tab ⟨_, _, rfl, rfl, rfl⟩ rfl rfl rfl ?_)
    | (refine dgd_op true rfl rfl rfl (by decide) ?_)
    | (refine dgd_op false rfl rfl rfl (by decide) ?_)
    | (refine dgd_op true rfl rfl rfl (by simp only [decide_eq_true_eq, decide_eq_false_iff_not, Bool.not_eq_eq_eq_not, Bool.not_true, Bool.not_false, bne_iff_ne, bne_eq_false_iff_eq, beq_iff_eq, beq_eq_false_iff_ne, ne_eq, beq_self_eq_true, bne_self_eq_false, Bool.and_eq_true, Bool.and_eq_false_iff, Bool.or_eq_true, Bool.or_eq_false_iff, and_self, and_true, true_and, Bool.false_eq_true, Bool.true_eq_false, not_false_eq_true, not_true_eq_false]; first | done | omega) ?_)
    | (refine dgd_op false rfl rfl rfl (by simp only [decide_eq_true_eq, decide_eq_false_iff_not, Bool.not_eq_eq_eq_not, Bool.not_true, Bool.not_false, bne_iff_ne, bne_eq_false_iff_eq, beq_iff_eq, beq_eq_false_iff_ne, ne_eq, beq_self_eq_true, bne_self_eq_false, Bool.and_eq_true, Bool.and_eq_false_iff, Bool.or_eq_true, Bool.or_eq_false_iff, and_self, and_true, true_and, Bool.false_eq_true, Bool.true_eq_false, not_false_eq_true, not_true_eq_false]; first | done | omega) ?_)
    | (refine dg_op rfl rfl rfl (fun _ => ?_) (fun _ => ?_))
    | (refine vd_nil (by kernel_rfl) ?_)
    | (refine vc_true rfl ?_)
    | (refine vc_false rfl ?_)
    | (refine vcd_true rfl (by decide) ?_)
    | (refine vcd_false rfl (by decide) ?_)
    | (refine vcd_true rfl (by simp only [decide_eq_true_eq, decide_eq_false_iff_not, Bool.not_eq_eq_eq_not, Bool.not_true, Bool.not_false, bne_iff_ne, bne_eq_false_iff_eq, beq_iff_eq, beq_eq_false_iff_ne, ne_eq, beq_self_eq_true, bne_self_eq_false, Bool.and_eq_true, Bool.and_eq_false_iff, Bool.or_eq_true, Bool.or_eq_false_iff, and_self, and_true, true_and, Bool.false_eq_true, Bool.true_eq_false, not_false_eq_true, not_true_eq_false]; first | done | omega) ?_)
    | (refine vcd_false rfl (by simp only [decide_eq_true_eq, decide_eq_false_iff_not, Bool.not_eq_eq_eq_not, Bool.not_true, Bool.not_false, bne_iff_ne, bne_eq_false_iff_eq, beq_iff_eq, beq_eq_false_iff_ne, ne_eq, beq_self_eq_true, bne_self_eq_false, Bool.and_eq_true, Bool.and_eq_false_iff, Bool.or_eq_true, Bool.or_eq_false_iff, and_self, and_true, true_and, Bool.false_eq_true, Bool.true_eq_false, not_false_eq_true, not_true_eq_false]; first | done | omega) ?_)
    | (refine vc_part rfl (fun _ => ?_) (fun _ => ?_))
    | (refine vw_block ?_)
    | (refine q_then ?_)
    | (refine q_norm ?_)
    | (refine q_here ?_)
    | (refine q_out rfl ?_)
    | (refine q_thenx ?_)
    | (refine q_thenr ?_)
    | (refine q_ret ?_)
    | (refine rd_step ?_)
    | (refine vcc_false ?_)
    | (refine vcc_true ?_)
    | (refine vw_skip ?_)
    | (refine vw_exit ?_)
    | (refine vw_ret ?_)
  refine vw_loop_sub (fun k s => ∃ (j : Int), 0 ≤ j ∧ j ≤ i ∧ k = (i - j).toNat ∧
      s = ⟨[(0, .slice (some ⟨0, 0, none⟩) ts.length 0), (3, .pointer (some ⟨1, 0, none⟩)), (5, .pointer (some ⟨4, 0, none⟩)), (7, .int .i64 i), (13, .int .i64 j)],
        lkp [(0, .win (strR.cells ts) 1), (1, bookC 99 2 la.length 3), (2, .opn (strR.cells la) 9 1), (3, .map (ents 0 la) la.length), (4, bookC 99 5 lb.length 6), (5, .opn (strR.cells lb) 9 1), (6, .map (ents 0 lb) lb.length)], 7⟩) i.toNat
    ⟨_, (sub_of (g := 1) [1, 2, 3, 4, 5, 6] (by decide) (by decide) (by repeat' first | exact ep_nil | exact ov_book (rel_slice rfl rfl) (rel_map rfl) | exact ov_ents rfl rfl | refine ep_cons rfl ?_ ?_ | exact .int _ _ | exact .bool _ | exact .string _ | exact rel_slice rfl rfl | exact rel_nil rfl rfl | exact rel_ptr rfl | exact .nilPtr | exact .nilIface | exact .nilSlice) (by repeat' first | exact hp_nil | exact ov_book (rel_slice rfl rfl) (rel_map rfl) | exact ov_ents rfl rfl | refine hp_cons rfl rfl ?_ ?_ | refine hp_void rfl rfl ?_ | exact ov_win _ | exact ov_opn _ rfl | exact ov_cells _ _ (by decide))), 0, by omega, by omega, by simp, rfl⟩ ?_
  rintro k s ⟨j, j0, j1, rfl, rfl⟩
  by_cases hj : j < i
  case neg =>
    repeat' first
      | (refine vq_op tab rfl rfl rfl rfl ?_)
      | (refine vq_op tab ⟨_, _, rfl, rfl, rfl⟩ rfl rfl rfl ?_)
      | (refine vn_op tab rfl rfl rfl rfl ?_)
      | (refine vr_op rfl rfl rfl rfl rfl rfl callable_27 (len_tri (l := la) ⟨rfl, rfl, rfl, by decide, by decide, by decide⟩) ?_)
      | (refine vr_op ⟨_, _, rfl, rfl, rfl⟩ rfl rfl rfl rfl rfl callable_27 (len_tri (l := la) ⟨rfl, rfl, rfl, by decide, by decide, by decide⟩) ?_)
      | (refine vr_op rfl rfl rfl rfl rfl rfl callable_27 (len_tri (l := lb) ⟨rfl, rfl, rfl, by decide, by decide, by decide⟩) ?_)
      | (refine vr_op ⟨_, _, rfl, rfl, rfl⟩ rfl rfl rfl rfl rfl callable_27 (len_tri (l := lb) ⟨rfl, rfl, rfl, by decide, by decide, by decide⟩) ?_)
      | (refine vs_op tab rfl rfl rfl ?_)
      | (refine vk_op ⟨_, _, rfl, rfl, rfl⟩ rfl rfl ?_)
      | (refine vku_op rfl rfl rfl rfl rfl ?_)
      | (refine vn_op tab ⟨_, _, rfl, rfl, rfl⟩ rfl rfl rfl ?_)
      | (refine vgd_op true rfl rfl rfl (by decide) ?_)
      | (refine vgd_op false rfl rfl rfl (by decide) ?_)
      | (refine vgd_op true rfl rfl rfl (by simp only [decide_eq_true_eq, decide_eq_false_iff_not, Bool.not_eq_eq_eq_not, Bool.not_true, Bool.not_false, bne_iff_ne, bne_eq_false_iff_eq, beq_iff_eq, beq_eq_false_iff_ne, ne_eq, beq_self_eq_true, bne_self_eq_false, Bool.and_eq_true, Bool.and_eq_false_iff, Bool.or_eq_true, Bool.or_eq_false_iff, and_self, and_true, true_and, Bool.false_eq_true, Bool.true_eq_false, not_false_eq_true, not_true_eq_false]; first | done | omega) ?_)
      | (refine vgd_op false rfl rfl rfl (by simp only [decide_eq_true_eq, decide_eq_false_iff_not, Bool.not_eq_eq_eq_not, Bool.not_true, Bool.not_false, bne_iff_ne, bne_eq_false_iff_eq, beq_iff_eq, beq_eq_false_iff_ne, ne_eq, beq_self_eq_true, bne_self_eq_false, Bool.and_eq_true, Bool.and_eq_false_iff, Bool.or_eq_true, Bool.or_eq_false_iff, and_self, and_true, true_and, Bool.false_eq_true, Bool.true_eq_false, not_false_eq_true, not_true_eq_false]; first | done | omega) ?_)
      | (refine vg_op rfl rfl rfl (fun _ => ?_) (fun _ => ?_))
      | (refine v_nil ?_)
      | (refine vw_seq ?_)
      | (refine vw_region ?_)
      | (refine vw_draw mixed ?_)
      | (refine dq_op tab rfl rfl rfl rfl ?_)
      | (refine dq_op tab ⟨_, _, rfl, rfl, rfl⟩ rfl rfl rfl ?_)
      | (refine dr_op rfl rfl rfl rfl rfl callable_27 (len_tri (l := la) ⟨rfl, rfl, rfl, by decide, by decide, by decide⟩) ?_)
      | (refine dr_op ⟨_, _, rfl, rfl, rfl⟩ rfl rfl rfl rfl callable_27 (len_tri (l := la) ⟨rfl, rfl, rfl, by decide, by decide, by decide⟩) ?_)
      | (refine dr_op rfl rfl rfl rfl rfl callable_27 (len_tri (l := lb) ⟨rfl, rfl, rfl, by decide, by decide, by decide⟩) ?_)
      | (refine dr_op ⟨_, _, rfl, rfl, rfl⟩ rfl rfl rfl rfl callable_27 (len_tri (l := lb) ⟨rfl, rfl, rfl, by decide, by decide, by decide⟩) ?_)
      | (refine dn_op tab rfl rfl rfl rfl ?_)
      | (refine ds_op tab rfl rfl rfl rfl ?_)
      | (refine dk_op ⟨_, _, rfl, rfl, rfl⟩ rfl ?_)
      | (refine dku_op rfl rfl rfl rfl ?_)
      | (refine dn_op tab ⟨_, _, rfl, rfl, rfl⟩ rfl rfl rfl ?_)
      | (refine ds_op tab ⟨_, _, rfl, rfl, rfl⟩ rfl rfl rfl ?_)
      | (refine dgd_op true rfl rfl rfl (by decide) ?_)
      | (refine dgd_op false rfl rfl rfl (by decide) ?_)
      | (refine dgd_op true rfl rfl rfl (by simp only [decide_eq_true_eq, decide_eq_false_iff_not, Bool.not_eq_eq_eq_not, Bool.not_true, Bool.not_false, bne_iff_ne, bne_eq_false_iff_eq, beq_iff_eq, beq_eq_false_iff_ne, ne_eq, beq_self_eq_true, bne_self_eq_false, Bool.and_eq_true, Bool.and_eq_false_iff, Bool.or_eq_true, Bool.or_eq_false_iff, and_self, and_true, true_and, Bool.false_eq_true, Bool.true_eq_false, not_false_eq_true, not_true_eq_false]; first | done | omega) ?_)
      | (refine dgd_op false rfl rfl rfl (by simp only [decide_eq_true_eq, decide_eq_false_iff_not, Bool.not_eq_eq_eq_not, Bool.not_true, Bool.not_false, bne_iff_ne, bne_eq_false_iff_eq, beq_iff_eq, beq_eq_false_iff_ne, ne_eq, beq_self_eq_true, bne_self_eq_false, Bool.and_eq_true, Bool.and_eq_false_iff, Bool.or_eq_true, Bool.or_eq_false_iff, and_self, and_true, true_and, Bool.false_eq_true, Bool.true_eq_false, not_false_eq_true, not_true_eq_false]; first | done | omega) ?_)
      | (refine dg_op rfl rfl rfl (fun _ => ?_) (fun _ => ?_))
      | (refine vd_nil (by kernel_rfl) ?_)
      | (refine vc_true rfl ?_)
      | (refine vc_false rfl ?_)
      | (refine vcd_true rfl (by decide) ?_)
      | (refine vcd_false rfl (by decide) ?_)
      | (refine vcd_true rfl (by simp only [decide_eq_true_eq, decide_eq_false_iff_not, Bool.not_eq_eq_eq_not, Bool.not_true, Bool.not_false, bne_iff_ne, bne_eq_false_iff_eq, beq_iff_eq, beq_eq_false_iff_ne, ne_eq, beq_self_eq_true, bne_self_eq_false, Bool.and_eq_true, Bool.and_eq_false_iff, Bool.or_eq_true, Bool.or_eq_false_iff, and_self, and_true, true_and, Bool.false_eq_true, Bool.true_eq_false, not_false_eq_true, not_true_eq_false]; first | done | omega) ?_)
      | (refine vcd_false rfl (by simp only [decide_eq_true_eq, decide_eq_false_iff_not, Bool.not_eq_eq_eq_not, Bool.not_true, Bool.not_false, bne_iff_ne, bne_eq_false_iff_eq, beq_iff_eq, beq_eq_false_iff_ne, ne_eq, beq_self_eq_true, bne_self_eq_false, Bool.and_eq_true, Bool.and_eq_false_iff, Bool.or_eq_true, Bool.or_eq_false_iff, and_self, and_true, true_and, Bool.false_eq_true, Bool.true_eq_false, not_false_eq_true, not_true_eq_false]; first | done | omega) ?_)
      | (refine vc_part rfl (fun _ => ?_) (fun _ => ?_))
      | (refine vw_block ?_)
      | (refine q_then ?_)
      | (refine q_norm ?_)
      | (refine q_here ?_)
      | (refine q_out rfl ?_)
      | (refine q_thenx ?_)
      | (refine q_thenr ?_)
      | (refine q_ret ?_)
      | (refine rd_step ?_)
      | (refine vcc_false ?_)
      | (refine vcc_true ?_)
      | (refine vw_skip ?_)
      | (refine vw_exit ?_)
      | (refine vw_ret ?_)
    exact ⟨.inr rfl, Eq.trans (b := some (.bool ((la.length : Int) == (lb.length : Int)))) rfl (by rw [hlen]; simp)⟩
  have hj1 : IntKind.i64.wrap (j + 1) = j + 1 := i64_in _ (by omega)
  obtain ⟨x, hx1⟩ := get_some (xs := ts) j0 (by omega)
  have hxm : x ∈ ts.take i.toNat := List.mem_of_getElem? (i := j.toNat) (by rw [List.getElem?_take, if_pos (by omega)]; exact hx1)
  by_cases hxb : badT x
  · have ha : (findB x la).isSome = false := by rw [findB_none_of fun h => ((ma x).1 h).2 hxb]; rfl
    have hb2 : (findB x lb).isSome = false := by rw [findB_none_of fun h => ((mb' x).1 h).2 hxb]; rfl
    repeat' first
      | (refine vq_op tab rfl rfl rfl rfl ?_)
      | (refine vq_op tab ⟨_, _, rfl, rfl, rfl⟩ rfl rfl rfl ?_)
      | (refine vn_op tab rfl rfl rfl rfl ?_)
      | (refine vq_op tab rfl rfl rfl (ev_index rfl rfl rfl rfl rfl (by omega) (by omega)) ?_)
      | (refine vq_op tab ⟨_, _, rfl, rfl, rfl⟩ rfl rfl (ev_index rfl rfl rfl rfl rfl (by omega) (by omega)) ?_)
      | (refine vq_op tab rfl rfl rfl (ev_val strR rfl rfl rfl rfl rfl hx1 rfl) ?_)
      | (refine vq_op tab ⟨_, _, rfl, rfl, rfl⟩ rfl rfl (ev_val strR rfl rfl rfl rfl rfl hx1 rfl) ?_)
      | (refine vr_op rfl rfl rfl rfl rfl rfl callable_20 (find_tri (l := la) ⟨rfl, rfl, rfl, by decide, by decide, by decide⟩ _) ?_)
      | (refine vr_op ⟨_, _, rfl, rfl, rfl⟩ rfl rfl rfl rfl rfl callable_20 (find_tri (l := la) ⟨rfl, rfl, rfl, by decide, by decide, by decide⟩ _) ?_)
      | (refine vr_op rfl rfl rfl rfl rfl rfl callable_20 (find_tri (l := lb) ⟨rfl, rfl, rfl, by decide, by decide, by decide⟩ _) ?_)
      | (refine vr_op ⟨_, _, rfl, rfl, rfl⟩ rfl rfl rfl rfl rfl callable_20 (find_tri (l := lb) ⟨rfl, rfl, rfl, by decide, by decide, by decide⟩ _) ?_)
      | (refine vs_op tab rfl rfl rfl ?_)
      | (refine vk_op ⟨_, _, rfl, rfl, rfl⟩ rfl rfl ?_)
      | (refine vku_op rfl rfl rfl rfl rfl ?_)
      | (refine vn_op tab ⟨_, _, rfl, rfl, rfl⟩ rfl rfl rfl ?_)
      | (refine vgd_op true rfl rfl rfl (by decide) ?_)
      | (refine vgd_op false rfl rfl rfl (by decide) ?_)
      | (refine vgd_op true rfl rfl rfl (by simp only [ha, hb2, decide_eq_true_eq, decide_eq_false_iff_not, Bool.not_eq_eq_eq_not, Bool.not_true, Bool.not_false, bne_iff_ne, bne_eq_false_iff_eq, beq_iff_eq, beq_eq_false_iff_ne, ne_eq, beq_self_eq_true, bne_self_eq_false, Bool.and_eq_true, Bool.and_eq_false_iff, Bool.or_eq_true, Bool.or_eq_false_iff, and_self, and_true, true_and, Bool.false_eq_true, Bool.true_eq_false, not_false_eq_true, not_true_eq_false]; first | done | omega) ?_)
      | (refine vgd_op false rfl rfl rfl (by simp only [ha, hb2, decide_eq_true_eq, decide_eq_false_iff_not, Bool.not_eq_eq_eq_not, Bool.not_true, Bool.not_false, bne_iff_ne, bne_eq_false_iff_eq, beq_iff_eq, beq_eq_false_iff_ne, ne_eq, beq_self_eq_true, bne_self_eq_false, Bool.and_eq_true, Bool.and_eq_false_iff, Bool.or_eq_true, Bool.or_eq_false_iff, and_self, and_true, true_and, Bool.false_eq_true, Bool.true_eq_false, not_false_eq_true, not_true_eq_false]; first | done | omega) ?_)
      | (refine vg_op rfl rfl rfl (fun _ => ?_) (fun _ => ?_))
      | (refine v_nil ?_)
      | (refine vw_seq ?_)
      | (refine vw_region ?_)
      | (refine vw_draw mixed ?_)
      | (refine dq_op tab rfl rfl rfl rfl ?_)
      | (refine dq_op tab ⟨_, _, rfl, rfl, rfl⟩ rfl rfl rfl ?_)
      | (refine dq_op tab rfl rfl (ev_index rfl rfl rfl rfl rfl (by omega) (by omega)) (ev_index rfl rfl rfl rfl rfl (by omega) (by omega)) ?_)
      | (refine dq_op tab ⟨_, _, rfl, rfl, rfl⟩ rfl (ev_index rfl rfl rfl rfl rfl (by omega) (by omega)) (ev_index rfl rfl rfl rfl rfl (by omega) (by omega)) ?_)
      | (refine dq_op tab rfl rfl (ev_val strR rfl rfl rfl rfl rfl hx1 rfl) (ev_val strR rfl rfl rfl rfl rfl hx1 rfl) ?_)
      | (refine dq_op tab ⟨_, _, rfl, rfl, rfl⟩ rfl (ev_val strR rfl rfl rfl rfl rfl hx1 rfl) (ev_val strR rfl rfl rfl rfl rfl hx1 rfl) ?_)
      | (refine dr_op rfl rfl rfl rfl rfl callable_20 (find_tri (l := la) ⟨rfl, rfl, rfl, by decide, by decide, by decide⟩ _) ?_)
      | (refine dr_op ⟨_, _, rfl, rfl, rfl⟩ rfl rfl rfl rfl callable_20 (find_tri (l := la) ⟨rfl, rfl, rfl, by decide, by decide, by decide⟩ _) ?_)
      | (refine dr_op rfl rfl rfl rfl rfl callable_20 (find_tri (l := lb) ⟨rfl, rfl, rfl, by decide, by decide, by decide⟩ _) ?_)
      | (refine dr_op ⟨_, _, rfl, rfl, rfl⟩ rfl rfl rfl rfl callable_20 (find_tri (l := lb) ⟨rfl, rfl, rfl, by decide, by decide, by decide⟩ _) ?_)
      | (refine dn_op tab rfl rfl rfl rfl ?_)
      | (refine ds_op tab rfl rfl rfl rfl ?_)
      | (refine dk_op ⟨_, _, rfl, rfl, rfl⟩ rfl ?_)
      | (refine dku_op rfl rfl rfl rfl ?_)
      | (refine dn_op tab ⟨_, _, rfl, rfl, rfl⟩ rfl rfl rfl ?_)
      | (refine ds_op tab ⟨_, _, rfl, rfl, rfl⟩ rfl rfl rfl ?_)
      | (refine dgd_op true rfl rfl rfl (by decide) ?_)
      | (refine dgd_op false rfl rfl rfl (by decide) ?_)
      | (refine dgd_op true rfl rfl rfl (by simp only [ha, hb2, decide_eq_true_eq, decide_eq_false_iff_not, Bool.not_eq_eq_eq_not, Bool.not_true, Bool.not_false, bne_iff_ne, bne_eq_false_iff_eq, beq_iff_eq, beq_eq_false_iff_ne, ne_eq, beq_self_eq_true, bne_self_eq_false, Bool.and_eq_true, Bool.and_eq_false_iff, Bool.or_eq_true, Bool.or_eq_false_iff, and_self, and_true, true_and, Bool.false_eq_true, Bool.true_eq_false, not_false_eq_true, not_true_eq_false]; first | done | omega) ?_)
      | (refine dgd_op false rfl rfl rfl (by simp only [ha, hb2, decide_eq_true_eq, decide_eq_false_iff_not, Bool.not_eq_eq_eq_not, Bool.not_true, Bool.not_false, bne_iff_ne, bne_eq_false_iff_eq, beq_iff_eq, beq_eq_false_iff_ne, ne_eq, beq_self_eq_true, bne_self_eq_false, Bool.and_eq_true, Bool.and_eq_false_iff, Bool.or_eq_true, Bool.or_eq_false_iff, and_self, and_true, true_and, Bool.false_eq_true, Bool.true_eq_false, not_false_eq_true, not_true_eq_false]; first | done | omega) ?_)
      | (refine dg_op rfl rfl rfl (fun _ => ?_) (fun _ => ?_))
      | (refine vd_nil (by kernel_rfl) ?_)
      | (refine vc_true rfl ?_)
      | (refine vc_false rfl ?_)
      | (refine vcd_true rfl (by decide) ?_)
      | (refine vcd_false rfl (by decide) ?_)
      | (refine vcd_true rfl (by simp only [ha, hb2, decide_eq_true_eq, decide_eq_false_iff_not, Bool.not_eq_eq_eq_not, Bool.not_true, Bool.not_false, bne_iff_ne, bne_eq_false_iff_eq, beq_iff_eq, beq_eq_false_iff_ne, ne_eq, beq_self_eq_true, bne_self_eq_false, Bool.and_eq_true, Bool.and_eq_false_iff, Bool.or_eq_true, Bool.or_eq_false_iff, and_self, and_true, true_and, Bool.false_eq_true, Bool.true_eq_false, not_false_eq_true, not_true_eq_false]; first | done | omega) ?_)
      | (refine vcd_false rfl (by simp only [ha, hb2, decide_eq_true_eq, decide_eq_false_iff_not, Bool.not_eq_eq_eq_not, Bool.not_true, Bool.not_false, bne_iff_ne, bne_eq_false_iff_eq, beq_iff_eq, beq_eq_false_iff_ne, ne_eq, beq_self_eq_true, bne_self_eq_false, Bool.and_eq_true, Bool.and_eq_false_iff, Bool.or_eq_true, Bool.or_eq_false_iff, and_self, and_true, true_and, Bool.false_eq_true, Bool.true_eq_false, not_false_eq_true, not_true_eq_false]; first | done | omega) ?_)
      | (refine vc_part rfl (fun _ => ?_) (fun _ => ?_))
      | (refine vw_block ?_)
      | (refine q_then ?_)
      | (refine q_norm ?_)
      | (refine q_here ?_)
      | (refine q_out rfl ?_)
      | (refine q_thenx ?_)
      | (refine q_thenr ?_)
      | (refine q_ret ?_)
      | (refine rd_step ?_)
      | (refine vcc_false ?_)
      | (refine vcc_true ?_)
      | (refine vw_skip ?_)
      | (refine vw_exit ?_)
      | (refine vw_ret ?_)
    exact ⟨(i - (j + 1)).toNat, _, by omega, (sub_of (g := 1) [1, 2, 3, 4, 5, 6] (by decide) (by decide) (by repeat' first | exact ep_nil | exact ri hj1.symm | exact ov_book (rel_slice rfl rfl) (rel_map rfl) | exact ov_ents rfl rfl | refine ep_cons rfl ?_ ?_ | exact .int _ _ | exact .bool _ | exact .string _ | exact rel_slice rfl rfl | exact rel_nil rfl rfl | exact rel_ptr rfl | exact .nilPtr | exact .nilIface | exact .nilSlice) (by repeat' first | exact hp_nil | exact ri hj1.symm | exact ov_book (rel_slice rfl rfl) (rel_map rfl) | exact ov_ents rfl rfl | refine hp_cons rfl rfl ?_ ?_ | refine hp_void rfl rfl ?_ | exact ov_win _ | exact ov_opn _ rfl | exact ov_cells _ _ (by decide))), j + 1, by omega, by omega, rfl, rfl⟩
  · obtain ⟨a, hfa⟩ := findB_mem ((ma x).2 ⟨hxm, hxb⟩)
    obtain ⟨b, hfb⟩ := findB_mem ((mb' x).2 ⟨hxm, hxb⟩)
    have ha : (findB x la).isSome = true := by rw [hfa]; rfl
    have hb2 : (findB x lb).isSome = true := by rw [hfb]; rfl
    have s1 : termS la (findN (findB x la)) = x := by rw [hfa]; exact termS_is (Int.natCast_nonneg _) (findB_some hfa).1
    have s2 : termE la (findN (findB x la)) = 0 := by rw [hfa]; exact termE_is (Int.natCast_nonneg _) (findB_some hfa).1
    have s3 : termS lb (findN (findB x lb)) = x := by rw [hfb]; exact termS_is (Int.natCast_nonneg _) (findB_some hfb).1
    have s4 : termE lb (findN (findB x lb)) = 0 := by rw [hfb]; exact termE_is (Int.natCast_nonneg _) (findB_some hfb).1
    have s5 : (x == x) = true := by rw [ba_beq]; exact decide_eq_true rfl
    repeat' first
      | (refine vq_op tab rfl rfl rfl rfl ?_)
      | (refine vq_op tab ⟨_, _, rfl, rfl, rfl⟩ rfl rfl rfl ?_)
      | (refine vn_op tab rfl rfl rfl rfl ?_)
      | (refine vq_op tab rfl rfl rfl (ev_index rfl rfl rfl rfl rfl (by omega) (by omega)) ?_)
      | (refine vq_op tab ⟨_, _, rfl, rfl, rfl⟩ rfl rfl (ev_index rfl rfl rfl rfl rfl (by omega) (by omega)) ?_)
      | (refine vq_op tab rfl rfl rfl (ev_val strR rfl rfl rfl rfl rfl hx1 rfl) ?_)
      | (refine vq_op tab ⟨_, _, rfl, rfl, rfl⟩ rfl rfl (ev_val strR rfl rfl rfl rfl rfl hx1 rfl) ?_)
      | (refine vr_op rfl rfl rfl rfl rfl rfl callable_20 (find_tri (l := la) ⟨rfl, rfl, rfl, by decide, by decide, by decide⟩ _) ?_)
      | (refine vr_op ⟨_, _, rfl, rfl, rfl⟩ rfl rfl rfl rfl rfl callable_20 (find_tri (l := la) ⟨rfl, rfl, rfl, by decide, by decide, by decide⟩ _) ?_)
      | (refine vr_op rfl rfl rfl rfl rfl rfl callable_20 (find_tri (l := lb) ⟨rfl, rfl, rfl, by decide, by decide, by decide⟩ _) ?_)
      | (refine vr_op ⟨_, _, rfl, rfl, rfl⟩ rfl rfl rfl rfl rfl callable_20 (find_tri (l := lb) ⟨rfl, rfl, rfl, by decide, by decide, by decide⟩ _) ?_)
      | (refine vr_op rfl rfl rfl rfl rfl rfl callable_25 (term_tri (l := la) ⟨rfl, rfl, rfl, by decide, by decide, by decide⟩ _) ?_)
      | (refine vr_op ⟨_, _, rfl, rfl, rfl⟩ rfl rfl rfl rfl rfl callable_25 (term_tri (l := la) ⟨rfl, rfl, rfl, by decide, by decide, by decide⟩ _) ?_)
      | (refine vr_op rfl rfl rfl rfl rfl rfl callable_25 (term_tri (l := lb) ⟨rfl, rfl, rfl, by decide, by decide, by decide⟩ _) ?_)
      | (refine vr_op ⟨_, _, rfl, rfl, rfl⟩ rfl rfl rfl rfl rfl callable_25 (term_tri (l := lb) ⟨rfl, rfl, rfl, by decide, by decide, by decide⟩ _) ?_)
      | (refine vf_op rfl rfl rfl rfl rfl rfl callable_18 (num_fun _) ?_)
      | (refine vf_op ⟨_, _, rfl, rfl, rfl⟩ rfl rfl rfl rfl rfl callable_18 (num_fun _) ?_)
      | (refine vs_op tab rfl rfl rfl ?_)
      | (refine vk_op ⟨_, _, rfl, rfl, rfl⟩ rfl rfl ?_)
      | (refine vku_op rfl rfl rfl rfl rfl ?_)
      | (refine vn_op tab ⟨_, _, rfl, rfl, rfl⟩ rfl rfl rfl ?_)
      | (refine vgd_op true rfl rfl rfl (by decide) ?_)
      | (refine vgd_op false rfl rfl rfl (by decide) ?_)
      | (refine vgd_op true rfl rfl rfl (by simp only [ha, hb2, s1, s2, s3, s4, s5, decide_eq_true_eq, decide_eq_false_iff_not, Bool.not_eq_eq_eq_not, Bool.not_true, Bool.not_false, bne_iff_ne, bne_eq_false_iff_eq, beq_iff_eq, beq_eq_false_iff_ne, ne_eq, beq_self_eq_true, bne_self_eq_false, Bool.and_eq_true, Bool.and_eq_false_iff, Bool.or_eq_true, Bool.or_eq_false_iff, and_self, and_true, true_and, Bool.false_eq_true, Bool.true_eq_false, not_false_eq_true, not_true_eq_false]; first | done | omega) ?_)
      | (refine vgd_op false rfl rfl rfl (by simp only [ha, hb2, s1, s2, s3, s4, s5, decide_eq_true_eq, decide_eq_false_iff_not, Bool.not_eq_eq_eq_not, Bool.not_true, Bool.not_false, bne_iff_ne, bne_eq_false_iff_eq, beq_iff_eq, beq_eq_false_iff_ne, ne_eq, beq_self_eq_true, bne_self_eq_false, Bool.and_eq_true, Bool.and_eq_false_iff, Bool.or_eq_true, Bool.or_eq_false_iff, and_self, and_true, true_and, Bool.false_eq_true, Bool.true_eq_false, not_false_eq_true, not_true_eq_false]; first | done | omega) ?_)
      | (refine vg_op rfl rfl rfl (fun _ => ?_) (fun _ => ?_))
      | (refine v_nil ?_)
      | (refine vw_seq ?_)
      | (refine vw_region ?_)
      | (refine vw_draw mixed ?_)
      | (refine dq_op tab rfl rfl rfl rfl ?_)
      | (refine dq_op tab ⟨_, _, rfl, rfl, rfl⟩ rfl rfl rfl ?_)
      | (refine dq_op tab rfl rfl (ev_index rfl rfl rfl rfl rfl (by omega) (by omega)) (ev_index rfl rfl rfl rfl rfl (by omega) (by omega)) ?_)
      | (refine dq_op tab ⟨_, _, rfl, rfl, rfl⟩ rfl (ev_index rfl rfl rfl rfl rfl (by omega) (by omega)) (ev_index rfl rfl rfl rfl rfl (by omega) (by omega)) ?_)
      | (refine dq_op tab rfl rfl (ev_val strR rfl rfl rfl rfl rfl hx1 rfl) (ev_val strR rfl rfl rfl rfl rfl hx1 rfl) ?_)
      | (refine dq_op tab ⟨_, _, rfl, rfl, rfl⟩ rfl (ev_val strR rfl rfl rfl rfl rfl hx1 rfl) (ev_val strR rfl rfl rfl rfl rfl hx1 rfl) ?_)
      | (refine dr_op rfl rfl rfl rfl rfl callable_20 (find_tri (l := la) ⟨rfl, rfl, rfl, by decide, by decide, by decide⟩ _) ?_)
      | (refine dr_op ⟨_, _, rfl, rfl, rfl⟩ rfl rfl rfl rfl callable_20 (find_tri (l := la) ⟨rfl, rfl, rfl, by decide, by decide, by decide⟩ _) ?_)
      | (refine dr_op rfl rfl rfl rfl rfl callable_20 (find_tri (l := lb) ⟨rfl, rfl, rfl, by decide, by decide, by decide⟩ _) ?_)
      | (refine dr_op ⟨_, _, rfl, rfl, rfl⟩ rfl rfl rfl rfl callable_20 (find_tri (l := lb) ⟨rfl, rfl, rfl, by decide, by decide, by decide⟩ _) ?_)
      | (refine dr_op rfl rfl rfl rfl rfl callable_25 (term_tri (l := la) ⟨rfl, rfl, rfl, by decide, by decide, by decide⟩ _) ?_)
      | (refine dr_op ⟨_, _, rfl, rfl, rfl⟩ rfl rfl rfl rfl callable_25 (term_tri (l := la) ⟨rfl, rfl, rfl, by decide, by decide, by decide⟩ _) ?_)
      | (refine dr_op rfl rfl rfl rfl rfl callable_25 (term_tri (l := lb) ⟨rfl, rfl, rfl, by decide, by decide, by decide⟩ _) ?_)
      | (refine dr_op ⟨_, _, rfl, rfl, rfl⟩ rfl rfl rfl rfl callable_25 (term_tri (l := lb) ⟨rfl, rfl, rfl, by decide, by decide, by decide⟩ _) ?_)
      | (refine df_op rfl rfl rfl rfl rfl callable_18 (num_fun _) ?_)
      | (refine df_op ⟨_, _, rfl, rfl, rfl⟩ rfl rfl rfl rfl callable_18 (num_fun _) ?_)
      | (refine dn_op tab rfl rfl rfl rfl ?_)
      | (refine ds_op tab rfl rfl rfl rfl ?_)
      | (refine dk_op ⟨_, _, rfl, rfl, rfl⟩ rfl ?_)
      | (refine dku_op rfl rfl rfl rfl ?_)
      | (refine dn_op tab ⟨_, _, rfl, rfl, rfl⟩ rfl rfl rfl ?_)
      | (refine ds_op tab ⟨_, _, rfl, rfl, rfl⟩ rfl rfl rfl ?_)
      | (refine dgd_op true rfl rfl rfl (by decide) ?_)
      | (refine dgd_op false rfl rfl rfl (by decide) ?_)
      | (refine dgd_op true rfl rfl rfl (by simp only [ha, hb2, s1, s2, s3, s4, s5, decide_eq_true_eq, decide_eq_false_iff_not, Bool.not_eq_eq_eq_not, Bool.not_true, Bool.not_false, bne_iff_ne, bne_eq_false_iff_eq, beq_iff_eq, beq_eq_false_iff_ne, ne_eq, beq_self_eq_true, bne_self_eq_false, Bool.and_eq_true, Bool.and_eq_false_iff, Bool.or_eq_true, Bool.or_eq_false_iff, and_self, and_true, true_and, Bool.false_eq_true, Bool.true_eq_false, not_false_eq_true, not_true_eq_false]; first | done | omega) ?_)
      | (refine dgd_op false rfl rfl rfl (by simp only [ha, hb2, s1, s2, s3, s4, s5, decide_eq_true_eq, decide_eq_false_iff_not, Bool.not_eq_eq_eq_not, Bool.not_true, Bool.not_false, bne_iff_ne, bne_eq_false_iff_eq, beq_iff_eq, beq_eq_false_iff_ne, ne_eq, beq_self_eq_true, bne_self_eq_false, Bool.and_eq_true, Bool.and_eq_false_iff, Bool.or_eq_true, Bool.or_eq_false_iff, and_self, and_true, true_and, Bool.false_eq_true, Bool.true_eq_false, not_false_eq_true, not_true_eq_false]; first | done | omega) ?_)
      | (refine dg_op rfl rfl rfl (fun _ => ?_) (fun _ => ?_))
      | (refine vd_nil (by kernel_rfl) ?_)
      | (refine vc_true rfl ?_)
      | (refine vc_false rfl ?_)
      | (refine vcd_true rfl (by decide) ?_)
      | (refine vcd_false rfl (by decide) ?_)
      | (refine vcd_true rfl (by simp only [ha, hb2, s1, s2, s3, s4, s5, decide_eq_true_eq, decide_eq_false_iff_not, Bool.not_eq_eq_eq_not, Bool.not_true, Bool.not_false, bne_iff_ne, bne_eq_false_iff_eq, beq_iff_eq, beq_eq_false_iff_ne, ne_eq, beq_self_eq_true, bne_self_eq_false, Bool.and_eq_true, Bool.and_eq_false_iff, Bool.or_eq_true, Bool.or_eq_false_iff, and_self, and_true, true_and, Bool.false_eq_true, Bool.true_eq_false, not_false_eq_true, not_true_eq_false]; first | done | omega) ?_)
      | (refine vcd_false rfl (by simp only [ha, hb2, s1, s2, s3, s4, s5, decide_eq_true_eq, decide_eq_false_iff_not, Bool.not_eq_eq_eq_not, Bool.not_true, Bool.not_false, bne_iff_ne, bne_eq_false_iff_eq, beq_iff_eq, beq_eq_false_iff_ne, ne_eq, beq_self_eq_true, bne_self_eq_false, Bool.and_eq_true, Bool.and_eq_false_iff, Bool.or_eq_true, Bool.or_eq_false_iff, and_self, and_true, true_and, Bool.false_eq_true, Bool.true_eq_false, not_false_eq_true, not_true_eq_false]; first | done | omega) ?_)
      | (refine vc_part rfl (fun _ => ?_) (fun _ => ?_))
      | (refine vw_block ?_)
      | (refine q_then ?_)
      | (refine q_norm ?_)
      | (refine q_here ?_)
      | (refine q_out rfl ?_)
      | (refine q_thenx ?_)
      | (refine q_thenr ?_)
      | (refine q_ret ?_)
      | (refine rd_step ?_)
      | (refine vcc_false ?_)
      | (refine vcc_true ?_)
      | (refine vw_skip ?_)
      | (refine vw_exit ?_)
      | (refine vw_ret ?_)
    exact ⟨(i - (j + 1)).toNat, _, by omega, (sub_of (g := 1) [1, 2, 3, 4, 5, 6] (by decide) (by decide) (by repeat' first | exact ep_nil | exact ri hj1.symm | exact ov_book (rel_slice rfl rfl) (rel_map rfl) | exact ov_ents rfl rfl | refine ep_cons rfl ?_ ?_ | exact .int _ _ | exact .bool _ | exact .string _ | exact rel_slice rfl rfl | exact rel_nil rfl rfl | exact rel_ptr rfl | exact .nilPtr | exact .nilIface | exact .nilSlice) (by repeat' first | exact hp_nil | exact ri hj1.symm | exact ov_book (rel_slice rfl rfl) (rel_map rfl) | exact ov_ents rfl rfl | refine hp_cons rfl rfl ?_ ?_ | refine hp_void rfl rfl ?_ | exact ov_win _ | exact ov_opn _ rfl | exact ov_cells _ _ (by decide))), j + 1, by omega, by omega, rfl, rfl⟩
end Go.Proofs.Ytenbhladboofeaa
