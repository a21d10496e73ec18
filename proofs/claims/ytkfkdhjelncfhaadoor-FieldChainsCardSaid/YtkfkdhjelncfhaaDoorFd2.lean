/- A number at a place: GetNum of the document, num of package field. -/
import Derived.Test.YtkfkdhjelncfhaaDoorVg1
import Derived.Test.YtkfkdhjelncfhaaDoorFd1
namespace Go.Proofs.YtkfkdhjelncfhaaDoor
open Go Vm IntWalk
set_option linter.unusedVariables false
set_option linter.unusedSimpArgs false
/-- Number, end, error, the error's place. -/
def getN (s : Bs) (at_ : Int) : Int × Int × Int × Int :=
  if at_ < 0 ∨ (s.length : Int) < at_ then (0, 0, 100, at_) else if at_ = s.length then (0, 0, 101, at_)
  else if 4 < (s.getD at_.toNat 0).toNat then (0, 0, 100, at_) else if (s.length : Int) - at_ - 1 < ((s.getD at_.toNat 0).toNat : Int) then (0, 0, 101, at_ + 1)
  else if (0 < (s.getD at_.toNat 0).toNat ∧ s.getD (at_.toNat + 1) 0 = 0) ∨ 1073741823 < be ((s.drop (at_.toNat + 1)).take (s.getD at_.toNat 0).toNat) then (0, 0, 100, at_ + 1)
  else (be ((s.drop (at_.toNat + 1)).take (s.getD at_.toNat 0).toNat), at_ + 1 + ((s.getD at_.toNat 0).toNat : Int), 0, 0)
theorem getN_cut {s : Bs} {a : Int} (h0 : 0 ≤ a) (h1 : a < s.length) : s.drop a.toNat = s.getD a.toNat 0 :: s.drop (a.toNat + 1) := by
  have hl : a.toNat < s.length := by omega
  rw [List.drop_eq_getElem_cons hl, List.getD_eq_getElem?_getD, List.getElem?_eq_getElem hl]; rfl
theorem getN_some {s q : Bs} {a x : Int} (h0 : 0 ≤ a) (h1 : a ≤ s.length) (h : rdN (s.drop a.toNat) = some (x, q)) : ∃ to, getN s a = (x, to, 0, 0) ∧ a < to ∧ to ≤ s.length ∧ s.drop to.toNat = q := by
  by_cases he : a = s.length
  · rw [List.drop_of_length_le (by omega)] at h; cases h
  rw [getN_cut h0 (by omega), rdN_cons] at h
  have hd : (s.drop (a.toNat + 1)).getD 0 0 = s.getD (a.toNat + 1) 0 := by simp [List.getD_eq_getElem?_getD]
  rw [hd] at h
  split at h
  · cases h
  split at h
  · cases h
  split at h
  · cases h
  rename_i c1 c2 c3
  simp only [Option.some.injEq, Prod.mk.injEq] at h
  obtain ⟨hx, hq⟩ := h
  rw [List.length_drop] at c2
  refine ⟨a + 1 + ((s.getD a.toNat 0).toNat : Int), ?_, by omega, by omega, ?_⟩
  · unfold getN
    rw [if_neg (by omega), if_neg he, if_neg c1, if_neg (by omega), if_neg c3, hx]
  · rw [List.drop_drop] at hq
    rw [← hq]; congr 1; omega
theorem getN_none {s : Bs} {a : Int} (h0 : 0 ≤ a) (h1 : a ≤ s.length) (h : rdN (s.drop a.toNat) = none) : ∃ e p, getN s a = (0, 0, e, p) ∧ e ≠ 0 := by
  unfold getN
  rw [if_neg (by omega)]
  split
  · exact ⟨_, _, rfl, by decide⟩
  rename_i he
  rw [getN_cut h0 (by omega), rdN_cons] at h
  have hd : (s.drop (a.toNat + 1)).getD 0 0 = s.getD (a.toNat + 1) 0 := by simp [List.getD_eq_getElem?_getD]
  rw [hd, List.length_drop] at h
  split
  · exact ⟨_, _, rfl, by decide⟩
  rename_i c1
  split
  · exact ⟨_, _, rfl, by decide⟩
  rename_i c2
  rw [if_neg c1, if_neg (by omega)] at h
  split
  · exact ⟨_, _, rfl, by decide⟩
  rename_i c3
  rw [if_neg c3] at h; cases h
theorem or_8 {x b : Int} (hx : 0 ≤ x) (hx2 : x < 16777216) (hb : 0 ≤ b) (hb2 : b < 256) : bits .or .i64 (IntKind.i64.wrap (x * 2 ^ (min (8 : Int).toNat IntKind.i64.bits))) b = x * 256 + b := by
  have e : x * 2 ^ (min (8 : Int).toNat IntKind.i64.bits) = x * 256 := rfl
  rw [e, i64_in _ (by omega)]
  obtain ⟨m, rfl⟩ := Int.eq_ofNat_of_zero_le hx
  obtain ⟨c, rfl⟩ := Int.eq_ofNat_of_zero_le hb
  show IntKind.i64.wrap (((BitVec.ofInt 64 ((m : Int) * 256) ||| BitVec.ofInt 64 (c : Int)).toNat : Nat) : Int) = _
  have h1 : (BitVec.ofInt 64 ((m : Int) * 256)).toNat = m * 256 := by
    rw [BitVec.toNat_ofInt]
    have : (((m : Int) * 256) % ((2 ^ 64 : Nat) : Int)).toNat = m * 256 := by omega
    exact this
  have h2 : (BitVec.ofInt 64 (c : Int)).toNat = c := by
    rw [BitVec.toNat_ofInt]
    have : ((c : Int) % ((2 ^ 64 : Nat) : Int)).toNat = c := by omega
    exact this
  have h3 : m * 256 ||| c = m * 256 + c := by
    have := Nat.shiftLeft_add_eq_or_of_lt (i := 8) (b := c) (by omega) m
    rw [Nat.shiftLeft_eq] at this
    exact this.symm
  rw [BitVec.toNat_or, h1, h2, h3, i64_in _ (by omega)]; omega
theorem be_small {s : Bs} {p k j : Nat} (hk : k ≤ 4) (hj : j < k) (hp : p + k ≤ s.length) : 0 ≤ be (((s.drop p).take k).take j) ∧ be (((s.drop p).take k).take j) < 16777216 := by
  have hb := be_bound ((s.drop p).take k) j (by simp; omega)
  have h3 : j = 0 ∨ j = 1 ∨ j = 2 ∨ j = 3 := by omega
  have p0 : (256 : Int) ^ 0 = 1 := rfl
  have p1 : (256 : Int) ^ 1 = 256 := rfl
  have p2 : (256 : Int) ^ 2 = 65536 := rfl
  have p3 : (256 : Int) ^ 3 = 16777216 := rfl
  rcases h3 with rfl | rfl | rfl | rfl <;> omega
theorem row_at {s : Bs} {p k j : Nat} (hj : j < k) (hp : p + k ≤ s.length) : ((s.drop p).take k)[j]? = some (s.getD (p + j) 0) := by
  rw [List.getElem?_take, if_pos hj, List.getElem?_drop, List.getD_eq_getElem?_getD, List.getElem?_eq_getElem (by omega)]; rfl
theorem ev_char_as {τ : Nat → Option TI} {env : List (Nat × Value)} {V : Heap} {n t : Nat} {x ix : Operand} {s : ByteArray} {k : IntKind} {i : Int} {ti : TI} {c : Nat} (hx : rd env x = some (.string s)) (hi : rd env ix = some (.int k i)) (ht : τ t = some ti) (hd : ti.desc = .string) (h0 : 0 ≤ i) (h1 : i < (s.size : Int))
    (hc : ((B s).getD i.toNat 0).toNat = c) : evOp τ env V n (.index t x ix) = some ⟨.int .u8 (c : Int), [], 0, []⟩ := by rw [ev_char hx hi ht hd h0 h1, hc]
theorem ev_part_as {τ : Nat → Option TI} {env : List (Nat × Value)} {V : Heap} {n t : Nat} {x : Operand} {lo hi : Option Operand} {s r : ByteArray} {ti : TI} {l h : Nat} (hx : rd env x = some (.string s)) (ht : τ t = some ti) (hd : ti.desc = .string) (hlo : bnd 0 (lo.map (rd env)) = some l) (hhi : bnd s.size (hi.map (rd env)) = some h) (hlh : l ≤ h) (hh : h ≤ s.size)
    (hr : s.extract l h = r) : evOp τ env V n (.slice t x lo hi none) = some ⟨.string r, [], 0, []⟩ := by rw [ev_part hx ht hd hlo hhi hlh hh, hr]
/-- What the document's says. -/
def getR (s : Bs) (a : Int) : Value := .tuple #[.int .i64 (getN s a).1, .int .i64 (getN s a).2.1, .int .i64 (getN s a).2.2.1]
theorem getR_eq {s : Bs} {a x t e p : Int} (h : getN s a = (x, t, e, p)) : getR s a = .tuple #[.int .i64 x, .int .i64 t, .int .i64 e] := by unfold getR; rw [h]
set_option maxHeartbeats 16000000 in
theorem getnum_fun (s : ByteArray) (a : Int) (hs : s.size ≤ 9223372036854775807) : Fun Tryd.prog 12 [.string s, .int .i64 a] (getR (B s) a) := by
  refine fun_of_vw tab Tryd.func12 rfl rfl (by simp [Tryd.f12]) (lrel_cons (.string _) (lrel_cons (.int _ _) lrel_nil)) (vrel_tuple (lrel_cons (.int _ _) (lrel_cons (.int _ _) (lrel_cons (.int _ _) lrel_nil)))) ?_
  have hl := B_len s
  by_cases c0 : a < 0 ∨ ((B s).length : Int) < a
  · rw [getR_eq (show getN (B s) a = (0, 0, 100, a) from if_pos c0)]
    rw [hl] at c0
    rcases (show a < 0 ∨ (¬ a < 0 ∧ (s.size : Int) < a) by omega) with h | h
    all_goals
      first
        | refine wsq (wrg (vQ tab rfl (vQ tab rfl (vQ tab rfl (vnl (qth (wsq (wsq (wrg (vQ tab rfl (vQ tab rfl (vQ tab rfl (vgd_op true rfl rfl rfl (by simp only [decide_eq_true_eq, decide_eq_false_iff_not, Bool.not_eq_eq_eq_not, Bool.not_true, Bool.not_false, bne_iff_ne, bne_eq_false_iff_eq, beq_iff_eq, beq_eq_false_iff_ne, ne_eq, beq_self_eq_true, bne_self_eq_false, Bool.and_eq_true, Bool.and_eq_false_iff, Bool.or_eq_true, Bool.or_eq_false_iff, and_self, and_true, true_and, Bool.false_eq_true, Bool.true_eq_false, not_false_eq_true, not_true_eq_false]; first | done | omega) ?_)))))))))))))
          refine vK rfl (vK rfl (vK rfl (vK rfl (vQ tab rfl (vnl (qth (vc_true rfl (wsq (wrg (vQ tab rfl (vQ tab rfl (vQ tab rfl (vnl (qth (vw_ret (q_thenr ?_))))))))))))))))
        | refine wsq (wrg (vQ tab rfl (vQ tab rfl (vQ tab rfl (vnl (qth (wsq (wsq (wrg (vQ tab rfl (vQ tab rfl (vQ tab rfl (vgd_op false rfl rfl rfl (by simp only [decide_eq_true_eq, decide_eq_false_iff_not, Bool.not_eq_eq_eq_not, Bool.not_true, Bool.not_false, bne_iff_ne, bne_eq_false_iff_eq, beq_iff_eq, beq_eq_false_iff_ne, ne_eq, beq_self_eq_true, bne_self_eq_false, Bool.and_eq_true, Bool.and_eq_false_iff, Bool.or_eq_true, Bool.or_eq_false_iff, and_self, and_true, true_and, Bool.false_eq_true, Bool.true_eq_false, not_false_eq_true, not_true_eq_false]; first | done | omega) ?_)))))))))))))
          refine vQ tab rfl (vQ tab rfl (vQ tab rfl (vQ tab rfl (vQ tab rfl (vnl (qth (vcd_true rfl (by simp only [decide_eq_true_eq, decide_eq_false_iff_not, Bool.not_eq_eq_eq_not, Bool.not_true, Bool.not_false, bne_iff_ne, bne_eq_false_iff_eq, beq_iff_eq, beq_eq_false_iff_ne, ne_eq, beq_self_eq_true, bne_self_eq_false, Bool.and_eq_true, Bool.and_eq_false_iff, Bool.or_eq_true, Bool.or_eq_false_iff, and_self, and_true, true_and, Bool.false_eq_true, Bool.true_eq_false, not_false_eq_true, not_true_eq_false]; first | done | omega) ?_)))))))
          refine wsq (wrg (vQ tab rfl (vQ tab rfl (vQ tab rfl (vnl (qth (vw_ret (q_thenr ?_))))))))
      exact ⟨.inr rfl, rfl⟩
  by_cases c1 : a = (B s).length
  · rw [getR_eq (show getN (B s) a = (0, 0, 101, a) by unfold getN; rw [if_neg c0, if_pos c1])]
    rw [hl] at c1
    refine wsq (wrg (vQ tab rfl (vQ tab rfl (vQ tab rfl (vnl (qth (wsq (wsq (wrg (vQ tab rfl (vQ tab rfl (vQ tab rfl (vgd_op false rfl rfl rfl (by simp only [decide_eq_true_eq, decide_eq_false_iff_not, Bool.not_eq_eq_eq_not, Bool.not_true, Bool.not_false, bne_iff_ne, bne_eq_false_iff_eq, beq_iff_eq, beq_eq_false_iff_ne, ne_eq, beq_self_eq_true, bne_self_eq_false, Bool.and_eq_true, Bool.and_eq_false_iff, Bool.or_eq_true, Bool.or_eq_false_iff, and_self, and_true, true_and, Bool.false_eq_true, Bool.true_eq_false, not_false_eq_true, not_true_eq_false]; first | done | omega) ?_)))))))))))))
    refine vQ tab rfl (vQ tab rfl (vQ tab rfl (vQ tab rfl (vQ tab rfl (vnl (qth (vcd_false rfl (by simp only [decide_eq_true_eq, decide_eq_false_iff_not, Bool.not_eq_eq_eq_not, Bool.not_true, Bool.not_false, bne_iff_ne, bne_eq_false_iff_eq, beq_iff_eq, beq_eq_false_iff_ne, ne_eq, beq_self_eq_true, bne_self_eq_false, Bool.and_eq_true, Bool.and_eq_false_iff, Bool.or_eq_true, Bool.or_eq_false_iff, and_self, and_true, true_and, Bool.false_eq_true, Bool.true_eq_false, not_false_eq_true, not_true_eq_false]; first | done | omega) ?_)))))))
    refine vw_skip (qth (wsq (wsq (wrg (vQ tab rfl (vQ tab rfl (vQ tab rfl (vQ tab rfl (vnl (qth (vcd_true rfl (by simp only [decide_eq_true_eq, decide_eq_false_iff_not, Bool.not_eq_eq_eq_not, Bool.not_true, Bool.not_false, bne_iff_ne, bne_eq_false_iff_eq, beq_iff_eq, beq_eq_false_iff_ne, ne_eq, beq_self_eq_true, bne_self_eq_false, Bool.and_eq_true, Bool.and_eq_false_iff, Bool.or_eq_true, Bool.or_eq_false_iff, and_self, and_true, true_and, Bool.false_eq_true, Bool.true_eq_false, not_false_eq_true, not_true_eq_false]; first | done | omega) ?_)))))))))))
    refine wsq (wrg (vQ tab rfl (vQ tab rfl (vQ tab rfl (vnl (qth (vw_ret (q_thenr ?_))))))))
    exact ⟨.inr rfl, rfl⟩
  obtain ⟨k, hk⟩ : ∃ k, k = ((B s).getD a.toNat 0).toNat := ⟨_, rfl⟩
  have hkl : k < 256 := by rw [hk]; exact UInt8.toNat_lt _
  have hkw : IntKind.i64.wrap (k : Int) = k := i64_in _ (by omega)
  have a0 : 0 ≤ a := by omega
  have a1 : a < (s.size : Int) := by omega
  have hw1 : IntKind.i64.wrap (IntKind.i64.wrap ((s.size : Int) - a) - 1) = (s.size : Int) - a - 1 := by rw [i64_in ((s.size : Int) - a) (by omega), i64_in _ (by omega)]
  by_cases c2 : 4 < k
  · rw [getR_eq (show getN (B s) a = (0, 0, 100, a) by unfold getN; rw [if_neg c0, if_neg c1, ← hk, if_pos c2])]
    refine wsq (wrg (vQ tab rfl (vQ tab rfl (vQ tab rfl (vnl (qth (wsq (wsq (wrg (vQ tab rfl (vQ tab rfl (vQ tab rfl (vgd_op false rfl rfl rfl (by simp only [hkw, decide_eq_true_eq, decide_eq_false_iff_not, Bool.not_eq_eq_eq_not, Bool.not_true, Bool.not_false, bne_iff_ne, bne_eq_false_iff_eq, beq_iff_eq, beq_eq_false_iff_ne, ne_eq, beq_self_eq_true, bne_self_eq_false, Bool.and_eq_true, Bool.and_eq_false_iff, Bool.or_eq_true, Bool.or_eq_false_iff, and_self, and_true, true_and, Bool.false_eq_true, Bool.true_eq_false, not_false_eq_true, not_true_eq_false]; first | done | omega) ?_)))))))))))))
    refine vQ tab rfl (vQ tab rfl (vQ tab rfl (vQ tab rfl (vQ tab rfl (vnl (qth (vcd_false rfl (by simp only [hkw, decide_eq_true_eq, decide_eq_false_iff_not, Bool.not_eq_eq_eq_not, Bool.not_true, Bool.not_false, bne_iff_ne, bne_eq_false_iff_eq, beq_iff_eq, beq_eq_false_iff_ne, ne_eq, beq_self_eq_true, bne_self_eq_false, Bool.and_eq_true, Bool.and_eq_false_iff, Bool.or_eq_true, Bool.or_eq_false_iff, and_self, and_true, true_and, Bool.false_eq_true, Bool.true_eq_false, not_false_eq_true, not_true_eq_false]; first | done | omega) ?_)))))))
    refine vw_skip (qth (wsq (wsq (wrg (vQ tab rfl (vQ tab rfl (vQ tab rfl (vQ tab rfl (vnl (qth (vcd_false rfl (by simp only [hkw, decide_eq_true_eq, decide_eq_false_iff_not, Bool.not_eq_eq_eq_not, Bool.not_true, Bool.not_false, bne_iff_ne, bne_eq_false_iff_eq, beq_iff_eq, beq_eq_false_iff_ne, ne_eq, beq_self_eq_true, bne_self_eq_false, Bool.and_eq_true, Bool.and_eq_false_iff, Bool.or_eq_true, Bool.or_eq_false_iff, and_self, and_true, true_and, Bool.false_eq_true, Bool.true_eq_false, not_false_eq_true, not_true_eq_false]; first | done | omega) ?_)))))))))))
    refine vw_skip (qth (wsq (wrg (vQ tab rfl (vQ tab rfl (vq_op tab rfl rfl rfl (ev_char_as rfl rfl rfl rfl a0 a1 hk.symm) (vQ tab rfl (vQ tab rfl (vnl (qth (wsq (wsq (wrg (vQ tab rfl (vQ tab rfl (vnl (qth (vcd_true rfl (by simp only [hkw, decide_eq_true_eq, decide_eq_false_iff_not, Bool.not_eq_eq_eq_not, Bool.not_true, Bool.not_false, bne_iff_ne, bne_eq_false_iff_eq, beq_iff_eq, beq_eq_false_iff_ne, ne_eq, beq_self_eq_true, bne_self_eq_false, Bool.and_eq_true, Bool.and_eq_false_iff, Bool.or_eq_true, Bool.or_eq_false_iff, and_self, and_true, true_and, Bool.false_eq_true, Bool.true_eq_false, not_false_eq_true, not_true_eq_false]; first | done | omega) ?_))))))))))))))))))
    refine wsq (wrg (vQ tab rfl (vQ tab rfl (vQ tab rfl (vnl (qth (vw_ret (q_thenr ?_))))))))
    exact ⟨.inr rfl, rfl⟩
  by_cases c3 : (s.size : Int) - a - 1 < (k : Int)
  · rw [getR_eq (show getN (B s) a = (0, 0, 101, a + 1) by unfold getN; rw [if_neg c0, if_neg c1, ← hk, if_neg c2, if_pos (by rw [hl]; exact c3)])]
    refine wsq (wrg (vQ tab rfl (vQ tab rfl (vQ tab rfl (vnl (qth (wsq (wsq (wrg (vQ tab rfl (vQ tab rfl (vQ tab rfl (vgd_op false rfl rfl rfl (by simp only [hkw, hw1, decide_eq_true_eq, decide_eq_false_iff_not, Bool.not_eq_eq_eq_not, Bool.not_true, Bool.not_false, bne_iff_ne, bne_eq_false_iff_eq, beq_iff_eq, beq_eq_false_iff_ne, ne_eq, beq_self_eq_true, bne_self_eq_false, Bool.and_eq_true, Bool.and_eq_false_iff, Bool.or_eq_true, Bool.or_eq_false_iff, and_self, and_true, true_and, Bool.false_eq_true, Bool.true_eq_false, not_false_eq_true, not_true_eq_false]; first | done | omega) ?_)))))))))))))
    refine vQ tab rfl (vQ tab rfl (vQ tab rfl (vQ tab rfl (vQ tab rfl (vnl (qth (vcd_false rfl (by simp only [hkw, hw1, decide_eq_true_eq, decide_eq_false_iff_not, Bool.not_eq_eq_eq_not, Bool.not_true, Bool.not_false, bne_iff_ne, bne_eq_false_iff_eq, beq_iff_eq, beq_eq_false_iff_ne, ne_eq, beq_self_eq_true, bne_self_eq_false, Bool.and_eq_true, Bool.and_eq_false_iff, Bool.or_eq_true, Bool.or_eq_false_iff, and_self, and_true, true_and, Bool.false_eq_true, Bool.true_eq_false, not_false_eq_true, not_true_eq_false]; first | done | omega) ?_)))))))
    refine vw_skip (qth (wsq (wsq (wrg (vQ tab rfl (vQ tab rfl (vQ tab rfl (vQ tab rfl (vnl (qth (vcd_false rfl (by simp only [hkw, hw1, decide_eq_true_eq, decide_eq_false_iff_not, Bool.not_eq_eq_eq_not, Bool.not_true, Bool.not_false, bne_iff_ne, bne_eq_false_iff_eq, beq_iff_eq, beq_eq_false_iff_ne, ne_eq, beq_self_eq_true, bne_self_eq_false, Bool.and_eq_true, Bool.and_eq_false_iff, Bool.or_eq_true, Bool.or_eq_false_iff, and_self, and_true, true_and, Bool.false_eq_true, Bool.true_eq_false, not_false_eq_true, not_true_eq_false]; first | done | omega) ?_)))))))))))
    refine vw_skip (qth (wsq (wrg (vQ tab rfl (vQ tab rfl (vq_op tab rfl rfl rfl (ev_char_as rfl rfl rfl rfl a0 a1 hk.symm) (vQ tab rfl (vQ tab rfl (vnl (qth (wsq (wsq (wrg (vQ tab rfl (vQ tab rfl (vnl (qth (vcd_false rfl (by simp only [hkw, hw1, decide_eq_true_eq, decide_eq_false_iff_not, Bool.not_eq_eq_eq_not, Bool.not_true, Bool.not_false, bne_iff_ne, bne_eq_false_iff_eq, beq_iff_eq, beq_eq_false_iff_ne, ne_eq, beq_self_eq_true, bne_self_eq_false, Bool.and_eq_true, Bool.and_eq_false_iff, Bool.or_eq_true, Bool.or_eq_false_iff, and_self, and_true, true_and, Bool.false_eq_true, Bool.true_eq_false, not_false_eq_true, not_true_eq_false]; first | done | omega) ?_))))))))))))))))))
    refine vw_skip (qth (wsq (wsq (wrg (vQ tab rfl (vQ tab rfl (vQ tab rfl (vQ tab rfl (vQ tab rfl (vQ tab rfl (vQ tab rfl (vnl (qth (vcd_true rfl (by simp only [hkw, hw1, decide_eq_true_eq, decide_eq_false_iff_not, Bool.not_eq_eq_eq_not, Bool.not_true, Bool.not_false, bne_iff_ne, bne_eq_false_iff_eq, beq_iff_eq, beq_eq_false_iff_ne, ne_eq, beq_self_eq_true, bne_self_eq_false, Bool.and_eq_true, Bool.and_eq_false_iff, Bool.or_eq_true, Bool.or_eq_false_iff, and_self, and_true, true_and, Bool.false_eq_true, Bool.true_eq_false, not_false_eq_true, not_true_eq_false]; first | done | omega) ?_))))))))))))))
    refine wsq (wrg (vQ tab rfl (vQ tab rfl (vQ tab rfl (vnl (qth (vw_ret (q_thenr ?_))))))))
    exact ⟨.inr rfl, rfl⟩
  obtain ⟨r, hr⟩ : ∃ r, r = ((B s).drop (a.toNat + 1)).take k := ⟨_, rfl⟩
  have hrl : r.length = k := by rw [hr, List.length_take, List.length_drop]; omega
  refine wsq (wrg (vQ tab rfl (vQ tab rfl (vQ tab rfl (vnl (qth (wsq (wsq (wrg (vQ tab rfl (vQ tab rfl (vQ tab rfl (vgd_op false rfl rfl rfl (by simp only [hkw, hw1, decide_eq_true_eq, decide_eq_false_iff_not, Bool.not_eq_eq_eq_not, Bool.not_true, Bool.not_false, bne_iff_ne, bne_eq_false_iff_eq, beq_iff_eq, beq_eq_false_iff_ne, ne_eq, beq_self_eq_true, bne_self_eq_false, Bool.and_eq_true, Bool.and_eq_false_iff, Bool.or_eq_true, Bool.or_eq_false_iff, and_self, and_true, true_and, Bool.false_eq_true, Bool.true_eq_false, not_false_eq_true, not_true_eq_false]; first | done | omega) ?_)))))))))))))
  refine vQ tab rfl (vQ tab rfl (vQ tab rfl (vQ tab rfl (vQ tab rfl (vnl (qth (vcd_false rfl (by simp only [hkw, hw1, decide_eq_true_eq, decide_eq_false_iff_not, Bool.not_eq_eq_eq_not, Bool.not_true, Bool.not_false, bne_iff_ne, bne_eq_false_iff_eq, beq_iff_eq, beq_eq_false_iff_ne, ne_eq, beq_self_eq_true, bne_self_eq_false, Bool.and_eq_true, Bool.and_eq_false_iff, Bool.or_eq_true, Bool.or_eq_false_iff, and_self, and_true, true_and, Bool.false_eq_true, Bool.true_eq_false, not_false_eq_true, not_true_eq_false]; first | done | omega) ?_)))))))
  refine vw_skip (qth (wsq (wsq (wrg (vQ tab rfl (vQ tab rfl (vQ tab rfl (vQ tab rfl (vnl (qth (vcd_false rfl (by simp only [hkw, hw1, decide_eq_true_eq, decide_eq_false_iff_not, Bool.not_eq_eq_eq_not, Bool.not_true, Bool.not_false, bne_iff_ne, bne_eq_false_iff_eq, beq_iff_eq, beq_eq_false_iff_ne, ne_eq, beq_self_eq_true, bne_self_eq_false, Bool.and_eq_true, Bool.and_eq_false_iff, Bool.or_eq_true, Bool.or_eq_false_iff, and_self, and_true, true_and, Bool.false_eq_true, Bool.true_eq_false, not_false_eq_true, not_true_eq_false]; first | done | omega) ?_)))))))))))
  refine vw_skip (qth (wsq (wrg (vQ tab rfl (vQ tab rfl (vq_op tab rfl rfl rfl (ev_char_as rfl rfl rfl rfl a0 a1 hk.symm) (vQ tab rfl (vQ tab rfl (vnl (qth (wsq (wsq (wrg (vQ tab rfl (vQ tab rfl (vnl (qth (vcd_false rfl (by simp only [hkw, hw1, decide_eq_true_eq, decide_eq_false_iff_not, Bool.not_eq_eq_eq_not, Bool.not_true, Bool.not_false, bne_iff_ne, bne_eq_false_iff_eq, beq_iff_eq, beq_eq_false_iff_ne, ne_eq, beq_self_eq_true, bne_self_eq_false, Bool.and_eq_true, Bool.and_eq_false_iff, Bool.or_eq_true, Bool.or_eq_false_iff, and_self, and_true, true_and, Bool.false_eq_true, Bool.true_eq_false, not_false_eq_true, not_true_eq_false]; first | done | omega) ?_))))))))))))))))))
  refine vw_skip (qth (wsq (wsq (wrg (vQ tab rfl (vQ tab rfl (vQ tab rfl (vQ tab rfl (vQ tab rfl (vQ tab rfl (vQ tab rfl (vnl (qth (vcd_false rfl (by simp only [hkw, hw1, decide_eq_true_eq, decide_eq_false_iff_not, Bool.not_eq_eq_eq_not, Bool.not_true, Bool.not_false, bne_iff_ne, bne_eq_false_iff_eq, beq_iff_eq, beq_eq_false_iff_ne, ne_eq, beq_self_eq_true, bne_self_eq_false, Bool.and_eq_true, Bool.and_eq_false_iff, Bool.or_eq_true, Bool.or_eq_false_iff, and_self, and_true, true_and, Bool.false_eq_true, Bool.true_eq_false, not_false_eq_true, not_true_eq_false]; first | done | omega) ?_))))))))))))))
  refine vw_skip (qth (wsq (wrg (vQ tab rfl (vnl (qth (wsq (wsq (wrg (vQ tab rfl (vnl (qth (wbk ?_)))))))))))))
  refine vw_loop_env (fun m env => ∃ j : Nat, j ≤ k ∧ m = k - j ∧
      env = [(0, .string s), (1, .int .i64 a), (7, .int .i64 (k : Int)), (8, .int .i64 (be (r.take j))), (9, .int .i64 ((j + 1 : Nat) : Int))]) k
    ⟨_, se_cons rfl (se_cons rfl (se_cons (se_int rfl hkw) (se_cons (se_int rfl (by simp [be])) (se_cons rfl se_nil)))), 0, by omega, by omega, rfl⟩ ?_
  rintro m env ⟨j, j0, rfl, rfl⟩
  by_cases hj : j < k
  · have hb := be_small (s := B s) (p := a.toNat + 1) (k := k) (j := j) (by omega) hj (by omega)
    rw [← hr] at hb
    have hx := row_at (s := B s) (p := a.toNat + 1) (k := k) (j := j) hj (by omega)
    rw [← hr] at hx
    obtain ⟨c, hc⟩ : ∃ c, c = (B s).getD (a.toNat + 1 + j) 0 := ⟨_, rfl⟩
    have hcl := c.toNat_lt
    rw [← hc] at hx
    have hwi : IntKind.i64.wrap (a + ((j + 1 : Nat) : Int)) = a + ((j + 1 : Nat) : Int) := i64_in _ (by omega)
    have hcx : (B s).getD (IntKind.i64.wrap (a + ((j + 1 : Nat) : Int))).toNat 0 = c := by rw [hwi, hc]; congr 1; omega
    have hor : bits .or .i64 (IntKind.i64.wrap (be (r.take j) * 2 ^ (min (8 : Int).toNat IntKind.i64.bits))) (IntKind.i64.wrap (((B s).getD (IntKind.i64.wrap (a + ((j + 1 : Nat) : Int))).toNat 0).toNat : Int)) = be (r.take (j + 1)) := by
      rw [hcx, i64_in ((c.toNat : Nat) : Int) (by omega), or_8 hb.1 hb.2 (by omega) (by omega), be_next hx]
    have hj1 : IntKind.i64.wrap (((j + 1 : Nat) : Int) + 1) = ((j + 1 + 1 : Nat) : Int) := by rw [i64_in _ (by omega)]; omega
    refine wsq (wsq (wrg (vQ tab rfl (vQ tab rfl (vQ tab rfl (vnl (qth (vcd_true rfl (by simp only [decide_eq_true_eq, decide_eq_false_iff_not, Bool.not_eq_eq_eq_not, Bool.not_true, Bool.not_false, bne_iff_ne, bne_eq_false_iff_eq, beq_iff_eq, beq_eq_false_iff_ne, ne_eq, beq_self_eq_true, bne_self_eq_false, Bool.and_eq_true, Bool.and_eq_false_iff, Bool.or_eq_true, Bool.or_eq_false_iff, and_self, and_true, true_and, Bool.false_eq_true, Bool.true_eq_false, not_false_eq_true, not_true_eq_false]; first | done | omega) ?_))))))))
    refine vw_skip (qth (wsq (wbk (wrg (vQ tab rfl (vQ tab rfl (vQ tab rfl (vQ tab rfl (vQ tab rfl (vQ tab rfl (vq_op tab rfl rfl rfl (ev_char rfl rfl rfl rfl (by omega) (by omega)) ?_)))))))))))
    refine vQ tab rfl (vQ tab rfl (vQ tab rfl (vnl (q_norm (qth (wrg (vQ tab rfl (vQ tab rfl (vQ tab rfl (vnl (qth ?_)))))))))))
    exact ⟨rfl, rfl, k - (j + 1), _, by omega, se_cons rfl (se_cons rfl (se_cons rfl (se_cons (se_int rfl hor) (se_cons (se_int rfl hj1) se_nil)))), j + 1, by omega, rfl, rfl⟩
  have hjk : j = k := by omega
  subst hjk
  have hrt : r.take j = r := by rw [← hrl, List.take_length]
  rw [hrt]
  have hz : ∀ z : UInt8, (((z.toNat : Nat) : Int) == 0) = decide (z = 0) := fun z => by
    rw [Bool.eq_iff_iff]; simp only [beq_iff_eq, decide_eq_true_eq]
    constructor
    · intro h; exact UInt8.toNat_inj.1 (by show z.toNat = 0; omega)
    · rintro rfl; rfl
  obtain ⟨z, hzz⟩ : ∃ z, z = (B s).getD (a.toNat + 1) 0 := ⟨_, rfl⟩
  have hwa : 0 < j → IntKind.i64.wrap (a + 1) = a + 1 := fun _ => i64_in _ (by omega)
  have hzx : 0 < j → (((((B s).getD (IntKind.i64.wrap (a + 1)).toNat 0).toNat : Nat) : Int) == 0) = decide (z = 0) := fun h => by rw [hwa h, ← hz, hzz, show (a + 1).toNat = a.toNat + 1 by omega]
  by_cases c4 : (0 < j ∧ z = 0) ∨ 1073741823 < be r
  · rw [getR_eq (show getN (B s) a = (0, 0, 100, a + 1) by unfold getN; rw [if_neg c0, if_neg c1, ← hk, if_neg c2, if_neg (by rw [hl]; exact c3), ← hzz, ← hr, if_pos c4])]
    by_cases hj0 : 0 < j
    · have hzv := hzx hj0
      have hwv := hwa hj0
      by_cases hz0 : z = 0
      · rw [decide_eq_true hz0] at hzv
        refine wsq (wsq (wrg (vQ tab rfl (vQ tab rfl (vQ tab rfl (vnl (qth (vcd_false rfl (by simp only [hzv, decide_eq_true_eq, decide_eq_false_iff_not, Bool.not_eq_eq_eq_not, Bool.not_true, Bool.not_false, bne_iff_ne, bne_eq_false_iff_eq, beq_iff_eq, beq_eq_false_iff_ne, ne_eq, beq_self_eq_true, bne_self_eq_false, Bool.and_eq_true, Bool.and_eq_false_iff, Bool.or_eq_true, Bool.or_eq_false_iff, and_self, and_true, true_and, Bool.false_eq_true, Bool.true_eq_false, not_false_eq_true, not_true_eq_false]; first | done | omega) ?_))))))))
        refine vw_exit (q_thenx (q_thenx (q_here (qth (wsq (wsq (wrg (vQ tab rfl (vQ tab rfl (vQ tab rfl (vgd_op true rfl rfl rfl (by simp only [hzv, decide_eq_true_eq, decide_eq_false_iff_not, Bool.not_eq_eq_eq_not, Bool.not_true, Bool.not_false, bne_iff_ne, bne_eq_false_iff_eq, beq_iff_eq, beq_eq_false_iff_ne, ne_eq, beq_self_eq_true, bne_self_eq_false, Bool.and_eq_true, Bool.and_eq_false_iff, Bool.or_eq_true, Bool.or_eq_false_iff, and_self, and_true, true_and, Bool.false_eq_true, Bool.true_eq_false, not_false_eq_true, not_true_eq_false]; first | done | omega) ?_)))))))))))
        refine vQ tab rfl (vQ tab rfl (vQ tab rfl (vq_op tab ⟨_, _, rfl, rfl, rfl⟩ rfl rfl (ev_char rfl rfl rfl rfl (by omega) (by omega)) ?_)))
        refine vQ tab rfl (vQ tab rfl (vQ tab rfl (vgd_op true rfl rfl rfl (by simp only [hzv, decide_eq_true_eq, decide_eq_false_iff_not, Bool.not_eq_eq_eq_not, Bool.not_true, Bool.not_false, bne_iff_ne, bne_eq_false_iff_eq, beq_iff_eq, beq_eq_false_iff_ne, ne_eq, beq_self_eq_true, bne_self_eq_false, Bool.and_eq_true, Bool.and_eq_false_iff, Bool.or_eq_true, Bool.or_eq_false_iff, and_self, and_true, true_and, Bool.false_eq_true, Bool.true_eq_false, not_false_eq_true, not_true_eq_false]; first | done | omega) ?_)))
        refine vK rfl (vK rfl (vQ tab rfl (vnl (qth (vc_true rfl (wsq (wrg (vQ tab rfl (vQ tab rfl (vQ tab rfl (vnl (qth (vw_ret (q_thenr ?_))))))))))))))
        exact ⟨.inr rfl, rfl⟩
      · rw [decide_eq_false hz0] at hzv
        have hbig : 1073741823 < be r := by rcases c4 with h | h; exact (hz0 h.2).elim; exact h
        refine wsq (wsq (wrg (vQ tab rfl (vQ tab rfl (vQ tab rfl (vnl (qth (vcd_false rfl (by simp only [hzv, decide_eq_true_eq, decide_eq_false_iff_not, Bool.not_eq_eq_eq_not, Bool.not_true, Bool.not_false, bne_iff_ne, bne_eq_false_iff_eq, beq_iff_eq, beq_eq_false_iff_ne, ne_eq, beq_self_eq_true, bne_self_eq_false, Bool.and_eq_true, Bool.and_eq_false_iff, Bool.or_eq_true, Bool.or_eq_false_iff, and_self, and_true, true_and, Bool.false_eq_true, Bool.true_eq_false, not_false_eq_true, not_true_eq_false]; first | done | omega) ?_))))))))
        refine vw_exit (q_thenx (q_thenx (q_here (qth (wsq (wsq (wrg (vQ tab rfl (vQ tab rfl (vQ tab rfl (vgd_op true rfl rfl rfl (by simp only [hzv, decide_eq_true_eq, decide_eq_false_iff_not, Bool.not_eq_eq_eq_not, Bool.not_true, Bool.not_false, bne_iff_ne, bne_eq_false_iff_eq, beq_iff_eq, beq_eq_false_iff_ne, ne_eq, beq_self_eq_true, bne_self_eq_false, Bool.and_eq_true, Bool.and_eq_false_iff, Bool.or_eq_true, Bool.or_eq_false_iff, and_self, and_true, true_and, Bool.false_eq_true, Bool.true_eq_false, not_false_eq_true, not_true_eq_false]; first | done | omega) ?_)))))))))))
        refine vQ tab rfl (vQ tab rfl (vQ tab rfl (vq_op tab ⟨_, _, rfl, rfl, rfl⟩ rfl rfl (ev_char rfl rfl rfl rfl (by omega) (by omega)) ?_)))
        refine vQ tab rfl (vQ tab rfl (vQ tab rfl (vgd_op false rfl rfl rfl (by simp only [hzv, decide_eq_true_eq, decide_eq_false_iff_not, Bool.not_eq_eq_eq_not, Bool.not_true, Bool.not_false, bne_iff_ne, bne_eq_false_iff_eq, beq_iff_eq, beq_eq_false_iff_ne, ne_eq, beq_self_eq_true, bne_self_eq_false, Bool.and_eq_true, Bool.and_eq_false_iff, Bool.or_eq_true, Bool.or_eq_false_iff, and_self, and_true, true_and, Bool.false_eq_true, Bool.true_eq_false, not_false_eq_true, not_true_eq_false]; first | done | omega) ?_)))
        refine vQ tab rfl (vQ tab rfl (vQ tab rfl (vnl (qth (vcd_true rfl (by simp only [hzv, decide_eq_true_eq, decide_eq_false_iff_not, Bool.not_eq_eq_eq_not, Bool.not_true, Bool.not_false, bne_iff_ne, bne_eq_false_iff_eq, beq_iff_eq, beq_eq_false_iff_ne, ne_eq, beq_self_eq_true, bne_self_eq_false, Bool.and_eq_true, Bool.and_eq_false_iff, Bool.or_eq_true, Bool.or_eq_false_iff, and_self, and_true, true_and, Bool.false_eq_true, Bool.true_eq_false, not_false_eq_true, not_true_eq_false]; first | done | omega) ?_)))))
        refine wsq (wrg (vQ tab rfl (vQ tab rfl (vQ tab rfl (vnl (qth (vw_ret (q_thenr ?_))))))))
        exact ⟨.inr rfl, rfl⟩
    · have hbig : 1073741823 < be r := by rcases c4 with h | h; exact (hj0 h.1).elim; exact h
      refine wsq (wsq (wrg (vQ tab rfl (vQ tab rfl (vQ tab rfl (vnl (qth (vcd_false rfl (by simp only [decide_eq_true_eq, decide_eq_false_iff_not, Bool.not_eq_eq_eq_not, Bool.not_true, Bool.not_false, bne_iff_ne, bne_eq_false_iff_eq, beq_iff_eq, beq_eq_false_iff_ne, ne_eq, beq_self_eq_true, bne_self_eq_false, Bool.and_eq_true, Bool.and_eq_false_iff, Bool.or_eq_true, Bool.or_eq_false_iff, and_self, and_true, true_and, Bool.false_eq_true, Bool.true_eq_false, not_false_eq_true, not_true_eq_false]; first | done | omega) ?_))))))))
      refine vw_exit (q_thenx (q_thenx (q_here (qth (wsq (wsq (wrg (vQ tab rfl (vQ tab rfl (vQ tab rfl (vgd_op false rfl rfl rfl (by simp only [decide_eq_true_eq, decide_eq_false_iff_not, Bool.not_eq_eq_eq_not, Bool.not_true, Bool.not_false, bne_iff_ne, bne_eq_false_iff_eq, beq_iff_eq, beq_eq_false_iff_ne, ne_eq, beq_self_eq_true, bne_self_eq_false, Bool.and_eq_true, Bool.and_eq_false_iff, Bool.or_eq_true, Bool.or_eq_false_iff, and_self, and_true, true_and, Bool.false_eq_true, Bool.true_eq_false, not_false_eq_true, not_true_eq_false]; first | done | omega) ?_)))))))))))
      refine vK rfl (vK rfl (vK rfl (vK rfl (vK rfl (vQ tab rfl (vQ tab rfl (vQ tab rfl (vQ tab rfl (vQ tab rfl (vnl (qth (vcd_true rfl (by simp only [decide_eq_true_eq, decide_eq_false_iff_not, Bool.not_eq_eq_eq_not, Bool.not_true, Bool.not_false, bne_iff_ne, bne_eq_false_iff_eq, beq_iff_eq, beq_eq_false_iff_ne, ne_eq, beq_self_eq_true, bne_self_eq_false, Bool.and_eq_true, Bool.and_eq_false_iff, Bool.or_eq_true, Bool.or_eq_false_iff, and_self, and_true, true_and, Bool.false_eq_true, Bool.true_eq_false, not_false_eq_true, not_true_eq_false]; first | done | omega) ?_))))))))))))
      refine wsq (wrg (vQ tab rfl (vQ tab rfl (vQ tab rfl (vnl (qth (vw_ret (q_thenr ?_))))))))
      exact ⟨.inr rfl, rfl⟩
  · have hle : ¬ 1073741823 < be r := fun h => c4 (.inr h)
    have hw5 : IntKind.i64.wrap (IntKind.i64.wrap (a + (j : Int)) + 1) = a + 1 + (j : Int) := by rw [i64_in (a + (j : Int)) (by omega), i64_in _ (by omega)]; omega
    have hres : getR (B s) a = .tuple #[.int .i64 (be r), .int .i64 (IntKind.i64.wrap (IntKind.i64.wrap (a + (j : Int)) + 1)), .int .i64 0] := by
      rw [hw5]; exact getR_eq (p := 0) (by unfold getN; rw [if_neg c0, if_neg c1, ← hk, if_neg c2, if_neg (by rw [hl]; exact c3), ← hzz, ← hr, if_neg c4])
    rw [hres]
    by_cases hj0 : 0 < j
    · have hzv := hzx hj0
      have hwv := hwa hj0
      rw [decide_eq_false (fun h => c4 (.inl ⟨hj0, h⟩))] at hzv
      refine wsq (wsq (wrg (vQ tab rfl (vQ tab rfl (vQ tab rfl (vnl (qth (vcd_false rfl (by simp only [hzv, decide_eq_true_eq, decide_eq_false_iff_not, Bool.not_eq_eq_eq_not, Bool.not_true, Bool.not_false, bne_iff_ne, bne_eq_false_iff_eq, beq_iff_eq, beq_eq_false_iff_ne, ne_eq, beq_self_eq_true, bne_self_eq_false, Bool.and_eq_true, Bool.and_eq_false_iff, Bool.or_eq_true, Bool.or_eq_false_iff, and_self, and_true, true_and, Bool.false_eq_true, Bool.true_eq_false, not_false_eq_true, not_true_eq_false]; first | done | omega) ?_))))))))
      refine vw_exit (q_thenx (q_thenx (q_here (qth (wsq (wsq (wrg (vQ tab rfl (vQ tab rfl (vQ tab rfl (vgd_op true rfl rfl rfl (by simp only [hzv, decide_eq_true_eq, decide_eq_false_iff_not, Bool.not_eq_eq_eq_not, Bool.not_true, Bool.not_false, bne_iff_ne, bne_eq_false_iff_eq, beq_iff_eq, beq_eq_false_iff_ne, ne_eq, beq_self_eq_true, bne_self_eq_false, Bool.and_eq_true, Bool.and_eq_false_iff, Bool.or_eq_true, Bool.or_eq_false_iff, and_self, and_true, true_and, Bool.false_eq_true, Bool.true_eq_false, not_false_eq_true, not_true_eq_false]; first | done | omega) ?_)))))))))))
      refine vQ tab rfl (vQ tab rfl (vQ tab rfl (vq_op tab ⟨_, _, rfl, rfl, rfl⟩ rfl rfl (ev_char rfl rfl rfl rfl (by omega) (by omega)) ?_)))
      refine vQ tab rfl (vQ tab rfl (vQ tab rfl (vgd_op false rfl rfl rfl (by simp only [hzv, decide_eq_true_eq, decide_eq_false_iff_not, Bool.not_eq_eq_eq_not, Bool.not_true, Bool.not_false, bne_iff_ne, bne_eq_false_iff_eq, beq_iff_eq, beq_eq_false_iff_ne, ne_eq, beq_self_eq_true, bne_self_eq_false, Bool.and_eq_true, Bool.and_eq_false_iff, Bool.or_eq_true, Bool.or_eq_false_iff, and_self, and_true, true_and, Bool.false_eq_true, Bool.true_eq_false, not_false_eq_true, not_true_eq_false]; first | done | omega) ?_)))
      refine vQ tab rfl (vQ tab rfl (vQ tab rfl (vnl (qth (vcd_false rfl (by simp only [hzv, decide_eq_true_eq, decide_eq_false_iff_not, Bool.not_eq_eq_eq_not, Bool.not_true, Bool.not_false, bne_iff_ne, bne_eq_false_iff_eq, beq_iff_eq, beq_eq_false_iff_ne, ne_eq, beq_self_eq_true, bne_self_eq_false, Bool.and_eq_true, Bool.and_eq_false_iff, Bool.or_eq_true, Bool.or_eq_false_iff, and_self, and_true, true_and, Bool.false_eq_true, Bool.true_eq_false, not_false_eq_true, not_true_eq_false]; first | done | omega) ?_)))))
      refine vw_skip (qth (wsq (wrg (vQ tab rfl (vQ tab rfl (vQ tab rfl (vQ tab rfl (vQ tab rfl (vQ tab rfl (vQ tab rfl (vQ tab rfl (vnl (qth (vw_ret ?_))))))))))))))
      exact ⟨.inr rfl, rfl⟩
    · refine wsq (wsq (wrg (vQ tab rfl (vQ tab rfl (vQ tab rfl (vnl (qth (vcd_false rfl (by simp only [decide_eq_true_eq, decide_eq_false_iff_not, Bool.not_eq_eq_eq_not, Bool.not_true, Bool.not_false, bne_iff_ne, bne_eq_false_iff_eq, beq_iff_eq, beq_eq_false_iff_ne, ne_eq, beq_self_eq_true, bne_self_eq_false, Bool.and_eq_true, Bool.and_eq_false_iff, Bool.or_eq_true, Bool.or_eq_false_iff, and_self, and_true, true_and, Bool.false_eq_true, Bool.true_eq_false, not_false_eq_true, not_true_eq_false]; first | done | omega) ?_))))))))
      refine vw_exit (q_thenx (q_thenx (q_here (qth (wsq (wsq (wrg (vQ tab rfl (vQ tab rfl (vQ tab rfl (vgd_op false rfl rfl rfl (by simp only [decide_eq_true_eq, decide_eq_false_iff_not, Bool.not_eq_eq_eq_not, Bool.not_true, Bool.not_false, bne_iff_ne, bne_eq_false_iff_eq, beq_iff_eq, beq_eq_false_iff_ne, ne_eq, beq_self_eq_true, bne_self_eq_false, Bool.and_eq_true, Bool.and_eq_false_iff, Bool.or_eq_true, Bool.or_eq_false_iff, and_self, and_true, true_and, Bool.false_eq_true, Bool.true_eq_false, not_false_eq_true, not_true_eq_false]; first | done | omega) ?_)))))))))))
      refine vK rfl (vK rfl (vK rfl (vK rfl (vK rfl (vQ tab rfl (vQ tab rfl (vQ tab rfl (vQ tab rfl (vQ tab rfl (vnl (qth (vcd_false rfl (by simp only [decide_eq_true_eq, decide_eq_false_iff_not, Bool.not_eq_eq_eq_not, Bool.not_true, Bool.not_false, bne_iff_ne, bne_eq_false_iff_eq, beq_iff_eq, beq_eq_false_iff_ne, ne_eq, beq_self_eq_true, bne_self_eq_false, Bool.and_eq_true, Bool.and_eq_false_iff, Bool.or_eq_true, Bool.or_eq_false_iff, and_self, and_true, true_and, Bool.false_eq_true, Bool.true_eq_false, not_false_eq_true, not_true_eq_false]; first | done | omega) ?_))))))))))))
      refine vw_skip (qth (wsq (wrg (vQ tab rfl (vQ tab rfl (vQ tab rfl (vQ tab rfl (vQ tab rfl (vQ tab rfl (vQ tab rfl (vQ tab rfl (vnl (qth (vw_ret ?_))))))))))))))
      exact ⟨.inr rfl, rfl⟩
end Go.Proofs.YtkfkdhjelncfhaaDoor
