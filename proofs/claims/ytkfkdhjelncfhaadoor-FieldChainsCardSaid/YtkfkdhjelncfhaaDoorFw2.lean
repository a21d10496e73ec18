/- Law 1: FieldSizes: a number has just as many bytes as it needs. -/
import Derived.Test.YtkfkdhjelncfhaaDoorVg1
import Derived.Test.YtkfkdhjelncfhaaDoorFw1
namespace Go.Proofs.YtkfkdhjelncfhaaDoor
open Go Vm IntWalk
set_option linter.unusedVariables false
set_option linter.unusedSimpArgs false
theorem or_pow (j : Nat) (hj : j ≤ 40) {r : Int} (h0 : 0 ≤ r) (h1 : r < ((2 ^ j : Nat) : Int)) : bits .or .i64 ((2 ^ j : Nat) : Int) r = ((2 ^ j : Nat) : Int) + r := by
  obtain ⟨c, rfl⟩ := Int.eq_ofNat_of_zero_le h0
  have hm : 2 ^ j ≤ 2 ^ 40 := Nat.pow_le_pow_right (by decide) hj
  have hm2 : (2 : Nat) ^ 40 = 1099511627776 := by decide
  obtain ⟨M, hM⟩ : ∃ M, M = 2 ^ j := ⟨_, rfl⟩
  rw [← hM] at hm h1 ⊢
  show IntKind.i64.wrap (((BitVec.ofInt 64 (M : Int) ||| BitVec.ofInt 64 (c : Int)).toNat : Nat) : Int) = _
  have e1 : (BitVec.ofInt 64 (M : Int)).toNat = M := by
    rw [BitVec.toNat_ofInt]
    have : ((M : Int) % ((2 ^ 64 : Nat) : Int)).toNat = M := by omega
    exact this
  have e2 : (BitVec.ofInt 64 (c : Int)).toNat = c := by
    rw [BitVec.toNat_ofInt]
    have : ((c : Int) % ((2 ^ 64 : Nat) : Int)).toNat = c := by omega
    exact this
  have e3 : M ||| c = M + c := by
    have := Nat.two_pow_add_eq_or_of_lt (i := j) (b := c) (by rw [← hM]; omega) 1
    rw [Nat.mul_one, ← hM] at this
    exact this.symm
  rw [BitVec.toNat_or, e1, e2, e3, i64_in _ (by omega)]; omega
def shl1 (K : Int) : Int := IntKind.i64.wrap (1 * 2 ^ (min (IntKind.u64.wrap K).toNat IntKind.i64.bits))
theorem sizes_of (x : Int) {K : Int} (h0 : 0 ≤ K) (h1 : K < 30) : 0 ≤ bits .or .i64 (shl1 K) (bits .and .i64 x (IntKind.i64.wrap (shl1 K - 1))) ∧ bits .or .i64 (shl1 K) (bits .and .i64 x (IntKind.i64.wrap (shl1 K - 1))) ≤ 1073741823 ∧
    (wid (bits .or .i64 (shl1 K) (bits .and .i64 x (IntKind.i64.wrap (shl1 K - 1)))) : Int) = IntKind.i64.wrap (IntKind.i64.wrap (K.tdiv 8) + 1) ∧ (wid (bits .or .i64 (shl1 K) (bits .and .i64 x (IntKind.i64.wrap (shl1 K - 1)))) : Int) + 1 = IntKind.i64.wrap (IntKind.i64.wrap (K.tdiv 8) + 2) := by
  obtain ⟨j, rfl⟩ := Int.eq_ofNat_of_zero_le h0
  have hj : j < 30 := by omega
  have key : ∀ (k w : Nat) (S : Int), k ≤ 30 → shl1 (k : Int) = S → S = ((2 ^ k : Nat) : Int) → IntKind.i64.wrap (S - 1) = ((2 ^ k - 1 : Nat) : Int) → ((2 ^ k : Nat) : Int) * 2 ≤ 1073741824 →
      (∀ Y : Int, ((2 ^ k : Nat) : Int) ≤ Y → Y < ((2 ^ k : Nat) : Int) * 2 → wid Y = w) → (w : Int) = IntKind.i64.wrap (IntKind.i64.wrap ((k : Int).tdiv 8) + 1) → (w : Int) + 1 = IntKind.i64.wrap (IntKind.i64.wrap ((k : Int).tdiv 8) + 2) →
      0 ≤ bits .or .i64 (shl1 k) (bits .and .i64 x (IntKind.i64.wrap (shl1 k - 1))) ∧ bits .or .i64 (shl1 k) (bits .and .i64 x (IntKind.i64.wrap (shl1 k - 1))) ≤ 1073741823 ∧
        (wid (bits .or .i64 (shl1 k) (bits .and .i64 x (IntKind.i64.wrap (shl1 k - 1)))) : Int) = IntKind.i64.wrap (IntKind.i64.wrap ((k : Int).tdiv 8) + 1) ∧ (wid (bits .or .i64 (shl1 k) (bits .and .i64 x (IntKind.i64.wrap (shl1 k - 1)))) : Int) + 1 = IntKind.i64.wrap (IntKind.i64.wrap ((k : Int).tdiv 8) + 2) := by
    intro k w S hk e1 e2 e3 e4 e5 e6 e7
    rw [e1, e3, and_mask x k (by omega), e2]
    have hpos : (0 : Int) < ((2 ^ k : Nat) : Int) := by have := Nat.two_pow_pos k; omega
    have r0 : 0 ≤ x % ((2 ^ k : Nat) : Int) := Int.emod_nonneg _ (by omega)
    have r1 : x % ((2 ^ k : Nat) : Int) < ((2 ^ k : Nat) : Int) := Int.emod_lt_of_pos _ hpos
    rw [or_pow k (by omega) r0 r1, e5 _ (by omega) (by omega)]
    exact ⟨by omega, by omega, e6, e7⟩
  rcases (show j = 0 ∨ j = 1 ∨ j = 2 ∨ j = 3 ∨ j = 4 ∨ j = 5 ∨ j = 6 ∨ j = 7 ∨ j = 8 ∨ j = 9 ∨ j = 10 ∨ j = 11 ∨ j = 12 ∨ j = 13 ∨ j = 14 ∨ j = 15 ∨ j = 16 ∨ j = 17 ∨ j = 18 ∨ j = 19 ∨ j = 20 ∨ j = 21 ∨ j = 22 ∨ j = 23 ∨ j = 24 ∨ j = 25 ∨ j = 26 ∨ j = 27 ∨ j = 28 ∨ j = 29 by omega) with
    rfl | rfl | rfl | rfl | rfl | rfl | rfl | rfl | rfl | rfl | rfl | rfl | rfl | rfl | rfl | rfl | rfl | rfl | rfl | rfl | rfl | rfl | rfl | rfl | rfl | rfl | rfl | rfl | rfl | rfl
  iterate 8 exact key _ 1 _ (by decide) rfl (by decide) (by decide) (by decide) (fun Y h1 h2 => by unfold wid; simp at h1 h2; (repeat' split) <;> omega) (by decide) (by decide)
  iterate 8 exact key _ 2 _ (by decide) rfl (by decide) (by decide) (by decide) (fun Y h1 h2 => by unfold wid; simp at h1 h2; (repeat' split) <;> omega) (by decide) (by decide)
  iterate 8 exact key _ 3 _ (by decide) rfl (by decide) (by decide) (by decide) (fun Y h1 h2 => by unfold wid; simp at h1 h2; (repeat' split) <;> omega) (by decide) (by decide)
  all_goals exact key _ 4 _ (by decide) rfl (by decide) (by decide) (by decide) (fun Y h1 h2 => by unfold wid; simp at h1 h2; (repeat' split) <;> omega) (by decide) (by decide)
theorem shl_ev {τ : Nat → Option TI} {env : List (Nat × Value)} {V : Heap} {n t u : Nat} {x y : Operand} {k ku : IntKind} {a b : Int} (hx : rd env x = some (.int k a)) (hy : rd env y = some (.int ku b)) (hb : 0 ≤ b) : evOp τ env V n (.binOp .shl t x y u) = some ⟨.int k (k.wrap (a * 2 ^ (min b.toNat k.bits))), [], 0, []⟩ := by
  have h : evBin τ .shl t (isLit x || isLit y) (.int k a) (.int ku b) = some (.int k (k.wrap (a * 2 ^ (min b.toNat k.bits)))) := by
    show (if b < 0 then none else some (Value.int k (k.wrap (a * 2 ^ (min b.toNat k.bits))))) = _
    rw [if_neg (by omega)]
  simp only [evOp, hx, hy, h]; rfl
set_option maxHeartbeats 16000000 in
theorem FieldSizes_law (x b : Int) : Fun Tryd.prog 5 [.int .i64 x, .int .i64 b] (.bool true) := by
  refine fun_of_vw tab Tryd.func5 rfl rfl (by simp [Tryd.f5]) (lrel_cons (.int _ _) (lrel_cons (.int _ _) lrel_nil)) (.bool _) ?_
  obtain ⟨K, hK⟩ : ∃ K, K = IntKind.i64.wrap ((IntKind.u64.wrap b).tmod 30) := ⟨_, rfl⟩
  have k0 : 0 ≤ K ∧ K < 30 := by rw [hK, wrapu, Int.tmod_eq_emod_of_nonneg (by omega), i64_in _ (by omega)]; omega
  refine wsq (wrg (vQ tab rfl (vnl (qth (wsq (wsq (wrg (vF rfl callable_17 (field_awake) (vQ tab rfl (vnl (qth (vc_false rfl (vw_skip (qth (wsq (wrg (vQ tab rfl (vQ tab rfl (vQ tab rfl (vQ tab rfl (vQ tab rfl (vnl (qth ?_)))))))))))))))))))))))
  refine wsq (wrg (vQ tab rfl (vQ tab rfl ?_)))
  rw [← hK]
  have hu : 0 ≤ IntKind.u64.wrap K := by rw [wrapu]; omega
  obtain ⟨y0, y1, y2, y3⟩ := sizes_of x k0.1 k0.2
  obtain ⟨Y, hY⟩ : ∃ Y, Y = bits .or .i64 (shl1 K) (bits .and .i64 x (IntKind.i64.wrap (shl1 K - 1))) := ⟨_, rfl⟩
  refine vq_op tab rfl rfl rfl (shl_ev rfl rfl hu) (vQ tab rfl (vQ tab rfl (vQ tab rfl (vq_op tab rfl rfl rfl (shl_ev rfl rfl hu) (vQ tab rfl (vQ tab rfl (vQ tab rfl (vQ tab rfl (vnl (qth (wsq (wrg (vQ tab rfl ?_)))))))))))))
  have hY2 : Y = bits .or .i64 (IntKind.i64.wrap (1 * 2 ^ (min (IntKind.u64.wrap K).toNat IntKind.i64.bits))) (bits .and .i64 x (IntKind.i64.wrap (IntKind.i64.wrap (1 * 2 ^ (min (IntKind.u64.wrap K).toNat IntKind.i64.bits)) - 1))) := hY
  rw [← hY2]
  rw [← hY] at y0 y1 y2 y3
  have n1 := num_is (x := Y) (numB Y) 0 (numR_ok (okN_iff.2 ⟨y0, y1⟩))
  have n2 := num_is (x := 0) ⟨#[0]⟩ 0 (by decide +kernel)
  obtain ⟨a1, a2, a3⟩ := numL_form y0 y1
  have hsz : (numB Y).size = wid Y + 1 := by unfold numB; rw [mkB_size, a1, List.length_cons, a2]
  have hc : ((B (numB Y)).getD (0 : Int).toNat 0).toNat = wid Y := by
    unfold numB; rw [B_mk, a1]
    show (UInt8.ofNat (wid Y)).toNat = wid Y
    have := wid_le Y
    rw [UInt8.toNat_ofNat']; omega
  have t1 : (((numB Y).size : Int) == IntKind.i64.wrap (IntKind.i64.wrap (K.tdiv 8) + 2)) = true := by rw [hsz, ← y3]; simp
  have t2 : (IntKind.i64.wrap ((wid Y : Nat) : Int) == IntKind.i64.wrap (IntKind.i64.wrap (K.tdiv 8) + 1)) = true := by rw [← y2, i64_in _ (by have := wid_le Y; omega)]; simp
  refine vF rfl callable_8 (n1) (vQ tab rfl (vQ tab rfl (vQ tab rfl (vQ tab rfl (vQ tab rfl (vnl (qth (wsq (wrg (vF rfl callable_8 (n2) (vQ tab rfl (vQ tab rfl (vQ tab rfl (vQ tab rfl (vQ tab rfl (vnl (qth (wsq (wrg (vQ tab rfl (vF rfl callable_10 (num_fun _) (vQ tab rfl (vQ tab rfl ?_)))))))))))))))))))))))
  refine vQ tab rfl (vQ tab rfl (vQ tab rfl (vQ tab rfl (vQ tab rfl (vQ tab rfl (vQ tab rfl (vQ tab rfl (vgd_op true rfl rfl rfl (by simp only [eq_self, decide_true, t1, t2, decide_eq_true_eq, decide_eq_false_iff_not, Bool.not_eq_eq_eq_not, Bool.not_true, Bool.not_false, bne_iff_ne, bne_eq_false_iff_eq, beq_iff_eq, beq_eq_false_iff_ne, ne_eq, beq_self_eq_true, bne_self_eq_false, Bool.and_eq_true, Bool.and_eq_false_iff, Bool.or_eq_true, Bool.or_eq_false_iff, and_self, and_true, true_and, Bool.false_eq_true, Bool.true_eq_false, not_false_eq_true, not_true_eq_false]; first | done | omega) ?_))))))))
  refine vQ tab rfl (vq_op tab ⟨_, _, rfl, rfl, rfl⟩ rfl rfl (ev_char_as rfl rfl rfl rfl (by decide) (by rw [hsz]; omega) hc) ?_)
  refine vQ tab rfl (vQ tab rfl (vQ tab rfl (vQ tab rfl (vQ tab rfl (vQ tab rfl (vQ tab rfl (vgd_op true rfl rfl rfl (by simp only [eq_self, decide_true, t1, t2, decide_eq_true_eq, decide_eq_false_iff_not, Bool.not_eq_eq_eq_not, Bool.not_true, Bool.not_false, bne_iff_ne, bne_eq_false_iff_eq, beq_iff_eq, beq_eq_false_iff_ne, ne_eq, beq_self_eq_true, bne_self_eq_false, Bool.and_eq_true, Bool.and_eq_false_iff, Bool.or_eq_true, Bool.or_eq_false_iff, and_self, and_true, true_and, Bool.false_eq_true, Bool.true_eq_false, not_false_eq_true, not_true_eq_false]; first | done | omega) ?_)))))))
  refine vQ tab rfl (vF rfl callable_10 (num_fun _) (vQ tab rfl (vQ tab rfl (vQ tab rfl (vQ tab rfl (vQ tab rfl (vQ tab rfl (vQ tab rfl (vnl (qth (vw_ret ?_)))))))))))
  all_goals first
    | exact ⟨.inr rfl, rfl⟩
    | exact ⟨.inr rfl, Eq.trans (b := some (.bool _)) rfl (congrArg (fun b => some (Value.bool b)) (by decide))⟩
end Go.Proofs.YtkfkdhjelncfhaaDoor
