/- Law 1: FieldForms: first bytes, numbers, texts, places that are none. -/
import Derived.Test.YtkfkdhjelncfhaaDoorVg1
import Derived.Test.YtkfkdhjelncfhaaDoorFw2
import Derived.Test.YtkfkdhjelncfhaaDoorFm0
namespace Go.Proofs.YtkfkdhjelncfhaaDoor
open Go Vm IntWalk
set_option linter.unusedVariables false
set_option linter.unusedSimpArgs false
def formsL (b : Int) : List ByteArray := [⟨#[5, 1, 1, 1, 1, 1]⟩, bytesL [b], ⟨#[1, 0]⟩, ⟨#[4, 0, 1, 1, 1]⟩, ⟨#[4, 64, 0, 0, 0]⟩, ⟨#[4, 255, 255, 255, 255]⟩, ⟨#[2, 0, 0]⟩]
theorem forms_bad {b : Int} (h0 : 5 ≤ b) (h1 : b ≤ 255) : ∀ s ∈ formsL b, (getN (B s) 0).1 = 0 ∧ (getN (B s) 0).2.1 = 0 ∧ (getN (B s) 0).2.2.1 = 100 ∧ s.size ≤ 9223372036854775807 := by
  intro s hs
  unfold formsL at hs
  simp only [List.mem_cons, List.not_mem_nil, or_false] at hs
  rcases hs with rfl | rfl | rfl | rfl | rfl | rfl | rfl
  · decide +kernel
  · have hb : (UInt8.ofNat b.toNat).toNat = b.toNat := by rw [UInt8.toNat_ofNat']; omega
    have e : getN (B (bytesL [b])) 0 = (0, 0, 100, 0) := by
      show getN [UInt8.ofNat b.toNat] 0 = _
      unfold getN
      rw [if_neg (by simp), if_neg (by simp), if_pos (by show 4 < (UInt8.ofNat b.toNat).toNat; omega)]
    rw [e]
    exact ⟨rfl, rfl, rfl, by show (bytesL [b]).size ≤ _; rw [bytesL_mk, mkB_size]; simp⟩
  all_goals decide +kernel
theorem getN_low {s : Bs} {a : Int} (h : a < 0 ∨ (s.length : Int) < a) : getN s a = (0, 0, 100, a) := if_pos h
set_option maxRecDepth 8000 in
set_option maxHeartbeats 32000000 in
theorem FieldForms_law (w x : Int) : Fun Tryd.prog 7 [.int .i64 w, .int .i64 x] (.bool true) := by
  refine fun_of_vw tab Tryd.func7 rfl rfl (by simp [Tryd.f7]) (lrel_cons (.int _ _) (lrel_cons (.int _ _) lrel_nil)) (.bool _) ?_
  obtain ⟨d, hd⟩ : ∃ d, d = IntKind.i64.wrap (1 + bits .and .i64 x 1023) := ⟨_, rfl⟩
  have d0 : 1 ≤ d ∧ d ≤ 1024 := by rw [hd, and1023, i64_in _ (by omega)]; omega
  have i1 : 0 ≤ IntKind.i64.wrap ((IntKind.u64.wrap w).tmod 7) ∧ IntKind.i64.wrap ((IntKind.u64.wrap w).tmod 7) < 7 := by rw [wrapu, Int.tmod_eq_emod_of_nonneg (by omega), i64_in _ (by omega)]; omega
  refine wsq (wrg (vQ tab rfl (vnl (qth (wsq (wsq (wrg (vF rfl callable_17 (field_awake) (vQ tab rfl (vnl (qth (vc_false rfl (vw_skip (qth (wsq (wrg (vQ tab rfl (vQ tab rfl (vQ tab rfl (vQ tab rfl (vnl (qth (wsq ?_)))))))))))))))))))))))
  refine wrg (vQ tab rfl (vQ tab rfl (vQ tab rfl (vQ tab rfl (vN tab rfl (vQ tab rfl (vN tab rfl (vQ tab rfl (vnl (qth (wsq (wrg (vQ tab rfl (vQ tab rfl (vQ tab rfl (vQ tab rfl (vQ tab rfl ?_)))))))))))))))))
  obtain ⟨b, hb⟩ : ∃ b, b = IntKind.u8.wrap (IntKind.i64.wrap (5 + (IntKind.i64.wrap (1 + bits .and .i64 x 1023)).tmod 251)) := ⟨_, rfl⟩
  have b0 : 5 ≤ b ∧ b ≤ 255 := by
    rw [hb, ← hd, Int.tmod_eq_emod_of_nonneg (by omega), i64_in _ (by omega), u8w]; omega
  obtain ⟨s, he⟩ := get_some (xs := formsL b) i1.1 (show _ < ((7 : Nat) : Int) from i1.2)
  obtain ⟨f1, f2, f3, f4⟩ := forms_bad b0.1 b0.2 s (List.mem_of_getElem? he)
  rw [← hb, ← hd]
  have hn : IntKind.i64.wrap (0 - d) = - d := by rw [i64_in _ (by omega)]; omega
  have hp1 : IntKind.i64.wrap (1 + d) = 1 + d := i64_in _ (by omega)
  have hp2 : IntKind.i64.wrap (1073741823 + d) = 1073741823 + d := i64_in _ (by omega)
  have g0 := getnum_is (s := s) (a := 0) 0 0 100 ⟨f1, f2, f3⟩ f4
  have hT : BadT (B (⟨#[3, 1, 0, 1]⟩ ++ bytesL (List.replicate 9 0))) 0 100 := .inr ⟨0, 65537, 4, by decide +kernel, by decide, by decide, by decide, by decide +kernel, .inl ⟨by decide, rfl, rfl⟩⟩
  have g1 := fgettext_bad hT (by decide +kernel)
  have g2 := getnum_is (s := ⟨#[0]⟩) (a := IntKind.i64.wrap (1 + d)) 0 0 100 (by rw [getN_low (.inr (by show ((1 : Nat) : Int) < _; omega))]; exact ⟨rfl, rfl, rfl⟩) (by decide)
  have g3 := getnum_is (s := ⟨#[0]⟩) (a := IntKind.i64.wrap (0 - d)) 0 0 100 (by rw [getN_low (.inl (by omega))]; exact ⟨rfl, rfl, rfl⟩) (by decide)
  have g4 := getnum_is (s := ⟨#[0]⟩) (a := 1) 0 0 101 (by decide +kernel) (by decide)
  have n1 := num_is (x := IntKind.i64.wrap (1073741823 + d)) ⟨#[]⟩ 100 (numR_no (okN_no.2 (.inr (by omega))))
  have n2 := num_is (x := IntKind.i64.wrap (0 - d)) ⟨#[]⟩ 100 (numR_no (okN_no.2 (.inl (by omega))))
  have g5 := getnum_is (s := ⟨#[4, 63, 255, 255, 255]⟩) (a := 0) 1073741823 5 0 (by decide +kernel) (by decide)
  refine vq_op tab rfl rfl rfl (ev_index rfl rfl rfl rfl rfl (by omega) (by omega)) ?_
  refine vq_op tab rfl rfl rfl (ev_val strR rfl rfl rfl rfl rfl he rfl) (vF rfl callable_11 (g0) (vQ tab rfl (vQ tab rfl (vQ tab rfl (vQ tab rfl (vQ tab rfl (vQ tab rfl (vQ tab rfl (vnl (qth (wsq (wrg (vN tab rfl (vQ tab rfl (vQ tab rfl (vF rfl callable_15 (g1) (vQ tab rfl (vQ tab rfl (vQ tab rfl (vQ tab rfl (vQ tab rfl (vQ tab rfl (vQ tab rfl ?_)))))))))))))))))))))))
  refine vnl (qth (wsq (wrg (vQ tab rfl (vQ tab rfl (vF rfl callable_11 (g2) (vQ tab rfl (vQ tab rfl (vQ tab rfl (vQ tab rfl (vQ tab rfl (vQ tab rfl (vQ tab rfl (vnl (qth (wsq (wrg (vQ tab rfl (vQ tab rfl (vF rfl callable_11 (g3) (vQ tab rfl (vQ tab rfl (vQ tab rfl ?_)))))))))))))))))))))))
  refine vQ tab rfl (vQ tab rfl (vQ tab rfl (vQ tab rfl (vnl (qth (wsq (wrg (vF rfl callable_11 (g4) (vQ tab rfl (vQ tab rfl (vQ tab rfl (vQ tab rfl (vQ tab rfl (vQ tab rfl (vQ tab rfl (vnl (qth (wsq (wrg (vQ tab rfl (vQ tab rfl (vF rfl callable_8 (n1) (vQ tab rfl ?_)))))))))))))))))))))))
  refine vQ tab rfl (vQ tab rfl (vQ tab rfl (vQ tab rfl (vnl (qth (wsq (wrg (vQ tab rfl (vQ tab rfl (vF rfl callable_8 (n2) (vQ tab rfl (vQ tab rfl (vQ tab rfl (vQ tab rfl (vQ tab rfl (vnl (qth (wsq (wrg (vF rfl callable_11 (g5) (vQ tab rfl (vQ tab rfl (vQ tab rfl ?_)))))))))))))))))))))))
  refine vQ tab rfl (vQ tab rfl (vQ tab rfl (vQ tab rfl (vnl (qth (wsq (wrg (vQ tab rfl (vQ tab rfl (vQ tab rfl (vQ tab rfl (vQ tab rfl (vQ tab rfl (vQ tab rfl (vQ tab rfl (vF rfl callable_10 (num_fun _) (vQ tab rfl (vQ tab rfl (vQ tab rfl (vQ tab rfl (vF rfl callable_10 (num_fun _) (vQ tab rfl (vQ tab rfl ?_)))))))))))))))))))))))
  refine vQ tab rfl (vQ tab rfl (vF rfl callable_10 (num_fun _) (vQ tab rfl (vQ tab rfl (vQ tab rfl (vQ tab rfl (vF rfl callable_10 (num_fun _) (vQ tab rfl (vQ tab rfl (vQ tab rfl (vQ tab rfl (vF rfl callable_10 (num_fun _) (vQ tab rfl (vQ tab rfl (vQ tab rfl (vQ tab rfl (vF rfl callable_10 (num_fun _) (vQ tab rfl (vQ tab rfl (vQ tab rfl (vQ tab rfl (vF rfl callable_10 (num_fun _) (vQ tab rfl ?_)))))))))))))))))))))))
  refine vQ tab rfl (vQ tab rfl (vQ tab rfl (vQ tab rfl (vQ tab rfl (vQ tab rfl (vQ tab rfl (vQ tab rfl (vQ tab rfl (vQ tab rfl (vQ tab rfl (vF rfl callable_10 (num_fun _) (vQ tab rfl (vQ tab rfl (vQ tab rfl (vnl (qth (vw_ret ?_)))))))))))))))))
  all_goals first
    | exact ⟨.inr rfl, rfl⟩
    | exact ⟨.inr rfl, Eq.trans (b := some (.bool _)) rfl (congrArg (fun b => some (Value.bool b)) (by decide))⟩
end Go.Proofs.YtkfkdhjelncfhaaDoor
