/- Law 24: ClientForms. -/
import Derived.Test.YtjkidjplbddmmaaVg1
import Derived.Test.YtjkidjplbddmmaaCw1
import Derived.Test.YtjkidjplbddmmaaFm0
import Derived.Test.YtjkidjplbddmmaaCl0
namespace Go.Proofs.Ytjkidjplbddmmaa
open Go Vm IntWalk
set_option linter.unusedVariables false
set_option linter.unusedSimpArgs false
theorem tagged_nil (key : Int) (a : PacketV) (s : ByteArray) : Fun Try.prog 47 [.pointer none, .int .i64 key, pktV a, .string s] (.tuple #[pktV zeroP, .int .i64 1]) := by
  refine fun_of_vw tab Try.func47 rfl rfl (by simp [Try.f47]) (lrel_cons .nilPtr (lrel_cons (.int _ _) (lrel_cons (pktRel a) (lrel_cons (.string _) lrel_nil)))) (vrel_tuple (lrel_cons (pktRel zeroP) (lrel_cons (.int _ _) lrel_nil))) ?_
  obtain ⟨k, f1, f2, f3, f4, f5, f6, f7, d⟩ := a
  refine wsq (wrg (vN tab rfl (vN tab rfl (vQ tab rfl (vnl (qth (wsq (wbk (wsq (wrg (vQ tab rfl (vQ tab rfl (vQ tab rfl (vnl (qth (vc_true rfl (wsq (wrg (vQ tab rfl (vS tab rfl (vQ tab rfl (vnl (qth ?_)))))))))))))))))))))))
  refine vw_ret (q_ret (q_thenr ?_))
  exact ⟨.inr rfl, rfl⟩
theorem bye_nil (key session : Int) : Fun Try.prog 19 [.pointer none, .int .i64 key, .int .i64 session] (.tuple #[pktV zeroP, .int .i64 1]) := by
  refine fun_of_vw tab Try.func19 rfl rfl (by simp [Try.f19]) (lrel_cons .nilPtr (lrel_cons (.int _ _) (lrel_cons (.int _ _) lrel_nil))) (vrel_tuple (lrel_cons (pktRel zeroP) (lrel_cons (.int _ _) lrel_nil))) ?_
  refine wsq (wrg (vN tab rfl (vQ tab rfl (vnl (qth (wsq (wrg (vQ tab rfl (vQ tab rfl (vQ tab rfl (vQ tab rfl (vF rfl callable_47 (tagged_nil key ⟨4, 0, 0, 0, 0, 0, session, 0, ⟨#[]⟩⟩ byeT) (vQ tab rfl (vQ tab rfl (vS tab rfl (vQ tab rfl (vnl (qth (vw_ret ?_)))))))))))))))))))
  exact ⟨.inr rfl, rfl⟩
theorem resume_nil (key ticket nonce : Int) : Fun Try.prog 17 [.pointer none, .int .i64 key, .int .i64 ticket, .int .i64 nonce] (.tuple #[pktV zeroP, .int .i64 0, .int .i64 1]) := by
  refine fun_of_vw tab Try.func17 rfl rfl (by simp [Try.f17]) (lrel_cons .nilPtr (lrel_cons (.int _ _) (lrel_cons (.int _ _) (lrel_cons (.int _ _) lrel_nil)))) (vrel_tuple (lrel_cons (pktRel zeroP) (lrel_cons (.int _ _) (lrel_cons (.int _ _) lrel_nil)))) ?_
  refine wsq (wrg (vN tab rfl (vQ tab rfl (vQ tab rfl (vnl (qth (wsq (wrg (vQ tab rfl (vQ tab rfl (vQ tab rfl (vN tab rfl (vS tab rfl (vnl (qth (wsq (wbk (wsq (wrg (vQ tab rfl (vQ tab rfl (vQ tab rfl (vnl ?_)))))))))))))))))))))))
  refine qth (vc_true rfl (wsq (wrg (vQ tab rfl (vS tab rfl (vQ tab rfl (vQ tab rfl (vnl (qth (vw_ret (q_ret (q_thenr ?_))))))))))))
  exact ⟨.inr rfl, rfl⟩
theorem proofR_no {most : Int} {l : List ByteArray} {key secret tick : Int} {h : PacketV} {r : ReplyV} (ho : proofOk h r = false) : proofR most l key secret h r tick = (zeroP, 0, 2400, l) := if_neg (by rw [ho]; decide)
theorem macB_no {most : Int} {l : List ByteArray} {k : Int} {s : ByteArray} (h : okN k = false) : macB most l k s = (0, 300, l) := by unfold macB; rw [h]; rfl
def fH : PacketV := ⟨0, 1, 2, 0, 0, 0, 0, 0, ⟨#[]⟩⟩
def fR : ReplyV := ⟨0, 3, 4, 0, 0, 0, 0, 0, ⟨#[]⟩⟩
def fA : ByteArray := macT 5 (prT (numsB [1, 2, 4]))
def fB : ByteArray := macT 5 (ktT (numsB [1, 2, 4]))
theorem fm1 : macB 2 [] 5 (prT (numsB [1, 2, 4])) = (0, 0, [fA]) := by decide +kernel
theorem fm2 : macB 2 [fA] 5 (ktT (numsB [1, 2, 4])) = (1, 0, [fA, fB]) := by decide +kernel
theorem fc6 {N : Int} (h : okN N = false) : proofR 2 [] 5 N ⟨0, 1, 2, 0, 0, 0, 0, 0, ⟨#[]⟩⟩ ⟨0, 3, 4, 0, 0, 0, 0, 0, ⟨#[]⟩⟩ 0 = (zeroP, 0, 2400, [fA, fB]) := by
  have hc : codeR 2 [fA, fB] N (stepR 0) = (0, 1200, [fA, fB]) := codeR_bad (by decide) (by rw [macB_no h]; decide)
  unfold proofR
  rw [if_pos (by decide)]
  simp [fm1, fm2, hc]
theorem fc4 {N : Int} (h : okN N = false) : proofR 2 [] N 6 ⟨0, 1, 2, 0, 0, 0, 0, 0, ⟨#[]⟩⟩ ⟨0, 3, 4, 0, 0, 0, 0, 0, ⟨#[]⟩⟩ 0 = (zeroP, 0, 2400, []) := by
  unfold proofR
  rw [if_pos (by decide)]
  simp only
  rw [macB_no h, if_neg (by decide)]
theorem fc9 {N : Int} (h : okN N = false) : resumeR 2 [] N 1 1 = (zeroP, 0, 2400, []) := by
  unfold resumeR
  rw [if_pos (by decide), macB_no h, if_neg (by decide)]
theorem fc12 {N : Int} (h : okN N = false) : dataR 2 [] N 0 0 ⟨#[120]⟩ = (zeroP, 2400, []) := taggedR_bad (by decide) (by rw [macB_no h]; decide)
set_option maxHeartbeats 64000000 in
theorem ClientForms_law (a b : Int) : Fun Try.prog 3 [.int .i64 a, .int .i64 b] (.bool true) := by
  refine fun_of_vw tab Try.func3 rfl rfl (by simp [Try.f3]) (lrel_cons (.int _ _) (lrel_cons (.int _ _) lrel_nil)) (.bool _) ?_
  refine wsq (wrg (vQ tab rfl (vnl (qth (wsq (wsq (wrg (vF rfl callable_13 (client_awake) (vQ tab rfl (vnl (qth (vc_false rfl (vw_skip (qth (wsq (wrg (vQ tab rfl (vQ tab rfl (vQ tab rfl (vQ tab rfl (vnl (qth (wsq ?_)))))))))))))))))))))))
  refine wrg ?_
  obtain ⟨D, hD⟩ : ∃ D, D = IntKind.i64.wrap (1 + bits .and .i64 b 1023) := ⟨_, rfl⟩
  have d1 : 1 ≤ D ∧ D ≤ 1024 := by rw [hD, and1023, i64_in _ (by omega)]; omega
  rw [← hD]
  obtain ⟨X, hX⟩ : ∃ X, X = IntKind.i64.wrap (0 - D) := ⟨_, rfl⟩
  have eX : X = -D := by rw [hX, i64_in _ (by omega)]; omega
  obtain ⟨M, hM⟩ : ∃ M, M = IntKind.i64.wrap (1073741823 + D) := ⟨_, rfl⟩
  have eM : M = 1073741823 + D := by rw [hM, i64_in _ (by omega)]
  obtain ⟨Y, hY⟩ : ∃ Y, Y = IntKind.i64.wrap (1048575 + D) := ⟨_, rfl⟩
  have eY : Y = 1048575 + D := by rw [hY, i64_in _ (by omega)]
  have oX : okN X = false := by rw [okN_no]; omega
  have oM : okN M = false := by rw [okN_no]; omega
  have z1 : 0 ≤ IntKind.i64.wrap (64 + D) ∧ IntKind.i64.wrap (64 + D) ≤ 140737488355328 := by rw [i64_in _ (by omega)]; omega
  have zs : (bytesL (List.replicate (IntKind.i64.wrap (64 + D)).toNat 0)).size = (IntKind.i64.wrap (64 + D)).toNat := zb_size _
  have zi : IntKind.i64.wrap (64 + D) = 64 + D := i64_in _ (by omega)
  have zd : (bytesL (List.replicate (IntKind.i64.wrap (64 + D)).toNat 0)).size ≤ 9223372036854775807 := by rw [zs, zi]; omega
  have c0 : proofR 2 [] 5 6 ⟨4, 0, 0, 0, 0, 0, 0, 0, ⟨#[]⟩⟩ ⟨0, 3, 4, 0, 0, 0, 0, 0, ⟨#[]⟩⟩ 0 = (zeroP, 0, 2400, []) := by decide +kernel
  have p1 : pktMay ⟨0, X, 0, 0, 0, 0, 0, 0, ⟨#[]⟩⟩ = false := by simp [pktMay, pktNums, oX]
  have c1 : proofR 2 [] 5 6 ⟨0, X, 0, 0, 0, 0, 0, 0, ⟨#[]⟩⟩ ⟨0, 3, 4, 0, 0, 0, 0, 0, ⟨#[]⟩⟩ 0 = (zeroP, 0, 2400, []) := proofR_no (by unfold proofOk; rw [p1]; rfl)
  have c2 : proofR 2 [] 5 6 ⟨0, 1, 2, 0, 0, 0, 0, 0, ⟨#[]⟩⟩ ⟨5, 0, 0, 0, 0, 0, 0, 0, ⟨#[]⟩⟩ 0 = (zeroP, 0, 2400, []) := by decide +kernel
  have p3 : rplMay ⟨0, 0, X, 0, 0, 0, 0, 0, ⟨#[]⟩⟩ = false := by simp [rplMay, rplNums, oX]
  have c3 : proofR 2 [] 5 6 ⟨0, 1, 2, 0, 0, 0, 0, 0, ⟨#[]⟩⟩ ⟨0, 0, X, 0, 0, 0, 0, 0, ⟨#[]⟩⟩ 0 = (zeroP, 0, 2400, []) := proofR_no (by unfold proofOk; rw [p3]; simp)
  have c4 := fc4 oX
  have c5 : proofR 2 [] 5 6 ⟨0, 1, 2, 0, 0, 0, 0, 0, ⟨#[]⟩⟩ ⟨0, 3, 4, 0, 0, 0, 0, 0, ⟨#[]⟩⟩ 0 = (zeroP, 0, 2400, [fA, fB]) := by decide +kernel
  have c6 := fc6 oX
  have p7 : pktMay ⟨2, 0, 1, 0, X, 0, 0, 0, ⟨#[]⟩⟩ = false := by simp [pktMay, pktNums, oX]
  have c7 : resumeR 2 [] 5 X 1 = (zeroP, 0, 2400, []) := by unfold resumeR; rw [if_neg (by rw [p7]; decide)]
  have p8 : pktMay ⟨2, 0, M, 0, 1, 0, 0, 0, ⟨#[]⟩⟩ = false := by simp [pktMay, pktNums, oM]
  have c8 : resumeR 2 [] 5 1 M = (zeroP, 0, 2400, []) := by unfold resumeR; rw [if_neg (by rw [p8]; decide)]
  have c9 := fc9 oX
  have c10 : dataR 2 [] 5 0 Y ⟨#[120]⟩ = (zeroP, 2400, []) := taggedR_no (by simp [pktMay]; omega)
  have c11 : dataR 2 [] 5 0 0 (bytesL (List.replicate (IntKind.i64.wrap (64 + D)).toNat 0)) = (zeroP, 2400, []) := taggedR_no (by unfold pktMay; simp only; rw [zs, zi]; simp; omega)
  have c12 := fc12 oM
  have c13 : byeR 2 [] 5 X = (zeroP, 2400, []) := taggedR_no (by simp [pktMay, pktNums, oX])
  rw [hX] at c1 c3 c4 c6 c7 c9 c13
  rw [hM] at c8 c12
  rw [hY] at c10
  refine vT rfl callable_14 (twin_ok (most := 2) (by unfold badNew; omega)) ?_
  refine vQ tab rfl (vQ tab rfl (vQ tab rfl (vQ tab rfl (vQ tab rfl (vnl (qth (wsq (wsq (wrg (vQ tab rfl (vQ tab rfl (vnl (qth (vc_false rfl (vw_skip (qth (wsq (wrg (vQ tab rfl (vQ tab rfl (vN tab rfl (vN tab rfl (vS tab rfl ?_)))))))))))))))))))))))
  refine vS tab rfl (vnl (qth (wsq (wrg (vQ tab rfl (vnl (qth (wsq (wsq (wrg (vQ tab rfl (vQ tab rfl (vQ tab rfl (vnl (qth (wbk (wsq (wrg (vQ tab rfl (vQ tab rfl (vnl (qth ?_))))))))))))))))))))))
  refine vc_part rfl (fun _ => ?_) (fun _ => ?_)
  refine wsq (wrg (vQ tab rfl (vQ tab rfl (vQ tab rfl (vT rfl callable_15 (cproof_as _ c0 ⟨rfl, rfl, rfl, by decide, by decide, by decide⟩ (by decide) (by decide) (by decide)) ?_)))))
  refine vQ tab rfl (vQ tab rfl (vQ tab rfl (vQ tab rfl (vN tab rfl (vS tab rfl (vQ tab rfl (vQ tab rfl (vnl (qth (wrg (vQ tab rfl (vF rfl callable_16 (num_fun _) (vQ tab rfl (vnl (q_norm (qth (wsq (wrg (vF rfl callable_19 (bye_nil 5 0) (vQ tab rfl (vQ tab rfl (vQ tab rfl (vN tab rfl ?_)))))))))))))))))))))))
  refine vS tab rfl (vQ tab rfl (vnl (qth (wsq (wrg (vF rfl callable_17 (resume_nil 5 0 0) (vQ tab rfl (vQ tab rfl (vQ tab rfl (vQ tab rfl (vN tab rfl (vS tab rfl (vQ tab rfl (vQ tab rfl (vnl (qth (wsq (wrg (vQ tab rfl (vQ tab rfl (vQ tab rfl (vQ tab rfl (vF rfl callable_16 (num_fun _) ?_)))))))))))))))))))))))
  refine vQ tab rfl (vQ tab rfl (vQ tab rfl (vQ tab rfl (vF rfl callable_16 (num_fun _) (vQ tab rfl (vQ tab rfl (vQ tab rfl (vnl (qth (vw_ret ?_))))))))))
  rotate_left
  refine wsq (wrg (vQ tab rfl (vQ tab rfl (vnl (qth ?_)))))
  refine vc_part rfl (fun _ => ?_) (fun _ => ?_)
  refine wsq (wrg (vQ tab rfl (vQ tab rfl (vQ tab rfl (vQ tab rfl (vQ tab rfl (vT rfl callable_15 (cproof_as _ c1 ⟨rfl, rfl, rfl, by decide, by decide, by decide⟩ (by decide) (by decide) (by decide)) ?_)))))))
  refine vQ tab rfl (vQ tab rfl (vQ tab rfl (vQ tab rfl (vN tab rfl (vS tab rfl (vQ tab rfl (vQ tab rfl (vnl (qth (wrg (vQ tab rfl (vF rfl callable_16 (num_fun _) (vQ tab rfl (vnl (q_norm (qth (wsq (wrg (vF rfl callable_19 (bye_nil 5 0) (vQ tab rfl (vQ tab rfl (vQ tab rfl (vN tab rfl ?_)))))))))))))))))))))))
  refine vS tab rfl (vQ tab rfl (vnl (qth (wsq (wrg (vF rfl callable_17 (resume_nil 5 0 0) (vQ tab rfl (vQ tab rfl (vQ tab rfl (vQ tab rfl (vN tab rfl (vS tab rfl (vQ tab rfl (vQ tab rfl (vnl (qth (wsq (wrg (vQ tab rfl (vQ tab rfl (vQ tab rfl (vQ tab rfl (vF rfl callable_16 (num_fun _) ?_)))))))))))))))))))))))
  refine vQ tab rfl (vQ tab rfl (vQ tab rfl (vQ tab rfl (vF rfl callable_16 (num_fun _) (vQ tab rfl (vQ tab rfl (vQ tab rfl (vnl (qth (vw_ret ?_))))))))))
  rotate_left
  refine wsq (wrg (vQ tab rfl (vQ tab rfl (vnl (qth ?_)))))
  refine vc_part rfl (fun _ => ?_) (fun _ => ?_)
  refine wsq (wrg (vQ tab rfl (vQ tab rfl (vQ tab rfl (vT rfl callable_15 (cproof_as _ c2 ⟨rfl, rfl, rfl, by decide, by decide, by decide⟩ (by decide) (by decide) (by decide)) ?_)))))
  refine vQ tab rfl (vQ tab rfl (vQ tab rfl (vQ tab rfl (vN tab rfl (vS tab rfl (vQ tab rfl (vQ tab rfl (vnl (qth (wrg (vQ tab rfl (vF rfl callable_16 (num_fun _) (vQ tab rfl (vnl (q_norm (qth (wsq (wrg (vF rfl callable_19 (bye_nil 5 0) (vQ tab rfl (vQ tab rfl (vQ tab rfl (vN tab rfl ?_)))))))))))))))))))))))
  refine vS tab rfl (vQ tab rfl (vnl (qth (wsq (wrg (vF rfl callable_17 (resume_nil 5 0 0) (vQ tab rfl (vQ tab rfl (vQ tab rfl (vQ tab rfl (vN tab rfl (vS tab rfl (vQ tab rfl (vQ tab rfl (vnl (qth (wsq (wrg (vQ tab rfl (vQ tab rfl (vQ tab rfl (vQ tab rfl (vF rfl callable_16 (num_fun _) ?_)))))))))))))))))))))))
  refine vQ tab rfl (vQ tab rfl (vQ tab rfl (vQ tab rfl (vF rfl callable_16 (num_fun _) (vQ tab rfl (vQ tab rfl (vQ tab rfl (vnl (qth (vw_ret ?_))))))))))
  rotate_left
  refine wsq (wrg (vQ tab rfl (vQ tab rfl (vnl (qth ?_)))))
  refine vc_part rfl (fun _ => ?_) (fun _ => ?_)
  refine wsq (wrg (vQ tab rfl (vQ tab rfl (vQ tab rfl (vQ tab rfl (vQ tab rfl (vT rfl callable_15 (cproof_as _ c3 ⟨rfl, rfl, rfl, by decide, by decide, by decide⟩ (by decide) (by decide) (by decide)) ?_)))))))
  refine vQ tab rfl (vQ tab rfl (vQ tab rfl (vQ tab rfl (vN tab rfl (vS tab rfl (vQ tab rfl (vQ tab rfl (vnl (qth (wrg (vQ tab rfl (vF rfl callable_16 (num_fun _) (vQ tab rfl (vnl (q_norm (qth (wsq (wrg (vF rfl callable_19 (bye_nil 5 0) (vQ tab rfl (vQ tab rfl (vQ tab rfl (vN tab rfl ?_)))))))))))))))))))))))
  refine vS tab rfl (vQ tab rfl (vnl (qth (wsq (wrg (vF rfl callable_17 (resume_nil 5 0 0) (vQ tab rfl (vQ tab rfl (vQ tab rfl (vQ tab rfl (vN tab rfl (vS tab rfl (vQ tab rfl (vQ tab rfl (vnl (qth (wsq (wrg (vQ tab rfl (vQ tab rfl (vQ tab rfl (vQ tab rfl (vF rfl callable_16 (num_fun _) ?_)))))))))))))))))))))))
  refine vQ tab rfl (vQ tab rfl (vQ tab rfl (vQ tab rfl (vF rfl callable_16 (num_fun _) (vQ tab rfl (vQ tab rfl (vQ tab rfl (vnl (qth (vw_ret ?_))))))))))
  rotate_left
  refine wsq (wrg (vQ tab rfl (vQ tab rfl (vnl (qth ?_)))))
  refine vc_part rfl (fun _ => ?_) (fun _ => ?_)
  refine wsq (wrg (vQ tab rfl (vQ tab rfl (vQ tab rfl (vQ tab rfl (vQ tab rfl (vT rfl callable_15 (cproof_as _ c4 ⟨rfl, rfl, rfl, by decide, by decide, by decide⟩ (by decide) (by decide) (by decide)) ?_)))))))
  refine vQ tab rfl (vQ tab rfl (vQ tab rfl (vQ tab rfl (vN tab rfl (vS tab rfl (vQ tab rfl (vQ tab rfl (vnl (qth (wrg (vQ tab rfl (vF rfl callable_16 (num_fun _) (vQ tab rfl (vnl (q_norm (qth (wsq (wrg (vF rfl callable_19 (bye_nil 5 0) (vQ tab rfl (vQ tab rfl (vQ tab rfl (vN tab rfl ?_)))))))))))))))))))))))
  refine vS tab rfl (vQ tab rfl (vnl (qth (wsq (wrg (vF rfl callable_17 (resume_nil 5 0 0) (vQ tab rfl (vQ tab rfl (vQ tab rfl (vQ tab rfl (vN tab rfl (vS tab rfl (vQ tab rfl (vQ tab rfl (vnl (qth (wsq (wrg (vQ tab rfl (vQ tab rfl (vQ tab rfl (vQ tab rfl (vF rfl callable_16 (num_fun _) ?_)))))))))))))))))))))))
  refine vQ tab rfl (vQ tab rfl (vQ tab rfl (vQ tab rfl (vF rfl callable_16 (num_fun _) (vQ tab rfl (vQ tab rfl (vQ tab rfl (vnl (qth (vw_ret ?_))))))))))
  rotate_left
  refine wsq (wrg (vQ tab rfl (vQ tab rfl (vnl (qth ?_)))))
  refine vc_part rfl (fun _ => ?_) (fun _ => ?_)
  refine wsq (wrg (vQ tab rfl (vQ tab rfl (vQ tab rfl (vT rfl callable_15 (cproof_as _ c5 ⟨rfl, rfl, rfl, by decide, by decide, by decide⟩ (by decide) (by decide) (by decide)) ?_)))))
  refine vQ tab rfl (vQ tab rfl (vQ tab rfl (vQ tab rfl (vN tab rfl (vS tab rfl (vQ tab rfl (vQ tab rfl (vnl (qth (wrg (vQ tab rfl (vF rfl callable_16 (num_fun _) (vQ tab rfl (vnl (q_norm (qth (wsq (wrg (vF rfl callable_19 (bye_nil 5 0) (vQ tab rfl (vQ tab rfl (vQ tab rfl (vN tab rfl ?_)))))))))))))))))))))))
  refine vS tab rfl (vQ tab rfl (vnl (qth (wsq (wrg (vF rfl callable_17 (resume_nil 5 0 0) (vQ tab rfl (vQ tab rfl (vQ tab rfl (vQ tab rfl (vN tab rfl (vS tab rfl (vQ tab rfl (vQ tab rfl (vnl (qth (wsq (wrg (vQ tab rfl (vQ tab rfl (vQ tab rfl (vQ tab rfl (vF rfl callable_16 (num_fun _) ?_)))))))))))))))))))))))
  refine vQ tab rfl (vQ tab rfl (vQ tab rfl (vQ tab rfl (vF rfl callable_16 (num_fun _) (vQ tab rfl (vQ tab rfl (vQ tab rfl (vnl (qth (vw_ret ?_))))))))))
  rotate_left
  refine wsq (wrg (vQ tab rfl (vQ tab rfl (vnl (qth ?_)))))
  refine vc_part rfl (fun _ => ?_) (fun _ => ?_)
  refine wsq (wrg (vQ tab rfl (vQ tab rfl (vQ tab rfl (vQ tab rfl (vQ tab rfl (vT rfl callable_15 (cproof_as _ c6 ⟨rfl, rfl, rfl, by decide, by decide, by decide⟩ (by decide) (by decide) (by decide)) ?_)))))))
  refine vQ tab rfl (vQ tab rfl (vQ tab rfl (vQ tab rfl (vN tab rfl (vS tab rfl (vQ tab rfl (vQ tab rfl (vnl (qth (wrg (vQ tab rfl (vF rfl callable_16 (num_fun _) (vQ tab rfl (vnl (q_norm (qth (wsq (wrg (vF rfl callable_19 (bye_nil 5 0) (vQ tab rfl (vQ tab rfl (vQ tab rfl (vN tab rfl ?_)))))))))))))))))))))))
  refine vS tab rfl (vQ tab rfl (vnl (qth (wsq (wrg (vF rfl callable_17 (resume_nil 5 0 0) (vQ tab rfl (vQ tab rfl (vQ tab rfl (vQ tab rfl (vN tab rfl (vS tab rfl (vQ tab rfl (vQ tab rfl (vnl (qth (wsq (wrg (vQ tab rfl (vQ tab rfl (vQ tab rfl (vQ tab rfl (vF rfl callable_16 (num_fun _) ?_)))))))))))))))))))))))
  refine vQ tab rfl (vQ tab rfl (vQ tab rfl (vQ tab rfl (vF rfl callable_16 (num_fun _) (vQ tab rfl (vQ tab rfl (vQ tab rfl (vnl (qth (vw_ret ?_))))))))))
  rotate_left
  refine wsq (wrg (vQ tab rfl (vQ tab rfl (vnl (qth ?_)))))
  refine vc_part rfl (fun _ => ?_) (fun _ => ?_)
  refine wsq (wrg (vQ tab rfl (vQ tab rfl (vQ tab rfl (vT rfl callable_17 (cresume_as _ c7 ⟨rfl, rfl, rfl, by decide, by decide, by decide⟩ (by decide) (by decide) (by decide)) ?_)))))
  refine vQ tab rfl (vQ tab rfl (vQ tab rfl (vQ tab rfl (vN tab rfl (vS tab rfl (vQ tab rfl (vQ tab rfl (vnl (qth (wrg (vQ tab rfl (vF rfl callable_16 (num_fun _) (vQ tab rfl (vnl (q_norm (qth (wsq (wrg (vF rfl callable_19 (bye_nil 5 0) (vQ tab rfl (vQ tab rfl (vQ tab rfl (vN tab rfl ?_)))))))))))))))))))))))
  refine vS tab rfl (vQ tab rfl (vnl (qth (wsq (wrg (vF rfl callable_17 (resume_nil 5 0 0) (vQ tab rfl (vQ tab rfl (vQ tab rfl (vQ tab rfl (vN tab rfl (vS tab rfl (vQ tab rfl (vQ tab rfl (vnl (qth (wsq (wrg (vQ tab rfl (vQ tab rfl (vQ tab rfl (vQ tab rfl (vF rfl callable_16 (num_fun _) ?_)))))))))))))))))))))))
  refine vQ tab rfl (vQ tab rfl (vQ tab rfl (vQ tab rfl (vF rfl callable_16 (num_fun _) (vQ tab rfl (vQ tab rfl (vQ tab rfl (vnl (qth (vw_ret ?_))))))))))
  rotate_left
  refine wsq (wrg (vQ tab rfl (vQ tab rfl (vnl (qth ?_)))))
  refine vc_part rfl (fun _ => ?_) (fun _ => ?_)
  refine wsq (wrg (vQ tab rfl (vQ tab rfl (vQ tab rfl (vT rfl callable_17 (cresume_as _ c8 ⟨rfl, rfl, rfl, by decide, by decide, by decide⟩ (by decide) (by decide) (by decide)) ?_)))))
  refine vQ tab rfl (vQ tab rfl (vQ tab rfl (vQ tab rfl (vN tab rfl (vS tab rfl (vQ tab rfl (vQ tab rfl (vnl (qth (wrg (vQ tab rfl (vF rfl callable_16 (num_fun _) (vQ tab rfl (vnl (q_norm (qth (wsq (wrg (vF rfl callable_19 (bye_nil 5 0) (vQ tab rfl (vQ tab rfl (vQ tab rfl (vN tab rfl ?_)))))))))))))))))))))))
  refine vS tab rfl (vQ tab rfl (vnl (qth (wsq (wrg (vF rfl callable_17 (resume_nil 5 0 0) (vQ tab rfl (vQ tab rfl (vQ tab rfl (vQ tab rfl (vN tab rfl (vS tab rfl (vQ tab rfl (vQ tab rfl (vnl (qth (wsq (wrg (vQ tab rfl (vQ tab rfl (vQ tab rfl (vQ tab rfl (vF rfl callable_16 (num_fun _) ?_)))))))))))))))))))))))
  refine vQ tab rfl (vQ tab rfl (vQ tab rfl (vQ tab rfl (vF rfl callable_16 (num_fun _) (vQ tab rfl (vQ tab rfl (vQ tab rfl (vnl (qth (vw_ret ?_))))))))))
  rotate_left
  refine wsq (wrg (vQ tab rfl (vQ tab rfl (vnl (qth ?_)))))
  refine vc_part rfl (fun _ => ?_) (fun _ => ?_)
  refine wsq (wrg (vQ tab rfl (vQ tab rfl (vQ tab rfl (vT rfl callable_17 (cresume_as _ c9 ⟨rfl, rfl, rfl, by decide, by decide, by decide⟩ (by decide) (by decide) (by decide)) ?_)))))
  refine vQ tab rfl (vQ tab rfl (vQ tab rfl (vQ tab rfl (vN tab rfl (vS tab rfl (vQ tab rfl (vQ tab rfl (vnl (qth (wrg (vQ tab rfl (vF rfl callable_16 (num_fun _) (vQ tab rfl (vnl (q_norm (qth (wsq (wrg (vF rfl callable_19 (bye_nil 5 0) (vQ tab rfl (vQ tab rfl (vQ tab rfl (vN tab rfl ?_)))))))))))))))))))))))
  refine vS tab rfl (vQ tab rfl (vnl (qth (wsq (wrg (vF rfl callable_17 (resume_nil 5 0 0) (vQ tab rfl (vQ tab rfl (vQ tab rfl (vQ tab rfl (vN tab rfl (vS tab rfl (vQ tab rfl (vQ tab rfl (vnl (qth (wsq (wrg (vQ tab rfl (vQ tab rfl (vQ tab rfl (vQ tab rfl (vF rfl callable_16 (num_fun _) ?_)))))))))))))))))))))))
  refine vQ tab rfl (vQ tab rfl (vQ tab rfl (vQ tab rfl (vF rfl callable_16 (num_fun _) (vQ tab rfl (vQ tab rfl (vQ tab rfl (vnl (qth (vw_ret ?_))))))))))
  rotate_left
  refine wsq (wrg (vQ tab rfl (vQ tab rfl (vnl (qth ?_)))))
  refine vc_part rfl (fun _ => ?_) (fun _ => ?_)
  refine wsq (wrg (vQ tab rfl (vQ tab rfl (vQ tab rfl (vT rfl callable_18 (cdata_as _ c10 ⟨rfl, rfl, rfl, by decide, by decide, by decide⟩ (by decide) (by decide) (by decide)) ?_)))))
  refine vQ tab rfl (vQ tab rfl (vQ tab rfl (vN tab rfl (vS tab rfl (vQ tab rfl (vnl (qth (wrg (vQ tab rfl (vF rfl callable_16 (num_fun _) (vQ tab rfl (vnl (q_norm (qth (wsq (wrg (vF rfl callable_19 (bye_nil 5 0) (vQ tab rfl (vQ tab rfl (vQ tab rfl (vN tab rfl (vS tab rfl (vQ tab rfl ?_)))))))))))))))))))))))
  refine vnl (qth (wsq (wrg (vF rfl callable_17 (resume_nil 5 0 0) (vQ tab rfl (vQ tab rfl (vQ tab rfl (vQ tab rfl (vN tab rfl (vS tab rfl (vQ tab rfl (vQ tab rfl (vnl (qth (wsq (wrg (vQ tab rfl (vQ tab rfl (vQ tab rfl (vQ tab rfl (vF rfl callable_16 (num_fun _) (vQ tab rfl (vQ tab rfl ?_)))))))))))))))))))))))
  refine vQ tab rfl (vQ tab rfl (vF rfl callable_16 (num_fun _) (vQ tab rfl (vQ tab rfl (vQ tab rfl (vnl (qth (vw_ret ?_))))))))
  rotate_left
  refine wsq (wrg (vQ tab rfl (vQ tab rfl (vnl (qth ?_)))))
  refine vc_part rfl (fun _ => ?_) (fun _ => ?_)
  refine wsq (wrg (vQ tab rfl (vQ tab rfl (vQ tab rfl (vo_op rfl rfl rfl (opr_ev tab (ev_makeb rfl rfl rfl rfl rfl rfl rfl rfl z1.1 z1.2)) (vq_op tab rfl rfl rfl (ev_text rfl rfl rfl rfl rfl rfl rfl rfl (by simp)) ?_))))))
  refine vT rfl callable_18 (cdata_as _ c11 ⟨rfl, rfl, rfl, by decide, by decide, by decide⟩ (by decide) (by decide) zd) ?_
  refine vQ tab rfl (vQ tab rfl (vQ tab rfl (vN tab rfl (vS tab rfl (vQ tab rfl (vnl (qth (wrg (vQ tab rfl (vF rfl callable_16 (num_fun _) (vQ tab rfl (vnl (q_norm (qth (wsq (wrg (vF rfl callable_19 (bye_nil 5 0) (vQ tab rfl (vQ tab rfl (vQ tab rfl (vN tab rfl (vS tab rfl (vQ tab rfl ?_)))))))))))))))))))))))
  refine vnl (qth (wsq (wrg (vF rfl callable_17 (resume_nil 5 0 0) (vQ tab rfl (vQ tab rfl (vQ tab rfl (vQ tab rfl (vN tab rfl (vS tab rfl (vQ tab rfl (vQ tab rfl (vnl (qth (wsq (wrg (vQ tab rfl (vQ tab rfl (vQ tab rfl (vQ tab rfl (vF rfl callable_16 (num_fun _) (vQ tab rfl (vQ tab rfl ?_)))))))))))))))))))))))
  refine vQ tab rfl (vQ tab rfl (vF rfl callable_16 (num_fun _) (vQ tab rfl (vQ tab rfl (vQ tab rfl (vnl (qth (vw_ret ?_))))))))
  rotate_left
  refine wsq (wrg (vQ tab rfl (vQ tab rfl (vnl (qth ?_)))))
  refine vc_part rfl (fun _ => ?_) (fun _ => ?_)
  refine wsq (wrg (vQ tab rfl (vQ tab rfl (vQ tab rfl (vT rfl callable_18 (cdata_as _ c12 ⟨rfl, rfl, rfl, by decide, by decide, by decide⟩ (by decide) (by decide) (by decide)) ?_)))))
  refine vQ tab rfl (vQ tab rfl (vQ tab rfl (vN tab rfl (vS tab rfl (vQ tab rfl (vnl (qth (wrg (vQ tab rfl (vF rfl callable_16 (num_fun _) (vQ tab rfl (vnl (q_norm (qth (wsq (wrg (vF rfl callable_19 (bye_nil 5 0) (vQ tab rfl (vQ tab rfl (vQ tab rfl (vN tab rfl (vS tab rfl (vQ tab rfl ?_)))))))))))))))))))))))
  refine vnl (qth (wsq (wrg (vF rfl callable_17 (resume_nil 5 0 0) (vQ tab rfl (vQ tab rfl (vQ tab rfl (vQ tab rfl (vN tab rfl (vS tab rfl (vQ tab rfl (vQ tab rfl (vnl (qth (wsq (wrg (vQ tab rfl (vQ tab rfl (vQ tab rfl (vQ tab rfl (vF rfl callable_16 (num_fun _) (vQ tab rfl (vQ tab rfl ?_)))))))))))))))))))))))
  refine vQ tab rfl (vQ tab rfl (vF rfl callable_16 (num_fun _) (vQ tab rfl (vQ tab rfl (vQ tab rfl (vnl (qth (vw_ret ?_))))))))
  rotate_left
  refine wsq (wrg (vQ tab rfl (vQ tab rfl (vQ tab rfl (vT rfl callable_19 (cbye_as _ c13 ⟨rfl, rfl, rfl, by decide, by decide, by decide⟩ (by decide) (by decide)) ?_)))))
  refine vQ tab rfl (vQ tab rfl (vQ tab rfl (vN tab rfl (vS tab rfl (vQ tab rfl (vnl (qth (wrg (vQ tab rfl (vF rfl callable_16 (num_fun _) (vQ tab rfl (vnl (q_norm (qth (wsq (wrg (vF rfl callable_19 (bye_nil 5 0) (vQ tab rfl (vQ tab rfl (vQ tab rfl (vN tab rfl (vS tab rfl (vQ tab rfl ?_)))))))))))))))))))))))
  refine vnl (qth (wsq (wrg (vF rfl callable_17 (resume_nil 5 0 0) (vQ tab rfl (vQ tab rfl (vQ tab rfl (vQ tab rfl (vN tab rfl (vS tab rfl (vQ tab rfl (vQ tab rfl (vnl (qth (wsq (wrg (vQ tab rfl (vQ tab rfl (vQ tab rfl (vQ tab rfl (vF rfl callable_16 (num_fun _) (vQ tab rfl (vQ tab rfl ?_)))))))))))))))))))))))
  refine vQ tab rfl (vQ tab rfl (vF rfl callable_16 (num_fun _) (vQ tab rfl (vQ tab rfl (vQ tab rfl (vnl (qth (vw_ret ?_))))))))
  rotate_left
  all_goals exact ⟨.inr rfl, rfl⟩
end Go.Proofs.Ytjkidjplbddmmaa
