/- Terms and their places; frames' texts. -/
import Derived.Test.YtjkidjplbddmmaaCw1
import Derived.Test.YtjkidjplbddmmaaCl0
namespace Go.Proofs.Ytjkidjplbddmmaa
open Go Vm IntWalk
set_option linter.unusedVariables false
set_option linter.unusedSimpArgs false
theorem pre_get {l l' : List ByteArray} (h : l <+: l') {a : Nat} {x : ByteArray} (hx : l[a]? = some x) : l'[a]? = some x := by
  obtain ⟨r, rfl⟩ := h
  rw [List.getElem?_append_left (List.getElem?_eq_some_iff.1 hx).1]; exact hx
theorem nameB_place {most : Int} {l : List ByteArray} {s : ByteArray} (hb : ¬ badT s) (hr : (l.length : Int) < most) (hn : l.Nodup) :
    ∃ (a : Nat) (l' : List ByteArray), nameB most l s = ((a : Int), 0, l') ∧ l'[a]? = some s ∧ l <+: l' ∧ l'.Nodup ∧ l'.length ≤ l.length + 1 := by
  cases hf : findB s l with
  | some j => exact ⟨j, l, name_old hb hf, (findB_some hf).1, List.prefix_refl _, hn, by omega⟩
  | none =>
    refine ⟨l.length, l ++ [s], name_new hb hf (by omega), by simp, List.prefix_append _ _, ?_, by simp⟩
    rw [List.nodup_append]
    refine ⟨hn, by simp, ?_⟩
    intro a ha b hb2
    rw [List.mem_singleton] at hb2; subst hb2
    rintro rfl; exact findB_none hf ha
theorem nameB_there {most : Int} {l : List ByteArray} {s : ByteArray} (hb : ¬ badT s) {a : Nat} (hn : l.Nodup) (h : l[a]? = some s) : nameB most l s = ((a : Int), 0, l) := by
  cases hf : findB s l with
  | some j =>
    obtain ⟨h1, h2⟩ := findB_some hf
    have : a = j := (List.getElem?_inj (List.getElem?_eq_some_iff.1 h).1 hn).1 (h.trans h1.symm)
    subst this; exact name_old hb hf
  | none => exact (findB_none hf (List.mem_of_getElem? h)).elim
theorem macT_good {k : Int} {s : ByteArray} (h : s.size ≤ 400) : ¬ badT (macT k s) := by
  unfold badT macT
  have := keyT_size 77 k
  rw [ByteArray.size_append]
  have h1 : 1 ≤ (keyT 77 k).size := by unfold keyT; rw [ByteArray.size_append]; show 1 ≤ 1 + _; omega
  omega
theorem macB_place {most : Int} {l : List ByteArray} {k : Int} {s : ByteArray} (hk : okN k = true) (hs : s.size ≤ 400) (hr : (l.length : Int) < most) (hn : l.Nodup) :
    ∃ (a : Nat) (l' : List ByteArray), macB most l k s = ((a : Int), 0, l') ∧ l'[a]? = some (macT k s) ∧ l <+: l' ∧ l'.Nodup ∧ l'.length ≤ l.length + 1 := by
  obtain ⟨a, l', h1, h2, h3, h4, h5⟩ := nameB_place (most := most) (l := l) (macT_good (k := k) hs) hr hn
  refine ⟨a, l', ?_, h2, h3, h4, h5⟩
  unfold macB; rw [hk, craftB_ok (by rw [h1]), h1]
theorem macB_there {most : Int} {l : List ByteArray} {k : Int} {s : ByteArray} (hk : okN k = true) (hs : s.size ≤ 400) {a : Nat} (hn : l.Nodup) (h : l[a]? = some (macT k s)) : macB most l k s = ((a : Int), 0, l) := by
  have h1 := nameB_there (most := most) (macT_good (k := k) hs) hn h
  unfold macB; rw [hk, craftB_ok (by rw [h1]), h1]
theorem place_same {l : List ByteArray} (hn : l.Nodup) {a b : Nat} {x y : ByteArray} (ha : l[a]? = some x) (hb : l[b]? = some y) : ((a : Int) == (b : Int)) = decide (x = y) := by
  rw [Bool.eq_iff_iff, beq_iff_eq, decide_eq_true_eq]
  constructor
  · intro h
    have : a = b := by omega
    subst this; rw [ha] at hb; exact Option.some.inj hb
  · rintro rfl
    have := (List.getElem?_inj (List.getElem?_eq_some_iff.1 ha).1 hn).1 (ha.trans hb.symm)
    omega
theorem ba_append_cancel {a b c : ByteArray} (h : a ++ b = a ++ c) : b = c := by
  apply B_inj
  have := congrArg B h
  rw [B_app, B_app] at this
  exact List.append_cancel_left this
theorem macT_inj {k : Int} {s t : ByteArray} (h : macT k s = macT k t) : s = t := ba_append_cancel h
theorem dataT_inj {s t : Int} {d e : ByteArray} (hs : okN s = true) (ht : okN t = true) (hd : d.size ≤ 65536) (he : e.size ≤ 65536) (h : dataT s d = dataT t e) : s = t ∧ d = e := by
  unfold dataT at h
  have e1 : (textR d).1 = txtB d := by unfold textR; rw [if_pos hd]
  have e2 : (textR e).1 = txtB e := by unfold textR; rw [if_pos he]
  rw [e1, e2] at h
  have h2 := congrArg B h
  rw [B_app, B_app, B_app, B_app, numR_B hs, numR_B ht, txtB_B hd, txtB_B he, List.append_assoc, List.append_assoc] at h2
  have h3 := List.append_cancel_left h2
  have r1 := rd_num hs (txtL (B d))
  rw [h3, rd_num ht] at r1
  simp only [Option.some.injEq, Prod.mk.injEq] at r1
  obtain ⟨r2, r3⟩ := r1
  have q1 := rdT_txt (t := B d) (by rw [B_len]; exact hd) []
  have q2 := rdT_txt (t := B e) (by rw [B_len]; exact he) []
  rw [← r3, q2] at q1
  simp only [Option.some.injEq, Prod.mk.injEq] at q1
  exact ⟨r2.symm, (B_inj q1.1).symm⟩
end Go.Proofs.Ytjkidjplbddmmaa
