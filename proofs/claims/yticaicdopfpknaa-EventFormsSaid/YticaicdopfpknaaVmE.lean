/- New blocks and written ones over a small heap of names. No program in it. -/
import Derived.Test.YticaicdopfpknaaVmD
set_option linter.unusedVariables false
set_option linter.unusedSimpArgs false
namespace Go.Proofs.Yticaicdopfpknaa.Vm
open Go

theorem splice_nil (c : List Value) (off : Nat) : splice c off [] = c := by simp [splice]

theorem splice_length (c : List Value) (off : Nat) (vs : List Value) (h : off + vs.length ≤ c.length) : (splice c off vs).length = c.length := by
  simp only [splice, List.length_append, List.length_take, List.length_drop]; omega

theorem splice_cons (c : List Value) (off : Nat) (v : Value) (vs : List Value) (h : off < c.length) : splice c off (v :: vs) = splice (c.set off v) (off + 1) vs := by
  unfold splice
  rw [List.take_set, List.drop_set, if_pos (by omega), List.length_cons]
  have : off + (vs.length + 1) = off + 1 + vs.length := by omega
  rw [this]
  congr 1
  rw [List.append_cons]
  congr 1
  rw [List.take_add_one, List.set_append_right]
  · simp only [List.length_take, Nat.min_eq_left (Nat.le_of_lt h), Nat.sub_self]
    rw [List.getElem?_eq_getElem h]
    rfl
  · simp only [List.length_take]; omega

theorem lrel_splice {ρ : Ren} {c c' vs vs' : List Value} (h : LRel ρ c c') (hv : LRel ρ vs vs') (off : Nat) : LRel ρ (splice c off vs) (splice c' off vs') := by
  unfold splice
  rw [hv.1]
  exact lrel_append (lrel_append (lrel_take h _) hv) (lrel_drop h _)

def notFrozen (fr : Nat × Nat) (off n : Nat) : Prop := ∀ j, off ≤ j → j < off + n → ¬ (fr.1 ≤ j ∧ j < fr.2)

theorem run_storeCells {P : Program} {b off : Nat} {e : TypeId} {fr : Nat × Nat} : ∀ (vs : List Value) (i : Nat) (w : World) (c' : Array Value), w.heap[b]? = some (.cells c' e fr) → off + i + vs.length ≤ c'.size →
    (∀ v ∈ vs, v.oneCell' = true) → notFrozen fr (off + i) vs.length →
    ∃ w', (storeCells ⟨b, off, none⟩ vs i).run P w = .ok () w' ∧ Wrote b w w' ∧ w'.heap[b]? = some (.cells (splice c'.toList (off + i) vs).toArray e fr)
  | [], i, w, c', h, _, _, _ => ⟨w, rfl, .refl _ _, by rw [splice_nil]; exact h⟩
  | v :: vs, i, w, c', h, hl, hv, hf => by
    have hl' : off + i < c'.size := by simp only [List.length_cons] at hl; omega
    have hcell : w.cell? ⟨b, off + i, none⟩ = some c'[off + i] := by rw [cell_of w h]; simp [hl']
    have hfro : w.frozen? ⟨b, off + i, none⟩ = false := by
      have := hf (off + i) (Nat.le_refl _) (by simp)
      simp only [World.frozen?, h, Bool.and_eq_false_imp, decide_eq_true_eq, decide_eq_false_iff_not]
      intro h1 h2; exact this ⟨h1, h2⟩
    let w1 := w.setCell ⟨b, off + i, none⟩ v
    have hb : b < w.heap.size := (Array.getElem?_eq_some_iff.1 h).1
    have hw1 : w1.heap[b]? = some (.cells (c'.setIfInBounds (off + i) v) e fr) := by
      show (w.heap.modify b _)[b]? = _
      rw [Array.getElem?_modify, if_pos rfl, h]; rfl
    have hwr : Wrote b w w1 := ⟨rfl, rfl, rfl, by simp [w1, World.setCell], fun k hk => by
      show (w.heap.modify b _)[k]? = _
      rw [Array.getElem?_modify, if_neg (fun e => hk e.symm)]⟩
    obtain ⟨w2, hr2, hw2, hb2⟩ := run_storeCells (P := P) (off := off) vs (i + 1) w1 _ hw1 (by simp only [List.length_cons] at hl; simp; omega) (fun x hx => hv x (List.mem_cons_of_mem _ hx))
      (fun j h1 h2 => hf j (by omega) (by simp only [List.length_cons]; omega))
    refine ⟨w2, ?_, hwr.trans hw2, ?_⟩
    · simp only [storeCells, Sem.run_bind, add_none, run_store _ _ _ _ _ (hv v List.mem_cons_self), hcell, hfro, Bool.false_eq_true, if_false, Result.andThen_ok]
      exact hr2
    · rw [hb2, splice_cons _ _ _ _ (by simpa using hl')]
      simp [Nat.add_assoc]

end Go.Proofs.Yticaicdopfpknaa.Vm
