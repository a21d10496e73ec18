/- A map from texts to their places. -/
import Derived.Test.YticaicdopfpknaaVmFn
set_option linter.unusedVariables false
set_option linter.unusedSimpArgs false
namespace Go.Proofs.Yticaicdopfpknaa.Vm
open Go
theorem lkp_told {α : Type} {i : Nat} : ∀ {L : List (Nat × α)}, i ∈ L.map (·.1) → lkp L i ≠ none
  | [], h => by simp at h
  | (j, x) :: L, h => by
    simp only [lkp]
    split
    · simp
    · rename_i hne
      refine lkp_told ?_
      simp only [List.map_cons, List.mem_cons] at h
      rcases h with h | h
      · exact (hne h).elim
      · exact h
theorem told_of {L : List (Nat × Option VObj)} : ∀ {src : List Src} {os : List VObj}, (∀ i ∈ ownNames src, i ∈ L.map (·.1)) → Told L src os
  | [], _, _ => by unfold Told; trivial
  | .own i :: r, [], _ => by unfold Told; trivial
  | .look _ _ _ :: r, [], _ => by unfold Told; trivial
  | .own i :: r, o :: os, h => ⟨fun _ => lkp_told (h i (by simp [ownNames])), told_of fun j hj => h j (by simp [ownNames, hj])⟩
  | .look _ _ _ :: r, _ :: os, h => told_of (src := r) (os := os) fun j hj => h j (by simpa [ownNames] using hj)
theorem ba_beq (a b : ByteArray) : (a == b) = decide (a = b) := by
  cases a with | mk a => cases b with | mk b =>
  show (a == b) = _
  rw [Bool.eq_iff_iff]; simp

def findB (s : ByteArray) (l : List ByteArray) : Option Nat := l.findIdx? fun x => decide (x = s)
theorem findB_app (s x : ByteArray) (l : List ByteArray) : findB s (l ++ [x]) = (findB s l).or (if x = s then some l.length else none) := by
  unfold findB; rw [List.findIdx?_append]; by_cases h : x = s <;> simp [h]
theorem findB_some {s : ByteArray} {l : List ByteArray} {j : Nat} (h : findB s l = some j) : l[j]? = some s ∧ j < l.length := by
  obtain ⟨h1, h2, _⟩ := List.findIdx?_eq_some_iff_getElem.1 h
  exact ⟨by rw [List.getElem?_eq_getElem h1]; simpa using h2, h1⟩
theorem findB_none {s : ByteArray} {l : List ByteArray} (h : findB s l = none) : s ∉ l := fun hs => by
  have := List.findIdx?_eq_none_iff.1 h s hs; simp at this

def ents : Nat → List ByteArray → List MEnt
  | _, [] => []
  | k, s :: l => (.string s, .int .i64 (k : Int), k) :: ents (k + 1) l
theorem ents_app (s : ByteArray) : ∀ (l : List ByteArray) (k : Nat), ents k (l ++ [s]) = ents k l ++ [(.string s, .int .i64 ((k + l.length : Nat) : Int), k + l.length)]
  | [], k => by simp [ents]
  | x :: l, k => by
    simp only [List.cons_append, ents, ents_app s l (k + 1), List.length_cons]
    rw [show k + 1 + l.length = k + (l.length + 1) by omega]
theorem findK_ents (s : ByteArray) : ∀ (l : List ByteArray) (k i : Nat), findK .string (.string s) (ents k l) i = some ((findB s l).map fun j => (i + j, (.string s, .int .i64 ((k + j : Nat) : Int), k + j)))
  | [], k, i => rfl
  | x :: l, k, i => by
    simp only [ents, findK, Instr.sameNow, ba_beq, findB, List.findIdx?_cons]
    by_cases h : x = s
    · subst h; simp
    · have h' : ¬ s = x := fun e => h e.symm
      simp only [h, h', decide_false]
      have := findK_ents s l (k + 1) (i + 1)
      unfold findB at this
      rw [this]
      cases List.findIdx? (fun x => decide (x = s)) l with
      | none => rfl
      | some j => simp only [Option.map_some]; rw [show i + 1 + j = i + (j + 1) by omega, show k + 1 + j = k + (j + 1) by omega]; simp
theorem setVal_last (v z k0 : Value) : ∀ (l : List ByteArray) (k : Nat), setVal ((k + l.length : Nat) : Int) v (ents k l ++ [(k0, z, k + l.length)]) = some (ents k l ++ [(k0, v, k + l.length)])
  | [], k => by simp [ents, setVal]
  | x :: l, k => by
    simp only [ents, List.cons_append, setVal, List.length_cons]
    rw [if_neg (by omega), show k + (l.length + 1) = k + 1 + l.length by omega, setVal_last v z k0 l (k + 1)]; rfl

section
variable {P : Program} {τ : Nat → Option TI} {env : List (Nat × Value)} {V : Heap} {n : Nat}
theorem ev_found {j : Nat} {t kt et i c : Nat} {x y : Operand} {ti ki ei : TI} {l : List ByteArray} {s : ByteArray} (hx : rd env x = some (.map (some i))) (hy : rd env y = some (.string s)) (ht : τ t = some ti) (hd : ti.desc = .map kt et) (hk : τ kt = some ki) (he : τ et = some ei) (hks : ki.desc = .string)
    (hV : V i = some (.map (ents 0 l) c)) (hr : findB s l = some j) : evOp τ env V n (.lookup t x y true) = some ⟨.tuple #[.int .i64 (j : Int), .bool true], [], 0, [i]⟩ := by
  simp only [evOp, hx, hy, evLookup, ht, hd, hk, he, hks, plainKey, if_true, hV, findK_ents, hr, Option.map_some, okPair, Nat.zero_add]
theorem ev_lost {t kt et i c : Nat} {x y : Operand} {ti ki ei : TI} {l : List ByteArray} {s : ByteArray} (hx : rd env x = some (.map (some i))) (hy : rd env y = some (.string s)) (ht : τ t = some ti) (hd : ti.desc = .map kt et) (hk : τ kt = some ki) (he : τ et = some ei) (hks : ki.desc = .string)
    (hV : V i = some (.map (ents 0 l) c)) (hr : findB s l = none) : evOp τ env V n (.lookup t x y true) = some ⟨.tuple #[ei.zero, .bool false], [], 0, [i]⟩ := by
  simp only [evOp, hx, hy, evLookup, ht, hd, hk, he, hks, plainKey, if_true, hV, findK_ents, hr, Option.map_none, okPair]
theorem ev_mapnew {t kt et i : Nat} {x y : Operand} {ti ki ei : TI} {l : List ByteArray} {s : ByteArray} (hx : rd env x = some (.map (some i))) (hy : rd env y = some (.string s)) (ht : τ t = some ti) (hd : ti.desc = .map kt et) (hk : τ kt = some ki) (he : τ et = some ei) (hks : ki.desc = .string)
    (hV : V i = some (.map (ents 0 l) l.length)) (hr : findB s l = none) : evOp τ env V n (.mapEntry t x y) = some ⟨.tuple #[ei.zero, .int .i64 (l.length : Int)], [(i, some (.map (ents 0 l ++ [(.string s, ei.zero, l.length)]) (l.length + 1)))], 0, [i]⟩ := by
  simp only [evOp, hx, hy, evMapEntry, ht, hd, hk, he, hks, plainKey, if_true, hV, findK_ents, hr]; rfl
theorem ev_mapset {t i : Nat} {x y z : Operand} {l : List ByteArray} {s : ByteArray} {v0 : Value} (hx : rd env x = some (.map (some i))) (hy : rd env y = some (.int .i64 (l.length : Int))) (hz : rd env z = some (.int .i64 (l.length : Int)))
    (hV : V i = some (.map (ents 0 l ++ [(.string s, v0, l.length)]) (l.length + 1))) : evOp τ env V n (.entryStore t x y z) = some ⟨undef, [(i, some (.map (ents 0 (l ++ [s])) (l ++ [s]).length))], 0, [i]⟩ := by
  have := setVal_last (.int .i64 (l.length : Int)) v0 (.string s) l 0
  rw [Nat.zero_add] at this
  simp only [evOp, hx, hy, hz, evEntryStore, hV, this, Option.map_some, ents_app, Nat.zero_add, List.length_append]; rfl
end
end Go.Proofs.Yticaicdopfpknaa.Vm
