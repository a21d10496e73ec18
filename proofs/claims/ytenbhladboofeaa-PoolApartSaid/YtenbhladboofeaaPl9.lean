/- Law 16: PoolWalks. -/
import Derived.Test.YtenbhladboofeaaPl8
namespace Go.Proofs.Ytenbhladboofeaa
open Go Vm IntWalk
set_option linter.unusedVariables false
set_option linter.unusedSimpArgs false
def z4 : List AddrV := [⟨false, -1, 0⟩, ⟨false, -1, 0⟩, ⟨false, -1, 0⟩, ⟨false, -1, 0⟩]
def GoodP (m : Nat) (ps : List AddrV) : Prop := ps.length = m ∧ ∀ a ∈ ps, badA a = false
theorem good_may {m : Nat} {ps : List AddrV} (h : GoodP m ps) (h0 : 1 ≤ m) (h1 : m ≤ 16) : mayP ps = true := nrm_may (by rw [h.1]; exact h0) (by rw [h.1]; exact h1) h.2
theorem good_set {m : Nat} {ps : List AddrV} {i : Nat} {a : AddrV} (h : GoodP m ps) (ha : badA a = false) : GoodP m (ps.set i a) := by
  refine ⟨by rw [List.length_set]; exact h.1, fun x hx => ?_⟩
  rcases List.mem_or_eq_of_mem_set hx with hx | rfl
  · exact h.2 x hx
  · exact ha
theorem at_of {ps : List AddrV} {k : Int} {a : AddrV} (h : ps[k.toNat]? = some a) : atA ps k = a := by unfold atA; simp [List.getD_eq_getElem?_getD, h]
theorem there_of {ps : List AddrV} {k : Int} (h0 : 0 ≤ k) (h1 : k < (ps.length : Int)) : thereB ps k = true := by unfold thereB; rw [decide_eq_true h0, decide_eq_true h1]; rfl
theorem free_no {ps : List AddrV} {k w : Int} {a : AddrV} (h : ps[k.toNat]? = some a) (hb : a.busy = false) : freeA ps k w = ([], 1600) := freeA_bad (by unfold freeC; rw [at_of h, hb]; simp)
theorem free_yes {m : Nat} {ps : List AddrV} {k w : Int} {a : AddrV} (hg : GoodP m ps) (hm0 : 1 ≤ m) (hm1 : m ≤ 16) (k0 : 0 ≤ k) (k1 : k < m) (h : ps[k.toNat]? = some a) (hb : a.busy = true) (hw : 0 ≤ w) : freeA ps k w = (ps.set k.toNat ⟨false, a.last, w⟩, 0) := by
  rw [freeA_ok (by unfold freeC; rw [good_may hg hm0 hm1, there_of k0 (by rw [hg.1]; exact k1), at_of h, hb, decide_eq_false (by omega)]; rfl), at_of h]
theorem take_yes {m : Nat} {ps : List AddrV} {k u : Int} {a : AddrV} (hg : GoodP m ps) (hm0 : 1 ≤ m) (hm1 : m ≤ 16) (k0 : 0 ≤ k) (k1 : k < m) (h : ps[k.toNat]? = some a) (hb : a.busy = false) (hu : userOk u = true) : takeA ps k u = (ps.set k.toNat ⟨true, u, 0⟩, 0) :=
  takeA_ok (by unfold takeC; rw [good_may hg hm0 hm1, there_of k0 (by rw [hg.1]; exact k1), at_of h, hb, hu]; rfl)
theorem bad_free {a : AddrV} {w : Int} (h : badA a = false) (hw : 0 ≤ w) : badA ⟨false, a.last, w⟩ = false := by
  rw [badA_of] at h ⊢
  simp only [Bool.or_eq_false_iff, decide_eq_false_iff_not] at h ⊢
  omega
theorem bad_take {u : Int} (hu : userOk u = true) : badA ⟨true, u, 0⟩ = false := by
  unfold userOk at hu
  simp only [Bool.and_eq_true, decide_eq_true_eq] at hu
  rw [badA_of]; simp only [Bool.or_eq_false_iff, decide_eq_false_iff_not]; omega
theorem set_map {α : Type} {f : AddrV → α} {ps : List AddrV} {k : Nat} {b : AddrV} {v : α} (h : f b = v) : (ps.map f).set k v = (ps.set k b).map f := by rw [List.map_set, h]
theorem set_same {α : Type} {f : AddrV → α} {ps : List AddrV} {k : Nat} {a b : AddrV} (ha : ps[k]? = some a) (h : f b = f a) : ps.map f = (ps.set k b).map f := by
  rw [List.map_set, h]
  apply List.ext_getElem?
  intro i
  rw [List.getElem?_set]
  split
  · rename_i he; subst he
    split
    · rw [List.getElem?_map, ha]; rfl
    · rename_i hl; have := (List.getElem?_eq_some_iff.1 ha).1; simp at hl; omega
  · rfl
theorem map_at {α : Type} {f : AddrV → α} {ps : List AddrV} {k : Nat} {a : AddrV} (ha : ps[k]? = some a) : (ps.map f)[k]? = some (f a) := by rw [List.getElem?_map, ha]; rfl
theorem findI_spec {α : Type} {p : α → Bool} {xs : List α} (h : 0 ≤ findI p xs) : ∃ a, xs[(findI p xs).toNat]? = some a ∧ p a = true ∧ findI p xs < (xs.length : Int) := by
  unfold findI at *
  split
  · rename_i j hj
    rw [List.findIdx?_eq_some_iff_getElem] at hj
    obtain ⟨h1, h2, _⟩ := hj
    exact ⟨xs[j], by simp, h2, by omega⟩
  · rename_i hj; rw [hj] at h; simp at h
theorem lease_some {u t : Int} {xs : List AddrV} (h : xs.any (freeB t) = true) : ∃ k a, leaseL xs u t = (k, 0) ∧ 0 ≤ k ∧ k < (xs.length : Int) ∧ xs[k.toNat]? = some a ∧ freeB t a = true ∧ (xs.any (ownB u t) = true → (a.last == u) = true) := by
  unfold leaseL
  rw [← findI_any] at h
  by_cases h1 : 0 ≤ findI (ownB u t) xs
  · obtain ⟨a, a1, a2, a3⟩ := findI_spec h1
    rw [if_pos h1]
    simp only [ownB, Bool.and_eq_true] at a2
    exact ⟨_, a, rfl, h1, a3, a1, a2.1, fun _ => a2.2⟩
  have n1 : ¬ xs.any (ownB u t) = true := by rw [← findI_any]; simpa using h1
  rw [if_neg h1]
  by_cases h2 : 0 ≤ findI (freshB t) xs
  · obtain ⟨a, a1, a2, a3⟩ := findI_spec h2
    rw [if_pos h2]
    simp only [freshB, Bool.and_eq_true] at a2
    exact ⟨_, a, rfl, h2, a3, a1, a2.1, fun q => (n1 q).elim⟩
  rw [if_neg h2]
  have h3 : 0 ≤ findI (freeB t) xs := by simpa using h
  obtain ⟨a, a1, a2, a3⟩ := findI_spec h3
  rw [if_pos h3]
  exact ⟨_, a, rfl, h3, a3, a1, a2, fun q => (n1 q).elim⟩
theorem lease_none {u t : Int} {xs : List AddrV} (h : xs.any (freeB t) = false) : leaseL xs u t = (0, 1601) := by
  have h3 : ¬ 0 ≤ findI (freeB t) xs := by rw [← findI_any] at h; simpa using h
  have sub : ∀ p : AddrV → Bool, (∀ a, p a = true → freeB t a = true) → ¬ 0 ≤ findI p xs := fun p hp h0 => by
    obtain ⟨a, a1, a2, _⟩ := findI_spec h0
    have := List.any_eq_false.1 h a (List.mem_of_getElem? a1)
    exact this (hp a a2)
  unfold leaseL
  rw [if_neg (sub _ fun a ha => by simp only [ownB, Bool.and_eq_true] at ha; exact ha.1), if_neg (sub _ fun a ha => by simp only [freshB, Bool.and_eq_true] at ha; exact ha.1), if_neg h3]
def cntF (t : Int) (xs : List AddrV) : Int := (xs.countP (freeB t) : Nat)
theorem cnt_next {t : Int} {xs : List AddrV} {j : Nat} {a : AddrV} (h : xs[j]? = some a) : cntF t (xs.take (j + 1)) = if freeB t a = true then cntF t (xs.take j) + 1 else cntF t (xs.take j) := by
  unfold cntF; rw [List.take_add_one, h, List.countP_append]
  simp only [Option.toList_some, List.countP_singleton]
  split <;> simp
theorem any_next {p : AddrV → Bool} {xs : List AddrV} {j : Nat} {a : AddrV} (h : xs[j]? = some a) : (xs.take (j + 1)).any p = ((xs.take j).any p || p a) := by
  rw [List.take_add_one, h, List.any_append]; simp
theorem cnt_any {t : Int} {xs : List AddrV} : (cntF t xs == 0) = !xs.any (freeB t) := by
  unfold cntF
  rw [Bool.eq_iff_iff]
  simp only [beq_iff_eq, Bool.not_eq_true', List.any_eq_false]
  constructor
  · intro h x hx; have h' : xs.countP (freeB t) = 0 := by omega
    rw [List.countP_eq_zero] at h'; exact h' x hx
  · intro h; have h' : xs.countP (freeB t) = 0 := by rw [List.countP_eq_zero]; exact h
    omega
theorem cnt_le {t : Int} {xs : List AddrV} : 0 ≤ cntF t xs ∧ cntF t xs ≤ xs.length := by
  unfold cntF
  have := List.countP_le_length (p := freeB t) (l := xs)
  omega
end Go.Proofs.Ytenbhladboofeaa
