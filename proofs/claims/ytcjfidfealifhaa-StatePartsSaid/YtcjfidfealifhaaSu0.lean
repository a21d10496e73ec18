/- Package state: users stand in the order of their numbers, so they are eight at most. -/
import Derived.Test.YtcjfidfealifhaaSa0
namespace Go.Proofs.Ytcjfidfealifhaa
open Go Vm IntWalk
set_option linter.unusedVariables false
set_option linter.unusedSimpArgs false
def SrtN (l : List Int) : Prop := l.Pairwise (· < ·) ∧ ∀ y ∈ l, 0 ≤ y ∧ y < 8
theorem srt_len : ∀ (l : List Int) (lo : Int), lo ≤ 8 → l.Pairwise (· < ·) → (∀ y ∈ l, lo ≤ y ∧ y < 8) → (l.length : Int) ≤ 8 - lo
  | [], lo, h, _, _ => by simp; omega
  | a :: r, lo, h, hp, hm => by
    have h1 := hm a List.mem_cons_self
    obtain ⟨h2, h3⟩ := List.pairwise_cons.1 hp
    have := srt_len r (a + 1) (by omega) h3 (fun y hy => ⟨by have := h2 y hy; omega, (hm y (List.mem_cons_of_mem _ hy)).2⟩)
    simp only [List.length_cons]; omega
theorem srt_eight {us : List UserV} (h : SrtN (us.map UserV.user)) : us.length ≤ 8 := by
  have := srt_len _ 0 (by decide) h.1 h.2
  rw [List.length_map] at this; omega
theorem put_cons {a u : UserV} {r : List UserV} : userPut (a :: r) u = if u.user < a.user then u :: a :: r else a :: userPut r u := by
  unfold userPut gtAt
  rw [List.findIdx_cons]
  by_cases h : u.user < a.user <;> simp [h]
theorem put_mem {u y : UserV} : ∀ (us : List UserV), y ∈ userPut us u → y = u ∨ y ∈ us
  | [], h => by simp [userPut, gtAt] at h; exact .inl h
  | a :: r, h => by
    rw [put_cons] at h
    split at h
    · rcases List.mem_cons.1 h with h | h
      · exact .inl h
      · exact .inr h
    · rcases List.mem_cons.1 h with h | h
      · exact .inr (by rw [h]; exact List.mem_cons_self)
      · rcases put_mem r h with h | h
        · exact .inl h
        · exact .inr (List.mem_cons_of_mem _ h)
theorem put_pair {u : UserV} : ∀ (us : List UserV), (us.map UserV.user).Pairwise (· < ·) → (∀ y ∈ us, y.user ≠ u.user) → ((userPut us u).map UserV.user).Pairwise (· < ·)
  | [], _, _ => by simp [userPut, gtAt]
  | a :: r, hp, hn => by
    rw [List.map_cons, List.pairwise_cons] at hp
    obtain ⟨h1, h2⟩ := hp
    have ha := hn a List.mem_cons_self
    rw [put_cons]
    split
    · rename_i hlt
      rw [List.map_cons, List.pairwise_cons, List.map_cons, List.pairwise_cons]
      refine ⟨fun b hb => ?_, h1, h2⟩
      rcases List.mem_cons.1 hb with rfl | hb
      · exact hlt
      · exact Int.lt_trans hlt (h1 b hb)
    · rename_i hge
      rw [List.map_cons, List.pairwise_cons]
      refine ⟨fun b hb => ?_, put_pair r h2 (fun y hy => hn y (List.mem_cons_of_mem _ hy))⟩
      obtain ⟨y, hy, rfl⟩ := List.mem_map.1 hb
      rcases put_mem r hy with rfl | hy
      · omega
      · exact h1 _ (List.mem_map.2 ⟨y, hy, rfl⟩)
theorem set_same {α : Type} {l : List α} {i : Nat} {x : α} (h : l[i]? = some x) : l.set i x = l := by
  apply List.ext_getElem?
  intro j
  rw [List.getElem?_set]
  split
  · rename_i hij; subst hij
    rw [h, if_pos (List.getElem?_eq_some_iff.1 h).1]
  · rfl
theorem map_set_same {us : List UserV} {j : Nat} {x y : UserV} (h : us[j]? = some x) (hu : y.user = x.user) : (us.set j y).map UserV.user = us.map UserV.user := by
  rw [List.map_set]
  exact set_same (by rw [List.getElem?_map, h, hu]; rfl)
theorem useU_map {us : List UserV} {u a : Int} : (useU us u a).map UserV.user = us.map UserV.user := by
  unfold useU; split
  · rfl
  · split
    · rfl
    · rename_i h; exact map_set_same h rfl
theorem ofU_user {c : ConfV} {e : EventV} {u w : UserV} (h : ofU c e u = some w) : w.user = u.user := by
  unfold ofU at h
  split at h
  · split at h
    · cases h; rfl
    · cases h
  split at h
  · split at h
    split at h
    · cases h; rfl
    · cases h
  split at h
  · split at h
    · cases h
    · cases h; rfl
  · cases h; rfl
theorem does_srt {c : ConfV} {s s' : StV} {e : EventV} (hm : evtMay e = true) (hs : SrtN (s.users.map UserV.user)) (h : doesE c s e = some s') : SrtN (s'.users.map UserV.user) := by
  unfold doesE at h
  split at h
  · unfold bootE at h; split at h
    · cases h
    · split at h
      · cases h; exact hs
      · cases h
  split at h
  · rename_i hk
    unfold userE at h; split at h
    · cases h
    · rename_i hn
      cases h
      have hu : 0 ≤ e.user ∧ e.user < 8 := by
        constructor
        · have := evt_may_nums hm e.user (by unfold evtNums; simp [hk])
          exact (okN_iff.1 this).1
        · unfold evtMay at hm; simp only [Bool.and_eq_true, decide_eq_true_eq] at hm
          omega
      have hne : ∀ y ∈ s.users, y.user ≠ e.user := fun y hy => by
        unfold userAt at hn
        rw [List.findIdx?_eq_none_iff] at hn
        have := hn y hy; simpa using this
      refine ⟨put_pair _ hs.1 hne, fun y hy => ?_⟩
      obtain ⟨z, hz, rfl⟩ := List.mem_map.1 hy
      rcases put_mem _ hz with rfl | hz
      · exact hu
      · exact hs.2 _ (List.mem_map.2 ⟨z, hz, rfl⟩)
  split at h
  · unfold leaseE at h; split at h
    · cases h; exact hs
    · cases h
  split at h
  · unfold closeE at h; split at h
    · cases h
    · split at h
      · cases h
      · split at h
        · cases h
          show SrtN ((useU _ _ _).map UserV.user)
          rw [useU_map]; exact hs
        · cases h
  split at h
  · split at h
    · cases h; exact hs
    · cases h
  split at h
  · unfold spendE at h; split at h
    · cases h
    · cases h; exact hs
  · cases hk1 : userAt s.users e.user with
    | none => rw [ofE_none hk1] at h; cases h
    | some j =>
      have hjl := (user_found hk1).1
      have hj : s.users[j]? = some s.users[j] := List.getElem?_eq_getElem hjl
      rw [ofE_eq hk1 hj] at h
      obtain ⟨w, hw, rfl⟩ := Option.map_eq_some_iff.1 h
      show SrtN ((s.users.set j w).map UserV.user)
      rw [map_set_same hj (ofU_user hw)]; exact hs
end Go.Proofs.Ytcjfidfealifhaa
