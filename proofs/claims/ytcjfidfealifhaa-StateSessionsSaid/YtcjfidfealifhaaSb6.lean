/- Law 20: sessions that come with numbers rising, and go: what the events make of the states. -/
import Derived.Test.YtcjfidfealifhaaSb5
namespace Go.Proofs.Ytcjfidfealifhaa
open Go Vm IntWalk
set_option linter.unusedVariables false
set_option linter.unusedSimpArgs false
set_option maxHeartbeats 32000000
def plain3 : ConfV := { plainC with sessions := 3 }
def ssU (a b : Int) : List UserV := [⟨0, 5, 6, 50, a, 0, 0, 0, 0⟩, ⟨1, 7, 8, 60, b, 0, 0, 0, 0⟩]
def ssS (nx a b : Int) (live : List SessV) (ad : List AddrV) : StV := ⟨1, 0, nx, ssU a b, live, ad, []⟩
/-- Is an address a session's? -/
def heldB (live : List SessV) (k : Int) : Bool := live.any fun x => x.address == k
structure SsI (i nx a b : Int) (live : List SessV) (ad : List AddrV) : Prop where
  len : live.length ≤ 3
  nx0 : 0 ≤ nx
  nx1 : nx ≤ i
  a0 : 0 ≤ a
  a1 : a ≤ 255 * i
  b0 : 0 ≤ b
  b1 : b ≤ 255 * i
  num : ∀ x ∈ live, 0 ≤ x.session ∧ x.session < nx
  usr : ∀ x ∈ live, x.user = 0 ∨ x.user = 1
  adr : ∀ x ∈ live, 0 ≤ x.address ∧ x.address < 3
  pws : live.Pairwise fun x y => x.session ≠ y.session ∧ x.address ≠ y.address
  alen : ad.length = 3
  abad : ∀ p ∈ ad, badA p = false
  abus : ∀ (k : Nat) (p : AddrV), ad[k]? = some p → p.busy = heldB live k
theorem mayP_of {ad : List AddrV} (h : ad.length = 3) (hb : ∀ p ∈ ad, badA p = false) : mayP ad = true := by
  unfold mayP; rw [h, show ad.any badA = false from List.any_eq_false.2 fun p hp => by rw [hb p hp]; decide]; rfl
theorem atA_of {ad : List AddrV} {k : Int} {p : AddrV} (h : ad[k.toNat]? = some p) : atA ad k = p := by unfold atA; rw [List.getD_eq_getElem?_getD, h]; rfl
theorem thereB_of {ad : List AddrV} {k : Int} (h : ad.length = 3) (h0 : 0 ≤ k) (h1 : k < 3) : thereB ad k = true := by
  unfold thereB; rw [h, decide_eq_true h0, decide_eq_true (show k < ((3 : Nat) : Int) from h1)]; rfl
theorem user_at {a b u : Int} (h : u = 0 ∨ u = 1) : ∃ j, userAt (ssU a b) u = some j := by
  rcases h with rfl | rfl
  · exact ⟨0, rfl⟩
  · exact ⟨1, rfl⟩
theorem use_at {a b u k : Int} (h : u = 0 ∨ u = 1) (h0 : 0 ≤ k) (h1 : k ≤ 255) (ha : 0 ≤ a ∧ a ≤ 100000) (hb : 0 ≤ b ∧ b ≤ 100000) : useU (ssU a b) u k = ssU (if u = 0 then a + k else a) (if u = 0 then b else b + k) := by
  have hw : IntKind.i64.wrap (1073741823 - k) = 1073741823 - k := i64_in _ (by omega)
  rcases h with rfl | rfl
  · have e : useU (ssU a b) 0 k = [⟨0, 5, 6, 50, sumU a k, 0, 0, 0, 0⟩, ⟨1, 7, 8, 60, b, 0, 0, 0, 0⟩] := rfl
    rw [e]; unfold sumU; rw [hw, if_neg (by omega), i64_in _ (by omega)]; rfl
  · have e : useU (ssU a b) 1 k = [⟨0, 5, 6, 50, a, 0, 0, 0, 0⟩, ⟨1, 7, 8, 60, sumU b k, 0, 0, 0, 0⟩] := rfl
    rw [e]; unfold sumU; rw [hw, if_neg (by omega), i64_in _ (by omega)]; rfl
theorem may5 {u n a t : Int} (hu : u = 0 ∨ u = 1) (n0 : 0 ≤ n) (n1 : n ≤ 1000) (a0 : 0 ≤ a) (a1 : a < 3) (t0 : 0 ≤ t) (t1 : t ≤ 1000) : evtMay ⟨5, u, n, a, 0, 0, 0, t⟩ = true := by
  have e1 : evtNums ⟨5, u, n, a, 0, 0, 0, t⟩ = [n, u, a, t] := rfl
  have e2 : evtPlain ⟨5, u, n, a, 0, 0, 0, t⟩ = ⟨5, u, n, a, 0, 0, 0, t⟩ := rfl
  have k1 : okN n = true := by rw [okN_iff]; omega
  have k2 : okN u = true := by rw [okN_iff]; omega
  have k3 : okN a = true := by rw [okN_iff]; omega
  have k4 : okN t = true := by rw [okN_iff]; omega
  have k5 : decide (u < 8) = true := decide_eq_true (by omega)
  have k6 : decide (a < 16) = true := decide_eq_true (by omega)
  have k7 : decide (t ≤ 1048575) = true := decide_eq_true (by omega)
  unfold evtMay; rw [e1, e2]; simp [k1, k2, k3, k4, k5, k6, k7]
theorem may6 {n k t : Int} (n0 : 0 ≤ n) (n1 : n ≤ 1000) (a0 : 0 ≤ k) (a1 : k ≤ 255) (t0 : 0 ≤ t) (t1 : t ≤ 1000) : evtMay ⟨6, 0, n, 0, k, 0, 0, t⟩ = true := by
  have e1 : evtNums ⟨6, 0, n, 0, k, 0, 0, t⟩ = [n, k, 0, t] := rfl
  have e2 : evtPlain ⟨6, 0, n, 0, k, 0, 0, t⟩ = ⟨6, 0, n, 0, k, 0, 0, t⟩ := rfl
  have k1 : okN n = true := by rw [okN_iff]; omega
  have k3 : okN k = true := by rw [okN_iff]; omega
  have k4 : okN t = true := by rw [okN_iff]; omega
  have k5 : okN 0 = true := by decide
  have k7 : decide (t ≤ 1048575) = true := decide_eq_true (by omega)
  unfold evtMay; rw [e1, e2]; simp [k1, k3, k4, k5, k7]
theorem held_app {live : List SessV} {x : SessV} {k : Int} : heldB (live ++ [x]) k = (heldB live k || (x.address == k)) := by unfold heldB; rw [List.any_append]; simp
/-- A session comes. -/
theorem lease_ap {i nx a b c u : Int} {live : List SessV} {ad : List AddrV} (h : SsI i nx a b live ad) (hi : 0 ≤ i) (hi2 : i ≤ 100) (hl : live.length ≤ 2) (hu : u = 0 ∨ u = 1) (c0 : 0 ≤ c) (c1 : c < 3) (hc : heldB live c = false) :
    ∃ ad', applyS plain3 (ssS nx a b live ad) ⟨5, u, nx, c, 0, 0, 0, i⟩ = (ssS (nx + 1) a b (live ++ [⟨nx, u, c, i⟩]) ad', 0) ∧ SsI (i + 1) (nx + 1) a b (live ++ [⟨nx, u, c, i⟩]) ad' := by
  obtain ⟨p, hp⟩ := get_some (xs := ad) c0 (by rw [h.alen]; exact c1)
  have hpb : p.busy = false := by rw [h.abus _ _ hp, Int.toNat_of_nonneg c0]; exact hc
  have huo : userOk u = true := by unfold userOk; rw [decide_eq_true (show (0 : Int) ≤ u by omega), decide_eq_true (show u < 8 by omega)]; rfl
  have hT : takeC ad c u = true := by
    unfold takeC; rw [mayP_of h.alen h.abad, huo, thereB_of h.alen c0 c1, atA_of hp, hpb]; rfl
  have hC : applyC plain3 (ssS nx a b live ad) ⟨5, u, nx, c, 0, 0, 0, i⟩ = true := by
    unfold applyC
    rw [may5 hu h.nx0 (by have := h.nx1; omega) c0 c1 hi (by omega), show (ssS nx a b live ad).addrs.length = 3 from h.alen]; rfl
  obtain ⟨j, hj⟩ := user_at (a := a) (b := b) hu
  have hE : doesE plain3 (ssS nx a b live ad) ⟨5, u, nx, c, 0, 0, 0, i⟩ = some (ssS (nx + 1) a b (live ++ [⟨nx, u, c, i⟩]) (ad.set c.toNat ⟨true, u, 0⟩)) := by
    show (if takeC ad c u = true ∧ nx = nx ∧ (userAt (ssU a b) u).isSome = true ∧ (live.length : Int) < 3 then some (⟨1, 0, IntKind.i64.wrap (nx + 1), ssU a b, live ++ [⟨nx, u, c, i⟩], (takeA ad c u).1, []⟩ : StV) else none) = _
    rw [if_pos ⟨hT, rfl, by rw [hj]; rfl, by omega⟩, takeA_ok hT, i64_in _ (by have := h.nx1; have := h.nx0; omega)]; rfl
  have hcn : c.toNat < ad.length := by rw [h.alen]; omega
  have hcc : ((c.toNat : Nat) : Int) = c := Int.toNat_of_nonneg c0
  refine ⟨_, applyS_ok hC hE, by rw [List.length_append]; show live.length + 1 ≤ 3; omega, by have := h.nx0; omega, by have := h.nx1; omega, h.a0, by have := h.a1; omega, h.b0, by have := h.b1; omega, ?_, ?_, ?_, ?_, by rw [List.length_set]; exact h.alen, ?_, ?_⟩
  · intro x hx
    rcases List.mem_append.1 hx with hx | hx
    · have := h.num x hx; omega
    · rw [List.mem_singleton] at hx; subst hx; have := h.nx0; show 0 ≤ nx ∧ nx < nx + 1; omega
  · intro x hx
    rcases List.mem_append.1 hx with hx | hx
    · exact h.usr x hx
    · rw [List.mem_singleton] at hx; subst hx; exact hu
  · intro x hx
    rcases List.mem_append.1 hx with hx | hx
    · exact h.adr x hx
    · rw [List.mem_singleton] at hx; subst hx; exact ⟨c0, c1⟩
  · rw [List.pairwise_append]
    refine ⟨h.pws, List.pairwise_singleton _ _, ?_⟩
    intro x hx y hy
    rw [List.mem_singleton] at hy; subst hy
    refine ⟨by have := h.num x hx; show x.session ≠ nx; omega, ?_⟩
    have := List.any_eq_false.1 hc x hx
    simpa using this
  · intro q hq
    rcases List.mem_or_eq_of_mem_set hq with hq | hq
    · exact h.abad q hq
    · subst hq; unfold badA; rw [huo]; simp
  · intro k q hq
    rw [held_app, List.getElem?_set] at *
    by_cases hk : c.toNat = k
    · subst hk
      rw [if_pos rfl, if_pos hcn] at hq; cases hq
      rw [hcc]; simp
    · rw [if_neg hk] at hq
      rw [h.abus k q hq, show ((⟨nx, u, c, i⟩ : SessV).address == (k : Int)) = false from by simp; omega, Bool.or_false]
theorem sess_idx {live : List SessV} {j : Nat} {x : SessV} (hx : live[j]? = some x) (hp : live.Pairwise fun x y => x.session ≠ y.session ∧ x.address ≠ y.address) : sessAt live x.session = some j := by
  obtain ⟨hj, rfl⟩ := List.getElem?_eq_some_iff.1 hx
  unfold sessAt
  rw [List.findIdx?_eq_some_iff_getElem]
  refine ⟨hj, by simp, fun k hk => ?_⟩
  have := (List.pairwise_iff_getElem.1 hp k j (by omega) hj hk).1
  simpa using this
theorem held_erase {live : List SessV} {j : Nat} {x : SessV} (hx : live[j]? = some x) (hp : live.Pairwise fun x y => x.session ≠ y.session ∧ x.address ≠ y.address) (k : Int) : heldB (live.eraseIdx j) k = (heldB live k && !(x.address == k)) := by
  obtain ⟨hj, rfl⟩ := List.getElem?_eq_some_iff.1 hx
  have hs : live = live.take j ++ live[j] :: live.drop (j + 1) := by rw [← List.drop_eq_getElem_cons hj, List.take_append_drop]
  have hne : ∀ y ∈ live.eraseIdx j, y.address ≠ live[j].address := by
    intro y hy
    rw [List.eraseIdx_eq_take_drop_succ] at hy
    rw [hs, List.pairwise_append] at hp
    obtain ⟨_, hp2, hp3⟩ := hp
    rcases List.mem_append.1 hy with hy | hy
    · exact (hp3 y hy _ (List.mem_cons_self ..)).2
    · exact ((List.pairwise_cons.1 hp2).1 y hy).2.symm
  have hh : heldB live k = (heldB (live.eraseIdx j) k || (live[j].address == k)) := by
    unfold heldB
    rw [List.eraseIdx_eq_take_drop_succ, List.any_append]
    conv => lhs; rw [hs]
    rw [List.any_append, List.any_cons, Bool.or_assoc, Bool.or_comm (live[j].address == k)]
  rw [hh]
  cases hq : live[j].address == k with
  | false => simp
  | true =>
    have : heldB (live.eraseIdx j) k = false := by
      unfold heldB
      rw [List.any_eq_false]
      intro y hy
      have h1 := hne y hy
      have h2 : live[j].address = k := by simpa using hq
      simp; omega
    rw [this]; rfl
/-- A session goes. -/
theorem close_ap {i nx a b k : Int} {live : List SessV} {ad : List AddrV} {j : Nat} {x : SessV} (h : SsI i nx a b live ad) (hi : 0 ≤ i) (hi2 : i ≤ 100) (hx : live[j]? = some x) (k0 : 0 ≤ k) (k1 : k ≤ 255) :
    ∃ ad', applyS plain3 (ssS nx a b live ad) ⟨6, 0, x.session, 0, k, 0, 0, i⟩ = (ssS nx (if x.user = 0 then a + k else a) (if x.user = 0 then b else b + k) (live.eraseIdx j) ad', 0) ∧ SsI (i + 1) nx (if x.user = 0 then a + k else a) (if x.user = 0 then b else b + k) (live.eraseIdx j) ad' := by
  have hm := List.mem_of_getElem? hx
  obtain ⟨a0, a1⟩ := h.adr x hm
  obtain ⟨n0, n1⟩ := h.num x hm
  have g1 := h.nx1; have g2 := h.a0; have g3 := h.a1; have g4 := h.b0; have g5 := h.b1
  have hu := h.usr x hm
  obtain ⟨p, hp⟩ := get_some (xs := ad) a0 (by rw [h.alen]; exact a1)
  have hpb : p.busy = true := by
    rw [h.abus _ _ hp, Int.toNat_of_nonneg a0]
    exact List.any_eq_true.2 ⟨x, hm, by simp⟩
  have hF : freeC ad x.address i = true := by
    unfold freeC; rw [mayP_of h.alen h.abad, thereB_of h.alen a0 a1, atA_of hp, hpb, decide_eq_false (show ¬ i < 0 by omega)]; rfl
  have hC : applyC plain3 (ssS nx a b live ad) ⟨6, 0, x.session, 0, k, 0, 0, i⟩ = true := by
    unfold applyC
    rw [may6 n0 (by omega) k0 k1 hi (by omega), show (ssS nx a b live ad).addrs.length = 3 from h.alen]; rfl
  have hE : doesE plain3 (ssS nx a b live ad) ⟨6, 0, x.session, 0, k, 0, 0, i⟩ = some (ssS nx (if x.user = 0 then a + k else a) (if x.user = 0 then b else b + k) (live.eraseIdx j) (ad.set x.address.toNat ⟨false, p.last, i⟩)) := by
    show closeE (ssS nx a b live ad) ⟨6, 0, x.session, 0, k, 0, 0, i⟩ = _
    unfold closeE
    rw [show sessAt (ssS nx a b live ad).sess (⟨6, 0, x.session, 0, k, 0, 0, i⟩ : EventV).session = some j from sess_idx hx h.pws]
    simp only [show (ssS nx a b live ad).sess[j]? = some x from hx]
    rw [if_pos (show freeC (ssS nx a b live ad).addrs x.address (⟨6, 0, x.session, 0, k, 0, 0, i⟩ : EventV).tick = true from hF), show useU (ssS nx a b live ad).users x.user (⟨6, 0, x.session, 0, k, 0, 0, i⟩ : EventV).a = _ from use_at hu k0 k1 ⟨g2, by omega⟩ ⟨g4, by omega⟩,
      show (freeA (ssS nx a b live ad).addrs x.address (⟨6, 0, x.session, 0, k, 0, 0, i⟩ : EventV).tick).1 = ad.set x.address.toNat ⟨false, p.last, i⟩ from by have e9 := freeA_ok hF; rw [atA_of hp] at e9; exact congrArg Prod.fst e9]
    rfl
  have hsub : ∀ y ∈ live.eraseIdx j, y ∈ live := fun y hy => (List.eraseIdx_sublist live j).subset hy
  have hcn : x.address.toNat < ad.length := by rw [h.alen]; omega
  have hcc : ((x.address.toNat : Nat) : Int) = x.address := Int.toNat_of_nonneg a0
  refine ⟨_, applyS_ok hC hE, ?_, h.nx0, by omega, by split <;> omega, by split <;> omega, by split <;> omega, by split <;> omega, fun y hy => h.num y (hsub y hy), fun y hy => h.usr y (hsub y hy), fun y hy => h.adr y (hsub y hy), h.pws.sublist (List.eraseIdx_sublist live j), by rw [List.length_set]; exact h.alen, ?_, ?_⟩
  · have := (List.eraseIdx_sublist live j).length_le; have := h.len; omega
  · intro q hq
    rcases List.mem_or_eq_of_mem_set hq with hq | hq
    · exact h.abad q hq
    · subst hq
      have hb := h.abad p (List.mem_of_getElem? hp)
      rw [badA_of] at hb ⊢
      simp at hb ⊢; omega
  · intro m q hq
    rw [held_erase hx h.pws, List.getElem?_set] at *
    by_cases hk : x.address.toNat = m
    · subst hk
      rw [if_pos rfl, if_pos hcn] at hq; cases hq
      rw [hcc]; simp
    · rw [if_neg hk] at hq
      rw [h.abus m q hq, show (x.address == (m : Int)) = false from by simp; omega]; simp
/-- The address that is chosen: the last that is no session's. -/
def pickA (live : List SessV) : Nat → Int
  | 0 => 0
  | k + 1 => if heldB live k = true then pickA live k else k
theorem pick_range (live : List SessV) : ∀ k : Nat, 0 ≤ pickA live k ∧ pickA live k ≤ k
  | 0 => ⟨Int.le_refl _, Int.le_refl _⟩
  | k + 1 => by
    unfold pickA
    have := pick_range live k
    split <;> omega
theorem pick_free {live : List SessV} : ∀ k : Nat, (∃ c, c < k ∧ heldB live (c : Int) = false) → heldB live (pickA live k) = false
  | 0, ⟨c, hc, _⟩ => absurd hc (Nat.not_lt_zero _)
  | k + 1, ⟨c, hc, hh⟩ => by
    unfold pickA
    split
    · rename_i hk
      have : c ≠ k := by rintro rfl; rw [hh] at hk; cases hk
      exact pick_free k ⟨c, by omega, hh⟩
    · rename_i hk; simpa using hk
theorem some_free {live : List SessV} (h : live.length ≤ 2) : ∃ c : Nat, c < 3 ∧ heldB live (c : Int) = false := by
  match live, h with
  | [], _ => exact ⟨0, by omega, rfl⟩
  | [x], _ =>
    by_cases h0 : x.address = 0
    · refine ⟨1, by omega, ?_⟩; unfold heldB; simp; omega
    · refine ⟨0, by omega, ?_⟩; unfold heldB; simp; omega
  | [x, y], _ =>
    have : (x.address ≠ 0 ∧ y.address ≠ 0) ∨ (x.address ≠ 1 ∧ y.address ≠ 1) ∨ (x.address ≠ 2 ∧ y.address ≠ 2) := by omega
    rcases this with ⟨p, q⟩ | ⟨p, q⟩ | ⟨p, q⟩
    · refine ⟨0, by omega, ?_⟩; unfold heldB; simp; omega
    · refine ⟨1, by omega, ?_⟩; unfold heldB; simp; omega
    · refine ⟨2, by omega, ?_⟩; unfold heldB; simp; omega
end Go.Proofs.Ytcjfidfealifhaa
