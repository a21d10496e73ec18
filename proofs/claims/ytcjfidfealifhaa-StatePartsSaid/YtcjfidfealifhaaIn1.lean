/- slices.Insert of one user in the midst of a turn's users, over the small heap; of one at any place. -/
import Derived.Test.YtcjfidfealifhaaIn0
import Derived.Test.YtcjfidfealifhaaSa1
namespace Go.Proofs.Ytcjfidfealifhaa.Vm
open Go
set_option linter.unusedVariables false
set_option linter.unusedSimpArgs false
/-- A slice of an own row that is not empty. -/
theorem opn_arg {ρ : Ren} {V : Heap} {w : World} {i l sz : Nat} {c : List Value} {e : TypeId} {u : Value} (hs : Sim ρ V w) (hV : V i = some (.opn c e sz)) (hc : 0 < c.length) (hv : VRel ρ (.slice (some ⟨i, 0, none⟩) l 0) u) :
    ∃ (s : Slot) (K : Nat) (c1 c2 : List Value) (c' : Array Value) (fr : Nat × Nat), ρ i = some s ∧ s.cap = some (K, sz) ∧ s.base = 0 ∧ s.gone = false ∧ u = .slice (some ⟨s.blk, 0, none⟩) l K ∧ l ≤ K ∧ w.heap[s.blk]? = some (.cells c' e fr) ∧ LRel ρ c c1 ∧ c'.toList = c1 ++ c2 ∧ c'.size = K * sz ∧ 0 < sz ∧ ((c'.size ≤ fr.1 ∧ sz = 1) ∨ (fr.2 = 0 ∧ K ≤ 9223372036854775807)) := by
  have hvd : (VObj.opn c e sz).void = false := by
    cases c with
    | nil => cases hc
    | cons _ _ => rfl
  obtain ⟨s, o', h1, h2, h3, h4⟩ := hs.real hV hvd
  cases h4 with
  | @opn _ c1 c2 c' k _ _ hcap hb hl hcc hk hz fr hf =>
  cases hv with
  | slice hi hcp => rw [h1] at hi; cases hi; rw [hcap] at hcp; cases hcp
  | ghost hi hcp => rw [h1] at hi; cases hi; rw [gone_zero hcp] at h2; cases h2
  | hollow hi hcp => rw [h1] at hi; cases hi; rw [gone_zero hcp] at h2; cases h2
  | oslice hi hcp hz2 hee hn =>
    rename_i e0 k0 sz0 s0
    rw [h1] at hi; cases hi
    rw [hcap] at hcp; cases hcp
    obtain rfl : e0 = 0 := by rcases Nat.mul_eq_zero.1 hee with h | h <;> omega
    exact ⟨s, k, c1, c2, c', fr, h1, hcap, hb, h2, by rw [hb]; simp, by omega, h3, hl, hcc, hk, hz, hf⟩
theorem setCells_at {b : Nat} {e : TypeId} {fr : Nat × Nat} : ∀ (vs : List Value) (o : Nat) (w : World) (c' : Array Value), w.heap[b]? = some (.cells c' e fr) → o + vs.length ≤ c'.size →
    Wrote b w (w.setCells b o vs) ∧ (w.setCells b o vs).heap[b]? = some (.cells (splice c'.toList o vs).toArray e fr)
  | [], o, w, c', h, _ => ⟨.refl _ _, by rw [splice_nil]; exact h⟩
  | v :: vs, o, w, c', h, hl => by
    have hl' : o < c'.size := by simp only [List.length_cons] at hl; omega
    have hw1 : (w.setCell ⟨b, o, none⟩ v).heap[b]? = some (.cells (c'.setIfInBounds o v) e fr) := by
      show (w.heap.modify b _)[b]? = _
      rw [Array.getElem?_modify, if_pos rfl, h]; rfl
    have hwr : Wrote b w (w.setCell ⟨b, o, none⟩ v) := ⟨rfl, rfl, rfl, by simp [World.setCell], fun k hk => by
      show (w.heap.modify b _)[k]? = _
      rw [Array.getElem?_modify, if_neg (fun e => hk e.symm)]⟩
    obtain ⟨h2, h3⟩ := setCells_at vs (o + 1) _ _ hw1 (by simp only [List.length_cons] at hl; simp; omega)
    refine ⟨hwr.trans h2, ?_⟩
    show (((w.setCell ⟨b, o, none⟩ v)).setCells b (o + 1) vs).heap[b]? = _
    rw [h3, splice_cons _ _ _ _ (by simpa using hl')]
    simp
theorem thaw_end {w : World} {b K : Nat} {c' : Array Value} {e : TypeId} {fr : Nat × Nat} {sz : Nat} (h : w.heap[b]? = some (.cells c' e fr)) (hf : (c'.size ≤ fr.1 ∧ sz = 1) ∨ (fr.2 = 0 ∧ K ≤ 9223372036854775807)) (hs : sz ≠ 1) (k : Nat) : w.frozen? ⟨b, k, none⟩ = false := by
  unfold World.frozen?; rw [h]
  rcases hf with hf | hf
  · exact (hs hf.2).elim
  · simp only [Bool.and_eq_false_imp, decide_eq_true_eq, decide_eq_false_iff_not]; omega
end Go.Proofs.Ytcjfidfealifhaa.Vm
namespace Go.Proofs.Ytcjfidfealifhaa
open Go Vm IntWalk
set_option linter.unusedVariables false
set_option linter.unusedSimpArgs false
set_option maxHeartbeats 16000000
theorem put_cells {us : List UserV} {a : UserV} {k : Nat} : userR.cells (us.take k ++ a :: us.drop k) = (userR.cells us).take (k * 9) ++ (userR.cells [a] ++ (userR.cells us).drop (k * 9)) := by
  rw [show us.take k ++ a :: us.drop k = us.take k ++ ([a] ++ us.drop k) by simp, userR.append, userR.append, ← userR.take, ← userR.drop]; rfl
theorem insert_at {V : Heap} {n i j k : Nat} {us : List UserV} {a : UserV} (hV : V i = some (.opn (userR.cells us) 49 9)) (hj : V j = some (.opn (userR.cells [a]) 49 9)) (hij : ¬ j = i) (hk : k < us.length) (hb : us.length * 72 ≤ 140737488351232) :
    Tri Try.prog 48 [.slice (some ⟨i, 0, none⟩) us.length 0, .int .i64 k, .slice (some ⟨j, 0, none⟩) 1 0] n 1 V (fun u L => u = .slice (some ⟨n, 0, none⟩) (us.take k ++ a :: us.drop k).length 0 ∧ L = [(i, none), (n, some (.opn (userR.cells (us.take k ++ a :: us.drop k)) 49 9))]) := by
  intro ρ w args' hl hs ha
  obtain ⟨u1, u2, u3, rfl, r1, r2, r3⟩ := lrel_three ha
  cases r2
  have hplen : (us.take k ++ a :: us.drop k).length = us.length + 1 := by rw [List.length_append, List.length_cons, List.length_take, List.length_drop]; omega
  have hul : (userR.cells us).length = us.length * 9 := userR.length us
  have hal : (userR.cells [a]).length = 9 := userR.length [a]
  obtain ⟨s, K, c1, c2, c', fr, hi, hcap, hbase, hgo, rfl, hnK, hh, hlr, hcc, hck, _, hfr⟩ := opn_arg hs hV (by omega) r1
  obtain ⟨t, M, d1, d2, d', gr, hti, htcap, htbase, htgo, rfl, hmM, hth, htlr, htcc, htck, _, hgr⟩ := opn_arg hs hj (by omega) r3
  have hne : t.blk ≠ s.blk := hs.apart j i _ _ _ _ hij hj hV hti hi htgo hgo rfl
  have hn0 : ρ n = none := hl n (Nat.le_refl _) (by omega)
  have hc1 : c1.length = us.length * 9 := by rw [← hlr.1]; exact hul
  have hd1 : d1.length = 1 * 9 := by rw [← htlr.1]; exact hal
  have hcL : c'.toList.length = c'.size := Array.length_toList
  have hcl : c'.size = c1.length + c2.length := by have := congrArg List.length hcc; simpa using this
  have hdl : d'.size = d1.length + d2.length := by have := congrArg List.length htcc; simpa using this
  have h1c : ∀ v ∈ c1, v.oneCell' = true := lrel_one hlr (userR.one us)
  have h1v : ∀ v ∈ d1, v.oneCell' = true := lrel_one htlr (userR.one [a])
  have hcs : ∀ q v, c1[q]? = some v → w.cell? ⟨s.blk, 0 + q, none⟩ = some v := fun q v hq => by
    rw [cell_of w hh, ← Array.getElem?_toList, hcc, Nat.zero_add, List.getElem?_append_left (List.getElem?_eq_some_iff.1 hq).1]; exact hq
  have hvs : ∀ q v, d1[q]? = some v → w.cell? ⟨t.blk, 0 + q, none⟩ = some v := fun q v hq => by
    rw [cell_of w hth, ← Array.getElem?_toList, htcc, Nat.zero_add, List.getElem?_append_left (List.getElem?_eq_some_iff.1 hq).1]; exact hq
  have hwant : LRel ρ (userR.cells (us.take k ++ a :: us.drop k)) (c1.take (k * 9) ++ (d1 ++ c1.drop (k * 9))) := by
    rw [put_cells]; exact lrel_append (lrel_take hlr _) (lrel_append htlr (lrel_drop hlr _))
  have hdrop : (c1.drop (k * 9)).length = us.length * 9 - k * 9 := by rw [List.length_drop, hc1]
  have htake : (c1.take (k * 9)).length = k * 9 := by rw [List.length_take]; omega
  by_cases hroom : us.length + 1 ≤ K
  · have hc63 : K ≤ 9223372036854775807 := by rcases hfr with h | h <;> omega
    refine (Ins.insert_shift s.blk 0 us.length K k t.blk 0 1 M c1 d1 w hk (by omega) hroom hc63 hne hc1 hd1 hcs (fun q hq => ?_) (fun q hq => thaw_end hh hfr (by omega) _) hvs h1c h1v _ _ _ _ (by unfold World.shape?; rw [hth]) (by unfold World.shape?; rw [hh]) (by omega) (thaw_end hth hgr (by omega) _) (thaw_end hth hgr (by omega) _)).mono ?_
    · rw [cell_of w hh, Nat.zero_add, Array.getElem?_eq_getElem (by omega)]; rfl
    rintro e w' ⟨rfl, rfl⟩
    rw [Nat.zero_add, Nat.zero_add]
    obtain ⟨wr1, hp1⟩ := setCells_at (c1.drop (k * 9)) ((k + 1) * 9) w.drew c' hh (by omega)
    obtain ⟨wr2, hp2⟩ := setCells_at d1 (k * 9) _ _ hp1 (by rw [List.size_toArray, splice_length _ _ _ (by rw [hcL]; omega), hcL]; omega)
    have wr0 : Wrote s.blk w w.drew := ⟨rfl, rfl, rfl, rfl, fun _ _ => rfl⟩
    have hrow : splice (splice c'.toList ((k + 1) * 9) (c1.drop (k * 9))) (k * 9) d1 = (c1.take (k * 9) ++ (d1 ++ c1.drop (k * 9))) ++ c2.drop 9 := by
      have q1 : (c1 ++ c2).take (k * 9) = c1.take (k * 9) := List.take_append_of_le_length (by omega)
      have q2 : c'.toList.drop ((k + 1) * 9 + (c1.drop (k * 9)).length) = c2.drop 9 := by
        rw [hcc, show (k + 1) * 9 + (c1.drop (k * 9)).length = c1.length + 9 by omega, List.drop_append]
        simp
      have hA : (c'.toList.take ((k + 1) * 9)).length = (k + 1) * 9 := by rw [List.length_take, Array.length_toList]; omega
      rw [splice, splice, q2, List.append_assoc (c'.toList.take ((k + 1) * 9)), List.take_append_of_le_length (by omega), List.take_take, show min (k * 9) ((k + 1) * 9) = k * 9 by omega, hcc, q1,
        show k * 9 + d1.length = ((c1 ++ c2).take ((k + 1) * 9)).length by rw [← hcc, hA]; omega, List.drop_left]
      simp
    rw [hrow] at hp2
    have hor : ORel ρ s (.opn (userR.cells (us.take k ++ a :: us.drop k)) 49 9) (.cells ((c1.take (k * 9) ++ (d1 ++ c1.drop (k * 9))) ++ c2.drop 9).toArray 49 fr) :=
      .opn (c1 := c1.take (k * 9) ++ (d1 ++ c1.drop (k * 9))) (c2 := c2.drop 9) (k := K) 49 hcap hbase hwant (by simp) (by
        simp only [List.size_toArray, List.length_append, htake, hdrop, hd1, List.length_drop]; omega) (by omega) fr (.inr (by rcases hfr with h | h <;> omega))
    obtain ⟨s1, k1⟩ := sim_move hs hV rfl rfl hi hgo hn0 (wr0.trans (wr1.trans wr2)) hp2 hor
    refine ⟨_, _, _, extR ρ n s, ⟨rfl, rfl⟩, rfl, ?_, s1, k1, fun x hx => by simp only [extR]; rw [if_neg (by omega)]⟩
    have := VRel.oslice (ρ := extR ρ n s) (i := n) (off := 0) (n := us.length + 1) (e := 0) (k := K) (sz := 9) (s := s) (extR_self _ _ _) hcap (by omega) (by simp) (by omega)
    rw [hplen]; simpa [hbase] using this
  · refine (Ins.insert_grow s.blk 0 us.length K k t.blk 0 1 M c1 d1 w hk (by omega) hnK (by omega) (by omega) hc1 hd1 hcs hvs h1c h1v).mono ?_
    rintro e w' ⟨rfl, rfl⟩
    obtain ⟨G, hG⟩ : ∃ G, G = grownCap w (us.length + 1) K 49 := ⟨_, rfl⟩
    have hGn : us.length + 1 ≤ G := by rw [hG]; exact grownCap_ge w _ _ _
    have hG63 : G ≤ 9223372036854775807 := by rw [hG]; exact cap63 (by omega)
    rw [← hG]
    obtain ⟨Z1, hZ1⟩ : ∃ Z, Z = Builtin.zeroCells Ins.zU.cells (us.length + 1 - k) := ⟨_, rfl⟩
    obtain ⟨Z2, hZ2⟩ : ∃ Z, Z = Builtin.zeroCells Ins.zU.cells (G - (us.length + 1)) := ⟨_, rfl⟩
    have hZ1l : Z1.size = (us.length + 1 - k) * 9 := by rw [hZ1]; exact Ins.zsize _
    have hZ2l : Z2.size = (G - (us.length + 1)) * 9 := by rw [hZ2]; exact Ins.zsize _
    rw [← hZ1, ← hZ2]
    obtain ⟨ROW, hROW⟩ : ∃ ROW : Array Value, ROW = (c1.take (k * 9)).toArray ++ Z1 ++ Z2 := ⟨_, rfl⟩
    rw [← hROW]
    have hRs : ROW.size = G * 9 := by rw [hROW, Array.size_append, Array.size_append, List.size_toArray, htake, hZ1l, hZ2l]; omega
    have hRL : ROW.toList.length = ROW.size := Array.length_toList
    have h0 : (w.alloc (.cells ROW 49)).drew.heap[w.heap.size]? = some (.cells ROW 49 (0, 0)) := by
      show (w.heap.push _)[w.heap.size]? = _
      simp
    obtain ⟨wr1, hp1⟩ := setCells_at d1 (k * 9) (w.alloc (.cells ROW 49)).drew ROW h0 (by omega)
    obtain ⟨wr2, hp2⟩ := setCells_at (c1.drop (k * 9)) ((k + 1) * 9) (((w.alloc (.cells ROW 49)).drew.setCells w.heap.size (k * 9) d1).drew) _ hp1 (by rw [List.size_toArray, splice_length _ _ _ (by rw [hRL]; omega), hRL]; omega)
    have hrow : splice (splice ROW.toList (k * 9) d1) ((k + 1) * 9) (c1.drop (k * 9)) = (c1.take (k * 9) ++ (d1 ++ c1.drop (k * 9))) ++ Z2.toList := by
      have hR : ROW.toList = c1.take (k * 9) ++ (Z1.toList ++ Z2.toList) := by rw [hROW]; simp
      have hZ1t : Z1.toList.length = (us.length + 1 - k) * 9 := by rw [Array.length_toList, hZ1l]
      have a1 : ROW.toList.take (k * 9) = c1.take (k * 9) := by rw [hR, List.take_append_of_le_length (by omega), List.take_take, Nat.min_self]
      have hX : (c1.take (k * 9) ++ d1).length = (k + 1) * 9 := by rw [List.length_append]; omega
      have a2 : splice ROW.toList (k * 9) d1 = (c1.take (k * 9) ++ d1) ++ ROW.toList.drop ((k + 1) * 9) := by
        rw [splice, a1, show k * 9 + d1.length = (k + 1) * 9 by omega]
      have a3 : ((c1.take (k * 9) ++ d1) ++ ROW.toList.drop ((k + 1) * 9)).take ((k + 1) * 9) = c1.take (k * 9) ++ d1 := by rw [← hX, List.take_left]
      have a4 : ((c1.take (k * 9) ++ d1) ++ ROW.toList.drop ((k + 1) * 9)).drop ((k + 1) * 9 + (c1.drop (k * 9)).length) = Z2.toList := by
        rw [← List.drop_drop, ← hX, List.drop_left, List.drop_drop, hR, ← List.append_assoc, List.drop_append]
        have : (c1.take (k * 9) ++ Z1.toList).length = (c1.take (k * 9) ++ d1).length + (c1.drop (k * 9)).length := by rw [hX, List.length_append]; omega
        rw [← this]; simp
      rw [a2, splice, a3, a4]; simp
    rw [hrow] at hp2
    have hb0 : ∀ b, b < w.heap.size → ((((w.alloc (.cells ROW 49)).drew.setCells w.heap.size (k * 9) d1).drew).setCells w.heap.size ((k + 1) * 9) (c1.drop (k * 9))).heap[b]? = w.heap[b]? := fun b hb => by
      rw [wr2.block b (by omega)]
      show (((w.alloc (.cells ROW 49)).drew.setCells w.heap.size (k * 9) d1)).heap[b]? = _
      rw [wr1.block b (by omega)]
      show (w.heap.push _)[b]? = _
      rw [Array.getElem?_push, if_neg (by omega)]
    have hsz : w.heap.size ≤ ((((w.alloc (.cells ROW 49)).drew.setCells w.heap.size (k * 9) d1).drew).setCells w.heap.size ((k + 1) * 9) (c1.drop (k * 9))).heap.size := by
      rw [wr2.size]
      show _ ≤ ((w.alloc (.cells ROW 49)).drew.setCells w.heap.size (k * 9) d1).heap.size
      rw [wr1.size]
      show _ ≤ (w.heap.push _).size
      simp
    have hor : ORel (extR ρ n ⟨w.heap.size, some (G, 9), 0⟩) ⟨w.heap.size, some (G, 9), 0⟩ (.opn (userR.cells (us.take k ++ a :: us.drop k)) 49 9) (.cells ((c1.take (k * 9) ++ (d1 ++ c1.drop (k * 9))) ++ Z2.toList).toArray 49 (0, 0)) :=
      .opn (c1 := c1.take (k * 9) ++ (d1 ++ c1.drop (k * 9))) (c2 := Z2.toList) (k := G) 49 rfl rfl (hwant.mono (Ext.extR hn0 _)) (by simp) (by
        simp only [List.size_toArray, List.length_append, htake, hdrop, hd1, Array.length_toList, hZ2l]; omega) (by omega) (0, 0) (.inr ⟨rfl, hG63⟩)
    obtain ⟨s1, k1⟩ := sim_add hs hn0 (o := .opn (userR.cells (us.take k ++ a :: us.drop k)) 49 9) (s := ⟨w.heap.size, some (G, 9), 0⟩) (fun _ => Nat.le_refl _)
      ⟨wr2.os.trans wr1.os, wr2.tape.trans wr1.tape, wr2.output.trans wr1.output, hsz⟩ hb0 (.inr ⟨gone_pos rfl (by omega), _, hp2, hor⟩)
    have hin : i ≠ n := fun e => by rw [← e, hi] at hn0; cases hn0
    have hsub : ∀ x o, over V [(i, none), (n, some (.opn (userR.cells (us.take k ++ a :: us.drop k)) 49 9))] x = some o → upd V n (some (.opn (userR.cells (us.take k ++ a :: us.drop k)) 49 9)) x = some o := fun x o h => by
      rw [over_cons, over_cons, over_nil] at h
      simp only [upd] at h ⊢
      split at h
      · cases h
      · exact h
    refine ⟨_, _, _, _, ⟨rfl, rfl⟩, rfl, ?_, s1.sub hsub, k1.sub hsub, fun x hx => by simp only [extR]; rw [if_neg (by omega)]⟩
    have := VRel.oslice (ρ := extR ρ n ⟨w.heap.size, some (G, 9), 0⟩) (i := n) (off := 0) (n := us.length + 1) (e := 0) (k := G) (sz := 9) (s := ⟨w.heap.size, some (G, 9), 0⟩) (extR_self _ _ _) rfl (by omega) (by simp) (by omega)
    rw [hplen]; simpa using this
end Go.Proofs.Ytcjfidfealifhaa
