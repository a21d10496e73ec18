/- What a proof's body is; a key's term; a proof with room. -/
import Derived.Test.YtjkidjplbddmmaaCp0
namespace Go.Proofs.Ytjkidjplbddmmaa
open Go Vm IntWalk
set_option linter.unusedVariables false
set_option linter.unusedSimpArgs false
structure BodyV where
  user : Int
  gen : Int
  expires : Int
  session : Int
  key : Int
  deriving DecidableEq
def bodyL (a : BodyV) : List Value := [.int .i64 a.user, .int .i64 a.gen, .int .i64 a.expires, .int .i64 a.session, .int .i64 a.key]
def bodyR : Rw BodyV := ⟨bodyL, 5, fun _ => rfl, fun a v h => by unfold bodyL at h; simp only [List.mem_cons, List.not_mem_nil, or_false] at h; rcases h with rfl | rfl | rfl | rfl | rfl <;> rfl, by decide⟩
abbrev bodyV (a : BodyV) : Value := .agg (bodyL a).toArray
abbrev bodyRel {ρ : Ren} (a : BodyV) : VRel ρ (bodyV a) (bodyV a) := vrel_agg (bodyR.flat a).rel
theorem body_eq (a b : BodyV) : evEq tys 50 45 (.agg (bodyR.f a).toArray) (.agg (bodyR.f b).toArray) = some (decide (a = b)) := by
  refine Eq.trans (b := some (a.user == b.user && (a.gen == b.gen && (a.expires == b.expires && (a.session == b.session && (a.key == b.key && true)))))) rfl (congrArg some ?_)
  rw [Bool.eq_iff_iff]
  cases a; cases b; simp
theorem macT_inj2 {k k' : Int} {s t : ByteArray} (hk : okN k = true) (hk' : okN k' = true) (h : macT k s = macT k' t) : k = k' ∧ s = t := by
  have h0 := h
  unfold macT keyT at h
  have h2 := congrArg B h
  rw [B_app, B_app, B_app, B_app, numR_B hk, numR_B hk', List.append_assoc, List.append_assoc] at h2
  have h3 := List.append_cancel_left h2
  have r1 := rd_num hk (B s)
  rw [h3, rd_num hk'] at r1
  simp only [Option.some.injEq, Prod.mk.injEq] at r1
  obtain ⟨rfl, _⟩ := r1
  exact ⟨rfl, macT_inj h0⟩
theorem ktT_inj {s t : ByteArray} (h : ktT s = ktT t) : s = t := ba_append_cancel h
theorem nums3_B {a b c : Int} (ha : okN a = true) (hb : okN b = true) (hc : okN c = true) : B (numsB [a, b, c]) = numL a ++ (numL b ++ (numL c ++ [])) := by
  unfold numsB; simp only [List.foldl_cons, List.foldl_nil]
  rw [B_app, B_app, B_app, numR_B ha, numR_B hb, numR_B hc, B_nil]; simp
theorem nums3_inj {a b c a' b' c' : Int} (ha : okN a = true) (hb : okN b = true) (hc : okN c = true) (ha' : okN a' = true) (hb' : okN b' = true) (hc' : okN c' = true) (h : numsB [a, b, c] = numsB [a', b', c']) : a = a' ∧ b = b' ∧ c = c' := by
  have h2 := congrArg B h
  rw [nums3_B ha hb hc, nums3_B ha' hb' hc'] at h2
  have r1 := rd_num ha (numL b ++ (numL c ++ []))
  rw [h2, rd_num ha'] at r1
  simp only [Option.some.injEq, Prod.mk.injEq] at r1
  obtain ⟨r1, r2⟩ := r1
  have r3 := rd_num hb (numL c ++ [])
  rw [← r2, rd_num hb'] at r3
  simp only [Option.some.injEq, Prod.mk.injEq] at r3
  obtain ⟨r3, r4⟩ := r3
  have r5 := rd_num hc []
  rw [← r4, rd_num hc'] at r5
  simp only [Option.some.injEq, Prod.mk.injEq] at r5
  exact ⟨r1.symm, r3.symm, r5.1.symm⟩
theorem nums3_size (a b c : Int) : (numsB [a, b, c]).size ≤ 15 := numsB_size [a, b, c] 3 (by simp)
theorem proof_may {U G E i : Int} (hU : okN U = true) (hG : okN G = true) (hE : okN E = true) (hi : okN i = true) : proofOk ⟨0, U, G, 0, 0, 0, 0, 0, ⟨#[]⟩⟩ ⟨0, i, E, 0, 0, 0, 0, 0, ⟨#[]⟩⟩ = true := by
  unfold proofOk pktMay pktPlain rplMay rplPlain
  simp [pktNums, pktMake, pktText, rplNums, rplMake, rplText, hU, hG, hE, hi, show ((⟨#[]⟩ : ByteArray).size) = 0 from rfl]
theorem proof_places {l : List ByteArray} {k U G E i : Int} (hk : okN k = true) (hU : okN U = true) (hG : okN G = true) (hE : okN E = true) (hi : okN i = true) (hr : (l.length : Int) + 3 ≤ 999) (hn : l.Nodup) :
    ∃ (a x : Nat) (c : Int) (l' : List ByteArray), proofR 999 l k 6 ⟨0, U, G, 0, 0, 0, 0, 0, ⟨#[]⟩⟩ ⟨0, i, E, 0, 0, 0, 0, 0, ⟨#[]⟩⟩ 0 = (⟨1, 0, 0, i, (a : Int), c, 0, 0, ⟨#[]⟩⟩, (x : Int), 0, l') ∧
      ((a : Int) == (x : Int)) = false ∧ l'[x]? = some (macT k (ktT (numsB [U, G, E]))) ∧ l <+: l' ∧ l'.Nodup ∧ (l'.length : Int) ≤ l.length + 3 := by
  have z := nums3_size U G E
  have z1 := prT_size (numsB [U, G, E])
  have z2 := ktT_size (numsB [U, G, E])
  have z3 := codeT_size 1
  obtain ⟨a, l1, a1, a2, a3, a4, a5⟩ := macB_place (most := 999) (l := l) (k := k) (s := prT (numsB [U, G, E])) hk (by omega) (by omega) hn
  obtain ⟨x, l2, b1, b2, b3, b4, b5⟩ := macB_place (most := 999) (l := l1) (k := k) (s := ktT (numsB [U, G, E])) hk (by omega) (by omega) a4
  obtain ⟨c, l3, c1, c2, c3, c4, c5⟩ := macB_place (most := 999) (l := l2) (k := 6) (s := codeT 1) (by decide) (by omega) (by omega) b4
  refine ⟨a, x, c, l3, ?_, ?_, pre_get c3 b2, (a3.trans b3).trans c3, c4, by omega⟩
  · have hc : codeR 999 l2 6 (stepR 0) = ((c : Int), 0, l3) := by
      rw [show stepR 0 = 1 from rfl, codeR_ok (by decide) (by rw [c1]), c1]
    unfold proofR
    rw [if_pos (proof_may hU hG hE hi)]
    simp [a1, b1, hc]
  · rw [place_same b4 (pre_get b3 a2) b2, decide_eq_false_iff_not]
    intro q
    have := congrArg ByteArray.size (macT_inj q)
    omega
/-- A key that was made: its place is its term's. -/
def AgOk (l : List ByteArray) (y : Int) (w : BodyV) : Prop := okN w.user = true ∧ okN w.gen = true ∧ okN w.expires = true ∧ okN w.key = true ∧ w.session = 0 ∧ ∃ a : Nat, y = (a : Int) ∧ l[a]? = some (macT w.key (ktT (numsB [w.user, w.gen, w.expires])))
theorem agOk_pre {l l' : List ByteArray} {y : Int} {w : BodyV} (h : AgOk l y w) (hp : l <+: l') : AgOk l' y w := by
  obtain ⟨h1, h2, h3, h4, h5, a, h6, h7⟩ := h
  exact ⟨h1, h2, h3, h4, h5, a, h6, pre_get hp h7⟩
theorem agOk_same {l : List ByteArray} {y : Int} {w : BodyV} {U G E K : Int} {x : Nat} (h : AgOk l y w) (hn : l.Nodup) (hU : okN U = true) (hG : okN G = true) (hE : okN E = true) (hK : okN K = true) (hx : l[x]? = some (macT K (ktT (numsB [U, G, E])))) :
    (y == (x : Int)) = decide (w = ⟨U, G, E, 0, K⟩) := by
  obtain ⟨h1, h2, h3, h4, h5, a, h6, h7⟩ := h
  rw [h6, place_same hn h7 hx, decide_eq_decide]
  obtain ⟨u, g, e, s, k⟩ := w
  simp only at h1 h2 h3 h4 h5
  subst h5
  constructor
  · intro q
    obtain ⟨q1, q2⟩ := macT_inj2 h4 hK q
    obtain ⟨q3, q4, q5⟩ := nums3_inj h1 h2 h3 hU hG hE (ktT_inj q2)
    rw [q1, q3, q4, q5]
  · intro q
    simp only [BodyV.mk.injEq] at q
    obtain ⟨rfl, rfl, rfl, _, rfl⟩ := q; rfl
end Go.Proofs.Ytjkidjplbddmmaa
