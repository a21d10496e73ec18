/- Package event: what is written, and its codec. -/
import Derived.Test.YtcjfidfealifhaaFd0
namespace Go.Proofs.Ytcjfidfealifhaa
open Go Vm IntWalk
set_option linter.unusedVariables false
set_option linter.unusedSimpArgs false
structure EventV where
  kind : Int
  user : Int
  session : Int
  address : Int
  a : Int
  b : Int
  c : Int
  tick : Int
  deriving DecidableEq
def evtL (a : EventV) : List Value := [.int .i64 a.kind, .int .i64 a.user, .int .i64 a.session, .int .i64 a.address, .int .i64 a.a, .int .i64 a.b, .int .i64 a.c, .int .i64 a.tick]
def evtR : Rw EventV := ⟨evtL, 8, fun _ => rfl, fun a v h => by unfold evtL at h; simp only [List.mem_cons, List.not_mem_nil, or_false] at h; rcases h with rfl | rfl | rfl | rfl | rfl | rfl | rfl | rfl <;> rfl, by decide⟩
abbrev evtV (a : EventV) : Value := .agg (evtL a).toArray
abbrev evtRel {ρ : Ren} (a : EventV) : VRel ρ (evtV a) (evtV a) := vrel_agg (evtR.flat a).rel
theorem evt_eq (a b : EventV) : evEq tys 50 40 (.agg (evtR.f a).toArray) (.agg (evtR.f b).toArray) = some (decide (a = b)) := by
  refine Eq.trans (b := some (a.kind == b.kind && (a.user == b.user && (a.session == b.session && (a.address == b.address && (a.a == b.a && (a.b == b.b && (a.c == b.c && (a.tick == b.tick && true))))))))) rfl (congrArg some ?_)
  rw [Bool.eq_iff_iff]
  cases a; cases b; simp
def evtNums (a : EventV) : List Int := let k := a.kind; if k = 0 then [a.tick] else if k = 1 then [a.user, a.a, a.b, a.c] else if k = 2 then [a.user, a.tick] else if k = 3 then [a.user, a.a] else if k = 4 ∨ k = 7 then [a.user] else if k = 5 then [a.session, a.user, a.address, a.tick] else if k = 6 then [a.session, a.a, a.b, a.tick] else if k = 9 then [a.session] else []
def evtCnt (k : Int) : Nat := if k = 0 then 1 else if k = 1 then 4 else if k = 2 then 2 else if k = 3 then 2 else if k = 4 ∨ k = 7 then 1 else if k = 5 then 4 else if k = 6 then 4 else if k = 9 then 1 else 0
def evtMake (k : Int) (xs : List Int) (_t : ByteArray) : EventV := if k = 0 then ⟨k, 0, 0, 0, 0, 0, 0, xs.getD 0 0⟩ else if k = 1 then ⟨k, xs.getD 0 0, 0, 0, xs.getD 1 0, xs.getD 2 0, xs.getD 3 0, 0⟩ else if k = 2 then ⟨k, xs.getD 0 0, 0, 0, 0, 0, 0, xs.getD 1 0⟩ else if k = 3 then ⟨k, xs.getD 0 0, 0, 0, xs.getD 1 0, 0, 0, 0⟩ else if k = 4 ∨ k = 7 then ⟨k, xs.getD 0 0, 0, 0, 0, 0, 0, 0⟩ else if k = 5 then ⟨k, xs.getD 1 0, xs.getD 0 0, xs.getD 2 0, 0, 0, 0, xs.getD 3 0⟩ else if k = 6 then ⟨k, 0, xs.getD 0 0, 0, xs.getD 1 0, xs.getD 2 0, 0, xs.getD 3 0⟩ else if k = 9 then ⟨k, 0, xs.getD 0 0, 0, 0, 0, 0, 0⟩ else ⟨k, 0, 0, 0, 0, 0, 0, 0⟩
def evtText (k : Int) : Bool := false
def evtPlain (a : EventV) : EventV := evtMake a.kind (evtNums a) ⟨#[]⟩
def evtMay (a : EventV) : Bool := (decide (0 ≤ a.kind) && decide (a.kind ≤ 9)) && (!(decide (a.kind = 6)) || decide (a.b ≤ 4)) && (decide (a.user < 8)) && (decide (a.address < 16)) && (decide (a.tick ≤ 1048575)) && (decide (a.c ≤ 1048576)) && (evtNums a).all okN && decide (a = evtPlain a)
theorem evt_kinds {k : Int} (h0 : 0 ≤ k) (h1 : k ≤ 9) : k = 0 ∨ k = 1 ∨ k = 2 ∨ k = 3 ∨ k = 4 ∨ k = 5 ∨ k = 6 ∨ k = 7 ∨ k = 8 ∨ k = 9 := by omega
theorem evt_may_kind {a : EventV} (h : evtMay a = true) : 0 ≤ a.kind ∧ a.kind ≤ 9 := by
  unfold evtMay at h
  simp only [Bool.and_eq_true, decide_eq_true_eq] at h
  exact h.1.1.1.1.1.1.1
theorem evt_may_nums {a : EventV} (h : evtMay a = true) : ∀ x ∈ evtNums a, okN x = true := by
  unfold evtMay at h; simp only [Bool.and_eq_true] at h; exact List.all_eq_true.1 h.1.2
theorem evt_may_plain {a : EventV} (h : evtMay a = true) : evtPlain a = a := by
  unfold evtMay at h; simp only [Bool.and_eq_true, decide_eq_true_eq] at h; exact h.2.symm
def evtC : Codec EventV where
  kind := EventV.kind
  nums := evtNums
  text := fun _ => []
  make := fun k xs t => evtMake k xs (mkB t)
  cnt := evtCnt
  hasT := evtText
  may := evtMay
  okK := fun a h => by have := evt_may_kind h; rw [okN_iff]; omega
  okX := fun a h => evt_may_nums h
  okC := fun a => by unfold evtNums evtCnt; dsimp only; (repeat' split) <;> rfl
  okT := fun a h => by decide
  noT := fun a h ht => rfl
  back := fun a h => evt_may_plain h
  mkK := fun k xs t hx ht => by
    have ht : t = [] := by rcases ht with h | h; exact (by cases h); exact h
    subst ht
    unfold evtCnt at hx; unfold evtMake evtNums; dsimp only
    by_cases c0 : k = 0
    · rw [if_pos c0] at hx
      obtain ⟨y0, rfl⟩ := len1 hx
      simp only [if_pos c0]
      refine ⟨?_, ?_, ?_⟩ <;> first | rfl | trivial | exact B_mk _
    by_cases c1 : k = 1
    · rw [if_neg c0, if_pos c1] at hx
      obtain ⟨y0, y1, y2, y3, rfl⟩ := len4 hx
      simp only [if_neg c0, if_pos c1]
      refine ⟨?_, ?_, ?_⟩ <;> first | rfl | trivial | exact B_mk _
    by_cases c2 : k = 2
    · rw [if_neg c0, if_neg c1, if_pos c2] at hx
      obtain ⟨y0, y1, rfl⟩ := len2 hx
      simp only [if_neg c0, if_neg c1, if_pos c2]
      refine ⟨?_, ?_, ?_⟩ <;> first | rfl | trivial | exact B_mk _
    by_cases c3 : k = 3
    · rw [if_neg c0, if_neg c1, if_neg c2, if_pos c3] at hx
      obtain ⟨y0, y1, rfl⟩ := len2 hx
      simp only [if_neg c0, if_neg c1, if_neg c2, if_pos c3]
      refine ⟨?_, ?_, ?_⟩ <;> first | rfl | trivial | exact B_mk _
    by_cases c4 : k = 4 ∨ k = 7
    · rw [if_neg c0, if_neg c1, if_neg c2, if_neg c3, if_pos c4] at hx
      obtain ⟨y0, rfl⟩ := len1 hx
      simp only [if_neg c0, if_neg c1, if_neg c2, if_neg c3, if_pos c4]
      refine ⟨?_, ?_, ?_⟩ <;> first | rfl | trivial | exact B_mk _
    by_cases c5 : k = 5
    · rw [if_neg c0, if_neg c1, if_neg c2, if_neg c3, if_neg c4, if_pos c5] at hx
      obtain ⟨y0, y1, y2, y3, rfl⟩ := len4 hx
      simp only [if_neg c0, if_neg c1, if_neg c2, if_neg c3, if_neg c4, if_pos c5]
      refine ⟨?_, ?_, ?_⟩ <;> first | rfl | trivial | exact B_mk _
    by_cases c6 : k = 6
    · rw [if_neg c0, if_neg c1, if_neg c2, if_neg c3, if_neg c4, if_neg c5, if_pos c6] at hx
      obtain ⟨y0, y1, y2, y3, rfl⟩ := len4 hx
      simp only [if_neg c0, if_neg c1, if_neg c2, if_neg c3, if_neg c4, if_neg c5, if_pos c6]
      refine ⟨?_, ?_, ?_⟩ <;> first | rfl | trivial | exact B_mk _
    by_cases c7 : k = 9
    · rw [if_neg c0, if_neg c1, if_neg c2, if_neg c3, if_neg c4, if_neg c5, if_neg c6, if_pos c7] at hx
      obtain ⟨y0, rfl⟩ := len1 hx
      simp only [if_neg c0, if_neg c1, if_neg c2, if_neg c3, if_neg c4, if_neg c5, if_neg c6, if_pos c7]
      refine ⟨?_, ?_, ?_⟩ <;> first | rfl | trivial | exact B_mk _
    rw [if_neg c0, if_neg c1, if_neg c2, if_neg c3, if_neg c4, if_neg c5, if_neg c6, if_neg c7] at hx
    obtain rfl := List.length_eq_zero_iff.1 hx
    simp only [if_neg c0, if_neg c1, if_neg c2, if_neg c3, if_neg c4, if_neg c5, if_neg c6, if_neg c7]
    refine ⟨?_, ?_, ?_⟩ <;> first | rfl | trivial | exact B_mk _
end Go.Proofs.Ytcjfidfealifhaa
