/- Package admin: what is written, and its codec. -/
import Derived.Test.YticaicdopfpknaaFd0
namespace Go.Proofs.Yticaicdopfpknaa
open Go Vm IntWalk
set_option linter.unusedVariables false
set_option linter.unusedSimpArgs false
structure AdminV where
  kind : Int
  user : Int
  key : Int
  secret : Int
  quota : Int
  session : Int
  deriving DecidableEq
def admL (a : AdminV) : List Value := [.int .i64 a.kind, .int .i64 a.user, .int .i64 a.key, .int .i64 a.secret, .int .i64 a.quota, .int .i64 a.session]
def admR : Rw AdminV := ⟨admL, 6, fun _ => rfl, fun a v h => by unfold admL at h; simp only [List.mem_cons, List.not_mem_nil, or_false] at h; rcases h with rfl | rfl | rfl | rfl | rfl | rfl <;> rfl, by decide⟩
abbrev admV (a : AdminV) : Value := .agg (admL a).toArray
abbrev admRel {ρ : Ren} (a : AdminV) : VRel ρ (admV a) (admV a) := vrel_agg (admR.flat a).rel
theorem adm_eq (a b : AdminV) : evEq tys 50 23 (.agg (admR.f a).toArray) (.agg (admR.f b).toArray) = some (decide (a = b)) := by
  refine Eq.trans (b := some (a.kind == b.kind && (a.user == b.user && (a.key == b.key && (a.secret == b.secret && (a.quota == b.quota && (a.session == b.session && true))))))) rfl (congrArg some ?_)
  rw [Bool.eq_iff_iff]
  cases a; cases b; simp
def admNums (a : AdminV) : List Int := let k := a.kind; if k = 0 then [a.user, a.key, a.secret, a.quota] else if k = 1 ∨ k = 2 then [a.user] else if k = 4 then [a.session] else []
def admCnt (k : Int) : Nat := if k = 0 then 4 else if k = 1 ∨ k = 2 then 1 else if k = 4 then 1 else 0
def admMake (k : Int) (xs : List Int) (_t : ByteArray) : AdminV := if k = 0 then ⟨k, xs.getD 0 0, xs.getD 1 0, xs.getD 2 0, xs.getD 3 0, 0⟩ else if k = 1 ∨ k = 2 then ⟨k, xs.getD 0 0, 0, 0, 0, 0⟩ else if k = 4 then ⟨k, 0, 0, 0, 0, xs.getD 0 0⟩ else ⟨k, 0, 0, 0, 0, 0⟩
def admText (k : Int) : Bool := false
def admPlain (a : AdminV) : AdminV := admMake a.kind (admNums a) ⟨#[]⟩
def admMay (a : AdminV) : Bool := (decide (0 ≤ a.kind) && decide (a.kind ≤ 4)) && (!(decide (a.kind = 0)) || decide (a.quota ≤ 1048576)) && (!(decide (a.kind = 0) || decide (a.kind = 1) || decide (a.kind = 2)) || decide (a.user < 8)) && (admNums a).all okN && decide (a = admPlain a)
theorem adm_kinds {k : Int} (h0 : 0 ≤ k) (h1 : k ≤ 4) : k = 0 ∨ k = 1 ∨ k = 2 ∨ k = 3 ∨ k = 4 := by omega
theorem adm_may_kind {a : AdminV} (h : admMay a = true) : 0 ≤ a.kind ∧ a.kind ≤ 4 := by
  unfold admMay at h
  simp only [Bool.and_eq_true, decide_eq_true_eq] at h
  exact h.1.1.1.1
theorem adm_may_nums {a : AdminV} (h : admMay a = true) : ∀ x ∈ admNums a, okN x = true := by
  unfold admMay at h; simp only [Bool.and_eq_true] at h; exact List.all_eq_true.1 h.1.2
theorem adm_may_plain {a : AdminV} (h : admMay a = true) : admPlain a = a := by
  unfold admMay at h; simp only [Bool.and_eq_true, decide_eq_true_eq] at h; exact h.2.symm
def admC : Codec AdminV where
  kind := AdminV.kind
  nums := admNums
  text := fun _ => []
  make := fun k xs t => admMake k xs (mkB t)
  cnt := admCnt
  hasT := admText
  may := admMay
  okK := fun a h => by have := adm_may_kind h; rw [okN_iff]; omega
  okX := fun a h => adm_may_nums h
  okC := fun a => by unfold admNums admCnt; dsimp only; (repeat' split) <;> rfl
  okT := fun a h => by decide
  noT := fun a h ht => rfl
  back := fun a h => adm_may_plain h
  mkK := fun k xs t hx ht => by
    have ht : t = [] := by rcases ht with h | h; exact (by cases h); exact h
    subst ht
    unfold admCnt at hx; unfold admMake admNums; dsimp only
    by_cases c0 : k = 0
    · rw [if_pos c0] at hx
      obtain ⟨y0, y1, y2, y3, rfl⟩ := len4 hx
      simp only [if_pos c0]
      refine ⟨?_, ?_, ?_⟩ <;> first | rfl | trivial | exact B_mk _
    by_cases c1 : k = 1 ∨ k = 2
    · rw [if_neg c0, if_pos c1] at hx
      obtain ⟨y0, rfl⟩ := len1 hx
      simp only [if_neg c0, if_pos c1]
      refine ⟨?_, ?_, ?_⟩ <;> first | rfl | trivial | exact B_mk _
    by_cases c2 : k = 4
    · rw [if_neg c0, if_neg c1, if_pos c2] at hx
      obtain ⟨y0, rfl⟩ := len1 hx
      simp only [if_neg c0, if_neg c1, if_pos c2]
      refine ⟨?_, ?_, ?_⟩ <;> first | rfl | trivial | exact B_mk _
    rw [if_neg c0, if_neg c1, if_neg c2] at hx
    obtain rfl := List.length_eq_zero_iff.1 hx
    simp only [if_neg c0, if_neg c1, if_neg c2]
    refine ⟨?_, ?_, ?_⟩ <;> first | rfl | trivial | exact B_mk _
end Go.Proofs.Yticaicdopfpknaa
