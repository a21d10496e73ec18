/- Package reply: what is written, and its codec. -/
import Derived.Test.YtjkidjplbddmmaaFd0
namespace Go.Proofs.Ytjkidjplbddmmaa
open Go Vm IntWalk
set_option linter.unusedVariables false
set_option linter.unusedSimpArgs false
structure ReplyV where
  kind : Int
  half : Int
  nonce : Int
  session : Int
  address : Int
  ticket : Int
  seq : Int
  code : Int
  data : ByteArray
  deriving DecidableEq
def rplL (a : ReplyV) : List Value := [.int .i64 a.kind, .int .i64 a.half, .int .i64 a.nonce, .int .i64 a.session, .int .i64 a.address, .int .i64 a.ticket, .int .i64 a.seq, .int .i64 a.code, .string a.data]
def rplR : Rw ReplyV := ⟨rplL, 9, fun _ => rfl, fun a v h => by unfold rplL at h; simp only [List.mem_cons, List.not_mem_nil, or_false] at h; rcases h with rfl | rfl | rfl | rfl | rfl | rfl | rfl | rfl | rfl <;> rfl, by decide⟩
abbrev rplV (a : ReplyV) : Value := .agg (rplL a).toArray
abbrev rplRel {ρ : Ren} (a : ReplyV) : VRel ρ (rplV a) (rplV a) := vrel_agg (rplR.flat a).rel
theorem rpl_eq (a b : ReplyV) : evEq tys 50 30 (.agg (rplR.f a).toArray) (.agg (rplR.f b).toArray) = some (decide (a = b)) := by
  refine Eq.trans (b := some (a.kind == b.kind && (a.half == b.half && (a.nonce == b.nonce && (a.session == b.session && (a.address == b.address && (a.ticket == b.ticket && (a.seq == b.seq && (a.code == b.code && (a.data == b.data && true)))))))))) rfl (congrArg some ?_)
  rw [Bool.eq_iff_iff]
  cases a; cases b; simp [ba_beq]
def rplNums (a : ReplyV) : List Int := let k := a.kind; if k = 0 then [a.half, a.nonce] else if k = 1 then [a.session, a.address, a.ticket] else if k = 2 then [a.session, a.seq] else if k = 3 then [a.code] else if k = 4 then [a.session, a.code] else []
def rplCnt (k : Int) : Nat := if k = 0 then 2 else if k = 1 then 3 else if k = 2 then 2 else if k = 3 then 1 else if k = 4 then 2 else 0
def rplMake (k : Int) (xs : List Int) (t : ByteArray) : ReplyV := if k = 0 then ⟨k, xs.getD 0 0, xs.getD 1 0, 0, 0, 0, 0, 0, t⟩ else if k = 1 then ⟨k, 0, 0, xs.getD 0 0, xs.getD 1 0, xs.getD 2 0, 0, 0, t⟩ else if k = 2 then ⟨k, 0, 0, xs.getD 0 0, 0, 0, xs.getD 1 0, 0, t⟩ else if k = 3 then ⟨k, 0, 0, 0, 0, 0, 0, xs.getD 0 0, t⟩ else if k = 4 then ⟨k, 0, 0, xs.getD 0 0, 0, 0, 0, xs.getD 1 0, t⟩ else ⟨k, 0, 0, 0, 0, 0, 0, 0, t⟩
def rplText (k : Int) : Bool := decide (k = 2)
def rplPlain (a : ReplyV) : ReplyV := rplMake a.kind (rplNums a) (if rplText a.kind = true then a.data else ⟨#[]⟩)
def rplMay (a : ReplyV) : Bool := (decide (0 ≤ a.kind) && decide (a.kind ≤ 5)) && (!(decide (a.kind = 3)) || decide (a.code ≤ 11)) && (!(decide (a.kind = 4)) || decide (a.code ≤ 4)) && (decide (a.seq ≤ 1048575)) && (decide (a.address < 16)) && (decide (a.data.size ≤ 64)) && (rplNums a).all okN && decide (a = rplPlain a)
theorem rpl_kinds {k : Int} (h0 : 0 ≤ k) (h1 : k ≤ 5) : k = 0 ∨ k = 1 ∨ k = 2 ∨ k = 3 ∨ k = 4 ∨ k = 5 := by omega
theorem rpl_may_kind {a : ReplyV} (h : rplMay a = true) : 0 ≤ a.kind ∧ a.kind ≤ 5 := by
  unfold rplMay at h
  simp only [Bool.and_eq_true, decide_eq_true_eq] at h
  exact h.1.1.1.1.1.1.1
theorem rpl_may_nums {a : ReplyV} (h : rplMay a = true) : ∀ x ∈ rplNums a, okN x = true := by
  unfold rplMay at h; simp only [Bool.and_eq_true] at h; exact List.all_eq_true.1 h.1.2
theorem rpl_may_plain {a : ReplyV} (h : rplMay a = true) : rplPlain a = a := by
  unfold rplMay at h; simp only [Bool.and_eq_true, decide_eq_true_eq] at h; exact h.2.symm
theorem rpl_okT {a : ReplyV} (h : rplMay a = true) : (B a.data).length ≤ 65536 := by
  have h1 := rpl_may_plain h
  rw [B_len]
  by_cases hk : a.kind = 2
  · unfold rplMay at h; simp [hk] at h; omega
  · have ht : rplText a.kind = false := by unfold rplText; simp [hk]
    unfold rplPlain at h1; rw [ht, if_neg (by decide)] at h1
    have h2 : a.data = ⟨#[]⟩ := by rw [← h1]; unfold rplMake; (repeat' split) <;> rfl
    rw [h2]; decide
def rplC : Codec ReplyV where
  kind := ReplyV.kind
  nums := rplNums
  text := fun a => B a.data
  make := fun k xs t => rplMake k xs (mkB t)
  cnt := rplCnt
  hasT := rplText
  may := rplMay
  okK := fun a h => by have := rpl_may_kind h; rw [okN_iff]; omega
  okX := fun a h => rpl_may_nums h
  okC := fun a => by unfold rplNums rplCnt; dsimp only; (repeat' split) <;> rfl
  okT := fun a h => rpl_okT h
  noT := fun a h ht => by have := rpl_may_plain h; unfold rplPlain at this; rw [ht, if_neg (by decide)] at this; rw [← this]; unfold rplMake; (repeat' split) <;> rfl
  back := fun a h => by
    have := rpl_may_plain h
    unfold rplPlain at this
    rw [mk_B]
    cases ht : rplText a.kind with
    | true => rw [ht, if_pos rfl] at this; exact this
    | false =>
      have hd : a.data = ⟨#[]⟩ := by rw [ht, if_neg (by decide)] at this; rw [← this]; unfold rplMake; (repeat' split) <;> rfl
      rw [ht, if_neg (by decide)] at this; rw [hd]; exact this
  mkK := fun k xs t hx ht => by
    unfold rplCnt at hx; unfold rplText at ht; unfold rplMake rplNums; dsimp only
    by_cases c0 : k = 0
    · rw [if_pos c0] at hx
      obtain ⟨y0, y1, rfl⟩ := len2 hx
      simp only [if_pos c0]
      refine ⟨?_, ?_, ?_⟩ <;> first | rfl | trivial | exact B_mk _
    by_cases c1 : k = 1
    · rw [if_neg c0, if_pos c1] at hx
      obtain ⟨y0, y1, y2, rfl⟩ := len3 hx
      simp only [if_neg c0, if_pos c1]
      refine ⟨?_, ?_, ?_⟩ <;> first | rfl | trivial | exact B_mk _
    by_cases c2 : k = 2
    · rw [if_neg c0, if_neg c1, if_pos c2] at hx
      obtain ⟨y0, y1, rfl⟩ := len2 hx
      simp only [if_neg c0, if_neg c1, if_pos c2]
      refine ⟨?_, ?_, ?_⟩ <;> first | rfl | trivial | exact B_mk _
    by_cases c3 : k = 3
    · rw [if_neg c0, if_neg c1, if_neg c2, if_pos c3] at hx
      obtain ⟨y0, rfl⟩ := len1 hx
      simp only [if_neg c0, if_neg c1, if_neg c2, if_pos c3]
      refine ⟨?_, ?_, ?_⟩ <;> first | rfl | trivial | exact B_mk _
    by_cases c4 : k = 4
    · rw [if_neg c0, if_neg c1, if_neg c2, if_neg c3, if_pos c4] at hx
      obtain ⟨y0, y1, rfl⟩ := len2 hx
      simp only [if_neg c0, if_neg c1, if_neg c2, if_neg c3, if_pos c4]
      refine ⟨?_, ?_, ?_⟩ <;> first | rfl | trivial | exact B_mk _
    rw [if_neg c0, if_neg c1, if_neg c2, if_neg c3, if_neg c4] at hx
    obtain rfl := List.length_eq_zero_iff.1 hx
    simp only [if_neg c0, if_neg c1, if_neg c2, if_neg c3, if_neg c4]
    refine ⟨?_, ?_, ?_⟩ <;> first | rfl | trivial | exact B_mk _
end Go.Proofs.Ytjkidjplbddmmaa
