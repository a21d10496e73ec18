/- Package packet: what is written, and its codec. -/
import Derived.Test.YtjkidjplbddmmaaFd0
namespace Go.Proofs.Ytjkidjplbddmmaa
open Go Vm IntWalk
set_option linter.unusedVariables false
set_option linter.unusedSimpArgs false
structure PacketV where
  kind : Int
  user : Int
  nonce : Int
  half : Int
  tag : Int
  code : Int
  session : Int
  seq : Int
  data : ByteArray
  deriving DecidableEq
def pktL (a : PacketV) : List Value := [.int .i64 a.kind, .int .i64 a.user, .int .i64 a.nonce, .int .i64 a.half, .int .i64 a.tag, .int .i64 a.code, .int .i64 a.session, .int .i64 a.seq, .string a.data]
def pktR : Rw PacketV := ⟨pktL, 9, fun _ => rfl, fun a v h => by unfold pktL at h; simp only [List.mem_cons, List.not_mem_nil, or_false] at h; rcases h with rfl | rfl | rfl | rfl | rfl | rfl | rfl | rfl | rfl <;> rfl, by decide⟩
abbrev pktV (a : PacketV) : Value := .agg (pktL a).toArray
abbrev pktRel {ρ : Ren} (a : PacketV) : VRel ρ (pktV a) (pktV a) := vrel_agg (pktR.flat a).rel
theorem pkt_eq (a b : PacketV) : evEq tys 50 28 (.agg (pktR.f a).toArray) (.agg (pktR.f b).toArray) = some (decide (a = b)) := by
  refine Eq.trans (b := some (a.kind == b.kind && (a.user == b.user && (a.nonce == b.nonce && (a.half == b.half && (a.tag == b.tag && (a.code == b.code && (a.session == b.session && (a.seq == b.seq && (a.data == b.data && true)))))))))) rfl (congrArg some ?_)
  rw [Bool.eq_iff_iff]
  cases a; cases b; simp [ba_beq]
def pktNums (a : PacketV) : List Int := let k := a.kind; if k = 0 then [a.user, a.nonce] else if k = 1 then [a.half, a.tag, a.code] else if k = 2 then [a.tag, a.nonce, a.code] else if k = 3 then [a.session, a.seq, a.tag] else if k = 4 then [a.session, a.tag] else []
def pktCnt (k : Int) : Nat := if k = 0 then 2 else if k = 1 then 3 else if k = 2 then 3 else if k = 3 then 3 else if k = 4 then 2 else 0
def pktMake (k : Int) (xs : List Int) (t : ByteArray) : PacketV := if k = 0 then ⟨k, xs.getD 0 0, xs.getD 1 0, 0, 0, 0, 0, 0, t⟩ else if k = 1 then ⟨k, 0, 0, xs.getD 0 0, xs.getD 1 0, xs.getD 2 0, 0, 0, t⟩ else if k = 2 then ⟨k, 0, xs.getD 1 0, 0, xs.getD 0 0, xs.getD 2 0, 0, 0, t⟩ else if k = 3 then ⟨k, 0, 0, 0, xs.getD 2 0, 0, xs.getD 0 0, xs.getD 1 0, t⟩ else if k = 4 then ⟨k, 0, 0, 0, xs.getD 1 0, 0, xs.getD 0 0, 0, t⟩ else ⟨k, 0, 0, 0, 0, 0, 0, 0, t⟩
def pktText (k : Int) : Bool := decide (k = 3)
def pktPlain (a : PacketV) : PacketV := pktMake a.kind (pktNums a) (if pktText a.kind = true then a.data else ⟨#[]⟩)
def pktMay (a : PacketV) : Bool := (decide (0 ≤ a.kind) && decide (a.kind ≤ 4)) && (!(decide (a.kind = 3)) || decide (a.seq ≤ 1048575)) && (!(decide (a.kind = 3)) || decide (a.data.size ≤ 64)) && (pktNums a).all okN && decide (a = pktPlain a)
theorem pkt_kinds {k : Int} (h0 : 0 ≤ k) (h1 : k ≤ 4) : k = 0 ∨ k = 1 ∨ k = 2 ∨ k = 3 ∨ k = 4 := by omega
theorem pkt_may_kind {a : PacketV} (h : pktMay a = true) : 0 ≤ a.kind ∧ a.kind ≤ 4 := by
  unfold pktMay at h
  simp only [Bool.and_eq_true, decide_eq_true_eq] at h
  exact h.1.1.1.1
theorem pkt_may_nums {a : PacketV} (h : pktMay a = true) : ∀ x ∈ pktNums a, okN x = true := by
  unfold pktMay at h; simp only [Bool.and_eq_true] at h; exact List.all_eq_true.1 h.1.2
theorem pkt_may_plain {a : PacketV} (h : pktMay a = true) : pktPlain a = a := by
  unfold pktMay at h; simp only [Bool.and_eq_true, decide_eq_true_eq] at h; exact h.2.symm
theorem pkt_okT {a : PacketV} (h : pktMay a = true) : (B a.data).length ≤ 65536 := by
  have h1 := pkt_may_plain h
  rw [B_len]
  by_cases hk : a.kind = 3
  · unfold pktMay at h; simp [hk] at h; omega
  · have ht : pktText a.kind = false := by unfold pktText; simp [hk]
    unfold pktPlain at h1; rw [ht, if_neg (by decide)] at h1
    have h2 : a.data = ⟨#[]⟩ := by rw [← h1]; unfold pktMake; (repeat' split) <;> rfl
    rw [h2]; decide
def pktC : Codec PacketV where
  kind := PacketV.kind
  nums := pktNums
  text := fun a => B a.data
  make := fun k xs t => pktMake k xs (mkB t)
  cnt := pktCnt
  hasT := pktText
  may := pktMay
  okK := fun a h => by have := pkt_may_kind h; rw [okN_iff]; omega
  okX := fun a h => pkt_may_nums h
  okC := fun a => by unfold pktNums pktCnt; dsimp only; (repeat' split) <;> rfl
  okT := fun a h => pkt_okT h
  noT := fun a h ht => by have := pkt_may_plain h; unfold pktPlain at this; rw [ht, if_neg (by decide)] at this; rw [← this]; unfold pktMake; (repeat' split) <;> rfl
  back := fun a h => by
    have := pkt_may_plain h
    unfold pktPlain at this
    rw [mk_B]
    cases ht : pktText a.kind with
    | true => rw [ht, if_pos rfl] at this; exact this
    | false =>
      have hd : a.data = ⟨#[]⟩ := by rw [ht, if_neg (by decide)] at this; rw [← this]; unfold pktMake; (repeat' split) <;> rfl
      rw [ht, if_neg (by decide)] at this; rw [hd]; exact this
  mkK := fun k xs t hx ht => by
    unfold pktCnt at hx; unfold pktText at ht; unfold pktMake pktNums; dsimp only
    by_cases c0 : k = 0
    · rw [if_pos c0] at hx
      obtain ⟨y0, y1, rfl⟩ := len2 hx
      simp only [if_pos c0]
      refine ⟨?_, ?_, ?_⟩ <;> first | rfl | trivial | exact B_mk _
    by_cases c1 : k = 1
    · rw [if_neg c0, if_pos c1] at hx
      obtain ⟨y0, y1, y2, rfl⟩ := len3 hx
      simp only [if_neg c0, if_pos c1]
      refine ⟨?_, ?_, ?_⟩ <;> first | rfl | trivial | exact B_mk _
    by_cases c2 : k = 2
    · rw [if_neg c0, if_neg c1, if_pos c2] at hx
      obtain ⟨y0, y1, y2, rfl⟩ := len3 hx
      simp only [if_neg c0, if_neg c1, if_pos c2]
      refine ⟨?_, ?_, ?_⟩ <;> first | rfl | trivial | exact B_mk _
    by_cases c3 : k = 3
    · rw [if_neg c0, if_neg c1, if_neg c2, if_pos c3] at hx
      obtain ⟨y0, y1, y2, rfl⟩ := len3 hx
      simp only [if_neg c0, if_neg c1, if_neg c2, if_pos c3]
      refine ⟨?_, ?_, ?_⟩ <;> first | rfl | trivial | exact B_mk _
    by_cases c4 : k = 4
    · rw [if_neg c0, if_neg c1, if_neg c2, if_neg c3, if_pos c4] at hx
      obtain ⟨y0, y1, rfl⟩ := len2 hx
      simp only [if_neg c0, if_neg c1, if_neg c2, if_neg c3, if_pos c4]
      refine ⟨?_, ?_, ?_⟩ <;> first | rfl | trivial | exact B_mk _
    rw [if_neg c0, if_neg c1, if_neg c2, if_neg c3, if_neg c4] at hx
    obtain rfl := List.length_eq_zero_iff.1 hx
    simp only [if_neg c0, if_neg c1, if_neg c2, if_neg c3, if_neg c4]
    refine ⟨?_, ?_, ?_⟩ <;> first | rfl | trivial | exact B_mk _
end Go.Proofs.Ytjkidjplbddmmaa
