/- Readers: texts. -/
import Derived.Test.YtkfkdhjelncfhaaDoorVg1
import Derived.Test.YtkfkdhjelncfhaaDoorFd5
namespace Go.Proofs.YtkfkdhjelncfhaaDoor
open Go Vm IntWalk
set_option linter.unusedVariables false
set_option linter.unusedSimpArgs false
theorem gettext_any {s : ByteArray} {a : Int} (hs : s.size ≤ 9223372036854775807) : ∃ t tT e, Fun Tryd.prog 16 [.string s, .int .i64 a] (.tuple #[.string t, .int .i64 tT, .int .i64 e]) := by
  by_cases h0 : 0 ≤ a ∧ a ≤ (B s).length
  · cases h : rdT ((B s).drop a.toNat) with
    | none => obtain ⟨e, h1, _⟩ := getTR_none h0.1 h0.2 h; exact ⟨_, _, _, gettext_bad h1 hs⟩
    | some r => obtain ⟨t, q⟩ := r; obtain ⟨tT, h1, _⟩ := getT_some h0.1 h0.2 h; exact ⟨_, _, _, gettext_good h1 hs⟩
  · have hg : getN (B s) a = (0, 0, 100, a) := by unfold getN; rw [if_pos (by omega)]
    exact ⟨_, _, _, gettext_bad (.inl ⟨a, hg, by decide⟩) hs⟩
end Go.Proofs.YtkfkdhjelncfhaaDoor
