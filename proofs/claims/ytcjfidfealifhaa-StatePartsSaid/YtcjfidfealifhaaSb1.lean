/- Law 20: awake. -/
import Derived.Test.YtcjfidfealifhaaVg1
import Derived.Test.YtcjfidfealifhaaSb0
namespace Go.Proofs.Ytcjfidfealifhaa
open Go Vm IntWalk
set_option linter.unusedVariables false
set_option linter.unusedSimpArgs false
set_option maxHeartbeats 16000000
def awakeE : List EventV := [⟨0, 0, 0, 0, 0, 0, 0, 0⟩, ⟨1, 3, 0, 0, 5, 6, 7, 0⟩, ⟨5, 3, 0, 1, 0, 0, 0, 4⟩]
def sA : StV := ⟨1, 0, 1, [⟨3, 5, 6, 7, 0, 0, 0, 0, 0⟩], [⟨0, 3, 1, 4⟩], [⟨false, -1, 0⟩, ⟨true, 3, 0⟩, ⟨false, -1, 0⟩], []⟩
def sB : StV := ⟨2, 0, 1, [⟨3, 5, 6, 7, 0, 0, 0, 0, 0⟩], [], [⟨false, -1, 0⟩, ⟨false, 3, 17⟩, ⟨false, -1, 0⟩], []⟩
def sZ : StV := ⟨0, 0, 0, [], [], [⟨false, -1, 0⟩, ⟨false, -1, 0⟩], []⟩
instance (s : StV) (e : EventV) : Decidable (EndU s e) := inferInstanceAs (Decidable (∀ y ∈ s.users, y.user ≤ e.user))
theorem state_awake : Fun Try.prog 9 [] (.bool true) := by
  refine fun_of_vw tab Try.func9 rfl rfl (by simp [Try.f9]) lrel_nil (.bool _) ?_
  refine wsq (wrg (vQ tab rfl (vnl (qth (wsq (wrg (vF rfl callable_14 (plain_fun) (vN tab rfl (vS tab rfl (vnl (qth (wsq (wrg (vQ tab rfl (vQ tab rfl (vQ tab rfl (vQ tab rfl (vN tab rfl (vT rfl callable_10 (all_as (cf := plainC) (es := awakeE) (s := sA) (r := 0) (by decide +kernel) (by decide +kernel) (by decide) (looks_opn evtR (xs := awakeE) rfl rfl)) ?_)))))))))))))))))))
  refine vQ tab rfl (vQ tab rfl (vQ tab rfl (vN tab rfl (vS tab rfl (vQ tab rfl (vnl (qth (wsq (wrg (vQ tab rfl (vQ tab rfl (vQ tab rfl (vT rfl callable_13 (apply_as (cf := plainC) (s := sA) (ev := ⟨0, 0, 0, 0, 0, 0, 0, 9⟩) (s' := sB) (r := 0) (by decide +kernel) (looks_opn userR rfl rfl) (looks_opn sessR rfl rfl) (looks_opn addrR rfl rfl) (looks_opn (intR .i64) rfl rfl) (by decide) (by decide) (by decide) (by decide) (by decide)) ?_)))))))))))))
  refine vQ tab rfl (vQ tab rfl (vQ tab rfl (vN tab rfl (vS tab rfl (vQ tab rfl (vnl (qth (wsq (wrg (vQ tab rfl (vQ tab rfl (vQ tab rfl (vT rfl callable_13 (apply_as (cf := plainC) (s := sA) (ev := ⟨5, 3, 1, 1, 0, 0, 0, 4⟩) (s' := st0) (r := 2001) (by decide +kernel) (looks_opn userR rfl rfl) (looks_opn sessR rfl rfl) (looks_opn addrR rfl rfl) (looks_opn (intR .i64) rfl rfl) (by decide) (by decide) (by decide) (by decide) (by decide)) ?_)))))))))))))
  refine vQ tab rfl (vQ tab rfl (vQ tab rfl (vN tab rfl (vS tab rfl (vQ tab rfl (vnl (qth (wsq (wrg (vQ tab rfl (vQ tab rfl (vQ tab rfl (vT rfl callable_13 (apply_as (cf := plainC) (s := sA) (ev := ⟨99, 0, 0, 0, 0, 0, 0, 0⟩) (s' := st0) (r := 2000) (by decide +kernel) (looks_opn userR rfl rfl) (looks_opn sessR rfl rfl) (looks_opn addrR rfl rfl) (looks_opn (intR .i64) rfl rfl) (by decide) (by decide) (by decide) (by decide) (by decide)) ?_)))))))))))))
  refine vQ tab rfl (vQ tab rfl (vQ tab rfl (vN tab rfl (vS tab rfl (vQ tab rfl (vnl (qth (wsq (wrg (vT rfl callable_20 (snew_as (c := 2) (sZ, 0) (by decide +kernel)) ?_))))))))))
  refine vQ tab rfl (vQ tab rfl (vQ tab rfl (vN tab rfl (vS tab rfl (vQ tab rfl (vnl (qth (wsq (wrg (vQ tab rfl (vF rfl callable_11 (num_fun _) (vQ tab rfl (vQ tab rfl (vQ tab rfl (vQ tab rfl (vQ tab rfl (vQ tab rfl (vQ tab rfl (vQ tab rfl (vQ tab rfl (vQ tab rfl (vQ tab rfl (vQ tab rfl ?_)))))))))))))))))))))))
  refine vQ tab rfl (vQ tab rfl (vQ tab rfl (vN tab rfl (vR rfl callable_18 (same_users (looks_opn userR (xs := sA.users) rfl rfl) (looks_opn userR (xs := [⟨3, 5, 6, 7, 0, 0, 0, 0, 0⟩]) rfl rfl) (by decide) (by decide)) ?_))))
  refine vQ tab rfl (vQ tab rfl (vQ tab rfl (vQ tab rfl (vQ tab rfl (vN tab rfl (vR rfl callable_16 (same_sess (looks_opn sessR (xs := sA.sess) rfl rfl) (looks_opn sessR (xs := [⟨0, 3, 1, 4⟩]) rfl rfl) (by decide) (by decide)) ?_))))))
  refine vQ tab rfl (vQ tab rfl (vQ tab rfl (vQ tab rfl (vQ tab rfl (vQ tab rfl (vQ tab rfl (vQ tab rfl (vQ tab rfl (vQ tab rfl (vQ tab rfl (vQ tab rfl (vQ tab rfl (vq_op tab ⟨_, _, rfl, rfl, rfl⟩ rfl rfl (ev_eql rfl rfl rfl (addr_eq ⟨true, 3, 0⟩ ⟨true, 3, 0⟩)) (vQ tab rfl (vQ tab rfl (vQ tab rfl (vF rfl callable_11 (num_fun _) (vQ tab rfl (vQ tab rfl (vQ tab rfl (vQ tab rfl (vQ tab rfl (vQ tab rfl ?_)))))))))))))))))))))))
  refine vQ tab rfl (vQ tab rfl (vQ tab rfl (vQ tab rfl (vQ tab rfl (vQ tab rfl (vQ tab rfl (vQ tab rfl (vQ tab rfl (vQ tab rfl (vQ tab rfl (vQ tab rfl (vQ tab rfl (vQ tab rfl (vQ tab rfl (vQ tab rfl (vQ tab rfl (vQ tab rfl (vQ tab rfl (vq_op tab ⟨_, _, rfl, rfl, rfl⟩ rfl rfl (ev_eql rfl rfl rfl (addr_eq ⟨true, 3, 0⟩ ⟨true, 3, 0⟩)) (vQ tab rfl (vQ tab rfl (vQ tab rfl (vF rfl callable_11 (num_fun _) ?_)))))))))))))))))))))))
  refine vQ tab rfl (vQ tab rfl (vQ tab rfl (vQ tab rfl (vF rfl callable_11 (num_fun _) (vQ tab rfl (vQ tab rfl (vQ tab rfl (vQ tab rfl (vQ tab rfl (vQ tab rfl (vQ tab rfl (vQ tab rfl (vQ tab rfl (vQ tab rfl (vF rfl callable_11 (num_fun _) (vQ tab rfl (vQ tab rfl (vQ tab rfl (vnl (qth (vw_ret ?_)))))))))))))))))))))
  exact ⟨.inr rfl, Eq.trans (b := some (.bool _)) rfl (congrArg (fun b => some (Value.bool b)) (by decide))⟩
end Go.Proofs.Ytcjfidfealifhaa
