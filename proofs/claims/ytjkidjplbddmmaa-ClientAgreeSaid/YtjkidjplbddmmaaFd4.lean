/- Readers: numbers; done. -/
import Derived.Test.YtjkidjplbddmmaaVg1
import Derived.Test.YtjkidjplbddmmaaFd3
namespace Go.Proofs.Ytjkidjplbddmmaa
open Go Vm IntWalk
set_option linter.unusedVariables false
set_option linter.unusedSimpArgs false
theorem sz0 : (⟨#[]⟩ : ByteArray).size = 0 := rfl
end Go.Proofs.Ytjkidjplbddmmaa
