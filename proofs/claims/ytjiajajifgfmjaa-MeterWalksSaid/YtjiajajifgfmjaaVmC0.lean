/- The functions that can be called. Printed by lay.py. -/
import Derived.Test.YtjiajajifgfmjaaProg
import Derived.Test.YtjiajajifgfmjaaVmL
import Derived.Test.YtjiajajifgfmjaaVmU
import Derived.KernelRfl
namespace Go.Proofs.Ytjiajajifgfmjaa
open Go Vm
theorem mixed : Try.prog.follows .mixedOrders = true := by kernel_rfl
theorem callable_3 : Callable Try.prog 3 := ⟨Try.f3, Try.func3, by kernel_rfl, rfl⟩
theorem callable_4 : Callable Try.prog 4 := ⟨Try.f4, Try.func4, by kernel_rfl, rfl⟩
theorem callable_5 : Callable Try.prog 5 := ⟨Try.f5, Try.func5, by kernel_rfl, rfl⟩
theorem callable_6 : Callable Try.prog 6 := ⟨Try.f6, Try.func6, by kernel_rfl, rfl⟩
theorem callable_7 : Callable Try.prog 7 := ⟨Try.f7, Try.func7, by kernel_rfl, rfl⟩
theorem callable_8 : Callable Try.prog 8 := ⟨Try.f8, Try.func8, by kernel_rfl, rfl⟩
theorem callable_9 : Callable Try.prog 9 := ⟨Try.f9, Try.func9, by kernel_rfl, rfl⟩
theorem callable_10 : Callable Try.prog 10 := ⟨Try.f10, Try.func10, by kernel_rfl, rfl⟩
theorem callable_11 : Callable Try.prog 11 := ⟨Try.f11, Try.func11, by kernel_rfl, rfl⟩
theorem callable_12 : Callable Try.prog 12 := ⟨Try.f12, Try.func12, by kernel_rfl, rfl⟩
theorem callable_13 : Callable Try.prog 13 := ⟨Try.f13, Try.func13, by kernel_rfl, rfl⟩
theorem callable_14 : Callable Try.prog 14 := ⟨Try.f14, Try.func14, by kernel_rfl, rfl⟩
theorem callable_15 : Callable Try.prog 15 := ⟨Try.f15, Try.func15, by kernel_rfl, rfl⟩
theorem callable_16 : Callable Try.prog 16 := ⟨Try.f16, Try.func16, by kernel_rfl, rfl⟩
theorem callable_17 : Callable Try.prog 17 := ⟨Try.f17, Try.func17, by kernel_rfl, rfl⟩
theorem callable_18 : Callable Try.prog 18 := ⟨Try.f18, Try.func18, by kernel_rfl, rfl⟩
theorem callable_19 : Callable Try.prog 19 := ⟨Try.f19, Try.func19, by kernel_rfl, rfl⟩
theorem callable_20 : Callable Try.prog 20 := ⟨Try.f20, Try.func20, by kernel_rfl, rfl⟩
theorem callable_21 : Callable Try.prog 21 := ⟨Try.f21, Try.func21, by kernel_rfl, rfl⟩
theorem callable_22 : Callable Try.prog 22 := ⟨Try.f22, Try.func22, by kernel_rfl, rfl⟩
theorem callable_23 : Callable Try.prog 23 := ⟨Try.f23, Try.func23, by kernel_rfl, rfl⟩
theorem callable_24 : Callable Try.prog 24 := ⟨Try.f24, Try.func24, by kernel_rfl, rfl⟩
theorem callable_25 : Callable Try.prog 25 := ⟨Try.f25, Try.func25, by kernel_rfl, rfl⟩
theorem callable_26 : Callable Try.prog 26 := ⟨Try.f26, Try.func26, by kernel_rfl, rfl⟩
theorem callable_27 : Callable Try.prog 27 := ⟨Try.f27, Try.func27, by kernel_rfl, rfl⟩
theorem callable_28 : Callable Try.prog 28 := ⟨Try.f28, Try.func28, by kernel_rfl, rfl⟩
end Go.Proofs.Ytjiajajifgfmjaa
