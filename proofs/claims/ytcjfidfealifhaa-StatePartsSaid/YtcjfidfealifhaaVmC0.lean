/- The functions that can be called. Printed by lay.py. -/
import Derived.Test.YtcjfidfealifhaaProg
import Derived.Test.YtcjfidfealifhaaVg0
import Derived.Test.YtcjfidfealifhaaVg1
import Derived.KernelRfl
namespace Go.Proofs.Ytcjfidfealifhaa
open Go Vm
theorem mixed : Try.prog.follows .mixedOrders = true := by kernel_rfl
theorem callable_3 : Callable Try.prog 3 := ⟨Try.f3, Try.func3, by kernel_rfl, rfl⟩
theorem callable_4 : Callable Try.prog 4 := ⟨Try.f4, Try.func4, by kernel_rfl, rfl⟩
theorem callable_5 : Callable Try.prog 5 := ⟨Try.f5, Try.func5, by kernel_rfl, rfl⟩
theorem callable_6 : Callable Try.prog 6 := ⟨Try.f6, Try.func6, by kernel_rfl, rfl⟩
theorem callable_7 : Callable Try.prog 7 := ⟨Try.f7, Try.func7, by kernel_rfl, rfl⟩
theorem callable_8 : Callable Try.prog 8 := ⟨Try.f8, Try.func8, by kernel_rfl, rfl⟩
theorem callable_9 : Callable Try.prog 9 := ⟨Try.f9, Try.func9, by kernel_rfl, rfl⟩
theorem callable_10 : Callable Try.prog 10 := ⟨Try.f10, Try.func10, by kernel_rfl, rfl⟩
theorem callable_11 : Callable Try.prog 11 := ⟨Try.f11, Try.func11, by kernel_rfl, rfl⟩
theorem callable_12 : Callable Try.prog 12 := ⟨Try.f12, Try.func12, by kernel_rfl, rfl⟩
theorem callable_13 : Callable Try.prog 13 := ⟨Try.f13, Try.func13, by kernel_rfl, rfl⟩
theorem callable_14 : Callable Try.prog 14 := ⟨Try.f14, Try.func14, by kernel_rfl, rfl⟩
theorem callable_15 : Callable Try.prog 15 := ⟨Try.f15, Try.func15, by kernel_rfl, rfl⟩
theorem callable_16 : Callable Try.prog 16 := ⟨Try.f16, Try.func16, by kernel_rfl, rfl⟩
theorem callable_17 : Callable Try.prog 17 := ⟨Try.f17, Try.func17, by kernel_rfl, rfl⟩
theorem callable_18 : Callable Try.prog 18 := ⟨Try.f18, Try.func18, by kernel_rfl, rfl⟩
theorem callable_19 : Callable Try.prog 19 := ⟨Try.f19, Try.func19, by kernel_rfl, rfl⟩
theorem callable_20 : Callable Try.prog 20 := ⟨Try.f20, Try.func20, by kernel_rfl, rfl⟩
theorem callable_21 : Callable Try.prog 21 := ⟨Try.f21, Try.func21, by kernel_rfl, rfl⟩
theorem callable_22 : Callable Try.prog 22 := ⟨Try.f22, Try.func22, by kernel_rfl, rfl⟩
theorem callable_23 : Callable Try.prog 23 := ⟨Try.f23, Try.func23, by kernel_rfl, rfl⟩
theorem callable_24 : Callable Try.prog 24 := ⟨Try.f24, Try.func24, by kernel_rfl, rfl⟩
theorem callable_25 : Callable Try.prog 25 := ⟨Try.f25, Try.func25, by kernel_rfl, rfl⟩
theorem callable_26 : Callable Try.prog 26 := ⟨Try.f26, Try.func26, by kernel_rfl, rfl⟩
theorem callable_27 : Callable Try.prog 27 := ⟨Try.f27, Try.func27, by kernel_rfl, rfl⟩
theorem callable_28 : Callable Try.prog 28 := ⟨Try.f28, Try.func28, by kernel_rfl, rfl⟩
theorem callable_29 : Callable Try.prog 29 := ⟨Try.f29, Try.func29, by kernel_rfl, rfl⟩
theorem callable_30 : Callable Try.prog 30 := ⟨Try.f30, Try.func30, by kernel_rfl, rfl⟩
theorem callable_31 : Callable Try.prog 31 := ⟨Try.f31, Try.func31, by kernel_rfl, rfl⟩
theorem callable_32 : Callable Try.prog 32 := ⟨Try.f32, Try.func32, by kernel_rfl, rfl⟩
theorem callable_33 : Callable Try.prog 33 := ⟨Try.f33, Try.func33, by kernel_rfl, rfl⟩
theorem callable_34 : Callable Try.prog 34 := ⟨Try.f34, Try.func34, by kernel_rfl, rfl⟩
theorem callable_35 : Callable Try.prog 35 := ⟨Try.f35, Try.func35, by kernel_rfl, rfl⟩
theorem callable_36 : Callable Try.prog 36 := ⟨Try.f36, Try.func36, by kernel_rfl, rfl⟩
theorem callable_37 : Callable Try.prog 37 := ⟨Try.f37, Try.func37, by kernel_rfl, rfl⟩
theorem callable_38 : Callable Try.prog 38 := ⟨Try.f38, Try.func38, by kernel_rfl, rfl⟩
theorem callable_39 : Callable Try.prog 39 := ⟨Try.f39, Try.func39, by kernel_rfl, rfl⟩
theorem callable_40 : Callable Try.prog 40 := ⟨Try.f40, Try.func40, by kernel_rfl, rfl⟩
theorem callable_41 : Callable Try.prog 41 := ⟨Try.f41, Try.func41, by kernel_rfl, rfl⟩
theorem callable_42 : Callable Try.prog 42 := ⟨Try.f42, Try.func42, by kernel_rfl, rfl⟩
theorem callable_43 : Callable Try.prog 43 := ⟨Try.f43, Try.func43, by kernel_rfl, rfl⟩
theorem callable_44 : Callable Try.prog 44 := ⟨Try.f44, Try.func44, by kernel_rfl, rfl⟩
theorem callable_45 : Callable Try.prog 45 := ⟨Try.f45, Try.func45, by kernel_rfl, rfl⟩
theorem callable_46 : Callable Try.prog 46 := ⟨Try.f46, Try.func46, by kernel_rfl, rfl⟩
theorem callable_47 : Callable Try.prog 47 := ⟨Try.f47, Try.func47, by kernel_rfl, rfl⟩
theorem callable_48 : Callable Try.prog 48 := ⟨Try.f48, Try.func48, by kernel_rfl, rfl⟩
theorem callable_49 : Callable Try.prog 49 := ⟨Try.f49, Try.func49, by kernel_rfl, rfl⟩
theorem callable_50 : Callable Try.prog 50 := ⟨Try.f50, Try.func50, by kernel_rfl, rfl⟩
theorem callable_51 : Callable Try.prog 51 := ⟨Try.f51, Try.func51, by kernel_rfl, rfl⟩
theorem callable_52 : Callable Try.prog 52 := ⟨Try.f52, Try.func52, by kernel_rfl, rfl⟩
theorem callable_53 : Callable Try.prog 53 := ⟨Try.f53, Try.func53, by kernel_rfl, rfl⟩
theorem callable_54 : Callable Try.prog 54 := ⟨Try.f54, Try.func54, by kernel_rfl, rfl⟩
theorem callable_55 : Callable Try.prog 55 := ⟨Try.f55, Try.func55, by kernel_rfl, rfl⟩
theorem callable_56 : Callable Try.prog 56 := ⟨Try.f56, Try.func56, by kernel_rfl, rfl⟩
theorem callable_57 : Callable Try.prog 57 := ⟨Try.f57, Try.func57, by kernel_rfl, rfl⟩
theorem callable_59 : Callable Try.prog 59 := ⟨Try.f59, Try.func59, by kernel_rfl, rfl⟩
theorem callable_60 : Callable Try.prog 60 := ⟨Try.f60, Try.func60, by kernel_rfl, rfl⟩
theorem callable_61 : Callable Try.prog 61 := ⟨Try.f61, Try.func61, by kernel_rfl, rfl⟩
theorem callable_62 : Callable Try.prog 62 := ⟨Try.f62, Try.func62, by kernel_rfl, rfl⟩
theorem callable_63 : Callable Try.prog 63 := ⟨Try.f63, Try.func63, by kernel_rfl, rfl⟩
theorem callable_64 : Callable Try.prog 64 := ⟨Try.f64, Try.func64, by kernel_rfl, rfl⟩
theorem callable_65 : Callable Try.prog 65 := ⟨Try.f65, Try.func65, by kernel_rfl, rfl⟩
theorem callable_66 : Callable Try.prog 66 := ⟨Try.f66, Try.func66, by kernel_rfl, rfl⟩
theorem callable_67 : Callable Try.prog 67 := ⟨Try.f67, Try.func67, by kernel_rfl, rfl⟩
theorem callable_68 : Callable Try.prog 68 := ⟨Try.f68, Try.func68, by kernel_rfl, rfl⟩
theorem callable_69 : Callable Try.prog 69 := ⟨Try.f69, Try.func69, by kernel_rfl, rfl⟩
theorem callable_70 : Callable Try.prog 70 := ⟨Try.f70, Try.func70, by kernel_rfl, rfl⟩
theorem callable_71 : Callable Try.prog 71 := ⟨Try.f71, Try.func71, by kernel_rfl, rfl⟩
theorem callable_72 : Callable Try.prog 72 := ⟨Try.f72, Try.func72, by kernel_rfl, rfl⟩
theorem callable_73 : Callable Try.prog 73 := ⟨Try.f73, Try.func73, by kernel_rfl, rfl⟩
end Go.Proofs.Ytcjfidfealifhaa
