/- What is known of the types of this program: a table, and that it is the program's. Printed by tab.py. -/
import Derived.Test.YtkfkdhjelncfhaaDoorProg
import Derived.Test.YtkfkdhjelncfhaaDoorVg0
import Derived.KernelRfl
set_option maxRecDepth 100000
namespace Go.Proofs.YtkfkdhjelncfhaaDoor
open Go Go.Proofs.YtkfkdhjelncfhaaDoor.Vm
def ti0 : TI := { desc := .tuple #[], size := 1, bytes := 0, zero := .tuple #[], cmp := false, eqOk := false }
def ti1 : TI := { desc := .func #[] #[] false, size := 1, bytes := 8, zero := .nilFunc, cmp := false, eqOk := false }
def ti2 : TI := { desc := .int .i64, size := 1, bytes := 8, zero := .int .i64 0, cmp := true, eqOk := false }
def ti3 : TI := { desc := .int .i64, size := 1, bytes := 8, zero := .int .i64 0, cmp := true, eqOk := false }
def ti4 : TI := { desc := .bool, size := 1, bytes := 1, zero := .bool false, cmp := true, eqOk := false }
def ti5 : TI := { desc := .int .u8, size := 1, bytes := 1, zero := .int .u8 0, cmp := true, eqOk := false }
def ti6 : TI := { desc := .int .u8, size := 1, bytes := 1, zero := .int .u8 0, cmp := true, eqOk := false }
def ti7 : TI := { desc := .struct #[⟨ "x", 2, 0, false, "", "runtime", 0⟩, ⟨ "y", 3, 1, false, "", "runtime", 8⟩, ⟨ "signed", 4, 2, false, "", "runtime", 16⟩, ⟨ "code", 6, 3, false, "", "runtime", 17⟩], size := 4, bytes := 24, zero := .agg #[.int .i64 0, .int .i64 0, .bool false, .int .u8 0], cmp := true, eqOk := false }
def ti8 : TI := { desc := .struct #[⟨ "x", 2, 0, false, "", "runtime", 0⟩, ⟨ "y", 3, 1, false, "", "runtime", 8⟩, ⟨ "signed", 4, 2, false, "", "runtime", 16⟩, ⟨ "code", 6, 3, false, "", "runtime", 17⟩], size := 4, bytes := 24, zero := .agg #[.int .i64 0, .int .i64 0, .bool false, .int .u8 0], cmp := true, eqOk := false }
def ti9 : TI := { desc := .string, size := 1, bytes := 16, zero := .string ⟨#[]⟩, cmp := true, eqOk := false }
def ti10 : TI := { desc := .string, size := 1, bytes := 16, zero := .string ⟨#[]⟩, cmp := true, eqOk := false }
def ti11 : TI := { desc := .string, size := 1, bytes := 16, zero := .string ⟨#[]⟩, cmp := true, eqOk := false }
def ti12 : TI := { desc := .int .u64, size := 1, bytes := 8, zero := .int .u64 0, cmp := true, eqOk := false }
def ti13 : TI := { desc := .struct #[⟨ "msg", 9, 0, false, "", "runtime", 0⟩, ⟨ "addr", 12, 1, false, "", "runtime", 16⟩], size := 2, bytes := 24, zero := .agg #[.string ⟨#[]⟩, .int .u64 0], cmp := true, eqOk := false }
def ti14 : TI := { desc := .struct #[⟨ "msg", 9, 0, false, "", "runtime", 0⟩, ⟨ "addr", 12, 1, false, "", "runtime", 16⟩], size := 2, bytes := 24, zero := .agg #[.string ⟨#[]⟩, .int .u64 0], cmp := true, eqOk := false }
def ti15 : TI := { desc := .pointer 89, size := 1, bytes := 8, zero := .pointer none, cmp := true, eqOk := false }
def ti16 : TI := { desc := .pointer 92, size := 1, bytes := 8, zero := .pointer none, cmp := true, eqOk := false }
def ti17 : TI := { desc := .pointer 102, size := 1, bytes := 8, zero := .pointer none, cmp := true, eqOk := false }
def ti18 : TI := { desc := .struct #[⟨ "typ", 17, 0, false, "", "internal/runtime/maps", 0⟩], size := 1, bytes := 8, zero := .agg #[.pointer none], cmp := true, eqOk := false }
def ti19 : TI := { desc := .struct #[⟨ "typ", 17, 0, false, "", "internal/runtime/maps", 0⟩], size := 1, bytes := 8, zero := .agg #[.pointer none], cmp := true, eqOk := false }
def ti20 : TI := { desc := .interface #[], size := 1, bytes := 16, zero := .nilIface, cmp := true, eqOk := false }
def ti21 : TI := { desc := .int .i32, size := 1, bytes := 4, zero := .int .i32 0, cmp := true, eqOk := false }
def ti22 : TI := { desc := .int .i64, size := 1, bytes := 8, zero := .int .i64 0, cmp := true, eqOk := false }
def ti23 : TI := { desc := .tuple #[9, 22], size := 1, bytes := 0, zero := .tuple #[.string ⟨#[]⟩, .int .i64 0], cmp := false, eqOk := false }
def ti24 : TI := { desc := .func #[3] #[9, 22] false, size := 1, bytes := 8, zero := .nilFunc, cmp := false, eqOk := false }
def ti25 : TI := { desc := .tuple #[9, 3], size := 1, bytes := 0, zero := .tuple #[.string ⟨#[]⟩, .int .i64 0], cmp := false, eqOk := false }
def ti26 : TI := { desc := .func #[3] #[9, 3] false, size := 1, bytes := 8, zero := .nilFunc, cmp := false, eqOk := false }
def ti27 : TI := { desc := .func #[22] #[3] false, size := 1, bytes := 8, zero := .nilFunc, cmp := false, eqOk := false }
def ti28 : TI := { desc := .tuple #[3, 3, 22], size := 1, bytes := 0, zero := .tuple #[.int .i64 0, .int .i64 0, .int .i64 0], cmp := false, eqOk := false }
def ti29 : TI := { desc := .func #[9, 3] #[3, 3, 22] false, size := 1, bytes := 8, zero := .nilFunc, cmp := false, eqOk := false }
def ti30 : TI := { desc := .tuple #[3, 3, 3], size := 1, bytes := 0, zero := .tuple #[.int .i64 0, .int .i64 0, .int .i64 0], cmp := false, eqOk := false }
def ti31 : TI := { desc := .func #[9, 3] #[3, 3, 3] false, size := 1, bytes := 8, zero := .nilFunc, cmp := false, eqOk := false }
def ti32 : TI := { desc := .func #[9] #[9, 22] false, size := 1, bytes := 8, zero := .nilFunc, cmp := false, eqOk := false }
def ti33 : TI := { desc := .func #[9] #[9, 3] false, size := 1, bytes := 8, zero := .nilFunc, cmp := false, eqOk := false }
def ti34 : TI := { desc := .tuple #[9, 3, 22], size := 1, bytes := 0, zero := .tuple #[.string ⟨#[]⟩, .int .i64 0, .int .i64 0], cmp := false, eqOk := false }
def ti35 : TI := { desc := .func #[9, 3] #[9, 3, 22] false, size := 1, bytes := 8, zero := .nilFunc, cmp := false, eqOk := false }
def ti36 : TI := { desc := .tuple #[9, 3, 3], size := 1, bytes := 0, zero := .tuple #[.string ⟨#[]⟩, .int .i64 0, .int .i64 0], cmp := false, eqOk := false }
def ti37 : TI := { desc := .func #[9, 3] #[9, 3, 3] false, size := 1, bytes := 8, zero := .nilFunc, cmp := false, eqOk := false }
def ti38 : TI := { desc := .func #[] #[4] false, size := 1, bytes := 8, zero := .nilFunc, cmp := false, eqOk := false }
def ti39 : TI := { desc := .func #[3, 9, 3] #[4] false, size := 1, bytes := 8, zero := .nilFunc, cmp := false, eqOk := false }
def ti40 : TI := { desc := .func #[3, 3] #[4] false, size := 1, bytes := 8, zero := .nilFunc, cmp := false, eqOk := false }
def ti41 : TI := { desc := .int .u64, size := 1, bytes := 8, zero := .int .u64 0, cmp := true, eqOk := false }
def ti42 : TI := { desc := .slice 3, size := 1, bytes := 24, zero := .slice none 0 0, cmp := false, eqOk := false }
def ti43 : TI := { desc := .slice 9, size := 1, bytes := 24, zero := .slice none 0 0, cmp := false, eqOk := false }
def ti44 : TI := { desc := .func #[42, 43] #[4] false, size := 1, bytes := 8, zero := .nilFunc, cmp := false, eqOk := false }
def ti45 : TI := { desc := .slice 5, size := 1, bytes := 24, zero := .slice none 0 0, cmp := false, eqOk := false }
def ti46 : TI := { desc := .func #[3] #[4] false, size := 1, bytes := 8, zero := .nilFunc, cmp := false, eqOk := false }
def ti47 : TI := { desc := .func #[3] #[3] false, size := 1, bytes := 8, zero := .nilFunc, cmp := false, eqOk := false }
def ti48 : TI := { desc := .interface #[("Error", 87)], size := 1, bytes := 16, zero := .nilIface, cmp := true, eqOk := false }
def ti49 : TI := { desc := .interface #[("Error", 87)], size := 1, bytes := 16, zero := .nilIface, cmp := true, eqOk := false }
def ti50 : TI := { desc := .tuple #[3, 3, 49], size := 1, bytes := 0, zero := .tuple #[.int .i64 0, .int .i64 0, .nilIface], cmp := false, eqOk := false }
def ti51 : TI := { desc := .func #[9, 3] #[3, 3, 49] false, size := 1, bytes := 8, zero := .nilFunc, cmp := false, eqOk := false }
def ti52 : TI := { desc := .func #[49] #[22] false, size := 1, bytes := 8, zero := .nilFunc, cmp := false, eqOk := false }
def ti53 : TI := { desc := .func #[42] #[9] true, size := 1, bytes := 8, zero := .nilFunc, cmp := false, eqOk := false }
def ti54 : TI := { desc := .tuple #[9, 3, 49], size := 1, bytes := 0, zero := .tuple #[.string ⟨#[]⟩, .int .i64 0, .nilIface], cmp := false, eqOk := false }
def ti55 : TI := { desc := .func #[9, 3] #[9, 3, 49] false, size := 1, bytes := 8, zero := .nilFunc, cmp := false, eqOk := false }
def ti56 : TI := { desc := .pointer 58, size := 1, bytes := 8, zero := .pointer none, cmp := true, eqOk := false }
def ti57 : TI := { desc := .struct #[⟨ "At", 3, 0, false, "", "", 0⟩, ⟨ "Err", 49, 1, false, "", "", 8⟩], size := 2, bytes := 24, zero := .agg #[.int .i64 0, .nilIface], cmp := true, eqOk := false }
def ti58 : TI := { desc := .struct #[⟨ "At", 3, 0, false, "", "", 0⟩, ⟨ "Err", 49, 1, false, "", "", 8⟩], size := 2, bytes := 24, zero := .agg #[.int .i64 0, .nilIface], cmp := true, eqOk := false }
def ti59 : TI := { desc := .func #[49, 20] #[4] false, size := 1, bytes := 8, zero := .nilFunc, cmp := false, eqOk := false }
def ti60 : TI := { desc := .pointer 22, size := 1, bytes := 8, zero := .pointer none, cmp := true, eqOk := false }
def ti62 : TI := { desc := .int .u64, size := 1, bytes := 8, zero := .int .u64 0, cmp := true, eqOk := false }
def ti63 : TI := { desc := .struct #[⟨ "typ_", 17, 0, false, "", "internal/reflectlite", 0⟩, ⟨ "ptr", 61, 1, false, "", "internal/reflectlite", 8⟩, ⟨ "flag", 62, 2, true, "", "internal/reflectlite", 16⟩], size := 3, bytes := 24, zero := .agg #[.pointer none, .pointer none, .int .u64 0], cmp := true, eqOk := false }
def ti64 : TI := { desc := .struct #[⟨ "typ_", 17, 0, false, "", "internal/reflectlite", 0⟩, ⟨ "ptr", 61, 1, false, "", "internal/reflectlite", 8⟩, ⟨ "flag", 62, 2, true, "", "internal/reflectlite", 16⟩], size := 3, bytes := 24, zero := .agg #[.pointer none, .pointer none, .int .u64 0], cmp := true, eqOk := false }
def ti65 : TI := { desc := .func #[20] #[64] false, size := 1, bytes := 8, zero := .nilFunc, cmp := false, eqOk := false }
def ti66 : TI := { desc := .interface #[("AssignableTo", 71), ("Comparable", 38), ("Elem", 68), ("Implements", 71), ("Kind", 70), ("Name", 87), ("PkgPath", 87), ("Size", 103), ("String", 87), ("internal/reflectlite.common", 94), ("internal/reflectlite.uncommon", 104)], size := 1, bytes := 16, zero := .nilIface, cmp := true, eqOk := false }
def ti67 : TI := { desc := .interface #[("AssignableTo", 71), ("Comparable", 38), ("Elem", 68), ("Implements", 71), ("Kind", 70), ("Name", 87), ("PkgPath", 87), ("Size", 103), ("String", 87), ("internal/reflectlite.common", 94), ("internal/reflectlite.uncommon", 104)], size := 1, bytes := 16, zero := .nilIface, cmp := true, eqOk := false }
def ti68 : TI := { desc := .func #[] #[67] false, size := 1, bytes := 8, zero := .nilFunc, cmp := false, eqOk := false }
def ti69 : TI := { desc := .int .u8, size := 1, bytes := 1, zero := .int .u8 0, cmp := true, eqOk := false }
def ti70 : TI := { desc := .func #[] #[69] false, size := 1, bytes := 8, zero := .nilFunc, cmp := false, eqOk := false }
def ti71 : TI := { desc := .func #[67] #[4] false, size := 1, bytes := 8, zero := .nilFunc, cmp := false, eqOk := false }
def ti72 : TI := { desc := .func #[49, 20, 64, 67] #[4] false, size := 1, bytes := 8, zero := .nilFunc, cmp := false, eqOk := false }
def ti73 : TI := { desc := .struct #[⟨ "Type", 17, 0, true, "", "", 0⟩], size := 1, bytes := 8, zero := .agg #[.pointer none], cmp := true, eqOk := false }
def ti74 : TI := { desc := .struct #[⟨ "Type", 17, 0, true, "", "", 0⟩], size := 1, bytes := 8, zero := .agg #[.pointer none], cmp := true, eqOk := false }
def ti75 : TI := { desc := .pointer 106, size := 1, bytes := 8, zero := .pointer none, cmp := true, eqOk := false }
def ti76 : TI := { desc := .func #[20] #[67] false, size := 1, bytes := 8, zero := .nilFunc, cmp := false, eqOk := false }
def ti77 : TI := { desc := .func #[] #[64] false, size := 1, bytes := 8, zero := .nilFunc, cmp := false, eqOk := false }
def ti78 : TI := { desc := .func #[64] #[] false, size := 1, bytes := 8, zero := .nilFunc, cmp := false, eqOk := false }
def ti79 : TI := { desc := .interface #[("As", 81)], size := 1, bytes := 16, zero := .nilIface, cmp := true, eqOk := false }
def ti80 : TI := { desc := .tuple #[79, 4], size := 1, bytes := 0, zero := .tuple #[.nilIface, .bool false], cmp := false, eqOk := false }
def ti81 : TI := { desc := .func #[20] #[4] false, size := 1, bytes := 8, zero := .nilFunc, cmp := false, eqOk := false }
def ti82 : TI := { desc := .interface #[("Unwrap", 83)], size := 1, bytes := 16, zero := .nilIface, cmp := true, eqOk := false }
def ti83 : TI := { desc := .func #[] #[49] false, size := 1, bytes := 8, zero := .nilFunc, cmp := false, eqOk := false }
def ti84 : TI := { desc := .interface #[("Unwrap", 86)], size := 1, bytes := 16, zero := .nilIface, cmp := true, eqOk := false }
def ti85 : TI := { desc := .slice 49, size := 1, bytes := 24, zero := .slice none 0 0, cmp := false, eqOk := false }
def ti86 : TI := { desc := .func #[] #[85] false, size := 1, bytes := 8, zero := .nilFunc, cmp := false, eqOk := false }
def ti87 : TI := { desc := .func #[] #[9] false, size := 1, bytes := 8, zero := .nilFunc, cmp := false, eqOk := false }
def ti88 : TI := { desc := .struct #[⟨ "_interface", 17, 0, false, "", "runtime", 0⟩, ⟨ "concrete", 17, 1, false, "", "runtime", 8⟩, ⟨ "asserted", 17, 2, false, "", "runtime", 16⟩, ⟨ "missingMethod", 9, 3, false, "", "runtime", 24⟩], size := 4, bytes := 40, zero := .agg #[.pointer none, .pointer none, .pointer none, .string ⟨#[]⟩], cmp := true, eqOk := false }
def ti89 : TI := { desc := .struct #[⟨ "_interface", 17, 0, false, "", "runtime", 0⟩, ⟨ "concrete", 17, 1, false, "", "runtime", 8⟩, ⟨ "asserted", 17, 2, false, "", "runtime", 16⟩, ⟨ "missingMethod", 9, 3, false, "", "runtime", 24⟩], size := 4, bytes := 40, zero := .agg #[.pointer none, .pointer none, .pointer none, .string ⟨#[]⟩], cmp := true, eqOk := false }
def ti90 : TI := { desc := .array 0 16, size := 0, bytes := 0, zero := .agg #[], cmp := true, eqOk := false }
def ti91 : TI := { desc := .struct #[⟨ "_", 90, 0, false, "", "runtime", 0⟩], size := 0, bytes := 0, zero := .agg #[], cmp := true, eqOk := false }
def ti92 : TI := { desc := .struct #[⟨ "_", 90, 0, false, "", "runtime", 0⟩], size := 0, bytes := 0, zero := .agg #[], cmp := true, eqOk := false }
def ti93 : TI := { desc := .func #[] #[3] false, size := 1, bytes := 8, zero := .nilFunc, cmp := false, eqOk := false }
def ti94 : TI := { desc := .func #[] #[17] false, size := 1, bytes := 8, zero := .nilFunc, cmp := false, eqOk := false }
def ti95 : TI := { desc := .int .u32, size := 1, bytes := 4, zero := .int .u32 0, cmp := true, eqOk := false }
def ti96 : TI := { desc := .int .u8, size := 1, bytes := 1, zero := .int .u8 0, cmp := true, eqOk := false }
def ti97 : TI := { desc := .func #[61, 61] #[4] false, size := 1, bytes := 8, zero := .nilFunc, cmp := false, eqOk := false }
def ti98 : TI := { desc := .pointer 5, size := 1, bytes := 8, zero := .pointer none, cmp := true, eqOk := false }
def ti99 : TI := { desc := .int .i32, size := 1, bytes := 4, zero := .int .i32 0, cmp := true, eqOk := false }
def ti100 : TI := { desc := .int .i32, size := 1, bytes := 4, zero := .int .i32 0, cmp := true, eqOk := false }
def ti101 : TI := { desc := .struct #[⟨ "Size_", 12, 0, false, "", "", 0⟩, ⟨ "PtrBytes", 12, 1, false, "", "", 8⟩, ⟨ "Hash", 95, 2, false, "", "", 16⟩, ⟨ "TFlag", 96, 3, false, "", "", 20⟩, ⟨ "Align_", 5, 4, false, "", "", 21⟩, ⟨ "FieldAlign_", 5, 5, false, "", "", 22⟩, ⟨ "Kind_", 69, 6, false, "", "", 23⟩, ⟨ "Equal", 97, 7, false, "", "", 24⟩, ⟨ "GCData", 98, 8, false, "", "", 32⟩, ⟨ "Str", 99, 9, false, "", "", 40⟩, ⟨ "PtrToThis", 100, 10, false, "", "", 44⟩], size := 11, bytes := 48, zero := .agg #[.int .u64 0, .int .u64 0, .int .u32 0, .int .u8 0, .int .u8 0, .int .u8 0, .int .u8 0, .nilFunc, .pointer none, .int .i32 0, .int .i32 0], cmp := false, eqOk := false }
def ti102 : TI := { desc := .struct #[⟨ "Size_", 12, 0, false, "", "", 0⟩, ⟨ "PtrBytes", 12, 1, false, "", "", 8⟩, ⟨ "Hash", 95, 2, false, "", "", 16⟩, ⟨ "TFlag", 96, 3, false, "", "", 20⟩, ⟨ "Align_", 5, 4, false, "", "", 21⟩, ⟨ "FieldAlign_", 5, 5, false, "", "", 22⟩, ⟨ "Kind_", 69, 6, false, "", "", 23⟩, ⟨ "Equal", 97, 7, false, "", "", 24⟩, ⟨ "GCData", 98, 8, false, "", "", 32⟩, ⟨ "Str", 99, 9, false, "", "", 40⟩, ⟨ "PtrToThis", 100, 10, false, "", "", 44⟩], size := 11, bytes := 48, zero := .agg #[.int .u64 0, .int .u64 0, .int .u32 0, .int .u8 0, .int .u8 0, .int .u8 0, .int .u8 0, .nilFunc, .pointer none, .int .i32 0, .int .i32 0], cmp := false, eqOk := false }
def ti103 : TI := { desc := .func #[] #[12] false, size := 1, bytes := 8, zero := .nilFunc, cmp := false, eqOk := false }
def ti104 : TI := { desc := .func #[] #[107] false, size := 1, bytes := 8, zero := .nilFunc, cmp := false, eqOk := false }
def ti105 : TI := { desc := .struct #[⟨ "Method", 9, 0, false, "", "", 0⟩, ⟨ "Kind", 69, 1, false, "", "", 16⟩], size := 2, bytes := 24, zero := .agg #[.string ⟨#[]⟩, .int .u8 0], cmp := true, eqOk := false }
def ti106 : TI := { desc := .struct #[⟨ "Method", 9, 0, false, "", "", 0⟩, ⟨ "Kind", 69, 1, false, "", "", 16⟩], size := 2, bytes := 24, zero := .agg #[.string ⟨#[]⟩, .int .u8 0], cmp := true, eqOk := false }
def ti107 : TI := { desc := .pointer 111, size := 1, bytes := 8, zero := .pointer none, cmp := true, eqOk := false }
def ti108 : TI := { desc := .func #[] #[112] false, size := 1, bytes := 8, zero := .nilFunc, cmp := false, eqOk := false }
def ti109 : TI := { desc := .int .u16, size := 1, bytes := 2, zero := .int .u16 0, cmp := true, eqOk := false }
def ti110 : TI := { desc := .struct #[⟨ "PkgPath", 99, 0, false, "", "", 0⟩, ⟨ "Mcount", 109, 1, false, "", "", 4⟩, ⟨ "Xcount", 109, 2, false, "", "", 6⟩, ⟨ "Moff", 95, 3, false, "", "", 8⟩, ⟨ "_", 95, 4, false, "", "internal/abi", 12⟩], size := 5, bytes := 16, zero := .agg #[.int .i32 0, .int .u16 0, .int .u16 0, .int .u32 0, .int .u32 0], cmp := true, eqOk := false }
def ti111 : TI := { desc := .struct #[⟨ "PkgPath", 99, 0, false, "", "", 0⟩, ⟨ "Mcount", 109, 1, false, "", "", 4⟩, ⟨ "Xcount", 109, 2, false, "", "", 6⟩, ⟨ "Moff", 95, 3, false, "", "", 8⟩, ⟨ "_", 95, 4, false, "", "internal/abi", 12⟩], size := 5, bytes := 16, zero := .agg #[.int .i32 0, .int .u16 0, .int .u16 0, .int .u32 0, .int .u32 0], cmp := true, eqOk := false }
def ti112 : TI := { desc := .slice 115, size := 1, bytes := 24, zero := .slice none 0 0, cmp := false, eqOk := false }
def ti113 : TI := { desc := .int .i32, size := 1, bytes := 4, zero := .int .i32 0, cmp := true, eqOk := false }
def ti114 : TI := { desc := .struct #[⟨ "Name", 99, 0, false, "", "", 0⟩, ⟨ "Mtyp", 100, 1, false, "", "", 4⟩, ⟨ "Ifn", 113, 2, false, "", "", 8⟩, ⟨ "Tfn", 113, 3, false, "", "", 12⟩], size := 4, bytes := 16, zero := .agg #[.int .i32 0, .int .i32 0, .int .i32 0, .int .i32 0], cmp := true, eqOk := false }
def ti115 : TI := { desc := .struct #[⟨ "Name", 99, 0, false, "", "", 0⟩, ⟨ "Mtyp", 100, 1, false, "", "", 4⟩, ⟨ "Ifn", 113, 2, false, "", "", 8⟩, ⟨ "Tfn", 113, 3, false, "", "", 12⟩], size := 4, bytes := 16, zero := .agg #[.int .i32 0, .int .i32 0, .int .i32 0, .int .i32 0], cmp := true, eqOk := false }
def ti116 : TI := { desc := .pointer 49, size := 1, bytes := 8, zero := .pointer none, cmp := true, eqOk := false }
def tys (t : Nat) : Option TI := (bif Nat.ble t 57 then (bif Nat.ble t 28 then (bif Nat.ble t 13 then (bif Nat.ble t 6 then (bif Nat.ble t 2 then (bif Nat.ble t 0 then (bif Nat.beq t 0 then some ti0 else none) else (bif Nat.ble t 1 then (bif Nat.beq t 1 then some ti1 else none) else (bif Nat.beq t 2 then some ti2 else none))) else (bif Nat.ble t 4 then (bif Nat.ble t 3 then (bif Nat.beq t 3 then some ti3 else none) else (bif Nat.beq t 4 then some ti4 else none)) else (bif Nat.ble t 5 then (bif Nat.beq t 5 then some ti5 else none) else (bif Nat.beq t 6 then some ti6 else none)))) else (bif Nat.ble t 9 then (bif Nat.ble t 7 then (bif Nat.beq t 7 then some ti7 else none) else (bif Nat.ble t 8 then (bif Nat.beq t 8 then some ti8 else none) else (bif Nat.beq t 9 then some ti9 else none))) else (bif Nat.ble t 11 then (bif Nat.ble t 10 then (bif Nat.beq t 10 then some ti10 else none) else (bif Nat.beq t 11 then some ti11 else none)) else (bif Nat.ble t 12 then (bif Nat.beq t 12 then some ti12 else none) else (bif Nat.beq t 13 then some ti13 else none))))) else (bif Nat.ble t 20 then (bif Nat.ble t 16 then (bif Nat.ble t 14 then (bif Nat.beq t 14 then some ti14 else none) else (bif Nat.ble t 15 then (bif Nat.beq t 15 then some ti15 else none) else (bif Nat.beq t 16 then some ti16 else none))) else (bif Nat.ble t 18 then (bif Nat.ble t 17 then (bif Nat.beq t 17 then some ti17 else none) else (bif Nat.beq t 18 then some ti18 else none)) else (bif Nat.ble t 19 then (bif Nat.beq t 19 then some ti19 else none) else (bif Nat.beq t 20 then some ti20 else none)))) else (bif Nat.ble t 24 then (bif Nat.ble t 22 then (bif Nat.ble t 21 then (bif Nat.beq t 21 then some ti21 else none) else (bif Nat.beq t 22 then some ti22 else none)) else (bif Nat.ble t 23 then (bif Nat.beq t 23 then some ti23 else none) else (bif Nat.beq t 24 then some ti24 else none))) else (bif Nat.ble t 26 then (bif Nat.ble t 25 then (bif Nat.beq t 25 then some ti25 else none) else (bif Nat.beq t 26 then some ti26 else none)) else (bif Nat.ble t 27 then (bif Nat.beq t 27 then some ti27 else none) else (bif Nat.beq t 28 then some ti28 else none)))))) else (bif Nat.ble t 42 then (bif Nat.ble t 35 then (bif Nat.ble t 31 then (bif Nat.ble t 29 then (bif Nat.beq t 29 then some ti29 else none) else (bif Nat.ble t 30 then (bif Nat.beq t 30 then some ti30 else none) else (bif Nat.beq t 31 then some ti31 else none))) else (bif Nat.ble t 33 then (bif Nat.ble t 32 then (bif Nat.beq t 32 then some ti32 else none) else (bif Nat.beq t 33 then some ti33 else none)) else (bif Nat.ble t 34 then (bif Nat.beq t 34 then some ti34 else none) else (bif Nat.beq t 35 then some ti35 else none)))) else (bif Nat.ble t 38 then (bif Nat.ble t 36 then (bif Nat.beq t 36 then some ti36 else none) else (bif Nat.ble t 37 then (bif Nat.beq t 37 then some ti37 else none) else (bif Nat.beq t 38 then some ti38 else none))) else (bif Nat.ble t 40 then (bif Nat.ble t 39 then (bif Nat.beq t 39 then some ti39 else none) else (bif Nat.beq t 40 then some ti40 else none)) else (bif Nat.ble t 41 then (bif Nat.beq t 41 then some ti41 else none) else (bif Nat.beq t 42 then some ti42 else none))))) else (bif Nat.ble t 49 then (bif Nat.ble t 45 then (bif Nat.ble t 43 then (bif Nat.beq t 43 then some ti43 else none) else (bif Nat.ble t 44 then (bif Nat.beq t 44 then some ti44 else none) else (bif Nat.beq t 45 then some ti45 else none))) else (bif Nat.ble t 47 then (bif Nat.ble t 46 then (bif Nat.beq t 46 then some ti46 else none) else (bif Nat.beq t 47 then some ti47 else none)) else (bif Nat.ble t 48 then (bif Nat.beq t 48 then some ti48 else none) else (bif Nat.beq t 49 then some ti49 else none)))) else (bif Nat.ble t 53 then (bif Nat.ble t 51 then (bif Nat.ble t 50 then (bif Nat.beq t 50 then some ti50 else none) else (bif Nat.beq t 51 then some ti51 else none)) else (bif Nat.ble t 52 then (bif Nat.beq t 52 then some ti52 else none) else (bif Nat.beq t 53 then some ti53 else none))) else (bif Nat.ble t 55 then (bif Nat.ble t 54 then (bif Nat.beq t 54 then some ti54 else none) else (bif Nat.beq t 55 then some ti55 else none)) else (bif Nat.ble t 56 then (bif Nat.beq t 56 then some ti56 else none) else (bif Nat.beq t 57 then some ti57 else none))))))) else (bif Nat.ble t 87 then (bif Nat.ble t 72 then (bif Nat.ble t 65 then (bif Nat.ble t 60 then (bif Nat.ble t 58 then (bif Nat.beq t 58 then some ti58 else none) else (bif Nat.ble t 59 then (bif Nat.beq t 59 then some ti59 else none) else (bif Nat.beq t 60 then some ti60 else none))) else (bif Nat.ble t 63 then (bif Nat.ble t 62 then (bif Nat.beq t 62 then some ti62 else none) else (bif Nat.beq t 63 then some ti63 else none)) else (bif Nat.ble t 64 then (bif Nat.beq t 64 then some ti64 else none) else (bif Nat.beq t 65 then some ti65 else none)))) else (bif Nat.ble t 68 then (bif Nat.ble t 66 then (bif Nat.beq t 66 then some ti66 else none) else (bif Nat.ble t 67 then (bif Nat.beq t 67 then some ti67 else none) else (bif Nat.beq t 68 then some ti68 else none))) else (bif Nat.ble t 70 then (bif Nat.ble t 69 then (bif Nat.beq t 69 then some ti69 else none) else (bif Nat.beq t 70 then some ti70 else none)) else (bif Nat.ble t 71 then (bif Nat.beq t 71 then some ti71 else none) else (bif Nat.beq t 72 then some ti72 else none))))) else (bif Nat.ble t 79 then (bif Nat.ble t 75 then (bif Nat.ble t 73 then (bif Nat.beq t 73 then some ti73 else none) else (bif Nat.ble t 74 then (bif Nat.beq t 74 then some ti74 else none) else (bif Nat.beq t 75 then some ti75 else none))) else (bif Nat.ble t 77 then (bif Nat.ble t 76 then (bif Nat.beq t 76 then some ti76 else none) else (bif Nat.beq t 77 then some ti77 else none)) else (bif Nat.ble t 78 then (bif Nat.beq t 78 then some ti78 else none) else (bif Nat.beq t 79 then some ti79 else none)))) else (bif Nat.ble t 83 then (bif Nat.ble t 81 then (bif Nat.ble t 80 then (bif Nat.beq t 80 then some ti80 else none) else (bif Nat.beq t 81 then some ti81 else none)) else (bif Nat.ble t 82 then (bif Nat.beq t 82 then some ti82 else none) else (bif Nat.beq t 83 then some ti83 else none))) else (bif Nat.ble t 85 then (bif Nat.ble t 84 then (bif Nat.beq t 84 then some ti84 else none) else (bif Nat.beq t 85 then some ti85 else none)) else (bif Nat.ble t 86 then (bif Nat.beq t 86 then some ti86 else none) else (bif Nat.beq t 87 then some ti87 else none)))))) else (bif Nat.ble t 101 then (bif Nat.ble t 94 then (bif Nat.ble t 90 then (bif Nat.ble t 88 then (bif Nat.beq t 88 then some ti88 else none) else (bif Nat.ble t 89 then (bif Nat.beq t 89 then some ti89 else none) else (bif Nat.beq t 90 then some ti90 else none))) else (bif Nat.ble t 92 then (bif Nat.ble t 91 then (bif Nat.beq t 91 then some ti91 else none) else (bif Nat.beq t 92 then some ti92 else none)) else (bif Nat.ble t 93 then (bif Nat.beq t 93 then some ti93 else none) else (bif Nat.beq t 94 then some ti94 else none)))) else (bif Nat.ble t 97 then (bif Nat.ble t 95 then (bif Nat.beq t 95 then some ti95 else none) else (bif Nat.ble t 96 then (bif Nat.beq t 96 then some ti96 else none) else (bif Nat.beq t 97 then some ti97 else none))) else (bif Nat.ble t 99 then (bif Nat.ble t 98 then (bif Nat.beq t 98 then some ti98 else none) else (bif Nat.beq t 99 then some ti99 else none)) else (bif Nat.ble t 100 then (bif Nat.beq t 100 then some ti100 else none) else (bif Nat.beq t 101 then some ti101 else none))))) else (bif Nat.ble t 108 then (bif Nat.ble t 104 then (bif Nat.ble t 102 then (bif Nat.beq t 102 then some ti102 else none) else (bif Nat.ble t 103 then (bif Nat.beq t 103 then some ti103 else none) else (bif Nat.beq t 104 then some ti104 else none))) else (bif Nat.ble t 106 then (bif Nat.ble t 105 then (bif Nat.beq t 105 then some ti105 else none) else (bif Nat.beq t 106 then some ti106 else none)) else (bif Nat.ble t 107 then (bif Nat.beq t 107 then some ti107 else none) else (bif Nat.beq t 108 then some ti108 else none)))) else (bif Nat.ble t 112 then (bif Nat.ble t 110 then (bif Nat.ble t 109 then (bif Nat.beq t 109 then some ti109 else none) else (bif Nat.beq t 110 then some ti110 else none)) else (bif Nat.ble t 111 then (bif Nat.beq t 111 then some ti111 else none) else (bif Nat.beq t 112 then some ti112 else none))) else (bif Nat.ble t 114 then (bif Nat.ble t 113 then (bif Nat.beq t 113 then some ti113 else none) else (bif Nat.beq t 114 then some ti114 else none)) else (bif Nat.ble t 115 then (bif Nat.beq t 115 then some ti115 else none) else (bif Nat.beq t 116 then some ti116 else none))))))))
theorem tys_0 : tys 0 = some ti0 := rfl
theorem tys_1 : tys 1 = some ti1 := rfl
theorem tys_2 : tys 2 = some ti2 := rfl
theorem tys_3 : tys 3 = some ti3 := rfl
theorem tys_4 : tys 4 = some ti4 := rfl
theorem tys_5 : tys 5 = some ti5 := rfl
theorem tys_6 : tys 6 = some ti6 := rfl
theorem tys_7 : tys 7 = some ti7 := rfl
theorem tys_8 : tys 8 = some ti8 := rfl
theorem tys_9 : tys 9 = some ti9 := rfl
theorem tys_10 : tys 10 = some ti10 := rfl
theorem tys_11 : tys 11 = some ti11 := rfl
theorem tys_12 : tys 12 = some ti12 := rfl
theorem tys_13 : tys 13 = some ti13 := rfl
theorem tys_14 : tys 14 = some ti14 := rfl
theorem tys_15 : tys 15 = some ti15 := rfl
theorem tys_16 : tys 16 = some ti16 := rfl
theorem tys_17 : tys 17 = some ti17 := rfl
theorem tys_18 : tys 18 = some ti18 := rfl
theorem tys_19 : tys 19 = some ti19 := rfl
theorem tys_20 : tys 20 = some ti20 := rfl
theorem tys_21 : tys 21 = some ti21 := rfl
theorem tys_22 : tys 22 = some ti22 := rfl
theorem tys_23 : tys 23 = some ti23 := rfl
theorem tys_24 : tys 24 = some ti24 := rfl
theorem tys_25 : tys 25 = some ti25 := rfl
theorem tys_26 : tys 26 = some ti26 := rfl
theorem tys_27 : tys 27 = some ti27 := rfl
theorem tys_28 : tys 28 = some ti28 := rfl
theorem tys_29 : tys 29 = some ti29 := rfl
theorem tys_30 : tys 30 = some ti30 := rfl
theorem tys_31 : tys 31 = some ti31 := rfl
theorem tys_32 : tys 32 = some ti32 := rfl
theorem tys_33 : tys 33 = some ti33 := rfl
theorem tys_34 : tys 34 = some ti34 := rfl
theorem tys_35 : tys 35 = some ti35 := rfl
theorem tys_36 : tys 36 = some ti36 := rfl
theorem tys_37 : tys 37 = some ti37 := rfl
theorem tys_38 : tys 38 = some ti38 := rfl
theorem tys_39 : tys 39 = some ti39 := rfl
theorem tys_40 : tys 40 = some ti40 := rfl
theorem tys_41 : tys 41 = some ti41 := rfl
theorem tys_42 : tys 42 = some ti42 := rfl
theorem tys_43 : tys 43 = some ti43 := rfl
theorem tys_44 : tys 44 = some ti44 := rfl
theorem tys_45 : tys 45 = some ti45 := rfl
theorem tys_46 : tys 46 = some ti46 := rfl
theorem tys_47 : tys 47 = some ti47 := rfl
theorem tys_48 : tys 48 = some ti48 := rfl
theorem tys_49 : tys 49 = some ti49 := rfl
theorem tys_50 : tys 50 = some ti50 := rfl
theorem tys_51 : tys 51 = some ti51 := rfl
theorem tys_52 : tys 52 = some ti52 := rfl
theorem tys_53 : tys 53 = some ti53 := rfl
theorem tys_54 : tys 54 = some ti54 := rfl
theorem tys_55 : tys 55 = some ti55 := rfl
theorem tys_56 : tys 56 = some ti56 := rfl
theorem tys_57 : tys 57 = some ti57 := rfl
theorem tys_58 : tys 58 = some ti58 := rfl
theorem tys_59 : tys 59 = some ti59 := rfl
theorem tys_60 : tys 60 = some ti60 := rfl
theorem tys_62 : tys 62 = some ti62 := rfl
theorem tys_63 : tys 63 = some ti63 := rfl
theorem tys_64 : tys 64 = some ti64 := rfl
theorem tys_65 : tys 65 = some ti65 := rfl
theorem tys_66 : tys 66 = some ti66 := rfl
theorem tys_67 : tys 67 = some ti67 := rfl
theorem tys_68 : tys 68 = some ti68 := rfl
theorem tys_69 : tys 69 = some ti69 := rfl
theorem tys_70 : tys 70 = some ti70 := rfl
theorem tys_71 : tys 71 = some ti71 := rfl
theorem tys_72 : tys 72 = some ti72 := rfl
theorem tys_73 : tys 73 = some ti73 := rfl
theorem tys_74 : tys 74 = some ti74 := rfl
theorem tys_75 : tys 75 = some ti75 := rfl
theorem tys_76 : tys 76 = some ti76 := rfl
theorem tys_77 : tys 77 = some ti77 := rfl
theorem tys_78 : tys 78 = some ti78 := rfl
theorem tys_79 : tys 79 = some ti79 := rfl
theorem tys_80 : tys 80 = some ti80 := rfl
theorem tys_81 : tys 81 = some ti81 := rfl
theorem tys_82 : tys 82 = some ti82 := rfl
theorem tys_83 : tys 83 = some ti83 := rfl
theorem tys_84 : tys 84 = some ti84 := rfl
theorem tys_85 : tys 85 = some ti85 := rfl
theorem tys_86 : tys 86 = some ti86 := rfl
theorem tys_87 : tys 87 = some ti87 := rfl
theorem tys_88 : tys 88 = some ti88 := rfl
theorem tys_89 : tys 89 = some ti89 := rfl
theorem tys_90 : tys 90 = some ti90 := rfl
theorem tys_91 : tys 91 = some ti91 := rfl
theorem tys_92 : tys 92 = some ti92 := rfl
theorem tys_93 : tys 93 = some ti93 := rfl
theorem tys_94 : tys 94 = some ti94 := rfl
theorem tys_95 : tys 95 = some ti95 := rfl
theorem tys_96 : tys 96 = some ti96 := rfl
theorem tys_97 : tys 97 = some ti97 := rfl
theorem tys_98 : tys 98 = some ti98 := rfl
theorem tys_99 : tys 99 = some ti99 := rfl
theorem tys_100 : tys 100 = some ti100 := rfl
theorem tys_101 : tys 101 = some ti101 := rfl
theorem tys_102 : tys 102 = some ti102 := rfl
theorem tys_103 : tys 103 = some ti103 := rfl
theorem tys_104 : tys 104 = some ti104 := rfl
theorem tys_105 : tys 105 = some ti105 := rfl
theorem tys_106 : tys 106 = some ti106 := rfl
theorem tys_107 : tys 107 = some ti107 := rfl
theorem tys_108 : tys 108 = some ti108 := rfl
theorem tys_109 : tys 109 = some ti109 := rfl
theorem tys_110 : tys 110 = some ti110 := rfl
theorem tys_111 : tys 111 = some ti111 := rfl
theorem tys_112 : tys 112 = some ti112 := rfl
theorem tys_113 : tys 113 = some ti113 := rfl
theorem tys_114 : tys 114 = some ti114 := rfl
theorem tys_115 : tys 115 = some ti115 := rfl
theorem tys_116 : tys 116 = some ti116 := rfl
theorem one_0 : One Tryd.prog 0 ti0 := ⟨by kernel_rfl, by kernel_rfl, fun _ => vrel_tuple lrel_nil, (fun h => by cases h), rfl⟩
theorem one_1 : One Tryd.prog 1 ti1 := ⟨by kernel_rfl, by kernel_rfl, fun _ => .nilFunc, (fun h => by cases h), rfl⟩
theorem one_2 : One Tryd.prog 2 ti2 := ⟨by kernel_rfl, by kernel_rfl, fun _ => .int _ _, (fun h => by cases h), rfl⟩
theorem one_3 : One Tryd.prog 3 ti3 := ⟨by kernel_rfl, by kernel_rfl, fun _ => .int _ _, (fun h => by cases h), rfl⟩
theorem one_4 : One Tryd.prog 4 ti4 := ⟨by kernel_rfl, by kernel_rfl, fun _ => .bool _, (fun h => by cases h), rfl⟩
theorem one_5 : One Tryd.prog 5 ti5 := ⟨by kernel_rfl, by kernel_rfl, fun _ => .int _ _, (fun h => by cases h), rfl⟩
theorem one_6 : One Tryd.prog 6 ti6 := ⟨by kernel_rfl, by kernel_rfl, fun _ => .int _ _, (fun h => by cases h), rfl⟩
theorem one_7 : One Tryd.prog 7 ti7 := ⟨by kernel_rfl, by kernel_rfl, fun _ => vrel_agg (lrel_cons (.int _ _) (lrel_cons (.int _ _) (lrel_cons (.bool _) (lrel_cons (.int _ _) lrel_nil)))), (fun h => by cases h), rfl⟩
theorem one_8 : One Tryd.prog 8 ti8 := ⟨by kernel_rfl, by kernel_rfl, fun _ => vrel_agg (lrel_cons (.int _ _) (lrel_cons (.int _ _) (lrel_cons (.bool _) (lrel_cons (.int _ _) lrel_nil)))), (fun h => by cases h), rfl⟩
theorem one_9 : One Tryd.prog 9 ti9 := ⟨by kernel_rfl, by kernel_rfl, fun _ => .string _, (fun h => by cases h), rfl⟩
theorem one_10 : One Tryd.prog 10 ti10 := ⟨by kernel_rfl, by kernel_rfl, fun _ => .string _, (fun h => by cases h), rfl⟩
theorem one_11 : One Tryd.prog 11 ti11 := ⟨by kernel_rfl, by kernel_rfl, fun _ => .string _, (fun h => by cases h), rfl⟩
theorem one_12 : One Tryd.prog 12 ti12 := ⟨by kernel_rfl, by kernel_rfl, fun _ => .int _ _, (fun h => by cases h), rfl⟩
theorem one_13 : One Tryd.prog 13 ti13 := ⟨by kernel_rfl, by kernel_rfl, fun _ => vrel_agg (lrel_cons (.string _) (lrel_cons (.int _ _) lrel_nil)), (fun h => by cases h), rfl⟩
theorem one_14 : One Tryd.prog 14 ti14 := ⟨by kernel_rfl, by kernel_rfl, fun _ => vrel_agg (lrel_cons (.string _) (lrel_cons (.int _ _) lrel_nil)), (fun h => by cases h), rfl⟩
theorem one_15 : One Tryd.prog 15 ti15 := ⟨by kernel_rfl, by kernel_rfl, fun _ => .nilPtr, (fun h => by cases h), rfl⟩
theorem one_16 : One Tryd.prog 16 ti16 := ⟨by kernel_rfl, by kernel_rfl, fun _ => .nilPtr, (fun h => by cases h), rfl⟩
theorem one_17 : One Tryd.prog 17 ti17 := ⟨by kernel_rfl, by kernel_rfl, fun _ => .nilPtr, (fun h => by cases h), rfl⟩
theorem one_18 : One Tryd.prog 18 ti18 := ⟨by kernel_rfl, by kernel_rfl, fun _ => vrel_agg (lrel_cons (.nilPtr) lrel_nil), (fun h => by cases h), rfl⟩
theorem one_19 : One Tryd.prog 19 ti19 := ⟨by kernel_rfl, by kernel_rfl, fun _ => vrel_agg (lrel_cons (.nilPtr) lrel_nil), (fun h => by cases h), rfl⟩
theorem one_20 : One Tryd.prog 20 ti20 := ⟨by kernel_rfl, by kernel_rfl, fun _ => .nilIface, (fun h => by cases h), rfl⟩
theorem one_21 : One Tryd.prog 21 ti21 := ⟨by kernel_rfl, by kernel_rfl, fun _ => .int _ _, (fun h => by cases h), rfl⟩
theorem one_22 : One Tryd.prog 22 ti22 := ⟨by kernel_rfl, by kernel_rfl, fun _ => .int _ _, (fun h => by cases h), rfl⟩
theorem one_23 : One Tryd.prog 23 ti23 := ⟨by kernel_rfl, by kernel_rfl, fun _ => vrel_tuple (lrel_cons (.string _) (lrel_cons (.int _ _) lrel_nil)), (fun h => by cases h), rfl⟩
theorem one_24 : One Tryd.prog 24 ti24 := ⟨by kernel_rfl, by kernel_rfl, fun _ => .nilFunc, (fun h => by cases h), rfl⟩
theorem one_25 : One Tryd.prog 25 ti25 := ⟨by kernel_rfl, by kernel_rfl, fun _ => vrel_tuple (lrel_cons (.string _) (lrel_cons (.int _ _) lrel_nil)), (fun h => by cases h), rfl⟩
theorem one_26 : One Tryd.prog 26 ti26 := ⟨by kernel_rfl, by kernel_rfl, fun _ => .nilFunc, (fun h => by cases h), rfl⟩
theorem one_27 : One Tryd.prog 27 ti27 := ⟨by kernel_rfl, by kernel_rfl, fun _ => .nilFunc, (fun h => by cases h), rfl⟩
theorem one_28 : One Tryd.prog 28 ti28 := ⟨by kernel_rfl, by kernel_rfl, fun _ => vrel_tuple (lrel_cons (.int _ _) (lrel_cons (.int _ _) (lrel_cons (.int _ _) lrel_nil))), (fun h => by cases h), rfl⟩
theorem one_29 : One Tryd.prog 29 ti29 := ⟨by kernel_rfl, by kernel_rfl, fun _ => .nilFunc, (fun h => by cases h), rfl⟩
theorem one_30 : One Tryd.prog 30 ti30 := ⟨by kernel_rfl, by kernel_rfl, fun _ => vrel_tuple (lrel_cons (.int _ _) (lrel_cons (.int _ _) (lrel_cons (.int _ _) lrel_nil))), (fun h => by cases h), rfl⟩
theorem one_31 : One Tryd.prog 31 ti31 := ⟨by kernel_rfl, by kernel_rfl, fun _ => .nilFunc, (fun h => by cases h), rfl⟩
theorem one_32 : One Tryd.prog 32 ti32 := ⟨by kernel_rfl, by kernel_rfl, fun _ => .nilFunc, (fun h => by cases h), rfl⟩
theorem one_33 : One Tryd.prog 33 ti33 := ⟨by kernel_rfl, by kernel_rfl, fun _ => .nilFunc, (fun h => by cases h), rfl⟩
theorem one_34 : One Tryd.prog 34 ti34 := ⟨by kernel_rfl, by kernel_rfl, fun _ => vrel_tuple (lrel_cons (.string _) (lrel_cons (.int _ _) (lrel_cons (.int _ _) lrel_nil))), (fun h => by cases h), rfl⟩
theorem one_35 : One Tryd.prog 35 ti35 := ⟨by kernel_rfl, by kernel_rfl, fun _ => .nilFunc, (fun h => by cases h), rfl⟩
theorem one_36 : One Tryd.prog 36 ti36 := ⟨by kernel_rfl, by kernel_rfl, fun _ => vrel_tuple (lrel_cons (.string _) (lrel_cons (.int _ _) (lrel_cons (.int _ _) lrel_nil))), (fun h => by cases h), rfl⟩
theorem one_37 : One Tryd.prog 37 ti37 := ⟨by kernel_rfl, by kernel_rfl, fun _ => .nilFunc, (fun h => by cases h), rfl⟩
theorem one_38 : One Tryd.prog 38 ti38 := ⟨by kernel_rfl, by kernel_rfl, fun _ => .nilFunc, (fun h => by cases h), rfl⟩
theorem one_39 : One Tryd.prog 39 ti39 := ⟨by kernel_rfl, by kernel_rfl, fun _ => .nilFunc, (fun h => by cases h), rfl⟩
theorem one_40 : One Tryd.prog 40 ti40 := ⟨by kernel_rfl, by kernel_rfl, fun _ => .nilFunc, (fun h => by cases h), rfl⟩
theorem one_41 : One Tryd.prog 41 ti41 := ⟨by kernel_rfl, by kernel_rfl, fun _ => .int _ _, (fun h => by cases h), rfl⟩
theorem one_42 : One Tryd.prog 42 ti42 := ⟨by kernel_rfl, by kernel_rfl, fun _ => .nilSlice, (fun h => by cases h), rfl⟩
theorem one_43 : One Tryd.prog 43 ti43 := ⟨by kernel_rfl, by kernel_rfl, fun _ => .nilSlice, (fun h => by cases h), rfl⟩
theorem one_44 : One Tryd.prog 44 ti44 := ⟨by kernel_rfl, by kernel_rfl, fun _ => .nilFunc, (fun h => by cases h), rfl⟩
theorem one_45 : One Tryd.prog 45 ti45 := ⟨by kernel_rfl, by kernel_rfl, fun _ => .nilSlice, (fun h => by cases h), rfl⟩
theorem one_46 : One Tryd.prog 46 ti46 := ⟨by kernel_rfl, by kernel_rfl, fun _ => .nilFunc, (fun h => by cases h), rfl⟩
theorem one_47 : One Tryd.prog 47 ti47 := ⟨by kernel_rfl, by kernel_rfl, fun _ => .nilFunc, (fun h => by cases h), rfl⟩
theorem one_48 : One Tryd.prog 48 ti48 := ⟨by kernel_rfl, by kernel_rfl, fun _ => .nilIface, (fun h => by cases h), rfl⟩
theorem one_49 : One Tryd.prog 49 ti49 := ⟨by kernel_rfl, by kernel_rfl, fun _ => .nilIface, (fun h => by cases h), rfl⟩
theorem one_50 : One Tryd.prog 50 ti50 := ⟨by kernel_rfl, by kernel_rfl, fun _ => vrel_tuple (lrel_cons (.int _ _) (lrel_cons (.int _ _) (lrel_cons (.nilIface) lrel_nil))), (fun h => by cases h), rfl⟩
theorem one_51 : One Tryd.prog 51 ti51 := ⟨by kernel_rfl, by kernel_rfl, fun _ => .nilFunc, (fun h => by cases h), rfl⟩
theorem one_52 : One Tryd.prog 52 ti52 := ⟨by kernel_rfl, by kernel_rfl, fun _ => .nilFunc, (fun h => by cases h), rfl⟩
theorem one_53 : One Tryd.prog 53 ti53 := ⟨by kernel_rfl, by kernel_rfl, fun _ => .nilFunc, (fun h => by cases h), rfl⟩
theorem one_54 : One Tryd.prog 54 ti54 := ⟨by kernel_rfl, by kernel_rfl, fun _ => vrel_tuple (lrel_cons (.string _) (lrel_cons (.int _ _) (lrel_cons (.nilIface) lrel_nil))), (fun h => by cases h), rfl⟩
theorem one_55 : One Tryd.prog 55 ti55 := ⟨by kernel_rfl, by kernel_rfl, fun _ => .nilFunc, (fun h => by cases h), rfl⟩
theorem one_56 : One Tryd.prog 56 ti56 := ⟨by kernel_rfl, by kernel_rfl, fun _ => .nilPtr, (fun h => by cases h), rfl⟩
theorem one_57 : One Tryd.prog 57 ti57 := ⟨by kernel_rfl, by kernel_rfl, fun _ => vrel_agg (lrel_cons (.int _ _) (lrel_cons (.nilIface) lrel_nil)), (fun h => by cases h), rfl⟩
theorem one_58 : One Tryd.prog 58 ti58 := ⟨by kernel_rfl, by kernel_rfl, fun _ => vrel_agg (lrel_cons (.int _ _) (lrel_cons (.nilIface) lrel_nil)), (fun h => by cases h), rfl⟩
theorem one_59 : One Tryd.prog 59 ti59 := ⟨by kernel_rfl, by kernel_rfl, fun _ => .nilFunc, (fun h => by cases h), rfl⟩
theorem one_60 : One Tryd.prog 60 ti60 := ⟨by kernel_rfl, by kernel_rfl, fun _ => .nilPtr, (fun h => by cases h), rfl⟩
theorem one_62 : One Tryd.prog 62 ti62 := ⟨by kernel_rfl, by kernel_rfl, fun _ => .int _ _, (fun h => by cases h), rfl⟩
theorem one_63 : One Tryd.prog 63 ti63 := ⟨by kernel_rfl, by kernel_rfl, fun _ => vrel_agg (lrel_cons (.nilPtr) (lrel_cons (.nilPtr) (lrel_cons (.int _ _) lrel_nil))), (fun h => by cases h), rfl⟩
theorem one_64 : One Tryd.prog 64 ti64 := ⟨by kernel_rfl, by kernel_rfl, fun _ => vrel_agg (lrel_cons (.nilPtr) (lrel_cons (.nilPtr) (lrel_cons (.int _ _) lrel_nil))), (fun h => by cases h), rfl⟩
theorem one_65 : One Tryd.prog 65 ti65 := ⟨by kernel_rfl, by kernel_rfl, fun _ => .nilFunc, (fun h => by cases h), rfl⟩
theorem one_66 : One Tryd.prog 66 ti66 := ⟨by kernel_rfl, by kernel_rfl, fun _ => .nilIface, (fun h => by cases h), rfl⟩
theorem one_67 : One Tryd.prog 67 ti67 := ⟨by kernel_rfl, by kernel_rfl, fun _ => .nilIface, (fun h => by cases h), rfl⟩
theorem one_68 : One Tryd.prog 68 ti68 := ⟨by kernel_rfl, by kernel_rfl, fun _ => .nilFunc, (fun h => by cases h), rfl⟩
theorem one_69 : One Tryd.prog 69 ti69 := ⟨by kernel_rfl, by kernel_rfl, fun _ => .int _ _, (fun h => by cases h), rfl⟩
theorem one_70 : One Tryd.prog 70 ti70 := ⟨by kernel_rfl, by kernel_rfl, fun _ => .nilFunc, (fun h => by cases h), rfl⟩
theorem one_71 : One Tryd.prog 71 ti71 := ⟨by kernel_rfl, by kernel_rfl, fun _ => .nilFunc, (fun h => by cases h), rfl⟩
theorem one_72 : One Tryd.prog 72 ti72 := ⟨by kernel_rfl, by kernel_rfl, fun _ => .nilFunc, (fun h => by cases h), rfl⟩
theorem one_73 : One Tryd.prog 73 ti73 := ⟨by kernel_rfl, by kernel_rfl, fun _ => vrel_agg (lrel_cons (.nilPtr) lrel_nil), (fun h => by cases h), rfl⟩
theorem one_74 : One Tryd.prog 74 ti74 := ⟨by kernel_rfl, by kernel_rfl, fun _ => vrel_agg (lrel_cons (.nilPtr) lrel_nil), (fun h => by cases h), rfl⟩
theorem one_75 : One Tryd.prog 75 ti75 := ⟨by kernel_rfl, by kernel_rfl, fun _ => .nilPtr, (fun h => by cases h), rfl⟩
theorem one_76 : One Tryd.prog 76 ti76 := ⟨by kernel_rfl, by kernel_rfl, fun _ => .nilFunc, (fun h => by cases h), rfl⟩
theorem one_77 : One Tryd.prog 77 ti77 := ⟨by kernel_rfl, by kernel_rfl, fun _ => .nilFunc, (fun h => by cases h), rfl⟩
theorem one_78 : One Tryd.prog 78 ti78 := ⟨by kernel_rfl, by kernel_rfl, fun _ => .nilFunc, (fun h => by cases h), rfl⟩
theorem one_79 : One Tryd.prog 79 ti79 := ⟨by kernel_rfl, by kernel_rfl, fun _ => .nilIface, (fun h => by cases h), rfl⟩
theorem one_80 : One Tryd.prog 80 ti80 := ⟨by kernel_rfl, by kernel_rfl, fun _ => vrel_tuple (lrel_cons (.nilIface) (lrel_cons (.bool _) lrel_nil)), (fun h => by cases h), rfl⟩
theorem one_81 : One Tryd.prog 81 ti81 := ⟨by kernel_rfl, by kernel_rfl, fun _ => .nilFunc, (fun h => by cases h), rfl⟩
theorem one_82 : One Tryd.prog 82 ti82 := ⟨by kernel_rfl, by kernel_rfl, fun _ => .nilIface, (fun h => by cases h), rfl⟩
theorem one_83 : One Tryd.prog 83 ti83 := ⟨by kernel_rfl, by kernel_rfl, fun _ => .nilFunc, (fun h => by cases h), rfl⟩
theorem one_84 : One Tryd.prog 84 ti84 := ⟨by kernel_rfl, by kernel_rfl, fun _ => .nilIface, (fun h => by cases h), rfl⟩
theorem one_85 : One Tryd.prog 85 ti85 := ⟨by kernel_rfl, by kernel_rfl, fun _ => .nilSlice, (fun h => by cases h), rfl⟩
theorem one_86 : One Tryd.prog 86 ti86 := ⟨by kernel_rfl, by kernel_rfl, fun _ => .nilFunc, (fun h => by cases h), rfl⟩
theorem one_87 : One Tryd.prog 87 ti87 := ⟨by kernel_rfl, by kernel_rfl, fun _ => .nilFunc, (fun h => by cases h), rfl⟩
theorem one_88 : One Tryd.prog 88 ti88 := ⟨by kernel_rfl, by kernel_rfl, fun _ => vrel_agg (lrel_cons (.nilPtr) (lrel_cons (.nilPtr) (lrel_cons (.nilPtr) (lrel_cons (.string _) lrel_nil)))), (fun h => by cases h), rfl⟩
theorem one_89 : One Tryd.prog 89 ti89 := ⟨by kernel_rfl, by kernel_rfl, fun _ => vrel_agg (lrel_cons (.nilPtr) (lrel_cons (.nilPtr) (lrel_cons (.nilPtr) (lrel_cons (.string _) lrel_nil)))), (fun h => by cases h), rfl⟩
theorem one_90 : One Tryd.prog 90 ti90 := ⟨by kernel_rfl, by kernel_rfl, fun _ => vrel_agg lrel_nil, (fun h => by cases h), rfl⟩
theorem one_91 : One Tryd.prog 91 ti91 := ⟨by kernel_rfl, by kernel_rfl, fun _ => vrel_agg lrel_nil, (fun h => by cases h), rfl⟩
theorem one_92 : One Tryd.prog 92 ti92 := ⟨by kernel_rfl, by kernel_rfl, fun _ => vrel_agg lrel_nil, (fun h => by cases h), rfl⟩
theorem one_93 : One Tryd.prog 93 ti93 := ⟨by kernel_rfl, by kernel_rfl, fun _ => .nilFunc, (fun h => by cases h), rfl⟩
theorem one_94 : One Tryd.prog 94 ti94 := ⟨by kernel_rfl, by kernel_rfl, fun _ => .nilFunc, (fun h => by cases h), rfl⟩
theorem one_95 : One Tryd.prog 95 ti95 := ⟨by kernel_rfl, by kernel_rfl, fun _ => .int _ _, (fun h => by cases h), rfl⟩
theorem one_96 : One Tryd.prog 96 ti96 := ⟨by kernel_rfl, by kernel_rfl, fun _ => .int _ _, (fun h => by cases h), rfl⟩
theorem one_97 : One Tryd.prog 97 ti97 := ⟨by kernel_rfl, by kernel_rfl, fun _ => .nilFunc, (fun h => by cases h), rfl⟩
theorem one_98 : One Tryd.prog 98 ti98 := ⟨by kernel_rfl, by kernel_rfl, fun _ => .nilPtr, (fun h => by cases h), rfl⟩
theorem one_99 : One Tryd.prog 99 ti99 := ⟨by kernel_rfl, by kernel_rfl, fun _ => .int _ _, (fun h => by cases h), rfl⟩
theorem one_100 : One Tryd.prog 100 ti100 := ⟨by kernel_rfl, by kernel_rfl, fun _ => .int _ _, (fun h => by cases h), rfl⟩
theorem one_101 : One Tryd.prog 101 ti101 := ⟨by kernel_rfl, by kernel_rfl, fun _ => vrel_agg (lrel_cons (.int _ _) (lrel_cons (.int _ _) (lrel_cons (.int _ _) (lrel_cons (.int _ _) (lrel_cons (.int _ _) (lrel_cons (.int _ _) (lrel_cons (.int _ _) (lrel_cons (.nilFunc) (lrel_cons (.nilPtr) (lrel_cons (.int _ _) (lrel_cons (.int _ _) lrel_nil))))))))))), (fun h => by cases h), rfl⟩
theorem one_102 : One Tryd.prog 102 ti102 := ⟨by kernel_rfl, by kernel_rfl, fun _ => vrel_agg (lrel_cons (.int _ _) (lrel_cons (.int _ _) (lrel_cons (.int _ _) (lrel_cons (.int _ _) (lrel_cons (.int _ _) (lrel_cons (.int _ _) (lrel_cons (.int _ _) (lrel_cons (.nilFunc) (lrel_cons (.nilPtr) (lrel_cons (.int _ _) (lrel_cons (.int _ _) lrel_nil))))))))))), (fun h => by cases h), rfl⟩
theorem one_103 : One Tryd.prog 103 ti103 := ⟨by kernel_rfl, by kernel_rfl, fun _ => .nilFunc, (fun h => by cases h), rfl⟩
theorem one_104 : One Tryd.prog 104 ti104 := ⟨by kernel_rfl, by kernel_rfl, fun _ => .nilFunc, (fun h => by cases h), rfl⟩
theorem one_105 : One Tryd.prog 105 ti105 := ⟨by kernel_rfl, by kernel_rfl, fun _ => vrel_agg (lrel_cons (.string _) (lrel_cons (.int _ _) lrel_nil)), (fun h => by cases h), rfl⟩
theorem one_106 : One Tryd.prog 106 ti106 := ⟨by kernel_rfl, by kernel_rfl, fun _ => vrel_agg (lrel_cons (.string _) (lrel_cons (.int _ _) lrel_nil)), (fun h => by cases h), rfl⟩
theorem one_107 : One Tryd.prog 107 ti107 := ⟨by kernel_rfl, by kernel_rfl, fun _ => .nilPtr, (fun h => by cases h), rfl⟩
theorem one_108 : One Tryd.prog 108 ti108 := ⟨by kernel_rfl, by kernel_rfl, fun _ => .nilFunc, (fun h => by cases h), rfl⟩
theorem one_109 : One Tryd.prog 109 ti109 := ⟨by kernel_rfl, by kernel_rfl, fun _ => .int _ _, (fun h => by cases h), rfl⟩
theorem one_110 : One Tryd.prog 110 ti110 := ⟨by kernel_rfl, by kernel_rfl, fun _ => vrel_agg (lrel_cons (.int _ _) (lrel_cons (.int _ _) (lrel_cons (.int _ _) (lrel_cons (.int _ _) (lrel_cons (.int _ _) lrel_nil))))), (fun h => by cases h), rfl⟩
theorem one_111 : One Tryd.prog 111 ti111 := ⟨by kernel_rfl, by kernel_rfl, fun _ => vrel_agg (lrel_cons (.int _ _) (lrel_cons (.int _ _) (lrel_cons (.int _ _) (lrel_cons (.int _ _) (lrel_cons (.int _ _) lrel_nil))))), (fun h => by cases h), rfl⟩
theorem one_112 : One Tryd.prog 112 ti112 := ⟨by kernel_rfl, by kernel_rfl, fun _ => .nilSlice, (fun h => by cases h), rfl⟩
theorem one_113 : One Tryd.prog 113 ti113 := ⟨by kernel_rfl, by kernel_rfl, fun _ => .int _ _, (fun h => by cases h), rfl⟩
theorem one_114 : One Tryd.prog 114 ti114 := ⟨by kernel_rfl, by kernel_rfl, fun _ => vrel_agg (lrel_cons (.int _ _) (lrel_cons (.int _ _) (lrel_cons (.int _ _) (lrel_cons (.int _ _) lrel_nil)))), (fun h => by cases h), rfl⟩
theorem one_115 : One Tryd.prog 115 ti115 := ⟨by kernel_rfl, by kernel_rfl, fun _ => vrel_agg (lrel_cons (.int _ _) (lrel_cons (.int _ _) (lrel_cons (.int _ _) (lrel_cons (.int _ _) lrel_nil)))), (fun h => by cases h), rfl⟩
theorem one_116 : One Tryd.prog 116 ti116 := ⟨by kernel_rfl, by kernel_rfl, fun _ => .nilPtr, (fun h => by cases h), rfl⟩
theorem cond_split {b : Bool} {x y : Option TI} {i : TI} {C : Prop} (h : (bif b then x else y) = some i) (h1 : b = true → x = some i → C) (h2 : b = false → y = some i → C) : C := by
  cases b
  · exact h2 rfl h
  · exact h1 rfl h
theorem cond_leaf {t k : Nat} {x i : TI} (h : (bif Nat.beq t k then some x else none) = some i) (o : One Tryd.prog k x) : One Tryd.prog t i := by
  refine cond_split h (fun e g => ?_) (fun _ g => by cases g)
  cases g
  obtain rfl := Nat.eq_of_beq_eq_true e
  exact o
theorem tab : Tab Tryd.prog tys := tab_of fun _ _ h => (cond_split h (fun _ h => (cond_split h (fun _ h => (cond_split h (fun _ h => (cond_split h (fun _ h => (cond_split h (fun _ h => (cond_split h (fun _ h => (cond_leaf h one_0)) (fun _ h => (cond_split h (fun _ h => (cond_leaf h one_1)) (fun _ h => (cond_leaf h one_2)))))) (fun _ h => (cond_split h (fun _ h => (cond_split h (fun _ h => (cond_leaf h one_3)) (fun _ h => (cond_leaf h one_4)))) (fun _ h => (cond_split h (fun _ h => (cond_leaf h one_5)) (fun _ h => (cond_leaf h one_6)))))))) (fun _ h => (cond_split h (fun _ h => (cond_split h (fun _ h => (cond_leaf h one_7)) (fun _ h => (cond_split h (fun _ h => (cond_leaf h one_8)) (fun _ h => (cond_leaf h one_9)))))) (fun _ h => (cond_split h (fun _ h => (cond_split h (fun _ h => (cond_leaf h one_10)) (fun _ h => (cond_leaf h one_11)))) (fun _ h => (cond_split h (fun _ h => (cond_leaf h one_12)) (fun _ h => (cond_leaf h one_13)))))))))) (fun _ h => (cond_split h (fun _ h => (cond_split h (fun _ h => (cond_split h (fun _ h => (cond_leaf h one_14)) (fun _ h => (cond_split h (fun _ h => (cond_leaf h one_15)) (fun _ h => (cond_leaf h one_16)))))) (fun _ h => (cond_split h (fun _ h => (cond_split h (fun _ h => (cond_leaf h one_17)) (fun _ h => (cond_leaf h one_18)))) (fun _ h => (cond_split h (fun _ h => (cond_leaf h one_19)) (fun _ h => (cond_leaf h one_20)))))))) (fun _ h => (cond_split h (fun _ h => (cond_split h (fun _ h => (cond_split h (fun _ h => (cond_leaf h one_21)) (fun _ h => (cond_leaf h one_22)))) (fun _ h => (cond_split h (fun _ h => (cond_leaf h one_23)) (fun _ h => (cond_leaf h one_24)))))) (fun _ h => (cond_split h (fun _ h => (cond_split h (fun _ h => (cond_leaf h one_25)) (fun _ h => (cond_leaf h one_26)))) (fun _ h => (cond_split h (fun _ h => (cond_leaf h one_27)) (fun _ h => (cond_leaf h one_28)))))))))))) (fun _ h => (cond_split h (fun _ h => (cond_split h (fun _ h => (cond_split h (fun _ h => (cond_split h (fun _ h => (cond_leaf h one_29)) (fun _ h => (cond_split h (fun _ h => (cond_leaf h one_30)) (fun _ h => (cond_leaf h one_31)))))) (fun _ h => (cond_split h (fun _ h => (cond_split h (fun _ h => (cond_leaf h one_32)) (fun _ h => (cond_leaf h one_33)))) (fun _ h => (cond_split h (fun _ h => (cond_leaf h one_34)) (fun _ h => (cond_leaf h one_35)))))))) (fun _ h => (cond_split h (fun _ h => (cond_split h (fun _ h => (cond_leaf h one_36)) (fun _ h => (cond_split h (fun _ h => (cond_leaf h one_37)) (fun _ h => (cond_leaf h one_38)))))) (fun _ h => (cond_split h (fun _ h => (cond_split h (fun _ h => (cond_leaf h one_39)) (fun _ h => (cond_leaf h one_40)))) (fun _ h => (cond_split h (fun _ h => (cond_leaf h one_41)) (fun _ h => (cond_leaf h one_42)))))))))) (fun _ h => (cond_split h (fun _ h => (cond_split h (fun _ h => (cond_split h (fun _ h => (cond_leaf h one_43)) (fun _ h => (cond_split h (fun _ h => (cond_leaf h one_44)) (fun _ h => (cond_leaf h one_45)))))) (fun _ h => (cond_split h (fun _ h => (cond_split h (fun _ h => (cond_leaf h one_46)) (fun _ h => (cond_leaf h one_47)))) (fun _ h => (cond_split h (fun _ h => (cond_leaf h one_48)) (fun _ h => (cond_leaf h one_49)))))))) (fun _ h => (cond_split h (fun _ h => (cond_split h (fun _ h => (cond_split h (fun _ h => (cond_leaf h one_50)) (fun _ h => (cond_leaf h one_51)))) (fun _ h => (cond_split h (fun _ h => (cond_leaf h one_52)) (fun _ h => (cond_leaf h one_53)))))) (fun _ h => (cond_split h (fun _ h => (cond_split h (fun _ h => (cond_leaf h one_54)) (fun _ h => (cond_leaf h one_55)))) (fun _ h => (cond_split h (fun _ h => (cond_leaf h one_56)) (fun _ h => (cond_leaf h one_57)))))))))))))) (fun _ h => (cond_split h (fun _ h => (cond_split h (fun _ h => (cond_split h (fun _ h => (cond_split h (fun _ h => (cond_split h (fun _ h => (cond_leaf h one_58)) (fun _ h => (cond_split h (fun _ h => (cond_leaf h one_59)) (fun _ h => (cond_leaf h one_60)))))) (fun _ h => (cond_split h (fun _ h => (cond_split h (fun _ h => (cond_leaf h one_62)) (fun _ h => (cond_leaf h one_63)))) (fun _ h => (cond_split h (fun _ h => (cond_leaf h one_64)) (fun _ h => (cond_leaf h one_65)))))))) (fun _ h => (cond_split h (fun _ h => (cond_split h (fun _ h => (cond_leaf h one_66)) (fun _ h => (cond_split h (fun _ h => (cond_leaf h one_67)) (fun _ h => (cond_leaf h one_68)))))) (fun _ h => (cond_split h (fun _ h => (cond_split h (fun _ h => (cond_leaf h one_69)) (fun _ h => (cond_leaf h one_70)))) (fun _ h => (cond_split h (fun _ h => (cond_leaf h one_71)) (fun _ h => (cond_leaf h one_72)))))))))) (fun _ h => (cond_split h (fun _ h => (cond_split h (fun _ h => (cond_split h (fun _ h => (cond_leaf h one_73)) (fun _ h => (cond_split h (fun _ h => (cond_leaf h one_74)) (fun _ h => (cond_leaf h one_75)))))) (fun _ h => (cond_split h (fun _ h => (cond_split h (fun _ h => (cond_leaf h one_76)) (fun _ h => (cond_leaf h one_77)))) (fun _ h => (cond_split h (fun _ h => (cond_leaf h one_78)) (fun _ h => (cond_leaf h one_79)))))))) (fun _ h => (cond_split h (fun _ h => (cond_split h (fun _ h => (cond_split h (fun _ h => (cond_leaf h one_80)) (fun _ h => (cond_leaf h one_81)))) (fun _ h => (cond_split h (fun _ h => (cond_leaf h one_82)) (fun _ h => (cond_leaf h one_83)))))) (fun _ h => (cond_split h (fun _ h => (cond_split h (fun _ h => (cond_leaf h one_84)) (fun _ h => (cond_leaf h one_85)))) (fun _ h => (cond_split h (fun _ h => (cond_leaf h one_86)) (fun _ h => (cond_leaf h one_87)))))))))))) (fun _ h => (cond_split h (fun _ h => (cond_split h (fun _ h => (cond_split h (fun _ h => (cond_split h (fun _ h => (cond_leaf h one_88)) (fun _ h => (cond_split h (fun _ h => (cond_leaf h one_89)) (fun _ h => (cond_leaf h one_90)))))) (fun _ h => (cond_split h (fun _ h => (cond_split h (fun _ h => (cond_leaf h one_91)) (fun _ h => (cond_leaf h one_92)))) (fun _ h => (cond_split h (fun _ h => (cond_leaf h one_93)) (fun _ h => (cond_leaf h one_94)))))))) (fun _ h => (cond_split h (fun _ h => (cond_split h (fun _ h => (cond_leaf h one_95)) (fun _ h => (cond_split h (fun _ h => (cond_leaf h one_96)) (fun _ h => (cond_leaf h one_97)))))) (fun _ h => (cond_split h (fun _ h => (cond_split h (fun _ h => (cond_leaf h one_98)) (fun _ h => (cond_leaf h one_99)))) (fun _ h => (cond_split h (fun _ h => (cond_leaf h one_100)) (fun _ h => (cond_leaf h one_101)))))))))) (fun _ h => (cond_split h (fun _ h => (cond_split h (fun _ h => (cond_split h (fun _ h => (cond_leaf h one_102)) (fun _ h => (cond_split h (fun _ h => (cond_leaf h one_103)) (fun _ h => (cond_leaf h one_104)))))) (fun _ h => (cond_split h (fun _ h => (cond_split h (fun _ h => (cond_leaf h one_105)) (fun _ h => (cond_leaf h one_106)))) (fun _ h => (cond_split h (fun _ h => (cond_leaf h one_107)) (fun _ h => (cond_leaf h one_108)))))))) (fun _ h => (cond_split h (fun _ h => (cond_split h (fun _ h => (cond_split h (fun _ h => (cond_leaf h one_109)) (fun _ h => (cond_leaf h one_110)))) (fun _ h => (cond_split h (fun _ h => (cond_leaf h one_111)) (fun _ h => (cond_leaf h one_112)))))) (fun _ h => (cond_split h (fun _ h => (cond_split h (fun _ h => (cond_leaf h one_113)) (fun _ h => (cond_leaf h one_114)))) (fun _ h => (cond_split h (fun _ h => (cond_leaf h one_115)) (fun _ h => (cond_leaf h one_116)))))))))))))))
end Go.Proofs.YtkfkdhjelncfhaaDoor
