/- What is known of the types of this program: a table, and that it is the program's. Printed by tab.py. -/
import Derived.Test.YticaicdopfpknaaProg
import Derived.Test.YticaicdopfpknaaVmL
import Derived.KernelRfl
set_option maxRecDepth 100000
namespace Go.Proofs.Yticaicdopfpknaa
open Go Go.Proofs.Yticaicdopfpknaa.Vm
def ti0 : TI := { desc := .tuple #[], size := 1, bytes := 0, zero := .tuple #[], cmp := false, eqOk := false }
def ti1 : TI := { desc := .func #[] #[] false, size := 1, bytes := 8, zero := .nilFunc, cmp := false, eqOk := false }
def ti2 : TI := { desc := .int .i64, size := 1, bytes := 8, zero := .int .i64 0, cmp := true, eqOk := false }
def ti3 : TI := { desc := .int .i64, size := 1, bytes := 8, zero := .int .i64 0, cmp := true, eqOk := false }
def ti4 : TI := { desc := .bool, size := 1, bytes := 1, zero := .bool false, cmp := true, eqOk := false }
def ti5 : TI := { desc := .int .u8, size := 1, bytes := 1, zero := .int .u8 0, cmp := true, eqOk := false }
def ti6 : TI := { desc := .int .u8, size := 1, bytes := 1, zero := .int .u8 0, cmp := true, eqOk := false }
def ti7 : TI := { desc := .struct #[⟨ "x", 2, 0, false, "", "runtime", 0⟩, ⟨ "y", 3, 1, false, "", "runtime", 8⟩, ⟨ "signed", 4, 2, false, "", "runtime", 16⟩, ⟨ "code", 6, 3, false, "", "runtime", 17⟩], size := 4, bytes := 24, zero := .agg #[.int .i64 0, .int .i64 0, .bool false, .int .u8 0], cmp := true, eqOk := false }
def ti8 : TI := { desc := .struct #[⟨ "x", 2, 0, false, "", "runtime", 0⟩, ⟨ "y", 3, 1, false, "", "runtime", 8⟩, ⟨ "signed", 4, 2, false, "", "runtime", 16⟩, ⟨ "code", 6, 3, false, "", "runtime", 17⟩], size := 4, bytes := 24, zero := .agg #[.int .i64 0, .int .i64 0, .bool false, .int .u8 0], cmp := true, eqOk := false }
def ti9 : TI := { desc := .string, size := 1, bytes := 16, zero := .string ⟨#[]⟩, cmp := true, eqOk := false }
def ti10 : TI := { desc := .string, size := 1, bytes := 16, zero := .string ⟨#[]⟩, cmp := true, eqOk := false }
def ti11 : TI := { desc := .string, size := 1, bytes := 16, zero := .string ⟨#[]⟩, cmp := true, eqOk := false }
def ti12 : TI := { desc := .int .u64, size := 1, bytes := 8, zero := .int .u64 0, cmp := true, eqOk := false }
def ti13 : TI := { desc := .struct #[⟨ "msg", 9, 0, false, "", "runtime", 0⟩, ⟨ "addr", 12, 1, false, "", "runtime", 16⟩], size := 2, bytes := 24, zero := .agg #[.string ⟨#[]⟩, .int .u64 0], cmp := true, eqOk := false }
def ti14 : TI := { desc := .struct #[⟨ "msg", 9, 0, false, "", "runtime", 0⟩, ⟨ "addr", 12, 1, false, "", "runtime", 16⟩], size := 2, bytes := 24, zero := .agg #[.string ⟨#[]⟩, .int .u64 0], cmp := true, eqOk := false }
def ti15 : TI := { desc := .pointer 130, size := 1, bytes := 8, zero := .pointer none, cmp := true, eqOk := false }
def ti16 : TI := { desc := .pointer 133, size := 1, bytes := 8, zero := .pointer none, cmp := true, eqOk := false }
def ti17 : TI := { desc := .pointer 142, size := 1, bytes := 8, zero := .pointer none, cmp := true, eqOk := false }
def ti18 : TI := { desc := .struct #[⟨ "typ", 17, 0, false, "", "internal/runtime/maps", 0⟩], size := 1, bytes := 8, zero := .agg #[.pointer none], cmp := true, eqOk := false }
def ti19 : TI := { desc := .struct #[⟨ "typ", 17, 0, false, "", "internal/runtime/maps", 0⟩], size := 1, bytes := 8, zero := .agg #[.pointer none], cmp := true, eqOk := false }
def ti20 : TI := { desc := .interface #[], size := 1, bytes := 16, zero := .nilIface, cmp := true, eqOk := false }
def ti21 : TI := { desc := .int .i32, size := 1, bytes := 4, zero := .int .i32 0, cmp := true, eqOk := false }
def ti22 : TI := { desc := .struct #[⟨ "Kind", 3, 0, false, "", "", 0⟩, ⟨ "User", 3, 1, false, "", "", 8⟩, ⟨ "Key", 3, 2, false, "", "", 16⟩, ⟨ "Secret", 3, 3, false, "", "", 24⟩, ⟨ "Quota", 3, 4, false, "", "", 32⟩, ⟨ "Session", 3, 5, false, "", "", 40⟩], size := 6, bytes := 48, zero := .agg #[.int .i64 0, .int .i64 0, .int .i64 0, .int .i64 0, .int .i64 0, .int .i64 0], cmp := true, eqOk := true }
def ti23 : TI := { desc := .struct #[⟨ "Kind", 3, 0, false, "", "", 0⟩, ⟨ "User", 3, 1, false, "", "", 8⟩, ⟨ "Key", 3, 2, false, "", "", 16⟩, ⟨ "Secret", 3, 3, false, "", "", 24⟩, ⟨ "Quota", 3, 4, false, "", "", 32⟩, ⟨ "Session", 3, 5, false, "", "", 40⟩], size := 6, bytes := 48, zero := .agg #[.int .i64 0, .int .i64 0, .int .i64 0, .int .i64 0, .int .i64 0, .int .i64 0], cmp := true, eqOk := true }
def ti24 : TI := { desc := .int .i64, size := 1, bytes := 8, zero := .int .i64 0, cmp := true, eqOk := false }
def ti25 : TI := { desc := .tuple #[9, 24], size := 1, bytes := 0, zero := .tuple #[.string ⟨#[]⟩, .int .i64 0], cmp := false, eqOk := false }
def ti26 : TI := { desc := .func #[23] #[9, 24] false, size := 1, bytes := 8, zero := .nilFunc, cmp := false, eqOk := false }
def ti27 : TI := { desc := .tuple #[9, 3], size := 1, bytes := 0, zero := .tuple #[.string ⟨#[]⟩, .int .i64 0], cmp := false, eqOk := false }
def ti28 : TI := { desc := .func #[23] #[9, 3] false, size := 1, bytes := 8, zero := .nilFunc, cmp := false, eqOk := false }
def ti29 : TI := { desc := .tuple #[23, 24], size := 1, bytes := 0, zero := .tuple #[.agg #[.int .i64 0, .int .i64 0, .int .i64 0, .int .i64 0, .int .i64 0, .int .i64 0], .int .i64 0], cmp := false, eqOk := false }
def ti30 : TI := { desc := .func #[9] #[23, 24] false, size := 1, bytes := 8, zero := .nilFunc, cmp := false, eqOk := false }
def ti31 : TI := { desc := .tuple #[23, 3], size := 1, bytes := 0, zero := .tuple #[.agg #[.int .i64 0, .int .i64 0, .int .i64 0, .int .i64 0, .int .i64 0, .int .i64 0], .int .i64 0], cmp := false, eqOk := false }
def ti32 : TI := { desc := .func #[9] #[23, 3] false, size := 1, bytes := 8, zero := .nilFunc, cmp := false, eqOk := false }
def ti33 : TI := { desc := .func #[24] #[3] false, size := 1, bytes := 8, zero := .nilFunc, cmp := false, eqOk := false }
def ti34 : TI := { desc := .func #[23] #[4] false, size := 1, bytes := 8, zero := .nilFunc, cmp := false, eqOk := false }
def ti35 : TI := { desc := .func #[] #[4] false, size := 1, bytes := 8, zero := .nilFunc, cmp := false, eqOk := false }
def ti36 : TI := { desc := .func #[23, 9] #[4] false, size := 1, bytes := 8, zero := .nilFunc, cmp := false, eqOk := false }
def ti37 : TI := { desc := .int .u64, size := 1, bytes := 8, zero := .int .u64 0, cmp := true, eqOk := false }
def ti38 : TI := { desc := .func #[23, 9, 3] #[4] false, size := 1, bytes := 8, zero := .nilFunc, cmp := false, eqOk := false }
def ti39 : TI := { desc := .func #[23, 23] #[4] false, size := 1, bytes := 8, zero := .nilFunc, cmp := false, eqOk := false }
def ti40 : TI := { desc := .slice 23, size := 1, bytes := 24, zero := .slice none 0 0, cmp := false, eqOk := false }
def ti41 : TI := { desc := .func #[3, 3] #[4] false, size := 1, bytes := 8, zero := .nilFunc, cmp := false, eqOk := false }
def ti42 : TI := { desc := .struct #[⟨ "Kind", 3, 0, false, "", "", 0⟩, ⟨ "User", 3, 1, false, "", "", 8⟩, ⟨ "Session", 3, 2, false, "", "", 16⟩, ⟨ "Address", 3, 3, false, "", "", 24⟩, ⟨ "A", 3, 4, false, "", "", 32⟩, ⟨ "B", 3, 5, false, "", "", 40⟩, ⟨ "C", 3, 6, false, "", "", 48⟩, ⟨ "Tick", 3, 7, false, "", "", 56⟩], size := 8, bytes := 64, zero := .agg #[.int .i64 0, .int .i64 0, .int .i64 0, .int .i64 0, .int .i64 0, .int .i64 0, .int .i64 0, .int .i64 0], cmp := true, eqOk := true }
def ti43 : TI := { desc := .struct #[⟨ "Kind", 3, 0, false, "", "", 0⟩, ⟨ "User", 3, 1, false, "", "", 8⟩, ⟨ "Session", 3, 2, false, "", "", 16⟩, ⟨ "Address", 3, 3, false, "", "", 24⟩, ⟨ "A", 3, 4, false, "", "", 32⟩, ⟨ "B", 3, 5, false, "", "", 40⟩, ⟨ "C", 3, 6, false, "", "", 48⟩, ⟨ "Tick", 3, 7, false, "", "", 56⟩], size := 8, bytes := 64, zero := .agg #[.int .i64 0, .int .i64 0, .int .i64 0, .int .i64 0, .int .i64 0, .int .i64 0, .int .i64 0, .int .i64 0], cmp := true, eqOk := true }
def ti44 : TI := { desc := .func #[43] #[9, 24] false, size := 1, bytes := 8, zero := .nilFunc, cmp := false, eqOk := false }
def ti45 : TI := { desc := .func #[43] #[9, 3] false, size := 1, bytes := 8, zero := .nilFunc, cmp := false, eqOk := false }
def ti46 : TI := { desc := .tuple #[43, 24], size := 1, bytes := 0, zero := .tuple #[.agg #[.int .i64 0, .int .i64 0, .int .i64 0, .int .i64 0, .int .i64 0, .int .i64 0, .int .i64 0, .int .i64 0], .int .i64 0], cmp := false, eqOk := false }
def ti47 : TI := { desc := .func #[9] #[43, 24] false, size := 1, bytes := 8, zero := .nilFunc, cmp := false, eqOk := false }
def ti48 : TI := { desc := .tuple #[43, 3], size := 1, bytes := 0, zero := .tuple #[.agg #[.int .i64 0, .int .i64 0, .int .i64 0, .int .i64 0, .int .i64 0, .int .i64 0, .int .i64 0, .int .i64 0], .int .i64 0], cmp := false, eqOk := false }
def ti49 : TI := { desc := .func #[9] #[43, 3] false, size := 1, bytes := 8, zero := .nilFunc, cmp := false, eqOk := false }
def ti50 : TI := { desc := .func #[43] #[4] false, size := 1, bytes := 8, zero := .nilFunc, cmp := false, eqOk := false }
def ti51 : TI := { desc := .func #[43, 9] #[4] false, size := 1, bytes := 8, zero := .nilFunc, cmp := false, eqOk := false }
def ti52 : TI := { desc := .func #[43, 9, 3] #[4] false, size := 1, bytes := 8, zero := .nilFunc, cmp := false, eqOk := false }
def ti53 : TI := { desc := .func #[43, 43] #[4] false, size := 1, bytes := 8, zero := .nilFunc, cmp := false, eqOk := false }
def ti54 : TI := { desc := .slice 43, size := 1, bytes := 24, zero := .slice none 0 0, cmp := false, eqOk := false }
def ti55 : TI := { desc := .struct #[⟨ "Kind", 3, 0, false, "", "", 0⟩, ⟨ "User", 3, 1, false, "", "", 8⟩, ⟨ "Nonce", 3, 2, false, "", "", 16⟩, ⟨ "Half", 3, 3, false, "", "", 24⟩, ⟨ "Tag", 3, 4, false, "", "", 32⟩, ⟨ "Code", 3, 5, false, "", "", 40⟩, ⟨ "Session", 3, 6, false, "", "", 48⟩, ⟨ "Seq", 3, 7, false, "", "", 56⟩, ⟨ "Data", 9, 8, false, "", "", 64⟩], size := 9, bytes := 80, zero := .agg #[.int .i64 0, .int .i64 0, .int .i64 0, .int .i64 0, .int .i64 0, .int .i64 0, .int .i64 0, .int .i64 0, .string ⟨#[]⟩], cmp := true, eqOk := true }
def ti56 : TI := { desc := .struct #[⟨ "Kind", 3, 0, false, "", "", 0⟩, ⟨ "User", 3, 1, false, "", "", 8⟩, ⟨ "Nonce", 3, 2, false, "", "", 16⟩, ⟨ "Half", 3, 3, false, "", "", 24⟩, ⟨ "Tag", 3, 4, false, "", "", 32⟩, ⟨ "Code", 3, 5, false, "", "", 40⟩, ⟨ "Session", 3, 6, false, "", "", 48⟩, ⟨ "Seq", 3, 7, false, "", "", 56⟩, ⟨ "Data", 9, 8, false, "", "", 64⟩], size := 9, bytes := 80, zero := .agg #[.int .i64 0, .int .i64 0, .int .i64 0, .int .i64 0, .int .i64 0, .int .i64 0, .int .i64 0, .int .i64 0, .string ⟨#[]⟩], cmp := true, eqOk := true }
def ti57 : TI := { desc := .func #[56] #[9, 24] false, size := 1, bytes := 8, zero := .nilFunc, cmp := false, eqOk := false }
def ti58 : TI := { desc := .func #[56] #[9, 3] false, size := 1, bytes := 8, zero := .nilFunc, cmp := false, eqOk := false }
def ti59 : TI := { desc := .tuple #[56, 24], size := 1, bytes := 0, zero := .tuple #[.agg #[.int .i64 0, .int .i64 0, .int .i64 0, .int .i64 0, .int .i64 0, .int .i64 0, .int .i64 0, .int .i64 0, .string ⟨#[]⟩], .int .i64 0], cmp := false, eqOk := false }
def ti60 : TI := { desc := .func #[9] #[56, 24] false, size := 1, bytes := 8, zero := .nilFunc, cmp := false, eqOk := false }
def ti61 : TI := { desc := .tuple #[56, 3], size := 1, bytes := 0, zero := .tuple #[.agg #[.int .i64 0, .int .i64 0, .int .i64 0, .int .i64 0, .int .i64 0, .int .i64 0, .int .i64 0, .int .i64 0, .string ⟨#[]⟩], .int .i64 0], cmp := false, eqOk := false }
def ti62 : TI := { desc := .func #[9] #[56, 3] false, size := 1, bytes := 8, zero := .nilFunc, cmp := false, eqOk := false }
def ti63 : TI := { desc := .func #[56] #[4] false, size := 1, bytes := 8, zero := .nilFunc, cmp := false, eqOk := false }
def ti64 : TI := { desc := .func #[56, 9] #[4] false, size := 1, bytes := 8, zero := .nilFunc, cmp := false, eqOk := false }
def ti65 : TI := { desc := .func #[56, 9, 3] #[4] false, size := 1, bytes := 8, zero := .nilFunc, cmp := false, eqOk := false }
def ti66 : TI := { desc := .func #[56, 56] #[4] false, size := 1, bytes := 8, zero := .nilFunc, cmp := false, eqOk := false }
def ti67 : TI := { desc := .slice 5, size := 1, bytes := 24, zero := .slice none 0 0, cmp := false, eqOk := false }
def ti68 : TI := { desc := .slice 56, size := 1, bytes := 24, zero := .slice none 0 0, cmp := false, eqOk := false }
def ti69 : TI := { desc := .struct #[⟨ "Kind", 3, 0, false, "", "", 0⟩, ⟨ "Half", 3, 1, false, "", "", 8⟩, ⟨ "Nonce", 3, 2, false, "", "", 16⟩, ⟨ "Session", 3, 3, false, "", "", 24⟩, ⟨ "Address", 3, 4, false, "", "", 32⟩, ⟨ "Ticket", 3, 5, false, "", "", 40⟩, ⟨ "Seq", 3, 6, false, "", "", 48⟩, ⟨ "Code", 3, 7, false, "", "", 56⟩, ⟨ "Data", 9, 8, false, "", "", 64⟩], size := 9, bytes := 80, zero := .agg #[.int .i64 0, .int .i64 0, .int .i64 0, .int .i64 0, .int .i64 0, .int .i64 0, .int .i64 0, .int .i64 0, .string ⟨#[]⟩], cmp := true, eqOk := true }
def ti70 : TI := { desc := .struct #[⟨ "Kind", 3, 0, false, "", "", 0⟩, ⟨ "Half", 3, 1, false, "", "", 8⟩, ⟨ "Nonce", 3, 2, false, "", "", 16⟩, ⟨ "Session", 3, 3, false, "", "", 24⟩, ⟨ "Address", 3, 4, false, "", "", 32⟩, ⟨ "Ticket", 3, 5, false, "", "", 40⟩, ⟨ "Seq", 3, 6, false, "", "", 48⟩, ⟨ "Code", 3, 7, false, "", "", 56⟩, ⟨ "Data", 9, 8, false, "", "", 64⟩], size := 9, bytes := 80, zero := .agg #[.int .i64 0, .int .i64 0, .int .i64 0, .int .i64 0, .int .i64 0, .int .i64 0, .int .i64 0, .int .i64 0, .string ⟨#[]⟩], cmp := true, eqOk := true }
def ti71 : TI := { desc := .func #[70] #[9, 24] false, size := 1, bytes := 8, zero := .nilFunc, cmp := false, eqOk := false }
def ti72 : TI := { desc := .func #[70] #[9, 3] false, size := 1, bytes := 8, zero := .nilFunc, cmp := false, eqOk := false }
def ti73 : TI := { desc := .tuple #[70, 24], size := 1, bytes := 0, zero := .tuple #[.agg #[.int .i64 0, .int .i64 0, .int .i64 0, .int .i64 0, .int .i64 0, .int .i64 0, .int .i64 0, .int .i64 0, .string ⟨#[]⟩], .int .i64 0], cmp := false, eqOk := false }
def ti74 : TI := { desc := .func #[9] #[70, 24] false, size := 1, bytes := 8, zero := .nilFunc, cmp := false, eqOk := false }
def ti75 : TI := { desc := .tuple #[70, 3], size := 1, bytes := 0, zero := .tuple #[.agg #[.int .i64 0, .int .i64 0, .int .i64 0, .int .i64 0, .int .i64 0, .int .i64 0, .int .i64 0, .int .i64 0, .string ⟨#[]⟩], .int .i64 0], cmp := false, eqOk := false }
def ti76 : TI := { desc := .func #[9] #[70, 3] false, size := 1, bytes := 8, zero := .nilFunc, cmp := false, eqOk := false }
def ti77 : TI := { desc := .func #[70] #[4] false, size := 1, bytes := 8, zero := .nilFunc, cmp := false, eqOk := false }
def ti78 : TI := { desc := .func #[70, 9] #[4] false, size := 1, bytes := 8, zero := .nilFunc, cmp := false, eqOk := false }
def ti79 : TI := { desc := .func #[70, 9, 3] #[4] false, size := 1, bytes := 8, zero := .nilFunc, cmp := false, eqOk := false }
def ti80 : TI := { desc := .func #[70, 70] #[4] false, size := 1, bytes := 8, zero := .nilFunc, cmp := false, eqOk := false }
def ti81 : TI := { desc := .slice 70, size := 1, bytes := 24, zero := .slice none 0 0, cmp := false, eqOk := false }
def ti82 : TI := { desc := .func #[3] #[9, 24] false, size := 1, bytes := 8, zero := .nilFunc, cmp := false, eqOk := false }
def ti83 : TI := { desc := .slice 86, size := 1, bytes := 24, zero := .slice none 0 0, cmp := false, eqOk := false }
def ti84 : TI := { desc := .func #[85] #[83] false, size := 1, bytes := 8, zero := .nilFunc, cmp := false, eqOk := false }
def ti85 : TI := { desc := .pointer 23, size := 1, bytes := 8, zero := .pointer none, cmp := true, eqOk := false }
def ti86 : TI := { desc := .pointer 3, size := 1, bytes := 8, zero := .pointer none, cmp := true, eqOk := false }
def ti87 : TI := { desc := .func #[114] #[9] true, size := 1, bytes := 8, zero := .nilFunc, cmp := false, eqOk := false }
def ti88 : TI := { desc := .pointer 92, size := 1, bytes := 8, zero := .pointer none, cmp := true, eqOk := false }
def ti89 : TI := { desc := .interface #[("Error", 108)], size := 1, bytes := 16, zero := .nilIface, cmp := true, eqOk := false }
def ti90 : TI := { desc := .interface #[("Error", 108)], size := 1, bytes := 16, zero := .nilIface, cmp := true, eqOk := false }
def ti91 : TI := { desc := .struct #[⟨ "S", 9, 0, false, "", "", 0⟩, ⟨ "At", 3, 1, false, "", "", 16⟩, ⟨ "Err", 90, 2, false, "", "", 24⟩], size := 3, bytes := 40, zero := .agg #[.string ⟨#[]⟩, .int .i64 0, .nilIface], cmp := true, eqOk := false }
def ti92 : TI := { desc := .struct #[⟨ "S", 9, 0, false, "", "", 0⟩, ⟨ "At", 3, 1, false, "", "", 16⟩, ⟨ "Err", 90, 2, false, "", "", 24⟩], size := 3, bytes := 40, zero := .agg #[.string ⟨#[]⟩, .int .i64 0, .nilIface], cmp := true, eqOk := false }
def ti93 : TI := { desc := .func #[] #[3] false, size := 1, bytes := 8, zero := .nilFunc, cmp := false, eqOk := false }
def ti94 : TI := { desc := .pointer 96, size := 1, bytes := 8, zero := .pointer none, cmp := true, eqOk := false }
def ti95 : TI := { desc := .struct #[⟨ "S", 9, 0, false, "", "", 0⟩, ⟨ "At", 3, 1, false, "", "", 16⟩, ⟨ "Bad", 4, 2, false, "", "", 24⟩], size := 3, bytes := 32, zero := .agg #[.string ⟨#[]⟩, .int .i64 0, .bool false], cmp := true, eqOk := true }
def ti96 : TI := { desc := .struct #[⟨ "S", 9, 0, false, "", "", 0⟩, ⟨ "At", 3, 1, false, "", "", 16⟩, ⟨ "Bad", 4, 2, false, "", "", 24⟩], size := 3, bytes := 32, zero := .agg #[.string ⟨#[]⟩, .int .i64 0, .bool false], cmp := true, eqOk := true }
def ti97 : TI := { desc := .func #[3] #[4] false, size := 1, bytes := 8, zero := .nilFunc, cmp := false, eqOk := false }
def ti98 : TI := { desc := .func #[85] #[23] false, size := 1, bytes := 8, zero := .nilFunc, cmp := false, eqOk := false }
def ti99 : TI := { desc := .func #[100] #[83] false, size := 1, bytes := 8, zero := .nilFunc, cmp := false, eqOk := false }
def ti100 : TI := { desc := .pointer 43, size := 1, bytes := 8, zero := .pointer none, cmp := true, eqOk := false }
def ti101 : TI := { desc := .func #[100] #[43] false, size := 1, bytes := 8, zero := .nilFunc, cmp := false, eqOk := false }
def ti102 : TI := { desc := .tuple #[43, 4], size := 1, bytes := 0, zero := .tuple #[.agg #[.int .i64 0, .int .i64 0, .int .i64 0, .int .i64 0, .int .i64 0, .int .i64 0, .int .i64 0, .int .i64 0], .bool false], cmp := false, eqOk := false }
def ti103 : TI := { desc := .func #[43] #[43, 4] false, size := 1, bytes := 8, zero := .nilFunc, cmp := false, eqOk := false }
def ti104 : TI := { desc := .func #[105] #[83] false, size := 1, bytes := 8, zero := .nilFunc, cmp := false, eqOk := false }
def ti105 : TI := { desc := .pointer 56, size := 1, bytes := 8, zero := .pointer none, cmp := true, eqOk := false }
def ti106 : TI := { desc := .func #[9] #[9, 24] false, size := 1, bytes := 8, zero := .nilFunc, cmp := false, eqOk := false }
def ti107 : TI := { desc := .func #[9] #[9, 3] false, size := 1, bytes := 8, zero := .nilFunc, cmp := false, eqOk := false }
def ti108 : TI := { desc := .func #[] #[9] false, size := 1, bytes := 8, zero := .nilFunc, cmp := false, eqOk := false }
def ti109 : TI := { desc := .func #[105] #[56] false, size := 1, bytes := 8, zero := .nilFunc, cmp := false, eqOk := false }
def ti110 : TI := { desc := .func #[111] #[83] false, size := 1, bytes := 8, zero := .nilFunc, cmp := false, eqOk := false }
def ti111 : TI := { desc := .pointer 70, size := 1, bytes := 8, zero := .pointer none, cmp := true, eqOk := false }
def ti112 : TI := { desc := .func #[111] #[70] false, size := 1, bytes := 8, zero := .nilFunc, cmp := false, eqOk := false }
def ti113 : TI := { desc := .func #[3] #[3] false, size := 1, bytes := 8, zero := .nilFunc, cmp := false, eqOk := false }
def ti114 : TI := { desc := .slice 3, size := 1, bytes := 24, zero := .slice none 0 0, cmp := false, eqOk := false }
def ti115 : TI := { desc := .func #[3] #[9, 3] false, size := 1, bytes := 8, zero := .nilFunc, cmp := false, eqOk := false }
def ti116 : TI := { desc := .tuple #[3, 3, 90], size := 1, bytes := 0, zero := .tuple #[.int .i64 0, .int .i64 0, .nilIface], cmp := false, eqOk := false }
def ti117 : TI := { desc := .func #[9, 3] #[3, 3, 90] false, size := 1, bytes := 8, zero := .nilFunc, cmp := false, eqOk := false }
def ti118 : TI := { desc := .tuple #[3, 3, 3], size := 1, bytes := 0, zero := .tuple #[.int .i64 0, .int .i64 0, .int .i64 0], cmp := false, eqOk := false }
def ti119 : TI := { desc := .func #[9, 3] #[3, 3, 3] false, size := 1, bytes := 8, zero := .nilFunc, cmp := false, eqOk := false }
def ti120 : TI := { desc := .tuple #[9, 3, 90], size := 1, bytes := 0, zero := .tuple #[.string ⟨#[]⟩, .int .i64 0, .nilIface], cmp := false, eqOk := false }
def ti121 : TI := { desc := .func #[9, 3] #[9, 3, 90] false, size := 1, bytes := 8, zero := .nilFunc, cmp := false, eqOk := false }
def ti122 : TI := { desc := .tuple #[9, 3, 3], size := 1, bytes := 0, zero := .tuple #[.string ⟨#[]⟩, .int .i64 0, .int .i64 0], cmp := false, eqOk := false }
def ti123 : TI := { desc := .func #[9, 3] #[9, 3, 3] false, size := 1, bytes := 8, zero := .nilFunc, cmp := false, eqOk := false }
def ti124 : TI := { desc := .func #[105] #[9] false, size := 1, bytes := 8, zero := .nilFunc, cmp := false, eqOk := false }
def ti125 : TI := { desc := .func #[111] #[9] false, size := 1, bytes := 8, zero := .nilFunc, cmp := false, eqOk := false }
def ti126 : TI := { desc := .pointer 128, size := 1, bytes := 8, zero := .pointer none, cmp := true, eqOk := false }
def ti127 : TI := { desc := .struct #[⟨ "At", 3, 0, false, "", "", 0⟩, ⟨ "Err", 90, 1, false, "", "", 8⟩], size := 2, bytes := 24, zero := .agg #[.int .i64 0, .nilIface], cmp := true, eqOk := false }
def ti128 : TI := { desc := .struct #[⟨ "At", 3, 0, false, "", "", 0⟩, ⟨ "Err", 90, 1, false, "", "", 8⟩], size := 2, bytes := 24, zero := .agg #[.int .i64 0, .nilIface], cmp := true, eqOk := false }
def ti129 : TI := { desc := .struct #[⟨ "_interface", 17, 0, false, "", "runtime", 0⟩, ⟨ "concrete", 17, 1, false, "", "runtime", 8⟩, ⟨ "asserted", 17, 2, false, "", "runtime", 16⟩, ⟨ "missingMethod", 9, 3, false, "", "runtime", 24⟩], size := 4, bytes := 40, zero := .agg #[.pointer none, .pointer none, .pointer none, .string ⟨#[]⟩], cmp := true, eqOk := false }
def ti130 : TI := { desc := .struct #[⟨ "_interface", 17, 0, false, "", "runtime", 0⟩, ⟨ "concrete", 17, 1, false, "", "runtime", 8⟩, ⟨ "asserted", 17, 2, false, "", "runtime", 16⟩, ⟨ "missingMethod", 9, 3, false, "", "runtime", 24⟩], size := 4, bytes := 40, zero := .agg #[.pointer none, .pointer none, .pointer none, .string ⟨#[]⟩], cmp := true, eqOk := false }
def ti131 : TI := { desc := .array 0 16, size := 0, bytes := 0, zero := .agg #[], cmp := true, eqOk := false }
def ti132 : TI := { desc := .struct #[⟨ "_", 131, 0, false, "", "runtime", 0⟩], size := 0, bytes := 0, zero := .agg #[], cmp := true, eqOk := false }
def ti133 : TI := { desc := .struct #[⟨ "_", 131, 0, false, "", "runtime", 0⟩], size := 0, bytes := 0, zero := .agg #[], cmp := true, eqOk := false }
def ti134 : TI := { desc := .int .u32, size := 1, bytes := 4, zero := .int .u32 0, cmp := true, eqOk := false }
def ti135 : TI := { desc := .int .u8, size := 1, bytes := 1, zero := .int .u8 0, cmp := true, eqOk := false }
def ti136 : TI := { desc := .int .u8, size := 1, bytes := 1, zero := .int .u8 0, cmp := true, eqOk := false }
def ti137 : TI := { desc := .func #[143, 143] #[4] false, size := 1, bytes := 8, zero := .nilFunc, cmp := false, eqOk := false }
def ti138 : TI := { desc := .pointer 5, size := 1, bytes := 8, zero := .pointer none, cmp := true, eqOk := false }
def ti139 : TI := { desc := .int .i32, size := 1, bytes := 4, zero := .int .i32 0, cmp := true, eqOk := false }
def ti140 : TI := { desc := .int .i32, size := 1, bytes := 4, zero := .int .i32 0, cmp := true, eqOk := false }
def ti141 : TI := { desc := .struct #[⟨ "Size_", 12, 0, false, "", "", 0⟩, ⟨ "PtrBytes", 12, 1, false, "", "", 8⟩, ⟨ "Hash", 134, 2, false, "", "", 16⟩, ⟨ "TFlag", 135, 3, false, "", "", 20⟩, ⟨ "Align_", 5, 4, false, "", "", 21⟩, ⟨ "FieldAlign_", 5, 5, false, "", "", 22⟩, ⟨ "Kind_", 136, 6, false, "", "", 23⟩, ⟨ "Equal", 137, 7, false, "", "", 24⟩, ⟨ "GCData", 138, 8, false, "", "", 32⟩, ⟨ "Str", 139, 9, false, "", "", 40⟩, ⟨ "PtrToThis", 140, 10, false, "", "", 44⟩], size := 11, bytes := 48, zero := .agg #[.int .u64 0, .int .u64 0, .int .u32 0, .int .u8 0, .int .u8 0, .int .u8 0, .int .u8 0, .nilFunc, .pointer none, .int .i32 0, .int .i32 0], cmp := false, eqOk := false }
def ti142 : TI := { desc := .struct #[⟨ "Size_", 12, 0, false, "", "", 0⟩, ⟨ "PtrBytes", 12, 1, false, "", "", 8⟩, ⟨ "Hash", 134, 2, false, "", "", 16⟩, ⟨ "TFlag", 135, 3, false, "", "", 20⟩, ⟨ "Align_", 5, 4, false, "", "", 21⟩, ⟨ "FieldAlign_", 5, 5, false, "", "", 22⟩, ⟨ "Kind_", 136, 6, false, "", "", 23⟩, ⟨ "Equal", 137, 7, false, "", "", 24⟩, ⟨ "GCData", 138, 8, false, "", "", 32⟩, ⟨ "Str", 139, 9, false, "", "", 40⟩, ⟨ "PtrToThis", 140, 10, false, "", "", 44⟩], size := 11, bytes := 48, zero := .agg #[.int .u64 0, .int .u64 0, .int .u32 0, .int .u8 0, .int .u8 0, .int .u8 0, .int .u8 0, .nilFunc, .pointer none, .int .i32 0, .int .i32 0], cmp := false, eqOk := false }
def tys : Nat → Option TI
  | 0 => some ti0
  | 1 => some ti1
  | 2 => some ti2
  | 3 => some ti3
  | 4 => some ti4
  | 5 => some ti5
  | 6 => some ti6
  | 7 => some ti7
  | 8 => some ti8
  | 9 => some ti9
  | 10 => some ti10
  | 11 => some ti11
  | 12 => some ti12
  | 13 => some ti13
  | 14 => some ti14
  | 15 => some ti15
  | 16 => some ti16
  | 17 => some ti17
  | 18 => some ti18
  | 19 => some ti19
  | 20 => some ti20
  | 21 => some ti21
  | 22 => some ti22
  | 23 => some ti23
  | 24 => some ti24
  | 25 => some ti25
  | 26 => some ti26
  | 27 => some ti27
  | 28 => some ti28
  | 29 => some ti29
  | 30 => some ti30
  | 31 => some ti31
  | 32 => some ti32
  | 33 => some ti33
  | 34 => some ti34
  | 35 => some ti35
  | 36 => some ti36
  | 37 => some ti37
  | 38 => some ti38
  | 39 => some ti39
  | 40 => some ti40
  | 41 => some ti41
  | 42 => some ti42
  | 43 => some ti43
  | 44 => some ti44
  | 45 => some ti45
  | 46 => some ti46
  | 47 => some ti47
  | 48 => some ti48
  | 49 => some ti49
  | 50 => some ti50
  | 51 => some ti51
  | 52 => some ti52
  | 53 => some ti53
  | 54 => some ti54
  | 55 => some ti55
  | 56 => some ti56
  | 57 => some ti57
  | 58 => some ti58
  | 59 => some ti59
  | 60 => some ti60
  | 61 => some ti61
  | 62 => some ti62
  | 63 => some ti63
  | 64 => some ti64
  | 65 => some ti65
  | 66 => some ti66
  | 67 => some ti67
  | 68 => some ti68
  | 69 => some ti69
  | 70 => some ti70
  | 71 => some ti71
  | 72 => some ti72
  | 73 => some ti73
  | 74 => some ti74
  | 75 => some ti75
  | 76 => some ti76
  | 77 => some ti77
  | 78 => some ti78
  | 79 => some ti79
  | 80 => some ti80
  | 81 => some ti81
  | 82 => some ti82
  | 83 => some ti83
  | 84 => some ti84
  | 85 => some ti85
  | 86 => some ti86
  | 87 => some ti87
  | 88 => some ti88
  | 89 => some ti89
  | 90 => some ti90
  | 91 => some ti91
  | 92 => some ti92
  | 93 => some ti93
  | 94 => some ti94
  | 95 => some ti95
  | 96 => some ti96
  | 97 => some ti97
  | 98 => some ti98
  | 99 => some ti99
  | 100 => some ti100
  | 101 => some ti101
  | 102 => some ti102
  | 103 => some ti103
  | 104 => some ti104
  | 105 => some ti105
  | 106 => some ti106
  | 107 => some ti107
  | 108 => some ti108
  | 109 => some ti109
  | 110 => some ti110
  | 111 => some ti111
  | 112 => some ti112
  | 113 => some ti113
  | 114 => some ti114
  | 115 => some ti115
  | 116 => some ti116
  | 117 => some ti117
  | 118 => some ti118
  | 119 => some ti119
  | 120 => some ti120
  | 121 => some ti121
  | 122 => some ti122
  | 123 => some ti123
  | 124 => some ti124
  | 125 => some ti125
  | 126 => some ti126
  | 127 => some ti127
  | 128 => some ti128
  | 129 => some ti129
  | 130 => some ti130
  | 131 => some ti131
  | 132 => some ti132
  | 133 => some ti133
  | 134 => some ti134
  | 135 => some ti135
  | 136 => some ti136
  | 137 => some ti137
  | 138 => some ti138
  | 139 => some ti139
  | 140 => some ti140
  | 141 => some ti141
  | 142 => some ti142
  | _ => none
theorem tys_0 : tys 0 = some ti0 := rfl
theorem tys_1 : tys 1 = some ti1 := rfl
theorem tys_2 : tys 2 = some ti2 := rfl
theorem tys_3 : tys 3 = some ti3 := rfl
theorem tys_4 : tys 4 = some ti4 := rfl
theorem tys_5 : tys 5 = some ti5 := rfl
theorem tys_6 : tys 6 = some ti6 := rfl
theorem tys_7 : tys 7 = some ti7 := rfl
theorem tys_8 : tys 8 = some ti8 := rfl
theorem tys_9 : tys 9 = some ti9 := rfl
theorem tys_10 : tys 10 = some ti10 := rfl
theorem tys_11 : tys 11 = some ti11 := rfl
theorem tys_12 : tys 12 = some ti12 := rfl
theorem tys_13 : tys 13 = some ti13 := rfl
theorem tys_14 : tys 14 = some ti14 := rfl
theorem tys_15 : tys 15 = some ti15 := rfl
theorem tys_16 : tys 16 = some ti16 := rfl
theorem tys_17 : tys 17 = some ti17 := rfl
theorem tys_18 : tys 18 = some ti18 := rfl
theorem tys_19 : tys 19 = some ti19 := rfl
theorem tys_20 : tys 20 = some ti20 := rfl
theorem tys_21 : tys 21 = some ti21 := rfl
theorem tys_22 : tys 22 = some ti22 := rfl
theorem tys_23 : tys 23 = some ti23 := rfl
theorem tys_24 : tys 24 = some ti24 := rfl
theorem tys_25 : tys 25 = some ti25 := rfl
theorem tys_26 : tys 26 = some ti26 := rfl
theorem tys_27 : tys 27 = some ti27 := rfl
theorem tys_28 : tys 28 = some ti28 := rfl
theorem tys_29 : tys 29 = some ti29 := rfl
theorem tys_30 : tys 30 = some ti30 := rfl
theorem tys_31 : tys 31 = some ti31 := rfl
theorem tys_32 : tys 32 = some ti32 := rfl
theorem tys_33 : tys 33 = some ti33 := rfl
theorem tys_34 : tys 34 = some ti34 := rfl
theorem tys_35 : tys 35 = some ti35 := rfl
theorem tys_36 : tys 36 = some ti36 := rfl
theorem tys_37 : tys 37 = some ti37 := rfl
theorem tys_38 : tys 38 = some ti38 := rfl
theorem tys_39 : tys 39 = some ti39 := rfl
theorem tys_40 : tys 40 = some ti40 := rfl
theorem tys_41 : tys 41 = some ti41 := rfl
theorem tys_42 : tys 42 = some ti42 := rfl
theorem tys_43 : tys 43 = some ti43 := rfl
theorem tys_44 : tys 44 = some ti44 := rfl
theorem tys_45 : tys 45 = some ti45 := rfl
theorem tys_46 : tys 46 = some ti46 := rfl
theorem tys_47 : tys 47 = some ti47 := rfl
theorem tys_48 : tys 48 = some ti48 := rfl
theorem tys_49 : tys 49 = some ti49 := rfl
theorem tys_50 : tys 50 = some ti50 := rfl
theorem tys_51 : tys 51 = some ti51 := rfl
theorem tys_52 : tys 52 = some ti52 := rfl
theorem tys_53 : tys 53 = some ti53 := rfl
theorem tys_54 : tys 54 = some ti54 := rfl
theorem tys_55 : tys 55 = some ti55 := rfl
theorem tys_56 : tys 56 = some ti56 := rfl
theorem tys_57 : tys 57 = some ti57 := rfl
theorem tys_58 : tys 58 = some ti58 := rfl
theorem tys_59 : tys 59 = some ti59 := rfl
theorem tys_60 : tys 60 = some ti60 := rfl
theorem tys_61 : tys 61 = some ti61 := rfl
theorem tys_62 : tys 62 = some ti62 := rfl
theorem tys_63 : tys 63 = some ti63 := rfl
theorem tys_64 : tys 64 = some ti64 := rfl
theorem tys_65 : tys 65 = some ti65 := rfl
theorem tys_66 : tys 66 = some ti66 := rfl
theorem tys_67 : tys 67 = some ti67 := rfl
theorem tys_68 : tys 68 = some ti68 := rfl
theorem tys_69 : tys 69 = some ti69 := rfl
theorem tys_70 : tys 70 = some ti70 := rfl
theorem tys_71 : tys 71 = some ti71 := rfl
theorem tys_72 : tys 72 = some ti72 := rfl
theorem tys_73 : tys 73 = some ti73 := rfl
theorem tys_74 : tys 74 = some ti74 := rfl
theorem tys_75 : tys 75 = some ti75 := rfl
theorem tys_76 : tys 76 = some ti76 := rfl
theorem tys_77 : tys 77 = some ti77 := rfl
theorem tys_78 : tys 78 = some ti78 := rfl
theorem tys_79 : tys 79 = some ti79 := rfl
theorem tys_80 : tys 80 = some ti80 := rfl
theorem tys_81 : tys 81 = some ti81 := rfl
theorem tys_82 : tys 82 = some ti82 := rfl
theorem tys_83 : tys 83 = some ti83 := rfl
theorem tys_84 : tys 84 = some ti84 := rfl
theorem tys_85 : tys 85 = some ti85 := rfl
theorem tys_86 : tys 86 = some ti86 := rfl
theorem tys_87 : tys 87 = some ti87 := rfl
theorem tys_88 : tys 88 = some ti88 := rfl
theorem tys_89 : tys 89 = some ti89 := rfl
theorem tys_90 : tys 90 = some ti90 := rfl
theorem tys_91 : tys 91 = some ti91 := rfl
theorem tys_92 : tys 92 = some ti92 := rfl
theorem tys_93 : tys 93 = some ti93 := rfl
theorem tys_94 : tys 94 = some ti94 := rfl
theorem tys_95 : tys 95 = some ti95 := rfl
theorem tys_96 : tys 96 = some ti96 := rfl
theorem tys_97 : tys 97 = some ti97 := rfl
theorem tys_98 : tys 98 = some ti98 := rfl
theorem tys_99 : tys 99 = some ti99 := rfl
theorem tys_100 : tys 100 = some ti100 := rfl
theorem tys_101 : tys 101 = some ti101 := rfl
theorem tys_102 : tys 102 = some ti102 := rfl
theorem tys_103 : tys 103 = some ti103 := rfl
theorem tys_104 : tys 104 = some ti104 := rfl
theorem tys_105 : tys 105 = some ti105 := rfl
theorem tys_106 : tys 106 = some ti106 := rfl
theorem tys_107 : tys 107 = some ti107 := rfl
theorem tys_108 : tys 108 = some ti108 := rfl
theorem tys_109 : tys 109 = some ti109 := rfl
theorem tys_110 : tys 110 = some ti110 := rfl
theorem tys_111 : tys 111 = some ti111 := rfl
theorem tys_112 : tys 112 = some ti112 := rfl
theorem tys_113 : tys 113 = some ti113 := rfl
theorem tys_114 : tys 114 = some ti114 := rfl
theorem tys_115 : tys 115 = some ti115 := rfl
theorem tys_116 : tys 116 = some ti116 := rfl
theorem tys_117 : tys 117 = some ti117 := rfl
theorem tys_118 : tys 118 = some ti118 := rfl
theorem tys_119 : tys 119 = some ti119 := rfl
theorem tys_120 : tys 120 = some ti120 := rfl
theorem tys_121 : tys 121 = some ti121 := rfl
theorem tys_122 : tys 122 = some ti122 := rfl
theorem tys_123 : tys 123 = some ti123 := rfl
theorem tys_124 : tys 124 = some ti124 := rfl
theorem tys_125 : tys 125 = some ti125 := rfl
theorem tys_126 : tys 126 = some ti126 := rfl
theorem tys_127 : tys 127 = some ti127 := rfl
theorem tys_128 : tys 128 = some ti128 := rfl
theorem tys_129 : tys 129 = some ti129 := rfl
theorem tys_130 : tys 130 = some ti130 := rfl
theorem tys_131 : tys 131 = some ti131 := rfl
theorem tys_132 : tys 132 = some ti132 := rfl
theorem tys_133 : tys 133 = some ti133 := rfl
theorem tys_134 : tys 134 = some ti134 := rfl
theorem tys_135 : tys 135 = some ti135 := rfl
theorem tys_136 : tys 136 = some ti136 := rfl
theorem tys_137 : tys 137 = some ti137 := rfl
theorem tys_138 : tys 138 = some ti138 := rfl
theorem tys_139 : tys 139 = some ti139 := rfl
theorem tys_140 : tys 140 = some ti140 := rfl
theorem tys_141 : tys 141 = some ti141 := rfl
theorem tys_142 : tys 142 = some ti142 := rfl
theorem one_0 : One Try.prog 0 ti0 := ⟨by kernel_rfl, by kernel_rfl, fun _ => vrel_tuple lrel_nil, (fun h => by cases h), rfl⟩
theorem one_1 : One Try.prog 1 ti1 := ⟨by kernel_rfl, by kernel_rfl, fun _ => .nilFunc, (fun h => by cases h), rfl⟩
theorem one_2 : One Try.prog 2 ti2 := ⟨by kernel_rfl, by kernel_rfl, fun _ => .int _ _, (fun h => by cases h), rfl⟩
theorem one_3 : One Try.prog 3 ti3 := ⟨by kernel_rfl, by kernel_rfl, fun _ => .int _ _, (fun h => by cases h), rfl⟩
theorem one_4 : One Try.prog 4 ti4 := ⟨by kernel_rfl, by kernel_rfl, fun _ => .bool _, (fun h => by cases h), rfl⟩
theorem one_5 : One Try.prog 5 ti5 := ⟨by kernel_rfl, by kernel_rfl, fun _ => .int _ _, (fun h => by cases h), rfl⟩
theorem one_6 : One Try.prog 6 ti6 := ⟨by kernel_rfl, by kernel_rfl, fun _ => .int _ _, (fun h => by cases h), rfl⟩
theorem one_7 : One Try.prog 7 ti7 := ⟨by kernel_rfl, by kernel_rfl, fun _ => vrel_agg (lrel_cons (.int _ _) (lrel_cons (.int _ _) (lrel_cons (.bool _) (lrel_cons (.int _ _) lrel_nil)))), (fun h => by cases h), rfl⟩
theorem one_8 : One Try.prog 8 ti8 := ⟨by kernel_rfl, by kernel_rfl, fun _ => vrel_agg (lrel_cons (.int _ _) (lrel_cons (.int _ _) (lrel_cons (.bool _) (lrel_cons (.int _ _) lrel_nil)))), (fun h => by cases h), rfl⟩
theorem one_9 : One Try.prog 9 ti9 := ⟨by kernel_rfl, by kernel_rfl, fun _ => .string _, (fun h => by cases h), rfl⟩
theorem one_10 : One Try.prog 10 ti10 := ⟨by kernel_rfl, by kernel_rfl, fun _ => .string _, (fun h => by cases h), rfl⟩
theorem one_11 : One Try.prog 11 ti11 := ⟨by kernel_rfl, by kernel_rfl, fun _ => .string _, (fun h => by cases h), rfl⟩
theorem one_12 : One Try.prog 12 ti12 := ⟨by kernel_rfl, by kernel_rfl, fun _ => .int _ _, (fun h => by cases h), rfl⟩
theorem one_13 : One Try.prog 13 ti13 := ⟨by kernel_rfl, by kernel_rfl, fun _ => vrel_agg (lrel_cons (.string _) (lrel_cons (.int _ _) lrel_nil)), (fun h => by cases h), rfl⟩
theorem one_14 : One Try.prog 14 ti14 := ⟨by kernel_rfl, by kernel_rfl, fun _ => vrel_agg (lrel_cons (.string _) (lrel_cons (.int _ _) lrel_nil)), (fun h => by cases h), rfl⟩
theorem one_15 : One Try.prog 15 ti15 := ⟨by kernel_rfl, by kernel_rfl, fun _ => .nilPtr, (fun h => by cases h), rfl⟩
theorem one_16 : One Try.prog 16 ti16 := ⟨by kernel_rfl, by kernel_rfl, fun _ => .nilPtr, (fun h => by cases h), rfl⟩
theorem one_17 : One Try.prog 17 ti17 := ⟨by kernel_rfl, by kernel_rfl, fun _ => .nilPtr, (fun h => by cases h), rfl⟩
theorem one_18 : One Try.prog 18 ti18 := ⟨by kernel_rfl, by kernel_rfl, fun _ => vrel_agg (lrel_cons (.nilPtr) lrel_nil), (fun h => by cases h), rfl⟩
theorem one_19 : One Try.prog 19 ti19 := ⟨by kernel_rfl, by kernel_rfl, fun _ => vrel_agg (lrel_cons (.nilPtr) lrel_nil), (fun h => by cases h), rfl⟩
theorem one_20 : One Try.prog 20 ti20 := ⟨by kernel_rfl, by kernel_rfl, fun _ => .nilIface, (fun h => by cases h), rfl⟩
theorem one_21 : One Try.prog 21 ti21 := ⟨by kernel_rfl, by kernel_rfl, fun _ => .int _ _, (fun h => by cases h), rfl⟩
theorem one_22 : One Try.prog 22 ti22 := ⟨by kernel_rfl, by kernel_rfl, fun _ => vrel_agg (lrel_cons (.int _ _) (lrel_cons (.int _ _) (lrel_cons (.int _ _) (lrel_cons (.int _ _) (lrel_cons (.int _ _) (lrel_cons (.int _ _) lrel_nil)))))), (fun _ => ⟨by kernel_rfl, by kernel_rfl⟩), rfl⟩
theorem one_23 : One Try.prog 23 ti23 := ⟨by kernel_rfl, by kernel_rfl, fun _ => vrel_agg (lrel_cons (.int _ _) (lrel_cons (.int _ _) (lrel_cons (.int _ _) (lrel_cons (.int _ _) (lrel_cons (.int _ _) (lrel_cons (.int _ _) lrel_nil)))))), (fun _ => ⟨by kernel_rfl, by kernel_rfl⟩), rfl⟩
theorem one_24 : One Try.prog 24 ti24 := ⟨by kernel_rfl, by kernel_rfl, fun _ => .int _ _, (fun h => by cases h), rfl⟩
theorem one_25 : One Try.prog 25 ti25 := ⟨by kernel_rfl, by kernel_rfl, fun _ => vrel_tuple (lrel_cons (.string _) (lrel_cons (.int _ _) lrel_nil)), (fun h => by cases h), rfl⟩
theorem one_26 : One Try.prog 26 ti26 := ⟨by kernel_rfl, by kernel_rfl, fun _ => .nilFunc, (fun h => by cases h), rfl⟩
theorem one_27 : One Try.prog 27 ti27 := ⟨by kernel_rfl, by kernel_rfl, fun _ => vrel_tuple (lrel_cons (.string _) (lrel_cons (.int _ _) lrel_nil)), (fun h => by cases h), rfl⟩
theorem one_28 : One Try.prog 28 ti28 := ⟨by kernel_rfl, by kernel_rfl, fun _ => .nilFunc, (fun h => by cases h), rfl⟩
theorem one_29 : One Try.prog 29 ti29 := ⟨by kernel_rfl, by kernel_rfl, fun _ => vrel_tuple (lrel_cons (vrel_agg (lrel_cons (.int _ _) (lrel_cons (.int _ _) (lrel_cons (.int _ _) (lrel_cons (.int _ _) (lrel_cons (.int _ _) (lrel_cons (.int _ _) lrel_nil))))))) (lrel_cons (.int _ _) lrel_nil)), (fun h => by cases h), rfl⟩
theorem one_30 : One Try.prog 30 ti30 := ⟨by kernel_rfl, by kernel_rfl, fun _ => .nilFunc, (fun h => by cases h), rfl⟩
theorem one_31 : One Try.prog 31 ti31 := ⟨by kernel_rfl, by kernel_rfl, fun _ => vrel_tuple (lrel_cons (vrel_agg (lrel_cons (.int _ _) (lrel_cons (.int _ _) (lrel_cons (.int _ _) (lrel_cons (.int _ _) (lrel_cons (.int _ _) (lrel_cons (.int _ _) lrel_nil))))))) (lrel_cons (.int _ _) lrel_nil)), (fun h => by cases h), rfl⟩
theorem one_32 : One Try.prog 32 ti32 := ⟨by kernel_rfl, by kernel_rfl, fun _ => .nilFunc, (fun h => by cases h), rfl⟩
theorem one_33 : One Try.prog 33 ti33 := ⟨by kernel_rfl, by kernel_rfl, fun _ => .nilFunc, (fun h => by cases h), rfl⟩
theorem one_34 : One Try.prog 34 ti34 := ⟨by kernel_rfl, by kernel_rfl, fun _ => .nilFunc, (fun h => by cases h), rfl⟩
theorem one_35 : One Try.prog 35 ti35 := ⟨by kernel_rfl, by kernel_rfl, fun _ => .nilFunc, (fun h => by cases h), rfl⟩
theorem one_36 : One Try.prog 36 ti36 := ⟨by kernel_rfl, by kernel_rfl, fun _ => .nilFunc, (fun h => by cases h), rfl⟩
theorem one_37 : One Try.prog 37 ti37 := ⟨by kernel_rfl, by kernel_rfl, fun _ => .int _ _, (fun h => by cases h), rfl⟩
theorem one_38 : One Try.prog 38 ti38 := ⟨by kernel_rfl, by kernel_rfl, fun _ => .nilFunc, (fun h => by cases h), rfl⟩
theorem one_39 : One Try.prog 39 ti39 := ⟨by kernel_rfl, by kernel_rfl, fun _ => .nilFunc, (fun h => by cases h), rfl⟩
theorem one_40 : One Try.prog 40 ti40 := ⟨by kernel_rfl, by kernel_rfl, fun _ => .nilSlice, (fun h => by cases h), rfl⟩
theorem one_41 : One Try.prog 41 ti41 := ⟨by kernel_rfl, by kernel_rfl, fun _ => .nilFunc, (fun h => by cases h), rfl⟩
theorem one_42 : One Try.prog 42 ti42 := ⟨by kernel_rfl, by kernel_rfl, fun _ => vrel_agg (lrel_cons (.int _ _) (lrel_cons (.int _ _) (lrel_cons (.int _ _) (lrel_cons (.int _ _) (lrel_cons (.int _ _) (lrel_cons (.int _ _) (lrel_cons (.int _ _) (lrel_cons (.int _ _) lrel_nil)))))))), (fun _ => ⟨by kernel_rfl, by kernel_rfl⟩), rfl⟩
theorem one_43 : One Try.prog 43 ti43 := ⟨by kernel_rfl, by kernel_rfl, fun _ => vrel_agg (lrel_cons (.int _ _) (lrel_cons (.int _ _) (lrel_cons (.int _ _) (lrel_cons (.int _ _) (lrel_cons (.int _ _) (lrel_cons (.int _ _) (lrel_cons (.int _ _) (lrel_cons (.int _ _) lrel_nil)))))))), (fun _ => ⟨by kernel_rfl, by kernel_rfl⟩), rfl⟩
theorem one_44 : One Try.prog 44 ti44 := ⟨by kernel_rfl, by kernel_rfl, fun _ => .nilFunc, (fun h => by cases h), rfl⟩
theorem one_45 : One Try.prog 45 ti45 := ⟨by kernel_rfl, by kernel_rfl, fun _ => .nilFunc, (fun h => by cases h), rfl⟩
theorem one_46 : One Try.prog 46 ti46 := ⟨by kernel_rfl, by kernel_rfl, fun _ => vrel_tuple (lrel_cons (vrel_agg (lrel_cons (.int _ _) (lrel_cons (.int _ _) (lrel_cons (.int _ _) (lrel_cons (.int _ _) (lrel_cons (.int _ _) (lrel_cons (.int _ _) (lrel_cons (.int _ _) (lrel_cons (.int _ _) lrel_nil))))))))) (lrel_cons (.int _ _) lrel_nil)), (fun h => by cases h), rfl⟩
theorem one_47 : One Try.prog 47 ti47 := ⟨by kernel_rfl, by kernel_rfl, fun _ => .nilFunc, (fun h => by cases h), rfl⟩
theorem one_48 : One Try.prog 48 ti48 := ⟨by kernel_rfl, by kernel_rfl, fun _ => vrel_tuple (lrel_cons (vrel_agg (lrel_cons (.int _ _) (lrel_cons (.int _ _) (lrel_cons (.int _ _) (lrel_cons (.int _ _) (lrel_cons (.int _ _) (lrel_cons (.int _ _) (lrel_cons (.int _ _) (lrel_cons (.int _ _) lrel_nil))))))))) (lrel_cons (.int _ _) lrel_nil)), (fun h => by cases h), rfl⟩
theorem one_49 : One Try.prog 49 ti49 := ⟨by kernel_rfl, by kernel_rfl, fun _ => .nilFunc, (fun h => by cases h), rfl⟩
theorem one_50 : One Try.prog 50 ti50 := ⟨by kernel_rfl, by kernel_rfl, fun _ => .nilFunc, (fun h => by cases h), rfl⟩
theorem one_51 : One Try.prog 51 ti51 := ⟨by kernel_rfl, by kernel_rfl, fun _ => .nilFunc, (fun h => by cases h), rfl⟩
theorem one_52 : One Try.prog 52 ti52 := ⟨by kernel_rfl, by kernel_rfl, fun _ => .nilFunc, (fun h => by cases h), rfl⟩
theorem one_53 : One Try.prog 53 ti53 := ⟨by kernel_rfl, by kernel_rfl, fun _ => .nilFunc, (fun h => by cases h), rfl⟩
theorem one_54 : One Try.prog 54 ti54 := ⟨by kernel_rfl, by kernel_rfl, fun _ => .nilSlice, (fun h => by cases h), rfl⟩
theorem one_55 : One Try.prog 55 ti55 := ⟨by kernel_rfl, by kernel_rfl, fun _ => vrel_agg (lrel_cons (.int _ _) (lrel_cons (.int _ _) (lrel_cons (.int _ _) (lrel_cons (.int _ _) (lrel_cons (.int _ _) (lrel_cons (.int _ _) (lrel_cons (.int _ _) (lrel_cons (.int _ _) (lrel_cons (.string _) lrel_nil))))))))), (fun _ => ⟨by kernel_rfl, by kernel_rfl⟩), rfl⟩
theorem one_56 : One Try.prog 56 ti56 := ⟨by kernel_rfl, by kernel_rfl, fun _ => vrel_agg (lrel_cons (.int _ _) (lrel_cons (.int _ _) (lrel_cons (.int _ _) (lrel_cons (.int _ _) (lrel_cons (.int _ _) (lrel_cons (.int _ _) (lrel_cons (.int _ _) (lrel_cons (.int _ _) (lrel_cons (.string _) lrel_nil))))))))), (fun _ => ⟨by kernel_rfl, by kernel_rfl⟩), rfl⟩
theorem one_57 : One Try.prog 57 ti57 := ⟨by kernel_rfl, by kernel_rfl, fun _ => .nilFunc, (fun h => by cases h), rfl⟩
theorem one_58 : One Try.prog 58 ti58 := ⟨by kernel_rfl, by kernel_rfl, fun _ => .nilFunc, (fun h => by cases h), rfl⟩
theorem one_59 : One Try.prog 59 ti59 := ⟨by kernel_rfl, by kernel_rfl, fun _ => vrel_tuple (lrel_cons (vrel_agg (lrel_cons (.int _ _) (lrel_cons (.int _ _) (lrel_cons (.int _ _) (lrel_cons (.int _ _) (lrel_cons (.int _ _) (lrel_cons (.int _ _) (lrel_cons (.int _ _) (lrel_cons (.int _ _) (lrel_cons (.string _) lrel_nil)))))))))) (lrel_cons (.int _ _) lrel_nil)), (fun h => by cases h), rfl⟩
theorem one_60 : One Try.prog 60 ti60 := ⟨by kernel_rfl, by kernel_rfl, fun _ => .nilFunc, (fun h => by cases h), rfl⟩
theorem one_61 : One Try.prog 61 ti61 := ⟨by kernel_rfl, by kernel_rfl, fun _ => vrel_tuple (lrel_cons (vrel_agg (lrel_cons (.int _ _) (lrel_cons (.int _ _) (lrel_cons (.int _ _) (lrel_cons (.int _ _) (lrel_cons (.int _ _) (lrel_cons (.int _ _) (lrel_cons (.int _ _) (lrel_cons (.int _ _) (lrel_cons (.string _) lrel_nil)))))))))) (lrel_cons (.int _ _) lrel_nil)), (fun h => by cases h), rfl⟩
theorem one_62 : One Try.prog 62 ti62 := ⟨by kernel_rfl, by kernel_rfl, fun _ => .nilFunc, (fun h => by cases h), rfl⟩
theorem one_63 : One Try.prog 63 ti63 := ⟨by kernel_rfl, by kernel_rfl, fun _ => .nilFunc, (fun h => by cases h), rfl⟩
theorem one_64 : One Try.prog 64 ti64 := ⟨by kernel_rfl, by kernel_rfl, fun _ => .nilFunc, (fun h => by cases h), rfl⟩
theorem one_65 : One Try.prog 65 ti65 := ⟨by kernel_rfl, by kernel_rfl, fun _ => .nilFunc, (fun h => by cases h), rfl⟩
theorem one_66 : One Try.prog 66 ti66 := ⟨by kernel_rfl, by kernel_rfl, fun _ => .nilFunc, (fun h => by cases h), rfl⟩
theorem one_67 : One Try.prog 67 ti67 := ⟨by kernel_rfl, by kernel_rfl, fun _ => .nilSlice, (fun h => by cases h), rfl⟩
theorem one_68 : One Try.prog 68 ti68 := ⟨by kernel_rfl, by kernel_rfl, fun _ => .nilSlice, (fun h => by cases h), rfl⟩
theorem one_69 : One Try.prog 69 ti69 := ⟨by kernel_rfl, by kernel_rfl, fun _ => vrel_agg (lrel_cons (.int _ _) (lrel_cons (.int _ _) (lrel_cons (.int _ _) (lrel_cons (.int _ _) (lrel_cons (.int _ _) (lrel_cons (.int _ _) (lrel_cons (.int _ _) (lrel_cons (.int _ _) (lrel_cons (.string _) lrel_nil))))))))), (fun _ => ⟨by kernel_rfl, by kernel_rfl⟩), rfl⟩
theorem one_70 : One Try.prog 70 ti70 := ⟨by kernel_rfl, by kernel_rfl, fun _ => vrel_agg (lrel_cons (.int _ _) (lrel_cons (.int _ _) (lrel_cons (.int _ _) (lrel_cons (.int _ _) (lrel_cons (.int _ _) (lrel_cons (.int _ _) (lrel_cons (.int _ _) (lrel_cons (.int _ _) (lrel_cons (.string _) lrel_nil))))))))), (fun _ => ⟨by kernel_rfl, by kernel_rfl⟩), rfl⟩
theorem one_71 : One Try.prog 71 ti71 := ⟨by kernel_rfl, by kernel_rfl, fun _ => .nilFunc, (fun h => by cases h), rfl⟩
theorem one_72 : One Try.prog 72 ti72 := ⟨by kernel_rfl, by kernel_rfl, fun _ => .nilFunc, (fun h => by cases h), rfl⟩
theorem one_73 : One Try.prog 73 ti73 := ⟨by kernel_rfl, by kernel_rfl, fun _ => vrel_tuple (lrel_cons (vrel_agg (lrel_cons (.int _ _) (lrel_cons (.int _ _) (lrel_cons (.int _ _) (lrel_cons (.int _ _) (lrel_cons (.int _ _) (lrel_cons (.int _ _) (lrel_cons (.int _ _) (lrel_cons (.int _ _) (lrel_cons (.string _) lrel_nil)))))))))) (lrel_cons (.int _ _) lrel_nil)), (fun h => by cases h), rfl⟩
theorem one_74 : One Try.prog 74 ti74 := ⟨by kernel_rfl, by kernel_rfl, fun _ => .nilFunc, (fun h => by cases h), rfl⟩
theorem one_75 : One Try.prog 75 ti75 := ⟨by kernel_rfl, by kernel_rfl, fun _ => vrel_tuple (lrel_cons (vrel_agg (lrel_cons (.int _ _) (lrel_cons (.int _ _) (lrel_cons (.int _ _) (lrel_cons (.int _ _) (lrel_cons (.int _ _) (lrel_cons (.int _ _) (lrel_cons (.int _ _) (lrel_cons (.int _ _) (lrel_cons (.string _) lrel_nil)))))))))) (lrel_cons (.int _ _) lrel_nil)), (fun h => by cases h), rfl⟩
theorem one_76 : One Try.prog 76 ti76 := ⟨by kernel_rfl, by kernel_rfl, fun _ => .nilFunc, (fun h => by cases h), rfl⟩
theorem one_77 : One Try.prog 77 ti77 := ⟨by kernel_rfl, by kernel_rfl, fun _ => .nilFunc, (fun h => by cases h), rfl⟩
theorem one_78 : One Try.prog 78 ti78 := ⟨by kernel_rfl, by kernel_rfl, fun _ => .nilFunc, (fun h => by cases h), rfl⟩
theorem one_79 : One Try.prog 79 ti79 := ⟨by kernel_rfl, by kernel_rfl, fun _ => .nilFunc, (fun h => by cases h), rfl⟩
theorem one_80 : One Try.prog 80 ti80 := ⟨by kernel_rfl, by kernel_rfl, fun _ => .nilFunc, (fun h => by cases h), rfl⟩
theorem one_81 : One Try.prog 81 ti81 := ⟨by kernel_rfl, by kernel_rfl, fun _ => .nilSlice, (fun h => by cases h), rfl⟩
theorem one_82 : One Try.prog 82 ti82 := ⟨by kernel_rfl, by kernel_rfl, fun _ => .nilFunc, (fun h => by cases h), rfl⟩
theorem one_83 : One Try.prog 83 ti83 := ⟨by kernel_rfl, by kernel_rfl, fun _ => .nilSlice, (fun h => by cases h), rfl⟩
theorem one_84 : One Try.prog 84 ti84 := ⟨by kernel_rfl, by kernel_rfl, fun _ => .nilFunc, (fun h => by cases h), rfl⟩
theorem one_85 : One Try.prog 85 ti85 := ⟨by kernel_rfl, by kernel_rfl, fun _ => .nilPtr, (fun h => by cases h), rfl⟩
theorem one_86 : One Try.prog 86 ti86 := ⟨by kernel_rfl, by kernel_rfl, fun _ => .nilPtr, (fun h => by cases h), rfl⟩
theorem one_87 : One Try.prog 87 ti87 := ⟨by kernel_rfl, by kernel_rfl, fun _ => .nilFunc, (fun h => by cases h), rfl⟩
theorem one_88 : One Try.prog 88 ti88 := ⟨by kernel_rfl, by kernel_rfl, fun _ => .nilPtr, (fun h => by cases h), rfl⟩
theorem one_89 : One Try.prog 89 ti89 := ⟨by kernel_rfl, by kernel_rfl, fun _ => .nilIface, (fun h => by cases h), rfl⟩
theorem one_90 : One Try.prog 90 ti90 := ⟨by kernel_rfl, by kernel_rfl, fun _ => .nilIface, (fun h => by cases h), rfl⟩
theorem one_91 : One Try.prog 91 ti91 := ⟨by kernel_rfl, by kernel_rfl, fun _ => vrel_agg (lrel_cons (.string _) (lrel_cons (.int _ _) (lrel_cons (.nilIface) lrel_nil))), (fun h => by cases h), rfl⟩
theorem one_92 : One Try.prog 92 ti92 := ⟨by kernel_rfl, by kernel_rfl, fun _ => vrel_agg (lrel_cons (.string _) (lrel_cons (.int _ _) (lrel_cons (.nilIface) lrel_nil))), (fun h => by cases h), rfl⟩
theorem one_93 : One Try.prog 93 ti93 := ⟨by kernel_rfl, by kernel_rfl, fun _ => .nilFunc, (fun h => by cases h), rfl⟩
theorem one_94 : One Try.prog 94 ti94 := ⟨by kernel_rfl, by kernel_rfl, fun _ => .nilPtr, (fun h => by cases h), rfl⟩
theorem one_95 : One Try.prog 95 ti95 := ⟨by kernel_rfl, by kernel_rfl, fun _ => vrel_agg (lrel_cons (.string _) (lrel_cons (.int _ _) (lrel_cons (.bool _) lrel_nil))), (fun _ => ⟨by kernel_rfl, by kernel_rfl⟩), rfl⟩
theorem one_96 : One Try.prog 96 ti96 := ⟨by kernel_rfl, by kernel_rfl, fun _ => vrel_agg (lrel_cons (.string _) (lrel_cons (.int _ _) (lrel_cons (.bool _) lrel_nil))), (fun _ => ⟨by kernel_rfl, by kernel_rfl⟩), rfl⟩
theorem one_97 : One Try.prog 97 ti97 := ⟨by kernel_rfl, by kernel_rfl, fun _ => .nilFunc, (fun h => by cases h), rfl⟩
theorem one_98 : One Try.prog 98 ti98 := ⟨by kernel_rfl, by kernel_rfl, fun _ => .nilFunc, (fun h => by cases h), rfl⟩
theorem one_99 : One Try.prog 99 ti99 := ⟨by kernel_rfl, by kernel_rfl, fun _ => .nilFunc, (fun h => by cases h), rfl⟩
theorem one_100 : One Try.prog 100 ti100 := ⟨by kernel_rfl, by kernel_rfl, fun _ => .nilPtr, (fun h => by cases h), rfl⟩
theorem one_101 : One Try.prog 101 ti101 := ⟨by kernel_rfl, by kernel_rfl, fun _ => .nilFunc, (fun h => by cases h), rfl⟩
theorem one_102 : One Try.prog 102 ti102 := ⟨by kernel_rfl, by kernel_rfl, fun _ => vrel_tuple (lrel_cons (vrel_agg (lrel_cons (.int _ _) (lrel_cons (.int _ _) (lrel_cons (.int _ _) (lrel_cons (.int _ _) (lrel_cons (.int _ _) (lrel_cons (.int _ _) (lrel_cons (.int _ _) (lrel_cons (.int _ _) lrel_nil))))))))) (lrel_cons (.bool _) lrel_nil)), (fun h => by cases h), rfl⟩
theorem one_103 : One Try.prog 103 ti103 := ⟨by kernel_rfl, by kernel_rfl, fun _ => .nilFunc, (fun h => by cases h), rfl⟩
theorem one_104 : One Try.prog 104 ti104 := ⟨by kernel_rfl, by kernel_rfl, fun _ => .nilFunc, (fun h => by cases h), rfl⟩
theorem one_105 : One Try.prog 105 ti105 := ⟨by kernel_rfl, by kernel_rfl, fun _ => .nilPtr, (fun h => by cases h), rfl⟩
theorem one_106 : One Try.prog 106 ti106 := ⟨by kernel_rfl, by kernel_rfl, fun _ => .nilFunc, (fun h => by cases h), rfl⟩
theorem one_107 : One Try.prog 107 ti107 := ⟨by kernel_rfl, by kernel_rfl, fun _ => .nilFunc, (fun h => by cases h), rfl⟩
theorem one_108 : One Try.prog 108 ti108 := ⟨by kernel_rfl, by kernel_rfl, fun _ => .nilFunc, (fun h => by cases h), rfl⟩
theorem one_109 : One Try.prog 109 ti109 := ⟨by kernel_rfl, by kernel_rfl, fun _ => .nilFunc, (fun h => by cases h), rfl⟩
theorem one_110 : One Try.prog 110 ti110 := ⟨by kernel_rfl, by kernel_rfl, fun _ => .nilFunc, (fun h => by cases h), rfl⟩
theorem one_111 : One Try.prog 111 ti111 := ⟨by kernel_rfl, by kernel_rfl, fun _ => .nilPtr, (fun h => by cases h), rfl⟩
theorem one_112 : One Try.prog 112 ti112 := ⟨by kernel_rfl, by kernel_rfl, fun _ => .nilFunc, (fun h => by cases h), rfl⟩
theorem one_113 : One Try.prog 113 ti113 := ⟨by kernel_rfl, by kernel_rfl, fun _ => .nilFunc, (fun h => by cases h), rfl⟩
theorem one_114 : One Try.prog 114 ti114 := ⟨by kernel_rfl, by kernel_rfl, fun _ => .nilSlice, (fun h => by cases h), rfl⟩
theorem one_115 : One Try.prog 115 ti115 := ⟨by kernel_rfl, by kernel_rfl, fun _ => .nilFunc, (fun h => by cases h), rfl⟩
theorem one_116 : One Try.prog 116 ti116 := ⟨by kernel_rfl, by kernel_rfl, fun _ => vrel_tuple (lrel_cons (.int _ _) (lrel_cons (.int _ _) (lrel_cons (.nilIface) lrel_nil))), (fun h => by cases h), rfl⟩
theorem one_117 : One Try.prog 117 ti117 := ⟨by kernel_rfl, by kernel_rfl, fun _ => .nilFunc, (fun h => by cases h), rfl⟩
theorem one_118 : One Try.prog 118 ti118 := ⟨by kernel_rfl, by kernel_rfl, fun _ => vrel_tuple (lrel_cons (.int _ _) (lrel_cons (.int _ _) (lrel_cons (.int _ _) lrel_nil))), (fun h => by cases h), rfl⟩
theorem one_119 : One Try.prog 119 ti119 := ⟨by kernel_rfl, by kernel_rfl, fun _ => .nilFunc, (fun h => by cases h), rfl⟩
theorem one_120 : One Try.prog 120 ti120 := ⟨by kernel_rfl, by kernel_rfl, fun _ => vrel_tuple (lrel_cons (.string _) (lrel_cons (.int _ _) (lrel_cons (.nilIface) lrel_nil))), (fun h => by cases h), rfl⟩
theorem one_121 : One Try.prog 121 ti121 := ⟨by kernel_rfl, by kernel_rfl, fun _ => .nilFunc, (fun h => by cases h), rfl⟩
theorem one_122 : One Try.prog 122 ti122 := ⟨by kernel_rfl, by kernel_rfl, fun _ => vrel_tuple (lrel_cons (.string _) (lrel_cons (.int _ _) (lrel_cons (.int _ _) lrel_nil))), (fun h => by cases h), rfl⟩
theorem one_123 : One Try.prog 123 ti123 := ⟨by kernel_rfl, by kernel_rfl, fun _ => .nilFunc, (fun h => by cases h), rfl⟩
theorem one_124 : One Try.prog 124 ti124 := ⟨by kernel_rfl, by kernel_rfl, fun _ => .nilFunc, (fun h => by cases h), rfl⟩
theorem one_125 : One Try.prog 125 ti125 := ⟨by kernel_rfl, by kernel_rfl, fun _ => .nilFunc, (fun h => by cases h), rfl⟩
theorem one_126 : One Try.prog 126 ti126 := ⟨by kernel_rfl, by kernel_rfl, fun _ => .nilPtr, (fun h => by cases h), rfl⟩
theorem one_127 : One Try.prog 127 ti127 := ⟨by kernel_rfl, by kernel_rfl, fun _ => vrel_agg (lrel_cons (.int _ _) (lrel_cons (.nilIface) lrel_nil)), (fun h => by cases h), rfl⟩
theorem one_128 : One Try.prog 128 ti128 := ⟨by kernel_rfl, by kernel_rfl, fun _ => vrel_agg (lrel_cons (.int _ _) (lrel_cons (.nilIface) lrel_nil)), (fun h => by cases h), rfl⟩
theorem one_129 : One Try.prog 129 ti129 := ⟨by kernel_rfl, by kernel_rfl, fun _ => vrel_agg (lrel_cons (.nilPtr) (lrel_cons (.nilPtr) (lrel_cons (.nilPtr) (lrel_cons (.string _) lrel_nil)))), (fun h => by cases h), rfl⟩
theorem one_130 : One Try.prog 130 ti130 := ⟨by kernel_rfl, by kernel_rfl, fun _ => vrel_agg (lrel_cons (.nilPtr) (lrel_cons (.nilPtr) (lrel_cons (.nilPtr) (lrel_cons (.string _) lrel_nil)))), (fun h => by cases h), rfl⟩
theorem one_131 : One Try.prog 131 ti131 := ⟨by kernel_rfl, by kernel_rfl, fun _ => vrel_agg lrel_nil, (fun h => by cases h), rfl⟩
theorem one_132 : One Try.prog 132 ti132 := ⟨by kernel_rfl, by kernel_rfl, fun _ => vrel_agg lrel_nil, (fun h => by cases h), rfl⟩
theorem one_133 : One Try.prog 133 ti133 := ⟨by kernel_rfl, by kernel_rfl, fun _ => vrel_agg lrel_nil, (fun h => by cases h), rfl⟩
theorem one_134 : One Try.prog 134 ti134 := ⟨by kernel_rfl, by kernel_rfl, fun _ => .int _ _, (fun h => by cases h), rfl⟩
theorem one_135 : One Try.prog 135 ti135 := ⟨by kernel_rfl, by kernel_rfl, fun _ => .int _ _, (fun h => by cases h), rfl⟩
theorem one_136 : One Try.prog 136 ti136 := ⟨by kernel_rfl, by kernel_rfl, fun _ => .int _ _, (fun h => by cases h), rfl⟩
theorem one_137 : One Try.prog 137 ti137 := ⟨by kernel_rfl, by kernel_rfl, fun _ => .nilFunc, (fun h => by cases h), rfl⟩
theorem one_138 : One Try.prog 138 ti138 := ⟨by kernel_rfl, by kernel_rfl, fun _ => .nilPtr, (fun h => by cases h), rfl⟩
theorem one_139 : One Try.prog 139 ti139 := ⟨by kernel_rfl, by kernel_rfl, fun _ => .int _ _, (fun h => by cases h), rfl⟩
theorem one_140 : One Try.prog 140 ti140 := ⟨by kernel_rfl, by kernel_rfl, fun _ => .int _ _, (fun h => by cases h), rfl⟩
theorem one_141 : One Try.prog 141 ti141 := ⟨by kernel_rfl, by kernel_rfl, fun _ => vrel_agg (lrel_cons (.int _ _) (lrel_cons (.int _ _) (lrel_cons (.int _ _) (lrel_cons (.int _ _) (lrel_cons (.int _ _) (lrel_cons (.int _ _) (lrel_cons (.int _ _) (lrel_cons (.nilFunc) (lrel_cons (.nilPtr) (lrel_cons (.int _ _) (lrel_cons (.int _ _) lrel_nil))))))))))), (fun h => by cases h), rfl⟩
theorem one_142 : One Try.prog 142 ti142 := ⟨by kernel_rfl, by kernel_rfl, fun _ => vrel_agg (lrel_cons (.int _ _) (lrel_cons (.int _ _) (lrel_cons (.int _ _) (lrel_cons (.int _ _) (lrel_cons (.int _ _) (lrel_cons (.int _ _) (lrel_cons (.int _ _) (lrel_cons (.nilFunc) (lrel_cons (.nilPtr) (lrel_cons (.int _ _) (lrel_cons (.int _ _) lrel_nil))))))))))), (fun h => by cases h), rfl⟩
theorem tab : Tab Try.prog tys := tab_of fun t i h => by
  unfold tys at h
  split at h
  · cases h; exact one_0
  · cases h; exact one_1
  · cases h; exact one_2
  · cases h; exact one_3
  · cases h; exact one_4
  · cases h; exact one_5
  · cases h; exact one_6
  · cases h; exact one_7
  · cases h; exact one_8
  · cases h; exact one_9
  · cases h; exact one_10
  · cases h; exact one_11
  · cases h; exact one_12
  · cases h; exact one_13
  · cases h; exact one_14
  · cases h; exact one_15
  · cases h; exact one_16
  · cases h; exact one_17
  · cases h; exact one_18
  · cases h; exact one_19
  · cases h; exact one_20
  · cases h; exact one_21
  · cases h; exact one_22
  · cases h; exact one_23
  · cases h; exact one_24
  · cases h; exact one_25
  · cases h; exact one_26
  · cases h; exact one_27
  · cases h; exact one_28
  · cases h; exact one_29
  · cases h; exact one_30
  · cases h; exact one_31
  · cases h; exact one_32
  · cases h; exact one_33
  · cases h; exact one_34
  · cases h; exact one_35
  · cases h; exact one_36
  · cases h; exact one_37
  · cases h; exact one_38
  · cases h; exact one_39
  · cases h; exact one_40
  · cases h; exact one_41
  · cases h; exact one_42
  · cases h; exact one_43
  · cases h; exact one_44
  · cases h; exact one_45
  · cases h; exact one_46
  · cases h; exact one_47
  · cases h; exact one_48
  · cases h; exact one_49
  · cases h; exact one_50
  · cases h; exact one_51
  · cases h; exact one_52
  · cases h; exact one_53
  · cases h; exact one_54
  · cases h; exact one_55
  · cases h; exact one_56
  · cases h; exact one_57
  · cases h; exact one_58
  · cases h; exact one_59
  · cases h; exact one_60
  · cases h; exact one_61
  · cases h; exact one_62
  · cases h; exact one_63
  · cases h; exact one_64
  · cases h; exact one_65
  · cases h; exact one_66
  · cases h; exact one_67
  · cases h; exact one_68
  · cases h; exact one_69
  · cases h; exact one_70
  · cases h; exact one_71
  · cases h; exact one_72
  · cases h; exact one_73
  · cases h; exact one_74
  · cases h; exact one_75
  · cases h; exact one_76
  · cases h; exact one_77
  · cases h; exact one_78
  · cases h; exact one_79
  · cases h; exact one_80
  · cases h; exact one_81
  · cases h; exact one_82
  · cases h; exact one_83
  · cases h; exact one_84
  · cases h; exact one_85
  · cases h; exact one_86
  · cases h; exact one_87
  · cases h; exact one_88
  · cases h; exact one_89
  · cases h; exact one_90
  · cases h; exact one_91
  · cases h; exact one_92
  · cases h; exact one_93
  · cases h; exact one_94
  · cases h; exact one_95
  · cases h; exact one_96
  · cases h; exact one_97
  · cases h; exact one_98
  · cases h; exact one_99
  · cases h; exact one_100
  · cases h; exact one_101
  · cases h; exact one_102
  · cases h; exact one_103
  · cases h; exact one_104
  · cases h; exact one_105
  · cases h; exact one_106
  · cases h; exact one_107
  · cases h; exact one_108
  · cases h; exact one_109
  · cases h; exact one_110
  · cases h; exact one_111
  · cases h; exact one_112
  · cases h; exact one_113
  · cases h; exact one_114
  · cases h; exact one_115
  · cases h; exact one_116
  · cases h; exact one_117
  · cases h; exact one_118
  · cases h; exact one_119
  · cases h; exact one_120
  · cases h; exact one_121
  · cases h; exact one_122
  · cases h; exact one_123
  · cases h; exact one_124
  · cases h; exact one_125
  · cases h; exact one_126
  · cases h; exact one_127
  · cases h; exact one_128
  · cases h; exact one_129
  · cases h; exact one_130
  · cases h; exact one_131
  · cases h; exact one_132
  · cases h; exact one_133
  · cases h; exact one_134
  · cases h; exact one_135
  · cases h; exact one_136
  · cases h; exact one_137
  · cases h; exact one_138
  · cases h; exact one_139
  · cases h; exact one_140
  · cases h; exact one_141
  · cases h; exact one_142
  · cases h
end Go.Proofs.Yticaicdopfpknaa
