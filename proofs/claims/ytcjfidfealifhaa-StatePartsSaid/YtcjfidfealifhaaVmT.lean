/- What is known of the types of this program: a table, and that it is the program's. Printed by tab.py. -/
import Derived.Test.YtcjfidfealifhaaProg
import Derived.Test.YtcjfidfealifhaaVg0
import Derived.KernelRfl
set_option maxRecDepth 100000
namespace Go.Proofs.Ytcjfidfealifhaa
open Go Go.Proofs.Ytcjfidfealifhaa.Vm
def ti0 : TI := { desc := .tuple #[], size := 1, bytes := 0, zero := .tuple #[], cmp := false, eqOk := false }
def ti1 : TI := { desc := .func #[] #[] false, size := 1, bytes := 8, zero := .nilFunc, cmp := false, eqOk := false }
def ti2 : TI := { desc := .int .i64, size := 1, bytes := 8, zero := .int .i64 0, cmp := true, eqOk := false }
def ti3 : TI := { desc := .int .i64, size := 1, bytes := 8, zero := .int .i64 0, cmp := true, eqOk := false }
def ti4 : TI := { desc := .bool, size := 1, bytes := 1, zero := .bool false, cmp := true, eqOk := false }
def ti5 : TI := { desc := .int .u8, size := 1, bytes := 1, zero := .int .u8 0, cmp := true, eqOk := false }
def ti6 : TI := { desc := .int .u8, size := 1, bytes := 1, zero := .int .u8 0, cmp := true, eqOk := false }
def ti7 : TI := { desc := .struct #[⟨ "x", 2, 0, false, "", "runtime", 0⟩, ⟨ "y", 3, 1, false, "", "runtime", 8⟩, ⟨ "signed", 4, 2, false, "", "runtime", 16⟩, ⟨ "code", 6, 3, false, "", "runtime", 17⟩], size := 4, bytes := 24, zero := .agg #[.int .i64 0, .int .i64 0, .bool false, .int .u8 0], cmp := true, eqOk := false }
def ti8 : TI := { desc := .struct #[⟨ "x", 2, 0, false, "", "runtime", 0⟩, ⟨ "y", 3, 1, false, "", "runtime", 8⟩, ⟨ "signed", 4, 2, false, "", "runtime", 16⟩, ⟨ "code", 6, 3, false, "", "runtime", 17⟩], size := 4, bytes := 24, zero := .agg #[.int .i64 0, .int .i64 0, .bool false, .int .u8 0], cmp := true, eqOk := false }
def ti9 : TI := { desc := .string, size := 1, bytes := 16, zero := .string ⟨#[]⟩, cmp := true, eqOk := false }
def ti10 : TI := { desc := .string, size := 1, bytes := 16, zero := .string ⟨#[]⟩, cmp := true, eqOk := false }
def ti11 : TI := { desc := .string, size := 1, bytes := 16, zero := .string ⟨#[]⟩, cmp := true, eqOk := false }
def ti12 : TI := { desc := .int .u64, size := 1, bytes := 8, zero := .int .u64 0, cmp := true, eqOk := false }
def ti13 : TI := { desc := .struct #[⟨ "msg", 9, 0, false, "", "runtime", 0⟩, ⟨ "addr", 12, 1, false, "", "runtime", 16⟩], size := 2, bytes := 24, zero := .agg #[.string ⟨#[]⟩, .int .u64 0], cmp := true, eqOk := false }
def ti14 : TI := { desc := .struct #[⟨ "msg", 9, 0, false, "", "runtime", 0⟩, ⟨ "addr", 12, 1, false, "", "runtime", 16⟩], size := 2, bytes := 24, zero := .agg #[.string ⟨#[]⟩, .int .u64 0], cmp := true, eqOk := false }
def ti15 : TI := { desc := .pointer 118, size := 1, bytes := 8, zero := .pointer none, cmp := true, eqOk := false }
def ti16 : TI := { desc := .pointer 121, size := 1, bytes := 8, zero := .pointer none, cmp := true, eqOk := false }
def ti17 : TI := { desc := .pointer 130, size := 1, bytes := 8, zero := .pointer none, cmp := true, eqOk := false }
def ti18 : TI := { desc := .struct #[⟨ "typ", 17, 0, false, "", "internal/runtime/maps", 0⟩], size := 1, bytes := 8, zero := .agg #[.pointer none], cmp := true, eqOk := false }
def ti19 : TI := { desc := .struct #[⟨ "typ", 17, 0, false, "", "internal/runtime/maps", 0⟩], size := 1, bytes := 8, zero := .agg #[.pointer none], cmp := true, eqOk := false }
def ti20 : TI := { desc := .interface #[], size := 1, bytes := 16, zero := .nilIface, cmp := true, eqOk := false }
def ti21 : TI := { desc := .int .i32, size := 1, bytes := 4, zero := .int .i32 0, cmp := true, eqOk := false }
def ti22 : TI := { desc := .struct #[⟨ "Sectors", 3, 0, false, "", "", 0⟩, ⟨ "Halves", 3, 1, false, "", "", 8⟩, ⟨ "Sessions", 3, 2, false, "", "", 16⟩, ⟨ "Addresses", 3, 3, false, "", "", 24⟩, ⟨ "Fails", 3, 4, false, "", "", 32⟩, ⟨ "Lockout", 3, 5, false, "", "", 40⟩, ⟨ "HalfLife", 3, 6, false, "", "", 48⟩, ⟨ "Idle", 3, 7, false, "", "", 56⟩, ⟨ "Absolute", 3, 8, false, "", "", 64⟩, ⟨ "Quarantine", 3, 9, false, "", "", 72⟩, ⟨ "TicketLife", 3, 10, false, "", "", 80⟩, ⟨ "Keep", 3, 11, false, "", "", 88⟩], size := 12, bytes := 96, zero := .agg #[.int .i64 0, .int .i64 0, .int .i64 0, .int .i64 0, .int .i64 0, .int .i64 0, .int .i64 0, .int .i64 0, .int .i64 0, .int .i64 0, .int .i64 0, .int .i64 0], cmp := true, eqOk := true }
def ti23 : TI := { desc := .struct #[⟨ "Sectors", 3, 0, false, "", "", 0⟩, ⟨ "Halves", 3, 1, false, "", "", 8⟩, ⟨ "Sessions", 3, 2, false, "", "", 16⟩, ⟨ "Addresses", 3, 3, false, "", "", 24⟩, ⟨ "Fails", 3, 4, false, "", "", 32⟩, ⟨ "Lockout", 3, 5, false, "", "", 40⟩, ⟨ "HalfLife", 3, 6, false, "", "", 48⟩, ⟨ "Idle", 3, 7, false, "", "", 56⟩, ⟨ "Absolute", 3, 8, false, "", "", 64⟩, ⟨ "Quarantine", 3, 9, false, "", "", 72⟩, ⟨ "TicketLife", 3, 10, false, "", "", 80⟩, ⟨ "Keep", 3, 11, false, "", "", 88⟩], size := 12, bytes := 96, zero := .agg #[.int .i64 0, .int .i64 0, .int .i64 0, .int .i64 0, .int .i64 0, .int .i64 0, .int .i64 0, .int .i64 0, .int .i64 0, .int .i64 0, .int .i64 0, .int .i64 0], cmp := true, eqOk := true }
def ti24 : TI := { desc := .slice 40, size := 1, bytes := 24, zero := .slice none 0 0, cmp := false, eqOk := false }
def ti25 : TI := { desc := .func #[] #[4] false, size := 1, bytes := 8, zero := .nilFunc, cmp := false, eqOk := false }
def ti26 : TI := { desc := .int .u64, size := 1, bytes := 8, zero := .int .u64 0, cmp := true, eqOk := false }
def ti27 : TI := { desc := .slice 49, size := 1, bytes := 24, zero := .slice none 0 0, cmp := false, eqOk := false }
def ti28 : TI := { desc := .slice 54, size := 1, bytes := 24, zero := .slice none 0 0, cmp := false, eqOk := false }
def ti29 : TI := { desc := .slice 58, size := 1, bytes := 24, zero := .slice none 0 0, cmp := false, eqOk := false }
def ti30 : TI := { desc := .slice 3, size := 1, bytes := 24, zero := .slice none 0 0, cmp := false, eqOk := false }
def ti31 : TI := { desc := .struct #[⟨ "Boots", 3, 0, false, "", "", 0⟩, ⟨ "Epoch", 3, 1, false, "", "", 8⟩, ⟨ "Next", 3, 2, false, "", "", 16⟩, ⟨ "Users", 27, 3, false, "", "", 24⟩, ⟨ "Sessions", 28, 4, false, "", "", 48⟩, ⟨ "Addresses", 29, 5, false, "", "", 72⟩, ⟨ "Spent", 30, 6, false, "", "", 96⟩], size := 7, bytes := 120, zero := .agg #[.int .i64 0, .int .i64 0, .int .i64 0, .slice none 0 0, .slice none 0 0, .slice none 0 0, .slice none 0 0], cmp := false, eqOk := false }
def ti32 : TI := { desc := .struct #[⟨ "Boots", 3, 0, false, "", "", 0⟩, ⟨ "Epoch", 3, 1, false, "", "", 8⟩, ⟨ "Next", 3, 2, false, "", "", 16⟩, ⟨ "Users", 27, 3, false, "", "", 24⟩, ⟨ "Sessions", 28, 4, false, "", "", 48⟩, ⟨ "Addresses", 29, 5, false, "", "", 72⟩, ⟨ "Spent", 30, 6, false, "", "", 96⟩], size := 7, bytes := 120, zero := .agg #[.int .i64 0, .int .i64 0, .int .i64 0, .slice none 0 0, .slice none 0 0, .slice none 0 0, .slice none 0 0], cmp := false, eqOk := false }
def ti33 : TI := { desc := .int .i64, size := 1, bytes := 8, zero := .int .i64 0, cmp := true, eqOk := false }
def ti34 : TI := { desc := .tuple #[32, 33], size := 1, bytes := 0, zero := .tuple #[.agg #[.int .i64 0, .int .i64 0, .int .i64 0, .slice none 0 0, .slice none 0 0, .slice none 0 0, .slice none 0 0], .int .i64 0], cmp := false, eqOk := false }
def ti35 : TI := { desc := .func #[23, 24] #[32, 33] true, size := 1, bytes := 8, zero := .nilFunc, cmp := false, eqOk := false }
def ti36 : TI := { desc := .func #[33] #[3] false, size := 1, bytes := 8, zero := .nilFunc, cmp := false, eqOk := false }
def ti37 : TI := { desc := .func #[32, 32] #[4] false, size := 1, bytes := 8, zero := .nilFunc, cmp := false, eqOk := false }
def ti38 : TI := { desc := .func #[23, 32, 40] #[32, 33] false, size := 1, bytes := 8, zero := .nilFunc, cmp := false, eqOk := false }
def ti39 : TI := { desc := .struct #[⟨ "Kind", 3, 0, false, "", "", 0⟩, ⟨ "User", 3, 1, false, "", "", 8⟩, ⟨ "Session", 3, 2, false, "", "", 16⟩, ⟨ "Address", 3, 3, false, "", "", 24⟩, ⟨ "A", 3, 4, false, "", "", 32⟩, ⟨ "B", 3, 5, false, "", "", 40⟩, ⟨ "C", 3, 6, false, "", "", 48⟩, ⟨ "Tick", 3, 7, false, "", "", 56⟩], size := 8, bytes := 64, zero := .agg #[.int .i64 0, .int .i64 0, .int .i64 0, .int .i64 0, .int .i64 0, .int .i64 0, .int .i64 0, .int .i64 0], cmp := true, eqOk := true }
def ti40 : TI := { desc := .struct #[⟨ "Kind", 3, 0, false, "", "", 0⟩, ⟨ "User", 3, 1, false, "", "", 8⟩, ⟨ "Session", 3, 2, false, "", "", 16⟩, ⟨ "Address", 3, 3, false, "", "", 24⟩, ⟨ "A", 3, 4, false, "", "", 32⟩, ⟨ "B", 3, 5, false, "", "", 40⟩, ⟨ "C", 3, 6, false, "", "", 48⟩, ⟨ "Tick", 3, 7, false, "", "", 56⟩], size := 8, bytes := 64, zero := .agg #[.int .i64 0, .int .i64 0, .int .i64 0, .int .i64 0, .int .i64 0, .int .i64 0, .int .i64 0, .int .i64 0], cmp := true, eqOk := true }
def ti41 : TI := { desc := .func #[23, 24, 3] #[4] false, size := 1, bytes := 8, zero := .nilFunc, cmp := false, eqOk := false }
def ti42 : TI := { desc := .func #[] #[23] false, size := 1, bytes := 8, zero := .nilFunc, cmp := false, eqOk := false }
def ti43 : TI := { desc := .tuple #[32, 4], size := 1, bytes := 0, zero := .tuple #[.agg #[.int .i64 0, .int .i64 0, .int .i64 0, .slice none 0 0, .slice none 0 0, .slice none 0 0, .slice none 0 0], .bool false], cmp := false, eqOk := false }
def ti44 : TI := { desc := .func #[23, 24] #[32, 4] true, size := 1, bytes := 8, zero := .nilFunc, cmp := false, eqOk := false }
def ti45 : TI := { desc := .func #[3, 3] #[4] false, size := 1, bytes := 8, zero := .nilFunc, cmp := false, eqOk := false }
def ti46 : TI := { desc := .struct #[⟨ "Fails", 3, 0, false, "", "", 0⟩, ⟨ "Until", 3, 1, false, "", "", 8⟩], size := 2, bytes := 16, zero := .agg #[.int .i64 0, .int .i64 0], cmp := true, eqOk := true }
def ti47 : TI := { desc := .struct #[⟨ "Fails", 3, 0, false, "", "", 0⟩, ⟨ "Until", 3, 1, false, "", "", 8⟩], size := 2, bytes := 16, zero := .agg #[.int .i64 0, .int .i64 0], cmp := true, eqOk := true }
def ti48 : TI := { desc := .struct #[⟨ "User", 3, 0, false, "", "", 0⟩, ⟨ "Key", 3, 1, false, "", "", 8⟩, ⟨ "Secret", 3, 2, false, "", "", 16⟩, ⟨ "Quota", 3, 3, false, "", "", 24⟩, ⟨ "Used", 3, 4, false, "", "", 32⟩, ⟨ "Lock", 47, 5, false, "", "", 40⟩, ⟨ "Step", 3, 7, false, "", "", 56⟩, ⟨ "Gen", 3, 8, false, "", "", 64⟩], size := 9, bytes := 72, zero := .agg #[.int .i64 0, .int .i64 0, .int .i64 0, .int .i64 0, .int .i64 0, .int .i64 0, .int .i64 0, .int .i64 0, .int .i64 0], cmp := true, eqOk := true }
def ti49 : TI := { desc := .struct #[⟨ "User", 3, 0, false, "", "", 0⟩, ⟨ "Key", 3, 1, false, "", "", 8⟩, ⟨ "Secret", 3, 2, false, "", "", 16⟩, ⟨ "Quota", 3, 3, false, "", "", 24⟩, ⟨ "Used", 3, 4, false, "", "", 32⟩, ⟨ "Lock", 47, 5, false, "", "", 40⟩, ⟨ "Step", 3, 7, false, "", "", 56⟩, ⟨ "Gen", 3, 8, false, "", "", 64⟩], size := 9, bytes := 72, zero := .agg #[.int .i64 0, .int .i64 0, .int .i64 0, .int .i64 0, .int .i64 0, .int .i64 0, .int .i64 0, .int .i64 0, .int .i64 0], cmp := true, eqOk := true }
def ti50 : TI := { desc := .func #[28, 28] #[4] false, size := 1, bytes := 8, zero := .nilFunc, cmp := false, eqOk := false }
def ti51 : TI := { desc := .func #[29, 29] #[4] false, size := 1, bytes := 8, zero := .nilFunc, cmp := false, eqOk := false }
def ti52 : TI := { desc := .func #[30] #[4] false, size := 1, bytes := 8, zero := .nilFunc, cmp := false, eqOk := false }
def ti53 : TI := { desc := .struct #[⟨ "Session", 3, 0, false, "", "", 0⟩, ⟨ "User", 3, 1, false, "", "", 8⟩, ⟨ "Address", 3, 2, false, "", "", 16⟩, ⟨ "Start", 3, 3, false, "", "", 24⟩], size := 4, bytes := 32, zero := .agg #[.int .i64 0, .int .i64 0, .int .i64 0, .int .i64 0], cmp := true, eqOk := true }
def ti54 : TI := { desc := .struct #[⟨ "Session", 3, 0, false, "", "", 0⟩, ⟨ "User", 3, 1, false, "", "", 8⟩, ⟨ "Address", 3, 2, false, "", "", 16⟩, ⟨ "Start", 3, 3, false, "", "", 24⟩], size := 4, bytes := 32, zero := .agg #[.int .i64 0, .int .i64 0, .int .i64 0, .int .i64 0], cmp := true, eqOk := true }
def ti55 : TI := { desc := .func #[27, 27] #[4] false, size := 1, bytes := 8, zero := .nilFunc, cmp := false, eqOk := false }
def ti56 : TI := { desc := .func #[30, 30] #[4] false, size := 1, bytes := 8, zero := .nilFunc, cmp := false, eqOk := false }
def ti57 : TI := { desc := .struct #[⟨ "Busy", 4, 0, false, "", "", 0⟩, ⟨ "Last", 3, 1, false, "", "", 8⟩, ⟨ "Until", 3, 2, false, "", "", 16⟩], size := 3, bytes := 24, zero := .agg #[.bool false, .int .i64 0, .int .i64 0], cmp := true, eqOk := true }
def ti58 : TI := { desc := .struct #[⟨ "Busy", 4, 0, false, "", "", 0⟩, ⟨ "Last", 3, 1, false, "", "", 8⟩, ⟨ "Until", 3, 2, false, "", "", 16⟩], size := 3, bytes := 24, zero := .agg #[.bool false, .int .i64 0, .int .i64 0], cmp := true, eqOk := true }
def ti59 : TI := { desc := .func #[3] #[32, 33] false, size := 1, bytes := 8, zero := .nilFunc, cmp := false, eqOk := false }
def ti60 : TI := { desc := .func #[61] #[4] false, size := 1, bytes := 8, zero := .nilFunc, cmp := false, eqOk := false }
def ti61 : TI := { desc := .pointer 23, size := 1, bytes := 8, zero := .pointer none, cmp := true, eqOk := false }
def ti62 : TI := { desc := .func #[40] #[4] false, size := 1, bytes := 8, zero := .nilFunc, cmp := false, eqOk := false }
def ti63 : TI := { desc := .pointer 67, size := 1, bytes := 8, zero := .pointer none, cmp := true, eqOk := false }
def ti64 : TI := { desc := .func #[32] #[32] false, size := 1, bytes := 8, zero := .nilFunc, cmp := false, eqOk := false }
def ti65 : TI := { desc := .pointer 40, size := 1, bytes := 8, zero := .pointer none, cmp := true, eqOk := false }
def ti66 : TI := { desc := .struct #[⟨ "c", 61, 0, false, "", "bastion/state", 0⟩, ⟨ "s", 32, 1, false, "", "bastion/state", 8⟩, ⟨ "e", 65, 8, false, "", "bastion/state", 128⟩], size := 9, bytes := 136, zero := .agg #[.pointer none, .int .i64 0, .int .i64 0, .int .i64 0, .slice none 0 0, .slice none 0 0, .slice none 0 0, .slice none 0 0, .pointer none], cmp := false, eqOk := false }
def ti67 : TI := { desc := .struct #[⟨ "c", 61, 0, false, "", "bastion/state", 0⟩, ⟨ "s", 32, 1, false, "", "bastion/state", 8⟩, ⟨ "e", 65, 8, false, "", "bastion/state", 128⟩], size := 9, bytes := 136, zero := .agg #[.pointer none, .int .i64 0, .int .i64 0, .int .i64 0, .slice none 0 0, .slice none 0 0, .slice none 0 0, .slice none 0 0, .pointer none], cmp := false, eqOk := false }
def ti68 : TI := { desc := .tuple #[29, 33], size := 1, bytes := 0, zero := .tuple #[.slice none 0 0, .int .i64 0], cmp := false, eqOk := false }
def ti69 : TI := { desc := .func #[3] #[29, 33] false, size := 1, bytes := 8, zero := .nilFunc, cmp := false, eqOk := false }
def ti70 : TI := { desc := .func #[3, 3, 3] #[4] false, size := 1, bytes := 8, zero := .nilFunc, cmp := false, eqOk := false }
def ti71 : TI := { desc := .func #[30] #[4] true, size := 1, bytes := 8, zero := .nilFunc, cmp := false, eqOk := false }
def ti72 : TI := { desc := .slice 74, size := 1, bytes := 24, zero := .slice none 0 0, cmp := false, eqOk := false }
def ti73 : TI := { desc := .func #[65] #[72] false, size := 1, bytes := 8, zero := .nilFunc, cmp := false, eqOk := false }
def ti74 : TI := { desc := .pointer 3, size := 1, bytes := 8, zero := .pointer none, cmp := true, eqOk := false }
def ti75 : TI := { desc := .func #[3] #[4] false, size := 1, bytes := 8, zero := .nilFunc, cmp := false, eqOk := false }
def ti76 : TI := { desc := .func #[65] #[40] false, size := 1, bytes := 8, zero := .nilFunc, cmp := false, eqOk := false }
def ti77 : TI := { desc := .func #[27] #[27] false, size := 1, bytes := 8, zero := .nilFunc, cmp := false, eqOk := false }
def ti78 : TI := { desc := .func #[28] #[28] false, size := 1, bytes := 8, zero := .nilFunc, cmp := false, eqOk := false }
def ti79 : TI := { desc := .func #[29] #[29] false, size := 1, bytes := 8, zero := .nilFunc, cmp := false, eqOk := false }
def ti80 : TI := { desc := .func #[30] #[30] false, size := 1, bytes := 8, zero := .nilFunc, cmp := false, eqOk := false }
def ti81 : TI := { desc := .func #[82] #[4] false, size := 1, bytes := 8, zero := .nilFunc, cmp := false, eqOk := false }
def ti82 : TI := { desc := .pointer 32, size := 1, bytes := 8, zero := .pointer none, cmp := true, eqOk := false }
def ti83 : TI := { desc := .func #[84] #[4] false, size := 1, bytes := 8, zero := .nilFunc, cmp := false, eqOk := false }
def ti84 : TI := { desc := .pointer 49, size := 1, bytes := 8, zero := .pointer none, cmp := true, eqOk := false }
def ti85 : TI := { desc := .func #[82, 3] #[84] false, size := 1, bytes := 8, zero := .nilFunc, cmp := false, eqOk := false }
def ti86 : TI := { desc := .func #[29, 3] #[29] false, size := 1, bytes := 8, zero := .nilFunc, cmp := false, eqOk := false }
def ti87 : TI := { desc := .func #[74] #[4] false, size := 1, bytes := 8, zero := .nilFunc, cmp := false, eqOk := false }
def ti88 : TI := { desc := .func #[27, 89] #[3] false, size := 1, bytes := 8, zero := .nilFunc, cmp := false, eqOk := false }
def ti89 : TI := { desc := .func #[49] #[4] false, size := 1, bytes := 8, zero := .nilFunc, cmp := false, eqOk := false }
def ti90 : TI := { desc := .func #[27, 3, 27] #[27] true, size := 1, bytes := 8, zero := .nilFunc, cmp := false, eqOk := false }
def ti91 : TI := { desc := .func #[29, 3, 3] #[29, 33] false, size := 1, bytes := 8, zero := .nilFunc, cmp := false, eqOk := false }
def ti92 : TI := { desc := .func #[28, 93] #[3] false, size := 1, bytes := 8, zero := .nilFunc, cmp := false, eqOk := false }
def ti93 : TI := { desc := .func #[54] #[4] false, size := 1, bytes := 8, zero := .nilFunc, cmp := false, eqOk := false }
def ti94 : TI := { desc := .func #[28, 3, 3] #[28] false, size := 1, bytes := 8, zero := .nilFunc, cmp := false, eqOk := false }
def ti95 : TI := { desc := .func #[30, 3] #[4] false, size := 1, bytes := 8, zero := .nilFunc, cmp := false, eqOk := false }
def ti96 : TI := { desc := .tuple #[47, 33], size := 1, bytes := 0, zero := .tuple #[.agg #[.int .i64 0, .int .i64 0], .int .i64 0], cmp := false, eqOk := false }
def ti97 : TI := { desc := .func #[47, 3, 3, 3] #[47, 33] false, size := 1, bytes := 8, zero := .nilFunc, cmp := false, eqOk := false }
def ti98 : TI := { desc := .tuple #[26, 26], size := 1, bytes := 0, zero := .tuple #[.int .u64 0, .int .u64 0], cmp := false, eqOk := false }
def ti99 : TI := { desc := .func #[26, 26] #[26, 26] false, size := 1, bytes := 8, zero := .nilFunc, cmp := false, eqOk := false }
def ti100 : TI := { desc := .func #[27, 3] #[] false, size := 1, bytes := 8, zero := .nilFunc, cmp := false, eqOk := false }
def ti101 : TI := { desc := .func #[29] #[4] false, size := 1, bytes := 8, zero := .nilFunc, cmp := false, eqOk := false }
def ti102 : TI := { desc := .func #[29, 3] #[4] false, size := 1, bytes := 8, zero := .nilFunc, cmp := false, eqOk := false }
def ti103 : TI := { desc := .func #[29, 3, 58] #[29] false, size := 1, bytes := 8, zero := .nilFunc, cmp := false, eqOk := false }
def ti104 : TI := { desc := .func #[30, 3] #[3] false, size := 1, bytes := 8, zero := .nilFunc, cmp := false, eqOk := false }
def ti105 : TI := { desc := .func #[47, 3] #[4] false, size := 1, bytes := 8, zero := .nilFunc, cmp := false, eqOk := false }
def ti106 : TI := { desc := .int .u32, size := 1, bytes := 4, zero := .int .u32 0, cmp := true, eqOk := false }
def ti107 : TI := { desc := .tuple #[106, 106], size := 1, bytes := 0, zero := .tuple #[.int .u32 0, .int .u32 0], cmp := false, eqOk := false }
def ti108 : TI := { desc := .func #[106, 106] #[106, 106] false, size := 1, bytes := 8, zero := .nilFunc, cmp := false, eqOk := false }
def ti109 : TI := { desc := .int .u64, size := 1, bytes := 8, zero := .int .u64 0, cmp := true, eqOk := false }
def ti110 : TI := { desc := .tuple #[109, 109], size := 1, bytes := 0, zero := .tuple #[.int .u64 0, .int .u64 0], cmp := false, eqOk := false }
def ti111 : TI := { desc := .func #[109, 109] #[109, 109] false, size := 1, bytes := 8, zero := .nilFunc, cmp := false, eqOk := false }
def ti112 : TI := { desc := .func #[58] #[4] false, size := 1, bytes := 8, zero := .nilFunc, cmp := false, eqOk := false }
def ti113 : TI := { desc := .func #[29, 112] #[4] false, size := 1, bytes := 8, zero := .nilFunc, cmp := false, eqOk := false }
def ti114 : TI := { desc := .func #[27] #[] false, size := 1, bytes := 8, zero := .nilFunc, cmp := false, eqOk := false }
def ti115 : TI := { desc := .func #[29, 112] #[3] false, size := 1, bytes := 8, zero := .nilFunc, cmp := false, eqOk := false }
def ti116 : TI := { desc := .func #[] #[9] false, size := 1, bytes := 8, zero := .nilFunc, cmp := false, eqOk := false }
def ti117 : TI := { desc := .struct #[⟨ "_interface", 17, 0, false, "", "runtime", 0⟩, ⟨ "concrete", 17, 1, false, "", "runtime", 8⟩, ⟨ "asserted", 17, 2, false, "", "runtime", 16⟩, ⟨ "missingMethod", 9, 3, false, "", "runtime", 24⟩], size := 4, bytes := 40, zero := .agg #[.pointer none, .pointer none, .pointer none, .string ⟨#[]⟩], cmp := true, eqOk := false }
def ti118 : TI := { desc := .struct #[⟨ "_interface", 17, 0, false, "", "runtime", 0⟩, ⟨ "concrete", 17, 1, false, "", "runtime", 8⟩, ⟨ "asserted", 17, 2, false, "", "runtime", 16⟩, ⟨ "missingMethod", 9, 3, false, "", "runtime", 24⟩], size := 4, bytes := 40, zero := .agg #[.pointer none, .pointer none, .pointer none, .string ⟨#[]⟩], cmp := true, eqOk := false }
def ti119 : TI := { desc := .array 0 16, size := 0, bytes := 0, zero := .agg #[], cmp := true, eqOk := false }
def ti120 : TI := { desc := .struct #[⟨ "_", 119, 0, false, "", "runtime", 0⟩], size := 0, bytes := 0, zero := .agg #[], cmp := true, eqOk := false }
def ti121 : TI := { desc := .struct #[⟨ "_", 119, 0, false, "", "runtime", 0⟩], size := 0, bytes := 0, zero := .agg #[], cmp := true, eqOk := false }
def ti122 : TI := { desc := .func #[] #[3] false, size := 1, bytes := 8, zero := .nilFunc, cmp := false, eqOk := false }
def ti123 : TI := { desc := .int .u8, size := 1, bytes := 1, zero := .int .u8 0, cmp := true, eqOk := false }
def ti124 : TI := { desc := .int .u8, size := 1, bytes := 1, zero := .int .u8 0, cmp := true, eqOk := false }
def ti125 : TI := { desc := .func #[131, 131] #[4] false, size := 1, bytes := 8, zero := .nilFunc, cmp := false, eqOk := false }
def ti126 : TI := { desc := .pointer 5, size := 1, bytes := 8, zero := .pointer none, cmp := true, eqOk := false }
def ti127 : TI := { desc := .int .i32, size := 1, bytes := 4, zero := .int .i32 0, cmp := true, eqOk := false }
def ti128 : TI := { desc := .int .i32, size := 1, bytes := 4, zero := .int .i32 0, cmp := true, eqOk := false }
def ti129 : TI := { desc := .struct #[⟨ "Size_", 12, 0, false, "", "", 0⟩, ⟨ "PtrBytes", 12, 1, false, "", "", 8⟩, ⟨ "Hash", 106, 2, false, "", "", 16⟩, ⟨ "TFlag", 123, 3, false, "", "", 20⟩, ⟨ "Align_", 5, 4, false, "", "", 21⟩, ⟨ "FieldAlign_", 5, 5, false, "", "", 22⟩, ⟨ "Kind_", 124, 6, false, "", "", 23⟩, ⟨ "Equal", 125, 7, false, "", "", 24⟩, ⟨ "GCData", 126, 8, false, "", "", 32⟩, ⟨ "Str", 127, 9, false, "", "", 40⟩, ⟨ "PtrToThis", 128, 10, false, "", "", 44⟩], size := 11, bytes := 48, zero := .agg #[.int .u64 0, .int .u64 0, .int .u32 0, .int .u8 0, .int .u8 0, .int .u8 0, .int .u8 0, .nilFunc, .pointer none, .int .i32 0, .int .i32 0], cmp := false, eqOk := false }
def ti130 : TI := { desc := .struct #[⟨ "Size_", 12, 0, false, "", "", 0⟩, ⟨ "PtrBytes", 12, 1, false, "", "", 8⟩, ⟨ "Hash", 106, 2, false, "", "", 16⟩, ⟨ "TFlag", 123, 3, false, "", "", 20⟩, ⟨ "Align_", 5, 4, false, "", "", 21⟩, ⟨ "FieldAlign_", 5, 5, false, "", "", 22⟩, ⟨ "Kind_", 124, 6, false, "", "", 23⟩, ⟨ "Equal", 125, 7, false, "", "", 24⟩, ⟨ "GCData", 126, 8, false, "", "", 32⟩, ⟨ "Str", 127, 9, false, "", "", 40⟩, ⟨ "PtrToThis", 128, 10, false, "", "", 44⟩], size := 11, bytes := 48, zero := .agg #[.int .u64 0, .int .u64 0, .int .u32 0, .int .u8 0, .int .u8 0, .int .u8 0, .int .u8 0, .nilFunc, .pointer none, .int .i32 0, .int .i32 0], cmp := false, eqOk := false }
def tys (t : Nat) : Option TI := (bif Nat.ble t 64 then (bif Nat.ble t 31 then (bif Nat.ble t 15 then (bif Nat.ble t 7 then (bif Nat.ble t 3 then (bif Nat.ble t 1 then (bif Nat.ble t 0 then (bif Nat.beq t 0 then some ti0 else none) else (bif Nat.beq t 1 then some ti1 else none)) else (bif Nat.ble t 2 then (bif Nat.beq t 2 then some ti2 else none) else (bif Nat.beq t 3 then some ti3 else none))) else (bif Nat.ble t 5 then (bif Nat.ble t 4 then (bif Nat.beq t 4 then some ti4 else none) else (bif Nat.beq t 5 then some ti5 else none)) else (bif Nat.ble t 6 then (bif Nat.beq t 6 then some ti6 else none) else (bif Nat.beq t 7 then some ti7 else none)))) else (bif Nat.ble t 11 then (bif Nat.ble t 9 then (bif Nat.ble t 8 then (bif Nat.beq t 8 then some ti8 else none) else (bif Nat.beq t 9 then some ti9 else none)) else (bif Nat.ble t 10 then (bif Nat.beq t 10 then some ti10 else none) else (bif Nat.beq t 11 then some ti11 else none))) else (bif Nat.ble t 13 then (bif Nat.ble t 12 then (bif Nat.beq t 12 then some ti12 else none) else (bif Nat.beq t 13 then some ti13 else none)) else (bif Nat.ble t 14 then (bif Nat.beq t 14 then some ti14 else none) else (bif Nat.beq t 15 then some ti15 else none))))) else (bif Nat.ble t 23 then (bif Nat.ble t 19 then (bif Nat.ble t 17 then (bif Nat.ble t 16 then (bif Nat.beq t 16 then some ti16 else none) else (bif Nat.beq t 17 then some ti17 else none)) else (bif Nat.ble t 18 then (bif Nat.beq t 18 then some ti18 else none) else (bif Nat.beq t 19 then some ti19 else none))) else (bif Nat.ble t 21 then (bif Nat.ble t 20 then (bif Nat.beq t 20 then some ti20 else none) else (bif Nat.beq t 21 then some ti21 else none)) else (bif Nat.ble t 22 then (bif Nat.beq t 22 then some ti22 else none) else (bif Nat.beq t 23 then some ti23 else none)))) else (bif Nat.ble t 27 then (bif Nat.ble t 25 then (bif Nat.ble t 24 then (bif Nat.beq t 24 then some ti24 else none) else (bif Nat.beq t 25 then some ti25 else none)) else (bif Nat.ble t 26 then (bif Nat.beq t 26 then some ti26 else none) else (bif Nat.beq t 27 then some ti27 else none))) else (bif Nat.ble t 29 then (bif Nat.ble t 28 then (bif Nat.beq t 28 then some ti28 else none) else (bif Nat.beq t 29 then some ti29 else none)) else (bif Nat.ble t 30 then (bif Nat.beq t 30 then some ti30 else none) else (bif Nat.beq t 31 then some ti31 else none)))))) else (bif Nat.ble t 47 then (bif Nat.ble t 39 then (bif Nat.ble t 35 then (bif Nat.ble t 33 then (bif Nat.ble t 32 then (bif Nat.beq t 32 then some ti32 else none) else (bif Nat.beq t 33 then some ti33 else none)) else (bif Nat.ble t 34 then (bif Nat.beq t 34 then some ti34 else none) else (bif Nat.beq t 35 then some ti35 else none))) else (bif Nat.ble t 37 then (bif Nat.ble t 36 then (bif Nat.beq t 36 then some ti36 else none) else (bif Nat.beq t 37 then some ti37 else none)) else (bif Nat.ble t 38 then (bif Nat.beq t 38 then some ti38 else none) else (bif Nat.beq t 39 then some ti39 else none)))) else (bif Nat.ble t 43 then (bif Nat.ble t 41 then (bif Nat.ble t 40 then (bif Nat.beq t 40 then some ti40 else none) else (bif Nat.beq t 41 then some ti41 else none)) else (bif Nat.ble t 42 then (bif Nat.beq t 42 then some ti42 else none) else (bif Nat.beq t 43 then some ti43 else none))) else (bif Nat.ble t 45 then (bif Nat.ble t 44 then (bif Nat.beq t 44 then some ti44 else none) else (bif Nat.beq t 45 then some ti45 else none)) else (bif Nat.ble t 46 then (bif Nat.beq t 46 then some ti46 else none) else (bif Nat.beq t 47 then some ti47 else none))))) else (bif Nat.ble t 55 then (bif Nat.ble t 51 then (bif Nat.ble t 49 then (bif Nat.ble t 48 then (bif Nat.beq t 48 then some ti48 else none) else (bif Nat.beq t 49 then some ti49 else none)) else (bif Nat.ble t 50 then (bif Nat.beq t 50 then some ti50 else none) else (bif Nat.beq t 51 then some ti51 else none))) else (bif Nat.ble t 53 then (bif Nat.ble t 52 then (bif Nat.beq t 52 then some ti52 else none) else (bif Nat.beq t 53 then some ti53 else none)) else (bif Nat.ble t 54 then (bif Nat.beq t 54 then some ti54 else none) else (bif Nat.beq t 55 then some ti55 else none)))) else (bif Nat.ble t 59 then (bif Nat.ble t 57 then (bif Nat.ble t 56 then (bif Nat.beq t 56 then some ti56 else none) else (bif Nat.beq t 57 then some ti57 else none)) else (bif Nat.ble t 58 then (bif Nat.beq t 58 then some ti58 else none) else (bif Nat.beq t 59 then some ti59 else none))) else (bif Nat.ble t 61 then (bif Nat.ble t 60 then (bif Nat.beq t 60 then some ti60 else none) else (bif Nat.beq t 61 then some ti61 else none)) else (bif Nat.ble t 62 then (bif Nat.beq t 62 then some ti62 else none) else (bif Nat.ble t 63 then (bif Nat.beq t 63 then some ti63 else none) else (bif Nat.beq t 64 then some ti64 else none)))))))) else (bif Nat.ble t 97 then (bif Nat.ble t 80 then (bif Nat.ble t 72 then (bif Nat.ble t 68 then (bif Nat.ble t 66 then (bif Nat.ble t 65 then (bif Nat.beq t 65 then some ti65 else none) else (bif Nat.beq t 66 then some ti66 else none)) else (bif Nat.ble t 67 then (bif Nat.beq t 67 then some ti67 else none) else (bif Nat.beq t 68 then some ti68 else none))) else (bif Nat.ble t 70 then (bif Nat.ble t 69 then (bif Nat.beq t 69 then some ti69 else none) else (bif Nat.beq t 70 then some ti70 else none)) else (bif Nat.ble t 71 then (bif Nat.beq t 71 then some ti71 else none) else (bif Nat.beq t 72 then some ti72 else none)))) else (bif Nat.ble t 76 then (bif Nat.ble t 74 then (bif Nat.ble t 73 then (bif Nat.beq t 73 then some ti73 else none) else (bif Nat.beq t 74 then some ti74 else none)) else (bif Nat.ble t 75 then (bif Nat.beq t 75 then some ti75 else none) else (bif Nat.beq t 76 then some ti76 else none))) else (bif Nat.ble t 78 then (bif Nat.ble t 77 then (bif Nat.beq t 77 then some ti77 else none) else (bif Nat.beq t 78 then some ti78 else none)) else (bif Nat.ble t 79 then (bif Nat.beq t 79 then some ti79 else none) else (bif Nat.beq t 80 then some ti80 else none))))) else (bif Nat.ble t 88 then (bif Nat.ble t 84 then (bif Nat.ble t 82 then (bif Nat.ble t 81 then (bif Nat.beq t 81 then some ti81 else none) else (bif Nat.beq t 82 then some ti82 else none)) else (bif Nat.ble t 83 then (bif Nat.beq t 83 then some ti83 else none) else (bif Nat.beq t 84 then some ti84 else none))) else (bif Nat.ble t 86 then (bif Nat.ble t 85 then (bif Nat.beq t 85 then some ti85 else none) else (bif Nat.beq t 86 then some ti86 else none)) else (bif Nat.ble t 87 then (bif Nat.beq t 87 then some ti87 else none) else (bif Nat.beq t 88 then some ti88 else none)))) else (bif Nat.ble t 92 then (bif Nat.ble t 90 then (bif Nat.ble t 89 then (bif Nat.beq t 89 then some ti89 else none) else (bif Nat.beq t 90 then some ti90 else none)) else (bif Nat.ble t 91 then (bif Nat.beq t 91 then some ti91 else none) else (bif Nat.beq t 92 then some ti92 else none))) else (bif Nat.ble t 94 then (bif Nat.ble t 93 then (bif Nat.beq t 93 then some ti93 else none) else (bif Nat.beq t 94 then some ti94 else none)) else (bif Nat.ble t 95 then (bif Nat.beq t 95 then some ti95 else none) else (bif Nat.ble t 96 then (bif Nat.beq t 96 then some ti96 else none) else (bif Nat.beq t 97 then some ti97 else none))))))) else (bif Nat.ble t 113 then (bif Nat.ble t 105 then (bif Nat.ble t 101 then (bif Nat.ble t 99 then (bif Nat.ble t 98 then (bif Nat.beq t 98 then some ti98 else none) else (bif Nat.beq t 99 then some ti99 else none)) else (bif Nat.ble t 100 then (bif Nat.beq t 100 then some ti100 else none) else (bif Nat.beq t 101 then some ti101 else none))) else (bif Nat.ble t 103 then (bif Nat.ble t 102 then (bif Nat.beq t 102 then some ti102 else none) else (bif Nat.beq t 103 then some ti103 else none)) else (bif Nat.ble t 104 then (bif Nat.beq t 104 then some ti104 else none) else (bif Nat.beq t 105 then some ti105 else none)))) else (bif Nat.ble t 109 then (bif Nat.ble t 107 then (bif Nat.ble t 106 then (bif Nat.beq t 106 then some ti106 else none) else (bif Nat.beq t 107 then some ti107 else none)) else (bif Nat.ble t 108 then (bif Nat.beq t 108 then some ti108 else none) else (bif Nat.beq t 109 then some ti109 else none))) else (bif Nat.ble t 111 then (bif Nat.ble t 110 then (bif Nat.beq t 110 then some ti110 else none) else (bif Nat.beq t 111 then some ti111 else none)) else (bif Nat.ble t 112 then (bif Nat.beq t 112 then some ti112 else none) else (bif Nat.beq t 113 then some ti113 else none))))) else (bif Nat.ble t 121 then (bif Nat.ble t 117 then (bif Nat.ble t 115 then (bif Nat.ble t 114 then (bif Nat.beq t 114 then some ti114 else none) else (bif Nat.beq t 115 then some ti115 else none)) else (bif Nat.ble t 116 then (bif Nat.beq t 116 then some ti116 else none) else (bif Nat.beq t 117 then some ti117 else none))) else (bif Nat.ble t 119 then (bif Nat.ble t 118 then (bif Nat.beq t 118 then some ti118 else none) else (bif Nat.beq t 119 then some ti119 else none)) else (bif Nat.ble t 120 then (bif Nat.beq t 120 then some ti120 else none) else (bif Nat.beq t 121 then some ti121 else none)))) else (bif Nat.ble t 125 then (bif Nat.ble t 123 then (bif Nat.ble t 122 then (bif Nat.beq t 122 then some ti122 else none) else (bif Nat.beq t 123 then some ti123 else none)) else (bif Nat.ble t 124 then (bif Nat.beq t 124 then some ti124 else none) else (bif Nat.beq t 125 then some ti125 else none))) else (bif Nat.ble t 127 then (bif Nat.ble t 126 then (bif Nat.beq t 126 then some ti126 else none) else (bif Nat.beq t 127 then some ti127 else none)) else (bif Nat.ble t 128 then (bif Nat.beq t 128 then some ti128 else none) else (bif Nat.ble t 129 then (bif Nat.beq t 129 then some ti129 else none) else (bif Nat.beq t 130 then some ti130 else none)))))))))
theorem tys_0 : tys 0 = some ti0 := rfl
theorem tys_1 : tys 1 = some ti1 := rfl
theorem tys_2 : tys 2 = some ti2 := rfl
theorem tys_3 : tys 3 = some ti3 := rfl
theorem tys_4 : tys 4 = some ti4 := rfl
theorem tys_5 : tys 5 = some ti5 := rfl
theorem tys_6 : tys 6 = some ti6 := rfl
theorem tys_7 : tys 7 = some ti7 := rfl
theorem tys_8 : tys 8 = some ti8 := rfl
theorem tys_9 : tys 9 = some ti9 := rfl
theorem tys_10 : tys 10 = some ti10 := rfl
theorem tys_11 : tys 11 = some ti11 := rfl
theorem tys_12 : tys 12 = some ti12 := rfl
theorem tys_13 : tys 13 = some ti13 := rfl
theorem tys_14 : tys 14 = some ti14 := rfl
theorem tys_15 : tys 15 = some ti15 := rfl
theorem tys_16 : tys 16 = some ti16 := rfl
theorem tys_17 : tys 17 = some ti17 := rfl
theorem tys_18 : tys 18 = some ti18 := rfl
theorem tys_19 : tys 19 = some ti19 := rfl
theorem tys_20 : tys 20 = some ti20 := rfl
theorem tys_21 : tys 21 = some ti21 := rfl
theorem tys_22 : tys 22 = some ti22 := rfl
theorem tys_23 : tys 23 = some ti23 := rfl
theorem tys_24 : tys 24 = some ti24 := rfl
theorem tys_25 : tys 25 = some ti25 := rfl
theorem tys_26 : tys 26 = some ti26 := rfl
theorem tys_27 : tys 27 = some ti27 := rfl
theorem tys_28 : tys 28 = some ti28 := rfl
theorem tys_29 : tys 29 = some ti29 := rfl
theorem tys_30 : tys 30 = some ti30 := rfl
theorem tys_31 : tys 31 = some ti31 := rfl
theorem tys_32 : tys 32 = some ti32 := rfl
theorem tys_33 : tys 33 = some ti33 := rfl
theorem tys_34 : tys 34 = some ti34 := rfl
theorem tys_35 : tys 35 = some ti35 := rfl
theorem tys_36 : tys 36 = some ti36 := rfl
theorem tys_37 : tys 37 = some ti37 := rfl
theorem tys_38 : tys 38 = some ti38 := rfl
theorem tys_39 : tys 39 = some ti39 := rfl
theorem tys_40 : tys 40 = some ti40 := rfl
theorem tys_41 : tys 41 = some ti41 := rfl
theorem tys_42 : tys 42 = some ti42 := rfl
theorem tys_43 : tys 43 = some ti43 := rfl
theorem tys_44 : tys 44 = some ti44 := rfl
theorem tys_45 : tys 45 = some ti45 := rfl
theorem tys_46 : tys 46 = some ti46 := rfl
theorem tys_47 : tys 47 = some ti47 := rfl
theorem tys_48 : tys 48 = some ti48 := rfl
theorem tys_49 : tys 49 = some ti49 := rfl
theorem tys_50 : tys 50 = some ti50 := rfl
theorem tys_51 : tys 51 = some ti51 := rfl
theorem tys_52 : tys 52 = some ti52 := rfl
theorem tys_53 : tys 53 = some ti53 := rfl
theorem tys_54 : tys 54 = some ti54 := rfl
theorem tys_55 : tys 55 = some ti55 := rfl
theorem tys_56 : tys 56 = some ti56 := rfl
theorem tys_57 : tys 57 = some ti57 := rfl
theorem tys_58 : tys 58 = some ti58 := rfl
theorem tys_59 : tys 59 = some ti59 := rfl
theorem tys_60 : tys 60 = some ti60 := rfl
theorem tys_61 : tys 61 = some ti61 := rfl
theorem tys_62 : tys 62 = some ti62 := rfl
theorem tys_63 : tys 63 = some ti63 := rfl
theorem tys_64 : tys 64 = some ti64 := rfl
theorem tys_65 : tys 65 = some ti65 := rfl
theorem tys_66 : tys 66 = some ti66 := rfl
theorem tys_67 : tys 67 = some ti67 := rfl
theorem tys_68 : tys 68 = some ti68 := rfl
theorem tys_69 : tys 69 = some ti69 := rfl
theorem tys_70 : tys 70 = some ti70 := rfl
theorem tys_71 : tys 71 = some ti71 := rfl
theorem tys_72 : tys 72 = some ti72 := rfl
theorem tys_73 : tys 73 = some ti73 := rfl
theorem tys_74 : tys 74 = some ti74 := rfl
theorem tys_75 : tys 75 = some ti75 := rfl
theorem tys_76 : tys 76 = some ti76 := rfl
theorem tys_77 : tys 77 = some ti77 := rfl
theorem tys_78 : tys 78 = some ti78 := rfl
theorem tys_79 : tys 79 = some ti79 := rfl
theorem tys_80 : tys 80 = some ti80 := rfl
theorem tys_81 : tys 81 = some ti81 := rfl
theorem tys_82 : tys 82 = some ti82 := rfl
theorem tys_83 : tys 83 = some ti83 := rfl
theorem tys_84 : tys 84 = some ti84 := rfl
theorem tys_85 : tys 85 = some ti85 := rfl
theorem tys_86 : tys 86 = some ti86 := rfl
theorem tys_87 : tys 87 = some ti87 := rfl
theorem tys_88 : tys 88 = some ti88 := rfl
theorem tys_89 : tys 89 = some ti89 := rfl
theorem tys_90 : tys 90 = some ti90 := rfl
theorem tys_91 : tys 91 = some ti91 := rfl
theorem tys_92 : tys 92 = some ti92 := rfl
theorem tys_93 : tys 93 = some ti93 := rfl
theorem tys_94 : tys 94 = some ti94 := rfl
theorem tys_95 : tys 95 = some ti95 := rfl
theorem tys_96 : tys 96 = some ti96 := rfl
theorem tys_97 : tys 97 = some ti97 := rfl
theorem tys_98 : tys 98 = some ti98 := rfl
theorem tys_99 : tys 99 = some ti99 := rfl
theorem tys_100 : tys 100 = some ti100 := rfl
theorem tys_101 : tys 101 = some ti101 := rfl
theorem tys_102 : tys 102 = some ti102 := rfl
theorem tys_103 : tys 103 = some ti103 := rfl
theorem tys_104 : tys 104 = some ti104 := rfl
theorem tys_105 : tys 105 = some ti105 := rfl
theorem tys_106 : tys 106 = some ti106 := rfl
theorem tys_107 : tys 107 = some ti107 := rfl
theorem tys_108 : tys 108 = some ti108 := rfl
theorem tys_109 : tys 109 = some ti109 := rfl
theorem tys_110 : tys 110 = some ti110 := rfl
theorem tys_111 : tys 111 = some ti111 := rfl
theorem tys_112 : tys 112 = some ti112 := rfl
theorem tys_113 : tys 113 = some ti113 := rfl
theorem tys_114 : tys 114 = some ti114 := rfl
theorem tys_115 : tys 115 = some ti115 := rfl
theorem tys_116 : tys 116 = some ti116 := rfl
theorem tys_117 : tys 117 = some ti117 := rfl
theorem tys_118 : tys 118 = some ti118 := rfl
theorem tys_119 : tys 119 = some ti119 := rfl
theorem tys_120 : tys 120 = some ti120 := rfl
theorem tys_121 : tys 121 = some ti121 := rfl
theorem tys_122 : tys 122 = some ti122 := rfl
theorem tys_123 : tys 123 = some ti123 := rfl
theorem tys_124 : tys 124 = some ti124 := rfl
theorem tys_125 : tys 125 = some ti125 := rfl
theorem tys_126 : tys 126 = some ti126 := rfl
theorem tys_127 : tys 127 = some ti127 := rfl
theorem tys_128 : tys 128 = some ti128 := rfl
theorem tys_129 : tys 129 = some ti129 := rfl
theorem tys_130 : tys 130 = some ti130 := rfl
theorem one_0 : One Try.prog 0 ti0 := ⟨by kernel_rfl, by kernel_rfl, fun _ => vrel_tuple lrel_nil, (fun h => by cases h), rfl⟩
theorem one_1 : One Try.prog 1 ti1 := ⟨by kernel_rfl, by kernel_rfl, fun _ => .nilFunc, (fun h => by cases h), rfl⟩
theorem one_2 : One Try.prog 2 ti2 := ⟨by kernel_rfl, by kernel_rfl, fun _ => .int _ _, (fun h => by cases h), rfl⟩
theorem one_3 : One Try.prog 3 ti3 := ⟨by kernel_rfl, by kernel_rfl, fun _ => .int _ _, (fun h => by cases h), rfl⟩
theorem one_4 : One Try.prog 4 ti4 := ⟨by kernel_rfl, by kernel_rfl, fun _ => .bool _, (fun h => by cases h), rfl⟩
theorem one_5 : One Try.prog 5 ti5 := ⟨by kernel_rfl, by kernel_rfl, fun _ => .int _ _, (fun h => by cases h), rfl⟩
theorem one_6 : One Try.prog 6 ti6 := ⟨by kernel_rfl, by kernel_rfl, fun _ => .int _ _, (fun h => by cases h), rfl⟩
theorem one_7 : One Try.prog 7 ti7 := ⟨by kernel_rfl, by kernel_rfl, fun _ => vrel_agg (lrel_cons (.int _ _) (lrel_cons (.int _ _) (lrel_cons (.bool _) (lrel_cons (.int _ _) lrel_nil)))), (fun h => by cases h), rfl⟩
theorem one_8 : One Try.prog 8 ti8 := ⟨by kernel_rfl, by kernel_rfl, fun _ => vrel_agg (lrel_cons (.int _ _) (lrel_cons (.int _ _) (lrel_cons (.bool _) (lrel_cons (.int _ _) lrel_nil)))), (fun h => by cases h), rfl⟩
theorem one_9 : One Try.prog 9 ti9 := ⟨by kernel_rfl, by kernel_rfl, fun _ => .string _, (fun h => by cases h), rfl⟩
theorem one_10 : One Try.prog 10 ti10 := ⟨by kernel_rfl, by kernel_rfl, fun _ => .string _, (fun h => by cases h), rfl⟩
theorem one_11 : One Try.prog 11 ti11 := ⟨by kernel_rfl, by kernel_rfl, fun _ => .string _, (fun h => by cases h), rfl⟩
theorem one_12 : One Try.prog 12 ti12 := ⟨by kernel_rfl, by kernel_rfl, fun _ => .int _ _, (fun h => by cases h), rfl⟩
theorem one_13 : One Try.prog 13 ti13 := ⟨by kernel_rfl, by kernel_rfl, fun _ => vrel_agg (lrel_cons (.string _) (lrel_cons (.int _ _) lrel_nil)), (fun h => by cases h), rfl⟩
theorem one_14 : One Try.prog 14 ti14 := ⟨by kernel_rfl, by kernel_rfl, fun _ => vrel_agg (lrel_cons (.string _) (lrel_cons (.int _ _) lrel_nil)), (fun h => by cases h), rfl⟩
theorem one_15 : One Try.prog 15 ti15 := ⟨by kernel_rfl, by kernel_rfl, fun _ => .nilPtr, (fun h => by cases h), rfl⟩
theorem one_16 : One Try.prog 16 ti16 := ⟨by kernel_rfl, by kernel_rfl, fun _ => .nilPtr, (fun h => by cases h), rfl⟩
theorem one_17 : One Try.prog 17 ti17 := ⟨by kernel_rfl, by kernel_rfl, fun _ => .nilPtr, (fun h => by cases h), rfl⟩
theorem one_18 : One Try.prog 18 ti18 := ⟨by kernel_rfl, by kernel_rfl, fun _ => vrel_agg (lrel_cons (.nilPtr) lrel_nil), (fun h => by cases h), rfl⟩
theorem one_19 : One Try.prog 19 ti19 := ⟨by kernel_rfl, by kernel_rfl, fun _ => vrel_agg (lrel_cons (.nilPtr) lrel_nil), (fun h => by cases h), rfl⟩
theorem one_20 : One Try.prog 20 ti20 := ⟨by kernel_rfl, by kernel_rfl, fun _ => .nilIface, (fun h => by cases h), rfl⟩
theorem one_21 : One Try.prog 21 ti21 := ⟨by kernel_rfl, by kernel_rfl, fun _ => .int _ _, (fun h => by cases h), rfl⟩
theorem one_22 : One Try.prog 22 ti22 := ⟨by kernel_rfl, by kernel_rfl, fun _ => vrel_agg (lrel_cons (.int _ _) (lrel_cons (.int _ _) (lrel_cons (.int _ _) (lrel_cons (.int _ _) (lrel_cons (.int _ _) (lrel_cons (.int _ _) (lrel_cons (.int _ _) (lrel_cons (.int _ _) (lrel_cons (.int _ _) (lrel_cons (.int _ _) (lrel_cons (.int _ _) (lrel_cons (.int _ _) lrel_nil)))))))))))), (fun _ => ⟨by kernel_rfl, by kernel_rfl⟩), rfl⟩
theorem one_23 : One Try.prog 23 ti23 := ⟨by kernel_rfl, by kernel_rfl, fun _ => vrel_agg (lrel_cons (.int _ _) (lrel_cons (.int _ _) (lrel_cons (.int _ _) (lrel_cons (.int _ _) (lrel_cons (.int _ _) (lrel_cons (.int _ _) (lrel_cons (.int _ _) (lrel_cons (.int _ _) (lrel_cons (.int _ _) (lrel_cons (.int _ _) (lrel_cons (.int _ _) (lrel_cons (.int _ _) lrel_nil)))))))))))), (fun _ => ⟨by kernel_rfl, by kernel_rfl⟩), rfl⟩
theorem one_24 : One Try.prog 24 ti24 := ⟨by kernel_rfl, by kernel_rfl, fun _ => .nilSlice, (fun h => by cases h), rfl⟩
theorem one_25 : One Try.prog 25 ti25 := ⟨by kernel_rfl, by kernel_rfl, fun _ => .nilFunc, (fun h => by cases h), rfl⟩
theorem one_26 : One Try.prog 26 ti26 := ⟨by kernel_rfl, by kernel_rfl, fun _ => .int _ _, (fun h => by cases h), rfl⟩
theorem one_27 : One Try.prog 27 ti27 := ⟨by kernel_rfl, by kernel_rfl, fun _ => .nilSlice, (fun h => by cases h), rfl⟩
theorem one_28 : One Try.prog 28 ti28 := ⟨by kernel_rfl, by kernel_rfl, fun _ => .nilSlice, (fun h => by cases h), rfl⟩
theorem one_29 : One Try.prog 29 ti29 := ⟨by kernel_rfl, by kernel_rfl, fun _ => .nilSlice, (fun h => by cases h), rfl⟩
theorem one_30 : One Try.prog 30 ti30 := ⟨by kernel_rfl, by kernel_rfl, fun _ => .nilSlice, (fun h => by cases h), rfl⟩
theorem one_31 : One Try.prog 31 ti31 := ⟨by kernel_rfl, by kernel_rfl, fun _ => vrel_agg (lrel_cons (.int _ _) (lrel_cons (.int _ _) (lrel_cons (.int _ _) (lrel_cons (.nilSlice) (lrel_cons (.nilSlice) (lrel_cons (.nilSlice) (lrel_cons (.nilSlice) lrel_nil))))))), (fun h => by cases h), rfl⟩
theorem one_32 : One Try.prog 32 ti32 := ⟨by kernel_rfl, by kernel_rfl, fun _ => vrel_agg (lrel_cons (.int _ _) (lrel_cons (.int _ _) (lrel_cons (.int _ _) (lrel_cons (.nilSlice) (lrel_cons (.nilSlice) (lrel_cons (.nilSlice) (lrel_cons (.nilSlice) lrel_nil))))))), (fun h => by cases h), rfl⟩
theorem one_33 : One Try.prog 33 ti33 := ⟨by kernel_rfl, by kernel_rfl, fun _ => .int _ _, (fun h => by cases h), rfl⟩
theorem one_34 : One Try.prog 34 ti34 := ⟨by kernel_rfl, by kernel_rfl, fun _ => vrel_tuple (lrel_cons (vrel_agg (lrel_cons (.int _ _) (lrel_cons (.int _ _) (lrel_cons (.int _ _) (lrel_cons (.nilSlice) (lrel_cons (.nilSlice) (lrel_cons (.nilSlice) (lrel_cons (.nilSlice) lrel_nil)))))))) (lrel_cons (.int _ _) lrel_nil)), (fun h => by cases h), rfl⟩
theorem one_35 : One Try.prog 35 ti35 := ⟨by kernel_rfl, by kernel_rfl, fun _ => .nilFunc, (fun h => by cases h), rfl⟩
theorem one_36 : One Try.prog 36 ti36 := ⟨by kernel_rfl, by kernel_rfl, fun _ => .nilFunc, (fun h => by cases h), rfl⟩
theorem one_37 : One Try.prog 37 ti37 := ⟨by kernel_rfl, by kernel_rfl, fun _ => .nilFunc, (fun h => by cases h), rfl⟩
theorem one_38 : One Try.prog 38 ti38 := ⟨by kernel_rfl, by kernel_rfl, fun _ => .nilFunc, (fun h => by cases h), rfl⟩
theorem one_39 : One Try.prog 39 ti39 := ⟨by kernel_rfl, by kernel_rfl, fun _ => vrel_agg (lrel_cons (.int _ _) (lrel_cons (.int _ _) (lrel_cons (.int _ _) (lrel_cons (.int _ _) (lrel_cons (.int _ _) (lrel_cons (.int _ _) (lrel_cons (.int _ _) (lrel_cons (.int _ _) lrel_nil)))))))), (fun _ => ⟨by kernel_rfl, by kernel_rfl⟩), rfl⟩
theorem one_40 : One Try.prog 40 ti40 := ⟨by kernel_rfl, by kernel_rfl, fun _ => vrel_agg (lrel_cons (.int _ _) (lrel_cons (.int _ _) (lrel_cons (.int _ _) (lrel_cons (.int _ _) (lrel_cons (.int _ _) (lrel_cons (.int _ _) (lrel_cons (.int _ _) (lrel_cons (.int _ _) lrel_nil)))))))), (fun _ => ⟨by kernel_rfl, by kernel_rfl⟩), rfl⟩
theorem one_41 : One Try.prog 41 ti41 := ⟨by kernel_rfl, by kernel_rfl, fun _ => .nilFunc, (fun h => by cases h), rfl⟩
theorem one_42 : One Try.prog 42 ti42 := ⟨by kernel_rfl, by kernel_rfl, fun _ => .nilFunc, (fun h => by cases h), rfl⟩
theorem one_43 : One Try.prog 43 ti43 := ⟨by kernel_rfl, by kernel_rfl, fun _ => vrel_tuple (lrel_cons (vrel_agg (lrel_cons (.int _ _) (lrel_cons (.int _ _) (lrel_cons (.int _ _) (lrel_cons (.nilSlice) (lrel_cons (.nilSlice) (lrel_cons (.nilSlice) (lrel_cons (.nilSlice) lrel_nil)))))))) (lrel_cons (.bool _) lrel_nil)), (fun h => by cases h), rfl⟩
theorem one_44 : One Try.prog 44 ti44 := ⟨by kernel_rfl, by kernel_rfl, fun _ => .nilFunc, (fun h => by cases h), rfl⟩
theorem one_45 : One Try.prog 45 ti45 := ⟨by kernel_rfl, by kernel_rfl, fun _ => .nilFunc, (fun h => by cases h), rfl⟩
theorem one_46 : One Try.prog 46 ti46 := ⟨by kernel_rfl, by kernel_rfl, fun _ => vrel_agg (lrel_cons (.int _ _) (lrel_cons (.int _ _) lrel_nil)), (fun _ => ⟨by kernel_rfl, by kernel_rfl⟩), rfl⟩
theorem one_47 : One Try.prog 47 ti47 := ⟨by kernel_rfl, by kernel_rfl, fun _ => vrel_agg (lrel_cons (.int _ _) (lrel_cons (.int _ _) lrel_nil)), (fun _ => ⟨by kernel_rfl, by kernel_rfl⟩), rfl⟩
theorem one_48 : One Try.prog 48 ti48 := ⟨by kernel_rfl, by kernel_rfl, fun _ => vrel_agg (lrel_cons (.int _ _) (lrel_cons (.int _ _) (lrel_cons (.int _ _) (lrel_cons (.int _ _) (lrel_cons (.int _ _) (lrel_cons (.int _ _) (lrel_cons (.int _ _) (lrel_cons (.int _ _) (lrel_cons (.int _ _) lrel_nil))))))))), (fun _ => ⟨by kernel_rfl, by kernel_rfl⟩), rfl⟩
theorem one_49 : One Try.prog 49 ti49 := ⟨by kernel_rfl, by kernel_rfl, fun _ => vrel_agg (lrel_cons (.int _ _) (lrel_cons (.int _ _) (lrel_cons (.int _ _) (lrel_cons (.int _ _) (lrel_cons (.int _ _) (lrel_cons (.int _ _) (lrel_cons (.int _ _) (lrel_cons (.int _ _) (lrel_cons (.int _ _) lrel_nil))))))))), (fun _ => ⟨by kernel_rfl, by kernel_rfl⟩), rfl⟩
theorem one_50 : One Try.prog 50 ti50 := ⟨by kernel_rfl, by kernel_rfl, fun _ => .nilFunc, (fun h => by cases h), rfl⟩
theorem one_51 : One Try.prog 51 ti51 := ⟨by kernel_rfl, by kernel_rfl, fun _ => .nilFunc, (fun h => by cases h), rfl⟩
theorem one_52 : One Try.prog 52 ti52 := ⟨by kernel_rfl, by kernel_rfl, fun _ => .nilFunc, (fun h => by cases h), rfl⟩
theorem one_53 : One Try.prog 53 ti53 := ⟨by kernel_rfl, by kernel_rfl, fun _ => vrel_agg (lrel_cons (.int _ _) (lrel_cons (.int _ _) (lrel_cons (.int _ _) (lrel_cons (.int _ _) lrel_nil)))), (fun _ => ⟨by kernel_rfl, by kernel_rfl⟩), rfl⟩
theorem one_54 : One Try.prog 54 ti54 := ⟨by kernel_rfl, by kernel_rfl, fun _ => vrel_agg (lrel_cons (.int _ _) (lrel_cons (.int _ _) (lrel_cons (.int _ _) (lrel_cons (.int _ _) lrel_nil)))), (fun _ => ⟨by kernel_rfl, by kernel_rfl⟩), rfl⟩
theorem one_55 : One Try.prog 55 ti55 := ⟨by kernel_rfl, by kernel_rfl, fun _ => .nilFunc, (fun h => by cases h), rfl⟩
theorem one_56 : One Try.prog 56 ti56 := ⟨by kernel_rfl, by kernel_rfl, fun _ => .nilFunc, (fun h => by cases h), rfl⟩
theorem one_57 : One Try.prog 57 ti57 := ⟨by kernel_rfl, by kernel_rfl, fun _ => vrel_agg (lrel_cons (.bool _) (lrel_cons (.int _ _) (lrel_cons (.int _ _) lrel_nil))), (fun _ => ⟨by kernel_rfl, by kernel_rfl⟩), rfl⟩
theorem one_58 : One Try.prog 58 ti58 := ⟨by kernel_rfl, by kernel_rfl, fun _ => vrel_agg (lrel_cons (.bool _) (lrel_cons (.int _ _) (lrel_cons (.int _ _) lrel_nil))), (fun _ => ⟨by kernel_rfl, by kernel_rfl⟩), rfl⟩
theorem one_59 : One Try.prog 59 ti59 := ⟨by kernel_rfl, by kernel_rfl, fun _ => .nilFunc, (fun h => by cases h), rfl⟩
theorem one_60 : One Try.prog 60 ti60 := ⟨by kernel_rfl, by kernel_rfl, fun _ => .nilFunc, (fun h => by cases h), rfl⟩
theorem one_61 : One Try.prog 61 ti61 := ⟨by kernel_rfl, by kernel_rfl, fun _ => .nilPtr, (fun h => by cases h), rfl⟩
theorem one_62 : One Try.prog 62 ti62 := ⟨by kernel_rfl, by kernel_rfl, fun _ => .nilFunc, (fun h => by cases h), rfl⟩
theorem one_63 : One Try.prog 63 ti63 := ⟨by kernel_rfl, by kernel_rfl, fun _ => .nilPtr, (fun h => by cases h), rfl⟩
theorem one_64 : One Try.prog 64 ti64 := ⟨by kernel_rfl, by kernel_rfl, fun _ => .nilFunc, (fun h => by cases h), rfl⟩
theorem one_65 : One Try.prog 65 ti65 := ⟨by kernel_rfl, by kernel_rfl, fun _ => .nilPtr, (fun h => by cases h), rfl⟩
theorem one_66 : One Try.prog 66 ti66 := ⟨by kernel_rfl, by kernel_rfl, fun _ => vrel_agg (lrel_cons (.nilPtr) (lrel_cons (.int _ _) (lrel_cons (.int _ _) (lrel_cons (.int _ _) (lrel_cons (.nilSlice) (lrel_cons (.nilSlice) (lrel_cons (.nilSlice) (lrel_cons (.nilSlice) (lrel_cons (.nilPtr) lrel_nil))))))))), (fun h => by cases h), rfl⟩
theorem one_67 : One Try.prog 67 ti67 := ⟨by kernel_rfl, by kernel_rfl, fun _ => vrel_agg (lrel_cons (.nilPtr) (lrel_cons (.int _ _) (lrel_cons (.int _ _) (lrel_cons (.int _ _) (lrel_cons (.nilSlice) (lrel_cons (.nilSlice) (lrel_cons (.nilSlice) (lrel_cons (.nilSlice) (lrel_cons (.nilPtr) lrel_nil))))))))), (fun h => by cases h), rfl⟩
theorem one_68 : One Try.prog 68 ti68 := ⟨by kernel_rfl, by kernel_rfl, fun _ => vrel_tuple (lrel_cons (.nilSlice) (lrel_cons (.int _ _) lrel_nil)), (fun h => by cases h), rfl⟩
theorem one_69 : One Try.prog 69 ti69 := ⟨by kernel_rfl, by kernel_rfl, fun _ => .nilFunc, (fun h => by cases h), rfl⟩
theorem one_70 : One Try.prog 70 ti70 := ⟨by kernel_rfl, by kernel_rfl, fun _ => .nilFunc, (fun h => by cases h), rfl⟩
theorem one_71 : One Try.prog 71 ti71 := ⟨by kernel_rfl, by kernel_rfl, fun _ => .nilFunc, (fun h => by cases h), rfl⟩
theorem one_72 : One Try.prog 72 ti72 := ⟨by kernel_rfl, by kernel_rfl, fun _ => .nilSlice, (fun h => by cases h), rfl⟩
theorem one_73 : One Try.prog 73 ti73 := ⟨by kernel_rfl, by kernel_rfl, fun _ => .nilFunc, (fun h => by cases h), rfl⟩
theorem one_74 : One Try.prog 74 ti74 := ⟨by kernel_rfl, by kernel_rfl, fun _ => .nilPtr, (fun h => by cases h), rfl⟩
theorem one_75 : One Try.prog 75 ti75 := ⟨by kernel_rfl, by kernel_rfl, fun _ => .nilFunc, (fun h => by cases h), rfl⟩
theorem one_76 : One Try.prog 76 ti76 := ⟨by kernel_rfl, by kernel_rfl, fun _ => .nilFunc, (fun h => by cases h), rfl⟩
theorem one_77 : One Try.prog 77 ti77 := ⟨by kernel_rfl, by kernel_rfl, fun _ => .nilFunc, (fun h => by cases h), rfl⟩
theorem one_78 : One Try.prog 78 ti78 := ⟨by kernel_rfl, by kernel_rfl, fun _ => .nilFunc, (fun h => by cases h), rfl⟩
theorem one_79 : One Try.prog 79 ti79 := ⟨by kernel_rfl, by kernel_rfl, fun _ => .nilFunc, (fun h => by cases h), rfl⟩
theorem one_80 : One Try.prog 80 ti80 := ⟨by kernel_rfl, by kernel_rfl, fun _ => .nilFunc, (fun h => by cases h), rfl⟩
theorem one_81 : One Try.prog 81 ti81 := ⟨by kernel_rfl, by kernel_rfl, fun _ => .nilFunc, (fun h => by cases h), rfl⟩
theorem one_82 : One Try.prog 82 ti82 := ⟨by kernel_rfl, by kernel_rfl, fun _ => .nilPtr, (fun h => by cases h), rfl⟩
theorem one_83 : One Try.prog 83 ti83 := ⟨by kernel_rfl, by kernel_rfl, fun _ => .nilFunc, (fun h => by cases h), rfl⟩
theorem one_84 : One Try.prog 84 ti84 := ⟨by kernel_rfl, by kernel_rfl, fun _ => .nilPtr, (fun h => by cases h), rfl⟩
theorem one_85 : One Try.prog 85 ti85 := ⟨by kernel_rfl, by kernel_rfl, fun _ => .nilFunc, (fun h => by cases h), rfl⟩
theorem one_86 : One Try.prog 86 ti86 := ⟨by kernel_rfl, by kernel_rfl, fun _ => .nilFunc, (fun h => by cases h), rfl⟩
theorem one_87 : One Try.prog 87 ti87 := ⟨by kernel_rfl, by kernel_rfl, fun _ => .nilFunc, (fun h => by cases h), rfl⟩
theorem one_88 : One Try.prog 88 ti88 := ⟨by kernel_rfl, by kernel_rfl, fun _ => .nilFunc, (fun h => by cases h), rfl⟩
theorem one_89 : One Try.prog 89 ti89 := ⟨by kernel_rfl, by kernel_rfl, fun _ => .nilFunc, (fun h => by cases h), rfl⟩
theorem one_90 : One Try.prog 90 ti90 := ⟨by kernel_rfl, by kernel_rfl, fun _ => .nilFunc, (fun h => by cases h), rfl⟩
theorem one_91 : One Try.prog 91 ti91 := ⟨by kernel_rfl, by kernel_rfl, fun _ => .nilFunc, (fun h => by cases h), rfl⟩
theorem one_92 : One Try.prog 92 ti92 := ⟨by kernel_rfl, by kernel_rfl, fun _ => .nilFunc, (fun h => by cases h), rfl⟩
theorem one_93 : One Try.prog 93 ti93 := ⟨by kernel_rfl, by kernel_rfl, fun _ => .nilFunc, (fun h => by cases h), rfl⟩
theorem one_94 : One Try.prog 94 ti94 := ⟨by kernel_rfl, by kernel_rfl, fun _ => .nilFunc, (fun h => by cases h), rfl⟩
theorem one_95 : One Try.prog 95 ti95 := ⟨by kernel_rfl, by kernel_rfl, fun _ => .nilFunc, (fun h => by cases h), rfl⟩
theorem one_96 : One Try.prog 96 ti96 := ⟨by kernel_rfl, by kernel_rfl, fun _ => vrel_tuple (lrel_cons (vrel_agg (lrel_cons (.int _ _) (lrel_cons (.int _ _) lrel_nil))) (lrel_cons (.int _ _) lrel_nil)), (fun h => by cases h), rfl⟩
theorem one_97 : One Try.prog 97 ti97 := ⟨by kernel_rfl, by kernel_rfl, fun _ => .nilFunc, (fun h => by cases h), rfl⟩
theorem one_98 : One Try.prog 98 ti98 := ⟨by kernel_rfl, by kernel_rfl, fun _ => vrel_tuple (lrel_cons (.int _ _) (lrel_cons (.int _ _) lrel_nil)), (fun h => by cases h), rfl⟩
theorem one_99 : One Try.prog 99 ti99 := ⟨by kernel_rfl, by kernel_rfl, fun _ => .nilFunc, (fun h => by cases h), rfl⟩
theorem one_100 : One Try.prog 100 ti100 := ⟨by kernel_rfl, by kernel_rfl, fun _ => .nilFunc, (fun h => by cases h), rfl⟩
theorem one_101 : One Try.prog 101 ti101 := ⟨by kernel_rfl, by kernel_rfl, fun _ => .nilFunc, (fun h => by cases h), rfl⟩
theorem one_102 : One Try.prog 102 ti102 := ⟨by kernel_rfl, by kernel_rfl, fun _ => .nilFunc, (fun h => by cases h), rfl⟩
theorem one_103 : One Try.prog 103 ti103 := ⟨by kernel_rfl, by kernel_rfl, fun _ => .nilFunc, (fun h => by cases h), rfl⟩
theorem one_104 : One Try.prog 104 ti104 := ⟨by kernel_rfl, by kernel_rfl, fun _ => .nilFunc, (fun h => by cases h), rfl⟩
theorem one_105 : One Try.prog 105 ti105 := ⟨by kernel_rfl, by kernel_rfl, fun _ => .nilFunc, (fun h => by cases h), rfl⟩
theorem one_106 : One Try.prog 106 ti106 := ⟨by kernel_rfl, by kernel_rfl, fun _ => .int _ _, (fun h => by cases h), rfl⟩
theorem one_107 : One Try.prog 107 ti107 := ⟨by kernel_rfl, by kernel_rfl, fun _ => vrel_tuple (lrel_cons (.int _ _) (lrel_cons (.int _ _) lrel_nil)), (fun h => by cases h), rfl⟩
theorem one_108 : One Try.prog 108 ti108 := ⟨by kernel_rfl, by kernel_rfl, fun _ => .nilFunc, (fun h => by cases h), rfl⟩
theorem one_109 : One Try.prog 109 ti109 := ⟨by kernel_rfl, by kernel_rfl, fun _ => .int _ _, (fun h => by cases h), rfl⟩
theorem one_110 : One Try.prog 110 ti110 := ⟨by kernel_rfl, by kernel_rfl, fun _ => vrel_tuple (lrel_cons (.int _ _) (lrel_cons (.int _ _) lrel_nil)), (fun h => by cases h), rfl⟩
theorem one_111 : One Try.prog 111 ti111 := ⟨by kernel_rfl, by kernel_rfl, fun _ => .nilFunc, (fun h => by cases h), rfl⟩
theorem one_112 : One Try.prog 112 ti112 := ⟨by kernel_rfl, by kernel_rfl, fun _ => .nilFunc, (fun h => by cases h), rfl⟩
theorem one_113 : One Try.prog 113 ti113 := ⟨by kernel_rfl, by kernel_rfl, fun _ => .nilFunc, (fun h => by cases h), rfl⟩
theorem one_114 : One Try.prog 114 ti114 := ⟨by kernel_rfl, by kernel_rfl, fun _ => .nilFunc, (fun h => by cases h), rfl⟩
theorem one_115 : One Try.prog 115 ti115 := ⟨by kernel_rfl, by kernel_rfl, fun _ => .nilFunc, (fun h => by cases h), rfl⟩
theorem one_116 : One Try.prog 116 ti116 := ⟨by kernel_rfl, by kernel_rfl, fun _ => .nilFunc, (fun h => by cases h), rfl⟩
theorem one_117 : One Try.prog 117 ti117 := ⟨by kernel_rfl, by kernel_rfl, fun _ => vrel_agg (lrel_cons (.nilPtr) (lrel_cons (.nilPtr) (lrel_cons (.nilPtr) (lrel_cons (.string _) lrel_nil)))), (fun h => by cases h), rfl⟩
theorem one_118 : One Try.prog 118 ti118 := ⟨by kernel_rfl, by kernel_rfl, fun _ => vrel_agg (lrel_cons (.nilPtr) (lrel_cons (.nilPtr) (lrel_cons (.nilPtr) (lrel_cons (.string _) lrel_nil)))), (fun h => by cases h), rfl⟩
theorem one_119 : One Try.prog 119 ti119 := ⟨by kernel_rfl, by kernel_rfl, fun _ => vrel_agg lrel_nil, (fun h => by cases h), rfl⟩
theorem one_120 : One Try.prog 120 ti120 := ⟨by kernel_rfl, by kernel_rfl, fun _ => vrel_agg lrel_nil, (fun h => by cases h), rfl⟩
theorem one_121 : One Try.prog 121 ti121 := ⟨by kernel_rfl, by kernel_rfl, fun _ => vrel_agg lrel_nil, (fun h => by cases h), rfl⟩
theorem one_122 : One Try.prog 122 ti122 := ⟨by kernel_rfl, by kernel_rfl, fun _ => .nilFunc, (fun h => by cases h), rfl⟩
theorem one_123 : One Try.prog 123 ti123 := ⟨by kernel_rfl, by kernel_rfl, fun _ => .int _ _, (fun h => by cases h), rfl⟩
theorem one_124 : One Try.prog 124 ti124 := ⟨by kernel_rfl, by kernel_rfl, fun _ => .int _ _, (fun h => by cases h), rfl⟩
theorem one_125 : One Try.prog 125 ti125 := ⟨by kernel_rfl, by kernel_rfl, fun _ => .nilFunc, (fun h => by cases h), rfl⟩
theorem one_126 : One Try.prog 126 ti126 := ⟨by kernel_rfl, by kernel_rfl, fun _ => .nilPtr, (fun h => by cases h), rfl⟩
theorem one_127 : One Try.prog 127 ti127 := ⟨by kernel_rfl, by kernel_rfl, fun _ => .int _ _, (fun h => by cases h), rfl⟩
theorem one_128 : One Try.prog 128 ti128 := ⟨by kernel_rfl, by kernel_rfl, fun _ => .int _ _, (fun h => by cases h), rfl⟩
theorem one_129 : One Try.prog 129 ti129 := ⟨by kernel_rfl, by kernel_rfl, fun _ => vrel_agg (lrel_cons (.int _ _) (lrel_cons (.int _ _) (lrel_cons (.int _ _) (lrel_cons (.int _ _) (lrel_cons (.int _ _) (lrel_cons (.int _ _) (lrel_cons (.int _ _) (lrel_cons (.nilFunc) (lrel_cons (.nilPtr) (lrel_cons (.int _ _) (lrel_cons (.int _ _) lrel_nil))))))))))), (fun h => by cases h), rfl⟩
theorem one_130 : One Try.prog 130 ti130 := ⟨by kernel_rfl, by kernel_rfl, fun _ => vrel_agg (lrel_cons (.int _ _) (lrel_cons (.int _ _) (lrel_cons (.int _ _) (lrel_cons (.int _ _) (lrel_cons (.int _ _) (lrel_cons (.int _ _) (lrel_cons (.int _ _) (lrel_cons (.nilFunc) (lrel_cons (.nilPtr) (lrel_cons (.int _ _) (lrel_cons (.int _ _) lrel_nil))))))))))), (fun h => by cases h), rfl⟩
theorem cond_split {b : Bool} {x y : Option TI} {i : TI} {C : Prop} (h : (bif b then x else y) = some i) (h1 : b = true → x = some i → C) (h2 : b = false → y = some i → C) : C := by
  cases b
  · exact h2 rfl h
  · exact h1 rfl h
theorem cond_leaf {t k : Nat} {x i : TI} (h : (bif Nat.beq t k then some x else none) = some i) (o : One Try.prog k x) : One Try.prog t i := by
  refine cond_split h (fun e g => ?_) (fun _ g => by cases g)
  cases g
  obtain rfl := Nat.eq_of_beq_eq_true e
  exact o
theorem tab : Tab Try.prog tys := tab_of fun _ _ h => (cond_split h (fun _ h => (cond_split h (fun _ h => (cond_split h (fun _ h => (cond_split h (fun _ h => (cond_split h (fun _ h => (cond_split h (fun _ h => (cond_split h (fun _ h => (cond_leaf h one_0)) (fun _ h => (cond_leaf h one_1)))) (fun _ h => (cond_split h (fun _ h => (cond_leaf h one_2)) (fun _ h => (cond_leaf h one_3)))))) (fun _ h => (cond_split h (fun _ h => (cond_split h (fun _ h => (cond_leaf h one_4)) (fun _ h => (cond_leaf h one_5)))) (fun _ h => (cond_split h (fun _ h => (cond_leaf h one_6)) (fun _ h => (cond_leaf h one_7)))))))) (fun _ h => (cond_split h (fun _ h => (cond_split h (fun _ h => (cond_split h (fun _ h => (cond_leaf h one_8)) (fun _ h => (cond_leaf h one_9)))) (fun _ h => (cond_split h (fun _ h => (cond_leaf h one_10)) (fun _ h => (cond_leaf h one_11)))))) (fun _ h => (cond_split h (fun _ h => (cond_split h (fun _ h => (cond_leaf h one_12)) (fun _ h => (cond_leaf h one_13)))) (fun _ h => (cond_split h (fun _ h => (cond_leaf h one_14)) (fun _ h => (cond_leaf h one_15)))))))))) (fun _ h => (cond_split h (fun _ h => (cond_split h (fun _ h => (cond_split h (fun _ h => (cond_split h (fun _ h => (cond_leaf h one_16)) (fun _ h => (cond_leaf h one_17)))) (fun _ h => (cond_split h (fun _ h => (cond_leaf h one_18)) (fun _ h => (cond_leaf h one_19)))))) (fun _ h => (cond_split h (fun _ h => (cond_split h (fun _ h => (cond_leaf h one_20)) (fun _ h => (cond_leaf h one_21)))) (fun _ h => (cond_split h (fun _ h => (cond_leaf h one_22)) (fun _ h => (cond_leaf h one_23)))))))) (fun _ h => (cond_split h (fun _ h => (cond_split h (fun _ h => (cond_split h (fun _ h => (cond_leaf h one_24)) (fun _ h => (cond_leaf h one_25)))) (fun _ h => (cond_split h (fun _ h => (cond_leaf h one_26)) (fun _ h => (cond_leaf h one_27)))))) (fun _ h => (cond_split h (fun _ h => (cond_split h (fun _ h => (cond_leaf h one_28)) (fun _ h => (cond_leaf h one_29)))) (fun _ h => (cond_split h (fun _ h => (cond_leaf h one_30)) (fun _ h => (cond_leaf h one_31)))))))))))) (fun _ h => (cond_split h (fun _ h => (cond_split h (fun _ h => (cond_split h (fun _ h => (cond_split h (fun _ h => (cond_split h (fun _ h => (cond_leaf h one_32)) (fun _ h => (cond_leaf h one_33)))) (fun _ h => (cond_split h (fun _ h => (cond_leaf h one_34)) (fun _ h => (cond_leaf h one_35)))))) (fun _ h => (cond_split h (fun _ h => (cond_split h (fun _ h => (cond_leaf h one_36)) (fun _ h => (cond_leaf h one_37)))) (fun _ h => (cond_split h (fun _ h => (cond_leaf h one_38)) (fun _ h => (cond_leaf h one_39)))))))) (fun _ h => (cond_split h (fun _ h => (cond_split h (fun _ h => (cond_split h (fun _ h => (cond_leaf h one_40)) (fun _ h => (cond_leaf h one_41)))) (fun _ h => (cond_split h (fun _ h => (cond_leaf h one_42)) (fun _ h => (cond_leaf h one_43)))))) (fun _ h => (cond_split h (fun _ h => (cond_split h (fun _ h => (cond_leaf h one_44)) (fun _ h => (cond_leaf h one_45)))) (fun _ h => (cond_split h (fun _ h => (cond_leaf h one_46)) (fun _ h => (cond_leaf h one_47)))))))))) (fun _ h => (cond_split h (fun _ h => (cond_split h (fun _ h => (cond_split h (fun _ h => (cond_split h (fun _ h => (cond_leaf h one_48)) (fun _ h => (cond_leaf h one_49)))) (fun _ h => (cond_split h (fun _ h => (cond_leaf h one_50)) (fun _ h => (cond_leaf h one_51)))))) (fun _ h => (cond_split h (fun _ h => (cond_split h (fun _ h => (cond_leaf h one_52)) (fun _ h => (cond_leaf h one_53)))) (fun _ h => (cond_split h (fun _ h => (cond_leaf h one_54)) (fun _ h => (cond_leaf h one_55)))))))) (fun _ h => (cond_split h (fun _ h => (cond_split h (fun _ h => (cond_split h (fun _ h => (cond_leaf h one_56)) (fun _ h => (cond_leaf h one_57)))) (fun _ h => (cond_split h (fun _ h => (cond_leaf h one_58)) (fun _ h => (cond_leaf h one_59)))))) (fun _ h => (cond_split h (fun _ h => (cond_split h (fun _ h => (cond_leaf h one_60)) (fun _ h => (cond_leaf h one_61)))) (fun _ h => (cond_split h (fun _ h => (cond_leaf h one_62)) (fun _ h => (cond_split h (fun _ h => (cond_leaf h one_63)) (fun _ h => (cond_leaf h one_64)))))))))))))))) (fun _ h => (cond_split h (fun _ h => (cond_split h (fun _ h => (cond_split h (fun _ h => (cond_split h (fun _ h => (cond_split h (fun _ h => (cond_split h (fun _ h => (cond_leaf h one_65)) (fun _ h => (cond_leaf h one_66)))) (fun _ h => (cond_split h (fun _ h => (cond_leaf h one_67)) (fun _ h => (cond_leaf h one_68)))))) (fun _ h => (cond_split h (fun _ h => (cond_split h (fun _ h => (cond_leaf h one_69)) (fun _ h => (cond_leaf h one_70)))) (fun _ h => (cond_split h (fun _ h => (cond_leaf h one_71)) (fun _ h => (cond_leaf h one_72)))))))) (fun _ h => (cond_split h (fun _ h => (cond_split h (fun _ h => (cond_split h (fun _ h => (cond_leaf h one_73)) (fun _ h => (cond_leaf h one_74)))) (fun _ h => (cond_split h (fun _ h => (cond_leaf h one_75)) (fun _ h => (cond_leaf h one_76)))))) (fun _ h => (cond_split h (fun _ h => (cond_split h (fun _ h => (cond_leaf h one_77)) (fun _ h => (cond_leaf h one_78)))) (fun _ h => (cond_split h (fun _ h => (cond_leaf h one_79)) (fun _ h => (cond_leaf h one_80)))))))))) (fun _ h => (cond_split h (fun _ h => (cond_split h (fun _ h => (cond_split h (fun _ h => (cond_split h (fun _ h => (cond_leaf h one_81)) (fun _ h => (cond_leaf h one_82)))) (fun _ h => (cond_split h (fun _ h => (cond_leaf h one_83)) (fun _ h => (cond_leaf h one_84)))))) (fun _ h => (cond_split h (fun _ h => (cond_split h (fun _ h => (cond_leaf h one_85)) (fun _ h => (cond_leaf h one_86)))) (fun _ h => (cond_split h (fun _ h => (cond_leaf h one_87)) (fun _ h => (cond_leaf h one_88)))))))) (fun _ h => (cond_split h (fun _ h => (cond_split h (fun _ h => (cond_split h (fun _ h => (cond_leaf h one_89)) (fun _ h => (cond_leaf h one_90)))) (fun _ h => (cond_split h (fun _ h => (cond_leaf h one_91)) (fun _ h => (cond_leaf h one_92)))))) (fun _ h => (cond_split h (fun _ h => (cond_split h (fun _ h => (cond_leaf h one_93)) (fun _ h => (cond_leaf h one_94)))) (fun _ h => (cond_split h (fun _ h => (cond_leaf h one_95)) (fun _ h => (cond_split h (fun _ h => (cond_leaf h one_96)) (fun _ h => (cond_leaf h one_97)))))))))))))) (fun _ h => (cond_split h (fun _ h => (cond_split h (fun _ h => (cond_split h (fun _ h => (cond_split h (fun _ h => (cond_split h (fun _ h => (cond_leaf h one_98)) (fun _ h => (cond_leaf h one_99)))) (fun _ h => (cond_split h (fun _ h => (cond_leaf h one_100)) (fun _ h => (cond_leaf h one_101)))))) (fun _ h => (cond_split h (fun _ h => (cond_split h (fun _ h => (cond_leaf h one_102)) (fun _ h => (cond_leaf h one_103)))) (fun _ h => (cond_split h (fun _ h => (cond_leaf h one_104)) (fun _ h => (cond_leaf h one_105)))))))) (fun _ h => (cond_split h (fun _ h => (cond_split h (fun _ h => (cond_split h (fun _ h => (cond_leaf h one_106)) (fun _ h => (cond_leaf h one_107)))) (fun _ h => (cond_split h (fun _ h => (cond_leaf h one_108)) (fun _ h => (cond_leaf h one_109)))))) (fun _ h => (cond_split h (fun _ h => (cond_split h (fun _ h => (cond_leaf h one_110)) (fun _ h => (cond_leaf h one_111)))) (fun _ h => (cond_split h (fun _ h => (cond_leaf h one_112)) (fun _ h => (cond_leaf h one_113)))))))))) (fun _ h => (cond_split h (fun _ h => (cond_split h (fun _ h => (cond_split h (fun _ h => (cond_split h (fun _ h => (cond_leaf h one_114)) (fun _ h => (cond_leaf h one_115)))) (fun _ h => (cond_split h (fun _ h => (cond_leaf h one_116)) (fun _ h => (cond_leaf h one_117)))))) (fun _ h => (cond_split h (fun _ h => (cond_split h (fun _ h => (cond_leaf h one_118)) (fun _ h => (cond_leaf h one_119)))) (fun _ h => (cond_split h (fun _ h => (cond_leaf h one_120)) (fun _ h => (cond_leaf h one_121)))))))) (fun _ h => (cond_split h (fun _ h => (cond_split h (fun _ h => (cond_split h (fun _ h => (cond_leaf h one_122)) (fun _ h => (cond_leaf h one_123)))) (fun _ h => (cond_split h (fun _ h => (cond_leaf h one_124)) (fun _ h => (cond_leaf h one_125)))))) (fun _ h => (cond_split h (fun _ h => (cond_split h (fun _ h => (cond_leaf h one_126)) (fun _ h => (cond_leaf h one_127)))) (fun _ h => (cond_split h (fun _ h => (cond_leaf h one_128)) (fun _ h => (cond_split h (fun _ h => (cond_leaf h one_129)) (fun _ h => (cond_leaf h one_130)))))))))))))))))
end Go.Proofs.Ytcjfidfealifhaa
