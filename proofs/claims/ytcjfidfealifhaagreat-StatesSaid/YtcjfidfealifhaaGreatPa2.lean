/- Texts of this claim, one behind the other (3 of 7). -/
import Derived.Test.YtcjfidfealifhaaGreatPa1
set_option maxRecDepth 100000
namespace Go.Proofs.YtcjfidfealifhaaGreat
open Go Go.Proofs.YtcjfidfealifhaaGreat.Vm
def ti0 : TI := { desc := .tuple #[], size := 1, bytes := 0, zero := .tuple #[], cmp := false, eqOk := false }
def ti1 : TI := { desc := .func #[] #[] false, size := 1, bytes := 8, zero := .nilFunc, cmp := false, eqOk := false }
def ti2 : TI := { desc := .int .i64, size := 1, bytes := 8, zero := .int .i64 0, cmp := true, eqOk := false }
def ti3 : TI := { desc := .int .i64, size := 1, bytes := 8, zero := .int .i64 0, cmp := true, eqOk := false }
def ti4 : TI := { desc := .bool, size := 1, bytes := 1, zero := .bool false, cmp := true, eqOk := false }
def ti5 : TI := { desc := .int .u8, size := 1, bytes := 1, zero := .int .u8 0, cmp := true, eqOk := false }
def ti6 : TI := { desc := .int .u8, size := 1, bytes := 1, zero := .int .u8 0, cmp := true, eqOk := false }
def ti7 : TI := { desc := .struct #[⟨ "x", 2, 0, false, "", "runtime", 0⟩, ⟨ "y", 3, 1, false, "", "runtime", 8⟩, ⟨ "signed", 4, 2, false, "", "runtime", 16⟩, ⟨ "code", 6, 3, false, "", "runtime", 17⟩], size := 4, bytes := 24, zero := .agg #[.int .i64 0, .int .i64 0, .bool false, .int .u8 0], cmp := true, eqOk := false }
def ti8 : TI := { desc := .struct #[⟨ "x", 2, 0, false, "", "runtime", 0⟩, ⟨ "y", 3, 1, false, "", "runtime", 8⟩, ⟨ "signed", 4, 2, false, "", "runtime", 16⟩, ⟨ "code", 6, 3, false, "", "runtime", 17⟩], size := 4, bytes := 24, zero := .agg #[.int .i64 0, .int .i64 0, .bool false, .int .u8 0], cmp := true, eqOk := false }
def ti9 : TI := { desc := .string, size := 1, bytes := 16, zero := .string ⟨#[]⟩, cmp := true, eqOk := false }
def ti10 : TI := { desc := .string, size := 1, bytes := 16, zero := .string ⟨#[]⟩, cmp := true, eqOk := false }
def ti11 : TI := { desc := .string, size := 1, bytes := 16, zero := .string ⟨#[]⟩, cmp := true, eqOk := false }
def ti12 : TI := { desc := .int .u64, size := 1, bytes := 8, zero := .int .u64 0, cmp := true, eqOk := false }
def ti13 : TI := { desc := .struct #[⟨ "msg", 9, 0, false, "", "runtime", 0⟩, ⟨ "addr", 12, 1, false, "", "runtime", 16⟩], size := 2, bytes := 24, zero := .agg #[.string ⟨#[]⟩, .int .u64 0], cmp := true, eqOk := false }
def ti14 : TI := { desc := .struct #[⟨ "msg", 9, 0, false, "", "runtime", 0⟩, ⟨ "addr", 12, 1, false, "", "runtime", 16⟩], size := 2, bytes := 24, zero := .agg #[.string ⟨#[]⟩, .int .u64 0], cmp := true, eqOk := false }
def ti15 : TI := { desc := .pointer 140, size := 1, bytes := 8, zero := .pointer none, cmp := true, eqOk := false }
def ti16 : TI := { desc := .pointer 143, size := 1, bytes := 8, zero := .pointer none, cmp := true, eqOk := false }
def ti17 : TI := { desc := .pointer 152, size := 1, bytes := 8, zero := .pointer none, cmp := true, eqOk := false }
def ti18 : TI := { desc := .struct #[⟨ "typ", 17, 0, false, "", "internal/runtime/maps", 0⟩], size := 1, bytes := 8, zero := .agg #[.pointer none], cmp := true, eqOk := false }
def ti19 : TI := { desc := .struct #[⟨ "typ", 17, 0, false, "", "internal/runtime/maps", 0⟩], size := 1, bytes := 8, zero := .agg #[.pointer none], cmp := true, eqOk := false }
def ti20 : TI := { desc := .interface #[], size := 1, bytes := 16, zero := .nilIface, cmp := true, eqOk := false }
def ti21 : TI := { desc := .int .i32, size := 1, bytes := 4, zero := .int .i32 0, cmp := true, eqOk := false }
def ti22 : TI := { desc := .struct #[⟨ "Sectors", 3, 0, false, "", "", 0⟩, ⟨ "Halves", 3, 1, false, "", "", 8⟩, ⟨ "Sessions", 3, 2, false, "", "", 16⟩, ⟨ "Addresses", 3, 3, false, "", "", 24⟩, ⟨ "Fails", 3, 4, false, "", "", 32⟩, ⟨ "Lockout", 3, 5, false, "", "", 40⟩, ⟨ "HalfLife", 3, 6, false, "", "", 48⟩, ⟨ "Idle", 3, 7, false, "", "", 56⟩, ⟨ "Absolute", 3, 8, false, "", "", 64⟩, ⟨ "Quarantine", 3, 9, false, "", "", 72⟩, ⟨ "TicketLife", 3, 10, false, "", "", 80⟩, ⟨ "Keep", 3, 11, false, "", "", 88⟩], size := 12, bytes := 96, zero := .agg #[.int .i64 0, .int .i64 0, .int .i64 0, .int .i64 0, .int .i64 0, .int .i64 0, .int .i64 0, .int .i64 0, .int .i64 0, .int .i64 0, .int .i64 0, .int .i64 0], cmp := true, eqOk := true }
def ti23 : TI := { desc := .struct #[⟨ "Sectors", 3, 0, false, "", "", 0⟩, ⟨ "Halves", 3, 1, false, "", "", 8⟩, ⟨ "Sessions", 3, 2, false, "", "", 16⟩, ⟨ "Addresses", 3, 3, false, "", "", 24⟩, ⟨ "Fails", 3, 4, false, "", "", 32⟩, ⟨ "Lockout", 3, 5, false, "", "", 40⟩, ⟨ "HalfLife", 3, 6, false, "", "", 48⟩, ⟨ "Idle", 3, 7, false, "", "", 56⟩, ⟨ "Absolute", 3, 8, false, "", "", 64⟩, ⟨ "Quarantine", 3, 9, false, "", "", 72⟩, ⟨ "TicketLife", 3, 10, false, "", "", 80⟩, ⟨ "Keep", 3, 11, false, "", "", 88⟩], size := 12, bytes := 96, zero := .agg #[.int .i64 0, .int .i64 0, .int .i64 0, .int .i64 0, .int .i64 0, .int .i64 0, .int .i64 0, .int .i64 0, .int .i64 0, .int .i64 0, .int .i64 0, .int .i64 0], cmp := true, eqOk := true }
def ti24 : TI := { desc := .slice 76, size := 1, bytes := 24, zero := .slice none 0 0, cmp := false, eqOk := false }
def ti25 : TI := { desc := .slice 78, size := 1, bytes := 24, zero := .slice none 0 0, cmp := false, eqOk := false }
def ti26 : TI := { desc := .slice 80, size := 1, bytes := 24, zero := .slice none 0 0, cmp := false, eqOk := false }
def ti27 : TI := { desc := .slice 3, size := 1, bytes := 24, zero := .slice none 0 0, cmp := false, eqOk := false }
def ti28 : TI := { desc := .struct #[⟨ "Boots", 3, 0, false, "", "", 0⟩, ⟨ "Epoch", 3, 1, false, "", "", 8⟩, ⟨ "Next", 3, 2, false, "", "", 16⟩, ⟨ "Users", 24, 3, false, "", "", 24⟩, ⟨ "Sessions", 25, 4, false, "", "", 48⟩, ⟨ "Addresses", 26, 5, false, "", "", 72⟩, ⟨ "Spent", 27, 6, false, "", "", 96⟩], size := 7, bytes := 120, zero := .agg #[.int .i64 0, .int .i64 0, .int .i64 0, .slice none 0 0, .slice none 0 0, .slice none 0 0, .slice none 0 0], cmp := false, eqOk := false }
def ti29 : TI := { desc := .struct #[⟨ "Boots", 3, 0, false, "", "", 0⟩, ⟨ "Epoch", 3, 1, false, "", "", 8⟩, ⟨ "Next", 3, 2, false, "", "", 16⟩, ⟨ "Users", 24, 3, false, "", "", 24⟩, ⟨ "Sessions", 25, 4, false, "", "", 48⟩, ⟨ "Addresses", 26, 5, false, "", "", 72⟩, ⟨ "Spent", 27, 6, false, "", "", 96⟩], size := 7, bytes := 120, zero := .agg #[.int .i64 0, .int .i64 0, .int .i64 0, .slice none 0 0, .slice none 0 0, .slice none 0 0, .slice none 0 0], cmp := false, eqOk := false }
def ti30 : TI := { desc := .slice 45, size := 1, bytes := 24, zero := .slice none 0 0, cmp := false, eqOk := false }
def ti31 : TI := { desc := .int .i64, size := 1, bytes := 8, zero := .int .i64 0, cmp := true, eqOk := false }
def ti32 : TI := { desc := .tuple #[29, 31], size := 1, bytes := 0, zero := .tuple #[.agg #[.int .i64 0, .int .i64 0, .int .i64 0, .slice none 0 0, .slice none 0 0, .slice none 0 0, .slice none 0 0], .int .i64 0], cmp := false, eqOk := false }
def ti33 : TI := { desc := .func #[3] #[29, 31] false, size := 1, bytes := 8, zero := .nilFunc, cmp := false, eqOk := false }
def ti34 : TI := { desc := .tuple #[29, 3], size := 1, bytes := 0, zero := .tuple #[.agg #[.int .i64 0, .int .i64 0, .int .i64 0, .slice none 0 0, .slice none 0 0, .slice none 0 0, .slice none 0 0], .int .i64 0], cmp := false, eqOk := false }
def ti35 : TI := { desc := .func #[3] #[29, 3] false, size := 1, bytes := 8, zero := .nilFunc, cmp := false, eqOk := false }
def ti36 : TI := { desc := .func #[30] #[30] false, size := 1, bytes := 8, zero := .nilFunc, cmp := false, eqOk := false }
def ti37 : TI := { desc := .func #[23, 30] #[29, 31] true, size := 1, bytes := 8, zero := .nilFunc, cmp := false, eqOk := false }
def ti38 : TI := { desc := .func #[23, 30] #[29, 3] true, size := 1, bytes := 8, zero := .nilFunc, cmp := false, eqOk := false }
def ti39 : TI := { desc := .func #[29, 29] #[4] false, size := 1, bytes := 8, zero := .nilFunc, cmp := false, eqOk := false }
def ti40 : TI := { desc := .func #[31] #[3] false, size := 1, bytes := 8, zero := .nilFunc, cmp := false, eqOk := false }
def ti41 : TI := { desc := .func #[30, 30] #[4] false, size := 1, bytes := 8, zero := .nilFunc, cmp := false, eqOk := false }
def ti42 : TI := { desc := .func #[29] #[29] false, size := 1, bytes := 8, zero := .nilFunc, cmp := false, eqOk := false }
def ti43 : TI := { desc := .func #[23, 29, 45] #[29, 31] false, size := 1, bytes := 8, zero := .nilFunc, cmp := false, eqOk := false }
def ti44 : TI := { desc := .struct #[⟨ "Kind", 3, 0, false, "", "", 0⟩, ⟨ "User", 3, 1, false, "", "", 8⟩, ⟨ "Session", 3, 2, false, "", "", 16⟩, ⟨ "Address", 3, 3, false, "", "", 24⟩, ⟨ "A", 3, 4, false, "", "", 32⟩, ⟨ "B", 3, 5, false, "", "", 40⟩, ⟨ "C", 3, 6, false, "", "", 48⟩, ⟨ "Tick", 3, 7, false, "", "", 56⟩], size := 8, bytes := 64, zero := .agg #[.int .i64 0, .int .i64 0, .int .i64 0, .int .i64 0, .int .i64 0, .int .i64 0, .int .i64 0, .int .i64 0], cmp := true, eqOk := true }
def ti45 : TI := { desc := .struct #[⟨ "Kind", 3, 0, false, "", "", 0⟩, ⟨ "User", 3, 1, false, "", "", 8⟩, ⟨ "Session", 3, 2, false, "", "", 16⟩, ⟨ "Address", 3, 3, false, "", "", 24⟩, ⟨ "A", 3, 4, false, "", "", 32⟩, ⟨ "B", 3, 5, false, "", "", 40⟩, ⟨ "C", 3, 6, false, "", "", 48⟩, ⟨ "Tick", 3, 7, false, "", "", 56⟩], size := 8, bytes := 64, zero := .agg #[.int .i64 0, .int .i64 0, .int .i64 0, .int .i64 0, .int .i64 0, .int .i64 0, .int .i64 0, .int .i64 0], cmp := true, eqOk := true }
def ti46 : TI := { desc := .func #[23, 29, 45] #[29, 3] false, size := 1, bytes := 8, zero := .nilFunc, cmp := false, eqOk := false }
def ti47 : TI := { desc := .func #[29] #[] false, size := 1, bytes := 8, zero := .nilFunc, cmp := false, eqOk := false }
def ti48 : TI := { desc := .func #[] #[4] false, size := 1, bytes := 8, zero := .nilFunc, cmp := false, eqOk := false }
def ti49 : TI := { desc := .func #[23, 29, 30, 3] #[4] false, size := 1, bytes := 8, zero := .nilFunc, cmp := false, eqOk := false }
def ti50 : TI := { desc := .tuple #[26, 31], size := 1, bytes := 0, zero := .tuple #[.slice none 0 0, .int .i64 0], cmp := false, eqOk := false }
def ti51 : TI := { desc := .func #[3] #[26, 31] false, size := 1, bytes := 8, zero := .nilFunc, cmp := false, eqOk := false }
def ti52 : TI := { desc := .tuple #[26, 3], size := 1, bytes := 0, zero := .tuple #[.slice none 0 0, .int .i64 0], cmp := false, eqOk := false }
def ti53 : TI := { desc := .func #[3] #[26, 3] false, size := 1, bytes := 8, zero := .nilFunc, cmp := false, eqOk := false }
def ti54 : TI := { desc := .func #[24, 24] #[4] false, size := 1, bytes := 8, zero := .nilFunc, cmp := false, eqOk := false }
def ti55 : TI := { desc := .func #[25, 25] #[4] false, size := 1, bytes := 8, zero := .nilFunc, cmp := false, eqOk := false }
def ti56 : TI := { desc := .func #[26, 26] #[4] false, size := 1, bytes := 8, zero := .nilFunc, cmp := false, eqOk := false }
def ti57 : TI := { desc := .func #[27, 27] #[4] false, size := 1, bytes := 8, zero := .nilFunc, cmp := false, eqOk := false }
def ti58 : TI := { desc := .func #[59] #[4] false, size := 1, bytes := 8, zero := .nilFunc, cmp := false, eqOk := false }
def ti59 : TI := { desc := .pointer 23, size := 1, bytes := 8, zero := .pointer none, cmp := true, eqOk := false }
def ti60 : TI := { desc := .func #[45] #[4] false, size := 1, bytes := 8, zero := .nilFunc, cmp := false, eqOk := false }
def ti61 : TI := { desc := .pointer 64, size := 1, bytes := 8, zero := .pointer none, cmp := true, eqOk := false }
def ti62 : TI := { desc := .pointer 45, size := 1, bytes := 8, zero := .pointer none, cmp := true, eqOk := false }
def ti63 : TI := { desc := .struct #[⟨ "c", 59, 0, false, "", "bastion/state", 0⟩, ⟨ "s", 29, 1, false, "", "bastion/state", 8⟩, ⟨ "e", 62, 8, false, "", "bastion/state", 128⟩], size := 9, bytes := 136, zero := .agg #[.pointer none, .int .i64 0, .int .i64 0, .int .i64 0, .slice none 0 0, .slice none 0 0, .slice none 0 0, .slice none 0 0, .pointer none], cmp := false, eqOk := false }
def ti64 : TI := { desc := .struct #[⟨ "c", 59, 0, false, "", "bastion/state", 0⟩, ⟨ "s", 29, 1, false, "", "bastion/state", 8⟩, ⟨ "e", 62, 8, false, "", "bastion/state", 128⟩], size := 9, bytes := 136, zero := .agg #[.pointer none, .int .i64 0, .int .i64 0, .int .i64 0, .slice none 0 0, .slice none 0 0, .slice none 0 0, .slice none 0 0, .pointer none], cmp := false, eqOk := false }
def ti65 : TI := { desc := .func #[23] #[4] false, size := 1, bytes := 8, zero := .nilFunc, cmp := false, eqOk := false }
def ti66 : TI := { desc := .tuple #[29, 4], size := 1, bytes := 0, zero := .tuple #[.agg #[.int .i64 0, .int .i64 0, .int .i64 0, .slice none 0 0, .slice none 0 0, .slice none 0 0, .slice none 0 0], .bool false], cmp := false, eqOk := false }
def ti67 : TI := { desc := .func #[23, 29, 45] #[29, 4] false, size := 1, bytes := 8, zero := .nilFunc, cmp := false, eqOk := false }
def ti68 : TI := { desc := .func #[24] #[] false, size := 1, bytes := 8, zero := .nilFunc, cmp := false, eqOk := false }
def ti69 : TI := { desc := .func #[25] #[] false, size := 1, bytes := 8, zero := .nilFunc, cmp := false, eqOk := false }
def ti70 : TI := { desc := .func #[26] #[] false, size := 1, bytes := 8, zero := .nilFunc, cmp := false, eqOk := false }
def ti71 : TI := { desc := .func #[27] #[] false, size := 1, bytes := 8, zero := .nilFunc, cmp := false, eqOk := false }
def ti72 : TI := { desc := .func #[] #[23] false, size := 1, bytes := 8, zero := .nilFunc, cmp := false, eqOk := false }
def ti73 : TI := { desc := .struct #[⟨ "Fails", 3, 0, false, "", "", 0⟩, ⟨ "Until", 3, 1, false, "", "", 8⟩], size := 2, bytes := 16, zero := .agg #[.int .i64 0, .int .i64 0], cmp := true, eqOk := true }
def ti74 : TI := { desc := .struct #[⟨ "Fails", 3, 0, false, "", "", 0⟩, ⟨ "Until", 3, 1, false, "", "", 8⟩], size := 2, bytes := 16, zero := .agg #[.int .i64 0, .int .i64 0], cmp := true, eqOk := true }
def ti75 : TI := { desc := .struct #[⟨ "User", 3, 0, false, "", "", 0⟩, ⟨ "Key", 3, 1, false, "", "", 8⟩, ⟨ "Secret", 3, 2, false, "", "", 16⟩, ⟨ "Quota", 3, 3, false, "", "", 24⟩, ⟨ "Used", 3, 4, false, "", "", 32⟩, ⟨ "Lock", 74, 5, false, "", "", 40⟩, ⟨ "Step", 3, 7, false, "", "", 56⟩, ⟨ "Gen", 3, 8, false, "", "", 64⟩], size := 9, bytes := 72, zero := .agg #[.int .i64 0, .int .i64 0, .int .i64 0, .int .i64 0, .int .i64 0, .int .i64 0, .int .i64 0, .int .i64 0, .int .i64 0], cmp := true, eqOk := true }
def ti76 : TI := { desc := .struct #[⟨ "User", 3, 0, false, "", "", 0⟩, ⟨ "Key", 3, 1, false, "", "", 8⟩, ⟨ "Secret", 3, 2, false, "", "", 16⟩, ⟨ "Quota", 3, 3, false, "", "", 24⟩, ⟨ "Used", 3, 4, false, "", "", 32⟩, ⟨ "Lock", 74, 5, false, "", "", 40⟩, ⟨ "Step", 3, 7, false, "", "", 56⟩, ⟨ "Gen", 3, 8, false, "", "", 64⟩], size := 9, bytes := 72, zero := .agg #[.int .i64 0, .int .i64 0, .int .i64 0, .int .i64 0, .int .i64 0, .int .i64 0, .int .i64 0, .int .i64 0, .int .i64 0], cmp := true, eqOk := true }
def ti77 : TI := { desc := .struct #[⟨ "Session", 3, 0, false, "", "", 0⟩, ⟨ "User", 3, 1, false, "", "", 8⟩, ⟨ "Address", 3, 2, false, "", "", 16⟩, ⟨ "Start", 3, 3, false, "", "", 24⟩], size := 4, bytes := 32, zero := .agg #[.int .i64 0, .int .i64 0, .int .i64 0, .int .i64 0], cmp := true, eqOk := true }
def ti78 : TI := { desc := .struct #[⟨ "Session", 3, 0, false, "", "", 0⟩, ⟨ "User", 3, 1, false, "", "", 8⟩, ⟨ "Address", 3, 2, false, "", "", 16⟩, ⟨ "Start", 3, 3, false, "", "", 24⟩], size := 4, bytes := 32, zero := .agg #[.int .i64 0, .int .i64 0, .int .i64 0, .int .i64 0], cmp := true, eqOk := true }
def ti79 : TI := { desc := .struct #[⟨ "Busy", 4, 0, false, "", "", 0⟩, ⟨ "Last", 3, 1, false, "", "", 8⟩, ⟨ "Until", 3, 2, false, "", "", 16⟩], size := 3, bytes := 24, zero := .agg #[.bool false, .int .i64 0, .int .i64 0], cmp := true, eqOk := true }
def ti80 : TI := { desc := .struct #[⟨ "Busy", 4, 0, false, "", "", 0⟩, ⟨ "Last", 3, 1, false, "", "", 8⟩, ⟨ "Until", 3, 2, false, "", "", 16⟩], size := 3, bytes := 24, zero := .agg #[.bool false, .int .i64 0, .int .i64 0], cmp := true, eqOk := true }
def ti81 : TI := { desc := .func #[26, 3] #[26] false, size := 1, bytes := 8, zero := .nilFunc, cmp := false, eqOk := false }
def ti82 : TI := { desc := .func #[3, 3, 3] #[4] false, size := 1, bytes := 8, zero := .nilFunc, cmp := false, eqOk := false }
def ti83 : TI := { desc := .func #[27] #[4] true, size := 1, bytes := 8, zero := .nilFunc, cmp := false, eqOk := false }
def ti84 : TI := { desc := .slice 86, size := 1, bytes := 24, zero := .slice none 0 0, cmp := false, eqOk := false }
def ti85 : TI := { desc := .func #[62] #[84] false, size := 1, bytes := 8, zero := .nilFunc, cmp := false, eqOk := false }
def ti86 : TI := { desc := .pointer 3, size := 1, bytes := 8, zero := .pointer none, cmp := true, eqOk := false }
def ti87 : TI := { desc := .func #[3] #[4] false, size := 1, bytes := 8, zero := .nilFunc, cmp := false, eqOk := false }
def ti88 : TI := { desc := .func #[62] #[45] false, size := 1, bytes := 8, zero := .nilFunc, cmp := false, eqOk := false }
def ti89 : TI := { desc := .func #[24] #[24] false, size := 1, bytes := 8, zero := .nilFunc, cmp := false, eqOk := false }
def ti90 : TI := { desc := .func #[25] #[25] false, size := 1, bytes := 8, zero := .nilFunc, cmp := false, eqOk := false }
def ti91 : TI := { desc := .func #[26] #[26] false, size := 1, bytes := 8, zero := .nilFunc, cmp := false, eqOk := false }
def ti92 : TI := { desc := .func #[27] #[27] false, size := 1, bytes := 8, zero := .nilFunc, cmp := false, eqOk := false }
def ti93 : TI := { desc := .func #[94] #[4] false, size := 1, bytes := 8, zero := .nilFunc, cmp := false, eqOk := false }
def ti94 : TI := { desc := .pointer 29, size := 1, bytes := 8, zero := .pointer none, cmp := true, eqOk := false }
def ti95 : TI := { desc := .func #[96] #[4] false, size := 1, bytes := 8, zero := .nilFunc, cmp := false, eqOk := false }
def ti96 : TI := { desc := .pointer 76, size := 1, bytes := 8, zero := .pointer none, cmp := true, eqOk := false }
def ti97 : TI := { desc := .func #[94, 3] #[96] false, size := 1, bytes := 8, zero := .nilFunc, cmp := false, eqOk := false }
def ti98 : TI := { desc := .tuple #[45, 4], size := 1, bytes := 0, zero := .tuple #[.agg #[.int .i64 0, .int .i64 0, .int .i64 0, .int .i64 0, .int .i64 0, .int .i64 0, .int .i64 0, .int .i64 0], .bool false], cmp := false, eqOk := false }
def ti99 : TI := { desc := .func #[45] #[45, 4] false, size := 1, bytes := 8, zero := .nilFunc, cmp := false, eqOk := false }
def ti100 : TI := { desc := .func #[29, 45] #[29, 4] false, size := 1, bytes := 8, zero := .nilFunc, cmp := false, eqOk := false }
def ti101 : TI := { desc := .func #[29, 3] #[4] false, size := 1, bytes := 8, zero := .nilFunc, cmp := false, eqOk := false }
def ti102 : TI := { desc := .func #[29, 3] #[3] false, size := 1, bytes := 8, zero := .nilFunc, cmp := false, eqOk := false }
def ti103 : TI := { desc := .func #[23, 29, 3, 45] #[29, 4] false, size := 1, bytes := 8, zero := .nilFunc, cmp := false, eqOk := false }
def ti104 : TI := { desc := .int .u64, size := 1, bytes := 8, zero := .int .u64 0, cmp := true, eqOk := false }
def ti105 : TI := { desc := .tuple #[104, 104], size := 1, bytes := 0, zero := .tuple #[.int .u64 0, .int .u64 0], cmp := false, eqOk := false }
def ti106 : TI := { desc := .func #[104, 104] #[104, 104] false, size := 1, bytes := 8, zero := .nilFunc, cmp := false, eqOk := false }
def ti107 : TI := { desc := .func #[3, 3] #[4] false, size := 1, bytes := 8, zero := .nilFunc, cmp := false, eqOk := false }
def ti108 : TI := { desc := .func #[86] #[4] false, size := 1, bytes := 8, zero := .nilFunc, cmp := false, eqOk := false }
def ti109 : TI := { desc := .func #[24, 110] #[3] false, size := 1, bytes := 8, zero := .nilFunc, cmp := false, eqOk := false }
def ti110 : TI := { desc := .func #[76] #[4] false, size := 1, bytes := 8, zero := .nilFunc, cmp := false, eqOk := false }
def ti111 : TI := { desc := .func #[24, 3, 24] #[24] true, size := 1, bytes := 8, zero := .nilFunc, cmp := false, eqOk := false }
def ti112 : TI := { desc := .func #[26, 3, 3] #[26, 31] false, size := 1, bytes := 8, zero := .nilFunc, cmp := false, eqOk := false }
def ti113 : TI := { desc := .func #[25, 114] #[3] false, size := 1, bytes := 8, zero := .nilFunc, cmp := false, eqOk := false }
def ti114 : TI := { desc := .func #[78] #[4] false, size := 1, bytes := 8, zero := .nilFunc, cmp := false, eqOk := false }
def ti115 : TI := { desc := .func #[25, 3, 3] #[25] false, size := 1, bytes := 8, zero := .nilFunc, cmp := false, eqOk := false }
def ti116 : TI := { desc := .func #[27, 3] #[4] false, size := 1, bytes := 8, zero := .nilFunc, cmp := false, eqOk := false }
def ti117 : TI := { desc := .tuple #[74, 31], size := 1, bytes := 0, zero := .tuple #[.agg #[.int .i64 0, .int .i64 0], .int .i64 0], cmp := false, eqOk := false }
def ti118 : TI := { desc := .func #[74, 3, 3, 3] #[74, 31] false, size := 1, bytes := 8, zero := .nilFunc, cmp := false, eqOk := false }
def ti119 : TI := { desc := .func #[26, 3, 3] #[26, 3] false, size := 1, bytes := 8, zero := .nilFunc, cmp := false, eqOk := false }
def ti120 : TI := { desc := .func #[3, 3] #[3] false, size := 1, bytes := 8, zero := .nilFunc, cmp := false, eqOk := false }
def ti121 : TI := { desc := .tuple #[74, 3], size := 1, bytes := 0, zero := .tuple #[.agg #[.int .i64 0, .int .i64 0], .int .i64 0], cmp := false, eqOk := false }
def ti122 : TI := { desc := .func #[74, 3, 3, 3] #[74, 3] false, size := 1, bytes := 8, zero := .nilFunc, cmp := false, eqOk := false }
def ti123 : TI := { desc := .int .u32, size := 1, bytes := 4, zero := .int .u32 0, cmp := true, eqOk := false }
def ti124 : TI := { desc := .tuple #[123, 123], size := 1, bytes := 0, zero := .tuple #[.int .u32 0, .int .u32 0], cmp := false, eqOk := false }
def ti125 : TI := { desc := .func #[123, 123] #[123, 123] false, size := 1, bytes := 8, zero := .nilFunc, cmp := false, eqOk := false }
def ti126 : TI := { desc := .int .u64, size := 1, bytes := 8, zero := .int .u64 0, cmp := true, eqOk := false }
def ti127 : TI := { desc := .tuple #[126, 126], size := 1, bytes := 0, zero := .tuple #[.int .u64 0, .int .u64 0], cmp := false, eqOk := false }
def ti128 : TI := { desc := .func #[126, 126] #[126, 126] false, size := 1, bytes := 8, zero := .nilFunc, cmp := false, eqOk := false }
def ti129 : TI := { desc := .func #[24, 3] #[] false, size := 1, bytes := 8, zero := .nilFunc, cmp := false, eqOk := false }
def ti130 : TI := { desc := .func #[26] #[4] false, size := 1, bytes := 8, zero := .nilFunc, cmp := false, eqOk := false }
def ti131 : TI := { desc := .func #[26, 3] #[4] false, size := 1, bytes := 8, zero := .nilFunc, cmp := false, eqOk := false }
def ti132 : TI := { desc := .func #[26, 3, 80] #[26] false, size := 1, bytes := 8, zero := .nilFunc, cmp := false, eqOk := false }
def ti133 : TI := { desc := .func #[27, 3] #[3] false, size := 1, bytes := 8, zero := .nilFunc, cmp := false, eqOk := false }
def ti134 : TI := { desc := .func #[74, 3] #[4] false, size := 1, bytes := 8, zero := .nilFunc, cmp := false, eqOk := false }
def ti135 : TI := { desc := .func #[80] #[4] false, size := 1, bytes := 8, zero := .nilFunc, cmp := false, eqOk := false }
def ti136 : TI := { desc := .func #[26, 135] #[4] false, size := 1, bytes := 8, zero := .nilFunc, cmp := false, eqOk := false }
def ti137 : TI := { desc := .func #[26, 135] #[3] false, size := 1, bytes := 8, zero := .nilFunc, cmp := false, eqOk := false }
def ti138 : TI := { desc := .func #[] #[9] false, size := 1, bytes := 8, zero := .nilFunc, cmp := false, eqOk := false }
def ti139 : TI := { desc := .struct #[⟨ "_interface", 17, 0, false, "", "runtime", 0⟩, ⟨ "concrete", 17, 1, false, "", "runtime", 8⟩, ⟨ "asserted", 17, 2, false, "", "runtime", 16⟩, ⟨ "missingMethod", 9, 3, false, "", "runtime", 24⟩], size := 4, bytes := 40, zero := .agg #[.pointer none, .pointer none, .pointer none, .string ⟨#[]⟩], cmp := true, eqOk := false }
def ti140 : TI := { desc := .struct #[⟨ "_interface", 17, 0, false, "", "runtime", 0⟩, ⟨ "concrete", 17, 1, false, "", "runtime", 8⟩, ⟨ "asserted", 17, 2, false, "", "runtime", 16⟩, ⟨ "missingMethod", 9, 3, false, "", "runtime", 24⟩], size := 4, bytes := 40, zero := .agg #[.pointer none, .pointer none, .pointer none, .string ⟨#[]⟩], cmp := true, eqOk := false }
def ti141 : TI := { desc := .array 0 16, size := 0, bytes := 0, zero := .agg #[], cmp := true, eqOk := false }
def ti142 : TI := { desc := .struct #[⟨ "_", 141, 0, false, "", "runtime", 0⟩], size := 0, bytes := 0, zero := .agg #[], cmp := true, eqOk := false }
def ti143 : TI := { desc := .struct #[⟨ "_", 141, 0, false, "", "runtime", 0⟩], size := 0, bytes := 0, zero := .agg #[], cmp := true, eqOk := false }
def ti144 : TI := { desc := .func #[] #[3] false, size := 1, bytes := 8, zero := .nilFunc, cmp := false, eqOk := false }
def ti145 : TI := { desc := .int .u8, size := 1, bytes := 1, zero := .int .u8 0, cmp := true, eqOk := false }
def ti146 : TI := { desc := .int .u8, size := 1, bytes := 1, zero := .int .u8 0, cmp := true, eqOk := false }
def ti147 : TI := { desc := .func #[153, 153] #[4] false, size := 1, bytes := 8, zero := .nilFunc, cmp := false, eqOk := false }
def ti148 : TI := { desc := .pointer 5, size := 1, bytes := 8, zero := .pointer none, cmp := true, eqOk := false }
def ti149 : TI := { desc := .int .i32, size := 1, bytes := 4, zero := .int .i32 0, cmp := true, eqOk := false }
def ti150 : TI := { desc := .int .i32, size := 1, bytes := 4, zero := .int .i32 0, cmp := true, eqOk := false }
def ti151 : TI := { desc := .struct #[⟨ "Size_", 12, 0, false, "", "", 0⟩, ⟨ "PtrBytes", 12, 1, false, "", "", 8⟩, ⟨ "Hash", 123, 2, false, "", "", 16⟩, ⟨ "TFlag", 145, 3, false, "", "", 20⟩, ⟨ "Align_", 5, 4, false, "", "", 21⟩, ⟨ "FieldAlign_", 5, 5, false, "", "", 22⟩, ⟨ "Kind_", 146, 6, false, "", "", 23⟩, ⟨ "Equal", 147, 7, false, "", "", 24⟩, ⟨ "GCData", 148, 8, false, "", "", 32⟩, ⟨ "Str", 149, 9, false, "", "", 40⟩, ⟨ "PtrToThis", 150, 10, false, "", "", 44⟩], size := 11, bytes := 48, zero := .agg #[.int .u64 0, .int .u64 0, .int .u32 0, .int .u8 0, .int .u8 0, .int .u8 0, .int .u8 0, .nilFunc, .pointer none, .int .i32 0, .int .i32 0], cmp := false, eqOk := false }
def ti152 : TI := { desc := .struct #[⟨ "Size_", 12, 0, false, "", "", 0⟩, ⟨ "PtrBytes", 12, 1, false, "", "", 8⟩, ⟨ "Hash", 123, 2, false, "", "", 16⟩, ⟨ "TFlag", 145, 3, false, "", "", 20⟩, ⟨ "Align_", 5, 4, false, "", "", 21⟩, ⟨ "FieldAlign_", 5, 5, false, "", "", 22⟩, ⟨ "Kind_", 146, 6, false, "", "", 23⟩, ⟨ "Equal", 147, 7, false, "", "", 24⟩, ⟨ "GCData", 148, 8, false, "", "", 32⟩, ⟨ "Str", 149, 9, false, "", "", 40⟩, ⟨ "PtrToThis", 150, 10, false, "", "", 44⟩], size := 11, bytes := 48, zero := .agg #[.int .u64 0, .int .u64 0, .int .u32 0, .int .u8 0, .int .u8 0, .int .u8 0, .int .u8 0, .nilFunc, .pointer none, .int .i32 0, .int .i32 0], cmp := false, eqOk := false }
def tys (t : Nat) : Option TI := (bif Nat.ble t 75 then (bif Nat.ble t 37 then (bif Nat.ble t 18 then (bif Nat.ble t 8 then (bif Nat.ble t 3 then (bif Nat.ble t 1 then (bif Nat.ble t 0 then (bif Nat.beq t 0 then some ti0 else none) else (bif Nat.beq t 1 then some ti1 else none)) else (bif Nat.ble t 2 then (bif Nat.beq t 2 then some ti2 else none) else (bif Nat.beq t 3 then some ti3 else none))) else (bif Nat.ble t 5 then (bif Nat.ble t 4 then (bif Nat.beq t 4 then some ti4 else none) else (bif Nat.beq t 5 then some ti5 else none)) else (bif Nat.ble t 6 then (bif Nat.beq t 6 then some ti6 else none) else (bif Nat.ble t 7 then (bif Nat.beq t 7 then some ti7 else none) else (bif Nat.beq t 8 then some ti8 else none))))) else (bif Nat.ble t 13 then (bif Nat.ble t 10 then (bif Nat.ble t 9 then (bif Nat.beq t 9 then some ti9 else none) else (bif Nat.beq t 10 then some ti10 else none)) else (bif Nat.ble t 11 then (bif Nat.beq t 11 then some ti11 else none) else (bif Nat.ble t 12 then (bif Nat.beq t 12 then some ti12 else none) else (bif Nat.beq t 13 then some ti13 else none)))) else (bif Nat.ble t 15 then (bif Nat.ble t 14 then (bif Nat.beq t 14 then some ti14 else none) else (bif Nat.beq t 15 then some ti15 else none)) else (bif Nat.ble t 16 then (bif Nat.beq t 16 then some ti16 else none) else (bif Nat.ble t 17 then (bif Nat.beq t 17 then some ti17 else none) else (bif Nat.beq t 18 then some ti18 else none)))))) else (bif Nat.ble t 27 then (bif Nat.ble t 22 then (bif Nat.ble t 20 then (bif Nat.ble t 19 then (bif Nat.beq t 19 then some ti19 else none) else (bif Nat.beq t 20 then some ti20 else none)) else (bif Nat.ble t 21 then (bif Nat.beq t 21 then some ti21 else none) else (bif Nat.beq t 22 then some ti22 else none))) else (bif Nat.ble t 24 then (bif Nat.ble t 23 then (bif Nat.beq t 23 then some ti23 else none) else (bif Nat.beq t 24 then some ti24 else none)) else (bif Nat.ble t 25 then (bif Nat.beq t 25 then some ti25 else none) else (bif Nat.ble t 26 then (bif Nat.beq t 26 then some ti26 else none) else (bif Nat.beq t 27 then some ti27 else none))))) else (bif Nat.ble t 32 then (bif Nat.ble t 29 then (bif Nat.ble t 28 then (bif Nat.beq t 28 then some ti28 else none) else (bif Nat.beq t 29 then some ti29 else none)) else (bif Nat.ble t 30 then (bif Nat.beq t 30 then some ti30 else none) else (bif Nat.ble t 31 then (bif Nat.beq t 31 then some ti31 else none) else (bif Nat.beq t 32 then some ti32 else none)))) else (bif Nat.ble t 34 then (bif Nat.ble t 33 then (bif Nat.beq t 33 then some ti33 else none) else (bif Nat.beq t 34 then some ti34 else none)) else (bif Nat.ble t 35 then (bif Nat.beq t 35 then some ti35 else none) else (bif Nat.ble t 36 then (bif Nat.beq t 36 then some ti36 else none) else (bif Nat.beq t 37 then some ti37 else none))))))) else (bif Nat.ble t 56 then (bif Nat.ble t 46 then (bif Nat.ble t 41 then (bif Nat.ble t 39 then (bif Nat.ble t 38 then (bif Nat.beq t 38 then some ti38 else none) else (bif Nat.beq t 39 then some ti39 else none)) else (bif Nat.ble t 40 then (bif Nat.beq t 40 then some ti40 else none) else (bif Nat.beq t 41 then some ti41 else none))) else (bif Nat.ble t 43 then (bif Nat.ble t 42 then (bif Nat.beq t 42 then some ti42 else none) else (bif Nat.beq t 43 then some ti43 else none)) else (bif Nat.ble t 44 then (bif Nat.beq t 44 then some ti44 else none) else (bif Nat.ble t 45 then (bif Nat.beq t 45 then some ti45 else none) else (bif Nat.beq t 46 then some ti46 else none))))) else (bif Nat.ble t 51 then (bif Nat.ble t 48 then (bif Nat.ble t 47 then (bif Nat.beq t 47 then some ti47 else none) else (bif Nat.beq t 48 then some ti48 else none)) else (bif Nat.ble t 49 then (bif Nat.beq t 49 then some ti49 else none) else (bif Nat.ble t 50 then (bif Nat.beq t 50 then some ti50 else none) else (bif Nat.beq t 51 then some ti51 else none)))) else (bif Nat.ble t 53 then (bif Nat.ble t 52 then (bif Nat.beq t 52 then some ti52 else none) else (bif Nat.beq t 53 then some ti53 else none)) else (bif Nat.ble t 54 then (bif Nat.beq t 54 then some ti54 else none) else (bif Nat.ble t 55 then (bif Nat.beq t 55 then some ti55 else none) else (bif Nat.beq t 56 then some ti56 else none)))))) else (bif Nat.ble t 65 then (bif Nat.ble t 60 then (bif Nat.ble t 58 then (bif Nat.ble t 57 then (bif Nat.beq t 57 then some ti57 else none) else (bif Nat.beq t 58 then some ti58 else none)) else (bif Nat.ble t 59 then (bif Nat.beq t 59 then some ti59 else none) else (bif Nat.beq t 60 then some ti60 else none))) else (bif Nat.ble t 62 then (bif Nat.ble t 61 then (bif Nat.beq t 61 then some ti61 else none) else (bif Nat.beq t 62 then some ti62 else none)) else (bif Nat.ble t 63 then (bif Nat.beq t 63 then some ti63 else none) else (bif Nat.ble t 64 then (bif Nat.beq t 64 then some ti64 else none) else (bif Nat.beq t 65 then some ti65 else none))))) else (bif Nat.ble t 70 then (bif Nat.ble t 67 then (bif Nat.ble t 66 then (bif Nat.beq t 66 then some ti66 else none) else (bif Nat.beq t 67 then some ti67 else none)) else (bif Nat.ble t 68 then (bif Nat.beq t 68 then some ti68 else none) else (bif Nat.ble t 69 then (bif Nat.beq t 69 then some ti69 else none) else (bif Nat.beq t 70 then some ti70 else none)))) else (bif Nat.ble t 72 then (bif Nat.ble t 71 then (bif Nat.beq t 71 then some ti71 else none) else (bif Nat.beq t 72 then some ti72 else none)) else (bif Nat.ble t 73 then (bif Nat.beq t 73 then some ti73 else none) else (bif Nat.ble t 74 then (bif Nat.beq t 74 then some ti74 else none) else (bif Nat.beq t 75 then some ti75 else none)))))))) else (bif Nat.ble t 113 then (bif Nat.ble t 94 then (bif Nat.ble t 84 then (bif Nat.ble t 79 then (bif Nat.ble t 77 then (bif Nat.ble t 76 then (bif Nat.beq t 76 then some ti76 else none) else (bif Nat.beq t 77 then some ti77 else none)) else (bif Nat.ble t 78 then (bif Nat.beq t 78 then some ti78 else none) else (bif Nat.beq t 79 then some ti79 else none))) else (bif Nat.ble t 81 then (bif Nat.ble t 80 then (bif Nat.beq t 80 then some ti80 else none) else (bif Nat.beq t 81 then some ti81 else none)) else (bif Nat.ble t 82 then (bif Nat.beq t 82 then some ti82 else none) else (bif Nat.ble t 83 then (bif Nat.beq t 83 then some ti83 else none) else (bif Nat.beq t 84 then some ti84 else none))))) else (bif Nat.ble t 89 then (bif Nat.ble t 86 then (bif Nat.ble t 85 then (bif Nat.beq t 85 then some ti85 else none) else (bif Nat.beq t 86 then some ti86 else none)) else (bif Nat.ble t 87 then (bif Nat.beq t 87 then some ti87 else none) else (bif Nat.ble t 88 then (bif Nat.beq t 88 then some ti88 else none) else (bif Nat.beq t 89 then some ti89 else none)))) else (bif Nat.ble t 91 then (bif Nat.ble t 90 then (bif Nat.beq t 90 then some ti90 else none) else (bif Nat.beq t 91 then some ti91 else none)) else (bif Nat.ble t 92 then (bif Nat.beq t 92 then some ti92 else none) else (bif Nat.ble t 93 then (bif Nat.beq t 93 then some ti93 else none) else (bif Nat.beq t 94 then some ti94 else none)))))) else (bif Nat.ble t 103 then (bif Nat.ble t 98 then (bif Nat.ble t 96 then (bif Nat.ble t 95 then (bif Nat.beq t 95 then some ti95 else none) else (bif Nat.beq t 96 then some ti96 else none)) else (bif Nat.ble t 97 then (bif Nat.beq t 97 then some ti97 else none) else (bif Nat.beq t 98 then some ti98 else none))) else (bif Nat.ble t 100 then (bif Nat.ble t 99 then (bif Nat.beq t 99 then some ti99 else none) else (bif Nat.beq t 100 then some ti100 else none)) else (bif Nat.ble t 101 then (bif Nat.beq t 101 then some ti101 else none) else (bif Nat.ble t 102 then (bif Nat.beq t 102 then some ti102 else none) else (bif Nat.beq t 103 then some ti103 else none))))) else (bif Nat.ble t 108 then (bif Nat.ble t 105 then (bif Nat.ble t 104 then (bif Nat.beq t 104 then some ti104 else none) else (bif Nat.beq t 105 then some ti105 else none)) else (bif Nat.ble t 106 then (bif Nat.beq t 106 then some ti106 else none) else (bif Nat.ble t 107 then (bif Nat.beq t 107 then some ti107 else none) else (bif Nat.beq t 108 then some ti108 else none)))) else (bif Nat.ble t 110 then (bif Nat.ble t 109 then (bif Nat.beq t 109 then some ti109 else none) else (bif Nat.beq t 110 then some ti110 else none)) else (bif Nat.ble t 111 then (bif Nat.beq t 111 then some ti111 else none) else (bif Nat.ble t 112 then (bif Nat.beq t 112 then some ti112 else none) else (bif Nat.beq t 113 then some ti113 else none))))))) else (bif Nat.ble t 132 then (bif Nat.ble t 122 then (bif Nat.ble t 117 then (bif Nat.ble t 115 then (bif Nat.ble t 114 then (bif Nat.beq t 114 then some ti114 else none) else (bif Nat.beq t 115 then some ti115 else none)) else (bif Nat.ble t 116 then (bif Nat.beq t 116 then some ti116 else none) else (bif Nat.beq t 117 then some ti117 else none))) else (bif Nat.ble t 119 then (bif Nat.ble t 118 then (bif Nat.beq t 118 then some ti118 else none) else (bif Nat.beq t 119 then some ti119 else none)) else (bif Nat.ble t 120 then (bif Nat.beq t 120 then some ti120 else none) else (bif Nat.ble t 121 then (bif Nat.beq t 121 then some ti121 else none) else (bif Nat.beq t 122 then some ti122 else none))))) else (bif Nat.ble t 127 then (bif Nat.ble t 124 then (bif Nat.ble t 123 then (bif Nat.beq t 123 then some ti123 else none) else (bif Nat.beq t 124 then some ti124 else none)) else (bif Nat.ble t 125 then (bif Nat.beq t 125 then some ti125 else none) else (bif Nat.ble t 126 then (bif Nat.beq t 126 then some ti126 else none) else (bif Nat.beq t 127 then some ti127 else none)))) else (bif Nat.ble t 129 then (bif Nat.ble t 128 then (bif Nat.beq t 128 then some ti128 else none) else (bif Nat.beq t 129 then some ti129 else none)) else (bif Nat.ble t 130 then (bif Nat.beq t 130 then some ti130 else none) else (bif Nat.ble t 131 then (bif Nat.beq t 131 then some ti131 else none) else (bif Nat.beq t 132 then some ti132 else none)))))) else (bif Nat.ble t 142 then (bif Nat.ble t 137 then (bif Nat.ble t 134 then (bif Nat.ble t 133 then (bif Nat.beq t 133 then some ti133 else none) else (bif Nat.beq t 134 then some ti134 else none)) else (bif Nat.ble t 135 then (bif Nat.beq t 135 then some ti135 else none) else (bif Nat.ble t 136 then (bif Nat.beq t 136 then some ti136 else none) else (bif Nat.beq t 137 then some ti137 else none)))) else (bif Nat.ble t 139 then (bif Nat.ble t 138 then (bif Nat.beq t 138 then some ti138 else none) else (bif Nat.beq t 139 then some ti139 else none)) else (bif Nat.ble t 140 then (bif Nat.beq t 140 then some ti140 else none) else (bif Nat.ble t 141 then (bif Nat.beq t 141 then some ti141 else none) else (bif Nat.beq t 142 then some ti142 else none))))) else (bif Nat.ble t 147 then (bif Nat.ble t 144 then (bif Nat.ble t 143 then (bif Nat.beq t 143 then some ti143 else none) else (bif Nat.beq t 144 then some ti144 else none)) else (bif Nat.ble t 145 then (bif Nat.beq t 145 then some ti145 else none) else (bif Nat.ble t 146 then (bif Nat.beq t 146 then some ti146 else none) else (bif Nat.beq t 147 then some ti147 else none)))) else (bif Nat.ble t 149 then (bif Nat.ble t 148 then (bif Nat.beq t 148 then some ti148 else none) else (bif Nat.beq t 149 then some ti149 else none)) else (bif Nat.ble t 150 then (bif Nat.beq t 150 then some ti150 else none) else (bif Nat.ble t 151 then (bif Nat.beq t 151 then some ti151 else none) else (bif Nat.beq t 152 then some ti152 else none)))))))))
theorem one_0 : One Tryz.prog 0 ti0 := ⟨by kernel_rfl, by kernel_rfl, fun _ => vrel_tuple lrel_nil, (fun h => by cases h), rfl⟩
theorem one_1 : One Tryz.prog 1 ti1 := ⟨by kernel_rfl, by kernel_rfl, fun _ => .nilFunc, (fun h => by cases h), rfl⟩
theorem one_2 : One Tryz.prog 2 ti2 := ⟨by kernel_rfl, by kernel_rfl, fun _ => .int _ _, (fun h => by cases h), rfl⟩
theorem one_3 : One Tryz.prog 3 ti3 := ⟨by kernel_rfl, by kernel_rfl, fun _ => .int _ _, (fun h => by cases h), rfl⟩
theorem one_4 : One Tryz.prog 4 ti4 := ⟨by kernel_rfl, by kernel_rfl, fun _ => .bool _, (fun h => by cases h), rfl⟩
theorem one_5 : One Tryz.prog 5 ti5 := ⟨by kernel_rfl, by kernel_rfl, fun _ => .int _ _, (fun h => by cases h), rfl⟩
theorem one_6 : One Tryz.prog 6 ti6 := ⟨by kernel_rfl, by kernel_rfl, fun _ => .int _ _, (fun h => by cases h), rfl⟩
theorem one_7 : One Tryz.prog 7 ti7 := ⟨by kernel_rfl, by kernel_rfl, fun _ => vrel_agg (lrel_cons (.int _ _) (lrel_cons (.int _ _) (lrel_cons (.bool _) (lrel_cons (.int _ _) lrel_nil)))), (fun h => by cases h), rfl⟩
theorem one_8 : One Tryz.prog 8 ti8 := ⟨by kernel_rfl, by kernel_rfl, fun _ => vrel_agg (lrel_cons (.int _ _) (lrel_cons (.int _ _) (lrel_cons (.bool _) (lrel_cons (.int _ _) lrel_nil)))), (fun h => by cases h), rfl⟩
theorem one_9 : One Tryz.prog 9 ti9 := ⟨by kernel_rfl, by kernel_rfl, fun _ => .string _, (fun h => by cases h), rfl⟩
theorem one_10 : One Tryz.prog 10 ti10 := ⟨by kernel_rfl, by kernel_rfl, fun _ => .string _, (fun h => by cases h), rfl⟩
theorem one_11 : One Tryz.prog 11 ti11 := ⟨by kernel_rfl, by kernel_rfl, fun _ => .string _, (fun h => by cases h), rfl⟩
theorem one_12 : One Tryz.prog 12 ti12 := ⟨by kernel_rfl, by kernel_rfl, fun _ => .int _ _, (fun h => by cases h), rfl⟩
theorem one_13 : One Tryz.prog 13 ti13 := ⟨by kernel_rfl, by kernel_rfl, fun _ => vrel_agg (lrel_cons (.string _) (lrel_cons (.int _ _) lrel_nil)), (fun h => by cases h), rfl⟩
theorem one_14 : One Tryz.prog 14 ti14 := ⟨by kernel_rfl, by kernel_rfl, fun _ => vrel_agg (lrel_cons (.string _) (lrel_cons (.int _ _) lrel_nil)), (fun h => by cases h), rfl⟩
theorem one_15 : One Tryz.prog 15 ti15 := ⟨by kernel_rfl, by kernel_rfl, fun _ => .nilPtr, (fun h => by cases h), rfl⟩
theorem one_16 : One Tryz.prog 16 ti16 := ⟨by kernel_rfl, by kernel_rfl, fun _ => .nilPtr, (fun h => by cases h), rfl⟩
theorem one_17 : One Tryz.prog 17 ti17 := ⟨by kernel_rfl, by kernel_rfl, fun _ => .nilPtr, (fun h => by cases h), rfl⟩
theorem one_18 : One Tryz.prog 18 ti18 := ⟨by kernel_rfl, by kernel_rfl, fun _ => vrel_agg (lrel_cons (.nilPtr) lrel_nil), (fun h => by cases h), rfl⟩
theorem one_19 : One Tryz.prog 19 ti19 := ⟨by kernel_rfl, by kernel_rfl, fun _ => vrel_agg (lrel_cons (.nilPtr) lrel_nil), (fun h => by cases h), rfl⟩
theorem one_20 : One Tryz.prog 20 ti20 := ⟨by kernel_rfl, by kernel_rfl, fun _ => .nilIface, (fun h => by cases h), rfl⟩
theorem one_21 : One Tryz.prog 21 ti21 := ⟨by kernel_rfl, by kernel_rfl, fun _ => .int _ _, (fun h => by cases h), rfl⟩
theorem one_22 : One Tryz.prog 22 ti22 := ⟨by kernel_rfl, by kernel_rfl, fun _ => vrel_agg (lrel_cons (.int _ _) (lrel_cons (.int _ _) (lrel_cons (.int _ _) (lrel_cons (.int _ _) (lrel_cons (.int _ _) (lrel_cons (.int _ _) (lrel_cons (.int _ _) (lrel_cons (.int _ _) (lrel_cons (.int _ _) (lrel_cons (.int _ _) (lrel_cons (.int _ _) (lrel_cons (.int _ _) lrel_nil)))))))))))), (fun _ => ⟨by kernel_rfl, by kernel_rfl⟩), rfl⟩
theorem one_23 : One Tryz.prog 23 ti23 := ⟨by kernel_rfl, by kernel_rfl, fun _ => vrel_agg (lrel_cons (.int _ _) (lrel_cons (.int _ _) (lrel_cons (.int _ _) (lrel_cons (.int _ _) (lrel_cons (.int _ _) (lrel_cons (.int _ _) (lrel_cons (.int _ _) (lrel_cons (.int _ _) (lrel_cons (.int _ _) (lrel_cons (.int _ _) (lrel_cons (.int _ _) (lrel_cons (.int _ _) lrel_nil)))))))))))), (fun _ => ⟨by kernel_rfl, by kernel_rfl⟩), rfl⟩
theorem one_24 : One Tryz.prog 24 ti24 := ⟨by kernel_rfl, by kernel_rfl, fun _ => .nilSlice, (fun h => by cases h), rfl⟩
theorem one_25 : One Tryz.prog 25 ti25 := ⟨by kernel_rfl, by kernel_rfl, fun _ => .nilSlice, (fun h => by cases h), rfl⟩
theorem one_26 : One Tryz.prog 26 ti26 := ⟨by kernel_rfl, by kernel_rfl, fun _ => .nilSlice, (fun h => by cases h), rfl⟩
theorem one_27 : One Tryz.prog 27 ti27 := ⟨by kernel_rfl, by kernel_rfl, fun _ => .nilSlice, (fun h => by cases h), rfl⟩
theorem one_28 : One Tryz.prog 28 ti28 := ⟨by kernel_rfl, by kernel_rfl, fun _ => vrel_agg (lrel_cons (.int _ _) (lrel_cons (.int _ _) (lrel_cons (.int _ _) (lrel_cons (.nilSlice) (lrel_cons (.nilSlice) (lrel_cons (.nilSlice) (lrel_cons (.nilSlice) lrel_nil))))))), (fun h => by cases h), rfl⟩
theorem one_29 : One Tryz.prog 29 ti29 := ⟨by kernel_rfl, by kernel_rfl, fun _ => vrel_agg (lrel_cons (.int _ _) (lrel_cons (.int _ _) (lrel_cons (.int _ _) (lrel_cons (.nilSlice) (lrel_cons (.nilSlice) (lrel_cons (.nilSlice) (lrel_cons (.nilSlice) lrel_nil))))))), (fun h => by cases h), rfl⟩
theorem one_30 : One Tryz.prog 30 ti30 := ⟨by kernel_rfl, by kernel_rfl, fun _ => .nilSlice, (fun h => by cases h), rfl⟩
theorem one_31 : One Tryz.prog 31 ti31 := ⟨by kernel_rfl, by kernel_rfl, fun _ => .int _ _, (fun h => by cases h), rfl⟩
theorem one_32 : One Tryz.prog 32 ti32 := ⟨by kernel_rfl, by kernel_rfl, fun _ => vrel_tuple (lrel_cons (vrel_agg (lrel_cons (.int _ _) (lrel_cons (.int _ _) (lrel_cons (.int _ _) (lrel_cons (.nilSlice) (lrel_cons (.nilSlice) (lrel_cons (.nilSlice) (lrel_cons (.nilSlice) lrel_nil)))))))) (lrel_cons (.int _ _) lrel_nil)), (fun h => by cases h), rfl⟩
theorem one_33 : One Tryz.prog 33 ti33 := ⟨by kernel_rfl, by kernel_rfl, fun _ => .nilFunc, (fun h => by cases h), rfl⟩
theorem one_34 : One Tryz.prog 34 ti34 := ⟨by kernel_rfl, by kernel_rfl, fun _ => vrel_tuple (lrel_cons (vrel_agg (lrel_cons (.int _ _) (lrel_cons (.int _ _) (lrel_cons (.int _ _) (lrel_cons (.nilSlice) (lrel_cons (.nilSlice) (lrel_cons (.nilSlice) (lrel_cons (.nilSlice) lrel_nil)))))))) (lrel_cons (.int _ _) lrel_nil)), (fun h => by cases h), rfl⟩
theorem one_35 : One Tryz.prog 35 ti35 := ⟨by kernel_rfl, by kernel_rfl, fun _ => .nilFunc, (fun h => by cases h), rfl⟩
theorem one_36 : One Tryz.prog 36 ti36 := ⟨by kernel_rfl, by kernel_rfl, fun _ => .nilFunc, (fun h => by cases h), rfl⟩
theorem one_37 : One Tryz.prog 37 ti37 := ⟨by kernel_rfl, by kernel_rfl, fun _ => .nilFunc, (fun h => by cases h), rfl⟩
theorem one_38 : One Tryz.prog 38 ti38 := ⟨by kernel_rfl, by kernel_rfl, fun _ => .nilFunc, (fun h => by cases h), rfl⟩
theorem one_39 : One Tryz.prog 39 ti39 := ⟨by kernel_rfl, by kernel_rfl, fun _ => .nilFunc, (fun h => by cases h), rfl⟩
theorem one_40 : One Tryz.prog 40 ti40 := ⟨by kernel_rfl, by kernel_rfl, fun _ => .nilFunc, (fun h => by cases h), rfl⟩
theorem one_41 : One Tryz.prog 41 ti41 := ⟨by kernel_rfl, by kernel_rfl, fun _ => .nilFunc, (fun h => by cases h), rfl⟩
theorem one_42 : One Tryz.prog 42 ti42 := ⟨by kernel_rfl, by kernel_rfl, fun _ => .nilFunc, (fun h => by cases h), rfl⟩
theorem one_43 : One Tryz.prog 43 ti43 := ⟨by kernel_rfl, by kernel_rfl, fun _ => .nilFunc, (fun h => by cases h), rfl⟩
theorem one_44 : One Tryz.prog 44 ti44 := ⟨by kernel_rfl, by kernel_rfl, fun _ => vrel_agg (lrel_cons (.int _ _) (lrel_cons (.int _ _) (lrel_cons (.int _ _) (lrel_cons (.int _ _) (lrel_cons (.int _ _) (lrel_cons (.int _ _) (lrel_cons (.int _ _) (lrel_cons (.int _ _) lrel_nil)))))))), (fun _ => ⟨by kernel_rfl, by kernel_rfl⟩), rfl⟩
theorem one_45 : One Tryz.prog 45 ti45 := ⟨by kernel_rfl, by kernel_rfl, fun _ => vrel_agg (lrel_cons (.int _ _) (lrel_cons (.int _ _) (lrel_cons (.int _ _) (lrel_cons (.int _ _) (lrel_cons (.int _ _) (lrel_cons (.int _ _) (lrel_cons (.int _ _) (lrel_cons (.int _ _) lrel_nil)))))))), (fun _ => ⟨by kernel_rfl, by kernel_rfl⟩), rfl⟩
theorem one_46 : One Tryz.prog 46 ti46 := ⟨by kernel_rfl, by kernel_rfl, fun _ => .nilFunc, (fun h => by cases h), rfl⟩
theorem one_47 : One Tryz.prog 47 ti47 := ⟨by kernel_rfl, by kernel_rfl, fun _ => .nilFunc, (fun h => by cases h), rfl⟩
theorem one_48 : One Tryz.prog 48 ti48 := ⟨by kernel_rfl, by kernel_rfl, fun _ => .nilFunc, (fun h => by cases h), rfl⟩
theorem one_49 : One Tryz.prog 49 ti49 := ⟨by kernel_rfl, by kernel_rfl, fun _ => .nilFunc, (fun h => by cases h), rfl⟩
theorem one_50 : One Tryz.prog 50 ti50 := ⟨by kernel_rfl, by kernel_rfl, fun _ => vrel_tuple (lrel_cons (.nilSlice) (lrel_cons (.int _ _) lrel_nil)), (fun h => by cases h), rfl⟩
theorem one_51 : One Tryz.prog 51 ti51 := ⟨by kernel_rfl, by kernel_rfl, fun _ => .nilFunc, (fun h => by cases h), rfl⟩
theorem one_52 : One Tryz.prog 52 ti52 := ⟨by kernel_rfl, by kernel_rfl, fun _ => vrel_tuple (lrel_cons (.nilSlice) (lrel_cons (.int _ _) lrel_nil)), (fun h => by cases h), rfl⟩
theorem one_53 : One Tryz.prog 53 ti53 := ⟨by kernel_rfl, by kernel_rfl, fun _ => .nilFunc, (fun h => by cases h), rfl⟩
theorem one_54 : One Tryz.prog 54 ti54 := ⟨by kernel_rfl, by kernel_rfl, fun _ => .nilFunc, (fun h => by cases h), rfl⟩
theorem one_55 : One Tryz.prog 55 ti55 := ⟨by kernel_rfl, by kernel_rfl, fun _ => .nilFunc, (fun h => by cases h), rfl⟩
theorem one_56 : One Tryz.prog 56 ti56 := ⟨by kernel_rfl, by kernel_rfl, fun _ => .nilFunc, (fun h => by cases h), rfl⟩
theorem one_57 : One Tryz.prog 57 ti57 := ⟨by kernel_rfl, by kernel_rfl, fun _ => .nilFunc, (fun h => by cases h), rfl⟩
theorem one_58 : One Tryz.prog 58 ti58 := ⟨by kernel_rfl, by kernel_rfl, fun _ => .nilFunc, (fun h => by cases h), rfl⟩
theorem one_59 : One Tryz.prog 59 ti59 := ⟨by kernel_rfl, by kernel_rfl, fun _ => .nilPtr, (fun h => by cases h), rfl⟩
theorem one_60 : One Tryz.prog 60 ti60 := ⟨by kernel_rfl, by kernel_rfl, fun _ => .nilFunc, (fun h => by cases h), rfl⟩
theorem one_61 : One Tryz.prog 61 ti61 := ⟨by kernel_rfl, by kernel_rfl, fun _ => .nilPtr, (fun h => by cases h), rfl⟩
theorem one_62 : One Tryz.prog 62 ti62 := ⟨by kernel_rfl, by kernel_rfl, fun _ => .nilPtr, (fun h => by cases h), rfl⟩
theorem one_63 : One Tryz.prog 63 ti63 := ⟨by kernel_rfl, by kernel_rfl, fun _ => vrel_agg (lrel_cons (.nilPtr) (lrel_cons (.int _ _) (lrel_cons (.int _ _) (lrel_cons (.int _ _) (lrel_cons (.nilSlice) (lrel_cons (.nilSlice) (lrel_cons (.nilSlice) (lrel_cons (.nilSlice) (lrel_cons (.nilPtr) lrel_nil))))))))), (fun h => by cases h), rfl⟩
theorem one_64 : One Tryz.prog 64 ti64 := ⟨by kernel_rfl, by kernel_rfl, fun _ => vrel_agg (lrel_cons (.nilPtr) (lrel_cons (.int _ _) (lrel_cons (.int _ _) (lrel_cons (.int _ _) (lrel_cons (.nilSlice) (lrel_cons (.nilSlice) (lrel_cons (.nilSlice) (lrel_cons (.nilSlice) (lrel_cons (.nilPtr) lrel_nil))))))))), (fun h => by cases h), rfl⟩
theorem one_65 : One Tryz.prog 65 ti65 := ⟨by kernel_rfl, by kernel_rfl, fun _ => .nilFunc, (fun h => by cases h), rfl⟩
theorem one_66 : One Tryz.prog 66 ti66 := ⟨by kernel_rfl, by kernel_rfl, fun _ => vrel_tuple (lrel_cons (vrel_agg (lrel_cons (.int _ _) (lrel_cons (.int _ _) (lrel_cons (.int _ _) (lrel_cons (.nilSlice) (lrel_cons (.nilSlice) (lrel_cons (.nilSlice) (lrel_cons (.nilSlice) lrel_nil)))))))) (lrel_cons (.bool _) lrel_nil)), (fun h => by cases h), rfl⟩
theorem one_67 : One Tryz.prog 67 ti67 := ⟨by kernel_rfl, by kernel_rfl, fun _ => .nilFunc, (fun h => by cases h), rfl⟩
theorem one_68 : One Tryz.prog 68 ti68 := ⟨by kernel_rfl, by kernel_rfl, fun _ => .nilFunc, (fun h => by cases h), rfl⟩
theorem one_69 : One Tryz.prog 69 ti69 := ⟨by kernel_rfl, by kernel_rfl, fun _ => .nilFunc, (fun h => by cases h), rfl⟩
theorem one_70 : One Tryz.prog 70 ti70 := ⟨by kernel_rfl, by kernel_rfl, fun _ => .nilFunc, (fun h => by cases h), rfl⟩
theorem one_71 : One Tryz.prog 71 ti71 := ⟨by kernel_rfl, by kernel_rfl, fun _ => .nilFunc, (fun h => by cases h), rfl⟩
theorem one_72 : One Tryz.prog 72 ti72 := ⟨by kernel_rfl, by kernel_rfl, fun _ => .nilFunc, (fun h => by cases h), rfl⟩
theorem one_73 : One Tryz.prog 73 ti73 := ⟨by kernel_rfl, by kernel_rfl, fun _ => vrel_agg (lrel_cons (.int _ _) (lrel_cons (.int _ _) lrel_nil)), (fun _ => ⟨by kernel_rfl, by kernel_rfl⟩), rfl⟩
theorem one_74 : One Tryz.prog 74 ti74 := ⟨by kernel_rfl, by kernel_rfl, fun _ => vrel_agg (lrel_cons (.int _ _) (lrel_cons (.int _ _) lrel_nil)), (fun _ => ⟨by kernel_rfl, by kernel_rfl⟩), rfl⟩
theorem one_75 : One Tryz.prog 75 ti75 := ⟨by kernel_rfl, by kernel_rfl, fun _ => vrel_agg (lrel_cons (.int _ _) (lrel_cons (.int _ _) (lrel_cons (.int _ _) (lrel_cons (.int _ _) (lrel_cons (.int _ _) (lrel_cons (.int _ _) (lrel_cons (.int _ _) (lrel_cons (.int _ _) (lrel_cons (.int _ _) lrel_nil))))))))), (fun _ => ⟨by kernel_rfl, by kernel_rfl⟩), rfl⟩
theorem one_76 : One Tryz.prog 76 ti76 := ⟨by kernel_rfl, by kernel_rfl, fun _ => vrel_agg (lrel_cons (.int _ _) (lrel_cons (.int _ _) (lrel_cons (.int _ _) (lrel_cons (.int _ _) (lrel_cons (.int _ _) (lrel_cons (.int _ _) (lrel_cons (.int _ _) (lrel_cons (.int _ _) (lrel_cons (.int _ _) lrel_nil))))))))), (fun _ => ⟨by kernel_rfl, by kernel_rfl⟩), rfl⟩
theorem one_77 : One Tryz.prog 77 ti77 := ⟨by kernel_rfl, by kernel_rfl, fun _ => vrel_agg (lrel_cons (.int _ _) (lrel_cons (.int _ _) (lrel_cons (.int _ _) (lrel_cons (.int _ _) lrel_nil)))), (fun _ => ⟨by kernel_rfl, by kernel_rfl⟩), rfl⟩
theorem one_78 : One Tryz.prog 78 ti78 := ⟨by kernel_rfl, by kernel_rfl, fun _ => vrel_agg (lrel_cons (.int _ _) (lrel_cons (.int _ _) (lrel_cons (.int _ _) (lrel_cons (.int _ _) lrel_nil)))), (fun _ => ⟨by kernel_rfl, by kernel_rfl⟩), rfl⟩
theorem one_79 : One Tryz.prog 79 ti79 := ⟨by kernel_rfl, by kernel_rfl, fun _ => vrel_agg (lrel_cons (.bool _) (lrel_cons (.int _ _) (lrel_cons (.int _ _) lrel_nil))), (fun _ => ⟨by kernel_rfl, by kernel_rfl⟩), rfl⟩
theorem one_80 : One Tryz.prog 80 ti80 := ⟨by kernel_rfl, by kernel_rfl, fun _ => vrel_agg (lrel_cons (.bool _) (lrel_cons (.int _ _) (lrel_cons (.int _ _) lrel_nil))), (fun _ => ⟨by kernel_rfl, by kernel_rfl⟩), rfl⟩
theorem one_81 : One Tryz.prog 81 ti81 := ⟨by kernel_rfl, by kernel_rfl, fun _ => .nilFunc, (fun h => by cases h), rfl⟩
theorem one_82 : One Tryz.prog 82 ti82 := ⟨by kernel_rfl, by kernel_rfl, fun _ => .nilFunc, (fun h => by cases h), rfl⟩
theorem one_83 : One Tryz.prog 83 ti83 := ⟨by kernel_rfl, by kernel_rfl, fun _ => .nilFunc, (fun h => by cases h), rfl⟩
theorem one_84 : One Tryz.prog 84 ti84 := ⟨by kernel_rfl, by kernel_rfl, fun _ => .nilSlice, (fun h => by cases h), rfl⟩
theorem one_85 : One Tryz.prog 85 ti85 := ⟨by kernel_rfl, by kernel_rfl, fun _ => .nilFunc, (fun h => by cases h), rfl⟩
theorem one_86 : One Tryz.prog 86 ti86 := ⟨by kernel_rfl, by kernel_rfl, fun _ => .nilPtr, (fun h => by cases h), rfl⟩
theorem one_87 : One Tryz.prog 87 ti87 := ⟨by kernel_rfl, by kernel_rfl, fun _ => .nilFunc, (fun h => by cases h), rfl⟩
theorem one_88 : One Tryz.prog 88 ti88 := ⟨by kernel_rfl, by kernel_rfl, fun _ => .nilFunc, (fun h => by cases h), rfl⟩
theorem one_89 : One Tryz.prog 89 ti89 := ⟨by kernel_rfl, by kernel_rfl, fun _ => .nilFunc, (fun h => by cases h), rfl⟩
theorem one_90 : One Tryz.prog 90 ti90 := ⟨by kernel_rfl, by kernel_rfl, fun _ => .nilFunc, (fun h => by cases h), rfl⟩
theorem one_91 : One Tryz.prog 91 ti91 := ⟨by kernel_rfl, by kernel_rfl, fun _ => .nilFunc, (fun h => by cases h), rfl⟩
theorem one_92 : One Tryz.prog 92 ti92 := ⟨by kernel_rfl, by kernel_rfl, fun _ => .nilFunc, (fun h => by cases h), rfl⟩
theorem one_93 : One Tryz.prog 93 ti93 := ⟨by kernel_rfl, by kernel_rfl, fun _ => .nilFunc, (fun h => by cases h), rfl⟩
theorem one_94 : One Tryz.prog 94 ti94 := ⟨by kernel_rfl, by kernel_rfl, fun _ => .nilPtr, (fun h => by cases h), rfl⟩
theorem one_95 : One Tryz.prog 95 ti95 := ⟨by kernel_rfl, by kernel_rfl, fun _ => .nilFunc, (fun h => by cases h), rfl⟩
theorem one_96 : One Tryz.prog 96 ti96 := ⟨by kernel_rfl, by kernel_rfl, fun _ => .nilPtr, (fun h => by cases h), rfl⟩
theorem one_97 : One Tryz.prog 97 ti97 := ⟨by kernel_rfl, by kernel_rfl, fun _ => .nilFunc, (fun h => by cases h), rfl⟩
theorem one_98 : One Tryz.prog 98 ti98 := ⟨by kernel_rfl, by kernel_rfl, fun _ => vrel_tuple (lrel_cons (vrel_agg (lrel_cons (.int _ _) (lrel_cons (.int _ _) (lrel_cons (.int _ _) (lrel_cons (.int _ _) (lrel_cons (.int _ _) (lrel_cons (.int _ _) (lrel_cons (.int _ _) (lrel_cons (.int _ _) lrel_nil))))))))) (lrel_cons (.bool _) lrel_nil)), (fun h => by cases h), rfl⟩
theorem one_99 : One Tryz.prog 99 ti99 := ⟨by kernel_rfl, by kernel_rfl, fun _ => .nilFunc, (fun h => by cases h), rfl⟩
theorem one_100 : One Tryz.prog 100 ti100 := ⟨by kernel_rfl, by kernel_rfl, fun _ => .nilFunc, (fun h => by cases h), rfl⟩
theorem one_101 : One Tryz.prog 101 ti101 := ⟨by kernel_rfl, by kernel_rfl, fun _ => .nilFunc, (fun h => by cases h), rfl⟩
theorem one_102 : One Tryz.prog 102 ti102 := ⟨by kernel_rfl, by kernel_rfl, fun _ => .nilFunc, (fun h => by cases h), rfl⟩
theorem one_103 : One Tryz.prog 103 ti103 := ⟨by kernel_rfl, by kernel_rfl, fun _ => .nilFunc, (fun h => by cases h), rfl⟩
theorem one_104 : One Tryz.prog 104 ti104 := ⟨by kernel_rfl, by kernel_rfl, fun _ => .int _ _, (fun h => by cases h), rfl⟩
theorem one_105 : One Tryz.prog 105 ti105 := ⟨by kernel_rfl, by kernel_rfl, fun _ => vrel_tuple (lrel_cons (.int _ _) (lrel_cons (.int _ _) lrel_nil)), (fun h => by cases h), rfl⟩
theorem one_106 : One Tryz.prog 106 ti106 := ⟨by kernel_rfl, by kernel_rfl, fun _ => .nilFunc, (fun h => by cases h), rfl⟩
theorem one_107 : One Tryz.prog 107 ti107 := ⟨by kernel_rfl, by kernel_rfl, fun _ => .nilFunc, (fun h => by cases h), rfl⟩
theorem one_108 : One Tryz.prog 108 ti108 := ⟨by kernel_rfl, by kernel_rfl, fun _ => .nilFunc, (fun h => by cases h), rfl⟩
theorem one_109 : One Tryz.prog 109 ti109 := ⟨by kernel_rfl, by kernel_rfl, fun _ => .nilFunc, (fun h => by cases h), rfl⟩
theorem one_110 : One Tryz.prog 110 ti110 := ⟨by kernel_rfl, by kernel_rfl, fun _ => .nilFunc, (fun h => by cases h), rfl⟩
theorem one_111 : One Tryz.prog 111 ti111 := ⟨by kernel_rfl, by kernel_rfl, fun _ => .nilFunc, (fun h => by cases h), rfl⟩
theorem one_112 : One Tryz.prog 112 ti112 := ⟨by kernel_rfl, by kernel_rfl, fun _ => .nilFunc, (fun h => by cases h), rfl⟩
theorem one_113 : One Tryz.prog 113 ti113 := ⟨by kernel_rfl, by kernel_rfl, fun _ => .nilFunc, (fun h => by cases h), rfl⟩
theorem one_114 : One Tryz.prog 114 ti114 := ⟨by kernel_rfl, by kernel_rfl, fun _ => .nilFunc, (fun h => by cases h), rfl⟩
theorem one_115 : One Tryz.prog 115 ti115 := ⟨by kernel_rfl, by kernel_rfl, fun _ => .nilFunc, (fun h => by cases h), rfl⟩
theorem one_116 : One Tryz.prog 116 ti116 := ⟨by kernel_rfl, by kernel_rfl, fun _ => .nilFunc, (fun h => by cases h), rfl⟩
theorem one_117 : One Tryz.prog 117 ti117 := ⟨by kernel_rfl, by kernel_rfl, fun _ => vrel_tuple (lrel_cons (vrel_agg (lrel_cons (.int _ _) (lrel_cons (.int _ _) lrel_nil))) (lrel_cons (.int _ _) lrel_nil)), (fun h => by cases h), rfl⟩
theorem one_118 : One Tryz.prog 118 ti118 := ⟨by kernel_rfl, by kernel_rfl, fun _ => .nilFunc, (fun h => by cases h), rfl⟩
theorem one_119 : One Tryz.prog 119 ti119 := ⟨by kernel_rfl, by kernel_rfl, fun _ => .nilFunc, (fun h => by cases h), rfl⟩
theorem one_120 : One Tryz.prog 120 ti120 := ⟨by kernel_rfl, by kernel_rfl, fun _ => .nilFunc, (fun h => by cases h), rfl⟩
theorem one_121 : One Tryz.prog 121 ti121 := ⟨by kernel_rfl, by kernel_rfl, fun _ => vrel_tuple (lrel_cons (vrel_agg (lrel_cons (.int _ _) (lrel_cons (.int _ _) lrel_nil))) (lrel_cons (.int _ _) lrel_nil)), (fun h => by cases h), rfl⟩
theorem one_122 : One Tryz.prog 122 ti122 := ⟨by kernel_rfl, by kernel_rfl, fun _ => .nilFunc, (fun h => by cases h), rfl⟩
theorem one_123 : One Tryz.prog 123 ti123 := ⟨by kernel_rfl, by kernel_rfl, fun _ => .int _ _, (fun h => by cases h), rfl⟩
theorem one_124 : One Tryz.prog 124 ti124 := ⟨by kernel_rfl, by kernel_rfl, fun _ => vrel_tuple (lrel_cons (.int _ _) (lrel_cons (.int _ _) lrel_nil)), (fun h => by cases h), rfl⟩
theorem one_125 : One Tryz.prog 125 ti125 := ⟨by kernel_rfl, by kernel_rfl, fun _ => .nilFunc, (fun h => by cases h), rfl⟩
theorem one_126 : One Tryz.prog 126 ti126 := ⟨by kernel_rfl, by kernel_rfl, fun _ => .int _ _, (fun h => by cases h), rfl⟩
theorem one_127 : One Tryz.prog 127 ti127 := ⟨by kernel_rfl, by kernel_rfl, fun _ => vrel_tuple (lrel_cons (.int _ _) (lrel_cons (.int _ _) lrel_nil)), (fun h => by cases h), rfl⟩
theorem one_128 : One Tryz.prog 128 ti128 := ⟨by kernel_rfl, by kernel_rfl, fun _ => .nilFunc, (fun h => by cases h), rfl⟩
theorem one_129 : One Tryz.prog 129 ti129 := ⟨by kernel_rfl, by kernel_rfl, fun _ => .nilFunc, (fun h => by cases h), rfl⟩
theorem one_130 : One Tryz.prog 130 ti130 := ⟨by kernel_rfl, by kernel_rfl, fun _ => .nilFunc, (fun h => by cases h), rfl⟩
theorem one_131 : One Tryz.prog 131 ti131 := ⟨by kernel_rfl, by kernel_rfl, fun _ => .nilFunc, (fun h => by cases h), rfl⟩
theorem one_132 : One Tryz.prog 132 ti132 := ⟨by kernel_rfl, by kernel_rfl, fun _ => .nilFunc, (fun h => by cases h), rfl⟩
theorem one_133 : One Tryz.prog 133 ti133 := ⟨by kernel_rfl, by kernel_rfl, fun _ => .nilFunc, (fun h => by cases h), rfl⟩
theorem one_134 : One Tryz.prog 134 ti134 := ⟨by kernel_rfl, by kernel_rfl, fun _ => .nilFunc, (fun h => by cases h), rfl⟩
theorem one_135 : One Tryz.prog 135 ti135 := ⟨by kernel_rfl, by kernel_rfl, fun _ => .nilFunc, (fun h => by cases h), rfl⟩
theorem one_136 : One Tryz.prog 136 ti136 := ⟨by kernel_rfl, by kernel_rfl, fun _ => .nilFunc, (fun h => by cases h), rfl⟩
theorem one_137 : One Tryz.prog 137 ti137 := ⟨by kernel_rfl, by kernel_rfl, fun _ => .nilFunc, (fun h => by cases h), rfl⟩
theorem one_138 : One Tryz.prog 138 ti138 := ⟨by kernel_rfl, by kernel_rfl, fun _ => .nilFunc, (fun h => by cases h), rfl⟩
theorem one_139 : One Tryz.prog 139 ti139 := ⟨by kernel_rfl, by kernel_rfl, fun _ => vrel_agg (lrel_cons (.nilPtr) (lrel_cons (.nilPtr) (lrel_cons (.nilPtr) (lrel_cons (.string _) lrel_nil)))), (fun h => by cases h), rfl⟩
theorem one_140 : One Tryz.prog 140 ti140 := ⟨by kernel_rfl, by kernel_rfl, fun _ => vrel_agg (lrel_cons (.nilPtr) (lrel_cons (.nilPtr) (lrel_cons (.nilPtr) (lrel_cons (.string _) lrel_nil)))), (fun h => by cases h), rfl⟩
theorem one_141 : One Tryz.prog 141 ti141 := ⟨by kernel_rfl, by kernel_rfl, fun _ => vrel_agg lrel_nil, (fun h => by cases h), rfl⟩
theorem one_142 : One Tryz.prog 142 ti142 := ⟨by kernel_rfl, by kernel_rfl, fun _ => vrel_agg lrel_nil, (fun h => by cases h), rfl⟩
theorem one_143 : One Tryz.prog 143 ti143 := ⟨by kernel_rfl, by kernel_rfl, fun _ => vrel_agg lrel_nil, (fun h => by cases h), rfl⟩
theorem one_144 : One Tryz.prog 144 ti144 := ⟨by kernel_rfl, by kernel_rfl, fun _ => .nilFunc, (fun h => by cases h), rfl⟩
theorem one_145 : One Tryz.prog 145 ti145 := ⟨by kernel_rfl, by kernel_rfl, fun _ => .int _ _, (fun h => by cases h), rfl⟩
theorem one_146 : One Tryz.prog 146 ti146 := ⟨by kernel_rfl, by kernel_rfl, fun _ => .int _ _, (fun h => by cases h), rfl⟩
theorem one_147 : One Tryz.prog 147 ti147 := ⟨by kernel_rfl, by kernel_rfl, fun _ => .nilFunc, (fun h => by cases h), rfl⟩
theorem one_148 : One Tryz.prog 148 ti148 := ⟨by kernel_rfl, by kernel_rfl, fun _ => .nilPtr, (fun h => by cases h), rfl⟩
theorem one_149 : One Tryz.prog 149 ti149 := ⟨by kernel_rfl, by kernel_rfl, fun _ => .int _ _, (fun h => by cases h), rfl⟩
theorem one_150 : One Tryz.prog 150 ti150 := ⟨by kernel_rfl, by kernel_rfl, fun _ => .int _ _, (fun h => by cases h), rfl⟩
theorem one_151 : One Tryz.prog 151 ti151 := ⟨by kernel_rfl, by kernel_rfl, fun _ => vrel_agg (lrel_cons (.int _ _) (lrel_cons (.int _ _) (lrel_cons (.int _ _) (lrel_cons (.int _ _) (lrel_cons (.int _ _) (lrel_cons (.int _ _) (lrel_cons (.int _ _) (lrel_cons (.nilFunc) (lrel_cons (.nilPtr) (lrel_cons (.int _ _) (lrel_cons (.int _ _) lrel_nil))))))))))), (fun h => by cases h), rfl⟩
theorem one_152 : One Tryz.prog 152 ti152 := ⟨by kernel_rfl, by kernel_rfl, fun _ => vrel_agg (lrel_cons (.int _ _) (lrel_cons (.int _ _) (lrel_cons (.int _ _) (lrel_cons (.int _ _) (lrel_cons (.int _ _) (lrel_cons (.int _ _) (lrel_cons (.int _ _) (lrel_cons (.nilFunc) (lrel_cons (.nilPtr) (lrel_cons (.int _ _) (lrel_cons (.int _ _) lrel_nil))))))))))), (fun h => by cases h), rfl⟩
theorem cond_split {b : Bool} {x y : Option TI} {i : TI} {C : Prop} (h : (bif b then x else y) = some i) (h1 : b = true → x = some i → C) (h2 : b = false → y = some i → C) : C := by
  cases b
  · exact h2 rfl h
  · exact h1 rfl h
theorem cond_leaf {t k : Nat} {x i : TI} (h : (bif Nat.beq t k then some x else none) = some i) (o : One Tryz.prog k x) : One Tryz.prog t i := by
  refine cond_split h (fun e g => ?_) (fun _ g => by cases g)
  cases g
  obtain rfl := Nat.eq_of_beq_eq_true e
  exact o
theorem tab : Tab Tryz.prog tys := tab_of fun _ _ h => (cond_split h (fun _ h => (cond_split h (fun _ h => (cond_split h (fun _ h => (cond_split h (fun _ h => (cond_split h (fun _ h => (cond_split h (fun _ h => (cond_split h (fun _ h => (cond_leaf h one_0)) (fun _ h => (cond_leaf h one_1)))) (fun _ h => (cond_split h (fun _ h => (cond_leaf h one_2)) (fun _ h => (cond_leaf h one_3)))))) (fun _ h => (cond_split h (fun _ h => (cond_split h (fun _ h => (cond_leaf h one_4)) (fun _ h => (cond_leaf h one_5)))) (fun _ h => (cond_split h (fun _ h => (cond_leaf h one_6)) (fun _ h => (cond_split h (fun _ h => (cond_leaf h one_7)) (fun _ h => (cond_leaf h one_8)))))))))) (fun _ h => (cond_split h (fun _ h => (cond_split h (fun _ h => (cond_split h (fun _ h => (cond_leaf h one_9)) (fun _ h => (cond_leaf h one_10)))) (fun _ h => (cond_split h (fun _ h => (cond_leaf h one_11)) (fun _ h => (cond_split h (fun _ h => (cond_leaf h one_12)) (fun _ h => (cond_leaf h one_13)))))))) (fun _ h => (cond_split h (fun _ h => (cond_split h (fun _ h => (cond_leaf h one_14)) (fun _ h => (cond_leaf h one_15)))) (fun _ h => (cond_split h (fun _ h => (cond_leaf h one_16)) (fun _ h => (cond_split h (fun _ h => (cond_leaf h one_17)) (fun _ h => (cond_leaf h one_18)))))))))))) (fun _ h => (cond_split h (fun _ h => (cond_split h (fun _ h => (cond_split h (fun _ h => (cond_split h (fun _ h => (cond_leaf h one_19)) (fun _ h => (cond_leaf h one_20)))) (fun _ h => (cond_split h (fun _ h => (cond_leaf h one_21)) (fun _ h => (cond_leaf h one_22)))))) (fun _ h => (cond_split h (fun _ h => (cond_split h (fun _ h => (cond_leaf h one_23)) (fun _ h => (cond_leaf h one_24)))) (fun _ h => (cond_split h (fun _ h => (cond_leaf h one_25)) (fun _ h => (cond_split h (fun _ h => (cond_leaf h one_26)) (fun _ h => (cond_leaf h one_27)))))))))) (fun _ h => (cond_split h (fun _ h => (cond_split h (fun _ h => (cond_split h (fun _ h => (cond_leaf h one_28)) (fun _ h => (cond_leaf h one_29)))) (fun _ h => (cond_split h (fun _ h => (cond_leaf h one_30)) (fun _ h => (cond_split h (fun _ h => (cond_leaf h one_31)) (fun _ h => (cond_leaf h one_32)))))))) (fun _ h => (cond_split h (fun _ h => (cond_split h (fun _ h => (cond_leaf h one_33)) (fun _ h => (cond_leaf h one_34)))) (fun _ h => (cond_split h (fun _ h => (cond_leaf h one_35)) (fun _ h => (cond_split h (fun _ h => (cond_leaf h one_36)) (fun _ h => (cond_leaf h one_37)))))))))))))) (fun _ h => (cond_split h (fun _ h => (cond_split h (fun _ h => (cond_split h (fun _ h => (cond_split h (fun _ h => (cond_split h (fun _ h => (cond_leaf h one_38)) (fun _ h => (cond_leaf h one_39)))) (fun _ h => (cond_split h (fun _ h => (cond_leaf h one_40)) (fun _ h => (cond_leaf h one_41)))))) (fun _ h => (cond_split h (fun _ h => (cond_split h (fun _ h => (cond_leaf h one_42)) (fun _ h => (cond_leaf h one_43)))) (fun _ h => (cond_split h (fun _ h => (cond_leaf h one_44)) (fun _ h => (cond_split h (fun _ h => (cond_leaf h one_45)) (fun _ h => (cond_leaf h one_46)))))))))) (fun _ h => (cond_split h (fun _ h => (cond_split h (fun _ h => (cond_split h (fun _ h => (cond_leaf h one_47)) (fun _ h => (cond_leaf h one_48)))) (fun _ h => (cond_split h (fun _ h => (cond_leaf h one_49)) (fun _ h => (cond_split h (fun _ h => (cond_leaf h one_50)) (fun _ h => (cond_leaf h one_51)))))))) (fun _ h => (cond_split h (fun _ h => (cond_split h (fun _ h => (cond_leaf h one_52)) (fun _ h => (cond_leaf h one_53)))) (fun _ h => (cond_split h (fun _ h => (cond_leaf h one_54)) (fun _ h => (cond_split h (fun _ h => (cond_leaf h one_55)) (fun _ h => (cond_leaf h one_56)))))))))))) (fun _ h => (cond_split h (fun _ h => (cond_split h (fun _ h => (cond_split h (fun _ h => (cond_split h (fun _ h => (cond_leaf h one_57)) (fun _ h => (cond_leaf h one_58)))) (fun _ h => (cond_split h (fun _ h => (cond_leaf h one_59)) (fun _ h => (cond_leaf h one_60)))))) (fun _ h => (cond_split h (fun _ h => (cond_split h (fun _ h => (cond_leaf h one_61)) (fun _ h => (cond_leaf h one_62)))) (fun _ h => (cond_split h (fun _ h => (cond_leaf h one_63)) (fun _ h => (cond_split h (fun _ h => (cond_leaf h one_64)) (fun _ h => (cond_leaf h one_65)))))))))) (fun _ h => (cond_split h (fun _ h => (cond_split h (fun _ h => (cond_split h (fun _ h => (cond_leaf h one_66)) (fun _ h => (cond_leaf h one_67)))) (fun _ h => (cond_split h (fun _ h => (cond_leaf h one_68)) (fun _ h => (cond_split h (fun _ h => (cond_leaf h one_69)) (fun _ h => (cond_leaf h one_70)))))))) (fun _ h => (cond_split h (fun _ h => (cond_split h (fun _ h => (cond_leaf h one_71)) (fun _ h => (cond_leaf h one_72)))) (fun _ h => (cond_split h (fun _ h => (cond_leaf h one_73)) (fun _ h => (cond_split h (fun _ h => (cond_leaf h one_74)) (fun _ h => (cond_leaf h one_75)))))))))))))))) (fun _ h => (cond_split h (fun _ h => (cond_split h (fun _ h => (cond_split h (fun _ h => (cond_split h (fun _ h => (cond_split h (fun _ h => (cond_split h (fun _ h => (cond_leaf h one_76)) (fun _ h => (cond_leaf h one_77)))) (fun _ h => (cond_split h (fun _ h => (cond_leaf h one_78)) (fun _ h => (cond_leaf h one_79)))))) (fun _ h => (cond_split h (fun _ h => (cond_split h (fun _ h => (cond_leaf h one_80)) (fun _ h => (cond_leaf h one_81)))) (fun _ h => (cond_split h (fun _ h => (cond_leaf h one_82)) (fun _ h => (cond_split h (fun _ h => (cond_leaf h one_83)) (fun _ h => (cond_leaf h one_84)))))))))) (fun _ h => (cond_split h (fun _ h => (cond_split h (fun _ h => (cond_split h (fun _ h => (cond_leaf h one_85)) (fun _ h => (cond_leaf h one_86)))) (fun _ h => (cond_split h (fun _ h => (cond_leaf h one_87)) (fun _ h => (cond_split h (fun _ h => (cond_leaf h one_88)) (fun _ h => (cond_leaf h one_89)))))))) (fun _ h => (cond_split h (fun _ h => (cond_split h (fun _ h => (cond_leaf h one_90)) (fun _ h => (cond_leaf h one_91)))) (fun _ h => (cond_split h (fun _ h => (cond_leaf h one_92)) (fun _ h => (cond_split h (fun _ h => (cond_leaf h one_93)) (fun _ h => (cond_leaf h one_94)))))))))))) (fun _ h => (cond_split h (fun _ h => (cond_split h (fun _ h => (cond_split h (fun _ h => (cond_split h (fun _ h => (cond_leaf h one_95)) (fun _ h => (cond_leaf h one_96)))) (fun _ h => (cond_split h (fun _ h => (cond_leaf h one_97)) (fun _ h => (cond_leaf h one_98)))))) (fun _ h => (cond_split h (fun _ h => (cond_split h (fun _ h => (cond_leaf h one_99)) (fun _ h => (cond_leaf h one_100)))) (fun _ h => (cond_split h (fun _ h => (cond_leaf h one_101)) (fun _ h => (cond_split h (fun _ h => (cond_leaf h one_102)) (fun _ h => (cond_leaf h one_103)))))))))) (fun _ h => (cond_split h (fun _ h => (cond_split h (fun _ h => (cond_split h (fun _ h => (cond_leaf h one_104)) (fun _ h => (cond_leaf h one_105)))) (fun _ h => (cond_split h (fun _ h => (cond_leaf h one_106)) (fun _ h => (cond_split h (fun _ h => (cond_leaf h one_107)) (fun _ h => (cond_leaf h one_108)))))))) (fun _ h => (cond_split h (fun _ h => (cond_split h (fun _ h => (cond_leaf h one_109)) (fun _ h => (cond_leaf h one_110)))) (fun _ h => (cond_split h (fun _ h => (cond_leaf h one_111)) (fun _ h => (cond_split h (fun _ h => (cond_leaf h one_112)) (fun _ h => (cond_leaf h one_113)))))))))))))) (fun _ h => (cond_split h (fun _ h => (cond_split h (fun _ h => (cond_split h (fun _ h => (cond_split h (fun _ h => (cond_split h (fun _ h => (cond_leaf h one_114)) (fun _ h => (cond_leaf h one_115)))) (fun _ h => (cond_split h (fun _ h => (cond_leaf h one_116)) (fun _ h => (cond_leaf h one_117)))))) (fun _ h => (cond_split h (fun _ h => (cond_split h (fun _ h => (cond_leaf h one_118)) (fun _ h => (cond_leaf h one_119)))) (fun _ h => (cond_split h (fun _ h => (cond_leaf h one_120)) (fun _ h => (cond_split h (fun _ h => (cond_leaf h one_121)) (fun _ h => (cond_leaf h one_122)))))))))) (fun _ h => (cond_split h (fun _ h => (cond_split h (fun _ h => (cond_split h (fun _ h => (cond_leaf h one_123)) (fun _ h => (cond_leaf h one_124)))) (fun _ h => (cond_split h (fun _ h => (cond_leaf h one_125)) (fun _ h => (cond_split h (fun _ h => (cond_leaf h one_126)) (fun _ h => (cond_leaf h one_127)))))))) (fun _ h => (cond_split h (fun _ h => (cond_split h (fun _ h => (cond_leaf h one_128)) (fun _ h => (cond_leaf h one_129)))) (fun _ h => (cond_split h (fun _ h => (cond_leaf h one_130)) (fun _ h => (cond_split h (fun _ h => (cond_leaf h one_131)) (fun _ h => (cond_leaf h one_132)))))))))))) (fun _ h => (cond_split h (fun _ h => (cond_split h (fun _ h => (cond_split h (fun _ h => (cond_split h (fun _ h => (cond_leaf h one_133)) (fun _ h => (cond_leaf h one_134)))) (fun _ h => (cond_split h (fun _ h => (cond_leaf h one_135)) (fun _ h => (cond_split h (fun _ h => (cond_leaf h one_136)) (fun _ h => (cond_leaf h one_137)))))))) (fun _ h => (cond_split h (fun _ h => (cond_split h (fun _ h => (cond_leaf h one_138)) (fun _ h => (cond_leaf h one_139)))) (fun _ h => (cond_split h (fun _ h => (cond_leaf h one_140)) (fun _ h => (cond_split h (fun _ h => (cond_leaf h one_141)) (fun _ h => (cond_leaf h one_142)))))))))) (fun _ h => (cond_split h (fun _ h => (cond_split h (fun _ h => (cond_split h (fun _ h => (cond_leaf h one_143)) (fun _ h => (cond_leaf h one_144)))) (fun _ h => (cond_split h (fun _ h => (cond_leaf h one_145)) (fun _ h => (cond_split h (fun _ h => (cond_leaf h one_146)) (fun _ h => (cond_leaf h one_147)))))))) (fun _ h => (cond_split h (fun _ h => (cond_split h (fun _ h => (cond_leaf h one_148)) (fun _ h => (cond_leaf h one_149)))) (fun _ h => (cond_split h (fun _ h => (cond_leaf h one_150)) (fun _ h => (cond_split h (fun _ h => (cond_leaf h one_151)) (fun _ h => (cond_leaf h one_152)))))))))))))))))
end Go.Proofs.YtcjfidfealifhaaGreat
namespace Go.Proofs.YtcjfidfealifhaaGreat
open Go Vm
set_option linter.unusedVariables false
set_option linter.unusedSimpArgs false
abbrev B (s : ByteArray) : List UInt8 := s.data.toList
section
variable {τ : Nat → Option TI} {env : List (Nat × Value)} {V : Heap} {n : Nat}
end
end Go.Proofs.YtcjfidfealifhaaGreat
namespace Go.Proofs.YtcjfidfealifhaaGreat
open Go Vm
theorem mixed : Tryz.prog.follows .mixedOrders = true := by kernel_rfl
theorem callable_4 : Callable Tryz.prog 4 := ⟨Tryz.f4, Tryz.func4, by kernel_rfl, rfl⟩
theorem callable_5 : Callable Tryz.prog 5 := ⟨Tryz.f5, Tryz.func5, by kernel_rfl, rfl⟩
theorem callable_6 : Callable Tryz.prog 6 := ⟨Tryz.f6, Tryz.func6, by kernel_rfl, rfl⟩
theorem callable_7 : Callable Tryz.prog 7 := ⟨Tryz.f7, Tryz.func7, by kernel_rfl, rfl⟩
theorem callable_8 : Callable Tryz.prog 8 := ⟨Tryz.f8, Tryz.func8, by kernel_rfl, rfl⟩
theorem callable_9 : Callable Tryz.prog 9 := ⟨Tryz.f9, Tryz.func9, by kernel_rfl, rfl⟩
theorem callable_10 : Callable Tryz.prog 10 := ⟨Tryz.f10, Tryz.func10, by kernel_rfl, rfl⟩
theorem callable_11 : Callable Tryz.prog 11 := ⟨Tryz.f11, Tryz.func11, by kernel_rfl, rfl⟩
theorem callable_12 : Callable Tryz.prog 12 := ⟨Tryz.f12, Tryz.func12, by kernel_rfl, rfl⟩
theorem callable_13 : Callable Tryz.prog 13 := ⟨Tryz.f13, Tryz.func13, by kernel_rfl, rfl⟩
theorem callable_14 : Callable Tryz.prog 14 := ⟨Tryz.f14, Tryz.func14, by kernel_rfl, rfl⟩
theorem callable_15 : Callable Tryz.prog 15 := ⟨Tryz.f15, Tryz.func15, by kernel_rfl, rfl⟩
theorem callable_16 : Callable Tryz.prog 16 := ⟨Tryz.f16, Tryz.func16, by kernel_rfl, rfl⟩
theorem callable_17 : Callable Tryz.prog 17 := ⟨Tryz.f17, Tryz.func17, by kernel_rfl, rfl⟩
theorem callable_18 : Callable Tryz.prog 18 := ⟨Tryz.f18, Tryz.func18, by kernel_rfl, rfl⟩
theorem callable_19 : Callable Tryz.prog 19 := ⟨Tryz.f19, Tryz.func19, by kernel_rfl, rfl⟩
theorem callable_20 : Callable Tryz.prog 20 := ⟨Tryz.f20, Tryz.func20, by kernel_rfl, rfl⟩
theorem callable_21 : Callable Tryz.prog 21 := ⟨Tryz.f21, Tryz.func21, by kernel_rfl, rfl⟩
theorem callable_22 : Callable Tryz.prog 22 := ⟨Tryz.f22, Tryz.func22, by kernel_rfl, rfl⟩
theorem callable_23 : Callable Tryz.prog 23 := ⟨Tryz.f23, Tryz.func23, by kernel_rfl, rfl⟩
theorem callable_24 : Callable Tryz.prog 24 := ⟨Tryz.f24, Tryz.func24, by kernel_rfl, rfl⟩
theorem callable_25 : Callable Tryz.prog 25 := ⟨Tryz.f25, Tryz.func25, by kernel_rfl, rfl⟩
theorem callable_26 : Callable Tryz.prog 26 := ⟨Tryz.f26, Tryz.func26, by kernel_rfl, rfl⟩
theorem callable_27 : Callable Tryz.prog 27 := ⟨Tryz.f27, Tryz.func27, by kernel_rfl, rfl⟩
theorem callable_28 : Callable Tryz.prog 28 := ⟨Tryz.f28, Tryz.func28, by kernel_rfl, rfl⟩
theorem callable_29 : Callable Tryz.prog 29 := ⟨Tryz.f29, Tryz.func29, by kernel_rfl, rfl⟩
theorem callable_30 : Callable Tryz.prog 30 := ⟨Tryz.f30, Tryz.func30, by kernel_rfl, rfl⟩
theorem callable_31 : Callable Tryz.prog 31 := ⟨Tryz.f31, Tryz.func31, by kernel_rfl, rfl⟩
theorem callable_32 : Callable Tryz.prog 32 := ⟨Tryz.f32, Tryz.func32, by kernel_rfl, rfl⟩
theorem callable_33 : Callable Tryz.prog 33 := ⟨Tryz.f33, Tryz.func33, by kernel_rfl, rfl⟩
theorem callable_34 : Callable Tryz.prog 34 := ⟨Tryz.f34, Tryz.func34, by kernel_rfl, rfl⟩
theorem callable_35 : Callable Tryz.prog 35 := ⟨Tryz.f35, Tryz.func35, by kernel_rfl, rfl⟩
theorem callable_36 : Callable Tryz.prog 36 := ⟨Tryz.f36, Tryz.func36, by kernel_rfl, rfl⟩
theorem callable_37 : Callable Tryz.prog 37 := ⟨Tryz.f37, Tryz.func37, by kernel_rfl, rfl⟩
theorem callable_38 : Callable Tryz.prog 38 := ⟨Tryz.f38, Tryz.func38, by kernel_rfl, rfl⟩
theorem callable_39 : Callable Tryz.prog 39 := ⟨Tryz.f39, Tryz.func39, by kernel_rfl, rfl⟩
theorem callable_40 : Callable Tryz.prog 40 := ⟨Tryz.f40, Tryz.func40, by kernel_rfl, rfl⟩
theorem callable_41 : Callable Tryz.prog 41 := ⟨Tryz.f41, Tryz.func41, by kernel_rfl, rfl⟩
theorem callable_42 : Callable Tryz.prog 42 := ⟨Tryz.f42, Tryz.func42, by kernel_rfl, rfl⟩
theorem callable_43 : Callable Tryz.prog 43 := ⟨Tryz.f43, Tryz.func43, by kernel_rfl, rfl⟩
theorem callable_44 : Callable Tryz.prog 44 := ⟨Tryz.f44, Tryz.func44, by kernel_rfl, rfl⟩
theorem callable_45 : Callable Tryz.prog 45 := ⟨Tryz.f45, Tryz.func45, by kernel_rfl, rfl⟩
theorem callable_46 : Callable Tryz.prog 46 := ⟨Tryz.f46, Tryz.func46, by kernel_rfl, rfl⟩
theorem callable_47 : Callable Tryz.prog 47 := ⟨Tryz.f47, Tryz.func47, by kernel_rfl, rfl⟩
theorem callable_48 : Callable Tryz.prog 48 := ⟨Tryz.f48, Tryz.func48, by kernel_rfl, rfl⟩
theorem callable_49 : Callable Tryz.prog 49 := ⟨Tryz.f49, Tryz.func49, by kernel_rfl, rfl⟩
theorem callable_50 : Callable Tryz.prog 50 := ⟨Tryz.f50, Tryz.func50, by kernel_rfl, rfl⟩
theorem callable_51 : Callable Tryz.prog 51 := ⟨Tryz.f51, Tryz.func51, by kernel_rfl, rfl⟩
theorem callable_52 : Callable Tryz.prog 52 := ⟨Tryz.f52, Tryz.func52, by kernel_rfl, rfl⟩
theorem callable_53 : Callable Tryz.prog 53 := ⟨Tryz.f53, Tryz.func53, by kernel_rfl, rfl⟩
theorem callable_54 : Callable Tryz.prog 54 := ⟨Tryz.f54, Tryz.func54, by kernel_rfl, rfl⟩
theorem callable_55 : Callable Tryz.prog 55 := ⟨Tryz.f55, Tryz.func55, by kernel_rfl, rfl⟩
theorem callable_56 : Callable Tryz.prog 56 := ⟨Tryz.f56, Tryz.func56, by kernel_rfl, rfl⟩
theorem callable_57 : Callable Tryz.prog 57 := ⟨Tryz.f57, Tryz.func57, by kernel_rfl, rfl⟩
theorem callable_58 : Callable Tryz.prog 58 := ⟨Tryz.f58, Tryz.func58, by kernel_rfl, rfl⟩
theorem callable_59 : Callable Tryz.prog 59 := ⟨Tryz.f59, Tryz.func59, by kernel_rfl, rfl⟩
theorem callable_60 : Callable Tryz.prog 60 := ⟨Tryz.f60, Tryz.func60, by kernel_rfl, rfl⟩
theorem callable_61 : Callable Tryz.prog 61 := ⟨Tryz.f61, Tryz.func61, by kernel_rfl, rfl⟩
theorem callable_62 : Callable Tryz.prog 62 := ⟨Tryz.f62, Tryz.func62, by kernel_rfl, rfl⟩
theorem callable_63 : Callable Tryz.prog 63 := ⟨Tryz.f63, Tryz.func63, by kernel_rfl, rfl⟩
theorem callable_64 : Callable Tryz.prog 64 := ⟨Tryz.f64, Tryz.func64, by kernel_rfl, rfl⟩
theorem callable_65 : Callable Tryz.prog 65 := ⟨Tryz.f65, Tryz.func65, by kernel_rfl, rfl⟩
theorem callable_66 : Callable Tryz.prog 66 := ⟨Tryz.f66, Tryz.func66, by kernel_rfl, rfl⟩
theorem callable_67 : Callable Tryz.prog 67 := ⟨Tryz.f67, Tryz.func67, by kernel_rfl, rfl⟩
theorem callable_68 : Callable Tryz.prog 68 := ⟨Tryz.f68, Tryz.func68, by kernel_rfl, rfl⟩
theorem callable_69 : Callable Tryz.prog 69 := ⟨Tryz.f69, Tryz.func69, by kernel_rfl, rfl⟩
theorem callable_70 : Callable Tryz.prog 70 := ⟨Tryz.f70, Tryz.func70, by kernel_rfl, rfl⟩
theorem callable_71 : Callable Tryz.prog 71 := ⟨Tryz.f71, Tryz.func71, by kernel_rfl, rfl⟩
theorem callable_72 : Callable Tryz.prog 72 := ⟨Tryz.f72, Tryz.func72, by kernel_rfl, rfl⟩
theorem callable_73 : Callable Tryz.prog 73 := ⟨Tryz.f73, Tryz.func73, by kernel_rfl, rfl⟩
theorem callable_74 : Callable Tryz.prog 74 := ⟨Tryz.f74, Tryz.func74, by kernel_rfl, rfl⟩
theorem callable_75 : Callable Tryz.prog 75 := ⟨Tryz.f75, Tryz.func75, by kernel_rfl, rfl⟩
theorem callable_76 : Callable Tryz.prog 76 := ⟨Tryz.f76, Tryz.func76, by kernel_rfl, rfl⟩
theorem callable_77 : Callable Tryz.prog 77 := ⟨Tryz.f77, Tryz.func77, by kernel_rfl, rfl⟩
theorem callable_78 : Callable Tryz.prog 78 := ⟨Tryz.f78, Tryz.func78, by kernel_rfl, rfl⟩
theorem callable_79 : Callable Tryz.prog 79 := ⟨Tryz.f79, Tryz.func79, by kernel_rfl, rfl⟩
theorem callable_80 : Callable Tryz.prog 80 := ⟨Tryz.f80, Tryz.func80, by kernel_rfl, rfl⟩
theorem callable_81 : Callable Tryz.prog 81 := ⟨Tryz.f81, Tryz.func81, by kernel_rfl, rfl⟩
theorem callable_82 : Callable Tryz.prog 82 := ⟨Tryz.f82, Tryz.func82, by kernel_rfl, rfl⟩
theorem callable_83 : Callable Tryz.prog 83 := ⟨Tryz.f83, Tryz.func83, by kernel_rfl, rfl⟩
theorem callable_85 : Callable Tryz.prog 85 := ⟨Tryz.f85, Tryz.func85, by kernel_rfl, rfl⟩
theorem callable_86 : Callable Tryz.prog 86 := ⟨Tryz.f86, Tryz.func86, by kernel_rfl, rfl⟩
theorem callable_89 : Callable Tryz.prog 89 := ⟨Tryz.f89, Tryz.func89, by kernel_rfl, rfl⟩
theorem callable_90 : Callable Tryz.prog 90 := ⟨Tryz.f90, Tryz.func90, by kernel_rfl, rfl⟩
theorem callable_91 : Callable Tryz.prog 91 := ⟨Tryz.f91, Tryz.func91, by kernel_rfl, rfl⟩
theorem callable_92 : Callable Tryz.prog 92 := ⟨Tryz.f92, Tryz.func92, by kernel_rfl, rfl⟩
theorem callable_93 : Callable Tryz.prog 93 := ⟨Tryz.f93, Tryz.func93, by kernel_rfl, rfl⟩
theorem callable_94 : Callable Tryz.prog 94 := ⟨Tryz.f94, Tryz.func94, by kernel_rfl, rfl⟩
theorem callable_95 : Callable Tryz.prog 95 := ⟨Tryz.f95, Tryz.func95, by kernel_rfl, rfl⟩
theorem callable_96 : Callable Tryz.prog 96 := ⟨Tryz.f96, Tryz.func96, by kernel_rfl, rfl⟩
theorem callable_97 : Callable Tryz.prog 97 := ⟨Tryz.f97, Tryz.func97, by kernel_rfl, rfl⟩
theorem callable_98 : Callable Tryz.prog 98 := ⟨Tryz.f98, Tryz.func98, by kernel_rfl, rfl⟩
theorem callable_99 : Callable Tryz.prog 99 := ⟨Tryz.f99, Tryz.func99, by kernel_rfl, rfl⟩
theorem callable_101 : Callable Tryz.prog 101 := ⟨Tryz.f101, Tryz.func101, by kernel_rfl, rfl⟩
theorem callable_102 : Callable Tryz.prog 102 := ⟨Tryz.f102, Tryz.func102, by kernel_rfl, rfl⟩
theorem callable_104 : Callable Tryz.prog 104 := ⟨Tryz.f104, Tryz.func104, by kernel_rfl, rfl⟩
end Go.Proofs.YtcjfidfealifhaaGreat
namespace Go.Proofs.YtcjfidfealifhaaGreat
open Go Vm IntWalk
set_option linter.unusedVariables false
set_option linter.unusedSimpArgs false
theorem num_fun (x : Int) : Fun Tryz.prog 10 [.int .i64 x] (.int .i64 x) := by
  refine fun_of_vw tab Tryz.func10 rfl rfl (by simp [Tryz.f10]) (lrel_cons (.int _ _) lrel_nil) (.int _ _) ?_
  refine wsq (wrg (vQ tab rfl (vnl (qth (wsq (wrg (vQ2 tab rfl rfl (vnl (qth (vw_ret ?_))))))))))
  exact ⟨.inr rfl, rfl⟩
end Go.Proofs.YtcjfidfealifhaaGreat
namespace Go.Proofs.YtcjfidfealifhaaGreat
open Go Vm IntWalk
set_option linter.unusedVariables false
set_option linter.unusedSimpArgs false
theorem nummay_fun (x : Int) : Fun Tryz.prog 42 [.int .i64 x] (.bool (okN x)) := by
  refine fun_of_vw tab Tryz.func42 rfl rfl (by simp [Tryz.f42]) (lrel_cons (.int _ _) lrel_nil) (.bool _) ?_
  refine wsq (wrg (vQ tab rfl (vnl (qth (wsq (wrg (vQ2 tab rfl rfl (vQ tab rfl ?_))))))))
  refine vg_op rfl rfl rfl (fun _ => ?_) (fun _ => ?_)
  refine vQ4 tab rfl rfl rfl rfl (vnl (qth (vw_ret ?_)))
  rotate_left
  refine vK2 rfl rfl (vQ2 tab rfl rfl (vnl (qth (vw_ret ?_))))
  rotate_left
  all_goals exact ⟨.inr rfl, Eq.trans (b := some (.bool _)) rfl (congrArg (fun b => some (Value.bool b)) (by simp_all [okN] <;> (intros; omega)))⟩
theorem refnum_fun (x : Int) : Fun Tryz.prog 58 [.int .i64 x] (.bool (okN x)) := by
  refine fun_of_vw tab Tryz.func58 rfl rfl (by simp [Tryz.f58]) (lrel_cons (.int _ _) lrel_nil) (.bool _) ?_
  refine wsq (wrg (vQ tab rfl (vnl (qth (wsq (wrg (vQ2 tab rfl rfl (vQ tab rfl ?_))))))))
  refine vg_op rfl rfl rfl (fun _ => ?_) (fun _ => ?_)
  refine vQ4 tab rfl rfl rfl rfl (vnl (qth (vw_ret ?_)))
  rotate_left
  refine vK2 rfl rfl (vQ2 tab rfl rfl (vnl (qth (vw_ret ?_))))
  rotate_left
  all_goals exact ⟨.inr rfl, Eq.trans (b := some (.bool _)) rfl (congrArg (fun b => some (Value.bool b)) (by simp_all [okN] <;> (intros; omega)))⟩
end Go.Proofs.YtcjfidfealifhaaGreat
namespace Go.Proofs.YtcjfidfealifhaaGreat
open Go Vm IntWalk
set_option linter.unusedVariables false
set_option linter.unusedSimpArgs false
structure EventV where
  kind : Int
  user : Int
  session : Int
  address : Int
  a : Int
  b : Int
  c : Int
  tick : Int
  deriving DecidableEq
def evtL (a : EventV) : List Value := [.int .i64 a.kind, .int .i64 a.user, .int .i64 a.session, .int .i64 a.address, .int .i64 a.a, .int .i64 a.b, .int .i64 a.c, .int .i64 a.tick]
def evtR : Rw EventV := ⟨evtL, 8, fun _ => rfl, fun a v h => by unfold evtL at h; simp only [List.mem_cons, List.not_mem_nil, or_false] at h; rcases h with rfl | rfl | rfl | rfl | rfl | rfl | rfl | rfl <;> rfl, by decide⟩
abbrev evtV (a : EventV) : Value := .agg (evtL a).toArray
abbrev evtRel {ρ : Ren} (a : EventV) : VRel ρ (evtV a) (evtV a) := vrel_agg (evtR.flat a).rel
theorem evt_eq (a b : EventV) : evEq tys 50 45 (.agg (evtR.f a).toArray) (.agg (evtR.f b).toArray) = some (decide (a = b)) := by
  refine Eq.trans (b := some (a.kind == b.kind && (a.user == b.user && (a.session == b.session && (a.address == b.address && (a.a == b.a && (a.b == b.b && (a.c == b.c && (a.tick == b.tick && true))))))))) rfl (congrArg some ?_)
  rw [Bool.eq_iff_iff]
  cases a; cases b; simp
def evtNums (a : EventV) : List Int := let k := a.kind; if k = 0 then [a.tick] else if k = 1 then [a.user, a.a, a.b, a.c] else if k = 2 then [a.user, a.tick] else if k = 3 then [a.user, a.a] else if k = 4 ∨ k = 7 then [a.user] else if k = 5 then [a.session, a.user, a.address, a.tick] else if k = 6 then [a.session, a.a, a.b, a.tick] else if k = 9 then [a.session] else []
def evtMake (k : Int) (xs : List Int) (_t : ByteArray) : EventV := if k = 0 then ⟨k, 0, 0, 0, 0, 0, 0, xs.getD 0 0⟩ else if k = 1 then ⟨k, xs.getD 0 0, 0, 0, xs.getD 1 0, xs.getD 2 0, xs.getD 3 0, 0⟩ else if k = 2 then ⟨k, xs.getD 0 0, 0, 0, 0, 0, 0, xs.getD 1 0⟩ else if k = 3 then ⟨k, xs.getD 0 0, 0, 0, xs.getD 1 0, 0, 0, 0⟩ else if k = 4 ∨ k = 7 then ⟨k, xs.getD 0 0, 0, 0, 0, 0, 0, 0⟩ else if k = 5 then ⟨k, xs.getD 1 0, xs.getD 0 0, xs.getD 2 0, 0, 0, 0, xs.getD 3 0⟩ else if k = 6 then ⟨k, 0, xs.getD 0 0, 0, xs.getD 1 0, xs.getD 2 0, 0, xs.getD 3 0⟩ else if k = 9 then ⟨k, 0, xs.getD 0 0, 0, 0, 0, 0, 0⟩ else ⟨k, 0, 0, 0, 0, 0, 0, 0⟩
def evtText (k : Int) : Bool := false
def evtPlain (a : EventV) : EventV := evtMake a.kind (evtNums a) ⟨#[]⟩
def evtMay (a : EventV) : Bool := (decide (0 ≤ a.kind) && decide (a.kind ≤ 9)) && (!(decide (a.kind = 6)) || decide (a.b ≤ 4)) && (decide (a.user < 8)) && (decide (a.address < 16)) && (decide (a.tick ≤ 1048575)) && (decide (a.c ≤ 1048576)) && (evtNums a).all okN && decide (a = evtPlain a)
theorem evt_may_kind {a : EventV} (h : evtMay a = true) : 0 ≤ a.kind ∧ a.kind ≤ 9 := by
  unfold evtMay at h
  simp only [Bool.and_eq_true, decide_eq_true_eq] at h
  exact h.1.1.1.1.1.1.1
theorem evt_may_nums {a : EventV} (h : evtMay a = true) : ∀ x ∈ evtNums a, okN x = true := by
  unfold evtMay at h; simp only [Bool.and_eq_true] at h; exact List.all_eq_true.1 h.1.2
end Go.Proofs.YtcjfidfealifhaaGreat
namespace Go.Proofs.YtcjfidfealifhaaGreat
open Go Vm
theorem take_same {α : Type} {xs ys : List α} {i : Nat} {a b : α} (ha : xs[i]? = some a) (hb : ys[i]? = some b) (h : xs.take i = ys.take i) (hab : a = b) : xs.take (i + 1) = ys.take (i + 1) := by
  rw [List.take_add_one, List.take_add_one, ha, hb, h, hab]
theorem take_diff {α : Type} {xs ys : List α} {i : Nat} {a b : α} (ha : xs[i]? = some a) (hb : ys[i]? = some b) (hab : a ≠ b) : xs ≠ ys := by
  rintro rfl; rw [ha] at hb; cases hb; exact hab rfl
theorem mapped_get {α : Type} {xs : List α} {i : Nat} {a : α} {f : α → α} (h : xs[i]? = some a) : ((xs.take i).map f ++ xs.drop i)[i]? = some a := by
  have hi := (List.getElem?_eq_some_iff.1 h).1
  rw [List.getElem?_append_right (by simp; omega)]
  simp only [List.length_map, List.length_take, List.getElem?_drop]
  rw [show i + (i - min i xs.length) = i by omega]; exact h
theorem mapped_set {α : Type} {xs : List α} {i : Nat} {a : α} {f : α → α} (h : xs[i]? = some a) : ((xs.take i).map f ++ xs.drop i).set i (f a) = (xs.take (i + 1)).map f ++ xs.drop (i + 1) := by
  have hi := (List.getElem?_eq_some_iff.1 h).1
  have hd : xs.drop i = a :: xs.drop (i + 1) := by rw [List.drop_eq_getElem_cons hi, (List.getElem?_eq_some_iff.1 h).2]
  rw [List.set_append_right _ _ (by simp; omega)]
  have : i - ((xs.take i).map f).length = 0 := by simp; omega
  rw [this, hd, List.take_add_one, h]
  simp
end Go.Proofs.YtcjfidfealifhaaGreat
namespace Go.Proofs.YtcjfidfealifhaaGreat
open Go Vm IntWalk
set_option linter.unusedVariables false
set_option linter.unusedSimpArgs false
structure AddrV where
  busy : Bool
  last : Int
  until_ : Int
  deriving DecidableEq
def addrL (a : AddrV) : List Value := [.bool a.busy, .int .i64 a.last, .int .i64 a.until_]
def addrR : Rw AddrV := ⟨addrL, 3, fun _ => rfl, fun a v h => by unfold addrL at h; simp only [List.mem_cons, List.not_mem_nil, or_false] at h; rcases h with rfl | rfl | rfl <;> rfl, by decide⟩
abbrev addrV (a : AddrV) : Value := .agg (addrL a).toArray
theorem addr_eq (a b : AddrV) : evEq tys 50 80 (.agg (addrR.f a).toArray) (.agg (addrR.f b).toArray) = some (decide (a = b)) := by
  refine Eq.trans (b := some (a.busy == b.busy && (a.last == b.last && (a.until_ == b.until_ && true)))) rfl (congrArg some ?_)
  rw [Bool.eq_iff_iff]
  cases a; cases b; simp
def spoilAddr (a : AddrV) : AddrV := { a with until_ := bits .xor .i64 a.until_ 90 }
abbrev addrRel {ρ : Ren} (a : AddrV) : VRel ρ (addrV a) (addrV a) := vrel_agg (addrR.flat a).rel
set_option maxHeartbeats 4000000 in
theorem same_addrs {V : Heap} {n : Nat} {sva svb : Value} {xs ys : List AddrV} (ha : Looks V 3 sva (addrR.cells xs) xs.length) (hb : Looks V 3 svb (addrR.cells ys) ys.length) (hx : xs.length ≤ 140737488355328) (hy : ys.length ≤ 140737488355328) :
    Tri Tryz.prog 22 [sva, svb] n 0 V (fun u L => u = .bool (decide (xs = ys)) ∧ L = []) := by
  refine reads_of_vw (K := 2) (argsI := [.slice (some ⟨0, 0, none⟩) xs.length 0, .slice (some ⟨1, 0, none⟩) ys.length 0]) tab Tryz.func22 rfl rfl (by simp [Tryz.f22]) [.look sva xs.length 3, .look svb ys.length 3] [.win (addrR.cells xs) 3, .win (addrR.cells ys) 3] rfl (.look ha (addrR.flat_cells xs) (.look hb (addrR.flat_cells ys) .nil)) (by simp [ownNames]) (by simp [ownNames, lookNames]) (al_cons (.look (a := 0) rfl) (al_cons (.look (a := 1) rfl) al_nil)) (seen_of (sn_look (seen_top (j := 0) rfl) (sn_look (seen_top (j := 1) rfl) sn_nil))) (.bool _) ?_
  by_cases hlen : xs.length = ys.length
  case neg =>
    have hne : xs ≠ ys := fun e => hlen (by rw [e])
    have hd : ((xs.length : Int) != (ys.length : Int)) = true := by simpa using (show ¬ (xs.length : Int) = ys.length by omega)
    refine wsq (wrg (vQ tab rfl (vnl (qth (wsq (wsq (wrg (vQ4 tab rfl rfl rfl rfl (vQ tab rfl (vnl (qth (vcd_true rfl (by simp only [hd, sl_]; first | done | omega) ?_))))))))))))
    refine wsq (wrg (vQ tab rfl (vnl (qth (vw_ret (q_thenr ?_))))))
    exact ⟨⟨.inr rfl, by rw [decide_eq_false hne]; rfl⟩, trivial⟩
  have hd : ((xs.length : Int) != (ys.length : Int)) = false := by simpa using (show (xs.length : Int) = ys.length by omega)
  refine wsq (wrg (vQ tab rfl (vnl (qth (wsq (wsq (wrg (vQ4 tab rfl rfl rfl rfl (vQ tab rfl (vnl (qth (vcd_false rfl (by simp only [hd, sl_]; first | done | omega) ?_))))))))))))
  refine vw_skip (qth (wsq (wsq (wrg (vQ tab rfl (vnl (qth (wbk ?_))))))))
  refine vw_loop_sub (fun k s => ∃ j : Int, 0 ≤ j ∧ j ≤ xs.length ∧ xs.take j.toNat = ys.take j.toNat ∧ k = (xs.length - j).toNat ∧
      s = ⟨[(0, .slice (some ⟨0, 0, none⟩) xs.length 0), (1, .slice (some ⟨1, 0, none⟩) ys.length 0), (5, .int .i64 j)], lkp [(0, .win (addrR.cells xs) 3), (1, .win (addrR.cells ys) 3)], 2⟩) (xs.length - 0)
    ⟨_, (sub_of (g := 2) [] (by decide) (by decide) (by repeat' first | exact ep_nil | refine ep_cons rfl ?_ ?_ | exact .int _ _ | exact .bool _ | exact .string _ | exact rel_slice rfl rfl | exact rel_nil rfl rfl | exact rel_ptr rfl | exact .nilPtr | exact .nilIface | exact .nilSlice) (by repeat' first | exact hp_nil | refine hp_cons rfl rfl ?_ ?_ | refine hp_void rfl rfl ?_ | exact ov_win _ | exact ov_opn _ rfl | exact ov_cells _ _ (by decide))), 0, by omega, by omega, by simp, by simp, rfl⟩ ?_
  rintro k s ⟨j, h0, h1, ht, rfl, rfl⟩
  by_cases hj : j < (xs.length : Int)
  case neg =>
    have he : xs = ys := by rw [show j.toNat = xs.length by omega, List.take_length, hlen, List.take_length] at ht; exact ht
    refine wsq (wsq (wrg (vQ4 tab rfl rfl rfl rfl (vnl (qth (vcd_false rfl (by simp only [sl_]; first | done | omega) ?_))))))
    refine vw_exit (q_thenx (q_thenx (q_here (qth (wsq (wrg (vQ tab rfl (vnl (qth (vw_ret ?_))))))))))
    exact ⟨⟨.inr rfl, by rw [decide_eq_true he]; rfl⟩, trivial⟩
  obtain ⟨a, hxa⟩ := get_some h0 hj
  obtain ⟨b, hyb⟩ := get_some (xs := ys) h0 (by omega)
  have hi : IntKind.i64.wrap (j + 1) = j + 1 := i64_in _ (by omega)
  have hjn : (j + 1).toNat = j.toNat + 1 := by omega
  by_cases hab : a = b
  · have hd := decide_eq_true hab
    refine wsq (wsq (wrg (vQ4 tab rfl rfl rfl rfl (vnl (qth (vcd_true rfl (by simp only [hi, hd, sl_]; first | done | omega) ?_))))))
    refine vw_skip (qth (wsq (wbk (wsq (vw_draw mixed (dq_op tab rfl rfl rfl rfl (dq_op tab rfl rfl rfl rfl (dq_op tab rfl rfl (ev_index rfl rfl rfl rfl rfl (by omega) (by omega)) (ev_index rfl rfl rfl rfl rfl (by omega) (by omega)) ?_))))))))
    refine dq_op tab rfl rfl (ev_loadrow addrR rfl rfl rfl rfl rfl rfl hxa) (ev_loadrow addrR rfl rfl rfl rfl rfl rfl hxa) (dq_op tab rfl rfl rfl rfl (dq_op tab rfl rfl rfl rfl (dq_op tab rfl rfl (ev_index rfl rfl rfl rfl rfl (by omega) (by omega)) (ev_index rfl rfl rfl rfl rfl (by omega) (by omega)) ?_)))
    refine dq_op tab rfl rfl (ev_loadrow addrR rfl rfl rfl rfl rfl rfl hyb) (ev_loadrow addrR rfl rfl rfl rfl rfl rfl hyb) (dq_op tab rfl rfl (ev_neq rfl rfl rfl (addr_eq a b)) (ev_neq rfl rfl rfl (addr_eq a b)) (vd_nil (by kernel_rfl) ?_))
    refine qth (vcd_false rfl (by simp only [hi, hd, sl_]; first | done | omega) ?_)
    refine vw_skip (q_norm (qth (wrg (vQ3 tab rfl rfl rfl (vnl (qth ?_))))))
    exact ⟨(xs.length - (j + 1)).toNat, _, by omega, (sub_of (g := 2) [] (by decide) (by decide) (by repeat' first | exact ep_nil | exact ri hi.symm | refine ep_cons rfl ?_ ?_ | exact .int _ _ | exact .bool _ | exact .string _ | exact rel_slice rfl rfl | exact rel_nil rfl rfl | exact rel_ptr rfl | exact .nilPtr | exact .nilIface | exact .nilSlice) (by repeat' first | exact hp_nil | exact ri hi.symm | refine hp_cons rfl rfl ?_ ?_ | refine hp_void rfl rfl ?_ | exact ov_win _ | exact ov_opn _ rfl | exact ov_cells _ _ (by decide))), j + 1, by omega, by omega, by rw [hjn]; exact take_same hxa hyb ht hab, rfl, rfl⟩
  · have hd := decide_eq_false hab
    refine wsq (wsq (wrg (vQ4 tab rfl rfl rfl rfl (vnl (qth (vcd_true rfl (by simp only [hi, hd, sl_]; first | done | omega) ?_))))))
    refine vw_skip (qth (wsq (wbk (wsq (vw_draw mixed (dq_op tab rfl rfl rfl rfl (dq_op tab rfl rfl rfl rfl (dq_op tab rfl rfl (ev_index rfl rfl rfl rfl rfl (by omega) (by omega)) (ev_index rfl rfl rfl rfl rfl (by omega) (by omega)) ?_))))))))
    refine dq_op tab rfl rfl (ev_loadrow addrR rfl rfl rfl rfl rfl rfl hxa) (ev_loadrow addrR rfl rfl rfl rfl rfl rfl hxa) (dq_op tab rfl rfl rfl rfl (dq_op tab rfl rfl rfl rfl (dq_op tab rfl rfl (ev_index rfl rfl rfl rfl rfl (by omega) (by omega)) (ev_index rfl rfl rfl rfl rfl (by omega) (by omega)) ?_)))
    refine dq_op tab rfl rfl (ev_loadrow addrR rfl rfl rfl rfl rfl rfl hyb) (ev_loadrow addrR rfl rfl rfl rfl rfl rfl hyb) (dq_op tab rfl rfl (ev_neq rfl rfl rfl (addr_eq a b)) (ev_neq rfl rfl rfl (addr_eq a b)) (vd_nil (by kernel_rfl) ?_))
    refine qth (vcd_true rfl (by simp only [hi, hd, sl_]; first | done | omega) ?_)
    refine wsq (wrg (vQ tab rfl (vnl (qth (vw_ret (q_ret (q_thenr (q_thenr (q_ret (q_thenr ?_))))))))))
    exact ⟨⟨.inr rfl, by rw [decide_eq_false (take_diff hxa hyb hab)]; rfl⟩, trivial⟩
set_option maxHeartbeats 4000000 in
theorem spoil_addrs {V : Heap} {n i : Nat} {xs : List AddrV} (hV : V i = some (.opn (addrR.cells xs) 80 3)) (hx : xs.length ≤ 140737488355328) (hin : i < n) :
    Tri Tryz.prog 35 [.slice (some ⟨i, 0, none⟩) xs.length 0] n 0 V (fun u L => u = undef ∧ L = [(i, some (.opn (addrR.cells (xs.map spoilAddr)) 80 3))]) := by
  refine call_of_vw (K := 1) (argsI := [.slice (some ⟨0, 0, none⟩) xs.length 0]) tab Tryz.func35 rfl rfl (by simp [Tryz.f35]) [.own i] [.opn (addrR.cells xs) 80 3] rfl (.own hV (ov_opn addrR rfl) .nil) (by simp [ownNames, *]) (by simp [ownNames, lookNames, *]) (by simp [ownNames, *]) (al_cons (.val (rel_slice rfl rfl)) al_nil) (seen_of (sn_own sn_nil)) ?_
  refine wsq (wrg (vQ tab rfl (vnl (qth (wbk ?_)))))
  refine vw_loop_sub (fun k s => ∃ j : Int, 0 ≤ j ∧ j ≤ xs.length ∧ k = (xs.length - j).toNat ∧
      s = ⟨[(0, .slice (some ⟨0, 0, none⟩) xs.length 0), (2, .int .i64 j)], lkp [(0, .opn (addrR.cells ((xs.take j.toNat).map spoilAddr ++ xs.drop j.toNat)) 80 3)], 1⟩) (xs.length - 0)
    ⟨_, (sub_of (g := 1) [] (by decide) (by decide) (by repeat' first | exact ep_nil | exact ov_opn addrR (by simp) | refine ep_cons rfl ?_ ?_ | exact .int _ _ | exact .bool _ | exact .string _ | exact rel_slice rfl rfl | exact rel_nil rfl rfl | exact rel_ptr rfl | exact .nilPtr | exact .nilIface | exact .nilSlice) (by repeat' first | exact hp_nil | exact ov_opn addrR (by simp) | refine hp_cons rfl rfl ?_ ?_ | refine hp_void rfl rfl ?_ | exact ov_win _ | exact ov_opn _ rfl | exact ov_cells _ _ (by decide))), 0, by omega, by omega, by simp, rfl⟩ ?_
  rintro k s ⟨j, h0, h1, rfl, rfl⟩
  by_cases hj : j < (xs.length : Int)
  case neg =>
    refine wsq (wsq (wrg (vQ4 tab rfl rfl rfl rfl (vnl (qth (vcd_false rfl (by simp only [sl_]; first | done | omega) ?_))))))
    refine vw_exit (q_thenx (q_thenx (q_here ?_)))
    exact out_mk [] (.inl rfl) ⟨rfl, rfl⟩ rfl (vrel_tuple lrel_nil) (op_cons (sigma_own (a := 0) (by simp [ownNames]) rfl) rfl rfl (ov_opn addrR (by rw [show j.toNat = xs.length by omega]; simp)) rfl op_nil) ⟨fun _ => by simp [lkp], trivial⟩
  obtain ⟨a, hxa⟩ := get_some h0 hj
  have hg := mapped_get (f := spoilAddr) hxa
  have hi : IntKind.i64.wrap (j + 1) = j + 1 := i64_in _ (by omega)
  have hjn : (j + 1).toNat = j.toNat + 1 := by omega
  refine wsq (wsq (wrg (vQ4 tab rfl rfl rfl rfl (vnl (qth (vcd_true rfl (by simp only [hi, sl_]; first | done | omega) ?_))))))
  refine vw_skip (qth (wsq (wbk (wrg (vQ4 tab rfl rfl rfl rfl (vq_op tab rfl rfl rfl (ev_index rfl rfl rfl rfl rfl (by omega) (by omega)) ?_))))))
  refine vQ tab rfl (vq_op tab rfl rfl rfl (ev_loadcell addrR rfl rfl rfl rfl rfl hg rfl) (vQ tab rfl (vq_op tab rfl rfl rfl (ev_index rfl rfl rfl rfl rfl (by omega) (by omega)) ?_)))
  refine vQ tab rfl (vs_op tab rfl rfl (ev_storecell addrR rfl rfl rfl rfl rfl rfl hg (a' := spoilAddr a) rfl rfl (by decide)) ?_)
  refine vnl (q_norm (qth (wrg (vQ3 tab rfl rfl rfl (vnl (qth ?_))))))
  exact ⟨(xs.length - (j + 1)).toNat, _, by omega, (sub_of (g := 1) [] (by decide) (by decide) (by repeat' first | exact ep_nil | exact ri hi.symm | exact ov_opn addrR (by rw [hjn]; exact (mapped_set hxa).symm) | refine ep_cons rfl ?_ ?_ | exact .int _ _ | exact .bool _ | exact .string _ | exact rel_slice rfl rfl | exact rel_nil rfl rfl | exact rel_ptr rfl | exact .nilPtr | exact .nilIface | exact .nilSlice) (by repeat' first | exact hp_nil | exact ri hi.symm | exact ov_opn addrR (by rw [hjn]; exact (mapped_set hxa).symm) | refine hp_cons rfl rfl ?_ ?_ | refine hp_void rfl rfl ?_ | exact ov_win _ | exact ov_opn _ rfl | exact ov_cells _ _ (by decide))), j + 1, by omega, by omega, rfl, rfl⟩
end Go.Proofs.YtcjfidfealifhaaGreat
namespace Go.Proofs.YtcjfidfealifhaaGreat
open Go Vm IntWalk
set_option linter.unusedVariables false
set_option linter.unusedSimpArgs false
theorem findI_any {α : Type} (p : α → Bool) (xs : List α) : decide (0 ≤ findI p xs) = xs.any p := by
  unfold findI
  cases h : xs.findIdx? p with
  | none =>
    rw [List.findIdx?_eq_none_iff] at h
    have : xs.any p = false := List.any_eq_false.2 fun x hx => by simpa using h x hx
    rw [this]; rfl
  | some j =>
    rw [List.findIdx?_eq_some_iff_getElem] at h
    obtain ⟨h1, h2, _⟩ := h
    have : xs.any p = true := List.any_eq_true.2 ⟨xs[j], by simp, h2⟩
    rw [this]; simp
set_option maxHeartbeats 4000000 in
theorem indexfunc_addrs {V : Heap} {n : Nat} {sv : Value} {xs : List AddrV} {F' : FuncId} {caps : List Value} (capsI : List Value) (p : AddrV → Bool) (is : List Nat) (os : List VObj) (hl : Looks V 3 sv (addrR.cells xs) xs.length) (hx : xs.length ≤ 140737488355328)
    (he : EList V (.look sv xs.length 3 :: is.map .own) (is.map .own) os) (hn : is.Nodup) (hd : ∀ x ∈ lookNames [.look sv xs.length 3], x ∉ is) (hcaps : LRel (ownR (.look sv xs.length 3 :: is.map .own)) capsI caps) (hF : Callable Tryz.prog F')
    (hcall : ∀ n' (V' : Heap), (∀ (a : Nat) (o : VObj), os[a]? = some o → V' (1 + a) = some o) → ∀ x ∈ xs, Tri Tryz.prog F' (.agg (addrR.f x).toArray :: capsI) n' 0 V' (fun u L => u = .bool (p x) ∧ L = [])) :
    Tri Tryz.prog 104 [sv, .func (.func F') #[] caps.toArray] n 0 V (fun u L => u = .int .i64 (findI p xs) ∧ L = []) := by
  refine reads_of_vw (argsI := [.slice (some ⟨0, 0, none⟩) xs.length 0, .func (.func F') #[] capsI.toArray]) tab Tryz.func104 rfl rfl (by simp [Tryz.f104]) (.look sv xs.length 3 :: is.map .own) (.win (addrR.cells xs) 3 :: os) rfl (.look hl (addrR.flat_cells xs) he)
    (by show (ownNames (is.map .own)).Nodup; rw [ownNames_map]; exact hn) ?_ (al_cons (.look (a := 0) rfl) (al_cons (.val (rel_func hcaps)) al_nil)) (seen_of (sn_look (seen_top (j := 0) rfl) (seen_owns is))) (.int _ _) ?_
  · have e : ownNames (.look sv xs.length 3 :: is.map .own) = is := ownNames_map is
    rw [e]
    rw [lookNames_one]; exact hd
  have hos : ∀ (a : Nat) (o : VObj), os[a]? = some o → lkp (oHeap 0 (.win (addrR.cells xs) 3 :: os)) (1 + a) = some o := fun a o h => by
    have := oHeap_get (k := 0) (os := .win (addrR.cells xs) 3 :: os) (a := a + 1) (o := o) (by simpa using h)
    rw [Nat.zero_add, Nat.add_comm] at this; exact this
  have hst : Stays (lkp (oHeap 0 (.win (addrR.cells xs) 3 :: os))) 0 (.look sv xs.length 3 :: is.map .own) (.win (addrR.cells xs) 3 :: os) := stays_self fun a o h => oHeap_get h
  refine wsq (wrg (vQ tab rfl (vnl (qth (wsq (wsq (wrg (vQ3 tab rfl rfl rfl (vnl (qth (wbk ?_)))))))))))
  refine vw_loop_env (fun k env => ∃ j : Int, 0 ≤ j ∧ j ≤ xs.length ∧ (xs.take j.toNat).any p = false ∧ k = (xs.length - j).toNat ∧
      env = [(0, .slice (some ⟨0, 0, none⟩) xs.length 0), (1, .func (.func F') #[] capsI.toArray), (7, .int .i64 xs.length), (8, .int .i64 j)]) (xs.length - 0)
    ⟨_, se_cons rfl (se_cons rfl (se_cons rfl (se_cons rfl se_nil))), 0, by omega, by omega, by simp, by simp, rfl⟩ ?_
  rintro k env ⟨j, h0, h1, ht, rfl, rfl⟩
  by_cases hj : j < (xs.length : Int)
  case neg =>
    rw [show j.toNat = xs.length by omega, List.take_length] at ht
    refine wsq (wrg (vQ tab rfl (vnl (qth (wsq (vcd_false rfl (by simp only [sl_]; first | done | omega) ?_))))))
    refine vw_exit (q_thenx (q_thenx (q_here (qth (wsq (wrg (vQ tab rfl (vnl (qth (vw_ret ?_))))))))))
    exact ⟨⟨.inr rfl, by rw [findI_none ht]; rfl⟩, hst⟩
  obtain ⟨a, hxa⟩ := get_some h0 hj
  have hi : IntKind.i64.wrap (j + 1) = j + 1 := i64_in _ (by omega)
  have hjn : (j + 1).toNat = j.toNat + 1 := by omega
  have hT := fun n' => hcall n' (lkp (oHeap 0 (.win (addrR.cells xs) 3 :: os))) hos a (List.mem_of_getElem? hxa)
  cases hp : p a with
  | true =>
    refine wsq (wrg (vQ tab rfl (vnl (qth (wsq (vcd_true rfl (by simp only [hi, hp, sl_]; first | done | omega) ?_))))))
    refine vw_skip (qth (wsq (wbk (wsq (wrg (vQ2 tab rfl rfl (vnl (qth (wsq (wrg (vQ3 tab rfl rfl rfl (vq_op tab rfl rfl rfl (ev_index rfl rfl rfl rfl rfl (by omega) (by omega)) ?_))))))))))))
    refine vq_op tab rfl rfl rfl (ev_loadrow addrR rfl rfl rfl rfl rfl rfl hxa) (vclr_op rfl rfl rfl rfl rfl rfl hF (hT _) (vnl (qth (vcd_true rfl (by simp only [hi, hp, sl_]; first | done | omega) ?_))))
    refine wsq (wrg (vQ2 tab rfl rfl (vnl (qth (vw_ret (q_ret (q_thenr (q_thenr (q_ret (q_thenr ?_))))))))))
    exact ⟨⟨.inr rfl, by rw [findI_some hxa hp ht]; exact congrArg (fun j => some (Value.int .i64 j)) (by omega)⟩, hst⟩
  | false =>
    refine wsq (wrg (vQ tab rfl (vnl (qth (wsq (vcd_true rfl (by simp only [hi, hp, sl_]; first | done | omega) ?_))))))
    refine vw_skip (qth (wsq (wbk (wsq (wrg (vQ2 tab rfl rfl (vnl (qth (wsq (wrg (vQ3 tab rfl rfl rfl (vq_op tab rfl rfl rfl (ev_index rfl rfl rfl rfl rfl (by omega) (by omega)) ?_))))))))))))
    refine vq_op tab rfl rfl rfl (ev_loadrow addrR rfl rfl rfl rfl rfl rfl hxa) (vclr_op rfl rfl rfl rfl rfl rfl hF (hT _) (vnl (qth (vcd_false rfl (by simp only [hi, hp, sl_]; first | done | omega) ?_))))
    refine vw_skip (q_norm (qth (wrg (vQ2 tab rfl rfl (vnl (qth ?_))))))
    exact ⟨rfl, rfl, (xs.length - (j + 1)).toNat, _, by omega, se_cons rfl (se_cons rfl (se_cons rfl (se_cons (se_int rfl hi) se_nil))), j + 1, by omega, by omega, by rw [hjn]; exact any_take hxa hp ht, rfl, rfl⟩
set_option maxHeartbeats 4000000 in
theorem contains_addrs {V : Heap} {n : Nat} {sv : Value} {xs : List AddrV} {F' : FuncId} (p : AddrV → Bool) (hl : Looks V 3 sv (addrR.cells xs) xs.length) (hx : xs.length ≤ 140737488355328) (hF : Callable Tryz.prog F')
    (hcall : ∀ x ∈ xs, Fun Tryz.prog F' [.agg (addrR.f x).toArray] (.bool (p x))) :
    Tri Tryz.prog 102 [sv, .func (.func F') #[] #[]] n 0 V (fun u L => u = .bool (xs.any p) ∧ L = []) := by
  refine reads_of_vw (K := 1) (argsI := [.slice (some ⟨0, 0, none⟩) xs.length 0, .func (.func F') #[] #[]]) tab Tryz.func102 rfl rfl (by simp [Tryz.f102]) [.look sv xs.length 3] [.win (addrR.cells xs) 3] rfl (.look hl (addrR.flat_cells xs) .nil) (by simp [ownNames]) (by simp [ownNames, lookNames]) (al_cons (.look (a := 0) rfl) (al_cons (.val (rel_func lrel_nil)) al_nil)) (seen_of (sn_look (seen_top (j := 0) rfl) sn_nil)) (.bool _) ?_
  refine wsq (wrg (vQ tab rfl (vnl (qth (wsq (wrg (vQ2 tab rfl rfl (vR rfl callable_104 (indexfunc_addrs (caps := []) [] p [] [] (looks_win addrR rfl rfl) hx .nil (by decide) (by simp) lrel_nil hF (fun n' V' _ x hx => hcall x hx n' V')) ?_))))))))
  refine vQ2 tab rfl rfl (vnl (qth (vw_ret ?_)))
  exact ⟨⟨.inr rfl, Eq.trans (b := some (.bool (decide (0 ≤ findI p xs)))) rfl (congrArg (fun b => some (Value.bool b)) (findI_any p xs))⟩, trivial⟩
def userOk (u : Int) : Bool := decide (0 ≤ u) && decide (u < 8)
theorem usermay_fun (u : Int) : Fun Tryz.prog 90 [.int .i64 u] (.bool (userOk u)) := by
  refine fun_of_vw tab Tryz.func90 rfl rfl (by simp [Tryz.f90]) (lrel_cons (.int _ _) lrel_nil) (.bool _) ?_
  refine wsq (wrg (vQ tab rfl (vnl (qth (wsq (wrg (vQ2 tab rfl rfl (vQ tab rfl ?_))))))))
  refine vg_op rfl rfl rfl (fun _ => ?_) (fun _ => ?_)
  refine vQ4 tab rfl rfl rfl rfl (vnl (qth (vw_ret ?_)))
  rotate_left
  refine vK2 rfl rfl (vQ2 tab rfl rfl (vnl (qth (vw_ret ?_))))
  rotate_left
  all_goals exact ⟨.inr rfl, Eq.trans (b := some (.bool _)) rfl (congrArg (fun b => some (Value.bool b)) (by simp_all [userOk] <;> (intros; omega)))⟩
def badA (a : AddrV) : Bool := ((a.last != -1) && !userOk a.last) || decide (a.until_ < 0)
set_option maxHeartbeats 4000000 in
theorem bad_fun (a : AddrV) : Fun Tryz.prog 101 [.agg (addrR.f a).toArray] (.bool (badA a)) := by
  refine fun_of_vw tab Tryz.func101 rfl rfl (by simp [Tryz.f101]) (lrel_cons (addrRel a) lrel_nil) (.bool _) ?_
  refine wsq (wrg (vN tab rfl (vQ tab rfl (vnl (qth (wsq (wrg (vQ3 tab rfl rfl rfl (vQ tab rfl ?_)))))))))
  refine vg_op rfl rfl rfl (fun _ => ?_) (fun _ => ?_)
  refine vQ2 tab rfl rfl (vF rfl callable_90 (usermay_fun _) (vQ2 tab rfl rfl (vQ tab rfl ?_)))
  refine vg_op rfl rfl rfl (fun _ => ?_) (fun _ => ?_)
  refine vQ4 tab rfl rfl rfl rfl (vQ tab rfl (vnl (qth (vw_ret ?_))))
  rotate_left
  refine vK3 rfl rfl rfl (vQ2 tab rfl rfl (vnl (qth (vw_ret ?_))))
  rotate_left
  refine vK4 rfl rfl rfl rfl (vQ4 tab rfl rfl rfl rfl (vQ3 tab rfl rfl rfl (vnl (qth (vw_ret ?_)))))
  rotate_left
  all_goals exact ⟨.inr rfl, Eq.trans (b := some (.bool _)) rfl (congrArg (fun b => some (Value.bool b)) (by simp_all [badA] <;> (intros; omega)))⟩
def mayP (xs : List AddrV) : Bool := (decide (1 ≤ (xs.length : Int)) && decide ((xs.length : Int) ≤ 16)) && !xs.any badA
set_option maxHeartbeats 4000000 in
theorem may_tri {V : Heap} {n : Nat} {sv : Value} {xs : List AddrV} (hl : Looks V 3 sv (addrR.cells xs) xs.length) (hx : xs.length ≤ 140737488355328) :
    Tri Tryz.prog 89 [sv] n 0 V (fun u L => u = .bool (mayP xs) ∧ L = []) := by
  refine reads_of_vw (K := 1) (argsI := [.slice (some ⟨0, 0, none⟩) xs.length 0]) tab Tryz.func89 rfl rfl (by simp [Tryz.f89]) [.look sv xs.length 3] [.win (addrR.cells xs) 3] rfl (.look hl (addrR.flat_cells xs) .nil) (by simp [ownNames]) (by simp [ownNames, lookNames]) (al_cons (.look (a := 0) rfl) al_nil) (seen_of (sn_look (seen_top (j := 0) rfl) sn_nil)) (.bool _) ?_
  refine wsq (wrg (vQ tab rfl (vnl (qth (wsq (wrg (vQ tab rfl (vnl (qth (wsq (wrg (vQ3 tab rfl rfl rfl (vQ tab rfl ?_)))))))))))))
  refine vg_op rfl rfl rfl (fun _ => ?_) (fun _ => ?_)
  refine vQ4 tab rfl rfl rfl rfl (vQ tab rfl ?_)
  refine vg_op rfl rfl rfl (fun _ => ?_) (fun _ => ?_)
  refine vQ2 tab rfl rfl (vR rfl callable_102 (contains_addrs badA (looks_win addrR rfl rfl) hx callable_101 (fun x _ => bad_fun x)) (vQ3 tab rfl rfl rfl (vnl (qth (vw_ret ?_)))))
  rotate_left
  refine vK4 rfl rfl rfl rfl (vQ2 tab rfl rfl (vnl (qth (vw_ret ?_))))
  rotate_left
  refine vK3 rfl rfl rfl (vQ2 tab rfl rfl (vK4 rfl rfl rfl rfl (vQ2 tab rfl rfl (vnl (qth (vw_ret ?_))))))
  rotate_left
  all_goals exact ⟨⟨.inr rfl, Eq.trans (b := some (.bool _)) rfl (congrArg (fun b => some (Value.bool b)) (by simp_all [mayP] <;> (intros; omega)))⟩, trivial⟩
def thereB (xs : List AddrV) (i : Int) : Bool := decide (0 ≤ i) && decide (i < (xs.length : Int))
set_option maxHeartbeats 4000000 in
theorem there_tri {V : Heap} {n : Nat} {sv : Value} {xs : List AddrV} (i : Int) (hl : Looks V 3 sv (addrR.cells xs) xs.length) :
    Tri Tryz.prog 91 [sv, .int .i64 i] n 0 V (fun u L => u = .bool (thereB xs i) ∧ L = []) := by
  refine reads_of_vw (K := 1) (argsI := [.slice (some ⟨0, 0, none⟩) xs.length 0, .int .i64 i]) tab Tryz.func91 rfl rfl (by simp [Tryz.f91]) [.look sv xs.length 3] [.win (addrR.cells xs) 3] rfl (.look hl (addrR.flat_cells xs) .nil) (by simp [ownNames]) (by simp [ownNames, lookNames]) (al_cons (.look (a := 0) rfl) (al_cons (.val (.int _ _)) al_nil)) (seen_of (sn_look (seen_top (j := 0) rfl) sn_nil)) (.bool _) ?_
  refine wsq (wrg (vQ tab rfl (vnl (qth (wsq (wrg (vQ2 tab rfl rfl (vQ tab rfl ?_))))))))
  refine vg_op rfl rfl rfl (fun _ => ?_) (fun _ => ?_)
  refine vQ4 tab rfl rfl rfl rfl (vQ2 tab rfl rfl (vnl (qth (vw_ret ?_))))
  rotate_left
  refine vK4 rfl rfl rfl rfl (vQ2 tab rfl rfl (vnl (qth (vw_ret ?_))))
  rotate_left
  all_goals exact ⟨⟨.inr rfl, Eq.trans (b := some (.bool _)) rfl (congrArg (fun b => some (Value.bool b)) (by simp_all [thereB] <;> (intros; omega)))⟩, trivial⟩
set_option maxHeartbeats 4000000 in
theorem clone_addrs {V : Heap} {n : Nat} {sv : Value} {xs : List AddrV} (hl : Looks V 3 sv (addrR.cells xs) xs.length) (hb : xs.length * 24 ≤ 140737488355328) :
    Tri Tryz.prog 46 [sv] n 1 V (fun u L => u = .slice (some ⟨n, 0, none⟩) xs.length 0 ∧ L = [(n, some (.opn (addrR.cells xs) 80 3))]) := by
  refine call_of_vw (K := 1) (argsI := [.slice (some ⟨0, 0, none⟩) xs.length 0]) tab Tryz.func46 rfl rfl (by simp [Tryz.f46]) [.look sv xs.length 3] [.win (addrR.cells xs) 3] rfl (.look hl (addrR.flat_cells xs) .nil) (by simp [ownNames]) (by simp [ownNames, lookNames]) (by simp [ownNames, *]) (al_cons (.look (a := 0) rfl) al_nil) (seen_of (sn_look (seen_top (j := 0) rfl) sn_nil)) ?_
  refine wsq (wrg (vQ tab rfl (vnl (qth (wsq (wsq (wrg (vQ tab rfl ?_))))))))
  refine vnil_op tab rfl rfl rfl rfl rfl rfl rfl (fun hz => ?_) ?_
  refine vnl (qth (vc_true rfl (wsq (wrg (vQ tab rfl (vnl (qth (vw_ret (q_thenr ?_)))))))))
  rotate_left
  refine vnl (qth (vc_false rfl (vw_skip (qth (wsq (wrg (vN tab rfl (vQ tab rfl (vo_op rfl rfl rfl (opr_ev tab (ev_app addrR (xs := []) (ys := xs) (m := xs.length) rfl rfl rfl rfl rfl rfl (news_all addrR rfl rfl) rfl rfl (by rw [Nat.zero_add]; exact hb) (by omega))) ?_)))))))))
  refine vQ tab rfl (vnl (qth (vw_ret ?_)))
  rotate_left
  · obtain rfl := List.length_eq_zero_iff.1 hz
    exact out_mk [NIL] (.inr rfl) ⟨rfl, rfl⟩ rfl (rel_nil (sigma_nil (i := 0) rfl) rfl) (op_void (sigma_nil (i := 0) rfl) rfl rfl rfl op_nil) trivial
  · exact out_mk [2] (.inr rfl) ⟨rfl, rfl⟩ rfl (rel_slice (sigma_look (i := 0) rfl) (by omega)) (op_cons (sigma_look (i := 0) rfl) rfl rfl (ov_opn addrR rfl) rfl op_nil) trivial
set_option maxHeartbeats 4000000 in
theorem with_tri {V : Heap} {n : Nat} {sv : Value} {xs : List AddrV} {i : Int} (a : AddrV) (hl : Looks V 3 sv (addrR.cells xs) xs.length) (hb : xs.length * 24 ≤ 140737488355328) (h0 : 0 ≤ i) (h1 : i < (xs.length : Int)) :
    Tri Tryz.prog 92 [sv, .int .i64 i, addrV a] n 1 V (fun u L => u = .slice (some ⟨n, 0, none⟩) xs.length 0 ∧ L = [(n, some (.opn (addrR.cells (xs.set i.toNat a)) 80 3))]) := by
  refine call_of_vw (K := 1) (argsI := [.slice (some ⟨0, 0, none⟩) xs.length 0, .int .i64 i, addrV a]) tab Tryz.func92 rfl rfl (by simp [Tryz.f92]) [.look sv xs.length 3] [.win (addrR.cells xs) 3] rfl (.look hl (addrR.flat_cells xs) .nil) (by simp [ownNames]) (by simp [ownNames, lookNames]) (by simp [ownNames, *]) (al_cons (.look (a := 0) rfl) (al_cons (.val (.int _ _)) (al_cons (.val (addrRel a)) al_nil))) (seen_of (sn_look (seen_top (j := 0) rfl) sn_nil)) ?_
  refine wsq (wrg (vN tab rfl (vQ tab rfl (vnl (qth (wsq (wrg (vQ tab rfl (vT rfl callable_46 (clone_addrs (looks_win addrR rfl rfl) hb) (vQ tab rfl (vnl (qth (wsq (wrg (vQ3 tab rfl rfl rfl (vq_op tab rfl rfl rfl (ev_index rfl rfl rfl rfl rfl (by omega) (by omega)) ?_))))))))))))))))
  refine vs_op tab rfl rfl (ev_storerow addrR rfl rfl rfl rfl rfl rfl (by omega) (a' := a)) ?_
  refine vnl (qth (wsq (wrg (vQ2 tab rfl rfl (vnl (qth (vw_ret ?_)))))))
  exact out_mk [2] (.inr rfl) ⟨rfl, rfl⟩ rfl (rel_slice (sigma_look (i := 0) rfl) rfl) (op_cons (sigma_look (i := 0) rfl) rfl rfl (ov_opn addrR rfl) rfl op_nil) trivial
set_option maxHeartbeats 4000000 in
theorem refwith_tri {V : Heap} {n : Nat} {sv : Value} {xs : List AddrV} {i : Int} (a : AddrV) (hl : Looks V 3 sv (addrR.cells xs) xs.length) (hb : xs.length * 24 ≤ 140737488355328) (h0 : 0 ≤ i) (h1 : i < (xs.length : Int)) :
    Tri Tryz.prog 97 [sv, .int .i64 i, addrV a] n 1 V (fun u L => u = .slice (some ⟨n, 0, none⟩) xs.length 0 ∧ L = [(n, some (.opn (addrR.cells (xs.set i.toNat a)) 80 3))]) := by
  refine call_of_vw (K := 1) (argsI := [.slice (some ⟨0, 0, none⟩) xs.length 0, .int .i64 i, addrV a]) tab Tryz.func97 rfl rfl (by simp [Tryz.f97]) [.look sv xs.length 3] [.win (addrR.cells xs) 3] rfl (.look hl (addrR.flat_cells xs) .nil) (by simp [ownNames]) (by simp [ownNames, lookNames]) (by simp [ownNames, *]) (al_cons (.look (a := 0) rfl) (al_cons (.val (.int _ _)) (al_cons (.val (addrRel a)) al_nil))) (seen_of (sn_look (seen_top (j := 0) rfl) sn_nil)) ?_
  refine wsq (wrg (vN tab rfl (vQ tab rfl (vnl (qth (wsq (wrg (vN tab rfl (vQ tab rfl (vo_op rfl rfl rfl (opr_ev tab (ev_app addrR (xs := []) (ys := xs) (m := xs.length) rfl rfl rfl rfl rfl rfl (news_all addrR rfl rfl) rfl rfl (by rw [Nat.zero_add]; exact hb) (by omega))) ?_))))))))))
  refine vQ tab rfl (vnl (qth (wsq (wrg (vQ3 tab rfl rfl rfl (vq_op tab rfl rfl rfl (ev_index rfl rfl rfl rfl rfl (by omega) (by omega)) ?_))))))
  refine vs_op tab rfl rfl (ev_storerow addrR rfl rfl rfl rfl rfl rfl (by show _ < ([] ++ xs).length; rw [List.nil_append]; omega) (a' := a)) ?_
  refine vnl (qth (wsq (wrg (vQ2 tab rfl rfl (vnl (qth (vw_ret ?_)))))))
  exact out_mk [3] (.inr rfl) ⟨rfl, rfl⟩ rfl (rel_slice (sigma_look (i := 0) rfl) (by omega)) (op_cons (sigma_look (i := 0) rfl) rfl rfl (ov_opn addrR rfl) rfl op_nil) trivial
end Go.Proofs.YtcjfidfealifhaaGreat
namespace Go.Proofs.YtcjfidfealifhaaGreat
open Go Vm IntWalk
set_option linter.unusedVariables false
set_option linter.unusedSimpArgs false
theorem mask32 {b : Int} (h0 : 0 ≤ b) (h1 : b < 4294967296) : bits .and .u64 b 4294967295 = b := by
  obtain ⟨k, rfl⟩ := Int.eq_ofNat_of_zero_le h0
  have hk : k < 4294967296 := by omega
  show IntKind.u64.wrap (((BitVec.ofInt 64 (k : Int) &&& BitVec.ofInt 64 4294967295).toNat : Nat) : Int) = _
  have h2 : (BitVec.ofInt 64 (4294967295 : Int)).toNat = 2 ^ 32 - 1 := by decide
  have h3 : (BitVec.ofInt 64 (k : Int)).toNat = k := by
    rw [BitVec.toNat_ofInt]
    have : ((k : Int) % ((2 ^ 64 : Nat) : Int)).toNat = k := by omega
    exact this
  rw [BitVec.toNat_and, h2, h3, Nat.and_two_pow_sub_one_eq_mod, Nat.mod_eq_of_lt hk, wrapu]
  omega
theorem shr32 {b : Int} (h0 : 0 ≤ b) (h1 : b < 4294967296) : b.fdiv (2 ^ (min (32 : Int).toNat IntKind.u64.bits)) = 0 := by
  rw [Int.fdiv_eq_ediv_of_nonneg _ (by decide)]
  show b / 4294967296 = 0
  omega
set_option maxHeartbeats 4000000 in
theorem mul64_fun {b : Int} (h0 : 0 ≤ b) (h1 : b < 4294967296) : Fun Tryz.prog 85 [.int .u64 1, .int .u64 b] (.tuple #[.int .u64 0, .int .u64 b]) := by
  refine fun_of_vw tab Tryz.func85 rfl rfl (by simp [Tryz.f85]) (lrel_cons (.int _ _) (lrel_cons (.int _ _) lrel_nil)) (vrel_tuple (lrel_cons (.int _ _) (lrel_cons (.int _ _) lrel_nil))) ?_
  refine wsq (wrg (vQ2 tab rfl rfl (vnl (qth (wsq (wrg (vQ3 tab rfl rfl rfl (vnl (qth (wsq (wrg (vQ3 tab rfl rfl rfl (vnl (qth (wsq (wrg (vQ tab rfl (vQ tab rfl ?_))))))))))))))))))
  refine vQ tab rfl (vnl (qth (wsq (wrg (vQ3 tab rfl rfl rfl (vnl (qth (wsq (wrg (vQ4 tab rfl rfl rfl rfl (vnl (qth (wsq (wrg (vQ3 tab rfl rfl rfl (vQ tab rfl ?_))))))))))))))))
  refine vQ3 tab rfl rfl rfl (vnl (qth (wsq (wrg (vQ3 tab rfl rfl rfl (vnl (qth (wsq (wrg (vQ3 tab rfl rfl rfl (vnl (qth (wsq (wrg (vQ2 tab rfl rfl (vQ tab rfl ?_))))))))))))))))
  refine vQ3 tab rfl rfl rfl (vnl (qth (wsq (wrg (vQ4 tab rfl rfl rfl rfl (vQ4 tab rfl rfl rfl rfl (vQ tab rfl (vnl (qth (wsq (wrg (vQ3 tab rfl rfl rfl (vQ tab rfl ?_)))))))))))))
  refine vnl (qth (vw_ret ?_))
  have e1 : bits .and .u64 1 4294967295 = 1 := mask32 (by decide) (by decide)
  have e2 : (1 : Int).fdiv (2 ^ (min (32 : Int).toNat IntKind.u64.bits)) = 0 := shr32 (by decide) (by decide)
  have e3 := mask32 h0 h1
  have e4 := shr32 h0 h1
  have e5 : IntKind.u64.wrap b = b := by rw [wrapu]; omega
  have e6 : IntKind.u64.wrap 0 = 0 := by decide
  have e7 : bits .and .u64 0 4294967295 = 0 := by decide
  have e8 : (0 : Int).fdiv (2 ^ (min (32 : Int).toNat IntKind.u64.bits)) = 0 := by decide
  refine ⟨.inr rfl, Eq.trans (b := some (.tuple #[.int .u64 _, .int .u64 _])) rfl ?_⟩
  simp only [e1, e2, e3, e4, e5, e6, e7, e8, Int.one_mul, Int.zero_mul, Int.mul_zero, Int.add_zero, Int.zero_add]
theorem mul_fun {x y b : Int} (hx : x = 1) (hy : y = b) (h0 : 0 ≤ b) (h1 : b < 4294967296) : Fun Tryz.prog 66 [.int .u64 x, .int .u64 y] (.tuple #[.int .u64 0, .int .u64 b]) := by
  subst hx; subst hy
  refine fun_of_vw tab Tryz.func66 rfl rfl (by simp [Tryz.f66]) (lrel_cons (.int _ _) (lrel_cons (.int _ _) lrel_nil)) (vrel_tuple (lrel_cons (.int _ _) (lrel_cons (.int _ _) lrel_nil))) ?_
  refine wsq (wrg (vQ2 tab rfl rfl (vnl (qth (wsq (vcc_false (vw_skip (qth (wsq (wrg (vQ2 tab rfl rfl (vF rfl callable_85 (mul64_fun h0 h1) (vQ4 tab rfl rfl rfl rfl (vQ tab rfl (vnl (qth (wsq (wrg ?_))))))))))))))))))
  refine vQ4 tab rfl rfl rfl rfl (vnl (qth (vw_ret ?_)))
  exact ⟨.inr rfl, rfl⟩
set_option maxHeartbeats 4000000 in
theorem repeat_tri {V : Heap} {n : Nat} {sv : Value} (a : AddrV) (b : Nat) (hl : Looks V 3 sv (addrR.cells [a]) [a].length) (h0 : 1 ≤ b) (h1 : b ≤ 16) :
    Tri Tryz.prog 38 [sv, .int .i64 (b : Int)] n 1 V (fun u L => u = .slice (some ⟨n, 0, none⟩) b 0 ∧ L = [(n, some (.opn (addrR.cells (List.replicate b a)) 80 3))]) := by
  refine call_of_vw (K := 1) (argsI := [.slice (some ⟨0, 0, none⟩) ([a]).length 0, .int .i64 (b : Int)]) tab Tryz.func38 rfl rfl (by simp [Tryz.f38]) [.look sv ([a]).length 3] [.win (addrR.cells ([a])) 3] rfl (.look hl (addrR.flat_cells ([a])) .nil) (by simp [ownNames]) (by simp [ownNames, lookNames]) (by simp [ownNames, *]) (al_cons (.look (a := 0) rfl) (al_cons (.val (.int _ _)) al_nil)) (seen_of (sn_look (seen_top (j := 0) rfl) sn_nil)) ?_
  have w1 : IntKind.u64.wrap (([a].length : Nat) : Int) = 1 := by rw [wrapu]; rfl
  have w2 : IntKind.u64.wrap (b : Int) = b := by rw [wrapu]; omega
  have w3 : IntKind.i64.wrap (b : Int) = b := i64_in _ (by omega)
  refine wsq (wrg (vQ tab rfl (vnl (qth (wsq (wsq (wrg (vQ2 tab rfl rfl (vnl (qth (vc_false rfl (vw_skip (qth (wsq (wrg (vQ4 tab rfl rfl rfl rfl (vQ tab rfl (vF rfl callable_66 (mul_fun w1 w2 (by omega) (by omega)) ?_))))))))))))))))))
  refine vQ4 tab rfl rfl rfl rfl (vQ tab rfl (vnl (qth (wsq (wsq (wrg (vQ4 tab rfl rfl rfl rfl (vQ2 tab rfl rfl (vnl (qth (vcd_false rfl (by simp only [sl_]; first | done | omega) ?_)))))))))))
  refine vw_skip (qth (wsq (wrg (vQ2 tab rfl rfl (vn_op tab rfl rfl rfl (ev_make addrR ⟨false, 0, 0⟩ (k := b) rfl rfl rfl rfl rfl rfl rfl w3 w3 (by show 24 * b ≤ _; omega) (by omega)) ?_)))))
  refine vQ tab rfl (vnl (qth (wsq (wrg (vQ2 tab rfl rfl (vo_op rfl rfl rfl (opr_ev tab (ev_copy addrR (p := 0) (m := 1) (ys := [a]) rfl rfl rfl rfl rfl rfl rfl (by show min 1 b = 1; omega) (first_rows addrR (q := 0) (m := 1) (zs := [a]) rfl (by simp) (by simp)) rfl rfl (by simp; omega))) ?_))))))
  refine vQ tab rfl (vnl (qth (wsq (wbk ?_))))
  have hst : (List.replicate b (⟨false, 0, 0⟩ : AddrV)).take 0 ++ [a] ++ (List.replicate b ⟨false, 0, 0⟩).drop (0 + 1) = List.replicate 1 a ++ List.replicate (b - 1) ⟨false, 0, 0⟩ := by
    rw [List.take_zero, List.drop_replicate]; rfl
  refine vw_loop_sub (fun k s => ∃ m : Nat, 1 ≤ m ∧ m ≤ b ∧ k = b - m ∧
      s = ⟨[(7, .slice (some ⟨1, 0, none⟩) b 0), (8, .int .i64 (m : Int))],
        lkp [(0, .win (addrR.cells [a]) 3), (1, .opn (addrR.cells (List.replicate m a ++ List.replicate (b - m) ⟨false, 0, 0⟩)) 80 3)], 2⟩) (b - 1)
    ⟨_, (sub_of (g := 1) [1] (by decide) (by decide) (by repeat' first | exact ep_nil | exact ov_opn addrR hst.symm | refine ep_cons rfl ?_ ?_ | exact .int _ _ | exact .bool _ | exact .string _ | exact rel_slice rfl rfl | exact rel_nil rfl rfl | exact rel_ptr rfl | exact .nilPtr | exact .nilIface | exact .nilSlice) (by repeat' first | exact hp_nil | exact ov_opn addrR hst.symm | refine hp_cons rfl rfl ?_ ?_ | refine hp_void rfl rfl ?_ | exact ov_win _ | exact ov_opn _ rfl | exact ov_cells _ _ (by decide))), 1, by omega, by omega, by omega, rfl⟩ ?_
  rintro k s ⟨m, g0, g1, rfl, rfl⟩
  by_cases hm : (m : Int) < b
  case neg =>
    have hmb : m = b := by omega
    subst hmb
    refine wsq (wsq (wrg (vQ4 tab rfl rfl rfl rfl (vnl (qth (vcd_false rfl (by simp only [sl_]; first | done | omega) ?_))))))
    refine vw_exit (q_thenx (q_thenx (q_here (qth (wsq (wrg (vQ2 tab rfl rfl (vnl (qth (vw_ret ?_))))))))))
    exact out_mk [1] (.inr rfl) ⟨rfl, rfl⟩ rfl (rel_slice (sigma_look (i := 0) rfl) rfl) (op_cons (sigma_look (i := 0) rfl) rfl rfl (ov_opn addrR (by simp)) rfl op_nil) trivial
  obtain ⟨c, hc⟩ : ∃ c, c = min m (b - m) := ⟨_, rfl⟩
  have hlen : (List.replicate m a ++ List.replicate (b - m) (⟨false, 0, 0⟩ : AddrV)).length = b := by simp; omega
  have hys : ((List.replicate m a ++ List.replicate (b - m) (⟨false, 0, 0⟩ : AddrV)).drop (0 + 0)).take c = List.replicate c a := by
    rw [List.drop_zero, List.take_append_of_le_length (by simp; omega), List.take_replicate, Nat.min_eq_left (by omega)]
  have hnew : (List.replicate m a ++ List.replicate (b - m) (⟨false, 0, 0⟩ : AddrV)).take (0 + m) ++ List.replicate c a ++ (List.replicate m a ++ List.replicate (b - m) (⟨false, 0, 0⟩ : AddrV)).drop (0 + m + c) = List.replicate (m + c) a ++ List.replicate (b - (m + c)) (⟨false, 0, 0⟩ : AddrV) := by
    rw [Nat.zero_add, List.take_left' (by simp), List.drop_append, List.drop_of_length_le (by simp), List.drop_replicate, List.length_replicate, List.nil_append, ← List.replicate_append_replicate]
    congr 2; omega
  have hw : IntKind.i64.wrap ((m : Int) + (c : Nat)) = ((m + c : Nat) : Int) := by rw [i64_in _ (by omega)]; omega
  refine wsq (wsq (wrg (vQ4 tab rfl rfl rfl rfl (vnl (qth (vcd_true rfl (by simp only [sl_]; first | done | omega) ?_))))))
  refine vw_skip (qth (wbk (vw_draw mixed (dq_op tab rfl rfl rfl rfl (dq_op tab rfl rfl rfl rfl (dq_op tab rfl rfl rfl rfl (dq_op tab rfl rfl (ev_slice addrR (p := 0) (l := m) (h := b) rfl rfl rfl rfl rfl rfl (bnd_nat m) rfl (by omega) (by omega) (.inl (by omega))) (ev_slice addrR (p := 0) (l := m) (h := b) rfl rfl rfl rfl rfl rfl (bnd_nat m) rfl (by omega) (by omega) (.inl (by omega))) ?_)))))))
  refine dq_op tab rfl rfl rfl rfl (dq_op tab rfl rfl rfl rfl (dq_op tab rfl rfl (ev_slice addrR (p := 0) (l := 0) (h := m) rfl rfl rfl rfl rfl rfl rfl (bnd_nat m) (by omega) (by omega) (.inr rfl)) (ev_slice addrR (p := 0) (l := 0) (h := m) rfl rfl rfl rfl rfl rfl rfl (bnd_nat m) (by omega) (by omega) (.inr rfl)) ?_))
  refine do_op [1] rfl rfl (opr_ev tab (ev_copy addrR (p := 0 + m) (m := c) (ys := List.replicate c a) rfl rfl rfl rfl rfl rfl rfl (by rw [hc, Nat.sub_zero]) (Eq.trans (first_rows addrR (q := 0 + 0) (m := c) rfl (by omega) (by omega)) (by rw [hys])) rfl (by simp) (by omega))) ?_
  refine dq_op tab rfl rfl rfl rfl (dq_op tab rfl rfl rfl rfl (vd_nil (by kernel_rfl) ?_))
  refine q_norm (qth ?_)
  exact ⟨b - (m + c), _, by omega, (sub_of (g := 1) [1] (by decide) (by decide) (by repeat' first | exact ep_nil | exact ri hw.symm | exact ov_opn addrR hnew.symm | refine ep_cons rfl ?_ ?_ | exact .int _ _ | exact .bool _ | exact .string _ | exact rel_slice rfl rfl | exact rel_nil rfl rfl | exact rel_ptr rfl | exact .nilPtr | exact .nilIface | exact .nilSlice) (by repeat' first | exact hp_nil | exact ri hw.symm | exact ov_opn addrR hnew.symm | refine hp_cons rfl rfl ?_ ?_ | refine hp_void rfl rfl ?_ | exact ov_win _ | exact ov_opn _ rfl | exact ov_cells _ _ (by decide))), m + c, by omega, by omega, by omega, rfl⟩
def newP (c : Int) : List AddrV × Int := if 1 ≤ c ∧ c ≤ 16 then (List.replicate c.toNat ⟨false, -1, 0⟩, 0) else ([], 1600)
theorem newP_bad {c : Int} (h : ¬ (1 ≤ c ∧ c ≤ 16)) : newP c = ([], 1600) := if_neg h
theorem newP_ok {c : Int} (h : 1 ≤ c ∧ c ≤ 16) : newP c = (List.replicate c.toNat ⟨false, -1, 0⟩, 0) := if_pos h
set_option maxHeartbeats 4000000 in
theorem new_tri {V : Heap} {n : Nat} (c : Int) :
    Tri Tryz.prog 17 [.int .i64 c] n 1 V (fun u L => u = .tuple #[.slice (some ⟨n, 0, none⟩) (newP c).1.length 0, .int .i64 (newP c).2] ∧ L = [(n, some (.opn (addrR.cells (newP c).1) 80 3))]) := by
  refine call_of_vw (K := 0) (argsI := [.int .i64 c]) tab Tryz.func17 rfl rfl (by simp [Tryz.f17]) [] [] rfl .nil (by simp [ownNames]) (by simp [ownNames, lookNames]) (by simp [ownNames, *]) (al_cons (.val (.int _ _)) al_nil) (seen_of sn_nil) ?_
  by_cases hc : 1 ≤ c ∧ c ≤ 16
  case neg =>
    rw [newP_bad hc]
    rcases (show c < 1 ∨ (¬ c < 1 ∧ 16 < c) by omega) with h | h
    all_goals
      first
        | refine wsq (wrg (vQ2 tab rfl rfl (vnl (qth (wsq (wsq (wrg (vQ3 tab rfl rfl rfl (vgd_op true rfl rfl rfl (by simp only [sl_]; first | done | omega) ?_)))))))))
          refine vK2 rfl rfl (vQ tab rfl (vnl (qth (vc_true rfl (wsq (wrg (vQ2 tab rfl rfl (vnl (qth (vw_ret (q_thenr ?_)))))))))))
        | refine wsq (wrg (vQ2 tab rfl rfl (vnl (qth (wsq (wsq (wrg (vQ3 tab rfl rfl rfl (vgd_op false rfl rfl rfl (by simp only [sl_]; first | done | omega) ?_)))))))))
          refine vQ3 tab rfl rfl rfl (vnl (qth (vcd_true rfl (by simp only [sl_]; first | done | omega) ?_)))
          refine wsq (wrg (vQ2 tab rfl rfl (vnl (qth (vw_ret (q_thenr ?_))))))
      exact out_mk [NIL] (.inr rfl) ⟨rfl, rfl⟩ rfl (vrel_tuple (lrel_cons (rel_nil (sigma_nil (i := 0) rfl) rfl) (lrel_cons (.int _ _) lrel_nil))) (op_void (sigma_nil (i := 0) rfl) rfl rfl rfl op_nil) trivial
  rw [newP_ok hc]
  obtain ⟨b, rfl⟩ := Int.eq_ofNat_of_zero_le (show 0 ≤ c by omega)
  refine wsq (wrg (vQ2 tab rfl rfl (vnl (qth (wsq (wsq (wrg (vQ3 tab rfl rfl rfl (vgd_op false rfl rfl rfl (by simp only [sl_]; first | done | omega) ?_)))))))))
  refine vQ3 tab rfl rfl rfl (vnl (qth (vcd_false rfl (by simp only [sl_]; first | done | omega) ?_)))
  refine vw_skip (qth (wsq (wrg (vQ tab rfl (vN tab rfl (vQ tab rfl (vT rfl callable_38 (repeat_tri ⟨false, -1, 0⟩ b (looks_opn addrR (xs := [⟨false, -1, 0⟩]) rfl rfl) (by omega) (by omega)) ?_)))))))
  refine vQ2 tab rfl rfl (vnl (qth (vw_ret ?_)))
  exact out_mk [1] (.inr rfl) ⟨rfl, rfl⟩ rfl (vrel_tuple (lrel_cons (rel_slice (sigma_look (i := 0) rfl) (by simp)) (lrel_cons (.int _ _) lrel_nil))) (op_cons (sigma_look (i := 0) rfl) rfl rfl (ov_opn addrR (by simp)) rfl op_nil) trivial
set_option maxHeartbeats 4000000 in
theorem refnew_tri {V : Heap} {n : Nat} (c : Int) :
    Tri Tryz.prog 18 [.int .i64 c] n 1 V (fun u L => u = .tuple #[.slice (some ⟨n, 0, none⟩) (newP c).1.length 0, .int .i64 (newP c).2] ∧ L = [(n, some (.opn (addrR.cells (newP c).1) 80 3))]) := by
  refine call_of_vw (K := 0) (argsI := [.int .i64 c]) tab Tryz.func18 rfl rfl (by simp [Tryz.f18]) [] [] rfl .nil (by simp [ownNames]) (by simp [ownNames, lookNames]) (by simp [ownNames, *]) (al_cons (.val (.int _ _)) al_nil) (seen_of sn_nil) ?_
  by_cases hc : 1 ≤ c ∧ c ≤ 16
  case neg =>
    rw [newP_bad hc]
    rcases (show c < 1 ∨ (¬ c < 1 ∧ 16 < c) by omega) with h | h
    all_goals
      first
        | refine wsq (wrg (vQ2 tab rfl rfl (vnl (qth (wsq (wsq (wrg (vQ3 tab rfl rfl rfl (vgd_op true rfl rfl rfl (by simp only [sl_]; first | done | omega) ?_)))))))))
          refine vK2 rfl rfl (vQ tab rfl (vnl (qth (vc_true rfl (wsq (wrg (vQ2 tab rfl rfl (vnl (qth (vw_ret (q_thenr ?_)))))))))))
        | refine wsq (wrg (vQ2 tab rfl rfl (vnl (qth (wsq (wsq (wrg (vQ3 tab rfl rfl rfl (vgd_op false rfl rfl rfl (by simp only [sl_]; first | done | omega) ?_)))))))))
          refine vQ3 tab rfl rfl rfl (vnl (qth (vcd_true rfl (by simp only [sl_]; first | done | omega) ?_)))
          refine wsq (wrg (vQ2 tab rfl rfl (vnl (qth (vw_ret (q_thenr ?_))))))
      exact out_mk [NIL] (.inr rfl) ⟨rfl, rfl⟩ rfl (vrel_tuple (lrel_cons (rel_nil (sigma_nil (i := 0) rfl) rfl) (lrel_cons (.int _ _) lrel_nil))) (op_void (sigma_nil (i := 0) rfl) rfl rfl rfl op_nil) trivial
  rw [newP_ok hc]
  refine wsq (wrg (vQ2 tab rfl rfl (vnl (qth (wsq (wsq (wrg (vQ3 tab rfl rfl rfl (vgd_op false rfl rfl rfl (by simp only [sl_]; first | done | omega) ?_)))))))))
  refine vQ3 tab rfl rfl rfl (vnl (qth (vcd_false rfl (by simp only [sl_]; first | done | omega) ?_)))
  refine vw_skip (qth (wsq (wrg (vQ tab rfl (vnl (qth (wsq (wsq (wrg (vQ tab rfl (vnl (qth (wbk ?_)))))))))))))
  refine vw_loop_sub (fun k s => ∃ j : Nat, (j : Int) ≤ c ∧ k = c.toNat - j ∧
      s = ⟨[(0, .int .i64 c), (4, .slice (some ⟨0, 0, none⟩) j 0), (5, .int .i64 (j : Int))], lkp [(0, .opn (addrR.cells (List.replicate j ⟨false, -1, 0⟩)) 80 3)], 1⟩) c.toNat
    ⟨_, (sub_of (g := 0) [NIL] (by decide) (by decide) (by repeat' first | exact ep_nil | refine ep_cons rfl ?_ ?_ | exact .int _ _ | exact .bool _ | exact .string _ | exact rel_slice rfl rfl | exact rel_nil rfl rfl | exact rel_ptr rfl | exact .nilPtr | exact .nilIface | exact .nilSlice) (by repeat' first | exact hp_nil | refine hp_cons rfl rfl ?_ ?_ | refine hp_void rfl rfl ?_ | exact ov_win _ | exact ov_opn _ rfl | exact ov_cells _ _ (by decide))), 0, by omega, by omega, rfl⟩ ?_
  rintro k s ⟨j, g0, rfl, rfl⟩
  by_cases hj : (j : Int) < c
  case neg =>
    have hjc : j = c.toNat := by omega
    refine wsq (wsq (wrg (vQ3 tab rfl rfl rfl (vnl (qth (vcd_false rfl (by simp only [sl_]; first | done | omega) ?_))))))
    refine vw_exit (q_thenx (q_thenx (q_here (qth (wsq (wrg (vQ3 tab rfl rfl rfl (vnl (qth (vw_ret ?_))))))))))
    exact out_mk [0] (.inr rfl) ⟨rfl, rfl⟩ rfl (vrel_tuple (lrel_cons (rel_slice (sigma_look (i := 0) rfl) (by simp; omega)) (lrel_cons (.int _ _) lrel_nil))) (op_cons (sigma_look (i := 0) rfl) rfl rfl (ov_opn addrR (by rw [hjc])) rfl op_nil) trivial
  have hi : IntKind.i64.wrap ((j : Int) + 1) = ((j + 1 : Nat) : Int) := by rw [i64_in _ (by omega)]; omega
  refine wsq (wsq (wrg (vQ3 tab rfl rfl rfl (vnl (qth (vcd_true rfl (by simp only [sl_]; first | done | omega) ?_))))))
  refine vw_skip (qth (wsq (wbk (wrg (vQ2 tab rfl rfl (vN tab rfl (vo_op rfl rfl rfl (opr_ev tab (ev_app addrR (ys := [⟨false, -1, 0⟩]) (m := 1) rfl rfl rfl rfl rfl rfl rfl rfl (by simp) (by show (_ + 1) * 24 ≤ _; omega) (by omega))) ?_)))))))
  refine vQ tab rfl (vnl (q_norm (qth (wrg (vQ3 tab rfl rfl rfl (vnl (qth ?_)))))))
  exact ⟨c.toNat - (j + 1), _, by omega, (sub_of (g := 0) [2] (by decide) (by decide) (by repeat' first | exact ep_nil | exact ri hi.symm | exact ov_opn addrR (by rw [List.replicate_succ']) | refine ep_cons rfl ?_ ?_ | exact .int _ _ | exact .bool _ | exact .string _ | exact rel_slice rfl rfl | exact rel_nil rfl rfl | exact rel_ptr rfl | exact .nilPtr | exact .nilIface | exact .nilSlice) (by repeat' first | exact hp_nil | exact ri hi.symm | exact ov_opn addrR (by rw [List.replicate_succ']) | refine hp_cons rfl rfl ?_ ?_ | refine hp_void rfl rfl ?_ | exact ov_win _ | exact ov_opn _ rfl | exact ov_cells _ _ (by decide))), j + 1, by omega, by omega, rfl⟩
theorem badA_of (a : AddrV) : badA a = (decide (a.last < -1) || decide (8 ≤ a.last) || decide (a.until_ < 0)) := by
  unfold badA userOk
  rw [Bool.eq_iff_iff]
  simp only [Bool.or_eq_true, Bool.and_eq_true, bne_iff_ne, ne_eq, Bool.not_eq_true', Bool.and_eq_false_iff, decide_eq_false_iff_not, decide_eq_true_eq]
  omega
theorem mayP_bad {xs : List AddrV} {j : Nat} {a : AddrV} (h : xs[j]? = some a) (hb : badA a = true) : mayP xs = false := by
  unfold mayP
  rw [List.any_eq_true.2 ⟨a, List.mem_of_getElem? h, hb⟩]; simp
set_option maxHeartbeats 4000000 in
theorem refmay_tri {V : Heap} {n : Nat} {sv : Value} {xs : List AddrV} (u : Int) (hl : Looks V 3 sv (addrR.cells xs) xs.length) (hx : xs.length ≤ 140737488355328) :
    Tri Tryz.prog 96 [sv, .int .i64 u] n 0 V (fun v L => v = .bool (mayP xs && userOk u) ∧ L = []) := by
  refine reads_of_vw (K := 1) (argsI := [.slice (some ⟨0, 0, none⟩) xs.length 0, .int .i64 u]) tab Tryz.func96 rfl rfl (by simp [Tryz.f96]) [.look sv xs.length 3] [.win (addrR.cells xs) 3] rfl (.look hl (addrR.flat_cells xs) .nil) (by simp [ownNames]) (by simp [ownNames, lookNames]) (al_cons (.look (a := 0) rfl) (al_cons (.val (.int _ _)) al_nil)) (seen_of (sn_look (seen_top (j := 0) rfl) sn_nil)) (.bool _) ?_
  refine wsq (wrg (vQ tab rfl (vnl (qth (wsq (wsq (wrg (vQ tab rfl (vnl (qth (wbk ?_)))))))))))
  refine vw_loop_env (fun k env => ∃ j : Int, 0 ≤ j ∧ j ≤ xs.length ∧ (xs.take j.toNat).any badA = false ∧ k = (xs.length - j).toNat ∧
      env = [(0, .slice (some ⟨0, 0, none⟩) xs.length 0), (1, .int .i64 u), (5, .int .i64 j)]) (xs.length - 0)
    ⟨_, se_cons rfl (se_cons rfl (se_cons rfl se_nil)), 0, by omega, by omega, by simp, by simp, rfl⟩ ?_
  rintro k env ⟨j, h0, h1, ht, rfl, rfl⟩
  by_cases hj : j < (xs.length : Int)
  case neg =>
    rw [show j.toNat = xs.length by omega, List.take_length] at ht
    have hjf := decide_eq_false hj
    refine wsq (wsq (wrg (vQ4 tab rfl rfl rfl rfl (vnl (qth (vcd_false rfl (by simp only [hjf, sl_]; first | done | omega) ?_))))))
    refine vw_exit (q_thenx (q_thenx (q_here (qth (wsq (wrg (vQ3 tab rfl rfl rfl (vQ tab rfl ?_))))))))
    refine vg_op rfl rfl rfl (fun _ => ?_) (fun _ => ?_)
    refine vQ4 tab rfl rfl rfl rfl (vQ tab rfl ?_)
    refine vg_op rfl rfl rfl (fun _ => ?_) (fun _ => ?_)
    refine vQ3 tab rfl rfl rfl (vQ tab rfl ?_)
    refine vg_op rfl rfl rfl (fun _ => ?_) (fun _ => ?_)
    refine vQ4 tab rfl rfl rfl rfl (vnl (qth (vw_ret ?_)))
    rotate_left
    refine vK2 rfl rfl (vQ2 tab rfl rfl (vnl (qth (vw_ret ?_))))
    rotate_left
    refine vK2 rfl rfl (vQ2 tab rfl rfl (vK2 rfl rfl (vQ2 tab rfl rfl (vnl (qth (vw_ret ?_))))))
    rotate_left
    refine vK3 rfl rfl rfl (vQ2 tab rfl rfl (vK2 rfl rfl (vQ2 tab rfl rfl (vK2 rfl rfl (vQ2 tab rfl rfl (vnl (qth (vw_ret ?_))))))))
    rotate_left
    all_goals exact ⟨⟨.inr rfl, Eq.trans (b := some (.bool _)) rfl (congrArg (fun b => some (Value.bool b)) (by simp_all [mayP, userOk] <;> (intros; omega)))⟩, trivial⟩
  obtain ⟨a, ha⟩ := get_some h0 hj
  have hi : IntKind.i64.wrap (j + 1) = j + 1 := i64_in _ (by omega)
  have hjn : (j + 1).toNat = j.toNat + 1 := by omega
  have hbad := badA_of a
  cases hp : badA a with
  | true =>
    have hm : (mayP xs && userOk u) = false := by rw [mayP_bad ha hp]; rfl
    rw [hp] at hbad
    rcases (show a.last < -1 ∨ (¬ a.last < -1 ∧ 8 ≤ a.last) ∨ (¬ a.last < -1 ∧ ¬ 8 ≤ a.last ∧ a.until_ < 0) by simp only [Bool.true_eq, Bool.or_eq_true, decide_eq_true_eq] at hbad; omega) with h | h | h
    all_goals
      first
        | refine wsq (wsq (wrg (vQ4 tab rfl rfl rfl rfl (vnl (qth (vcd_true rfl (by simp only [hi, sl_]; first | done | omega) ?_))))))
          refine vw_skip (qth (wsq (wbk (wsq (wrg (vQ2 tab rfl rfl (vq_op tab rfl rfl rfl (ev_index rfl rfl rfl rfl rfl (by omega) (by omega)) ?_)))))))
          refine vQ tab rfl (vq_op tab rfl rfl rfl (ev_loadcell addrR rfl rfl rfl rfl rfl ha rfl) (vQ2 tab rfl rfl (vgd_op true rfl rfl rfl (by simp only [hi, sl_]; first | done | omega) ?_)))
          refine vK4 rfl rfl rfl rfl (vK2 rfl rfl (vQ2 tab rfl rfl (vK4 rfl rfl rfl rfl (vK2 rfl rfl (vQ tab rfl (vnl (qth (vc_true rfl (wsq (wrg (vQ tab rfl (vnl (qth (vw_ret ?_))))))))))))))
          refine q_ret (q_thenr (q_thenr (q_ret (q_thenr ?_))))
        | refine wsq (wsq (wrg (vQ4 tab rfl rfl rfl rfl (vnl (qth (vcd_true rfl (by simp only [hi, sl_]; first | done | omega) ?_))))))
          refine vw_skip (qth (wsq (wbk (wsq (wrg (vQ2 tab rfl rfl (vq_op tab rfl rfl rfl (ev_index rfl rfl rfl rfl rfl (by omega) (by omega)) ?_)))))))
          refine vQ tab rfl (vq_op tab rfl rfl rfl (ev_loadcell addrR rfl rfl rfl rfl rfl ha rfl) (vQ2 tab rfl rfl (vgd_op false rfl rfl rfl (by simp only [hi, sl_]; first | done | omega) ?_)))
          refine vQ2 tab rfl rfl (vq_op tab ⟨_, _, rfl, rfl, rfl⟩ rfl rfl (ev_index rfl rfl rfl rfl rfl (by omega) (by omega)) ?_)
          refine vQ tab rfl (vq_op tab ⟨_, _, rfl, rfl, rfl⟩ rfl rfl (ev_loadcell addrR rfl rfl rfl rfl rfl ha rfl) (vQ3 tab rfl rfl rfl (vgd_op true rfl rfl rfl (by simp only [hi, sl_]; first | done | omega) ?_)))
          refine vK4 rfl rfl rfl rfl (vK2 rfl rfl (vQ tab rfl (vnl (qth (vc_true rfl (wsq (wrg (vQ tab rfl (vnl (qth (vw_ret (q_ret (q_thenr (q_thenr (q_ret (q_thenr ?_))))))))))))))))
        | refine wsq (wsq (wrg (vQ4 tab rfl rfl rfl rfl (vnl (qth (vcd_true rfl (by simp only [hi, sl_]; first | done | omega) ?_))))))
          refine vw_skip (qth (wsq (wbk (wsq (wrg (vQ2 tab rfl rfl (vq_op tab rfl rfl rfl (ev_index rfl rfl rfl rfl rfl (by omega) (by omega)) ?_)))))))
          refine vQ tab rfl (vq_op tab rfl rfl rfl (ev_loadcell addrR rfl rfl rfl rfl rfl ha rfl) (vQ2 tab rfl rfl (vgd_op false rfl rfl rfl (by simp only [hi, sl_]; first | done | omega) ?_)))
          refine vQ2 tab rfl rfl (vq_op tab ⟨_, _, rfl, rfl, rfl⟩ rfl rfl (ev_index rfl rfl rfl rfl rfl (by omega) (by omega)) ?_)
          refine vQ tab rfl (vq_op tab ⟨_, _, rfl, rfl, rfl⟩ rfl rfl (ev_loadcell addrR rfl rfl rfl rfl rfl ha rfl) (vQ3 tab rfl rfl rfl (vgd_op false rfl rfl rfl (by simp only [hi, sl_]; first | done | omega) ?_)))
          refine vQ2 tab rfl rfl (vq_op tab ⟨_, _, rfl, rfl, rfl⟩ rfl rfl (ev_index rfl rfl rfl rfl rfl (by omega) (by omega)) ?_)
          refine vQ tab rfl (vq_op tab ⟨_, _, rfl, rfl, rfl⟩ rfl rfl (ev_loadcell addrR rfl rfl rfl rfl rfl ha rfl) (vQ2 tab rfl rfl (vnl (qth (vcd_true rfl (by simp only [hi, sl_]; first | done | omega) ?_)))))
          refine wsq (wrg (vQ tab rfl (vnl (qth (vw_ret (q_ret (q_thenr (q_thenr (q_ret (q_thenr ?_))))))))))
      exact ⟨⟨.inr rfl, by rw [hm]; rfl⟩, trivial⟩
  | false =>
    rw [hp] at hbad
    have h : ¬ a.last < -1 ∧ ¬ 8 ≤ a.last ∧ ¬ a.until_ < 0 := by simp only [Bool.false_eq, Bool.or_eq_false_iff, decide_eq_false_iff_not] at hbad; omega
    refine wsq (wsq (wrg (vQ4 tab rfl rfl rfl rfl (vnl (qth (vcd_true rfl (by simp only [hi, sl_]; first | done | omega) ?_))))))
    refine vw_skip (qth (wsq (wbk (wsq (wrg (vQ2 tab rfl rfl (vq_op tab rfl rfl rfl (ev_index rfl rfl rfl rfl rfl (by omega) (by omega)) ?_)))))))
    refine vQ tab rfl (vq_op tab rfl rfl rfl (ev_loadcell addrR rfl rfl rfl rfl rfl ha rfl) (vQ2 tab rfl rfl (vgd_op false rfl rfl rfl (by simp only [hi, sl_]; first | done | omega) ?_)))
    refine vQ2 tab rfl rfl (vq_op tab ⟨_, _, rfl, rfl, rfl⟩ rfl rfl (ev_index rfl rfl rfl rfl rfl (by omega) (by omega)) ?_)
    refine vQ tab rfl (vq_op tab ⟨_, _, rfl, rfl, rfl⟩ rfl rfl (ev_loadcell addrR rfl rfl rfl rfl rfl ha rfl) (vQ3 tab rfl rfl rfl (vgd_op false rfl rfl rfl (by simp only [hi, sl_]; first | done | omega) ?_)))
    refine vQ2 tab rfl rfl (vq_op tab ⟨_, _, rfl, rfl, rfl⟩ rfl rfl (ev_index rfl rfl rfl rfl rfl (by omega) (by omega)) ?_)
    refine vQ tab rfl (vq_op tab ⟨_, _, rfl, rfl, rfl⟩ rfl rfl (ev_loadcell addrR rfl rfl rfl rfl rfl ha rfl) (vQ2 tab rfl rfl (vnl (qth (vcd_false rfl (by simp only [hi, sl_]; first | done | omega) ?_)))))
    refine vw_skip (q_norm (qth (wrg (vQ3 tab rfl rfl rfl (vnl (qth ?_))))))
    exact ⟨rfl, rfl, (xs.length - (j + 1)).toNat, _, by omega, se_cons rfl (se_cons rfl (se_cons (se_int rfl hi) se_nil)), j + 1, by omega, by omega, by rw [hjn]; exact any_take ha hp ht, rfl, rfl⟩
theorem reftick_fun (t : Int) : Fun Tryz.prog 98 [.int .i64 t] (.bool (decide (0 ≤ t) && decide (t ≤ 1048575))) := by
  refine fun_of_vw tab Tryz.func98 rfl rfl (by simp [Tryz.f98]) (lrel_cons (.int _ _) lrel_nil) (.bool _) ?_
  refine wsq (wrg (vQ tab rfl (vnl (qth (wsq (wrg (vQ2 tab rfl rfl (vQ tab rfl ?_))))))))
  refine vg_op rfl rfl rfl (fun _ => ?_) (fun _ => ?_)
  refine vQ4 tab rfl rfl rfl rfl (vnl (qth (vw_ret ?_)))
  rotate_left
  refine vK2 rfl rfl (vQ2 tab rfl rfl (vnl (qth (vw_ret ?_))))
  rotate_left
  all_goals exact ⟨.inr rfl, Eq.trans (b := some (.bool _)) rfl (congrArg (fun b => some (Value.bool b)) (by simp_all <;> (intros; omega)))⟩
theorem tickmay_fun (t : Int) : Fun Tryz.prog 94 [.int .i64 t] (.bool (decide (0 ≤ t) && decide (t ≤ 1048575))) := by
  refine fun_of_vw tab Tryz.func94 rfl rfl (by simp [Tryz.f94]) (lrel_cons (.int _ _) lrel_nil) (.bool _) ?_
  refine wsq (wrg (vQ tab rfl (vnl (qth (wsq (wrg (vQ2 tab rfl rfl (vQ tab rfl ?_))))))))
  refine vg_op rfl rfl rfl (fun _ => ?_) (fun _ => ?_)
  refine vQ4 tab rfl rfl rfl rfl (vnl (qth (vw_ret ?_)))
  rotate_left
  refine vK2 rfl rfl (vQ2 tab rfl rfl (vnl (qth (vw_ret ?_))))
  rotate_left
  all_goals exact ⟨.inr rfl, Eq.trans (b := some (.bool _)) rfl (congrArg (fun b => some (Value.bool b)) (by simp_all <;> (intros; omega)))⟩
end Go.Proofs.YtcjfidfealifhaaGreat
namespace Go.Proofs.YtcjfidfealifhaaGreat
open Go Vm IntWalk
set_option linter.unusedVariables false
set_option linter.unusedSimpArgs false
def atA (xs : List AddrV) (i : Int) : AddrV := xs.getD i.toNat ⟨false, 0, 0⟩
def takeC (xs : List AddrV) (i b : Int) : Bool := mayP xs && userOk b && thereB xs i && !(atA xs i).busy
def takeA (xs : List AddrV) (i b : Int) : List AddrV × Int := if takeC xs i b = true then (xs.set i.toNat ⟨true, b, 0⟩, 0) else ([], 1600)
theorem takeA_ok {xs : List AddrV} {i b : Int} (h : takeC xs i b = true) : takeA xs i b = (xs.set i.toNat ⟨true, b, 0⟩, 0) := if_pos h
theorem takeA_bad {xs : List AddrV} {i b : Int} (h : takeC xs i b = false) : takeA xs i b = ([], 1600) := if_neg (by rw [h]; decide)
def freeC (xs : List AddrV) (i b : Int) : Bool := mayP xs && thereB xs i && (atA xs i).busy && !decide (b < 0)
def freeA (xs : List AddrV) (i b : Int) : List AddrV × Int := if freeC xs i b = true then (xs.set i.toNat ⟨false, (atA xs i).last, b⟩, 0) else ([], 1600)
theorem freeA_ok {xs : List AddrV} {i b : Int} (h : freeC xs i b = true) : freeA xs i b = (xs.set i.toNat ⟨false, (atA xs i).last, b⟩, 0) := if_pos h
theorem freeA_bad {xs : List AddrV} {i b : Int} (h : freeC xs i b = false) : freeA xs i b = ([], 1600) := if_neg (by rw [h]; decide)
theorem userOk_zero : userOk 0 = true := rfl
set_option maxHeartbeats 8000000 in
theorem ptake_tri {V : Heap} {n : Nat} {sv : Value} {xs : List AddrV} (i b : Int) (hl : Looks V 3 sv (addrR.cells xs) xs.length) (hb : xs.length * 24 ≤ 140737488355328) :
    Tri Tryz.prog 72 [sv, .int .i64 i, .int .i64 b] n 1 V (fun u L => u = .tuple #[.slice (some ⟨n, 0, none⟩) (takeA xs i b).1.length 0, .int .i64 (takeA xs i b).2] ∧ L = [(n, some (.opn (addrR.cells (takeA xs i b).1) 80 3))]) := by
  refine call_of_vw (K := 1) (argsI := [.slice (some ⟨0, 0, none⟩) xs.length 0, .int .i64 i, .int .i64 b]) tab Tryz.func72 rfl rfl (by simp [Tryz.f72]) [.look sv xs.length 3] [.win (addrR.cells xs) 3] rfl (.look hl (addrR.flat_cells xs) .nil) (by simp [ownNames]) (by simp [ownNames, lookNames]) (by simp [ownNames, *]) (al_cons (.look (a := 0) rfl) (al_cons (.val (.int _ _)) (al_cons (.val (.int _ _)) al_nil))) (seen_of (sn_look (seen_top (j := 0) rfl) sn_nil)) ?_
  by_cases hth : 0 ≤ i ∧ i < (xs.length : Int)
  case neg =>
    have ht : thereB xs i = false := by unfold thereB; rw [Bool.and_eq_false_iff, decide_eq_false_iff_not, decide_eq_false_iff_not]; omega
    have hc : takeC xs i b = false := by unfold takeC; rw [ht]; simp
    rw [takeA_bad hc]
    rcases (show i < 0 ∨ (¬ i < 0 ∧ (xs.length : Int) ≤ i) by omega) with h | h
    all_goals
      refine wsq (wrg (vQ2 tab rfl rfl (vnl (qth (wsq (wsq (wrg (vQ tab rfl (vR rfl callable_89 (may_tri (looks_win addrR rfl rfl) (by omega)) ?_)))))))))
      refine vQ tab rfl (vQ tab rfl ?_)
      refine vg_op rfl rfl rfl (fun _ => ?_) (fun _ => ?_)
      refine vQ tab rfl (vF rfl callable_90 (usermay_fun _) (vQ2 tab rfl rfl (vQ tab rfl ?_)))
      refine vg_op rfl rfl rfl (fun _ => ?_) (fun _ => ?_)
      refine vQ2 tab rfl rfl (vR rfl callable_91 (there_tri _ (looks_win addrR rfl rfl)) (vQ3 tab rfl rfl rfl (vgd_op true rfl rfl rfl (by simp only [ht, sl_]; first | done | omega) ?_)))
      refine vK4 rfl rfl rfl rfl (vK rfl (vQ tab rfl (vnl (qth (vc_true rfl (wsq (wrg (vQ2 tab rfl rfl (vnl (qth (vw_ret (q_thenr ?_))))))))))))
      rotate_left
      refine vK4 rfl rfl rfl rfl (vQ2 tab rfl rfl (vK4 rfl rfl rfl rfl (vK rfl (vQ tab rfl (vnl (qth (vc_true rfl (wsq (wrg (vQ2 tab rfl rfl (vnl (qth (vw_ret (q_thenr ?_))))))))))))))
      rotate_left
      refine vK3 rfl rfl rfl (vQ2 tab rfl rfl (vK4 rfl rfl rfl rfl (vQ2 tab rfl rfl (vK4 rfl rfl rfl rfl (vK rfl (vQ tab rfl (vnl (qth (vc_true rfl (wsq (wrg (vQ tab rfl (vQ tab rfl ?_)))))))))))))
      refine vnl (qth (vw_ret (q_thenr ?_)))
      rotate_left
      all_goals exact out_mk [NIL] (.inr rfl) ⟨rfl, rfl⟩ rfl (vrel_tuple (lrel_cons (rel_nil (sigma_nil (i := 0) rfl) rfl) (lrel_cons (.int _ _) lrel_nil))) (op_void (sigma_nil (i := 0) rfl) rfl rfl rfl op_nil) trivial
  obtain ⟨h0, h1⟩ := hth
  have ht : thereB xs i = true := by unfold thereB; rw [decide_eq_true h0, decide_eq_true h1]; rfl
  obtain ⟨a, ha⟩ := get_some h0 h1
  have hat : atA xs i = a := by unfold atA; simp [List.getD_eq_getElem?_getD, ha]
  have hd0 : decide (i < 0) = false := decide_eq_false (by omega)
  have hd1 : decide ((xs.length : Int) ≤ i) = false := decide_eq_false (by omega)
  refine wsq (wrg (vQ2 tab rfl rfl (vnl (qth (wsq (wsq (wrg (vQ tab rfl (vR rfl callable_89 (may_tri (looks_win addrR rfl rfl) (by omega)) ?_)))))))))
  refine vQ tab rfl (vQ tab rfl ?_)
  refine vg_op rfl rfl rfl (fun _ => ?_) (fun _ => ?_)
  refine vQ tab rfl (vF rfl callable_90 (usermay_fun _) (vQ2 tab rfl rfl (vQ tab rfl ?_)))
  refine vg_op rfl rfl rfl (fun _ => ?_) (fun _ => ?_)
  refine vQ2 tab rfl rfl (vR rfl callable_91 (there_tri _ (looks_win addrR rfl rfl)) (vQ3 tab rfl rfl rfl (vgd_op false rfl rfl rfl (by simp only [ht, sl_]; first | done | omega) ?_)))
  refine vQ2 tab rfl rfl (vq_op tab ⟨_, _, rfl, rfl, rfl⟩ rfl rfl (ev_index rfl rfl rfl rfl rfl (by omega) (by omega)) ?_)
  refine vQ tab rfl (vq_op tab ⟨_, _, rfl, rfl, rfl⟩ rfl rfl (ev_loadcell addrR rfl rfl rfl rfl rfl ha rfl) (vQ tab rfl (vnl (qth ?_))))
  refine vc_part rfl (fun _ => ?_) (fun _ => ?_)
  refine wsq (wrg (vQ2 tab rfl rfl (vnl (qth (vw_ret (q_thenr ?_))))))
  rotate_left
  refine vw_skip (qth (wsq (wrg (vQ4 tab rfl rfl rfl rfl (vT rfl callable_92 (with_tri ⟨true, b, 0⟩ (looks_win addrR rfl rfl) hb h0 h1) (vQ2 tab rfl rfl (vnl (qth (vw_ret ?_)))))))))
  rotate_left
  refine vK4 rfl rfl rfl rfl (vQ2 tab rfl rfl (vK4 rfl rfl rfl rfl (vK rfl (vQ tab rfl (vnl (qth (vc_true rfl (wsq (wrg (vQ2 tab rfl rfl (vnl (qth (vw_ret (q_thenr ?_))))))))))))))
  rotate_left
  refine vK3 rfl rfl rfl (vQ2 tab rfl rfl (vK4 rfl rfl rfl rfl (vQ2 tab rfl rfl (vK4 rfl rfl rfl rfl (vK rfl (vQ tab rfl (vnl (qth (vc_true rfl (wsq (wrg (vQ tab rfl (vQ tab rfl ?_)))))))))))))
  refine vnl (qth (vw_ret (q_thenr ?_)))
  rotate_left
  all_goals first
    | (have hc : takeC xs i b = false := by cases h9 : mayP xs <;> cases h8 : userOk b <;> simp_all [takeC, userOk_zero]
       rw [takeA_bad hc]
       exact out_mk [NIL] (.inr rfl) ⟨rfl, rfl⟩ rfl (vrel_tuple (lrel_cons (rel_nil (sigma_nil (i := 0) rfl) rfl) (lrel_cons (.int _ _) lrel_nil))) (op_void (sigma_nil (i := 0) rfl) rfl rfl rfl op_nil) trivial)
    | (have hc : takeC xs i b = true := by cases h9 : mayP xs <;> cases h8 : userOk b <;> simp_all [takeC, userOk_zero]
       rw [takeA_ok hc]
       try rw [hat]
       exact out_mk [1] (.inr rfl) ⟨rfl, rfl⟩ rfl (vrel_tuple (lrel_cons (rel_slice (sigma_look (i := 0) rfl) (by simp)) (lrel_cons (.int _ _) lrel_nil))) (op_cons (sigma_look (i := 0) rfl) rfl rfl (ov_opn addrR rfl) rfl op_nil) trivial)
set_option maxHeartbeats 8000000 in
theorem reftakea_tri {V : Heap} {n : Nat} {sv : Value} {xs : List AddrV} (i b : Int) (hl : Looks V 3 sv (addrR.cells xs) xs.length) (hb : xs.length * 24 ≤ 140737488355328) :
    Tri Tryz.prog 80 [sv, .int .i64 i, .int .i64 b] n 1 V (fun u L => u = .tuple #[.slice (some ⟨n, 0, none⟩) (takeA xs i b).1.length 0, .int .i64 (takeA xs i b).2] ∧ L = [(n, some (.opn (addrR.cells (takeA xs i b).1) 80 3))]) := by
  refine call_of_vw (K := 1) (argsI := [.slice (some ⟨0, 0, none⟩) xs.length 0, .int .i64 i, .int .i64 b]) tab Tryz.func80 rfl rfl (by simp [Tryz.f80]) [.look sv xs.length 3] [.win (addrR.cells xs) 3] rfl (.look hl (addrR.flat_cells xs) .nil) (by simp [ownNames]) (by simp [ownNames, lookNames]) (by simp [ownNames, *]) (al_cons (.look (a := 0) rfl) (al_cons (.val (.int _ _)) (al_cons (.val (.int _ _)) al_nil))) (seen_of (sn_look (seen_top (j := 0) rfl) sn_nil)) ?_
  by_cases hth : 0 ≤ i ∧ i < (xs.length : Int)
  case neg =>
    have ht : thereB xs i = false := by unfold thereB; rw [Bool.and_eq_false_iff, decide_eq_false_iff_not, decide_eq_false_iff_not]; omega
    have hc : takeC xs i b = false := by unfold takeC; rw [ht]; simp
    rw [takeA_bad hc]
    rcases (show i < 0 ∨ (¬ i < 0 ∧ (xs.length : Int) ≤ i) by omega) with h | h
    all_goals
      first
        | refine wsq (wrg (vQ2 tab rfl rfl (vnl (qth (wsq (wsq (wrg (vQ2 tab rfl rfl (vR rfl callable_96 (refmay_tri _ (looks_win addrR rfl rfl) (by omega)) ?_)))))))))
          refine vQ tab rfl (vQ tab rfl ?_)
          refine vg_op rfl rfl rfl (fun _ => ?_) (fun _ => ?_)
          refine vQ4 tab rfl rfl rfl rfl (vgd_op true rfl rfl rfl (by simp only [ht, sl_]; first | done | omega) ?_)
          refine vK4 rfl rfl rfl rfl (vQ2 tab rfl rfl (vK4 rfl rfl rfl rfl (vK rfl (vQ tab rfl (vnl (qth (vc_true rfl (wsq (wrg (vQ2 tab rfl rfl (vnl (qth (vw_ret (q_thenr ?_))))))))))))))
          rotate_left
          refine vK2 rfl rfl (vQ2 tab rfl rfl (vK4 rfl rfl rfl rfl (vQ2 tab rfl rfl (vK4 rfl rfl rfl rfl (vK rfl (vQ tab rfl (vnl (qth (vc_true rfl (wsq (wrg (vQ2 tab rfl rfl (vnl ?_)))))))))))))
          refine qth (vw_ret (q_thenr ?_))
          rotate_left
        | refine wsq (wrg (vQ2 tab rfl rfl (vnl (qth (wsq (wsq (wrg (vQ2 tab rfl rfl (vR rfl callable_96 (refmay_tri _ (looks_win addrR rfl rfl) (by omega)) ?_)))))))))
          refine vQ tab rfl (vQ tab rfl ?_)
          refine vg_op rfl rfl rfl (fun _ => ?_) (fun _ => ?_)
          refine vQ4 tab rfl rfl rfl rfl (vgd_op false rfl rfl rfl (by simp only [ht, sl_]; first | done | omega) ?_)
          refine vQ4 tab rfl rfl rfl rfl (vQ2 tab rfl rfl (vgd_op true rfl rfl rfl (by simp only [ht, sl_]; first | done | omega) ?_))
          refine vK4 rfl rfl rfl rfl (vK rfl (vQ tab rfl (vnl (qth (vc_true rfl (wsq (wrg (vQ2 tab rfl rfl (vnl (qth (vw_ret (q_thenr ?_))))))))))))
          rotate_left
          refine vK2 rfl rfl (vQ2 tab rfl rfl (vK4 rfl rfl rfl rfl (vQ2 tab rfl rfl (vK4 rfl rfl rfl rfl (vK rfl (vQ tab rfl (vnl (qth (vc_true rfl (wsq (wrg (vQ2 tab rfl rfl (vnl ?_)))))))))))))
          refine qth (vw_ret (q_thenr ?_))
          rotate_left
      all_goals exact out_mk [NIL] (.inr rfl) ⟨rfl, rfl⟩ rfl (vrel_tuple (lrel_cons (rel_nil (sigma_nil (i := 0) rfl) rfl) (lrel_cons (.int _ _) lrel_nil))) (op_void (sigma_nil (i := 0) rfl) rfl rfl rfl op_nil) trivial
  obtain ⟨h0, h1⟩ := hth
  have ht : thereB xs i = true := by unfold thereB; rw [decide_eq_true h0, decide_eq_true h1]; rfl
  obtain ⟨a, ha⟩ := get_some h0 h1
  have hat : atA xs i = a := by unfold atA; simp [List.getD_eq_getElem?_getD, ha]
  have hd0 : decide (i < 0) = false := decide_eq_false (by omega)
  have hd1 : decide ((xs.length : Int) ≤ i) = false := decide_eq_false (by omega)
  refine wsq (wrg (vQ2 tab rfl rfl (vnl (qth (wsq (wsq (wrg (vQ2 tab rfl rfl (vR rfl callable_96 (refmay_tri _ (looks_win addrR rfl rfl) (by omega)) ?_)))))))))
  refine vQ tab rfl (vQ tab rfl ?_)
  refine vg_op rfl rfl rfl (fun _ => ?_) (fun _ => ?_)
  refine vQ4 tab rfl rfl rfl rfl (vgd_op false rfl rfl rfl (by simp only [ht, sl_]; first | done | omega) ?_)
  refine vQ4 tab rfl rfl rfl rfl (vQ2 tab rfl rfl (vgd_op false rfl rfl rfl (by simp only [ht, sl_]; first | done | omega) ?_))
  refine vQ2 tab rfl rfl (vq_op tab ⟨_, _, rfl, rfl, rfl⟩ rfl rfl (ev_index rfl rfl rfl rfl rfl (by omega) (by omega)) ?_)
  refine vQ tab rfl (vq_op tab ⟨_, _, rfl, rfl, rfl⟩ rfl rfl (ev_loadcell addrR rfl rfl rfl rfl rfl ha rfl) (vQ tab rfl (vnl (qth ?_))))
  refine vc_part rfl (fun _ => ?_) (fun _ => ?_)
  refine wsq (wrg (vQ2 tab rfl rfl (vnl (qth (vw_ret (q_thenr ?_))))))
  rotate_left
  refine vw_skip (qth (wsq (wrg (vQ4 tab rfl rfl rfl rfl (vT rfl callable_97 (refwith_tri ⟨true, b, 0⟩ (looks_win addrR rfl rfl) hb h0 h1) (vQ2 tab rfl rfl (vnl (qth (vw_ret ?_)))))))))
  rotate_left
  refine vK2 rfl rfl (vQ2 tab rfl rfl (vK4 rfl rfl rfl rfl (vQ2 tab rfl rfl (vK4 rfl rfl rfl rfl (vK rfl (vQ tab rfl (vnl (qth (vc_true rfl (wsq (wrg (vQ2 tab rfl rfl (vnl ?_)))))))))))))
  refine qth (vw_ret (q_thenr ?_))
  rotate_left
  all_goals first
    | (have hc : takeC xs i b = false := by cases h9 : mayP xs <;> cases h8 : userOk b <;> simp_all [takeC, userOk_zero]
       rw [takeA_bad hc]
       exact out_mk [NIL] (.inr rfl) ⟨rfl, rfl⟩ rfl (vrel_tuple (lrel_cons (rel_nil (sigma_nil (i := 0) rfl) rfl) (lrel_cons (.int _ _) lrel_nil))) (op_void (sigma_nil (i := 0) rfl) rfl rfl rfl op_nil) trivial)
    | (have hc : takeC xs i b = true := by cases h9 : mayP xs <;> cases h8 : userOk b <;> simp_all [takeC, userOk_zero]
       rw [takeA_ok hc]
       try rw [hat]
       exact out_mk [1] (.inr rfl) ⟨rfl, rfl⟩ rfl (vrel_tuple (lrel_cons (rel_slice (sigma_look (i := 0) rfl) (by simp)) (lrel_cons (.int _ _) lrel_nil))) (op_cons (sigma_look (i := 0) rfl) rfl rfl (ov_opn addrR rfl) rfl op_nil) trivial)
set_option maxHeartbeats 8000000 in
theorem pfree_tri {V : Heap} {n : Nat} {sv : Value} {xs : List AddrV} (i b : Int) (hl : Looks V 3 sv (addrR.cells xs) xs.length) (hb : xs.length * 24 ≤ 140737488355328) :
    Tri Tryz.prog 86 [sv, .int .i64 i, .int .i64 b] n 1 V (fun u L => u = .tuple #[.slice (some ⟨n, 0, none⟩) (freeA xs i b).1.length 0, .int .i64 (freeA xs i b).2] ∧ L = [(n, some (.opn (addrR.cells (freeA xs i b).1) 80 3))]) := by
  refine call_of_vw (K := 1) (argsI := [.slice (some ⟨0, 0, none⟩) xs.length 0, .int .i64 i, .int .i64 b]) tab Tryz.func86 rfl rfl (by simp [Tryz.f86]) [.look sv xs.length 3] [.win (addrR.cells xs) 3] rfl (.look hl (addrR.flat_cells xs) .nil) (by simp [ownNames]) (by simp [ownNames, lookNames]) (by simp [ownNames, *]) (al_cons (.look (a := 0) rfl) (al_cons (.val (.int _ _)) (al_cons (.val (.int _ _)) al_nil))) (seen_of (sn_look (seen_top (j := 0) rfl) sn_nil)) ?_
  by_cases hth : 0 ≤ i ∧ i < (xs.length : Int)
  case neg =>
    have ht : thereB xs i = false := by unfold thereB; rw [Bool.and_eq_false_iff, decide_eq_false_iff_not, decide_eq_false_iff_not]; omega
    have hc : freeC xs i b = false := by unfold freeC; rw [ht]; simp
    rw [freeA_bad hc]
    rcases (show i < 0 ∨ (¬ i < 0 ∧ (xs.length : Int) ≤ i) by omega) with h | h
    all_goals
      refine wsq (wrg (vQ2 tab rfl rfl (vnl (qth (wsq (wsq (wrg (vQ tab rfl (vR rfl callable_89 (may_tri (looks_win addrR rfl rfl) (by omega)) ?_)))))))))
      refine vQ tab rfl (vQ tab rfl ?_)
      refine vg_op rfl rfl rfl (fun _ => ?_) (fun _ => ?_)
      refine vQ2 tab rfl rfl (vR rfl callable_91 (there_tri _ (looks_win addrR rfl rfl)) (vQ3 tab rfl rfl rfl (vgd_op true rfl rfl rfl (by simp only [ht, sl_]; first | done | omega) ?_)))
      refine vK4 rfl rfl rfl rfl (vK2 rfl rfl (vQ2 tab rfl rfl (vK2 rfl rfl (vQ tab rfl (vnl (qth (vc_true rfl (wsq (wrg (vQ2 tab rfl rfl (vnl (qth (vw_ret (q_thenr ?_))))))))))))))
      rotate_left
      refine vK4 rfl rfl rfl rfl (vQ2 tab rfl rfl (vK4 rfl rfl rfl rfl (vK2 rfl rfl (vQ2 tab rfl rfl (vK2 rfl rfl (vQ tab rfl (vnl (qth (vc_true rfl (wsq (wrg (vQ tab rfl (vQ tab rfl ?_)))))))))))))
      refine vnl (qth (vw_ret (q_thenr ?_)))
      rotate_left
      all_goals exact out_mk [NIL] (.inr rfl) ⟨rfl, rfl⟩ rfl (vrel_tuple (lrel_cons (rel_nil (sigma_nil (i := 0) rfl) rfl) (lrel_cons (.int _ _) lrel_nil))) (op_void (sigma_nil (i := 0) rfl) rfl rfl rfl op_nil) trivial
  obtain ⟨h0, h1⟩ := hth
  have ht : thereB xs i = true := by unfold thereB; rw [decide_eq_true h0, decide_eq_true h1]; rfl
  obtain ⟨a, ha⟩ := get_some h0 h1
  have hat : atA xs i = a := by unfold atA; simp [List.getD_eq_getElem?_getD, ha]
  have hd0 : decide (i < 0) = false := decide_eq_false (by omega)
  have hd1 : decide ((xs.length : Int) ≤ i) = false := decide_eq_false (by omega)
  refine wsq (wrg (vQ2 tab rfl rfl (vnl (qth (wsq (wsq (wrg (vQ tab rfl (vR rfl callable_89 (may_tri (looks_win addrR rfl rfl) (by omega)) ?_)))))))))
  refine vQ tab rfl (vQ tab rfl ?_)
  refine vg_op rfl rfl rfl (fun _ => ?_) (fun _ => ?_)
  refine vQ2 tab rfl rfl (vR rfl callable_91 (there_tri _ (looks_win addrR rfl rfl)) (vQ3 tab rfl rfl rfl (vgd_op false rfl rfl rfl (by simp only [ht, sl_]; first | done | omega) ?_)))
  refine vQ2 tab rfl rfl (vq_op tab ⟨_, _, rfl, rfl, rfl⟩ rfl rfl (ev_index rfl rfl rfl rfl rfl (by omega) (by omega)) ?_)
  refine vQ tab rfl (vq_op tab ⟨_, _, rfl, rfl, rfl⟩ rfl rfl (ev_loadcell addrR rfl rfl rfl rfl rfl ha rfl) (vQ2 tab rfl rfl (vQ tab rfl ?_)))
  refine vg_op rfl rfl rfl (fun _ => ?_) (fun _ => ?_)
  refine vQ3 tab rfl rfl rfl (vnl (qth ?_))
  refine vc_part rfl (fun _ => ?_) (fun _ => ?_)
  refine wsq (wrg (vQ2 tab rfl rfl (vnl (qth (vw_ret (q_thenr ?_))))))
  rotate_left
  refine vw_skip (qth (wsq (wrg (vQ4 tab rfl rfl rfl rfl (vq_op tab rfl rfl rfl (ev_index rfl rfl rfl rfl rfl (by omega) (by omega)) ?_)))))
  refine vQ tab rfl (vq_op tab rfl rfl rfl (ev_loadcell addrR rfl rfl rfl rfl rfl ha rfl) (vQ2 tab rfl rfl (vT rfl callable_92 (with_tri ⟨false, a.last, b⟩ (looks_win addrR rfl rfl) hb h0 h1) (vQ2 tab rfl rfl (vnl (qth (vw_ret ?_)))))))
  rotate_left
  refine vK2 rfl rfl (vQ tab rfl (vnl (qth (vc_true rfl (wsq (wrg (vQ2 tab rfl rfl (vnl (qth (vw_ret (q_thenr ?_)))))))))))
  rotate_left
  refine vK4 rfl rfl rfl rfl (vQ2 tab rfl rfl (vK4 rfl rfl rfl rfl (vK2 rfl rfl (vQ2 tab rfl rfl (vK2 rfl rfl (vQ tab rfl (vnl (qth (vc_true rfl (wsq (wrg (vQ tab rfl (vQ tab rfl ?_)))))))))))))
  refine vnl (qth (vw_ret (q_thenr ?_)))
  rotate_left
  all_goals first
    | (have hc : freeC xs i b = false := by cases h9 : mayP xs <;> cases h8 : userOk b <;> simp_all [freeC, userOk_zero]
       rw [freeA_bad hc]
       exact out_mk [NIL] (.inr rfl) ⟨rfl, rfl⟩ rfl (vrel_tuple (lrel_cons (rel_nil (sigma_nil (i := 0) rfl) rfl) (lrel_cons (.int _ _) lrel_nil))) (op_void (sigma_nil (i := 0) rfl) rfl rfl rfl op_nil) trivial)
    | (have hc : freeC xs i b = true := by cases h9 : mayP xs <;> cases h8 : userOk b <;> simp_all [freeC, userOk_zero]
       rw [freeA_ok hc]
       try rw [hat]
       exact out_mk [1] (.inr rfl) ⟨rfl, rfl⟩ rfl (vrel_tuple (lrel_cons (rel_slice (sigma_look (i := 0) rfl) (by simp)) (lrel_cons (.int _ _) lrel_nil))) (op_cons (sigma_look (i := 0) rfl) rfl rfl (ov_opn addrR rfl) rfl op_nil) trivial)
set_option maxHeartbeats 8000000 in
theorem reffreea_tri {V : Heap} {n : Nat} {sv : Value} {xs : List AddrV} (i b : Int) (hl : Looks V 3 sv (addrR.cells xs) xs.length) (hb : xs.length * 24 ≤ 140737488355328) :
    Tri Tryz.prog 79 [sv, .int .i64 i, .int .i64 b] n 1 V (fun u L => u = .tuple #[.slice (some ⟨n, 0, none⟩) (freeA xs i b).1.length 0, .int .i64 (freeA xs i b).2] ∧ L = [(n, some (.opn (addrR.cells (freeA xs i b).1) 80 3))]) := by
  refine call_of_vw (K := 1) (argsI := [.slice (some ⟨0, 0, none⟩) xs.length 0, .int .i64 i, .int .i64 b]) tab Tryz.func79 rfl rfl (by simp [Tryz.f79]) [.look sv xs.length 3] [.win (addrR.cells xs) 3] rfl (.look hl (addrR.flat_cells xs) .nil) (by simp [ownNames]) (by simp [ownNames, lookNames]) (by simp [ownNames, *]) (al_cons (.look (a := 0) rfl) (al_cons (.val (.int _ _)) (al_cons (.val (.int _ _)) al_nil))) (seen_of (sn_look (seen_top (j := 0) rfl) sn_nil)) ?_
  by_cases hth : 0 ≤ i ∧ i < (xs.length : Int)
  case neg =>
    have ht : thereB xs i = false := by unfold thereB; rw [Bool.and_eq_false_iff, decide_eq_false_iff_not, decide_eq_false_iff_not]; omega
    have hc : freeC xs i b = false := by unfold freeC; rw [ht]; simp
    rw [freeA_bad hc]
    rcases (show i < 0 ∨ (¬ i < 0 ∧ (xs.length : Int) ≤ i) by omega) with h | h
    all_goals
      first
        | refine wsq (wrg (vQ2 tab rfl rfl (vnl (qth (wsq (wsq (wrg (vQ tab rfl (vR rfl callable_96 (refmay_tri _ (looks_win addrR rfl rfl) (by omega)) ?_)))))))))
          refine vQ tab rfl (vQ tab rfl ?_)
          refine vg_op rfl rfl rfl (fun _ => ?_) (fun _ => ?_)
          refine vQ4 tab rfl rfl rfl rfl (vgd_op true rfl rfl rfl (by simp only [ht, sl_]; first | done | omega) ?_)
          refine vK4 rfl rfl rfl rfl (vQ2 tab rfl rfl (vK4 rfl rfl rfl rfl (vK2 rfl rfl (vQ2 tab rfl rfl (vK2 rfl rfl (vQ tab rfl (vnl (qth (vc_true rfl (wsq (wrg (vQ tab rfl (vQ tab rfl ?_)))))))))))))
          refine vnl (qth (vw_ret (q_thenr ?_)))
          rotate_left
          refine vK2 rfl rfl (vQ2 tab rfl rfl (vK4 rfl rfl rfl rfl (vQ2 tab rfl rfl (vK4 rfl rfl rfl rfl (vK2 rfl rfl (vQ2 tab rfl rfl (vK2 rfl rfl (vQ tab rfl (vnl (qth (vc_true rfl ?_)))))))))))
          refine wsq (wrg (vQ2 tab rfl rfl (vnl (qth (vw_ret (q_thenr ?_))))))
          rotate_left
        | refine wsq (wrg (vQ2 tab rfl rfl (vnl (qth (wsq (wsq (wrg (vQ tab rfl (vR rfl callable_96 (refmay_tri _ (looks_win addrR rfl rfl) (by omega)) ?_)))))))))
          refine vQ tab rfl (vQ tab rfl ?_)
          refine vg_op rfl rfl rfl (fun _ => ?_) (fun _ => ?_)
          refine vQ4 tab rfl rfl rfl rfl (vgd_op false rfl rfl rfl (by simp only [ht, sl_]; first | done | omega) ?_)
          refine vQ4 tab rfl rfl rfl rfl (vQ2 tab rfl rfl (vgd_op true rfl rfl rfl (by simp only [ht, sl_]; first | done | omega) ?_))
          refine vK4 rfl rfl rfl rfl (vK2 rfl rfl (vQ2 tab rfl rfl (vK2 rfl rfl (vQ tab rfl (vnl (qth (vc_true rfl (wsq (wrg (vQ2 tab rfl rfl (vnl (qth (vw_ret (q_thenr ?_))))))))))))))
          rotate_left
          refine vK2 rfl rfl (vQ2 tab rfl rfl (vK4 rfl rfl rfl rfl (vQ2 tab rfl rfl (vK4 rfl rfl rfl rfl (vK2 rfl rfl (vQ2 tab rfl rfl (vK2 rfl rfl (vQ tab rfl (vnl (qth (vc_true rfl ?_)))))))))))
          refine wsq (wrg (vQ2 tab rfl rfl (vnl (qth (vw_ret (q_thenr ?_))))))
          rotate_left
      all_goals exact out_mk [NIL] (.inr rfl) ⟨rfl, rfl⟩ rfl (vrel_tuple (lrel_cons (rel_nil (sigma_nil (i := 0) rfl) rfl) (lrel_cons (.int _ _) lrel_nil))) (op_void (sigma_nil (i := 0) rfl) rfl rfl rfl op_nil) trivial
  obtain ⟨h0, h1⟩ := hth
  have ht : thereB xs i = true := by unfold thereB; rw [decide_eq_true h0, decide_eq_true h1]; rfl
  obtain ⟨a, ha⟩ := get_some h0 h1
  have hat : atA xs i = a := by unfold atA; simp [List.getD_eq_getElem?_getD, ha]
  have hd0 : decide (i < 0) = false := decide_eq_false (by omega)
  have hd1 : decide ((xs.length : Int) ≤ i) = false := decide_eq_false (by omega)
  refine wsq (wrg (vQ2 tab rfl rfl (vnl (qth (wsq (wsq (wrg (vQ tab rfl (vR rfl callable_96 (refmay_tri _ (looks_win addrR rfl rfl) (by omega)) ?_)))))))))
  refine vQ tab rfl (vQ tab rfl ?_)
  refine vg_op rfl rfl rfl (fun _ => ?_) (fun _ => ?_)
  refine vQ4 tab rfl rfl rfl rfl (vgd_op false rfl rfl rfl (by simp only [ht, sl_]; first | done | omega) ?_)
  refine vQ4 tab rfl rfl rfl rfl (vQ2 tab rfl rfl (vgd_op false rfl rfl rfl (by simp only [ht, sl_]; first | done | omega) ?_))
  refine vQ2 tab rfl rfl (vq_op tab ⟨_, _, rfl, rfl, rfl⟩ rfl rfl (ev_index rfl rfl rfl rfl rfl (by omega) (by omega)) ?_)
  refine vQ tab rfl (vq_op tab ⟨_, _, rfl, rfl, rfl⟩ rfl rfl (ev_loadcell addrR rfl rfl rfl rfl rfl ha rfl) (vQ2 tab rfl rfl (vQ tab rfl ?_)))
  refine vg_op rfl rfl rfl (fun _ => ?_) (fun _ => ?_)
  refine vQ3 tab rfl rfl rfl (vnl (qth ?_))
  refine vc_part rfl (fun _ => ?_) (fun _ => ?_)
  refine wsq (wrg (vQ2 tab rfl rfl (vnl (qth (vw_ret (q_thenr ?_))))))
  rotate_left
  refine vw_skip (qth (wsq (wrg (vQ2 tab rfl rfl (vq_op tab rfl rfl rfl (ev_index rfl rfl rfl rfl rfl (by omega) (by omega)) ?_)))))
  refine vq_op tab rfl rfl rfl (ev_loadrow addrR rfl rfl rfl rfl rfl rfl ha) (vN tab rfl (vS tab rfl (vnl (qth (wsq (wrg (vQ tab rfl (vS tab rfl (vnl (qth (wsq (wrg (vQ2 tab rfl rfl (vS tab rfl (vnl (qth (wsq (wrg (vQ3 tab rfl rfl rfl (vT rfl callable_97 (refwith_tri ⟨false, a.last, b⟩ (looks_win addrR rfl rfl) hb h0 h1) ?_))))))))))))))))))))
  refine vQ2 tab rfl rfl (vnl (qth (vw_ret ?_)))
  rotate_left
  refine vK2 rfl rfl (vQ tab rfl (vnl (qth (vc_true rfl (wsq (wrg (vQ2 tab rfl rfl (vnl (qth (vw_ret (q_thenr ?_)))))))))))
  rotate_left
  refine vK2 rfl rfl (vQ2 tab rfl rfl (vK4 rfl rfl rfl rfl (vQ2 tab rfl rfl (vK4 rfl rfl rfl rfl (vK2 rfl rfl (vQ2 tab rfl rfl (vK2 rfl rfl (vQ tab rfl (vnl (qth (vc_true rfl ?_)))))))))))
  refine wsq (wrg (vQ2 tab rfl rfl (vnl (qth (vw_ret (q_thenr ?_))))))
  rotate_left
  all_goals first
    | (have hc : freeC xs i b = false := by cases h9 : mayP xs <;> cases h8 : userOk b <;> simp_all [freeC, userOk_zero]
       rw [freeA_bad hc]
       exact out_mk [NIL] (.inr rfl) ⟨rfl, rfl⟩ rfl (vrel_tuple (lrel_cons (rel_nil (sigma_nil (i := 0) rfl) rfl) (lrel_cons (.int _ _) lrel_nil))) (op_void (sigma_nil (i := 0) rfl) rfl rfl rfl op_nil) trivial)
    | (have hc : freeC xs i b = true := by cases h9 : mayP xs <;> cases h8 : userOk b <;> simp_all [freeC, userOk_zero]
       rw [freeA_ok hc]
       try rw [hat]
       exact out_mk [2] (.inr rfl) ⟨rfl, rfl⟩ rfl (vrel_tuple (lrel_cons (rel_slice (sigma_look (i := 0) rfl) (by simp)) (lrel_cons (.int _ _) lrel_nil))) (op_cons (sigma_look (i := 0) rfl) rfl rfl (ov_opn addrR rfl) rfl op_nil) trivial)
end Go.Proofs.YtcjfidfealifhaaGreat
namespace Go.Proofs.YtcjfidfealifhaaGreat
open Go Vm IntWalk
set_option linter.unusedVariables false
set_option linter.unusedSimpArgs false
theorem open_fun (f u t : Int) : Fun Tryz.prog 95 [.agg #[.int .i64 f, .int .i64 u], .int .i64 t] (.bool (decide (u ≤ t))) := by
  refine fun_of_vw tab Tryz.func95 rfl rfl (by simp [Tryz.f95]) (lrel_cons (vrel_agg (lrel_cons (.int _ _) (lrel_cons (.int _ _) lrel_nil))) (lrel_cons (.int _ _) lrel_nil)) (.bool _) ?_
  refine wsq (wrg (vN tab rfl (vQ tab rfl (vnl (qth (wsq (wrg (vQ4 tab rfl rfl rfl rfl (vQ tab rfl (vnl (qth (vw_ret ?_))))))))))))
  exact ⟨.inr rfl, rfl⟩
def failBad (f u t m o : Int) : Prop := f < 0 ∨ 8 < f ∨ u < 0 ∨ 1114111 < u ∨ ¬ (0 ≤ t ∧ t ≤ 1048575) ∨ m < 1 ∨ 8 < m ∨ o < 1 ∨ 65536 < o ∨ t < u
instance (f u t m o : Int) : Decidable (failBad f u t m o) := by unfold failBad; infer_instance
def failF (f m : Int) : Int := (if m ≤ f then 0 else f) + 1
def failR (f u t m o : Int) : Int × Int × Int := if failBad f u t m o then (0, 0, 1300) else (failF f m, if failF f m = m then t + o else u, 0)
theorem failR_bad {f u t m o : Int} (h : failBad f u t m o) : failR f u t m o = (0, 0, 1300) := if_pos h
set_option maxHeartbeats 4000000 in
theorem fail_fun (f u t m o : Int) : Fun Tryz.prog 77 [.agg #[.int .i64 f, .int .i64 u], .int .i64 t, .int .i64 m, .int .i64 o]
    (.tuple #[.agg #[.int .i64 (failR f u t m o).1, .int .i64 (failR f u t m o).2.1], .int .i64 (failR f u t m o).2.2]) := by
  refine fun_of_vw tab Tryz.func77 rfl rfl (by simp [Tryz.f77])
    (lrel_cons (vrel_agg (lrel_cons (.int _ _) (lrel_cons (.int _ _) lrel_nil))) (lrel_cons (.int _ _) (lrel_cons (.int _ _) (lrel_cons (.int _ _) lrel_nil))))
    (vrel_tuple (lrel_cons (vrel_agg (lrel_cons (.int _ _) (lrel_cons (.int _ _) lrel_nil))) (lrel_cons (.int _ _) lrel_nil))) ?_
  refine wsq (wrg (vN tab rfl (vN tab rfl (vQ tab rfl (vnl (qth (wsq (wbk (wsq (wrg (vQ3 tab rfl rfl rfl (vQ tab rfl ?_))))))))))))
  refine vg_op rfl rfl rfl (fun _ => ?_) (fun _ => ?_)
  refine vQ4 tab rfl rfl rfl rfl (vQ tab rfl ?_)
  refine vg_op rfl rfl rfl (fun _ => ?_) (fun _ => ?_)
  refine vQ4 tab rfl rfl rfl rfl (vQ tab rfl ?_)
  refine vg_op rfl rfl rfl (fun _ => ?_) (fun _ => ?_)
  refine vQ4 tab rfl rfl rfl rfl (vQ tab rfl ?_)
  refine vg_op rfl rfl rfl (fun _ => ?_) (fun _ => ?_)
  refine vQ tab rfl (vF rfl callable_94 (tickmay_fun _) (vQ3 tab rfl rfl rfl (vnl (qth ?_))))
  refine vc_part rfl (fun _ => ?_) (fun _ => ?_)
  refine wsq (wrg (vQ tab rfl (vS tab rfl (vQ tab rfl (vnl (qth (vw_ret (q_ret (q_thenr ?_)))))))))
  rotate_left
  refine wsq (wrg (vQ2 tab rfl rfl (vQ tab rfl ?_)))
  refine vg_op rfl rfl rfl (fun _ => ?_) (fun _ => ?_)
  refine vQ3 tab rfl rfl rfl (vQ tab rfl ?_)
  refine vg_op rfl rfl rfl (fun _ => ?_) (fun _ => ?_)
  refine vQ3 tab rfl rfl rfl (vQ tab rfl ?_)
  refine vg_op rfl rfl rfl (fun _ => ?_) (fun _ => ?_)
  refine vQ3 tab rfl rfl rfl (vQ tab rfl ?_)
  refine vg_op rfl rfl rfl (fun _ => ?_) (fun _ => ?_)
  refine vQ2 tab rfl rfl (vF rfl callable_95 (open_fun _ _ _) (vQ3 tab rfl rfl rfl (vnl (qth ?_))))
  refine vc_part rfl (fun _ => ?_) (fun _ => ?_)
  refine wsq (wrg (vQ tab rfl (vS tab rfl (vQ tab rfl (vnl (qth (vw_ret (q_ret (q_thenr ?_)))))))))
  rotate_left
  refine vw_skip (q_norm (qth (wsq (wsq (wrg (vQ4 tab rfl rfl rfl rfl (vnl (qth ?_))))))))
  refine vc_part rfl (fun _ => ?_) (fun _ => ?_)
  refine wrg (vQ tab rfl (vS tab rfl (vnl (qth (wsq (wrg (vQ4 tab rfl rfl rfl rfl (vS tab rfl (vnl (qth (wsq (wsq (wrg (vQ4 tab rfl rfl rfl rfl (vnl (qth ?_))))))))))))))))
  refine vc_part rfl (fun _ => ?_) (fun _ => ?_)
  refine wrg (vQ4 tab rfl rfl rfl rfl (vS tab rfl (vnl (qth (wsq (wrg (vQ tab rfl (vS tab rfl (vQ tab rfl (vnl (qth (vw_ret ?_))))))))))))
  rotate_left
  refine vw_skip (qth (wsq (wrg (vQ tab rfl (vS tab rfl (vQ tab rfl (vnl (qth (vw_ret ?_)))))))))
  rotate_left
  refine vw_skip (qth (wsq (wrg (vQ4 tab rfl rfl rfl rfl (vS tab rfl (vnl (qth (wsq (wsq (wrg (vQ4 tab rfl rfl rfl rfl (vnl (qth ?_)))))))))))))
  refine vc_part rfl (fun _ => ?_) (fun _ => ?_)
  refine wrg (vQ4 tab rfl rfl rfl rfl (vS tab rfl (vnl (qth (wsq (wrg (vQ tab rfl (vS tab rfl (vQ tab rfl (vnl (qth (vw_ret ?_))))))))))))
  rotate_left
  refine vw_skip (qth (wsq (wrg (vQ tab rfl (vS tab rfl (vQ tab rfl (vnl (qth (vw_ret ?_)))))))))
  rotate_left
  refine vK4 rfl rfl rfl rfl (vQ2 tab rfl rfl (vnl (qth (vc_true rfl (wsq (wrg (vQ tab rfl (vS tab rfl (vQ tab rfl (vnl (qth (vw_ret (q_ret (q_thenr ?_))))))))))))))
  rotate_left
  refine vK2 rfl rfl (vQ2 tab rfl rfl (vK4 rfl rfl rfl rfl (vQ2 tab rfl rfl (vnl (qth (vc_true rfl (wsq (wrg (vQ tab rfl (vS tab rfl (vQ tab rfl (vnl (qth (vw_ret (q_ret (q_thenr ?_))))))))))))))))
  rotate_left
  refine vK2 rfl rfl (vQ2 tab rfl rfl (vK2 rfl rfl (vQ2 tab rfl rfl (vK4 rfl rfl rfl rfl (vQ2 tab rfl rfl (vnl (qth (vc_true rfl (wsq (wrg (vQ tab rfl (vS tab rfl (vQ tab rfl (vnl (qth ?_)))))))))))))))
  refine vw_ret (q_ret (q_thenr ?_))
  rotate_left
  refine vK2 rfl rfl (vQ2 tab rfl rfl (vK2 rfl rfl (vQ2 tab rfl rfl (vK2 rfl rfl (vQ2 tab rfl rfl (vK4 rfl rfl rfl rfl (vQ2 tab rfl rfl (vnl (qth (vc_true rfl (wsq (wrg (vQ tab rfl ?_)))))))))))))
  refine vS tab rfl (vQ tab rfl (vnl (qth (vw_ret (q_ret (q_thenr ?_))))))
  rotate_left
  refine vK3 rfl rfl rfl (vQ2 tab rfl rfl (vnl (qth (vc_true rfl (wsq (wrg (vQ tab rfl (vS tab rfl (vQ tab rfl (vnl (qth (vw_ret (q_ret (q_thenr ?_))))))))))))))
  rotate_left
  refine vK3 rfl rfl rfl (vQ2 tab rfl rfl (vK3 rfl rfl rfl (vQ2 tab rfl rfl (vnl (qth (vc_true rfl (wsq (wrg (vQ tab rfl (vS tab rfl (vQ tab rfl (vnl (qth (vw_ret (q_ret (q_thenr ?_))))))))))))))))
  rotate_left
  refine vK3 rfl rfl rfl (vQ2 tab rfl rfl (vK3 rfl rfl rfl (vQ2 tab rfl rfl (vK3 rfl rfl rfl (vQ2 tab rfl rfl (vnl (qth (vc_true rfl (wsq (wrg (vQ tab rfl (vS tab rfl (vQ tab rfl (vnl ?_))))))))))))))
  refine qth (vw_ret (q_ret (q_thenr ?_)))
  rotate_left
  refine vK3 rfl rfl rfl (vQ2 tab rfl rfl (vK3 rfl rfl rfl (vQ2 tab rfl rfl (vK3 rfl rfl rfl (vQ2 tab rfl rfl (vK3 rfl rfl rfl (vQ2 tab rfl rfl (vnl (qth (vc_true rfl (wsq ?_)))))))))))
  refine wrg (vQ tab rfl (vS tab rfl (vQ tab rfl (vnl (qth (vw_ret (q_ret (q_thenr ?_))))))))
  rotate_left
  all_goals
    refine ⟨.inr rfl, Eq.trans (b := some _) rfl (congrArg some ?_)⟩
  all_goals
    simp only [Bool.and_eq_true, Bool.and_eq_false_iff, decide_eq_true_eq, decide_eq_false_iff_not, Bool.not_eq_eq_eq_not, Bool.not_true, Bool.not_false, beq_iff_eq, beq_eq_false_iff_ne, ne_eq, i64_in 1 (by omega), Int.zero_add] at *
    first
      | (rw [failR_bad (by unfold failBad; omega)]; rfl)
      | (have hw1 := i64_in (f + 1) (by omega)
         have hw2 := i64_in (t + o) (by omega)
         simp only [hw1, hw2] at *
         rw [failR, if_neg (by unfold failBad; omega), failF]
         simp [ti74, setCells, splice, Value.cells, *]
         done)
theorem fail_at {f u t m o a b c : Int} (h : failR f u t m o = (a, b, c)) : Fun Tryz.prog 77 [.agg #[.int .i64 f, .int .i64 u], .int .i64 t, .int .i64 m, .int .i64 o] (.tuple #[.agg #[.int .i64 a, .int .i64 b], .int .i64 c]) := by
  have := fail_fun f u t m o
  rw [h] at this
  exact this
end Go.Proofs.YtcjfidfealifhaaGreat
namespace Go.Proofs.YtcjfidfealifhaaGreat
open Go Vm IntWalk
set_option linter.unusedVariables false
set_option linter.unusedSimpArgs false
structure UserV where
  user : Int
  key : Int
  secret : Int
  quota : Int
  used : Int
  fails : Int
  until_ : Int
  step : Int
  gen : Int
  deriving DecidableEq
def userL (a : UserV) : List Value := [.int .i64 a.user, .int .i64 a.key, .int .i64 a.secret, .int .i64 a.quota, .int .i64 a.used, .int .i64 a.fails, .int .i64 a.until_, .int .i64 a.step, .int .i64 a.gen]
def userR : Rw UserV := ⟨userL, 9, fun _ => rfl, fun a v h => by unfold userL at h; simp only [List.mem_cons, List.not_mem_nil, or_false] at h; rcases h with rfl | rfl | rfl | rfl | rfl | rfl | rfl | rfl | rfl <;> rfl, by decide⟩
abbrev userV (a : UserV) : Value := .agg (userL a).toArray
abbrev userRel {ρ : Ren} (a : UserV) : VRel ρ (userV a) (userV a) := vrel_agg (userR.flat a).rel
theorem user_eq (a b : UserV) : evEq tys 50 76 (.agg (userR.f a).toArray) (.agg (userR.f b).toArray) = some (decide (a = b)) := by
  refine Eq.trans (b := some (a.user == b.user && (a.key == b.key && (a.secret == b.secret && (a.quota == b.quota && (a.used == b.used && ((a.fails == b.fails && (a.until_ == b.until_ && true)) && (a.step == b.step && (a.gen == b.gen && true))))))))) rfl (congrArg some ?_)
  rw [Bool.eq_iff_iff]
  cases a; cases b; simp [and_assoc]
structure SessV where
  session : Int
  user : Int
  address : Int
  start : Int
  deriving DecidableEq
def sessL (a : SessV) : List Value := [.int .i64 a.session, .int .i64 a.user, .int .i64 a.address, .int .i64 a.start]
def sessR : Rw SessV := ⟨sessL, 4, fun _ => rfl, fun a v h => by unfold sessL at h; simp only [List.mem_cons, List.not_mem_nil, or_false] at h; rcases h with rfl | rfl | rfl | rfl <;> rfl, by decide⟩
abbrev sessV (a : SessV) : Value := .agg (sessL a).toArray
abbrev sessRel {ρ : Ren} (a : SessV) : VRel ρ (sessV a) (sessV a) := vrel_agg (sessR.flat a).rel
theorem sess_eq (a b : SessV) : evEq tys 50 78 (.agg (sessR.f a).toArray) (.agg (sessR.f b).toArray) = some (decide (a = b)) := by
  refine Eq.trans (b := some (a.session == b.session && (a.user == b.user && (a.address == b.address && (a.start == b.start && true))))) rfl (congrArg some ?_)
  rw [Bool.eq_iff_iff]
  cases a; cases b; simp
structure ConfV where
  sectors : Int
  halves : Int
  sessions : Int
  addresses : Int
  fails : Int
  lockout : Int
  halfLife : Int
  idle : Int
  absolute : Int
  quarantine : Int
  ticketLife : Int
  keep : Int
  deriving DecidableEq
def confL (a : ConfV) : List Value := [.int .i64 a.sectors, .int .i64 a.halves, .int .i64 a.sessions, .int .i64 a.addresses, .int .i64 a.fails, .int .i64 a.lockout, .int .i64 a.halfLife, .int .i64 a.idle, .int .i64 a.absolute, .int .i64 a.quarantine, .int .i64 a.ticketLife, .int .i64 a.keep]
def confR : Rw ConfV := ⟨confL, 12, fun _ => rfl, fun a v h => by unfold confL at h; simp only [List.mem_cons, List.not_mem_nil, or_false] at h; rcases h with rfl | rfl | rfl | rfl | rfl | rfl | rfl | rfl | rfl | rfl | rfl | rfl <;> rfl, by decide⟩
abbrev confV (a : ConfV) : Value := .agg (confL a).toArray
abbrev confRel {ρ : Ren} (a : ConfV) : VRel ρ (confV a) (confV a) := vrel_agg (confR.flat a).rel
abbrev confO (a : ConfV) : VObj := .cells (confL a) 23 (0, 0)
theorem ov_conf {σ : Ren} {a b : ConfV} (h : a = b) : OV σ (confO a) (confO b) := by rw [h]; exact .cells _ _ (confR.flat b).rel
def lifeOk (x : Int) : Bool := decide (1 ≤ x) && decide (x ≤ 65536)
def betw (x l h : Int) : Bool := decide (l ≤ x) && decide (x ≤ h)
def confMay (c : ConfV) : Bool := betw c.sectors 3 256 && betw c.halves 1 8 && betw c.sessions 1 8 && betw c.addresses 1 16 && betw c.fails 1 8 && betw c.keep 0 4 && lifeOk c.lockout && lifeOk c.halfLife && lifeOk c.idle && lifeOk c.absolute && lifeOk c.quarantine && lifeOk c.ticketLife
structure StV where
  boots : Int
  epoch : Int
  next : Int
  users : List UserV
  sess : List SessV
  addrs : List AddrV
  spent : List Int
  deriving DecidableEq
def st0 : StV := ⟨0, 0, 0, [], [], [], []⟩
def newS (n : Int) : StV × Int := if 1 ≤ n ∧ n ≤ 16 then ({ st0 with addrs := (newP n).1 }, 0) else (st0, 2000)
def userAt (us : List UserV) (u : Int) : Option Nat := us.findIdx? fun x => x.user == u
def sessAt (xs : List SessV) (s : Int) : Option Nat := xs.findIdx? fun x => x.session == s
def freeAll (u : Int) : List SessV → List AddrV → Option (List AddrV)
  | [], aa => some aa
  | x :: xs, aa => if freeC aa x.address u = true then freeAll u xs (freeA aa x.address u).1 else none
def bootE (c : ConfV) (s : StV) (e : EventV) : Option StV :=
  match freeAll (IntKind.i64.wrap (e.tick + c.quarantine)) s.sess s.addrs with
  | none => none
  | some aa => if 0 ≤ s.boots ∧ s.boots ≤ 1073741822 then some { s with boots := s.boots + 1, addrs := aa, sess := [] } else none
def gtAt (us : List UserV) (u : Int) : Nat := us.findIdx fun x => decide (u < x.user)
def userPut (us : List UserV) (u : UserV) : List UserV := us.take (gtAt us u.user) ++ u :: us.drop (gtAt us u.user)
def userE (s : StV) (e : EventV) : Option StV :=
  match userAt s.users e.user with
  | some _ => none
  | none => some { s with users := userPut s.users ⟨e.user, e.a, e.b, e.c, 0, 0, 0, 0, 0⟩ }
def ofE (c : ConfV) (s : StV) (e : EventV) : Option StV :=
  match userAt s.users e.user with
  | none => none
  | some j => match s.users[j]? with
    | none => none
    | some u =>
      if e.kind = 7 then (if 0 ≤ u.gen ∧ u.gen ≤ 1073741822 then some { s with users := s.users.set j { u with gen := u.gen + 1 } } else none)
      else if e.kind = 2 then (match failR u.fails u.until_ e.tick c.fails c.lockout with
        | (f, t, r) => if r = 0 then some { s with users := s.users.set j { u with fails := f, until_ := t } } else none)
      else if e.kind = 3 then (if e.a ≤ u.step then none else some { s with users := s.users.set j { u with step := e.a, fails := 0, until_ := 0 } })
      else some { s with users := s.users.set j { u with fails := 0, until_ := 0 } }
def leaseE (c : ConfV) (s : StV) (e : EventV) : Option StV :=
  if takeC s.addrs e.address e.user = true ∧ e.session = s.next ∧ (userAt s.users e.user).isSome = true ∧ (s.sess.length : Int) < c.sessions then
    some { s with addrs := (takeA s.addrs e.address e.user).1, sess := s.sess ++ [⟨e.session, e.user, e.address, e.tick⟩], next := IntKind.i64.wrap (s.next + 1) } else none
def sumU (x y : Int) : Int := if IntKind.i64.wrap (1073741823 - y) < x then 1073741823 else IntKind.i64.wrap (x + y)
def useU (us : List UserV) (u a : Int) : List UserV := match userAt us u with
  | none => us
  | some j => match us[j]? with
    | none => us
    | some x => us.set j { x with used := sumU x.used a }
def closeE (s : StV) (e : EventV) : Option StV :=
  match sessAt s.sess e.session with
  | none => none
  | some k => match s.sess[k]? with
    | none => none
    | some x => if freeC s.addrs x.address e.tick = true then some { s with addrs := (freeA s.addrs x.address e.tick).1, users := useU s.users x.user e.a, sess := s.sess.eraseIdx k } else none
def spendE (s : StV) (e : EventV) : Option StV := if s.spent.contains e.session = true then none else some { s with spent := s.spent ++ [e.session] }
def doesE (c : ConfV) (s : StV) (e : EventV) : Option StV :=
  if e.kind = 0 then bootE c s e else if e.kind = 1 then userE s e else if e.kind = 5 then leaseE c s e else if e.kind = 6 then closeE s e
  else if e.kind = 8 then (if s.epoch < 1073741823 then some { s with epoch := IntKind.i64.wrap (s.epoch + 1) } else none) else if e.kind = 9 then spendE s e else ofE c s e
def applyC (c : ConfV) (s : StV) (e : EventV) : Bool := confMay c && evtMay e && decide ((s.addrs.length : Int) = c.addresses)
def applyS (c : ConfV) (s : StV) (e : EventV) : StV × Int :=
  if applyC c s e = true then (match doesE c s e with
    | some t => (t, 0)
    | none => (st0, 2001)) else (st0, 2000)
def goS (c : ConfV) : StV → List EventV → StV × Int
  | s, [] => (s, 0)
  | s, e :: es => match applyS c s e with
    | (t, 0) => goS c t es
    | (_, f) => (st0, f)
def allS (c : ConfV) (es : List EventV) : StV × Int := match newS c.addresses with
  | (s, 0) => goS c s es
  | (_, f) => (st0, f)
end Go.Proofs.YtcjfidfealifhaaGreat
