/- Texts of this seat, merged in build order. No statement of its own. -/
import Derived.Test.YtmpdimigpaogkaaProg
import Derived.OpenShut
import Derived.Deep.Slices
import Derived.RangeFuncKeeps
import Derived.RangeFuncLeaves
import Derived.Below
import Derived.Deep.Draws
import Derived.Deep.AppendLies
import Derived.Maps.AppendAt
import Derived.OwnWalk
import Derived.Laws.BytesArg
import Derived.Laws.MakeOwn
import Derived.Laws.OwnMore
import Derived.Deep.OwnRows
import Derived.Tactics
import Derived.Lib.ConvBytes
import Derived.Laws.Slices
import Derived.WalkKit
import Derived.KernelRfl
import Derived.RowKit3
import Derived.Deep.LoopGhost
import Derived.Deep.QuietTactic
import Derived.BigQuiet
import Derived.WideLaws
import Derived.Deep.DeepCutAuto
import Derived.Deep.CutBlock
import Derived.Deep.RegionHeld3
import Derived.Laws.Rows
import Derived.Lib.AppendStr
import Derived.ArgAppend
import Derived.Laws.IdiomCopy
import Derived.RowKit
import Derived.OrdersHeld
import Derived.Laws.BitsLemmas
import Derived.WalkSpells
import Derived.Lib.BufferMore
import Derived.OwnWalkIn
import Derived.TacticsInMore
import Derived.LoopNIn
import Derived.LoopIn
import Derived.Shelf.RegionOpen
import Derived.Outline
import Derived.OrdersIn
import Derived.Deep.WholeRow
import Derived.Maps.Own
import Derived.WideMake
import Derived.Laws.StructEq
import Derived.Laws.BitsAllLaws
import Derived.Laws.Bits64
import Derived.Recover
import Derived.Defers
import Derived.Test.YtmpdimigpaogkaaK2
set_option linter.unusedVariables false
set_option linter.unusedSimpArgs false
section
namespace Go.Proofs
open Go.Ab
set_option maxRecDepth 100000
def te1 : TE := ⟨.func #[] #[] false, 1, 8, .nilFunc, false⟩
def te2 : TE := ⟨.int .i64, 1, 8, .int .i64 0, false⟩
def te3 : TE := ⟨.int .i64, 1, 8, .int .i64 0, false⟩
def te4 : TE := ⟨.bool, 1, 1, .bool false, false⟩
def te5 : TE := ⟨.int .u8, 1, 1, .int .u8 0, false⟩
def te9 : TE := ⟨.string, 1, 16, .string .empty, false⟩
def te21 : TE := ⟨.int .i32, 1, 4, .int .i32 0, false⟩
def te22 : TE := ⟨.slice 3, 1, 24, .slice none 0 0, false⟩
def te23 : TE := ⟨.slice 5, 1, 24, .slice none 0 0, false⟩
def te24 : TE := ⟨.struct #[⟨"Perm", 22, 0, false, "", "", 0⟩, ⟨"Bytes", 23, 1, false, "", "", 24⟩], 2, 48, .agg #[.slice none 0 0, .slice none 0 0], false⟩
def te25 : TE := ⟨.struct #[⟨"Perm", 22, 0, false, "", "", 0⟩, ⟨"Bytes", 23, 1, false, "", "", 24⟩], 2, 48, .agg #[.slice none 0 0, .slice none 0 0], false⟩
def te26 : TE := ⟨.struct #[⟨"At", 2, 0, false, "", "", 0⟩, ⟨"N", 3, 1, false, "", "", 8⟩, ⟨"M", 3, 2, false, "", "", 16⟩], 3, 24, .agg #[.int .i64 0, .int .i64 0, .int .i64 0], true⟩
def te27 : TE := ⟨.struct #[⟨"At", 2, 0, false, "", "", 0⟩, ⟨"N", 3, 1, false, "", "", 8⟩, ⟨"M", 3, 2, false, "", "", 16⟩], 3, 24, .agg #[.int .i64 0, .int .i64 0, .int .i64 0], true⟩
def te28 : TE := ⟨.struct #[⟨"Size", 3, 0, false, "", "", 0⟩, ⟨"Signed", 4, 1, false, "", "", 8⟩], 2, 16, .agg #[.int .i64 0, .bool false], true⟩
def te29 : TE := ⟨.struct #[⟨"Size", 3, 0, false, "", "", 0⟩, ⟨"Signed", 4, 1, false, "", "", 8⟩], 2, 16, .agg #[.int .i64 0, .bool false], true⟩
def te30 : TE := ⟨.struct #[⟨"At", 2, 0, false, "", "", 0⟩, ⟨"T", 29, 1, false, "", "", 8⟩, ⟨"V", 2, 3, false, "", "", 24⟩], 4, 32, .agg #[.int .i64 0, .int .i64 0, .bool false, .int .i64 0], true⟩
def te31 : TE := ⟨.struct #[⟨"At", 2, 0, false, "", "", 0⟩, ⟨"T", 29, 1, false, "", "", 8⟩, ⟨"V", 2, 3, false, "", "", 24⟩], 4, 32, .agg #[.int .i64 0, .int .i64 0, .bool false, .int .i64 0], true⟩
def te32 : TE := ⟨.func #[] #[4] false, 1, 8, .nilFunc, false⟩
def te33 : TE := ⟨.struct #[⟨"Kind", 3, 0, false, "", "", 0⟩, ⟨"At", 2, 1, false, "", "", 8⟩], 2, 16, .agg #[.int .i64 0, .int .i64 0], true⟩
def te34 : TE := ⟨.struct #[⟨"Kind", 3, 0, false, "", "", 0⟩, ⟨"At", 2, 1, false, "", "", 8⟩], 2, 16, .agg #[.int .i64 0, .int .i64 0], true⟩
def te35 : TE := ⟨.int .i64, 1, 8, .int .i64 0, false⟩
def te37 : TE := ⟨.func #[25, 2, 3, 3] #[34, 35] false, 1, 8, .nilFunc, false⟩
def te39 : TE := ⟨.func #[25, 2, 29] #[2, 34, 35] false, 1, 8, .nilFunc, false⟩
def te41 : TE := ⟨.func #[25, 2, 29, 2] #[25, 34, 35] false, 1, 8, .nilFunc, false⟩
def te42 : TE := ⟨.func #[25, 27, 31] #[4] false, 1, 8, .nilFunc, false⟩
def te43 : TE := ⟨.func #[25] #[35] false, 1, 8, .nilFunc, false⟩
def te45 : TE := ⟨.func #[25, 2, 3] #[23, 35] false, 1, 8, .nilFunc, false⟩
def te47 : TE := ⟨.func #[25, 2, 3] #[23, 34, 35] false, 1, 8, .nilFunc, false⟩
def te49 : TE := ⟨.func #[25, 3, 3] #[25, 35] false, 1, 8, .nilFunc, false⟩
def te50 : TE := ⟨.func #[25, 3] #[25, 35] false, 1, 8, .nilFunc, false⟩
def te51 : TE := ⟨.array 2 3, 2, 16, .agg #[.int .i64 0, .int .i64 0], true⟩
def te52 : TE := ⟨.func #[3] #[25, 35] false, 1, 8, .nilFunc, false⟩
def te53 : TE := ⟨.struct #[⟨"S", 25, 0, false, "", "", 0⟩, ⟨"F", 34, 2, false, "", "", 48⟩, ⟨"E", 35, 4, false, "", "", 64⟩], 5, 72, .agg #[.slice none 0 0, .slice none 0 0, .int .i64 0, .int .i64 0, .int .i64 0], false⟩
def te54 : TE := ⟨.struct #[⟨"S", 25, 0, false, "", "", 0⟩, ⟨"F", 34, 2, false, "", "", 48⟩, ⟨"E", 35, 4, false, "", "", 64⟩], 5, 72, .agg #[.slice none 0 0, .slice none 0 0, .int .i64 0, .int .i64 0, .int .i64 0], false⟩
def te55 : TE := ⟨.func #[3] #[54] false, 1, 8, .nilFunc, false⟩
def te56 : TE := ⟨.func #[25, 3, 3] #[54] false, 1, 8, .nilFunc, false⟩
def te57 : TE := ⟨.func #[25, 3] #[54] false, 1, 8, .nilFunc, false⟩
def te58 : TE := ⟨.func #[25, 25] #[4] false, 1, 8, .nilFunc, false⟩
def te59 : TE := ⟨.func #[25, 25, 51] #[4] false, 1, 8, .nilFunc, false⟩
def te60 : TE := ⟨.func #[29] #[35] false, 1, 8, .nilFunc, false⟩
def te61 : TE := ⟨.func #[31, 31] #[4] false, 1, 8, .nilFunc, false⟩
def te62 : TE := ⟨.func #[25, 31, 31] #[4] false, 1, 8, .nilFunc, false⟩
def te63 : TE := ⟨.func #[25, 31] #[4] false, 1, 8, .nilFunc, false⟩
def te64 : TE := ⟨.func #[25, 2, 23] #[25, 34, 35] false, 1, 8, .nilFunc, false⟩
def te65 : TE := ⟨.struct #[⟨"V", 2, 0, false, "", "", 0⟩, ⟨"F", 34, 1, false, "", "", 8⟩, ⟨"E", 35, 3, false, "", "", 24⟩], 4, 32, .agg #[.int .i64 0, .int .i64 0, .int .i64 0, .int .i64 0], true⟩
def te66 : TE := ⟨.struct #[⟨"V", 2, 0, false, "", "", 0⟩, ⟨"F", 34, 1, false, "", "", 8⟩, ⟨"E", 35, 3, false, "", "", 24⟩], 4, 32, .agg #[.int .i64 0, .int .i64 0, .int .i64 0, .int .i64 0], true⟩
def te67 : TE := ⟨.func #[25, 2, 29] #[66] false, 1, 8, .nilFunc, false⟩
def te68 : TE := ⟨.func #[25, 2, 29, 2] #[54] false, 1, 8, .nilFunc, false⟩
def te69 : TE := ⟨.func #[25, 2, 23] #[54] false, 1, 8, .nilFunc, false⟩
def te70 : TE := ⟨.func #[25, 31, 23] #[4] false, 1, 8, .nilFunc, false⟩
def te72 : TE := ⟨.func #[25, 2, 3] #[9, 34, 35] false, 1, 8, .nilFunc, false⟩
def te73 : TE := ⟨.func #[25, 27] #[4] false, 1, 8, .nilFunc, false⟩
def te74 : TE := ⟨.struct #[⟨"F", 34, 0, false, "", "", 0⟩, ⟨"E", 35, 2, false, "", "", 16⟩], 3, 24, .agg #[.int .i64 0, .int .i64 0, .int .i64 0], true⟩
def te75 : TE := ⟨.struct #[⟨"F", 34, 0, false, "", "", 0⟩, ⟨"E", 35, 2, false, "", "", 16⟩], 3, 24, .agg #[.int .i64 0, .int .i64 0, .int .i64 0], true⟩
def te76 : TE := ⟨.func #[25, 2, 3, 3] #[75] false, 1, 8, .nilFunc, false⟩
def te77 : TE := ⟨.struct #[⟨"B", 23, 0, false, "", "", 0⟩, ⟨"F", 34, 1, false, "", "", 24⟩, ⟨"E", 35, 3, false, "", "", 40⟩], 4, 48, .agg #[.slice none 0 0, .int .i64 0, .int .i64 0, .int .i64 0], false⟩
def te78 : TE := ⟨.struct #[⟨"B", 23, 0, false, "", "", 0⟩, ⟨"F", 34, 1, false, "", "", 24⟩, ⟨"E", 35, 3, false, "", "", 40⟩], 4, 48, .agg #[.slice none 0 0, .int .i64 0, .int .i64 0, .int .i64 0], false⟩
def te79 : TE := ⟨.func #[25, 2, 3] #[78] false, 1, 8, .nilFunc, false⟩
def te80 : TE := ⟨.struct #[⟨"S", 9, 0, false, "", "", 0⟩, ⟨"F", 34, 1, false, "", "", 16⟩, ⟨"E", 35, 3, false, "", "", 32⟩], 4, 40, .agg #[.string .empty, .int .i64 0, .int .i64 0, .int .i64 0], true⟩
def te81 : TE := ⟨.struct #[⟨"S", 9, 0, false, "", "", 0⟩, ⟨"F", 34, 1, false, "", "", 16⟩, ⟨"E", 35, 3, false, "", "", 32⟩], 4, 40, .agg #[.string .empty, .int .i64 0, .int .i64 0, .int .i64 0], true⟩
def te82 : TE := ⟨.func #[25, 2, 3] #[81] false, 1, 8, .nilFunc, false⟩
def te83 : TE := ⟨.slice 94, 1, 24, .slice none 0 0, false⟩
def te85 : TE := ⟨.func #[25, 25] #[83, 35] false, 1, 8, .nilFunc, false⟩
def te86 : TE := ⟨.struct #[⟨"L", 83, 0, false, "", "", 0⟩, ⟨"E", 35, 1, false, "", "", 24⟩], 2, 32, .agg #[.slice none 0 0, .int .i64 0], false⟩
def te87 : TE := ⟨.struct #[⟨"L", 83, 0, false, "", "", 0⟩, ⟨"E", 35, 1, false, "", "", 24⟩], 2, 32, .agg #[.slice none 0 0, .int .i64 0], false⟩
def te88 : TE := ⟨.func #[25, 25] #[87] false, 1, 8, .nilFunc, false⟩
def te89 : TE := ⟨.func #[83, 83] #[4] false, 1, 8, .nilFunc, false⟩
def te91 : TE := ⟨.func #[29, 2] #[2, 35] false, 1, 8, .nilFunc, false⟩
def te92 : TE := ⟨.func #[29, 23] #[2, 35] false, 1, 8, .nilFunc, false⟩
def te93 : TE := ⟨.struct #[⟨"At", 2, 0, false, "", "", 0⟩, ⟨"Old", 5, 1, false, "", "", 8⟩, ⟨"New", 5, 2, false, "", "", 9⟩], 3, 16, .agg #[.int .i64 0, .int .u8 0, .int .u8 0], true⟩
def te94 : TE := ⟨.struct #[⟨"At", 2, 0, false, "", "", 0⟩, ⟨"Old", 5, 1, false, "", "", 8⟩, ⟨"New", 5, 2, false, "", "", 9⟩], 3, 16, .agg #[.int .i64 0, .int .u8 0, .int .u8 0], true⟩
def te95 : TE := ⟨.func #[] #[25] false, 1, 8, .nilFunc, false⟩
def te96 : TE := ⟨.func #[25, 2, 3, 3] #[34] false, 1, 8, .nilFunc, false⟩
def te97 : TE := ⟨.func #[29, 2] #[23, 35] false, 1, 8, .nilFunc, false⟩
def te98 : TE := ⟨.func #[25] #[25] false, 1, 8, .nilFunc, false⟩
def te99 : TE := ⟨.func #[25, 2] #[4] false, 1, 8, .nilFunc, false⟩
def te100 : TE := ⟨.func #[23] #[23] false, 1, 8, .nilFunc, false⟩
def te101 : TE := ⟨.func #[3] #[4] false, 1, 8, .nilFunc, false⟩
def te102 : TE := ⟨.func #[22, 22] #[4] false, 1, 8, .nilFunc, false⟩
def te103 : TE := ⟨.func #[23, 23] #[4] false, 1, 8, .nilFunc, false⟩
def te104 : TE := ⟨.func #[25, 2, 3] #[23] false, 1, 8, .nilFunc, false⟩
def te105 : TE := ⟨.func #[25, 2, 23] #[25] false, 1, 8, .nilFunc, false⟩
def te106 : TE := ⟨.func #[107] #[] false, 1, 8, .nilFunc, false⟩
def te107 : TE := ⟨.pointer 34, 1, 8, .pointer none, false⟩
def te108 : TE := ⟨.func #[25, 2, 3, 3] #[] false, 1, 8, .nilFunc, false⟩
def te109 : TE := ⟨.slice 25, 1, 24, .slice none 0 0, false⟩
def te110 : TE := ⟨.func #[29, 2] #[2] false, 1, 8, .nilFunc, false⟩
def te111 : TE := ⟨.func #[2] #[2] false, 1, 8, .nilFunc, false⟩
def te113 : TE := ⟨.map 29 111, 1, 8, .map none, false⟩
def te114 : TE := ⟨.func #[] #[113] false, 1, 8, .nilFunc, false⟩
def te115 : TE := ⟨.int .u64, 1, 8, .int .u64 0, false⟩
def te116 : TE := ⟨.int .u64, 1, 8, .int .u64 0, false⟩
def te117 : TE := ⟨.func #[22] #[22] false, 1, 8, .nilFunc, false⟩
def te118 : TE := ⟨.func #[129] #[] false, 1, 8, .nilFunc, false⟩
def te119 : TE := ⟨.func #[25] #[118] false, 1, 8, .nilFunc, false⟩
def te120 : TE := ⟨.array 64 5, 64, 64, .agg #[.int .u8 0, .int .u8 0, .int .u8 0, .int .u8 0, .int .u8 0, .int .u8 0, .int .u8 0, .int .u8 0, .int .u8 0, .int .u8 0, .int .u8 0, .int .u8 0, .int .u8 0, .int .u8 0, .int .u8 0, .int .u8 0, .int .u8 0, .int .u8 0, .int .u8 0, .int .u8 0, .int .u8 0, .int .u8 0, .int .u8 0, .int .u8 0, .int .u8 0, .int .u8 0, .int .u8 0, .int .u8 0, .int .u8 0, .int .u8 0, .int .u8 0, .int .u8 0, .int .u8 0, .int .u8 0, .int .u8 0, .int .u8 0, .int .u8 0, .int .u8 0, .int .u8 0, .int .u8 0, .int .u8 0, .int .u8 0, .int .u8 0, .int .u8 0, .int .u8 0, .int .u8 0, .int .u8 0, .int .u8 0, .int .u8 0, .int .u8 0, .int .u8 0, .int .u8 0, .int .u8 0, .int .u8 0, .int .u8 0, .int .u8 0, .int .u8 0, .int .u8 0, .int .u8 0, .int .u8 0, .int .u8 0, .int .u8 0, .int .u8 0, .int .u8 0], true⟩
def te121 : TE := ⟨.array 64 5, 64, 64, .agg #[.int .u8 0, .int .u8 0, .int .u8 0, .int .u8 0, .int .u8 0, .int .u8 0, .int .u8 0, .int .u8 0, .int .u8 0, .int .u8 0, .int .u8 0, .int .u8 0, .int .u8 0, .int .u8 0, .int .u8 0, .int .u8 0, .int .u8 0, .int .u8 0, .int .u8 0, .int .u8 0, .int .u8 0, .int .u8 0, .int .u8 0, .int .u8 0, .int .u8 0, .int .u8 0, .int .u8 0, .int .u8 0, .int .u8 0, .int .u8 0, .int .u8 0, .int .u8 0, .int .u8 0, .int .u8 0, .int .u8 0, .int .u8 0, .int .u8 0, .int .u8 0, .int .u8 0, .int .u8 0, .int .u8 0, .int .u8 0, .int .u8 0, .int .u8 0, .int .u8 0, .int .u8 0, .int .u8 0, .int .u8 0, .int .u8 0, .int .u8 0, .int .u8 0, .int .u8 0, .int .u8 0, .int .u8 0, .int .u8 0, .int .u8 0, .int .u8 0, .int .u8 0, .int .u8 0, .int .u8 0, .int .u8 0, .int .u8 0, .int .u8 0, .int .u8 0], true⟩
def te122 : TE := ⟨.struct #[⟨"Fault", 34, 0, true, "", "", 0⟩], 2, 16, .agg #[.int .i64 0, .int .i64 0], true⟩
def te123 : TE := ⟨.struct #[⟨"Fault", 34, 0, true, "", "", 0⟩], 2, 16, .agg #[.int .i64 0, .int .i64 0], true⟩
def te124 : TE := ⟨.map 3 3, 1, 8, .map none, false⟩
def te125 : TE := ⟨.int .i8, 1, 1, .int .i8 0, false⟩
def te126 : TE := ⟨.int .i16, 1, 2, .int .i16 0, false⟩
def te127 : TE := ⟨.int .u16, 1, 2, .int .u16 0, false⟩
def te128 : TE := ⟨.int .u32, 1, 4, .int .u32 0, false⟩
def te129 : TE := ⟨.func #[3, 121] #[4] false, 1, 8, .nilFunc, false⟩
def te130 : TE := ⟨.func #[] #[9] false, 1, 8, .nilFunc, false⟩
def te131 : TE := ⟨.struct #[⟨"_interface", 17, 0, false, "", "runtime", 0⟩, ⟨"concrete", 17, 1, false, "", "runtime", 8⟩, ⟨"asserted", 17, 2, false, "", "runtime", 16⟩, ⟨"missingMethod", 9, 3, false, "", "runtime", 24⟩], 4, 40, .agg #[.pointer none, .pointer none, .pointer none, .string .empty], false⟩
def te132 : TE := ⟨.struct #[⟨"_interface", 17, 0, false, "", "runtime", 0⟩, ⟨"concrete", 17, 1, false, "", "runtime", 8⟩, ⟨"asserted", 17, 2, false, "", "runtime", 16⟩, ⟨"missingMethod", 9, 3, false, "", "runtime", 24⟩], 4, 40, .agg #[.pointer none, .pointer none, .pointer none, .string .empty], false⟩
def te133 : TE := ⟨.array 0 16, 0, 0, .agg #[], true⟩
def te134 : TE := ⟨.struct #[⟨"_", 133, 0, false, "", "runtime", 0⟩], 0, 0, .agg #[], false⟩
def te135 : TE := ⟨.struct #[⟨"_", 133, 0, false, "", "runtime", 0⟩], 0, 0, .agg #[], false⟩
def te136 : TE := ⟨.func #[] #[3] false, 1, 8, .nilFunc, false⟩
def te137 : TE := ⟨.int .u8, 1, 1, .int .u8 0, false⟩
def te138 : TE := ⟨.int .u8, 1, 1, .int .u8 0, false⟩
def te139 : TE := ⟨.func #[145, 145] #[4] false, 1, 8, .nilFunc, false⟩
def te140 : TE := ⟨.pointer 5, 1, 8, .pointer none, false⟩
def te141 : TE := ⟨.int .i32, 1, 4, .int .i32 0, false⟩
def te142 : TE := ⟨.int .i32, 1, 4, .int .i32 0, false⟩
def te143 : TE := ⟨.struct #[⟨"Size_", 12, 0, false, "", "", 0⟩, ⟨"PtrBytes", 12, 1, false, "", "", 8⟩, ⟨"Hash", 128, 2, false, "", "", 16⟩, ⟨"TFlag", 137, 3, false, "", "", 20⟩, ⟨"Align_", 5, 4, false, "", "", 21⟩, ⟨"FieldAlign_", 5, 5, false, "", "", 22⟩, ⟨"Kind_", 138, 6, false, "", "", 23⟩, ⟨"Equal", 139, 7, false, "", "", 24⟩, ⟨"GCData", 140, 8, false, "", "", 32⟩, ⟨"Str", 141, 9, false, "", "", 40⟩, ⟨"PtrToThis", 142, 10, false, "", "", 44⟩], 11, 48, .agg #[.int .u64 0, .int .u64 0, .int .u32 0, .int .u8 0, .int .u8 0, .int .u8 0, .int .u8 0, .nilFunc, .pointer none, .int .i32 0, .int .i32 0], false⟩
def te144 : TE := ⟨.struct #[⟨"Size_", 12, 0, false, "", "", 0⟩, ⟨"PtrBytes", 12, 1, false, "", "", 8⟩, ⟨"Hash", 128, 2, false, "", "", 16⟩, ⟨"TFlag", 137, 3, false, "", "", 20⟩, ⟨"Align_", 5, 4, false, "", "", 21⟩, ⟨"FieldAlign_", 5, 5, false, "", "", 22⟩, ⟨"Kind_", 138, 6, false, "", "", 23⟩, ⟨"Equal", 139, 7, false, "", "", 24⟩, ⟨"GCData", 140, 8, false, "", "", 32⟩, ⟨"Str", 141, 9, false, "", "", 40⟩, ⟨"PtrToThis", 142, 10, false, "", "", 44⟩], 11, 48, .agg #[.int .u64 0, .int .u64 0, .int .u32 0, .int .u8 0, .int .u8 0, .int .u8 0, .int .u8 0, .nilFunc, .pointer none, .int .i32 0, .int .i32 0], false⟩
def TT : Tr := (.node 82 te82 (.node 51 te51 (.node 30 te30 (.node 22 te22 (.node 4 te4 (.node 2 te2 (.node 1 te1 .nil .nil) (.node 3 te3 .nil .nil)) (.node 9 te9 (.node 5 te5 .nil .nil) (.node 21 te21 .nil .nil))) (.node 26 te26 (.node 24 te24 (.node 23 te23 .nil .nil) (.node 25 te25 .nil .nil)) (.node 28 te28 (.node 27 te27 .nil .nil) (.node 29 te29 .nil .nil)))) (.node 41 te41 (.node 34 te34 (.node 32 te32 (.node 31 te31 .nil .nil) (.node 33 te33 .nil .nil)) (.node 37 te37 (.node 35 te35 .nil .nil) (.node 39 te39 .nil .nil))) (.node 47 te47 (.node 43 te43 (.node 42 te42 .nil .nil) (.node 45 te45 .nil .nil)) (.node 50 te50 (.node 49 te49 .nil .nil) .nil)))) (.node 66 te66 (.node 59 te59 (.node 55 te55 (.node 53 te53 (.node 52 te52 .nil .nil) (.node 54 te54 .nil .nil)) (.node 57 te57 (.node 56 te56 .nil .nil) (.node 58 te58 .nil .nil))) (.node 63 te63 (.node 61 te61 (.node 60 te60 .nil .nil) (.node 62 te62 .nil .nil)) (.node 65 te65 (.node 64 te64 .nil .nil) .nil))) (.node 75 te75 (.node 70 te70 (.node 68 te68 (.node 67 te67 .nil .nil) (.node 69 te69 .nil .nil)) (.node 73 te73 (.node 72 te72 .nil .nil) (.node 74 te74 .nil .nil))) (.node 79 te79 (.node 77 te77 (.node 76 te76 .nil .nil) (.node 78 te78 .nil .nil)) (.node 81 te81 (.node 80 te80 .nil .nil) .nil))))) (.node 115 te115 (.node 99 te99 (.node 92 te92 (.node 87 te87 (.node 85 te85 (.node 83 te83 .nil .nil) (.node 86 te86 .nil .nil)) (.node 89 te89 (.node 88 te88 .nil .nil) (.node 91 te91 .nil .nil))) (.node 96 te96 (.node 94 te94 (.node 93 te93 .nil .nil) (.node 95 te95 .nil .nil)) (.node 98 te98 (.node 97 te97 .nil .nil) .nil))) (.node 107 te107 (.node 103 te103 (.node 101 te101 (.node 100 te100 .nil .nil) (.node 102 te102 .nil .nil)) (.node 105 te105 (.node 104 te104 .nil .nil) (.node 106 te106 .nil .nil))) (.node 111 te111 (.node 109 te109 (.node 108 te108 .nil .nil) (.node 110 te110 .nil .nil)) (.node 114 te114 (.node 113 te113 .nil .nil) .nil)))) (.node 130 te130 (.node 123 te123 (.node 119 te119 (.node 117 te117 (.node 116 te116 .nil .nil) (.node 118 te118 .nil .nil)) (.node 121 te121 (.node 120 te120 .nil .nil) (.node 122 te122 .nil .nil))) (.node 127 te127 (.node 125 te125 (.node 124 te124 .nil .nil) (.node 126 te126 .nil .nil)) (.node 129 te129 (.node 128 te128 .nil .nil) .nil))) (.node 138 te138 (.node 134 te134 (.node 132 te132 (.node 131 te131 .nil .nil) (.node 133 te133 .nil .nil)) (.node 136 te136 (.node 135 te135 .nil .nil) (.node 137 te137 .nil .nil))) (.node 142 te142 (.node 140 te140 (.node 139 te139 .nil .nil) (.node 141 te141 .nil .nil)) (.node 144 te144 (.node 143 te143 .nil .nil) .nil))))))
theorem tk1 : TOk Try.prog 1 te1 := ⟨by kernel_rfl, TOk.info_of (by kernel_rfl), fun h => by cases h⟩
theorem tk2 : TOk Try.prog 2 te2 := ⟨by kernel_rfl, TOk.info_of (by kernel_rfl), fun h => by cases h⟩
theorem tk3 : TOk Try.prog 3 te3 := ⟨by kernel_rfl, TOk.info_of (by kernel_rfl), fun h => by cases h⟩
theorem tk4 : TOk Try.prog 4 te4 := ⟨by kernel_rfl, TOk.info_of (by kernel_rfl), fun h => by cases h⟩
theorem tk5 : TOk Try.prog 5 te5 := ⟨by kernel_rfl, TOk.info_of (by kernel_rfl), fun h => by cases h⟩
theorem tk9 : TOk Try.prog 9 te9 := ⟨by kernel_rfl, TOk.info_of (by kernel_rfl), fun h => by cases h⟩
theorem tk21 : TOk Try.prog 21 te21 := ⟨by kernel_rfl, TOk.info_of (by kernel_rfl), fun h => by cases h⟩
theorem tk22 : TOk Try.prog 22 te22 := ⟨by kernel_rfl, TOk.info_of (by kernel_rfl), fun h => by cases h⟩
theorem tk23 : TOk Try.prog 23 te23 := ⟨by kernel_rfl, TOk.info_of (by kernel_rfl), fun h => by cases h⟩
theorem tk24 : TOk Try.prog 24 te24 := ⟨by kernel_rfl, TOk.info_of (by kernel_rfl), fun h => by cases h⟩
theorem tk25 : TOk Try.prog 25 te25 := ⟨by kernel_rfl, TOk.info_of (by kernel_rfl), fun h => by cases h⟩
theorem tk26 : TOk Try.prog 26 te26 := ⟨by kernel_rfl, TOk.info_of (by kernel_rfl), fun _ => ⟨by kernel_rfl, by kernel_rfl⟩⟩
theorem tk27 : TOk Try.prog 27 te27 := ⟨by kernel_rfl, TOk.info_of (by kernel_rfl), fun _ => ⟨by kernel_rfl, by kernel_rfl⟩⟩
theorem tk28 : TOk Try.prog 28 te28 := ⟨by kernel_rfl, TOk.info_of (by kernel_rfl), fun _ => ⟨by kernel_rfl, by kernel_rfl⟩⟩
theorem tk29 : TOk Try.prog 29 te29 := ⟨by kernel_rfl, TOk.info_of (by kernel_rfl), fun _ => ⟨by kernel_rfl, by kernel_rfl⟩⟩
theorem tk30 : TOk Try.prog 30 te30 := ⟨by kernel_rfl, TOk.info_of (by kernel_rfl), fun _ => ⟨by kernel_rfl, by kernel_rfl⟩⟩
theorem tk31 : TOk Try.prog 31 te31 := ⟨by kernel_rfl, TOk.info_of (by kernel_rfl), fun _ => ⟨by kernel_rfl, by kernel_rfl⟩⟩
theorem tk32 : TOk Try.prog 32 te32 := ⟨by kernel_rfl, TOk.info_of (by kernel_rfl), fun h => by cases h⟩
theorem tk33 : TOk Try.prog 33 te33 := ⟨by kernel_rfl, TOk.info_of (by kernel_rfl), fun _ => ⟨by kernel_rfl, by kernel_rfl⟩⟩
theorem tk34 : TOk Try.prog 34 te34 := ⟨by kernel_rfl, TOk.info_of (by kernel_rfl), fun _ => ⟨by kernel_rfl, by kernel_rfl⟩⟩
theorem tk35 : TOk Try.prog 35 te35 := ⟨by kernel_rfl, TOk.info_of (by kernel_rfl), fun h => by cases h⟩
theorem tk37 : TOk Try.prog 37 te37 := ⟨by kernel_rfl, TOk.info_of (by kernel_rfl), fun h => by cases h⟩
theorem tk39 : TOk Try.prog 39 te39 := ⟨by kernel_rfl, TOk.info_of (by kernel_rfl), fun h => by cases h⟩
theorem tk41 : TOk Try.prog 41 te41 := ⟨by kernel_rfl, TOk.info_of (by kernel_rfl), fun h => by cases h⟩
theorem tk42 : TOk Try.prog 42 te42 := ⟨by kernel_rfl, TOk.info_of (by kernel_rfl), fun h => by cases h⟩
theorem tk43 : TOk Try.prog 43 te43 := ⟨by kernel_rfl, TOk.info_of (by kernel_rfl), fun h => by cases h⟩
theorem tk45 : TOk Try.prog 45 te45 := ⟨by kernel_rfl, TOk.info_of (by kernel_rfl), fun h => by cases h⟩
theorem tk47 : TOk Try.prog 47 te47 := ⟨by kernel_rfl, TOk.info_of (by kernel_rfl), fun h => by cases h⟩
theorem tk49 : TOk Try.prog 49 te49 := ⟨by kernel_rfl, TOk.info_of (by kernel_rfl), fun h => by cases h⟩
theorem tk50 : TOk Try.prog 50 te50 := ⟨by kernel_rfl, TOk.info_of (by kernel_rfl), fun h => by cases h⟩
theorem tk51 : TOk Try.prog 51 te51 := ⟨by kernel_rfl, TOk.info_of (by kernel_rfl), fun _ => ⟨by kernel_rfl, by kernel_rfl⟩⟩
theorem tk52 : TOk Try.prog 52 te52 := ⟨by kernel_rfl, TOk.info_of (by kernel_rfl), fun h => by cases h⟩
theorem tk53 : TOk Try.prog 53 te53 := ⟨by kernel_rfl, TOk.info_of (by kernel_rfl), fun h => by cases h⟩
theorem tk54 : TOk Try.prog 54 te54 := ⟨by kernel_rfl, TOk.info_of (by kernel_rfl), fun h => by cases h⟩
theorem tk55 : TOk Try.prog 55 te55 := ⟨by kernel_rfl, TOk.info_of (by kernel_rfl), fun h => by cases h⟩
theorem tk56 : TOk Try.prog 56 te56 := ⟨by kernel_rfl, TOk.info_of (by kernel_rfl), fun h => by cases h⟩
theorem tk57 : TOk Try.prog 57 te57 := ⟨by kernel_rfl, TOk.info_of (by kernel_rfl), fun h => by cases h⟩
theorem tk58 : TOk Try.prog 58 te58 := ⟨by kernel_rfl, TOk.info_of (by kernel_rfl), fun h => by cases h⟩
theorem tk59 : TOk Try.prog 59 te59 := ⟨by kernel_rfl, TOk.info_of (by kernel_rfl), fun h => by cases h⟩
theorem tk60 : TOk Try.prog 60 te60 := ⟨by kernel_rfl, TOk.info_of (by kernel_rfl), fun h => by cases h⟩
theorem tk61 : TOk Try.prog 61 te61 := ⟨by kernel_rfl, TOk.info_of (by kernel_rfl), fun h => by cases h⟩
theorem tk62 : TOk Try.prog 62 te62 := ⟨by kernel_rfl, TOk.info_of (by kernel_rfl), fun h => by cases h⟩
theorem tk63 : TOk Try.prog 63 te63 := ⟨by kernel_rfl, TOk.info_of (by kernel_rfl), fun h => by cases h⟩
theorem tk64 : TOk Try.prog 64 te64 := ⟨by kernel_rfl, TOk.info_of (by kernel_rfl), fun h => by cases h⟩
theorem tk65 : TOk Try.prog 65 te65 := ⟨by kernel_rfl, TOk.info_of (by kernel_rfl), fun _ => ⟨by kernel_rfl, by kernel_rfl⟩⟩
theorem tk66 : TOk Try.prog 66 te66 := ⟨by kernel_rfl, TOk.info_of (by kernel_rfl), fun _ => ⟨by kernel_rfl, by kernel_rfl⟩⟩
theorem tk67 : TOk Try.prog 67 te67 := ⟨by kernel_rfl, TOk.info_of (by kernel_rfl), fun h => by cases h⟩
theorem tk68 : TOk Try.prog 68 te68 := ⟨by kernel_rfl, TOk.info_of (by kernel_rfl), fun h => by cases h⟩
theorem tk69 : TOk Try.prog 69 te69 := ⟨by kernel_rfl, TOk.info_of (by kernel_rfl), fun h => by cases h⟩
theorem tk70 : TOk Try.prog 70 te70 := ⟨by kernel_rfl, TOk.info_of (by kernel_rfl), fun h => by cases h⟩
theorem tk72 : TOk Try.prog 72 te72 := ⟨by kernel_rfl, TOk.info_of (by kernel_rfl), fun h => by cases h⟩
theorem tk73 : TOk Try.prog 73 te73 := ⟨by kernel_rfl, TOk.info_of (by kernel_rfl), fun h => by cases h⟩
theorem tk74 : TOk Try.prog 74 te74 := ⟨by kernel_rfl, TOk.info_of (by kernel_rfl), fun _ => ⟨by kernel_rfl, by kernel_rfl⟩⟩
theorem tk75 : TOk Try.prog 75 te75 := ⟨by kernel_rfl, TOk.info_of (by kernel_rfl), fun _ => ⟨by kernel_rfl, by kernel_rfl⟩⟩
theorem tk76 : TOk Try.prog 76 te76 := ⟨by kernel_rfl, TOk.info_of (by kernel_rfl), fun h => by cases h⟩
theorem tk77 : TOk Try.prog 77 te77 := ⟨by kernel_rfl, TOk.info_of (by kernel_rfl), fun h => by cases h⟩
theorem tk78 : TOk Try.prog 78 te78 := ⟨by kernel_rfl, TOk.info_of (by kernel_rfl), fun h => by cases h⟩
theorem tk79 : TOk Try.prog 79 te79 := ⟨by kernel_rfl, TOk.info_of (by kernel_rfl), fun h => by cases h⟩
theorem tk80 : TOk Try.prog 80 te80 := ⟨by kernel_rfl, TOk.info_of (by kernel_rfl), fun _ => ⟨by kernel_rfl, by kernel_rfl⟩⟩
theorem tk81 : TOk Try.prog 81 te81 := ⟨by kernel_rfl, TOk.info_of (by kernel_rfl), fun _ => ⟨by kernel_rfl, by kernel_rfl⟩⟩
theorem tk82 : TOk Try.prog 82 te82 := ⟨by kernel_rfl, TOk.info_of (by kernel_rfl), fun h => by cases h⟩
theorem tk83 : TOk Try.prog 83 te83 := ⟨by kernel_rfl, TOk.info_of (by kernel_rfl), fun h => by cases h⟩
theorem tk85 : TOk Try.prog 85 te85 := ⟨by kernel_rfl, TOk.info_of (by kernel_rfl), fun h => by cases h⟩
theorem tk86 : TOk Try.prog 86 te86 := ⟨by kernel_rfl, TOk.info_of (by kernel_rfl), fun h => by cases h⟩
theorem tk87 : TOk Try.prog 87 te87 := ⟨by kernel_rfl, TOk.info_of (by kernel_rfl), fun h => by cases h⟩
theorem tk88 : TOk Try.prog 88 te88 := ⟨by kernel_rfl, TOk.info_of (by kernel_rfl), fun h => by cases h⟩
theorem tk89 : TOk Try.prog 89 te89 := ⟨by kernel_rfl, TOk.info_of (by kernel_rfl), fun h => by cases h⟩
theorem tk91 : TOk Try.prog 91 te91 := ⟨by kernel_rfl, TOk.info_of (by kernel_rfl), fun h => by cases h⟩
theorem tk92 : TOk Try.prog 92 te92 := ⟨by kernel_rfl, TOk.info_of (by kernel_rfl), fun h => by cases h⟩
theorem tk93 : TOk Try.prog 93 te93 := ⟨by kernel_rfl, TOk.info_of (by kernel_rfl), fun _ => ⟨by kernel_rfl, by kernel_rfl⟩⟩
theorem tk94 : TOk Try.prog 94 te94 := ⟨by kernel_rfl, TOk.info_of (by kernel_rfl), fun _ => ⟨by kernel_rfl, by kernel_rfl⟩⟩
theorem tk95 : TOk Try.prog 95 te95 := ⟨by kernel_rfl, TOk.info_of (by kernel_rfl), fun h => by cases h⟩
theorem tk96 : TOk Try.prog 96 te96 := ⟨by kernel_rfl, TOk.info_of (by kernel_rfl), fun h => by cases h⟩
theorem tk97 : TOk Try.prog 97 te97 := ⟨by kernel_rfl, TOk.info_of (by kernel_rfl), fun h => by cases h⟩
theorem tk98 : TOk Try.prog 98 te98 := ⟨by kernel_rfl, TOk.info_of (by kernel_rfl), fun h => by cases h⟩
theorem tk99 : TOk Try.prog 99 te99 := ⟨by kernel_rfl, TOk.info_of (by kernel_rfl), fun h => by cases h⟩
theorem tk100 : TOk Try.prog 100 te100 := ⟨by kernel_rfl, TOk.info_of (by kernel_rfl), fun h => by cases h⟩
theorem tk101 : TOk Try.prog 101 te101 := ⟨by kernel_rfl, TOk.info_of (by kernel_rfl), fun h => by cases h⟩
theorem tk102 : TOk Try.prog 102 te102 := ⟨by kernel_rfl, TOk.info_of (by kernel_rfl), fun h => by cases h⟩
theorem tk103 : TOk Try.prog 103 te103 := ⟨by kernel_rfl, TOk.info_of (by kernel_rfl), fun h => by cases h⟩
theorem tk104 : TOk Try.prog 104 te104 := ⟨by kernel_rfl, TOk.info_of (by kernel_rfl), fun h => by cases h⟩
theorem tk105 : TOk Try.prog 105 te105 := ⟨by kernel_rfl, TOk.info_of (by kernel_rfl), fun h => by cases h⟩
theorem tk106 : TOk Try.prog 106 te106 := ⟨by kernel_rfl, TOk.info_of (by kernel_rfl), fun h => by cases h⟩
theorem tk107 : TOk Try.prog 107 te107 := ⟨by kernel_rfl, TOk.info_of (by kernel_rfl), fun h => by cases h⟩
theorem tk108 : TOk Try.prog 108 te108 := ⟨by kernel_rfl, TOk.info_of (by kernel_rfl), fun h => by cases h⟩
theorem tk109 : TOk Try.prog 109 te109 := ⟨by kernel_rfl, TOk.info_of (by kernel_rfl), fun h => by cases h⟩
theorem tk110 : TOk Try.prog 110 te110 := ⟨by kernel_rfl, TOk.info_of (by kernel_rfl), fun h => by cases h⟩
theorem tk111 : TOk Try.prog 111 te111 := ⟨by kernel_rfl, TOk.info_of (by kernel_rfl), fun h => by cases h⟩
theorem tk113 : TOk Try.prog 113 te113 := ⟨by kernel_rfl, TOk.info_of (by kernel_rfl), fun h => by cases h⟩
theorem tk114 : TOk Try.prog 114 te114 := ⟨by kernel_rfl, TOk.info_of (by kernel_rfl), fun h => by cases h⟩
theorem tk115 : TOk Try.prog 115 te115 := ⟨by kernel_rfl, TOk.info_of (by kernel_rfl), fun h => by cases h⟩
theorem tk116 : TOk Try.prog 116 te116 := ⟨by kernel_rfl, TOk.info_of (by kernel_rfl), fun h => by cases h⟩
theorem tk117 : TOk Try.prog 117 te117 := ⟨by kernel_rfl, TOk.info_of (by kernel_rfl), fun h => by cases h⟩
theorem tk118 : TOk Try.prog 118 te118 := ⟨by kernel_rfl, TOk.info_of (by kernel_rfl), fun h => by cases h⟩
theorem tk119 : TOk Try.prog 119 te119 := ⟨by kernel_rfl, TOk.info_of (by kernel_rfl), fun h => by cases h⟩
theorem tk120 : TOk Try.prog 120 te120 := ⟨by kernel_rfl, TOk.info_of (by kernel_rfl), fun _ => ⟨by kernel_rfl, by kernel_rfl⟩⟩
theorem tk121 : TOk Try.prog 121 te121 := ⟨by kernel_rfl, TOk.info_of (by kernel_rfl), fun _ => ⟨by kernel_rfl, by kernel_rfl⟩⟩
theorem tk122 : TOk Try.prog 122 te122 := ⟨by kernel_rfl, TOk.info_of (by kernel_rfl), fun _ => ⟨by kernel_rfl, by kernel_rfl⟩⟩
theorem tk123 : TOk Try.prog 123 te123 := ⟨by kernel_rfl, TOk.info_of (by kernel_rfl), fun _ => ⟨by kernel_rfl, by kernel_rfl⟩⟩
theorem tk124 : TOk Try.prog 124 te124 := ⟨by kernel_rfl, TOk.info_of (by kernel_rfl), fun h => by cases h⟩
theorem tk125 : TOk Try.prog 125 te125 := ⟨by kernel_rfl, TOk.info_of (by kernel_rfl), fun h => by cases h⟩
theorem tk126 : TOk Try.prog 126 te126 := ⟨by kernel_rfl, TOk.info_of (by kernel_rfl), fun h => by cases h⟩
theorem tk127 : TOk Try.prog 127 te127 := ⟨by kernel_rfl, TOk.info_of (by kernel_rfl), fun h => by cases h⟩
theorem tk128 : TOk Try.prog 128 te128 := ⟨by kernel_rfl, TOk.info_of (by kernel_rfl), fun h => by cases h⟩
theorem tk129 : TOk Try.prog 129 te129 := ⟨by kernel_rfl, TOk.info_of (by kernel_rfl), fun h => by cases h⟩
theorem tk130 : TOk Try.prog 130 te130 := ⟨by kernel_rfl, TOk.info_of (by kernel_rfl), fun h => by cases h⟩
theorem tk131 : TOk Try.prog 131 te131 := ⟨by kernel_rfl, TOk.info_of (by kernel_rfl), fun h => by cases h⟩
theorem tk132 : TOk Try.prog 132 te132 := ⟨by kernel_rfl, TOk.info_of (by kernel_rfl), fun h => by cases h⟩
theorem tk133 : TOk Try.prog 133 te133 := ⟨by kernel_rfl, TOk.info_of (by kernel_rfl), fun _ => ⟨by kernel_rfl, by kernel_rfl⟩⟩
theorem tk134 : TOk Try.prog 134 te134 := ⟨by kernel_rfl, TOk.info_of (by kernel_rfl), fun h => by cases h⟩
theorem tk135 : TOk Try.prog 135 te135 := ⟨by kernel_rfl, TOk.info_of (by kernel_rfl), fun h => by cases h⟩
theorem tk136 : TOk Try.prog 136 te136 := ⟨by kernel_rfl, TOk.info_of (by kernel_rfl), fun h => by cases h⟩
theorem tk137 : TOk Try.prog 137 te137 := ⟨by kernel_rfl, TOk.info_of (by kernel_rfl), fun h => by cases h⟩
theorem tk138 : TOk Try.prog 138 te138 := ⟨by kernel_rfl, TOk.info_of (by kernel_rfl), fun h => by cases h⟩
theorem tk139 : TOk Try.prog 139 te139 := ⟨by kernel_rfl, TOk.info_of (by kernel_rfl), fun h => by cases h⟩
theorem tk140 : TOk Try.prog 140 te140 := ⟨by kernel_rfl, TOk.info_of (by kernel_rfl), fun h => by cases h⟩
theorem tk141 : TOk Try.prog 141 te141 := ⟨by kernel_rfl, TOk.info_of (by kernel_rfl), fun h => by cases h⟩
theorem tk142 : TOk Try.prog 142 te142 := ⟨by kernel_rfl, TOk.info_of (by kernel_rfl), fun h => by cases h⟩
theorem tk143 : TOk Try.prog 143 te143 := ⟨by kernel_rfl, TOk.info_of (by kernel_rfl), fun h => by cases h⟩
theorem tk144 : TOk Try.prog 144 te144 := ⟨by kernel_rfl, TOk.info_of (by kernel_rfl), fun h => by cases h⟩
theorem tok : TyOk Try.prog TT := TyOk.of_all ⟨tk82, ⟨tk51, ⟨tk30, ⟨tk22, ⟨tk4, ⟨tk2, ⟨tk1, trivial, trivial⟩, ⟨tk3, trivial, trivial⟩⟩, ⟨tk9, ⟨tk5, trivial, trivial⟩, ⟨tk21, trivial, trivial⟩⟩⟩, ⟨tk26, ⟨tk24, ⟨tk23, trivial, trivial⟩, ⟨tk25, trivial, trivial⟩⟩, ⟨tk28, ⟨tk27, trivial, trivial⟩, ⟨tk29, trivial, trivial⟩⟩⟩⟩, ⟨tk41, ⟨tk34, ⟨tk32, ⟨tk31, trivial, trivial⟩, ⟨tk33, trivial, trivial⟩⟩, ⟨tk37, ⟨tk35, trivial, trivial⟩, ⟨tk39, trivial, trivial⟩⟩⟩, ⟨tk47, ⟨tk43, ⟨tk42, trivial, trivial⟩, ⟨tk45, trivial, trivial⟩⟩, ⟨tk50, ⟨tk49, trivial, trivial⟩, trivial⟩⟩⟩⟩, ⟨tk66, ⟨tk59, ⟨tk55, ⟨tk53, ⟨tk52, trivial, trivial⟩, ⟨tk54, trivial, trivial⟩⟩, ⟨tk57, ⟨tk56, trivial, trivial⟩, ⟨tk58, trivial, trivial⟩⟩⟩, ⟨tk63, ⟨tk61, ⟨tk60, trivial, trivial⟩, ⟨tk62, trivial, trivial⟩⟩, ⟨tk65, ⟨tk64, trivial, trivial⟩, trivial⟩⟩⟩, ⟨tk75, ⟨tk70, ⟨tk68, ⟨tk67, trivial, trivial⟩, ⟨tk69, trivial, trivial⟩⟩, ⟨tk73, ⟨tk72, trivial, trivial⟩, ⟨tk74, trivial, trivial⟩⟩⟩, ⟨tk79, ⟨tk77, ⟨tk76, trivial, trivial⟩, ⟨tk78, trivial, trivial⟩⟩, ⟨tk81, ⟨tk80, trivial, trivial⟩, trivial⟩⟩⟩⟩⟩, ⟨tk115, ⟨tk99, ⟨tk92, ⟨tk87, ⟨tk85, ⟨tk83, trivial, trivial⟩, ⟨tk86, trivial, trivial⟩⟩, ⟨tk89, ⟨tk88, trivial, trivial⟩, ⟨tk91, trivial, trivial⟩⟩⟩, ⟨tk96, ⟨tk94, ⟨tk93, trivial, trivial⟩, ⟨tk95, trivial, trivial⟩⟩, ⟨tk98, ⟨tk97, trivial, trivial⟩, trivial⟩⟩⟩, ⟨tk107, ⟨tk103, ⟨tk101, ⟨tk100, trivial, trivial⟩, ⟨tk102, trivial, trivial⟩⟩, ⟨tk105, ⟨tk104, trivial, trivial⟩, ⟨tk106, trivial, trivial⟩⟩⟩, ⟨tk111, ⟨tk109, ⟨tk108, trivial, trivial⟩, ⟨tk110, trivial, trivial⟩⟩, ⟨tk114, ⟨tk113, trivial, trivial⟩, trivial⟩⟩⟩⟩, ⟨tk130, ⟨tk123, ⟨tk119, ⟨tk117, ⟨tk116, trivial, trivial⟩, ⟨tk118, trivial, trivial⟩⟩, ⟨tk121, ⟨tk120, trivial, trivial⟩, ⟨tk122, trivial, trivial⟩⟩⟩, ⟨tk127, ⟨tk125, ⟨tk124, trivial, trivial⟩, ⟨tk126, trivial, trivial⟩⟩, ⟨tk129, ⟨tk128, trivial, trivial⟩, trivial⟩⟩⟩, ⟨tk138, ⟨tk134, ⟨tk132, ⟨tk131, trivial, trivial⟩, ⟨tk133, trivial, trivial⟩⟩, ⟨tk136, ⟨tk135, trivial, trivial⟩, ⟨tk137, trivial, trivial⟩⟩⟩, ⟨tk142, ⟨tk140, ⟨tk139, trivial, trivial⟩, ⟨tk141, trivial, trivial⟩⟩, ⟨tk144, ⟨tk143, trivial, trivial⟩, trivial⟩⟩⟩⟩⟩⟩ (by kernel_rfl)

end Go.Proofs
end
section
/- A law's row from its function's answer: what a reading of an argument brings, as_ the calculus tells it. No statement of its own. -/

namespace Go.Ab
open Go.RowKit Go.ChangeShapes Go.WideShapes Go.ChangeAt Go.Deep

section
variable {H : Type} {enc : TypeId × Value → H} {P : Program} {T : Tr} {w : World}

abbrev oldS (w : World) : Nat → Prop := fun k => k < w.heap.size

def OpV (T : Tr) (enc : TypeId × Value → H) (P : Program) (w : World) {α : Type} (t : TypeId) (tys : List Nat) (mk : α → List V) (ok : α → Prop) : Prop :=
  ∀ fuel cs x, DataW.trod enc P w 0 (fun _ => true) true fuel t cs = some x → ∃ a, relL T (fun _ => none) w (oldS w) (mk a) cs ∧ (∀ u ∈ cs, u.oneCell' = true) ∧ wtC T tys (mk a) ∧ ok a

theorem wtC_one {t : Nat} {v : V} (hA : isAggT T t = false) (h : wt T v t) : wtC T [t] [v] := by
  simp only [wtC]
  exact ⟨t, [], rfl, hA, h, rfl⟩

theorem wtC_append : ∀ {a b : List V} {s t : List Nat}, wtC T s a → wtC T t b → wtC T (s ++ t) (a ++ b)
  | [], b, s, t, h, k => by simp only [wtC] at h; subst h; exact k
  | v :: r, b, s, t, h, k => by
    simp only [wtC, List.cons_append] at h ⊢
    obtain ⟨u, us, rfl, h1, h2, h3⟩ := h
    exact ⟨u, us ++ t, rfl, h1, h2, wtC_append h3 k⟩

theorem OpV.int (htok : TyOk P T) {t : Nat} {e : TE} {k : IntKind} (he : T.look t = some e) (hd : e.desc = .int k) : OpV T enc P w t [t] (fun n : Int => [.i k n]) (fun n => (Lit.int k n).wf = true) := by
  intro fuel cs x h
  have hu := htok.und _ _ he
  rw [hd] at hu
  obtain ⟨n, rfl, _, hw⟩ := DataW.trod_int hu h
  refine ⟨n, ?_, fun u hu => by simp at hu; subst hu; rfl, wtC_one (by rw [aggT_of he, hd]; rfl) (by simp only [wt]; exact ⟨e, he, hd⟩), hw⟩
  simp only [relL]; exact ⟨_, [], rfl, rel_i _ _, rfl⟩
theorem OpV.bool (htok : TyOk P T) {t : Nat} {e : TE} (he : T.look t = some e) (hd : e.desc = .bool) : OpV T enc P w t [t] (fun n : Bool => [.b n]) (fun _ => True) := by
  intro fuel cs x h
  have hu := htok.und _ _ he
  rw [hd] at hu
  obtain ⟨n, rfl, _⟩ := DataW.trod_bool hu h
  refine ⟨n, ?_, fun u hu => by simp at hu; subst hu; rfl, wtC_one (by rw [aggT_of he, hd]; rfl) (by simp only [wt]; exact ⟨e, he, hd⟩), trivial⟩
  simp only [relL]; exact ⟨_, [], rfl, rel_b _, rfl⟩
theorem OpV.string (htok : TyOk P T) {t : Nat} {e : TE} (he : T.look t = some e) (hd : e.desc = .string) : OpV T enc P w t [t] (fun n : ByteArray => [.str n]) (fun s => s.size ≤ maxLen) := by
  intro fuel cs x h
  have hu := htok.und _ _ he
  rw [hd] at hu
  obtain ⟨n, rfl, _, hw⟩ := DataW.trod_string hu h
  refine ⟨n, ?_, fun u hu => by simp at hu; subst hu; rfl, wtC_one (by rw [aggT_of he, hd]; rfl) (by simp only [wt]; exact ⟨e, he, hd⟩), hw⟩
  simp only [relL]; exact ⟨_, [], rfl, rel_str _, rfl⟩

theorem list_of_each {α : Type} (p : Nat → α → Prop) : ∀ n, (∀ i, i < n → ∃ y, p i y) → ∃ l : List α, l.length = n ∧ ∀ i y, l[i]? = some y → p i y
  | 0, _ => ⟨[], rfl, by simp⟩
  | n + 1, h => by
    obtain ⟨l, hl, hp⟩ := list_of_each p n (fun i hi => h i (by omega))
    obtain ⟨y, hy⟩ := h n (by omega)
    refine ⟨l ++ [y], by simp [hl], fun i z hz => ?_⟩
    rcases Nat.lt_or_ge i n with hi | hi
    · rw [List.getElem?_append_left (by omega)] at hz
      exact hp i z hz
    · rw [List.getElem?_append_right (by omega), hl] at hz
      have : i = n := by
        rcases Nat.lt_or_ge (i - n) 1 with h1 | h1
        · omega
        · rw [List.getElem?_eq_none (by simpa using h1)] at hz; cases hz
      subst this
      simp at hz
      exact hz ▸ hy

theorem OpV.slice (htok : TyOk P T) {α : Type} {t e : Nat} {te eu : TE} {tys : List Nat} {mk : α → List V} {ok : α → Prop} (el : α → V) (ht : T.look t = some te) (hd : te.desc = .slice e) (he : T.look e = some eu) (hpos : 0 < eu.size) (hsz : P.cellsOf e = eu.size)
    (hel : (isAggT T e = true ∧ cellTys T 8 e = tys ∧ ∀ b, el b = .agg (mk b)) ∨ (isAggT T e = false ∧ tys = [e] ∧ ∀ b, mk b = [el b])) (ho : OpV T enc P w e tys mk ok) :
    OpV T enc P w t [t] (fun l : List α => [.sl e (l.map el)]) (fun l => l.length ≤ maxLen ∧ ∀ x ∈ l, ok x) := by
  intro fuel cs x h
  have hu := htok.und _ _ ht
  rw [hd] at hu
  have hA : isAggT T t = false := by rw [aggT_of ht, hd]; rfl
  have fin : ∀ {A : Option Addr} {cap : Nat} (l : List α), l.length ≤ cap → l.length ≤ maxLen → (∀ y ∈ l, ok y) → (∀ y ∈ l, wt T (el y) e) → (l ≠ [] → ∃ ad, A = some ad ∧ ad.block < w.heap.size ∧ relE T (fun _ => none) w (oldS w) ad eu.size 0 (l.map el)) →
      ∃ a : List α, relL T (fun _ => none) w (oldS w) [.sl e (a.map el)] [.slice A l.length cap] ∧ (∀ u ∈ [Value.slice A l.length cap], u.oneCell' = true) ∧ wtC T [t] [.sl e (a.map el)] ∧ (a.length ≤ maxLen ∧ ∀ x ∈ a, ok x) := by
    intro A cap l h1 h2 h3 h4 h5
    have hwt : wtL T e (l.map el) := wtL_iff.2 (fun v hv => by
      obtain ⟨y, hy, rfl⟩ := List.mem_map.1 hv
      exact h4 y hy)
    refine ⟨l, ?_, fun u hu => by simp at hu; subst hu; rfl, wtC_one hA (by simp only [wt]; exact ⟨⟨te, ht, hd⟩, hwt⟩), h2, h3⟩
    simp only [relL, rel]
    refine ⟨_, [], rfl, ⟨A, cap, by simp, by simpa using h1, by simpa using h2, hwt, fun hne => ?_⟩, rfl⟩
    obtain ⟨ad, e1, e2, e3⟩ := h5 (fun hn => hne (by rw [hn]; rfl))
    exact ⟨ad, eu, e1, he, hpos, e2, e3⟩
  rcases open_slice hu h with ⟨rfl, rfl⟩ | ⟨a, len, cap, m, n, D, Pl, rfl, hb, hl, hm, hmm, rfl, hle⟩
  · exact fin [] (by simp) (by simp) (by simp) (by simp) (fun h => absurd rfl h)
  · simp only [if_true] at hmm
    subst hmm
    obtain ⟨l, hll, hp⟩ := list_of_each (fun i y => ok y ∧ wt T (el y) e ∧ ∃ z : Value, rel T (fun _ => none) w (oldS w) (el y) z ∧ z.cells.size = eu.size ∧ (∀ u ∈ z.cells.toList, u.oneCell' = true) ∧ ∀ j u, z.cells[j]? = some u → w.cell? (a.add (i * eu.size + j)) = some u) len (fun i hi => by
      obtain ⟨cs', hc, ht'⟩ := hle i (by omega)
      obtain ⟨y, hr, h1, hwt, hok⟩ := ho _ _ _ ht'
      obtain ⟨_, hlen, hcell⟩ := World.cells?_some hc
      have hat : ∀ j u, cs'[j]? = some u → w.cell? (a.add (i * eu.size + j)) = some u := fun j u hu => by
        have hj : j < cs'.length := by
          rcases Nat.lt_or_ge j cs'.length with h | h
          · exact h
          · rw [List.getElem?_eq_none h] at hu; cases hu
        rw [← hu, ← hcell j (by omega), ← hsz, Go.Addr.add_add]
      refine ⟨y, hok, ?_⟩
      rcases hel with ⟨g1, g2, g3⟩ | ⟨g1, g2, g3⟩
      · refine ⟨by rw [g3]; simp only [wt]; exact ⟨g1, by rw [g2]; exact hwt⟩, .agg cs'.toArray, by rw [g3]; simp only [rel]; exact ⟨_, rfl, hr, h1⟩, by simp [Value.cells, hlen, hsz], h1, fun j u hu => hat j u (by simpa [Value.cells] using hu)⟩
      · rw [g3, g2] at hwt
        rw [g3] at hr
        simp only [relL] at hr
        obtain ⟨z, zs, e1, e2, e3⟩ := hr
        subst e3; subst e1
        have hz1 := h1 z (by simp)
        have hwt' : wt T (el y) e := by
          simp only [wtC] at hwt
          obtain ⟨u, us, e1, _, e3, _⟩ := hwt
          injection e1 with e1 _
          subst e1
          exact e3
        refine ⟨hwt', z, e2, by rw [cells_one hz1]; simp at hlen; simp; omega, by rw [cells_one hz1]; simpa using hz1, fun j u hu => hat j u (by rw [cells_one hz1] at hu; simpa using hu)⟩)
    have := fin (A := some a) (cap := m) l (by omega) (by have : maxLen = 9223372036854775807 := by decide
                                                          omega) (fun x hx => by
      obtain ⟨i, hi, rfl⟩ := List.mem_iff_getElem.mp hx
      exact (hp i _ (List.getElem?_eq_getElem hi)).1) (fun x hx => by
      obtain ⟨i, hi, rfl⟩ := List.mem_iff_getElem.mp hx
      exact (hp i _ (List.getElem?_eq_getElem hi)).2.1) (fun hne => ⟨a, rfl, ?_, relE_iff.2 (fun k c hk => ?_)⟩)
    · rw [hll] at this; exact this
    · cases l with
      | nil => exact absurd rfl hne
      | cons y r =>
        obtain ⟨_, _, z, _, hz2, _, hz4⟩ := hp 0 y rfl
        have h0 : 0 < z.cells.size := by omega
        have := hz4 0 _ (Array.getElem?_eq_getElem h0)
        have hbl : (a.add (0 * eu.size + 0)).block = a.block := by unfold Addr.add; split <;> rfl
        unfold World.cell? at this
        rw [hbl] at this
        cases hh : w.heap[a.block]? with
        | some o => exact (Array.getElem?_eq_some_iff.1 hh).1
        | none => rw [hh] at this; simp at this
    · rw [List.getElem?_map, Option.map_eq_some_iff] at hk
      obtain ⟨y, hy, rfl⟩ := hk
      rw [Nat.zero_add]
      exact (hp k y hy).2.2

def OpAt (T : Tr) (enc : TypeId × Value → H) (P : Program) (w : World) {α : Type} (fs : List Field) (off : Nat) (tys : List Nat) (mk : α → List V) (ok : α → Prop) : Prop :=
  ∀ cs : List Value, (∀ f ∈ fs, ∃ fuel y, DataW.trod enc P w 0 (fun _ => true) true fuel f.type ((cs.drop f.offset).take (P.cellsOf f.type)) = some y) → cs.length = off + tys.length → ∃ a, relL T (fun _ => none) w (oldS w) (mk a) (cs.drop off) ∧ (∀ u ∈ cs.drop off, u.oneCell' = true) ∧ wtC T tys (mk a) ∧ ok a

theorem OpAt.last {α : Type} {f : Field} {off : Nat} {tys : List Nat} {mk : α → List V} {ok : α → Prop} (ho : f.offset = off) (hsz : P.cellsOf f.type = tys.length) (hd : OpV T enc P w f.type tys mk ok) : OpAt T enc P w [f] off tys mk ok := by
  intro cs h hl
  obtain ⟨fuel, y, hy⟩ := h f (by simp)
  rw [ho, hsz, List.take_of_length_le (by simp; omega)] at hy
  exact hd _ _ _ hy
theorem OpAt.cons {α β : Type} {f : Field} {fs : List Field} {off : Nat} {tys tys' : List Nat} {mk : α → List V} {mk' : β → List V} {ok : α → Prop} {ok' : β → Prop} (ho : f.offset = off) (hsz : P.cellsOf f.type = tys.length) (hd : OpV T enc P w f.type tys mk ok) (hr : OpAt T enc P w fs (off + tys.length) tys' mk' ok') :
    OpAt T enc P w (f :: fs) off (tys ++ tys') (fun x : α × β => mk x.1 ++ mk' x.2) (fun x => ok x.1 ∧ ok' x.2) := by
  intro cs h hl
  obtain ⟨fuel, y, hy⟩ := h f (by simp)
  rw [ho, hsz] at hy
  obtain ⟨a, a1, a2, a3, a4⟩ := hd _ _ _ hy
  obtain ⟨b, b1, b2, b3, b4⟩ := hr cs (fun g hg => h g (by simp [hg])) (by rw [hl, List.length_append]; omega)
  have e : (cs.drop off).take tys.length ++ cs.drop (off + tys.length) = cs.drop off := by rw [← List.drop_drop, List.take_append_drop]
  refine ⟨(a, b), ?_, ?_, wtC_append a3 b3, a4, b4⟩
  · rw [← e]; exact relL_app a1 b1
  · rw [← e]; intro u hu; rcases List.mem_append.1 hu with hu | hu
    · exact a2 u hu
    · exact b2 u hu
theorem OpV.struct (htok : TyOk P T) {α : Type} {t : Nat} {te : TE} {fs : Array Field} {tys : List Nat} {mk : α → List V} {ok : α → Prop} (ht : T.look t = some te) (hd : te.desc = .struct fs) (hsz : P.cellsOf t = tys.length) (h0 : OpAt T enc P w fs.toList 0 tys mk ok) : OpV T enc P w t tys mk ok := by
  intro fuel cs x h
  have hu := htok.und _ _ ht
  rw [hd] at hu
  obtain ⟨xs, n, rfl, rfl, hl, hxl, hf⟩ := DataW.trod_struct hu h
  obtain ⟨a, a1, a2, a3, a4⟩ := h0 cs (fun f hf' => by
    obtain ⟨i, hi, rfl⟩ := List.mem_iff_getElem.mp hf'
    have h1 := hf i fs.toList[i] (by simp at hi ⊢)
    have h2 : i < xs.length := by simp at hi; omega
    rw [List.getElem?_eq_getElem h2] at h1
    exact ⟨_, _, h1⟩) (by rw [hl, hsz, Nat.zero_add])
  exact ⟨a, a1, a2, a3, a4⟩

theorem law_calls {f : Nat} {args : List V} {vals : List Value} (h : Ab.Fn P T f args (.b true) []) (hr : relL T (fun _ => none) w (oldS w) args vals) : Calls P f vals.toArray w fun e w' => e = .returned (.bool true) ∧ Below w.heap.size w w' :=
  Calls.weaken (h.2 w (oldS w) vals (fun _ h => h) hr) (fun e w' ⟨x, φ, S, h1, h2, _, h4, _⟩ => by
    simp only [rel] at h4
    subst h4
    exact ⟨h1, h2.below⟩)

theorem args_nil : relL T (fun _ => none) w (oldS w) [] [] := by simp only [relL]
theorem args_one {v : V} {x : Value} {vs : List V} {xs : List Value} (h : relL T (fun _ => none) w (oldS w) [v] [x]) (k : relL T (fun _ => none) w (oldS w) vs xs) : relL T (fun _ => none) w (oldS w) (v :: vs) (x :: xs) := relL_app h k
theorem args_i (n : Int) {k : IntKind} {vs : List V} {xs : List Value} (h : relL T (fun _ => none) w (oldS w) vs xs) : relL T (fun _ => none) w (oldS w) (.i k n :: vs) (.int k n :: xs) := by simp only [relL]; exact ⟨_, xs, rfl, rel_i _ _, h⟩
theorem args_b (n : Bool) {vs : List V} {xs : List Value} (h : relL T (fun _ => none) w (oldS w) vs xs) : relL T (fun _ => none) w (oldS w) (.b n :: vs) (.bool n :: xs) := by simp only [relL]; exact ⟨_, xs, rfl, rel_b _, h⟩
theorem args_str (n : ByteArray) {vs : List V} {xs : List Value} (h : relL T (fun _ => none) w (oldS w) vs xs) : relL T (fun _ => none) w (oldS w) (.str n :: vs) (.string n :: xs) := by simp only [relL]; exact ⟨_, xs, rfl, rel_str _, h⟩
theorem args_agg {mk : List V} {cs : Array Value} {vs : List V} {xs : List Value} (h : relL T (fun _ => none) w (oldS w) mk cs.toList) (h1 : ∀ u ∈ cs.toList, u.oneCell' = true) (k : relL T (fun _ => none) w (oldS w) vs xs) : relL T (fun _ => none) w (oldS w) (.agg mk :: vs) (.agg cs :: xs) := by
  simp only [relL]
  exact ⟨_, xs, rfl, by simp only [rel]; exact ⟨cs, rfl, h, h1⟩, k⟩
end
end Go.Ab
end
section
namespace Go.Proofs.Ytmpdimigpaogkaa.G
open Go.RowKit

/-- How a round's body may be left. -/
def roundEnds {α : Type} (J : List α → World → Prop) (Jx : Code → List α → World → Prop) (xs : List α) (W : World) : Exit → Act → World → Prop
  | .normal, _, W' => KeepsOthers W W' ∧ J xs W'
  | .ret, _, W' => KeepsOthers W W' ∧ Jx .ret xs W'
  | .exit id, _, W' => KeepsOthers W W' ∧ Jx (.exit id) xs W'
  | _, _, _ => False

/-- What an iterator promises: St pre x: x may come behind pre; S: all that came; Sp ch pre: it panics behind pre. -/
def IterGives {α : Type} (F : Fence) (n : Nat) (P : Program) (g : Nat) (lb : Array Value) (encs : α → Array Value) (R : World → Prop) (St : List α → α → Prop) (S : List α → Prop) (Sp : List PanicEntry → List α → Prop) : Prop :=
  ∀ (l : Nat) (J Jx : List α → World → Prop) (W : World), (∀ pre W, J pre W → R W) → (∀ pre W W', J pre W → Below W.heap.size W W' → J pre W') →
    (∀ pre x W1, J pre W1 → St pre x → YieldAt F (n - 1) P l (encs x) W1 fun e W' => (e = .returned (.bool true) ∧ J (pre ++ [x]) W') ∨ (e = .returned (.bool false) ∧ Jx (pre ++ [x]) W')) →
    J [] W → CallsIn F n P g (#[.func (.yield l) #[] #[]] ++ lb) W fun e W' =>
      (∃ v, e = .returned v ∧ ∃ xs, S xs ∧ J xs W') ∨ (∃ v, e = .returned v ∧ ∃ pre W2, Jx pre W2 ∧ Below W2.heap.size W2 W') ∨ (∃ ch pre, e = .panicked ch ∧ Sp ch pre ∧ J pre W')

theorem rangeFunc_law {α : Type} {F : Fence} {n : Nat} {P : Program} {g : Operand} {ps : Array Tmp} {assign body : Code} {Q : Exit → Act → World → Prop} {a : Act} {w : World}
    (hro : F.round = none) (h1 : 1 ≤ n) {gf : Nat} {lb : Array Value} (hg : a.eval g = .func (.func gf) #[] lb) (hFg : F.fn gf) (eg : ∀ args w, (callFunc gf args).run P w = .ok (.enter gf args) w)
    {encs : α → Array Value} {R : World → Prop} {St : List α → α → Prop} {S : List α → Prop} {Sp : List PanicEntry → List α → Prop} (hseq : IterGives F (n - 1) P gf lb encs R St S Sp) (hps : ∀ x, (encs x).size = ps.size)
    (J : List α → World → Prop) (Jx : Code → List α → World → Prop) (hR : ∀ pre W, J pre W → R W)
    (hJp : ∀ pre W o, J pre W → J pre (W.putObj (w.heap.size + 1) o)) (hJb : ∀ pre W W', J pre W → Below W.heap.size W W' → J pre W')
    (hXp : ∀ c pre W o, Jx c pre W → Jx c pre (W.putObj (w.heap.size + 1) o)) (hXb : ∀ c pre W W', Jx c pre W → Below W.heap.size W W' → Jx c pre W')
    (h0 : ∀ r, J [] ((w.alloc (.deferred (some []))).alloc (.loop r))) (J1 : List α → α → Act → World → Prop) (h1p : ∀ pre x a1 W o, J1 pre x a1 W → J1 pre x a1 (W.putObj (w.heap.size + 1) o))
    (hassign : ∀ (l : Nat) (pre : List α) (x : α) (W : World), J pre W → St pre x →
      assign.wpIn (F.inRound l) (n - 1 - 1) P (Exit.then (fun a1 W1 => KeepsOthers W W1 ∧ J1 pre x a1 W1) (fun _ _ _ => False)) { tmps := (ps.zip (encs x)).foldl (fun t (p, v) => t.setIfInBounds p v) a.tmps, defers := [] } W)
    (hbody : ∀ (l : Nat) (pre : List α) (x : α) (a1 : Act) (W : World), J1 pre x a1 W → body.wpIn (F.inRound l) (n - 1 - 1) P (roundEnds J Jx (pre ++ [x]) W) a1 W)
    (hdone : ∀ (D : Nat) (xs : List α) (W : World), S xs → J xs W → W.heap[D]? = some (.deferred (some [])) → w.heap.size ≤ D → Q .normal { a with defers := { target := .collected D, args := #[] } :: a.defers } W)
    (hstop : ∀ (D : Nat) (c : Code) (pre : List α) (W : World), Jx c pre W → W.heap[D]? = some (.deferred (some [])) → w.heap.size ≤ D → c.wpIn F n P Q { a with defers := { target := .collected D, args := #[] } :: a.defers } W)
    (hpanic : ∀ (D : Nat) (ch : List PanicEntry) (pre : List α) (W : World), Sp ch pre → J pre W → W.heap[D]? = some (.deferred (some [])) → w.heap.size ≤ D → Q (.panic ch) { a with defers := { target := .collected D, args := #[] } :: a.defers } W) :
    (Code.rangeFunc g ps assign body).wpIn F n P Q a w := by
  refine wpIn_rangeFunc ?_
  intro fn hfn
  rw [hro]
  let rec_ : LoopState → Option Code → Loop := fun st pe => { state := st, pending := pe, fn, tmps := a.tmps, params := ps, assign, body, defers := w.heap.size }
  obtain ⟨W1, hW1⟩ : ∃ W1, (w.alloc (.deferred (some []))).alloc (.loop (rec_ .ready none)) = W1 := ⟨_, rfl⟩
  have hL1 : W1.heap[w.heap.size + 1]? = some (.loop (rec_ .ready none)) := by
    rw [← hW1]
    have := World.alloc_heap_new (w.alloc (.deferred (some []))) (.loop (rec_ .ready none))
    rwa [World.size_alloc] at this
  have hK1 : W1.heap[w.heap.size]? = some (.deferred (some [])) := by
    rw [← hW1]
    exact (Below.heap_alloc _ _ _ (by simp)).trans (World.alloc_heap_new w _)
  have hI1 : J [] W1 := by rw [← hW1]; exact h0 _
  refine ⟨w.heap.size + 1, [{ target := .collected w.heap.size, args := #[] }], W1, { target := .fn (.func gf) lb, args := #[.func (.yield (w.heap.size + 1)) #[] #[]] }, W1, gf,
    #[.func (.yield (w.heap.size + 1)) #[] #[]] ++ lb, W1, ?_, ?_, ?_, ?_, fun _ => h1, ?_⟩
  · rw [← hW1]; exact run_enterLoop_outer _ _ _ _ _
  · simp only [resolve, hg]
    simp [go_sem]
  · intro f' hf'
    simp [Target.leads] at hf'
    subst hf'
    exact hFg
  · simp [invoke, go_sem, eg]
  have blk : ∀ {W W' : World} {k : Nat} {o : Obj}, Below W.heap.size W W' → W.heap[k]? = some o → W'.heap[k]? = some o := fun hb hk => (hb.block _ (Array.getElem?_eq_some_iff.1 hk).1).trans hk
  refine (hseq (w.heap.size + 1)
    (fun pre W => J pre W ∧ W.heap[w.heap.size + 1]? = some (.loop (rec_ .ready none)) ∧ W.heap[w.heap.size]? = some (.deferred (some [])))
    (fun pre W => ∃ c, Jx c pre W ∧ W.heap[w.heap.size + 1]? = some (.loop (rec_ .done (some c))) ∧ W.heap[w.heap.size]? = some (.deferred (some [])))
    W1 (fun pre W h => hR pre W h.1) (fun pre W W' h hb => ⟨hJb pre W W' h.1 hb, blk hb h.2.1, blk hb h.2.2⟩) ?_ ⟨hI1, hL1, hK1⟩).mono ?_
  · rintro pre x W ⟨hi, hl, hk⟩ hst
    have hlt : w.heap.size + 1 < W.heap.size := (Array.getElem?_eq_some_iff.1 hl).1
    refine ⟨fn, _, assign, body, run_yield (P := P) (args := encs x) hl (hps x), roundIn_of_wpIn hfn (wpIn_mono (hassign _ pre x W hi hst) ?_)⟩
    rintro e0 a0 W0 he0
    cases e0 with
    | normal =>
      obtain ⟨hk0, hj0⟩ := he0
      have hl := hk0.same _ _ hl rfl
      have hk := hk0.same _ _ hk rfl
      have hlt : w.heap.size + 1 < W0.heap.size := (Array.getElem?_eq_some_iff.1 hl).1
      refine ⟨_, run_beginRound hl rfl, ?_⟩
      have hl2 : (W0.putObj (w.heap.size + 1) (.loop (rec_ .busy none))).heap[w.heap.size + 1]? = some (.loop (rec_ .busy none)) := World.putObj_heap_same hlt
      have hk2 : (W0.putObj (w.heap.size + 1) (.loop (rec_ .busy none))).heap[w.heap.size]? = some (.deferred (some [])) := (World.putObj_heap_other (by omega)).trans hk
      refine wpIn_mono (hbody _ pre x _ _ (h1p _ _ _ _ _ hj0)) ?_
      have fin : ∀ (jump : Option Code) (W3 : World), KeepsOthers (W0.putObj (w.heap.size + 1) (.loop (rec_ .busy none))) W3 →
          (Instr.endRound (w.heap.size + 1) jump).run P W3 = .ok (.bool jump.isNone) (W3.putObj (w.heap.size + 1) (.loop (rec_ (if jump.isNone then .ready else .done) jump))) ∧
          (W3.putObj (w.heap.size + 1) (.loop (rec_ (if jump.isNone then .ready else .done) jump))).heap[w.heap.size + 1]? = some (.loop (rec_ (if jump.isNone then .ready else .done) jump)) ∧
          (W3.putObj (w.heap.size + 1) (.loop (rec_ (if jump.isNone then .ready else .done) jump))).heap[w.heap.size]? = some (.deferred (some [])) := fun jump W3 hk3 => by
        have hl3 := hk3.same _ _ hl2 rfl
        exact ⟨run_endRound (P := P) jump hl3, World.putObj_heap_same (Array.getElem?_eq_some_iff.1 hl3).1, (World.putObj_heap_other (by omega)).trans (hk3.same _ _ hk2 rfl)⟩
      rintro e a3 W3 hp
      cases e with
      | normal =>
        obtain ⟨hk3, hi3⟩ := hp
        obtain ⟨hr, hl4, hk4⟩ := fin none W3 hk3
        exact ⟨_, _, hr, .inl ⟨rfl, hJp _ _ _ hi3, hl4, hk4⟩⟩
      | ret =>
        obtain ⟨hk3, hi3⟩ := hp
        obtain ⟨hr, hl4, hk4⟩ := fin (some .ret) W3 hk3
        exact ⟨_, _, hr, .inr ⟨rfl, .ret, hXp _ _ _ _ hi3, hl4, hk4⟩⟩
      | exit id =>
        obtain ⟨hk3, hi3⟩ := hp
        obtain ⟨hr, hl4, hk4⟩ := fin (some (.exit id)) W3 hk3
        exact ⟨_, _, hr, .inr ⟨rfl, .exit id, hXp _ _ _ _ hi3, hl4, hk4⟩⟩
      | goto t => exact hp.elim
      | panic ch => exact hp.elim
      | outgrown => exact hp.elim
    | ret => exact he0.elim
    | exit id => exact he0.elim
    | goto t => exact he0.elim
    | panic ch => exact he0.elim
    | outgrown => exact he0.elim
  · rintro e W2 (⟨v, rfl, xs, hS, hi, hl, hk⟩ | ⟨v, rfl, pre, W3, ⟨c, hx, hl, hk⟩, hb⟩ | ⟨ch, pre, rfl, hSp, hi, hl, hk⟩)
    · have hr := run_endLoop (P := P) hl (by simp [rec_])
      exact ⟨none, _, hr, hdone _ xs _ hS (hJp _ _ _ hi) ((World.putObj_heap_other (by omega)).trans hk) (Nat.le_refl _)⟩
    · have hr := run_endLoop (P := P) (blk hb hl) (by simp [rec_])
      exact ⟨some c, _, hr, hstop _ c pre _ (hXp _ _ _ _ (hXb _ _ _ _ hx hb)) ((World.putObj_heap_other (by omega)).trans (blk hb hk)) (Nat.le_refl _)⟩
    · exact hpanic _ ch pre _ hSp hi hk (Nat.le_refl _)
end Go.Proofs.Ytmpdimigpaogkaa.G
end
section
-- PRINTED BY print.sh 35421559b90ae4d0a3588c463048766b98c2df88dd9212a6774a882060cdf62d: not written by this session
-- PRINTED WORDS (module Derived/Print/Words.lean): go-wishes' parts 1 to 38 and go-gate-2's additions: AI agents of Go's test side, Mon Nov 16 2026; no person has read them. Plain theorems and definitions: no macro, no elab, no axiom.

namespace Go.Proofs.YtmpdimigpaogkaaW.PrintWords
open Go.RowKit

/-- A fact that the walk's simp doesn't look into. -/
structure Aside0 (p : Prop) : Prop where mk :: (out : p)
/-- The world is the old one, some orders having been drawn. -/
structure Drawn0 (w w' : World) : Prop where mk :: (out : ∃ n, w' = w.drewN n)
theorem Drawn0.refl (w : World) : Drawn0 w w := ⟨⟨0, rfl⟩⟩
theorem Drawn0.step {w w' : World} (h : Drawn0 w w') (n : Nat) : Drawn0 w (w'.drewN n) := by
  obtain ⟨m, rfl⟩ := h
  exact ⟨⟨m + n, World.drewN_drewN ..⟩⟩
theorem Drawn0.below {w w' : World} (h : Drawn0 w w') : Below w.heap.size w w' := by
  obtain ⟨n, rfl⟩ := h
  induction n with
  | zero => exact Below.refl _ _
  | succ n ih => rw [← World.drew_drewN]; exact ih.drew

def rd (xs : List Int) (i : Int) : Int := xs.getD i.toNat 0
theorem below_alloc {w W : World} (h : Below w.heap.size w W) (o : Obj) : Below w.heap.size w (W.alloc o) := h.alloc h.size o
theorem grown_of_below {w w1 : World} (h : Below w.heap.size w w1) (row : Option Nat) : w.grownBy w1 row := ⟨h.os, h.tape, h.output, h.size, fun i hi _ => h.block i hi⟩
theorem pw_cell_below {w w1 : World} (h : Below w.heap.size w w1) {a : Addr} {v : Value} (hc : w.cell? a = some v) : w1.cell? a = some v := (h.cell (World.block_lt_of_cell? w a hc)).trans hc

def ReadsInt (w : World) (k : IntKind) (A : Option Addr) (n : Nat) (xs : List Int) : Prop :=
  xs.length = n ∧ n ≤ 9223372036854775807 ∧ (0 < n → ∃ ad, A = some ad ∧ ∀ j, j < n → w.cell? (ad.add j) = some (.int k (xs.getD j 0)))
theorem ReadsInt.below {w w1 : World} {k : IntKind} {A : Option Addr} {n : Nat} {xs : List Int} (h : ReadsInt w k A n xs) (hb : Below w.heap.size w w1) : ReadsInt w1 k A n xs :=
  ⟨h.1, h.2.1, fun hn => by
    obtain ⟨ad, e, hc⟩ := h.2.2 hn
    exact ⟨ad, e, fun j hj => pw_cell_below hb (hc j hj)⟩⟩

theorem own_nil (W : World) (base : Nat) (e : TypeId) (size : Nat) : W.ownsRow base e size (.slice none 0 0) 0 [] := ⟨by simp, .inl ⟨rfl, rfl⟩⟩
theorem own_base {w : World} {base : Nat} {e : TypeId} {size n : Nat} {v : Value} {xs : List Value} (h : w.ownsRow base e size v n xs) (k : Nat) (hk : v.ownBlock = some k) : base ≤ k := by
  rcases h.2 with ⟨rfl, _⟩ | ⟨g, cap, cur, rfl, hb, _⟩
  · simp [Value.ownBlock] at hk
  · have : g = k := by simpa [Value.ownBlock] using hk
    omega
theorem own_lt {w : World} {base : Nat} {e : TypeId} {size n : Nat} {v : Value} {xs : List Value} (h : w.ownsRow base e size v n xs) (k : Nat) (hk : v.ownBlock = some k) : k < w.heap.size := by
  rcases h.2 with ⟨rfl, _⟩ | ⟨g, cap, cur, rfl, hb, hh, _⟩
  · simp [Value.ownBlock] at hk
  · have : g = k := by simpa [Value.ownBlock] using hk
    subst this
    exact (Array.getElem?_eq_some_iff.1 hh).1
theorem pw_own_below {w w1 : World} {base : Nat} {e : TypeId} {size n : Nat} {v : Value} {xs : List Value} (h : w.ownsRow base e size v n xs) (hb : Below w.heap.size w w1) : w1.ownsRow base e size v n xs :=
  h.kept (grown_of_below hb none) (by cases v.ownBlock <;> simp)
section
variable {P : Program} {ops : Array Oper} {rest : List Oper} {o : Oper} {a : Act} {Q : Exit → Act → World → Prop}

end

section
variable {P : Program}
end
section
variable {P : Program} {ops : Array Oper} {rest : List Oper} {o : Oper} {a : Act} {Q : Exit → Act → World → Prop}
end

/-- Where the first answers, the second answers the same. -/
def LeO {α : Type} (a b : Option α) : Prop := ∀ r, a = some r → b = some r
theorem LeO.refl {α : Type} (a : Option α) : LeO a a := fun _ h => h
theorem LeO.trans {α : Type} {a b c : Option α} (h : LeO a b) (k : LeO b c) : LeO a c := fun r hr => k r (h r hr)
theorem LeO.bind {α β : Type} {a a' : Option α} {f f' : α → Option β} (h : LeO a a') (k : ∀ x, LeO (f x) (f' x)) : LeO (a.bind f) (a'.bind f') := by
  intro r hr
  obtain ⟨x, hx, hf⟩ := Option.bind_eq_some_iff.1 hr
  exact Option.bind_eq_some_iff.2 ⟨x, h x hx, k x r hf⟩
def Reps {α : Type} (R : α → List Value → Prop) (size : Nat) (ps : List α) (cs : List Value) : Prop :=
  cs.length = ps.length * size ∧ ∀ j p, ps[j]? = some p → R p ((cs.drop (j * size)).take size)
theorem Reps.none {α : Type} (R : α → List Value → Prop) (size : Nat) : Reps R size [] [] := ⟨by simp, fun j p h => by simp at h⟩
theorem Reps.snoc {α : Type} {R : α → List Value → Prop} {size : Nat} {ps : List α} {cs c : List Value} {p : α} (h : Reps R size ps cs) (hp : R p c) (hc : c.length = size) : Reps R size (ps ++ [p]) (cs ++ c) := by
  refine ⟨by rw [List.length_append, h.1, hc, List.length_append, List.length_singleton, Nat.add_mul, Nat.one_mul], fun j q hq => ?_⟩
  rcases Nat.lt_or_ge j ps.length with hj | hj
  · rw [List.getElem?_append_left hj] at hq
    have h1 : j * size + size ≤ cs.length := by rw [h.1, ← Nat.succ_mul]; exact Nat.mul_le_mul_right _ hj
    have h2 := h.2 j q hq
    rw [List.drop_append_of_le_length (by omega), List.take_append_of_le_length (by rw [List.length_drop]; omega)]
    exact h2
  · have hj' : j = ps.length := by
      have := (List.getElem?_eq_some_iff.1 hq).1
      rw [List.length_append, List.length_singleton] at this
      omega
    subst hj'
    have hq' : p = q := by simpa using hq
    subst hq'
    rw [← h.1, List.drop_left, ← hc, List.take_length]
    exact hp
theorem Reps.imp_ {α : Type} {R R' : α → List Value → Prop} {size : Nat} {ps : List α} {cs : List Value} (h : Reps R size ps cs) (hR : ∀ p c, R p c → R' p c) : Reps R' size ps cs := ⟨h.1, fun j p hj => hR _ _ (h.2 j p hj)⟩

def ReadsRow {α : Type} (R : α → List Value → Prop) (size : Nat) (w : World) (A : Option Addr) (n : Nat) (ps : List α) : Prop :=
  ps.length = n ∧ n ≤ 9223372036854775807 ∧ (0 < n → ∃ ad, A = some ad ∧ ∀ j p, ps[j]? = some p → ∃ c, c.length = size ∧ R p c ∧ ∀ i u, c[i]? = some u → w.cell? (ad.add (j * size + i)) = some u)
theorem ReadsRow.imp_ {α : Type} {R R' : α → List Value → Prop} {size : Nat} {w w1 : World} {A : Option Addr} {n : Nat} {ps : List α} (h : ReadsRow R size w A n ps) (hb : Below w.heap.size w w1) (hR : ∀ p c, R p c → R' p c) : ReadsRow R' size w1 A n ps :=
  ⟨h.1, h.2.1, fun hn => by
    obtain ⟨ad, e, hc⟩ := h.2.2 hn
    refine ⟨ad, e, fun j p hj => ?_⟩
    obtain ⟨c, hs, hr, hcell⟩ := hc j p hj
    exact ⟨c, hs, hR _ _ hr, fun i u hu => pw_cell_below hb (hcell i u hu)⟩⟩
theorem own_reads_row {α : Type} {R : α → List Value → Prop} {w : World} {base n size : Nat} {e : TypeId} {v : Value} {ps : List α} {cs : List Value} (h : w.ownsRow base e size v n cs) (hR : Reps R size ps cs) (hn : ps.length = n) :
    ∃ A c, v = .slice A n c ∧ ReadsRow R size w A n ps := by
  rcases Nat.eq_zero_or_pos n with h0 | h0
  · rcases h.2 with ⟨rfl, rfl⟩ | ⟨g, cap, cur, rfl, _⟩
    · exact ⟨none, 0, rfl, hn, by omega, fun hp => absurd hp (by omega)⟩
    · exact ⟨_, cap, rfl, hn, by omega, fun hp => absurd hp (by omega)⟩
  · obtain ⟨g, cap, rfl, _, _⟩ := h.form h0
    have hm : n ≤ 9223372036854775807 := by
      rcases h.2 with ⟨_, h1⟩ | ⟨g', cap', cur, he, _, _, h1, h2, _⟩
      · omega
      · simp only [maxLen] at h2
        omega
    refine ⟨_, cap, rfl, hn, hm, fun _ => ⟨_, rfl, fun j p hj => ⟨(cs.drop (j * size)).take size, ?_, hR.2 j p hj, fun i u hu => ?_⟩⟩⟩
    · have hjl := (List.getElem?_eq_some_iff.1 hj).1
      have h1 : j * size + size ≤ cs.length := by rw [hR.1, ← Nat.succ_mul]; exact Nat.mul_le_mul_right _ hjl
      rw [List.length_take, List.length_drop]
      omega
    · refine h.cells (g := g) rfl _ u ?_
      rw [List.getElem?_take] at hu
      split at hu
      · rw [List.getElem?_drop] at hu
        exact hu
      · cases hu
section
variable {P : Program} {ops : Array Oper} {rest : List Oper} {o : Oper} {a : Act} {Q : Exit → Act → World → Prop}
/-- append(v, x), x of several cells; behind 'at_builtin'; the goal's world is 'W.alloc' of the variadic's box. -/
theorem print_append_cells {w0 W : World} (base : Nat) (hgd : o.guard = none) (s x : Operand) (t e : TypeId) (z : Value) (size bytes : Nat)
    (ho : o.op = .call { callee := .builtin .append, args := #[s, x], argTypes := #[t, t] })
    (ht : P.underlying t = some (.slice e)) (hinfo : (P.info? e).map (fun i => (i.zero, i.size, i.bytes)) = some (some z, size, bytes)) (hz : z.cells.size = size) (hs0 : 0 < size) (hb0 : 0 < bytes)
    (v : Value) (n : Nat) (xs ys : List Value) (hs : a.eval s = v) (hx : a.eval x = .slice (some ⟨W.heap.size, 0, none⟩) 1 1) (hys : ys.length = size) (h1 : ∀ u ∈ ys, u.oneCell' = true)
    (HO : W.ownsRow base e size v n xs) (HB : Below base w0 W) (hbase : base ≤ W.heap.size) (hl : (n + 1) * bytes ≤ 140737488355328)
    (h : ∀ v1 w1, w1.ownsRow base e size v1 (n + 1) (xs ++ ys) → Below base w0 w1 → W.grownBy w1 v.ownBlock → (v1.ownBlock = v.ownBlock ∨ ∃ b, v1.ownBlock = some b ∧ W.heap.size ≤ b) → wpList P ops Q rest (a.put o.dst v1) w1) :
    wpList P ops Q (o :: rest) a (W.alloc (.cells ys.toArray e)) := by
  obtain ⟨i0, hi, hzz⟩ := Option.map_eq_some_iff.1 hinfo
  simp only [Prod.mk.injEq] at hzz
  obtain ⟨hz0, hz1, hz2⟩ := hzz
  have hlen : n + 1 ≤ 140737488355328 := Nat.le_trans (Nat.le_mul_of_pos_right _ hb0) hl
  refine wpList_append_own_at (W.alloc (.cells ys.toArray e)) hgd s x t ho base e i0 z size bytes ht hi hz0 hz1 hz2 hz hs0 v n xs hs (HO.alloc _) ⟨W.heap.size, 0, none⟩ 1 1 ys hx (by rw [hys]; simp)
    (by simpa using World.news_of_block (cs := ys.toArray) (t := e) (fr := (0, 0)) (heap_alloc_new W (.cells ys.toArray e))) h1 (by simp only [maxLen]; omega) hl (by simp; omega) ?_
  intro v1 w1 hown hg _ hat
  refine h v1 w1 hown ((HB.alloc hbase _).grown hg (by simp; omega) (own_base HO)) (World.grownBy.trans (World.grownBy_alloc W _ _) hg) ?_
  rcases hat with hat | hat
  · exact .inl hat
  · exact .inr ⟨_, hat, by simp⟩
end

theorem own_ne {w : World} {base : Nat} {e t : TypeId} {size n g : Nat} {v : Value} {xs : List Value} {cs : Array Value} (h : w.ownsRow base e size v n xs) (hg : w.heap[g]? = some (.cells cs t (0, 0))) (hne : e ≠ t) : some g ≠ v.ownBlock := by
  rcases h.2 with ⟨rfl, _⟩ | ⟨g', cap, cur, rfl, _, hh, _⟩
  · simp [Value.ownBlock]
  · intro he
    have : g = g' := by simpa [Value.ownBlock] using he
    subst this
    rw [hg] at hh
    injection hh with hh
    injection hh with _ ht
    exact hne ht.symm
theorem blk_lt {w : World} {g : Nat} {o : Obj} (h : w.heap[g]? = some o) : g < w.heap.size := (Array.getElem?_eq_some_iff.1 h).1
theorem blk_cell {w : World} {g : Nat} {t : TypeId} {cs : Array Value} (h : w.heap[g]? = some (.cells cs t (0, 0))) (i : Nat) : w.cell? ⟨g, i, none⟩ = cs[i]? := cell_of_row w g i cs t (0, 0) h
theorem blk_frozen {w : World} {g : Nat} {t : TypeId} {cs : Array Value} (h : w.heap[g]? = some (.cells cs t (0, 0))) (i : Nat) : w.frozen? ⟨g, i, none⟩ = false := by simp [World.frozen?, h]
theorem blk_grown {w w1 : World} {g : Nat} {o : Obj} {row : Option Nat} (h : w.heap[g]? = some o) (hg : w.grownBy w1 row) (hne : some g ≠ row) : w1.heap[g]? = some o := (hg.block g (blk_lt h) hne).trans h
def KeepBut (w w' : World) (g : Nat) (row : Option Nat) : Prop := w.heap.size ≤ w'.heap.size ∧ ∀ i, i < w.heap.size → i ≠ g → some i ≠ row → w'.heap[i]? = w.heap[i]?
theorem KeepBut.refl (w : World) (g : Nat) (row : Option Nat) : KeepBut w w g row := ⟨Nat.le_refl _, fun _ _ _ _ => rfl⟩
theorem KeepBut.of_below {w w1 : World} (h : Below w.heap.size w w1) (g : Nat) (row : Option Nat) : KeepBut w w1 g row := ⟨h.size, fun i hi _ _ => h.block i hi⟩
theorem KeepBut.trans {w w1 w2 : World} {g : Nat} {row row1 : Option Nat} (h : KeepBut w w1 g row) (k : KeepBut w1 w2 g row1) (hr : row1 = row ∨ ∃ b, row1 = some b ∧ w.heap.size ≤ b) : KeepBut w w2 g row :=
  ⟨Nat.le_trans h.1 k.1, fun i hi hg hn => by
    refine (k.2 i (Nat.lt_of_lt_of_le hi h.1) hg ?_).trans (h.2 i hi hg hn)
    rcases hr with rfl | ⟨b, rfl, hb⟩
    · exact hn
    · intro e
      injection e with e
      omega⟩
def Ev {α : Type} (g : Nat → Option α) (r : α) : Prop := ∃ K, ∀ k, K ≤ k → g k = some r
theorem Ev.bind {α β : Type} {g : Nat → Option α} {f : Nat → α → Option β} {a : α} {r : β} (h : Ev g a) (k : Ev (fun n => f n a) r) : Ev (fun n => (g n).bind (f n)) r := by
  obtain ⟨K, h⟩ := h
  obtain ⟨K', k⟩ := k
  refine ⟨max K K', fun n hn => ?_⟩
  have h1 := h n (by omega)
  have h2 := k n (by omega)
  simp only [h1, Option.bind_some]
  exact h2
/-- One round of a loop. -/
theorem Ev.step {α : Type} {g f : Nat → Option α} {r : α} (h : ∀ k, g (k + 1) = f k) (k : Ev f r) : Ev g r := by
  obtain ⟨K, k⟩ := k
  refine ⟨K + 1, fun n hn => ?_⟩
  obtain ⟨m, rfl⟩ : ∃ m, n = m + 1 := ⟨n - 1, by omega⟩
  rw [h]
  exact k m (by omega)
section
variable {P : Program} {ops : Array Oper} {o : Oper} {a : Act} {Q : Exit → Act → World → Prop} {K : Act → World → Prop}
end
theorem own_weaken {w : World} {base base' : Nat} {e : TypeId} {size n : Nat} {v : Value} {xs : List Value} (h : w.ownsRow base e size v n xs) (hb : base' ≤ base) : w.ownsRow base' e size v n xs := by
  obtain ⟨h1, h2⟩ := h
  refine ⟨h1, ?_⟩
  rcases h2 with h2 | ⟨g, cap, cur, rfl, hg, r⟩
  · exact .inl h2
  · exact .inr ⟨g, cap, cur, rfl, Nat.le_trans hb hg, r⟩
section
variable {α : Type} {enc : α → Value} {d : α}
def encs (enc : α → Value) (xs : List α) : List Value := xs.map enc
def rdOf (d : α) (xs : List α) (i : Int) : α := xs.getD i.toNat d
theorem encs_length (xs : List α) : (encs enc xs).length = xs.length := by simp [encs]
theorem encs_get (xs : List α) (j : Nat) (h : j < xs.length) : (encs enc xs)[j]? = some (enc (xs.getD j d)) := by
  simp [encs, List.getElem?_eq_getElem h, List.getD_eq_getElem?_getD]
def ReadsOf (enc : α → Value) (d : α) (w : World) (A : Option Addr) (n : Nat) (xs : List α) : Prop :=
  xs.length = n ∧ n ≤ 9223372036854775807 ∧ (0 < n → ∃ ad, A = some ad ∧ ∀ j, j < n → w.cell? (ad.add j) = some (enc (xs.getD j d)))
theorem ReadsOf.at_ {w : World} {A : Option Addr} {n : Nat} {xs : List α} (h : ReadsOf enc d w A n xs) (i : Int) (h0 : 0 ≤ i) (h1 : i < n) : ∃ ad, A = some ad ∧ w.cell? (ad.add i.toNat) = some (enc (rdOf d xs i)) := by
  obtain ⟨ad, e, hc⟩ := h.2.2 (by omega)
  exact ⟨ad, e, hc _ (by omega)⟩
theorem ReadsOf.below {w w1 : World} {A : Option Addr} {n : Nat} {xs : List α} (h : ReadsOf enc d w A n xs) (hb : Below w.heap.size w w1) : ReadsOf enc d w1 A n xs :=
  ⟨h.1, h.2.1, fun hn => by
    obtain ⟨ad, e, hc⟩ := h.2.2 hn
    exact ⟨ad, e, fun j hj => pw_cell_below hb (hc j hj)⟩⟩
theorem own_lit_of (W : World) (base : Nat) (e : TypeId) (xs : List α) (hb : base ≤ W.heap.size) (hm : xs.length ≤ 9223372036854775807) :
    (W.alloc (.cells (encs enc xs).toArray e)).ownsRow base e 1 (.slice (some ⟨W.heap.size, 0, none⟩) xs.length xs.length) xs.length (encs enc xs) := by
  have h := World.ownsRow_lit (base := base) (e := e) (size := 1) W (encs enc xs).toArray xs.length hb (by simpa [maxLen] using hm) (by simp [encs])
  simpa using h
end
section
variable {α : Type} {P : Program} {ops : Array Oper} {rest : List Oper} {o : Oper} {a : Act} {Q : Exit → Act → World → Prop}
theorem print_append_row_of {w0 W : World} (enc : α → Value) (d : α) (base : Nat) (hgd : o.guard = none) (s x : Operand) (t e : TypeId) (z : Value) (bytes : Nat)
    (ho : o.op = .call { callee := .builtin .append, args := #[s, x], argTypes := #[t, t] })
    (ht : P.underlying t = some (.slice e)) (hinfo : (P.info? e).map (fun i => (i.zero, i.size, i.bytes)) = some (some z, 1, bytes)) (hz : z.cells.size = 1) (hb0 : 0 < bytes) (h1 : ∀ x : α, (enc x).oneCell' = true)
    (v : Value) (xs ys : List α) (A : Option Addr) (m c : Nat) (hs : a.eval s = v) (hx : a.eval x = .slice A m c)
    (HO : W.ownsRow base e 1 v xs.length (encs enc xs)) (HR : ReadsOf enc d W A m ys) (HB : Below base w0 W) (hbase : base ≤ W.heap.size) (hl : (xs.length + m) * bytes ≤ 140737488355328)
    (h : ∀ v1 w1, w1.ownsRow base e 1 v1 (xs ++ ys).length (encs enc (xs ++ ys)) → Below base w0 w1 → W.grownBy w1 v.ownBlock → (v1.ownBlock = v.ownBlock ∨ ∃ b, v1.ownBlock = some b ∧ W.heap.size ≤ b) → wpList P ops Q rest (a.put o.dst v1) w1) :
    wpList P ops Q (o :: rest) a W := by
  obtain ⟨i0, hi, hzz⟩ := Option.map_eq_some_iff.1 hinfo
  simp only [Prod.mk.injEq] at hzz
  obtain ⟨hz0, hz1, hz2⟩ := hzz
  have hm : ys.length = m := HR.1
  have hlen : xs.length + m ≤ 140737488355328 := Nat.le_trans (Nat.le_mul_of_pos_right _ hb0) hl
  have hrun : ∃ v1 w1, (Builtin.append_ #[t, t] o.type #[v, .slice A m c]).run P W = .ok v1 w1 ∧ w1.ownsRow base e 1 v1 (xs ++ ys).length (encs enc (xs ++ ys)) ∧ W.grownBy w1 v.ownBlock ∧ (v1.ownBlock = v.ownBlock ∨ v1.ownBlock = some W.heap.size) := by
    rcases A with _ | ad
    · have h0 : m = 0 := by
        rcases Nat.eq_zero_or_pos m with h0 | h0
        · exact h0
        · obtain ⟨ad, h, _⟩ := HR.2.2 h0
          cases h
      subst h0
      obtain rfl : ys = [] := List.eq_nil_of_length_eq_zero hm
      refine ⟨v, W, ?_, by simpa using HO, World.grownBy.refl W _, .inl rfl⟩
      rcases HO.2 with ⟨rfl, hn⟩ | ⟨g, cap, cur, rfl, _, _, hnc, _⟩
      · simp [Builtin.append_, run_underlying ht, sizeOf, typeInfo, hi, Builtin.lenOf, Builtin.firstCells]
      · simp [Builtin.append_, run_underlying ht, sizeOf, typeInfo, hi, Builtin.lenOf, Builtin.firstCells, hnc, storeCells]
    · have hcells : ∀ j u, (encs enc ys)[j]? = some u → W.cell? (ad.add j) = some u := by
        intro j u hu
        have hj : j < ys.length := by
          rcases Nat.lt_or_ge j ys.length with h | h
          · exact h
          · simp [encs, List.getElem?_eq_none h] at hu
        obtain ⟨ad', h', hc⟩ := HR.2.2 (by omega)
        injection h' with h'
        subst h'
        rw [encs_get (d := d) ys j hj] at hu
        rw [← hu]
        exact hc j (by omega)
      obtain ⟨v1, w1, hr, h2, h3, _, h5⟩ := run_append_own_at (P := P) W base t o.type e i0 z 1 bytes ht hi hz0 hz1 hz2 hz (by omega) v xs.length (encs enc xs) HO ad m c (encs enc ys) (by simp [encs, hm]) hcells
        (by intro u hu; simp only [encs, List.mem_map] at hu; obtain ⟨q, _, rfl⟩ := hu; exact h1 q) (by simp only [maxLen]; omega) hl hbase
      exact ⟨v1, w1, hr, by simpa [encs, hm] using h2, h3, h5⟩
  obtain ⟨v1, w1, hr, hown, hg, hat⟩ := hrun
  refine wpList_plain hgd fun K hK => ?_
  unfold Oper.wp execOp
  simp only [ho, resolve, invoke, builtin, Sem.run_bind, Sem.run_pure, Result.andThen_ok, List.map_toArray, List.map_cons, List.map_nil, hs, hx, hr]
  refine hK _ _ (h v1 w1 hown (HB.grown hg hbase (own_base HO)) hg ?_)
  rcases hat with hat | hat
  · exact .inl hat
  · exact .inr ⟨_, hat, Nat.le_refl _⟩
end

section
variable {P : Program}
end
theorem own_le {w : World} {base n m c size : Nat} {e : TypeId} {A : Option Addr} {xs : List Value} (h : w.ownsRow base e size (.slice A m c) n xs) : m ≤ c := by
  rcases h.2 with ⟨he, _⟩ | ⟨g, cap, cur, he, _, _, hnc, _⟩
  · injection he with _ h2 h3
    omega
  · injection he with _ h2 h3
    omega
def OwnRow {α : Type} (R : α → List Value → Prop) (e : TypeId) (size : Nat) (w : World) (base : Nat) (v : Value) (ps : List α) : Prop :=
  ∃ inner, w.ownsRow base e size v ps.length inner ∧ Reps R size ps inner
section
variable {α : Type} {R R' : α → List Value → Prop} {e : TypeId} {size : Nat} {w w1 : World} {base : Nat} {v : Value} {ps : List α}
theorem OwnRow.none_ (R : α → List Value → Prop) (e : TypeId) (size : Nat) (w : World) (base : Nat) : OwnRow R e size w base (.slice none 0 0) [] := ⟨[], own_nil _ _ _ _, Reps.none _ _⟩
theorem OwnRow.imp_ (h : OwnRow R e size w base v ps) (hR : ∀ p c, R p c → R' p c) : OwnRow R' e size w base v ps := by
  obtain ⟨inner, ho, hr⟩ := h
  exact ⟨inner, ho, hr.imp_ hR⟩
theorem OwnRow.below (h : OwnRow R e size w base v ps) (hb : Below w.heap.size w w1) : OwnRow R e size w1 base v ps := by
  obtain ⟨inner, ho, hr⟩ := h
  exact ⟨inner, pw_own_below ho hb, hr⟩
theorem OwnRow.reads (h : OwnRow R e size w base v ps) : ∃ A c, v = .slice A ps.length c ∧ ps.length ≤ c ∧ ReadsRow R size w A ps.length ps := by
  obtain ⟨inner, ho, hr⟩ := h
  obtain ⟨A, c, rfl, hrow⟩ := own_reads_row ho hr rfl
  exact ⟨A, c, rfl, own_le ho, hrow⟩
theorem OwnRow.ne_block (h : OwnRow R e size w base v ps) {g : Nat} {t : TypeId} {cells : Array Value} (hb : w.heap[g]? = some (.cells cells t (0, 0))) (ht : e ≠ t) : some g ≠ v.ownBlock := by
  obtain ⟨inner, ho, hr⟩ := h
  exact own_ne ho hb ht
end
section
variable {P : Program} {ops : Array Oper} {rest : List Oper} {o : Oper} {a : Act} {Q : Exit → Act → World → Prop} {α : Type} {R : α → List Value → Prop}
end
section
variable {P : Program} {ops : Array Oper} {o : Oper} {a : Act} {Q : Exit → Act → World → Prop} {K : Act → World → Prop} {α : Type} {R : α → List Value → Prop}
end
/-- What is read as_ a row has its cells one behind the other. -/
theorem ReadsRow.inner_ {α : Type} {R : α → List Value → Prop} {size : Nat} {w : World} {ad : Addr} {n : Nat} {ps : List α} (h : ReadsRow R size w (some ad) n ps) :
    ∃ inner, Reps R size ps inner ∧ ∀ j u, inner[j]? = some u → w.cell? (ad.add j) = some u := by
  have key : ∀ m, m ≤ ps.length → ∃ inner, Reps R size (ps.take m) inner ∧ ∀ j u, inner[j]? = some u → w.cell? (ad.add j) = some u := by
    intro m
    induction m with
    | zero => exact fun _ => ⟨[], Reps.none _ _, fun j u hu => by simp at hu⟩
    | succ m ih =>
      intro hm
      obtain ⟨inner, hr, hc⟩ := ih (by omega)
      obtain ⟨ad', he, hcell⟩ := h.2.2 (by have := h.1; omega)
      injection he with he
      subst he
      obtain ⟨c, hcl, hp, hcc⟩ := hcell m _ (List.getElem?_eq_getElem (show m < ps.length by omega))
      refine ⟨inner ++ c, ?_, fun j u hu => ?_⟩
      · rw [List.take_succ_eq_append_getElem (show m < ps.length by omega)]
        exact hr.snoc hp hcl
      · have hil : inner.length = m * size := by rw [hr.1, List.length_take, Nat.min_eq_left (by omega)]
        rcases Nat.lt_or_ge j inner.length with hj | hj
        · rw [List.getElem?_append_left hj] at hu
          exact hc j u hu
        · rw [List.getElem?_append_right hj] at hu
          have := hcc (j - inner.length) u hu
          rwa [hil, Nat.add_sub_cancel' (by omega)] at this
  obtain ⟨inner, hr, hc⟩ := key ps.length (Nat.le_refl _)
  rw [List.take_length] at hr
  exact ⟨inner, hr, hc⟩
section
variable {α : Type} {P : Program}
theorem ReadsOf.len_ {enc : α → Value} {d : α} {w : World} {A : Option Addr} {n : Nat} {xs : List α} (h : ReadsOf enc d w A n xs) : ReadsOf enc d w A xs.length xs := by rw [h.1]; exact h
end

section
variable {P : Program} {ops : Array Oper} {rest : List Oper} {o : Oper} {a : Act} {Q : Exit → Act → World → Prop}
end
/-- ok: which blocks the rows inside may be ('not the row that is being written'). -/
structure Kd (α : Type) where
  sz : Nat
  E : List Nat
  K : World → α → List Value → Prop
  M : World → Nat → (Nat → Prop) → α → List Value → Prop
  K_len : ∀ {w x cs}, K w x cs → cs.length = sz
  K_one : ∀ {w x cs}, K w x cs → ∀ u ∈ cs, u.oneCell' = true
  K_below : ∀ {w w1 : World} {x cs}, Below w.heap.size w w1 → K w x cs → K w1 x cs
  K_of_M : ∀ {w base ok x cs}, M w base ok x cs → K w x cs
  M_mono : ∀ {w base ok ok' x cs}, (∀ k, ok k → ok' k) → M w base ok x cs → M w base ok' x cs
  M_bound : ∀ {w : World} {base ok x cs}, M w base ok x cs → M w base (fun k => ok k ∧ base ≤ k ∧ k < w.heap.size ∧ ∃ q, q ∈ E ∧ ∃ cells, w.heap[k]? = some (.cells cells q (0, 0))) x cs
  M_move : ∀ {w w1 : World} {base ok x cs}, (∀ k, ok k → w1.heap[k]? = w.heap[k]?) → M w base ok x cs → M w1 base ok x cs
  M_lower : ∀ {w base base' ok x cs}, base' ≤ base → M w base ok x cs → M w base' ok x cs

theorem own_move {w w1 : World} {base : Nat} {e : TypeId} {size n : Nat} {v : Value} {xs : List Value} (h : w.ownsRow base e size v n xs) (hm : ∀ k, v.ownBlock = some k → w1.heap[k]? = w.heap[k]?) : w1.ownsRow base e size v n xs := by
  obtain ⟨h1, h2⟩ := h
  refine ⟨h1, ?_⟩
  rcases h2 with h2 | ⟨g, cap, cur, rfl, hg, hh, r⟩
  · exact .inl h2
  · exact .inr ⟨g, cap, cur, rfl, hg, (hm g (by simp [Value.ownBlock])).trans hh, r⟩
theorem own_typed {w : World} {base : Nat} {e : TypeId} {size n : Nat} {v : Value} {xs : List Value} (h : w.ownsRow base e size v n xs) (k : Nat) (hk : v.ownBlock = some k) : ∃ cells, w.heap[k]? = some (.cells cells e (0, 0)) := by
  rcases h.2 with ⟨rfl, _⟩ | ⟨g, cap, cur, rfl, hg, hh, r⟩
  · simp [Value.ownBlock] at hk
  · have : g = k := by simpa [Value.ownBlock] using hk
    subst this
    exact ⟨cur, hh⟩

namespace Kd
/-- A row of elements that is read. -/
def C {α : Type} (d : Kd α) (w : World) (A : Option Addr) (n : Nat) (xs : List α) : Prop := ReadsRow (d.K w) d.sz w A n xs
/-- A row of elements (type e) of the call's own; the elements' rows are not this one. -/
def R {α : Type} (d : Kd α) (e : Nat) (w : World) (base : Nat) (ok : Nat → Prop) (v : Value) (xs : List α) : Prop :=
  (∀ k, v.ownBlock = some k → ok k) ∧ OwnRow (d.M w base (fun k => ok k ∧ some k ≠ v.ownBlock)) e d.sz w base v xs
section
variable {α : Type} {d : Kd α} {e : Nat} {w w1 : World} {base : Nat} {ok ok' : Nat → Prop} {v : Value} {xs : List α}
theorem C_below {A : Option Addr} {n : Nat} (h : d.C w A n xs) (hb : Below w.heap.size w w1) : d.C w1 A n xs := ReadsRow.imp_ h hb (fun _ _ hp => d.K_below hb hp)
theorem R_nil (d : Kd α) (e : Nat) (w : World) (base : Nat) (ok : Nat → Prop) : d.R e w base ok (.slice none 0 0) [] := ⟨fun k hk => by simp [Value.ownBlock] at hk, OwnRow.none_ _ _ _ _ _⟩
theorem R_mono (h : d.R e w base ok v xs) (hok : ∀ k, ok k → ok' k) : d.R e w base ok' v xs := ⟨fun k hk => hok k (h.1 k hk), h.2.imp_ (fun _ _ hp => d.M_mono (fun k hk => ⟨hok k hk.1, hk.2⟩) hp)⟩
theorem R_bound (h : d.R e w base ok v xs) : d.R e w base (fun k => ok k ∧ base ≤ k ∧ k < w.heap.size ∧ ∃ q, q ∈ e :: d.E ∧ ∃ cells, w.heap[k]? = some (.cells cells q (0, 0))) v xs := by
  obtain ⟨h0, inner, ho, hr⟩ := h
  refine ⟨fun k hk => ?_, inner, ho, hr.imp_ (fun _ _ hp => d.M_mono (fun k hk => ?_) (d.M_bound hp))⟩
  · obtain ⟨cells, hc⟩ := own_typed ho k hk
    exact ⟨h0 k hk, own_base ho k hk, own_lt ho k hk, e, List.mem_cons_self, cells, hc⟩
  · obtain ⟨⟨h1, h2⟩, h3, h4, q, hq, hc⟩ := hk
    exact ⟨⟨h1, h3, h4, q, List.mem_cons_of_mem _ hq, hc⟩, h2⟩
theorem R_move (h : d.R e w base ok v xs) (hm : ∀ k, ok k → w1.heap[k]? = w.heap[k]?) : d.R e w1 base ok v xs := by
  obtain ⟨h0, inner, ho, hr⟩ := h
  exact ⟨h0, inner, own_move ho (fun k hk => hm k (h0 k hk)), hr.imp_ (fun _ _ hp => d.M_move (fun k hk => hm k hk.1) hp)⟩
theorem R_lower {base' : Nat} (h : d.R e w base ok v xs) (hb : base' ≤ base) : d.R e w base' ok v xs := by
  obtain ⟨h0, inner, ho, hr⟩ := h
  exact ⟨h0, inner, own_weaken ho hb, hr.imp_ (fun _ _ hp => d.M_lower hb hp)⟩
/-- Any mover: what is ok, and a block of w's, stays. -/
theorem R_step (h : d.R e w base ok v xs) (hm : ∀ k, ok k → k < w.heap.size → w1.heap[k]? = w.heap[k]?) : d.R e w1 base ok v xs :=
  R_mono (R_move (R_bound h) (fun k hk => hm k hk.1 hk.2.2.1)) (fun _ hk => hk.1)
theorem R_below (h : d.R e w base ok v xs) (hb : Below w.heap.size w w1) : d.R e w1 base ok v xs := R_step h (fun k _ hk => hb.block k hk)
/-- A store into another block. -/
theorem R_far (h : d.R e w base ok v xs) {p : Addr} (hok : ∀ k, ok k → k ≠ p.block) (u : Value) : d.R e (w.setCell p u) base ok v xs := R_step h (fun k ho _ => Below.heap_setCell w p u k (hok k ho))
/-- By types alone: the rows inside are none of a block of type t. -/
theorem R_types (h : d.R e w base ok v xs) {g t : Nat} {cells : Array Value} (hb : w.heap[g]? = some (.cells cells t (0, 0))) (ht : ∀ q, q ∈ e :: d.E → q ≠ t) : d.R e w base (fun k => ok k ∧ k ≠ g) v xs :=
  R_mono (R_bound h) (fun k hk => ⟨hk.1, by
    obtain ⟨_, _, _, q, hq, cells', hc⟩ := hk
    rintro rfl
    rw [hc] at hb
    injection hb with hb
    injection hb with _ hb
    exact ht q hq hb⟩)
theorem R_set (h : d.R e w base ok v xs) {g t : Nat} {cells : Array Value} (hb : w.heap[g]? = some (.cells cells t (0, 0))) (ht : ∀ q, q ∈ e :: d.E → q ≠ t) (j : Nat) (u : Value) : d.R e (w.setCell ⟨g, j, none⟩ u) base ok v xs :=
  R_mono (R_far (p := ⟨g, j, none⟩) (R_types h hb ht) (fun _ hk => hk.2) u) (fun _ hk => hk.1)
theorem R_reads (h : d.R e w base ok v xs) : ∃ A c, v = .slice A xs.length c ∧ xs.length ≤ c ∧ d.C w A xs.length xs := by
  obtain ⟨A, c, he, hl, hr⟩ := OwnRow.reads h.2
  exact ⟨A, c, he, hl, hr.imp_ (Below.refl _ _) (fun _ _ hp => d.K_of_M hp)⟩
theorem R_slice (h : d.R e w base ok v xs) : ∃ A c, v = .slice A xs.length c := by
  obtain ⟨A, c, he, _⟩ := R_reads h
  exact ⟨A, c, he⟩
theorem R_own (h : d.R e w base ok v xs) : ∃ inner, w.ownsRow base e d.sz v xs.length inner := by
  obtain ⟨_, inner, ho, _⟩ := h
  exact ⟨inner, ho⟩
theorem R_ne (h : d.R e w base ok v xs) {g t : Nat} {cells : Array Value} (hb : w.heap[g]? = some (.cells cells t (0, 0))) (ht : e ≠ t) : some g ≠ v.ownBlock := OwnRow.ne_block h.2 hb ht
end

def scalar {α : Type} (enc : α → Value) (h1 : ∀ x, (enc x).oneCell' = true) : Kd α where
  sz := 1
  E := []
  K := fun _ x cs => cs = [enc x]
  M := fun _ _ _ x cs => cs = [enc x]
  K_len := fun h => by rw [h]; rfl
  K_one := fun h u hu => by
    rw [h] at hu
    rw [List.mem_singleton.1 hu]
    exact h1 _
  K_below := fun _ h => h
  K_of_M := fun h => h
  M_mono := fun _ h => h
  M_bound := fun h => h
  M_move := fun _ h => h
  M_lower := fun _ h => h
def int (k : IntKind) : Kd Int := scalar (Value.int k) (fun _ => rfl)
def bool : Kd Bool := scalar Value.bool (fun _ => rfl)
def string : Kd ByteArray := scalar Value.string (fun _ => rfl)
def slice {α : Type} (e : Nat) (d : Kd α) : Kd (List α) where
  sz := 1
  E := e :: d.E
  K := fun w xs cs => ∃ A c, cs = [.slice A xs.length c] ∧ xs.length ≤ c ∧ d.C w A xs.length xs
  M := fun w base ok xs cs => ∃ v, cs = [v] ∧ d.R e w base ok v xs
  K_len := by
    rintro w x cs ⟨A, c, rfl, _⟩
    rfl
  K_one := by
    rintro w x cs ⟨A, c, rfl, _⟩ u hu
    rw [List.mem_singleton.1 hu]
    rfl
  K_below := by
    rintro w w1 x cs hb ⟨A, c, rfl, hl, hr⟩
    exact ⟨A, c, rfl, hl, C_below hr hb⟩
  K_of_M := by
    rintro w base ok x cs ⟨v, rfl, h⟩
    obtain ⟨A, c, rfl, hl, hr⟩ := R_reads h
    exact ⟨A, c, rfl, hl, hr⟩
  M_mono := by
    rintro w base ok ok' x cs hok ⟨v, rfl, h⟩
    exact ⟨v, rfl, R_mono h hok⟩
  M_bound := by
    rintro w base ok x cs ⟨v, rfl, h⟩
    exact ⟨v, rfl, R_bound h⟩
  M_move := by
    rintro w w1 base ok x cs hm ⟨v, rfl, h⟩
    exact ⟨v, rfl, R_move h hm⟩
  M_lower := by
    rintro w base base' ok x cs hb ⟨v, rfl, h⟩
    exact ⟨v, rfl, R_lower h hb⟩
/-- Nothing is of this kind: where the nesting's depth is used up. -/
def bot {α : Type} (sz : Nat) (E : List Nat) : Kd α where
  sz := sz
  E := E
  K := fun _ _ _ => False
  M := fun _ _ _ _ _ => False
  K_len := fun h => h.elim
  K_one := fun h => h.elim
  K_below := fun _ h => h
  K_of_M := fun h => h
  M_mono := fun _ h => h
  M_bound := fun h => h
  M_move := fun _ h => h
  M_lower := fun _ h => h
/-- A type nested in itself: nested at most n deep .. -/
def upto {α : Type} (F : Kd α → Kd α) (sz : Nat) (E : List Nat) : Nat → Kd α
  | 0 => bot sz E
  | n + 1 => F (upto F sz E n)
/-- What an append leaves: the old elements' rows and the new one's are not the new row's block. -/
theorem R_appended {α : Type} {d : Kd α} {e base : Nat} {ok okp : Nat → Prop} {W w1 : World} {v v1 : Value} {xs : List α} {p : α} {inner cs : List Value} (h0 : ∀ k, v.ownBlock = some k → ok k) (hr : Reps (d.M W base (fun k => ok k ∧ some k ≠ v.ownBlock)) d.sz xs inner) (hp : d.M W base okp p cs) (hokp : ∀ k, okp k → ok k ∧ some k ≠ v.ownBlock) (hfresh : ∀ k, W.heap.size ≤ k → ok k)
    (hown : w1.ownsRow base e d.sz v1 (xs.length + 1) (inner ++ cs)) (hg : W.grownBy w1 v.ownBlock) (hat : v1.ownBlock = v.ownBlock ∨ ∃ b, v1.ownBlock = some b ∧ W.heap.size ≤ b) : d.R e w1 base ok v1 (xs ++ [p]) := by
  have hne : ∀ k, some k ≠ v.ownBlock → k < W.heap.size → some k ≠ v1.ownBlock := by
    intro k hk hlt
    rcases hat with hat | ⟨b, hb, hle⟩
    · rw [hat]; exact hk
    · rw [hb]
      intro he
      injection he with he
      omega
  have step : ∀ {q : α} {c : List Value} {o : Nat → Prop}, d.M W base o q c → (∀ k, o k → ok k ∧ some k ≠ v.ownBlock) → d.M w1 base (fun k => ok k ∧ some k ≠ v1.ownBlock) q c := by
    intro q c o hq ho
    have h1 := d.M_move (w1 := w1) (fun k hk => hg.block k hk.2.2.1 (ho k hk.1).2) (d.M_bound hq)
    exact d.M_mono (fun k hk => ⟨(ho k hk.1).1, hne k (ho k hk.1).2 hk.2.2.1⟩) h1
  refine ⟨fun k hk => ?_, inner ++ cs, by rw [List.length_append, List.length_singleton]; exact hown, ?_⟩
  · rcases hat with hat | ⟨b, hb, hle⟩
    · exact h0 k (hat ▸ hk)
    · rw [hb] at hk
      injection hk with hk
      exact hfresh k (by omega)
  · exact (hr.imp_ (fun _ _ hq => step hq (fun _ hk => hk))).snoc (step hp hokp) (d.K_len (d.K_of_M hp))
section
variable {P : Program} {ops : Array Oper} {rest : List Oper} {o : Oper} {a : Act} {Q : Exit → Act → World → Prop} {α : Type}
/-- append(v, x), behind 'at_builtin'; the goal's world is 'W.alloc' of the variadic's box; x's cells are cs, made (its rows satisfy okp). hfresh: a block that is new at W is ok. -/
theorem R_append (d : Kd α) {w0 W : World} (base : Nat) (hgd : o.guard = none) (s x : Operand) (t e : TypeId) (z : Value) (bytes : Nat)
    (ho : o.op = .call { callee := .builtin .append, args := #[s, x], argTypes := #[t, t] })
    (ht : P.underlying t = some (.slice e)) (hinfo : (P.info? e).map (fun i => (i.zero, i.size, i.bytes)) = some (some z, d.sz, bytes)) (hz : z.cells.size = d.sz) (hs0 : 0 < d.sz) (hb0 : 0 < bytes)
    (v : Value) (xs : List α) (p : α) (cs : List Value) (ok okp : Nat → Prop) (hs : a.eval s = v) (hx : a.eval x = .slice (some ⟨W.heap.size, 0, none⟩) 1 1) (hp : d.M W base okp p cs) (hokp : ∀ k, okp k → ok k ∧ some k ≠ v.ownBlock) (hfresh : ∀ k, W.heap.size ≤ k → ok k)
    (HO : d.R e W base ok v xs) (HB : Below base w0 W) (hbase : base ≤ W.heap.size) (hl : (xs.length + 1) * bytes ≤ 140737488355328)
    (h : ∀ v1 w1, d.R e w1 base ok v1 (xs ++ [p]) → Below base w0 w1 → W.grownBy w1 v.ownBlock → (v1.ownBlock = v.ownBlock ∨ ∃ b, v1.ownBlock = some b ∧ W.heap.size ≤ b) → wpList P ops Q rest (a.put o.dst v1) w1) :
    wpList P ops Q (o :: rest) a (W.alloc (.cells cs.toArray e)) := by
  obtain ⟨h0, inner, hown, hr⟩ := HO
  refine print_append_cells base hgd s x t e z d.sz bytes ho ht hinfo hz hs0 hb0 v xs.length inner cs hs hx (d.K_len (d.K_of_M hp)) (d.K_one (d.K_of_M hp)) hown HB hbase hl ?_
  intro v1 w1 hown1 hb1 hg1 hat1
  exact h v1 w1 (R_appended h0 hr hp hokp hfresh hown1 hg1 hat1) hb1 hg1 hat1
end
section
variable {P : Program} {ops : Array Oper} {o : Oper} {a : Act} {Q : Exit → Act → World → Prop} {Kc : Act → World → Prop} {α : Type}
end
/-- A row of scalars is the elder form. -/
theorem reps_scalar {α : Type} {enc : α → Value} (xs : List α) : Reps (fun (x : α) (cs : List Value) => cs = [enc x]) 1 xs (encs enc xs) := by
  refine ⟨by simp [encs], fun j p hj => ?_⟩
  obtain ⟨hl, hp⟩ := List.getElem?_eq_some_iff.1 hj
  have hl' : j < (encs enc xs).length := by rw [encs_length]; exact hl
  rw [Nat.mul_one, List.drop_eq_getElem_cons hl']
  simp [encs, hp]
theorem R_of_own {α : Type} {enc : α → Value} {h1 : ∀ x, (enc x).oneCell' = true} {e : Nat} {w : World} {base : Nat} {ok : Nat → Prop} {v : Value} {xs : List α} (ho : w.ownsRow base e 1 v xs.length (encs enc xs)) (hok : ∀ k, v.ownBlock = some k → ok k) : (scalar enc h1).R e w base ok v xs := ⟨hok, encs enc xs, ho, reps_scalar xs⟩
theorem own_of_R {α : Type} {enc : α → Value} {h1 : ∀ x, (enc x).oneCell' = true} {e : Nat} {w : World} {base : Nat} {ok : Nat → Prop} {v : Value} {xs : List α} (h : (scalar enc h1).R e w base ok v xs) : w.ownsRow base e 1 v xs.length (encs enc xs) := by
  obtain ⟨_, inner, ho, hr⟩ := h
  have : inner = encs enc xs := by
    apply List.ext_getElem?
    intro j
    rcases Nat.lt_or_ge j xs.length with hj | hj
    · have h2 := hr.2 j _ (List.getElem?_eq_getElem hj)
      have hl : j < inner.length := by have := hr.1; simp [scalar] at this; omega
      have h3 : (inner.drop (j * 1)).take 1 = [enc xs[j]] := h2
      rw [Nat.mul_one, List.drop_eq_getElem_cons hl] at h3
      have h4 : inner[j] = enc xs[j] := by
        have h5 := congrArg List.head? h3
        rw [List.take_succ_cons] at h5
        exact Option.some.inj h5
      rw [List.getElem?_eq_getElem hl, h4]
      simp [encs, List.getElem?_eq_getElem hj]
    · have h3 : inner.length = xs.length := by have := hr.1; simp [scalar] at this; omega
      rw [List.getElem?_eq_none (by omega), List.getElem?_eq_none (by rw [encs_length]; omega)]
  rw [← this]
  exact ho
theorem reads_of_C {α : Type} {enc : α → Value} {d : α} {h1 : ∀ x, (enc x).oneCell' = true} {w : World} {A : Option Addr} {n : Nat} {xs : List α} (h : (scalar enc h1).C w A n xs) : ReadsOf enc d w A n xs := by
  refine ⟨h.1, h.2.1, fun hn => ?_⟩
  obtain ⟨ad, e, hc⟩ := h.2.2 hn
  refine ⟨ad, e, fun j hj => ?_⟩
  have hl : j < xs.length := by have := h.1; omega
  obtain ⟨c, _, hK, hcell⟩ := hc j _ (List.getElem?_eq_getElem hl)
  have hK' : c = [enc xs[j]] := hK
  subst hK'
  have := hcell 0 _ rfl
  simpa [scalar, List.getD_eq_getElem?_getD, List.getElem?_eq_getElem hl] using this
end Kd
namespace Kd
section
variable {α : Type} {F : Kd α → Kd α} {sz : Nat} {E : List Nat} {hs : ∀ n, (upto F sz E n).sz = sz} {hE : ∀ n q, q ∈ (upto F sz E n).E → q ∈ E}
end
end Kd
namespace Kd
end Kd
namespace Kd
section
variable {α β : Type} {d : Kd α} {d' : Kd β} {e e' : Nat} {w w1 W : World} {base b b' : Nat} {ok ok' okv oku : Nat → Prop} {v u : Value} {xs : List α} {ys : List β}
theorem R_reads' {A : Option Addr} {n c : Nat} (h : d.R e w base ok (.slice A n c) xs) : n = xs.length ∧ n ≤ c ∧ d.C w A xs.length xs := by
  obtain ⟨A', c', he, hl, hr⟩ := R_reads h
  injection he with h1 h2 h3
  subst h1
  exact ⟨h2, by omega, hr⟩
end
section
variable {w W : World} {A : Option Addr} {n : Nat}
theorem at_int {k : IntKind} {xs : List Int} (h : (Kd.int k).C w A n xs) (i : Int) (h0 : 0 ≤ i) (h1 : i < n) : ∃ ad, A = some ad ∧ w.cell? (ad.add i.toNat) = some (.int k (rd xs i)) :=
  ReadsOf.at_ (reads_of_C (enc := Value.int k) (d := (0 : Int)) (h1 := fun _ => rfl) h) i h0 h1
variable {α : Type} {enc : α → Value} {h1 : ∀ x, (enc x).oneCell' = true} {e base g cap : Nat} {ok : Nat → Prop} {xs : List α}
end

section
variable {P : Program} {ops : Array Oper} {rest : List Oper} {o : Oper} {a : Act} {Q : Exit → Act → World → Prop}
variable {α : Type}
end
end Kd
section
variable {P : Program}
end
/-- A row of one's own that may begin inside its block. -/
def QRow (w : World) (base : Nat) (e : TypeId) (size : Nat) (v : Value) (n : Nat) (xs : List Value) : Prop :=
  xs.length = n * size ∧
  ((n = 0 ∧ ∃ A, v = .slice A 0 0 ∧ ∀ a, A = some a → base ≤ a.block ∧ ∃ cur, w.heap[a.block]? = some (.cells cur e (0, 0))) ∨
   ∃ g off cap cur, v = .slice (some ⟨g, off * size, none⟩) n cap ∧ base ≤ g ∧ w.heap[g]? = some (.cells cur e (0, 0)) ∧ n ≤ cap ∧ off + cap ≤ maxLen ∧ cur.size = (off + cap) * size ∧ (cur.toList.drop (off * size)).take (n * size) = xs)
section
variable {w w1 : World} {base n size : Nat} {e : TypeId} {v : Value} {xs : List Value}
end
section
variable {P : Program}
end
namespace Kd
def Q {α : Type} (d : Kd α) (e : Nat) (w : World) (base : Nat) (ok : Nat → Prop) (v : Value) (xs : List α) : Prop :=
  (∀ k, v.ownBlock = some k → ok k) ∧ ∃ inner, QRow w base e d.sz v xs.length inner ∧ Reps (d.M w base (fun k => ok k ∧ some k ≠ v.ownBlock)) d.sz xs inner
section
variable {α : Type} {d : Kd α} {e : Nat} {w w1 W : World} {base : Nat} {ok ok' : Nat → Prop} {v : Value} {xs : List α}
end
section
variable {P : Program} {ops : Array Oper} {rest : List Oper} {o : Oper} {a : Act} {Q' : Exit → Act → World → Prop} {Kc : Act → World → Prop} {α : Type}
end
end Kd
namespace Kd
section
variable {α : Type} {d : Kd α} {e e' : Nat} {w w1 W : World} {base : Nat} {ok : Nat → Prop} {u v : Value} {xs : List α}
end
end Kd
namespace Kd
section
variable {α : Type} {d : Kd α} {e base g n cap : Nat} {ok okp : Nat → Prop} {W : World} {xs : List α}
end
end Kd
namespace Kd
section
variable {α : Type} {F : Kd α → Kd α} {sz : Nat} {E : List Nat} {hs : ∀ n, (upto F sz E n).sz = sz} {hE : ∀ n q, q ∈ (upto F sz E n).E → q ∈ E}
end
end Kd
namespace Kd
theorem reps_append {α : Type} {R : α → List Value → Prop} {size : Nat} {ps qs : List α} {cs ds : List Value} (h : Reps R size ps cs) (h' : Reps R size qs ds) : Reps R size (ps ++ qs) (cs ++ ds) := by
  refine ⟨by rw [List.length_append, List.length_append, h.1, h'.1, Nat.add_mul], fun j p hj => ?_⟩
  rcases Nat.lt_or_ge j ps.length with hlt | hge
  · rw [List.getElem?_append_left hlt] at hj
    have hle : j * size + size ≤ cs.length := by rw [h.1, ← Nat.succ_mul]; exact Nat.mul_le_mul_right _ hlt
    rw [List.drop_append_of_le_length (by omega), List.take_append_of_le_length (by rw [List.length_drop]; omega)]
    exact h.2 j p hj
  · rw [List.getElem?_append_right hge] at hj
    have h2 := h'.2 (j - ps.length) p hj
    have hle : ps.length * size ≤ j * size := Nat.mul_le_mul_right _ hge
    rw [List.drop_append, List.drop_eq_nil_of_le (by rw [h.1]; exact hle), List.nil_append, h.1, ← Nat.sub_mul]
    exact h2
section
variable {P : Program} {ops : Array Oper} {rest : List Oper} {o : Oper} {a : Act} {Q : Exit → Act → World → Prop} {α : Type}
end
end Kd
namespace Kd
section
variable {P : Program} {ops : Array Oper} {rest : List Oper} {o : Oper} {a : Act} {Q : Exit → Act → World → Prop} {α : Type}
end
end Kd
namespace Kd
section
variable {α : Type} {k : Kd α} {w : World} {A : Option Addr} {xs : List α} {m c : Nat}
end
end Kd
section
variable {P : Program}
end
theorem string_of_reads {P : Program} {w : World} {src dst e : TypeId} {A : Option Addr} {n c : Nat} {xs : List Int} (hs : P.underlying src = some (.slice e)) (he : P.underlying e = some (.int .u8)) (hd : P.underlying dst = some .string)
    (h : ReadsInt w .u8 A n xs) : (convert src dst (.slice A n c)).run P w = .ok (.string (strOfNums xs)) w := by
  have hn : xs.length = n := h.1
  rcases A with _ | ad
  · have h0 : n = 0 := by
      rcases Nat.eq_zero_or_pos n with h0 | h0
      · exact h0
      · obtain ⟨ad, h', _⟩ := h.2.2 h0
        cases h'
    subst h0
    obtain rfl : xs = [] := List.eq_nil_of_length_eq_zero hn
    exact run_convert_bytes_nil w src e hs he 0 c dst hd
  · have hl : (loadCells ad n).run P w = .ok (xs.map (Value.int .u8)).toArray w := by
      have := run_loadCells_list (P := P) w ad (xs.map (Value.int .u8)) (fun j v hj => by
        have hjl : j < xs.length := by
          rcases Nat.lt_or_ge j xs.length with h' | h'
          · exact h'
          · rw [List.getElem?_eq_none (by rw [List.length_map]; exact h')] at hj
            cases hj
        obtain ⟨ad', he', hc⟩ := h.2.2 (by omega)
        injection he' with he'
        subst he'
        rw [hc j (by omega)]
        rw [List.getElem?_map, List.getElem?_eq_getElem hjl] at hj
        simp at hj
        subst hj
        simp [List.getD_eq_getElem?_getD, List.getElem?_eq_getElem hjl])
      simpa [hn] using this
    rw [run_convert_bytes_string w src dst e _ n c hs he hd, run_bytesToString w ad n c xs hl, foldl_push_bytes]
    simp [strOfNums, ByteArray.empty, ByteArray.emptyWithCapacity]
    rfl
theorem Kd.C_string {P : Program} {w : World} {src dst e : TypeId} {A : Option Addr} {n c : Nat} {xs : List Int} (hs : P.underlying src = some (.slice e)) (he : P.underlying e = some (.int .u8)) (hd : P.underlying dst = some .string)
    (h : (Kd.int .u8).C w A n xs) : (convert src dst (.slice A n c)).run P w = .ok (.string (strOfNums xs)) w :=
  string_of_reads hs he hd (Kd.reads_of_C (enc := Value.int .u8) (d := (0 : Int)) (h1 := fun _ => rfl) h)
theorem ReadsInt.drewN {W : World} {k : IntKind} {A : Option Addr} {n : Nat} {xs : List Int} (h : ReadsInt W k A n xs) (m : Nat) : ReadsInt (W.drewN m) k A n xs := h
theorem ReadsOf.drewN {α : Type} {enc : α → Value} {d : α} {W : World} {A : Option Addr} {n : Nat} {xs : List α} (h : ReadsOf enc d W A n xs) (m : Nat) : ReadsOf enc d (W.drewN m) A n xs := h
namespace Kd
section
variable {α β : Type} {d : Kd α} {d' : Kd β} {e e' base base' n : Nat} {ok ok' : Nat → Prop} {w W w1 W1 : World} {v u : Value} {xs : List α} {ys : List β} {A : Option Addr} {c : Nat}
end
section
variable {α : Type} {enc : α → Value} {h1 : ∀ x, (enc x).oneCell' = true} {w W : World} {A : Option Addr} {n g : Nat} {xs : List α}
end
end Kd
namespace Kd
section
variable {α : Type} {d : Kd α} {e base g : Nat} {ok : Nat → Prop} {w w1 : World} {v : Value} {xs : List α} {o : Obj}
end
end Kd
section
variable {P : Program} {ops : Array Oper} {rest : List Oper} {o : Oper} {a : Act} {Q : Exit → Act → World → Prop}
theorem Kd.R_append_row {α : Type} (enc : α → Value) (d : α) {h1 : ∀ x : α, (enc x).oneCell' = true} {w0 W : World} (base : Nat) (hgd : o.guard = none) (s x : Operand) (t e : TypeId) (z : Value) (bytes : Nat)
    (ho : o.op = .call { callee := .builtin .append, args := #[s, x], argTypes := #[t, t] })
    (ht : P.underlying t = some (.slice e)) (hinfo : (P.info? e).map (fun i => (i.zero, i.size, i.bytes)) = some (some z, 1, bytes)) (hz : z.cells.size = 1) (hb0 : 0 < bytes)
    (v : Value) (xs ys : List α) (A : Option Addr) (m c : Nat) (ok : Nat → Prop) (hs : a.eval s = v) (hx : a.eval x = .slice A m c) (hfresh : ∀ k, W.heap.size ≤ k → ok k)
    (HO : (Kd.scalar enc h1).R e W base ok v xs) (HR : (Kd.scalar enc h1).C W A m ys) (HB : Below base w0 W) (hbase : base ≤ W.heap.size) (hl : (xs.length + m) * bytes ≤ 140737488355328)
    (h : ∀ v1 w1, (Kd.scalar enc h1).R e w1 base ok v1 (xs ++ ys) → Below base w0 w1 → W.grownBy w1 v.ownBlock → (v1.ownBlock = v.ownBlock ∨ ∃ b, v1.ownBlock = some b ∧ W.heap.size ≤ b) → wpList P ops Q rest (a.put o.dst v1) w1) :
    wpList P ops Q (o :: rest) a W := by
  refine print_append_row_of (w0 := w0) enc d base hgd s x t e z bytes ho ht hinfo hz hb0 h1 v xs ys A m c hs hx (Kd.own_of_R HO) (Kd.reads_of_C (d := d) HR) HB hbase hl ?_
  intro v1 w1 hown hb hg hat
  refine h v1 w1 (Kd.R_of_own hown (fun k hk => ?_)) hb hg hat
  rcases hat with e1 | ⟨b, e1, hbb⟩
  · exact HO.1 k (by rw [← e1]; exact hk)
  · rw [e1] at hk
    injection hk with hk
    subst hk
    exact hfresh _ hbb
end
namespace Kd
section
variable {α : Type} {enc : α → Value} {h1 : ∀ x, (enc x).oneCell' = true} {e base g n cap : Nat} {ok : Nat → Prop} {W : World} {xs : List α}
end
end Kd
section
variable {P : Program} {ops : Array Oper} {rest : List Oper} {o : Oper} {a : Act} {Q : Exit → Act → World → Prop}
end
namespace Kd
section
variable {α : Type} {enc : α → Value} {h1 : ∀ x, (enc x).oneCell' = true} {e base g n cap : Nat} {ok : Nat → Prop} {W : World} {xs : List α}
end
end Kd
section
variable {P : Program} {ops : Array Oper} {rest : List Oper} {o : Oper} {a : Act} {Q : Exit → Act → World → Prop} {W : World}
theorem gate_dst {N : Tmp} (_hN : o.dst = some N) (h : wpList P ops Q (o :: rest) a W) : wpList P ops Q (o :: rest) a W := h
end
section
variable {P : Program} {ops : Array Oper} {o : Oper} {a : Act} {Q : Exit → Act → World → Prop} {Kc : Act → World → Prop}
namespace Kd
variable {α : Type}
theorem R_append_rows_step (d : Kd α) {Rr : α → List Value → Prop} {w0 W : World} (base : Nat) (hw : Region.wanted o (yielded ops a.tmps) = true) (s x : Operand) (t e : TypeId) (z : Value) (bytes : Nat)
    (ho : o.op = .call { callee := .builtin .append, args := #[s, x], argTypes := #[t, t] })
    (ht : P.underlying t = some (.slice e)) (hinfo : (P.info? e).map (fun i => (i.zero, i.size, i.bytes)) = some (some z, d.sz, bytes)) (hz : z.cells.size = d.sz) (hs0 : 0 < d.sz) (hb0 : 0 < bytes)
    (v : Value) (xs ys : List α) (A : Option Addr) (m c : Nat) (ok okp : Nat → Prop) (hs : a.eval s = v) (hx : a.eval x = .slice A m c)
    (HO : d.R e W base ok v xs) (HR : ReadsRow Rr d.sz W A m ys) (hKM : ∀ x cs, Rr x cs → d.M W base okp x cs) (hokp : ∀ k, okp k → ok k ∧ some k ≠ v.ownBlock) (hfresh : ∀ k, W.heap.size ≤ k → ok k)
    (HB : Below base w0 W) (hbase : base ≤ W.heap.size) (hl : (xs.length + m) * bytes ≤ 140737488355328)
    (h : ∀ v1 w1, d.R e w1 base ok v1 (xs ++ ys) → Below base w0 w1 → W.grownBy w1 v.ownBlock → (v1.ownBlock = v.ownBlock ∨ ∃ b, v1.ownBlock = some b ∧ W.heap.size ≤ b) → Kc (a.put o.dst v1) w1) :
    if Region.wanted o (yielded ops a.tmps) = true then Oper.wp P o a W Kc Q else Kc (a.put o.dst undef) W := by
  obtain ⟨i0, hi, hzz⟩ := Option.map_eq_some_iff.1 hinfo
  simp only [Prod.mk.injEq] at hzz
  obtain ⟨hz0, hz1, hz2⟩ := hzz
  have hm : ys.length = m := HR.1
  have hlen : xs.length + m ≤ 140737488355328 := Nat.le_trans (Nat.le_mul_of_pos_right _ hb0) hl
  obtain ⟨hok, inner, hown, hr⟩ := HO
  have hrun : ∃ v1 w1, (Builtin.append_ #[t, t] o.type #[v, .slice A m c]).run P W = .ok v1 w1 ∧ d.R e w1 base ok v1 (xs ++ ys) ∧ W.grownBy w1 v.ownBlock ∧ (v1.ownBlock = v.ownBlock ∨ ∃ b, v1.ownBlock = some b ∧ W.heap.size ≤ b) := by
    rcases A with _ | ad
    · have h0 : m = 0 := by
        rcases Nat.eq_zero_or_pos m with h0 | h0
        · exact h0
        · obtain ⟨ad, h, _⟩ := HR.2.2 h0
          cases h
      subst h0
      obtain rfl : ys = [] := List.eq_nil_of_length_eq_zero hm
      refine ⟨v, W, ?_, by rw [List.append_nil]; exact ⟨hok, inner, hown, hr⟩, World.grownBy.refl W _, .inl rfl⟩
      rcases hown.2 with ⟨rfl, hn⟩ | ⟨g, cap, cur, rfl, _, _, hnc, _⟩
      · simp [Builtin.append_, run_underlying ht, sizeOf, typeInfo, hi, Builtin.lenOf, Builtin.firstCells]
      · simp [Builtin.append_, run_underlying ht, sizeOf, typeInfo, hi, Builtin.lenOf, Builtin.firstCells, hnc, storeCells]
    · obtain ⟨news, hnr, hnc⟩ := ReadsRow.inner_ HR
      have hnM : Reps (d.M W base okp) d.sz ys news := hnr.imp_ (fun p c hp => hKM p c hp)
      have hone : ∀ u ∈ news, u.oneCell' = true := by
        intro u hu
        obtain ⟨q, hq, rfl⟩ := List.mem_iff_getElem.1 hu
        have hql : q / d.sz < ys.length := by
          rw [Nat.div_lt_iff_lt_mul hs0]
          rw [← hnM.1]
          exact hq
        have hc := hnM.2 (q / d.sz) _ (List.getElem?_eq_getElem hql)
        refine d.K_one (d.K_of_M hc) _ ?_
        rw [List.mem_iff_getElem?]
        refine ⟨q % d.sz, ?_⟩
        rw [List.getElem?_take, if_pos (Nat.mod_lt _ hs0), List.getElem?_drop, Nat.mul_comm, Nat.div_add_mod, List.getElem?_eq_getElem hq]
      obtain ⟨v1, w1, hrun, h2, hg, _, hat⟩ := run_append_own_at (P := P) W base t o.type e i0 z d.sz bytes ht hi hz0 hz1 hz2 hz hs0 v xs.length inner hown ad m c news (by rw [hnM.1, hm]) hnc hone (by simp only [maxLen]; omega) hl hbase
      have hat' : v1.ownBlock = v.ownBlock ∨ ∃ b, v1.ownBlock = some b ∧ W.heap.size ≤ b := by
        rcases hat with hat | hat
        · exact .inl hat
        · exact .inr ⟨_, hat, Nat.le_refl _⟩
      have hne : ∀ k, some k ≠ v.ownBlock → k < W.heap.size → some k ≠ v1.ownBlock := by
        intro k hk hlt
        rcases hat' with hat | ⟨b, hb, hle⟩
        · rw [hat]; exact hk
        · rw [hb]
          intro he
          injection he with he
          omega
      have step : ∀ {q : α} {c : List Value} {o : Nat → Prop}, d.M W base o q c → (∀ k, o k → ok k ∧ some k ≠ v.ownBlock) → d.M w1 base (fun k => ok k ∧ some k ≠ v1.ownBlock) q c := by
        intro q c o hq ho
        have h1 := d.M_move (w1 := w1) (fun k hk => hg.block k hk.2.2.1 (ho k hk.1).2) (d.M_bound hq)
        exact d.M_mono (fun k hk => ⟨(ho k hk.1).1, hne k (ho k hk.1).2 hk.2.2.1⟩) h1
      refine ⟨v1, w1, hrun, ⟨fun k hk => ?_, inner ++ news, by rw [List.length_append, hm]; exact h2, reps_append (hr.imp_ (fun _ _ hq => step hq (fun _ hk => hk))) (hnM.imp_ (fun _ _ hq => step hq hokp))⟩, hg, hat'⟩
      rcases hat' with hat | ⟨b, hb, hle⟩
      · exact hok k (hat ▸ hk)
      · rw [hb] at hk
        injection hk with hk
        exact hfresh k (by omega)
  obtain ⟨v1, w1, hr1, h1, hg, hat⟩ := hrun
  rw [if_pos hw]
  unfold Oper.wp execOp
  simp only [ho, resolve, invoke, builtin, Sem.run_bind, Sem.run_pure, Result.andThen_ok, List.map_toArray, List.map_cons, List.map_nil, hs, hx, hr1]
  exact h v1 w1 h1 (HB.grown hg hbase (own_base hown)) hg hat
end Kd
end
section
variable {P : Program} {tmps : Array Value} {w : World}
end
namespace Kd
section
variable {P : Program} {α : Type}
end
section
variable {P : Program} {ops : Array Oper} {rest : List Oper} {o : Oper} {a : Act} {Q : Exit → Act → World → Prop} {Kc : Act → World → Prop} {α : Type}
end
end Kd

end Go.Proofs.YtmpdimigpaogkaaW.PrintWords
end
section
-- PRINTED BY print.sh 35421559b90ae4d0a3588c463048766b98c2df88dd9212a6774a882060cdf62d: not written by this session

namespace Go.Proofs.YtmpdimigpaogkaaW.PrintLast

section
variable {P : Program} {ops : Array Oper} {Q : Exit → Act → World → Prop} {md : Region.Mode} {S : World → Prop} {ds : List Nat}

/-- Whatever order is picked from here on, AND 'S' HOLDS BEHIND EVERY OPERATION THAT IS CARRIED OUT, those of ds apart. -/
def wpAnyLast (P : Program) (md : Region.Mode) (ops : Array Oper) (Q : Exit → Act → World → Prop) (S : World → Prop) (ds : List Nat) : Nat → Array Bool → Act → World → Prop
  | 0, listed, a, w => Region.ready md ops listed = [] ∧ Q .normal a w
  | fuel + 1, listed, a, w =>
    (Region.ready md ops listed = [] → Q .normal a w) ∧
    ∀ i ∈ Region.ready md ops listed, wpOp P ops Q i (fun a' w' => (i ∉ ds → S w → S w') ∧ wpAnyLast P md ops Q S ds fuel (listed.setIfInBounds i true) a' w') a w

theorem wpAny_of_last : ∀ (fuel : Nat) (listed : Array Bool) (a : Act) (w : World), wpAnyLast P md ops Q S ds fuel listed a w → wpAny P md ops Q fuel listed a w
  | 0, _, _, _, h => h
  | fuel + 1, _, _, _, h => ⟨h.1, fun i hi => wpOp_mono (fun a' w' h' => wpAny_of_last fuel _ a' w' h'.2) (h.2 i hi)⟩

/-- Take number 'i' first, which yields whatever the world: no S is asked for, nor that anything waits for it. -/
theorem wpAnyLast_any {i : Nat} {oi : Oper} {v : Value} (hi : ops[i]? = some oi) (hsel : ∀ (j : Nat) (o : Oper) cs b, ops[j]? = some o → o.op ≠ .select cs b)
    (hQ : ∀ c a w, Q (.panic c) (a.put oi.dst v) w → Q (.panic c) a w) :
    ∀ (fuel : Nat) (listed : Array Bool) (a : Act) (w : World),
      (∀ j oj, ops[j]? = some oj → j ≠ i → listed.getD j true = false → (∀ e ∈ oj.after, Region.binds md e = true → e.on ≠ i) → oi.apart ops oj = true) →
      i ∈ Region.ready md ops listed → Yields P ops oi v a →
      wpAnyLast P md ops Q S ds fuel (listed.setIfInBounds i true) (a.put oi.dst v) w → wpAnyLast P md ops Q S ds (fuel + 1) listed a w := by
  intro fuel
  induction fuel with
  | zero =>
    intro listed a w _ hr hy H
    refine ⟨fun h => (by rw [h] at hr; cases hr), fun j hj => ?_⟩
    by_cases hji : j = i
    · subst hji; exact (hy.yieldsIf (S := fun _ => True)).wpOp hi trivial ⟨fun _ h => h, H⟩
    · have := ready_mono hj hji
      rw [H.1] at this
      cases this
  | succ fuel ih =>
    intro listed a w hfree hr hy H
    refine ⟨fun h => (by rw [h] at hr; cases hr), fun j hj => ?_⟩
    by_cases hji : j = i
    · subst hji; exact (hy.yieldsIf (S := fun _ => True)).wpOp hi trivial ⟨fun _ h => h, H⟩
    · have h1 := H.2 j (ready_mono hj hji)
      obtain ⟨hjun, oj, hoj, hall⟩ := mem_ready.1 hj
      have hiun := (mem_ready.1 hr).1
      have hnot : ∀ e ∈ oj.after, Region.binds md e = true → e.on ≠ i := fun e he hb heq => by
        have h1 := hall e he hb
        rw [heq] at h1
        rcases Nat.lt_or_ge i listed.size with h' | h'
        · simp [h'] at hiun h1; rw [hiun] at h1; cases h1
        · simp [Array.getElem?_eq_none h'] at h1
      have h2 := wpOp_put hoj (hfree j oj hoj hji hjun hnot) (fun cs b => hsel i oi cs b hi) (fun cs b => hsel j oj cs b hoj) hQ hy h1
      have hfree' : ∀ k ok, ops[k]? = some ok → k ≠ i → (listed.setIfInBounds j true).getD k true = false →
          (∀ e ∈ ok.after, Region.binds md e = true → e.on ≠ i) → oi.apart ops ok = true := fun k ok hk hki hun hno => by
        refine hfree k ok hk hki ?_ hno
        by_cases hjk : j = k
        · subst hjk; exact hjun
        · rw [getD_set_ne true hjk] at hun; exact hun
      refine wpOp_mono (fun a' w' h3 => ⟨h3.2.1, ih (listed.setIfInBounds j true) a' w' hfree' (ready_mono hr (Ne.symm hji)) h3.1 ?_⟩) h2
      rw [Array.setIfInBounds_comm _ _ hji]
      exact h3.2.2

theorem wpAnyLast_all {rs : List Nat} {fuel : Nat} {listed : Array Bool} {a : Act} {w : World} (hr : Region.ready md ops listed = rs) (hne : rs ≠ [])
    (h : ∀ i ∈ rs, wpOp P ops Q i (fun a' w' => (i ∉ ds → S w → S w') ∧ wpAnyLast P md ops Q S ds fuel (listed.setIfInBounds i true) a' w') a w) : wpAnyLast P md ops Q S ds (fuel + 1) listed a w :=
  ⟨fun h0 => absurd (hr ▸ h0) hne, hr ▸ h⟩

theorem wp_region_last {id : Nat} {a : Act} {w : World} (hm : P.follows .mixedOrders = true)
    (h : wpAnyLast P .any ops Q S ds ops.size (Array.replicate ops.size false) a { w with drawn := w.drawn + 1 }) : (Code.region id ops true).wp P Q a w :=
  wp_region_any hm (wpAny_of_last _ _ _ _ h)

end

section
variable {P : Program} {ops : Array Oper} {Q : Exit → Act → World → Prop} {md : Region.Mode} {S : World → Prop} {ds : List Nat}

def AllReadyL (P : Program) (md : Region.Mode) (ops : Array Oper) (Q : Exit → Act → World → Prop) (S : World → Prop) (ds : List Nat) (fuel : Nat) (listed : Array Bool) (a : Act) (w : World) (rs : List Nat) : Prop :=
  ∀ i ∈ rs, wpOp P ops Q i (fun a' w' => (i ∉ ds → S w → S w') ∧ wpAnyLast P md ops Q S ds fuel (listed.setIfInBounds i true) a' w') a w
theorem AllReadyL.nil {fuel : Nat} {listed : Array Bool} {a : Act} {w : World} : AllReadyL P md ops Q S ds fuel listed a w [] := fun _ h => by cases h
theorem AllReadyL.cons {fuel : Nat} {listed : Array Bool} {a : Act} {w : World} {i : Nat} {o : Oper} {rs : List Nat} (ho : ops[i]? = some o) (hd : i ∉ ds)
    (h : ∀ K' : Act → World → Prop, Shut (∀ a w, S w → (S w → wpAnyLast P md ops Q S ds fuel (listed.setIfInBounds i true) a w) → K' a w) → if Region.wanted o (yielded ops a.tmps) = true then Oper.wp P o a w K' Q else K' (a.put o.dst undef) w)
    (hs : AllReadyL P md ops Q S ds fuel listed a w rs) : AllReadyL P md ops Q S ds fuel listed a w (i :: rs) := fun j hj => by
  rcases List.mem_cons.1 hj with rfl | hj
  · exact wpOp_step ho (fun K' hK => h K' (fun a w hS hW => hK a w ⟨fun _ _ => hS, hW hS⟩))
  · exact hs j hj
theorem wpAnyLast_ready {rs : List Nat} {fuel : Nat} {listed : Array Bool} {a : Act} {w : World} (hr : Region.ready md ops listed = rs) (hne : rs ≠ [])
    (h : AllReadyL P md ops Q S ds fuel listed a w rs) : wpAnyLast P md ops Q S ds (fuel + 1) listed a w := wpAnyLast_all hr hne h
/-- THE SAME STEPS WITH WHAT HAS COME UP WRITTEN OUT (a literal array of Bools) and one check a step: quicker, and what is printed stays short. -/
theorem start_ {id n : Nat} {a : Act} {w : World} (l : Array Bool) (hm : P.follows .mixedOrders = true) (hn : ops.size = n) (hl : Array.replicate n false = l) (hS : S w.drew)
    (h : S w.drew → wpAnyLast P .any ops Q S ds n l a w.drew) : (Code.region id ops true).wp P Q a w := by
  subst hn
  subst hl
  exact wp_region_last hm (h hS)
def anyB (md : Region.Mode) (ops : Array Oper) (l l' : Array Bool) (i : Nat) : Bool :=
  Region.noSelect ops && Region.free md ops l i && (Region.ready md ops l).contains i && (l.setIfInBounds i true == l')
/-- An operation that yields in every world (a move, a number, an address): taken first wherever it may come up, behind a store too. -/
theorem pure_ {i : Nat} {N : Option Tmp} {oi : Oper} {v : Value} {fuel : Nat} {l : Array Bool} {a : Act} {w : World} (l' : Array Bool) (hi : ops[i]? = some oi) (hN : oi.dst = N) (hc : anyB md ops l l' i = true)
    (hQ : ∀ c a w, Q (.panic c) (a.put oi.dst v) w → Q (.panic c) a w) (hy : Yields P ops oi v a) {a' : Act} (ha : a.put N v = a')
    (h : wpAnyLast P md ops Q S ds fuel l' a' w) : wpAnyLast P md ops Q S ds (fuel + 1) l a w := by
  subst ha
  subst hN
  simp only [anyB, Bool.and_eq_true, beq_iff_eq] at hc
  obtain ⟨⟨⟨h1, h2⟩, h3⟩, h6⟩ := hc
  subst h6
  exact wpAnyLast_any hi (Region.noSelect_spec h1) hQ fuel l a w (Region.free_spec hi h2) (by simpa using h3) hy h
def readyB (md : Region.Mode) (ops : Array Oper) (l l' : Array Bool) (i : Nat) : Bool := (Region.ready md ops l == [i]) && (l.setIfInBounds i true == l')
/-- One operation alone may come up now (a call, a build, an append ..): it is run, S is shown behind it. -/
theorem one_ {i : Nat} {N : Option Tmp} {oi : Oper} {fuel : Nat} {l : Array Bool} {a : Act} {w : World} (l' : Array Bool) (hi : ops[i]? = some oi) (hN : oi.dst = N) (hc : readyB md ops l l' i = true) (hd : i ∉ ds)
    (h : ∀ K : Act → World → Prop, Shut (∀ a' w', S w' → (S w' → wpAnyLast P md ops Q S ds fuel l' a' w') → K a' w') → if Region.wanted oi (yielded ops a.tmps) = true then Oper.wp P oi a w K Q else K (a.put N undef) w) :
    wpAnyLast P md ops Q S ds (fuel + 1) l a w := by
  subst hN
  simp only [readyB, Bool.and_eq_true, beq_iff_eq] at hc
  obtain ⟨h1, h2⟩ := hc
  subst h2
  exact wpAnyLast_ready h1 (by simp) (AllReadyL.cons hi hd (fun K hK => h K hK) AllReadyL.nil)
/-- The act with some destinations filled. -/
def putAll : Act → List (Tmp × Value) → Act
  | a, [] => a
  | a, (n, v) :: r => putAll (a.put (some n) v) r
/-- The act written out. -/
theorem norm_ {fuel : Nat} {l : Array Bool} {a a' : Act} {w : World} (ha : a = a') (h : wpAnyLast P md ops Q S ds fuel l a' w) : wpAnyLast P md ops Q S ds fuel l a w := by
  subst ha
  exact h
/-- A call of a Go function, by its contract. -/
theorem call_ {oi : Oper} {N : Option Tmp} {a : Act} {w : World} {K : Act → World → Prop} (f : FuncId) (args : Array Value) (hw : Region.wanted oi (yielded ops a.tmps) = true) (hN : oi.dst = N) (hrun : (execOp a.eval oi).run P w = .ok (.enter f args) w)
    (h : Calls P f args w fun e w' => ∃ v, e = .returned v ∧ K (a.put N v) w') : if Region.wanted oi (yielded ops a.tmps) = true then Oper.wp P oi a w K Q else K (a.put N undef) w := by
  rw [if_pos hw]
  subst hN
  unfold Oper.wp
  rw [hrun, Oper.upon_enter]
  refine h.mono fun e w'' hh => ?_
  obtain ⟨v, rfl, hk⟩ := hh
  exact hk
theorem enters_ {f : FuncId} {fn : Func} (hf : P.funcs[f]? = some fn) (hname : (fn.name == "runtime.NumGoroutine") = false) (hb : fn.body.isSome = true) (args : Array Value) (w : World) : (callFunc f args).run P w = .ok (.enter f args) w := by
  have h1 : fn.name ≠ "runtime.NumGoroutine" := by simpa using hname
  obtain ⟨c, hc⟩ := Option.isSome_iff_exists.1 hb
  simp [callFunc, hf, h1, hc]
/-- The same, the operation's run shown here: 'goes_ A.func3 (by kernel_rfl) rfl #[..] (by rfl) rfl rfl (by rfl) ?_'. -/
theorem goes_ {oi : Oper} {N : Option Tmp} {a : Act} {w : World} {K : Act → World → Prop} {f : FuncId} {fn : Func} {as_ : Array Operand} {ts : Array TypeId} (hf : P.funcs[f]? = some fn) (hname : (fn.name == "runtime.NumGoroutine") = false) (hb : fn.body.isSome = true) (args : Array Value)
    (hw : Region.wanted oi (yielded ops a.tmps) = true) (hN : oi.dst = N) (hop : oi.op = .call { callee := .value (.func f), args := as_, argTypes := ts }) (hargs : as_.map a.eval = args)
    (h : Calls P f args w fun e w' => ∃ v, e = .returned v ∧ K (a.put N v) w') : if Region.wanted oi (yielded ops a.tmps) = true then Oper.wp P oi a w K Q else K (a.put N undef) w := by
  refine call_ f args hw hN ?_ h
  have he := enters_ hf hname hb args w
  unfold execOp
  simp [hop, resolve, Deferred.ofValue, invoke, Act.eval, hargs, he]
/-- An operation that yields a value (and may make memory). -/
theorem value_ {oi : Oper} {N : Option Tmp} {a : Act} {w w1 : World} {v : Value} {K : Act → World → Prop} (hw : Region.wanted oi (yielded ops a.tmps) = true) (hN : oi.dst = N) (hrun : (execOp a.eval oi).run P w = .ok (.value v) w1)
    (h : K (a.put N v) w1) : if Region.wanted oi (yielded ops a.tmps) = true then Oper.wp P oi a w K Q else K (a.put N undef) w := by
  rw [if_pos hw]
  subst hN
  unfold Oper.wp
  rw [hrun]
  exact h
/-- A store. -/
theorem skip_ {oi : Oper} {a : Act} {w w1 : World} {K : Act → World → Prop} (hw : Region.wanted oi (yielded ops a.tmps) = true) (hN : oi.dst = none) (hrun : (execOp a.eval oi).run P w = .ok .skip w1)
    (h : K a w1) : if Region.wanted oi (yielded ops a.tmps) = true then Oper.wp P oi a w K Q else K (a.put none undef) w := by
  rw [if_pos hw]
  unfold Oper.wp
  rw [hrun]
  show K (a.put oi.dst undef) w1
  rw [hN]
  exact h
theorem i64_w (n : Int) : IntKind.i64.wrap n = Go.RowKit.wrap64 n := by unfold Go.RowKit.wrap64; exact IntKind.wrap_i64 n
end
end Go.Proofs.YtmpdimigpaogkaaW.PrintLast
end
section
-- PRINTED BY print.sh 35421559b90ae4d0a3588c463048766b98c2df88dd9212a6774a882060cdf62d: not written by this session

namespace Go.Proofs.YtmpdimigpaogkaaW.PrintWords
open Go.RowKit
namespace Kd
/-- An element with its index: its blocks are those that f gives to it. -/
def tag {α : Type} (f : Nat → Nat) (d : Kd α) : Kd (α × Nat) where
  sz := d.sz
  E := d.E
  K := fun w x cs => d.K w x.1 cs
  M := fun w base ok x cs => d.M w base (fun k => ok k ∧ f k = x.2) x.1 cs
  K_len := fun h => d.K_len h
  K_one := fun h => d.K_one h
  K_below := fun hb h => d.K_below hb h
  K_of_M := fun h => d.K_of_M h
  M_mono := fun hok h => d.M_mono (fun k hk => ⟨hok k hk.1, hk.2⟩) h
  M_bound := fun h => d.M_mono (fun _ hk => ⟨⟨hk.1.1, hk.2⟩, hk.1.2⟩) (d.M_bound h)
  M_move := fun hm h => d.M_move (fun k hk => hm k hk.1) h
  M_lower := fun hb h => d.M_lower hb h
/-- The cells themselves. -/
def raw (sz : Nat) : Kd (List Value) where
  sz := sz
  E := []
  K := fun _ x cs => cs = x ∧ cs.length = sz ∧ ∀ u ∈ cs, u.oneCell' = true
  M := fun _ _ _ x cs => cs = x ∧ cs.length = sz ∧ ∀ u ∈ cs, u.oneCell' = true
  K_len := fun h => h.2.1
  K_one := fun h => h.2.2
  K_below := fun _ h => h
  K_of_M := fun h => h
  M_mono := fun _ h => h
  M_bound := fun h => h
  M_move := fun _ h => h
  M_lower := fun _ h => h
/-- A row of elements (type e) of the call's own, no two of which lead to one block. -/
def S {α : Type} (d : Kd α) (e : Nat) (w : World) (base : Nat) (ok : Nat → Prop) (v : Value) (xs : List α) : Prop := ∃ f, (tag f d).R e w base ok v xs.zipIdx
section
variable {α β : Type} {d : Kd α} {d' : Kd β} {e e' : Nat} {w w1 W : World} {base b : Nat} {ok ok' okv oku : Nat → Prop} {u v : Value} {xs : List α} {ys : List β}
end
section
variable {α β : Type} {d : Kd α} {d' : Kd β} {e e' g : Nat} {w w1 W : World} {base b : Nat} {ok ok' okv oku : Nat → Prop} {u v : Value} {xs : List α} {ys : List β}
end
section
open Classical in
variable {P : Program} {ops : Array Oper} {rest : List Oper} {o : Oper} {a : Act} {Q : Exit → Act → World → Prop} {Kc : Act → World → Prop} {α : Type}
end
/-- Element i is these cells; the others are d's. -/
def gap {α : Type} (f : Nat → Nat) (d : Kd α) (i : Nat) (c : List Value) : Kd (α × Nat) where
  sz := d.sz
  E := d.E
  K := fun w x cs => (x.2 = i → cs = c ∧ cs.length = d.sz ∧ ∀ u ∈ cs, u.oneCell' = true) ∧ (x.2 ≠ i → d.K w x.1 cs)
  M := fun w base ok x cs => (x.2 = i → cs = c ∧ cs.length = d.sz ∧ ∀ u ∈ cs, u.oneCell' = true) ∧ (x.2 ≠ i → d.M w base (fun k => ok k ∧ f k = x.2) x.1 cs)
  K_len := fun {w x cs} h => by
    by_cases hx : x.2 = i
    · exact (h.1 hx).2.1
    · exact d.K_len (h.2 hx)
  K_one := fun {w x cs} h => by
    by_cases hx : x.2 = i
    · exact (h.1 hx).2.2
    · exact d.K_one (h.2 hx)
  K_below := fun hb h => ⟨h.1, fun hx => d.K_below hb (h.2 hx)⟩
  K_of_M := fun h => ⟨h.1, fun hx => d.K_of_M (h.2 hx)⟩
  M_mono := fun hok h => ⟨h.1, fun hx => d.M_mono (fun k hk => ⟨hok k hk.1, hk.2⟩) (h.2 hx)⟩
  M_bound := fun h => ⟨h.1, fun hx => d.M_mono (fun _ hk => ⟨⟨hk.1.1, hk.2⟩, hk.1.2⟩) (d.M_bound (h.2 hx))⟩
  M_move := fun hm h => ⟨h.1, fun hx => d.M_move (fun k hk => hm k hk.1) (h.2 hx)⟩
  M_lower := fun hb h => ⟨h.1, fun hx => d.M_lower hb (h.2 hx)⟩
def H {α : Type} (d : Kd α) (e : Nat) (w : World) (base : Nat) (ok : Nat → Prop) (v : Value) (xs : List α) (i : Int) (oki : Nat → Prop) (c : List Value) : Prop :=
  (∀ k, oki k → ok k) ∧ ∃ f, (gap f d i.toNat c).R e w base (fun k => ok k ∧ ¬ oki k) v xs.zipIdx
section
variable {α β : Type} {d : Kd α} {e e' g n cap : Nat} {w w1 W : World} {base : Nat} {ok ok' oki okp : Nat → Prop} {u v : Value} {xs : List α} {i : Int} {c : List Value}
open Classical in
end
section
variable {P : Program} {ops : Array Oper} {rest : List Oper} {o : Oper} {a : Act} {Q : Exit → Act → World → Prop} {α : Type}
end
end Kd
end Go.Proofs.YtmpdimigpaogkaaW.PrintWords
end
section
-- PRINTED BY print.sh 35421559b90ae4d0a3588c463048766b98c2df88dd9212a6774a882060cdf62d: not written by this session

namespace Go.Proofs.YtmpdimigpaogkaaW.PrintWords
open Go.RowKit
namespace Kd
/-- What a kind reads lies in the blocks: nothing else of the world is looked at. -/
structure Heap {α : Type} (d : Kd α) : Prop where
  K : ∀ {w w1 : World} {x : α} {cs : List Value}, (∀ k, k < w.heap.size → w1.heap[k]? = w.heap[k]?) → d.K w x cs → d.K w1 x cs
theorem cell_heap {w w1 : World} (hb : ∀ k, k < w.heap.size → w1.heap[k]? = w.heap[k]?) {a : Addr} {v : Value} (h : w.cell? a = some v) : w1.cell? a = some v := by
  have := hb a.block (World.block_lt_of_cell? w a h)
  simpa [World.cell?, this] using h
theorem Heap.C {α : Type} {d : Kd α} (hd : Heap d) {w w1 : World} {A : Option Addr} {n : Nat} {xs : List α} (hb : ∀ k, k < w.heap.size → w1.heap[k]? = w.heap[k]?) (h : d.C w A n xs) : d.C w1 A n xs :=
  ⟨h.1, h.2.1, fun hn => by
    obtain ⟨ad, e, hc⟩ := h.2.2 hn
    refine ⟨ad, e, fun j p hj => ?_⟩
    obtain ⟨c, hs, hr, hcell⟩ := hc j p hj
    exact ⟨c, hs, hd.K hb hr, fun i u hu => cell_heap hb (hcell i u hu)⟩⟩
section
variable {α : Type} {d : Kd α} {e base g n c : Nat} {ok : Nat → Prop} {w w0 W : World} {A : Option Addr} {xs : List α}
end
end Kd
end Go.Proofs.YtmpdimigpaogkaaW.PrintWords
end
section
-- PRINTED BY print.sh 35421559b90ae4d0a3588c463048766b98c2df88dd9212a6774a882060cdf62d: not written by this session

namespace Go.Proofs.YtmpdimigpaogkaaW.PrintWords
open Go.RowKit
def Kept (w W : World) (S : Nat → Prop) : Prop := w.heap.size ≤ W.heap.size ∧ ∀ i, i < w.heap.size → ¬ S i → W.heap[i]? = w.heap[i]?
section
variable {w W W2 : World} {S S2 S' : Nat → Prop}
theorem Kept.refl (w : World) (S : Nat → Prop) : Kept w w S := ⟨Nat.le_refl _, fun _ _ _ => rfl⟩
theorem Kept.of_below (h : Below w.heap.size w W) (S : Nat → Prop) : Kept w W S := ⟨h.size, fun i hi _ => h.block i hi⟩
theorem Kept.then_ (h : Kept w W S) (k : Kept W W2 S2) (hs : ∀ k, S2 k → S k ∨ w.heap.size ≤ k) : Kept w W2 S :=
  ⟨Nat.le_trans h.1 k.1, fun i hi hn => (k.2 i (Nat.lt_of_lt_of_le hi h.1) (fun h2 => (hs i h2).elim hn (fun h3 => by omega))).trans (h.2 i hi hn)⟩
theorem Kept.below (h : Kept w W S) (hb : Below W.heap.size W W2) : Kept w W2 S := h.then_ (Kept.of_below hb (fun _ => False)) (fun _ hk => hk.elim)
theorem Kept.alloc (h : Kept w W S) (o : Obj) : Kept w (W.alloc o) S := h.below (below_alloc (Below.refl _ _) o)
theorem Kept.drew (h : Kept w W S) : Kept w W.drew S := h
theorem Kept.drewN (h : Kept w W S) (m : Nat) : Kept w (W.drewN m) S := h
theorem Kept.setCell (h : Kept w W S) {p : Addr} (hp : S p.block ∨ w.heap.size ≤ p.block) (u : Value) : Kept w (W.setCell p u) S :=
  h.then_ (S2 := fun k => k = p.block) ⟨by simp [World.setCell], fun i _ hn => Below.heap_setCell W p u i hn⟩ (fun k hk => by rw [hk]; exact hp)
end
namespace Kd
section
variable {α : Type} {d : Kd α} {e base n c : Nat} {ok oki S S2 : Nat → Prop} {w w0 W W1 W2 : World} {v : Value} {A : Option Addr} {xs : List α} {i : Int} {cs : List Value}
end
end Kd
end Go.Proofs.YtmpdimigpaogkaaW.PrintWords
end
section
-- PRINTED BY print.sh 35421559b90ae4d0a3588c463048766b98c2df88dd9212a6774a882060cdf62d: not written by this session

namespace Go.Proofs.YtmpdimigpaogkaaW.PrintWords
open Go.RowKit
/-- P holds in W and in every world that has W's blocks of ok. -/
def Foot (P : World → Prop) (W : World) (ok : Nat → Prop) : Prop := ∀ W' : World, (∀ k, ok k → k < W.heap.size → W'.heap[k]? = W.heap[k]?) → P W'
theorem heap_lt {W W1 : World} {k : Nat} (h : W1.heap[k]? = W.heap[k]?) (hlt : k < W.heap.size) : k < W1.heap.size := by
  rw [Array.getElem?_eq_getElem hlt] at h
  exact (Array.getElem?_eq_some_iff.1 h).1
namespace Foot
variable {P Q : World → Prop} {W W1 : World} {ok ok' : Nat → Prop}
theorem bound (h : Foot P W ok) : Foot P W (fun k => ok k ∧ k < W.heap.size) := fun W' hW => h W' (fun k hk hlt => hW k ⟨hk, hlt⟩ hlt)
theorem step (h : Foot P W ok) (hm : ∀ k, ok k → k < W.heap.size → W1.heap[k]? = W.heap[k]?) : Foot P W1 ok := fun W' hW => h W' (fun k hk hlt => (hW k hk (heap_lt (hm k hk hlt) hlt)).trans (hm k hk hlt))
theorem imp (h : Foot P W ok) (hi : ∀ W', P W' → Q W') : Foot Q W ok := fun W' hW => hi W' (h W' hW)
/-- Moved, and still elder than what is new since W. -/
theorem old (h : Foot P W ok) (hb : Below W.heap.size W W1) : Foot P W1 (fun k => ok k ∧ k < W.heap.size) := (h.bound).step (fun k _ hlt => hb.block k hlt)
end Foot
namespace Kd
/-- A row that is only read: what it leads to lies in ok. -/
def F {α : Type} (d : Kd α) (W : World) (ok : Nat → Prop) (A : Option Addr) (n : Nat) (xs : List α) : Prop := Foot (fun W => d.C W A n xs) W ok
/-- An element's cells: what they lead to lies in ok. -/
def FK {α : Type} (d : Kd α) (W : World) (ok : Nat → Prop) (x : α) (c : List Value) : Prop := Foot (fun W => d.K W x c) W ok
section
variable {α β : Type} {d : Kd α} {e base n n' cc g N : Nat} {ok ok' okp S : Nat → Prop} {w w0 w1 W W1 : World} {A A' : Option Addr} {u v v1 : Value} {xs : List α} {xs' : List β} {d' : Kd β} {x : α} {c : List Value}
end
end Kd
end Go.Proofs.YtmpdimigpaogkaaW.PrintWords
end
section
-- PRINTED BY print.sh 35421559b90ae4d0a3588c463048766b98c2df88dd9212a6774a882060cdf62d: not written by this session

namespace Go.Proofs.YtmpdimigpaogkaaW.PrintWords
open Go.RowKit
namespace Kd
section
variable {α : Type} {d : Kd α} {e base n cc g : Nat} {ok ok' okp S : Nat → Prop} {w w1 W W1 : World} {A : Option Addr} {u v v1 : Value} {xs : List α} {x : α} {c : List Value}
/-- A row of elements (type e) of the call's own; what the elements lead to is only read, and is not this row. -/
def N {α : Type} (d : Kd α) (e : Nat) (w : World) (base : Nat) (ok : Nat → Prop) (v : Value) (xs : List α) : Prop :=
  (∀ k, v.ownBlock = some k → ok k) ∧ ∃ rows : List (List Value), rows.length = xs.length ∧ (raw d.sz).R e w base (fun k => some k = v.ownBlock) v rows ∧ ∀ (j : Nat) (x : α) (c : List Value), xs[j]? = some x → rows[j]? = some c → FK d w (fun k => ok k ∧ some k ≠ v.ownBlock) x c
end
end Kd
end Go.Proofs.YtmpdimigpaogkaaW.PrintWords
end
section
-- PRINTED BY print.sh 35421559b90ae4d0a3588c463048766b98c2df88dd9212a6774a882060cdf62d: not written by this session
-- PRINTED WORDS (module Derived/Print/More.lean): go-gate-2's additions: an AI agent of Go's test side, Tue Nov 17 2026; no person has read it. Lean checks it.

namespace Go.Proofs.YtmpdimigpaogkaaW.PrintMore
open Go.RowKit Go.Proofs.YtmpdimigpaogkaaW.PrintWords
namespace Kd
open Go.Proofs.YtmpdimigpaogkaaW.PrintWords.Kd
end Kd

namespace Kd
open Go.Proofs.YtmpdimigpaogkaaW.PrintWords.Kd
section
variable {α : Type} {d : Kd α} {e base g N : Nat} {ok : Nat → Prop} {W w1 : World} {u v : Value} {xs : List α}
end
end Kd
end Go.Proofs.YtmpdimigpaogkaaW.PrintMore
namespace Go.Proofs.YtmpdimigpaogkaaW.PrintWords
open Go.RowKit
section
variable {P : Program} {ops : Array Oper} {rest : List Oper} {o : Oper} {a : Act} {Q : Exit → Act → World → Prop} {W : World}
/-- The operation is a builtin over these places. -/
theorem gate_builtin {b : Builtin} {xs : Array Operand} {ts : Array TypeId} (_ho : o.op = .call { callee := .builtin b, args := xs, argTypes := ts }) (h : wpList P ops Q (o :: rest) a W) : wpList P ops Q (o :: rest) a W := h
end
/-- The greater of two whole numbers, as_ Go's max tells it. -/
def mx (a b : Int) : Int := if a < b then b else a
/-- The smaller of two whole numbers, as_ Go's min tells it. -/
def mn (a b : Int) : Int := if b < a then b else a
/-- A shift to the left, as_ Go tells it: a count beyond the width leaves nothing. -/
def shl (k : IntKind) (x y : Int) : Int := k.wrap (x * 2 ^ min y.toNat k.bits)
namespace Kd
section
variable {α : Type} {d : Kd α} {e base : Nat} {ok : Nat → Prop} {W w1 : World} {v : Value} {xs : List α}
end
section
variable {α : Type} {d : Kd α} {e base g n cap : Nat} {ok oki okp : Nat → Prop} {W : World} {xs : List α} {i : Int} {c : List Value}
end
section
variable {α : Type} {d : Kd α} {e base b b' g N : Nat} {ok ok1 : Nat → Prop} {W W2 w1 : World} {u v : Value} {xs ys : List α} {S : Nat → Prop}
end
end Kd
end Go.Proofs.YtmpdimigpaogkaaW.PrintWords
namespace Go.Proofs.YtmpdimigpaogkaaW.PrintWords
open Go.RowKit
namespace Kd
/-- A row that is only read, told by its value: its form, its length, what it leads to (in ok). e and base say nothing; they make it as_ the others are. -/
def V {α : Type} (d : Kd α) (_e : Nat) (W : World) (_base : Nat) (ok : Nat → Prop) (v : Value) (xs : List α) : Prop := ∃ A c, v = .slice A xs.length c ∧ xs.length ≤ c ∧ F d W ok A xs.length xs
section
variable {α β : Type} {d : Kd α} {e base base' n m c g N' lo hi : Nat} {ok ok' S : Nat → Prop} {w W w1 : World} {A : Option Addr} {ad : Addr} {u v v1 : Value} {xs : List α}
end
end Kd
end Go.Proofs.YtmpdimigpaogkaaW.PrintWords
end
section
-- PRINTED BY print.sh 35421559b90ae4d0a3588c463048766b98c2df88dd9212a6774a882060cdf62d: not written by this session

namespace Go.Proofs.YtmpdimigpaogkaaW.PrintLast
open Go.Proofs.YtmpdimigpaogkaaW.PrintWords (Aside0)
def needsOf (md : Region.Mode) (o : Oper) : List Nat := (o.after.toList.filter (fun e => Region.binds md e)).map (fun e => e.on)
def clashOf (md : Region.Mode) (ops : Array Oper) (i : Nat) (oi : Oper) : List Nat := (List.range ops.size).filter fun j => !(j == i) && match ops[j]? with
  | some oj => !(oj.after.any (fun e => Region.binds md e && e.on == i) || oi.apart ops oj)
  | none => false
/-- No select in it; for each operation: what must have come up before it, and what may not come up behind it if it is taken first. -/
def rtab (md : Region.Mode) (ops : Array Oper) : Bool × List (List Nat × List Nat) := (Region.noSelect ops, (List.range ops.size).map fun i => match ops[i]? with
  | some o => (needsOf md o, clashOf md ops i o)
  | none => ([], []))
def readyAt (T : List (List Nat × List Nat)) (l : List Bool) (i : Nat) : Bool := !l.getD i true && match T[i]? with
  | some r => r.1.all (fun j => l.getD j false)
  | none => false
def readyT (T : List (List Nat × List Nat)) (l : List Bool) : List Nat := (List.range T.length).filter (readyAt T l)
def freeT (T : List (List Nat × List Nat)) (l : List Bool) (i : Nat) : Bool := match T[i]? with
  | some r => r.2.all (fun j => l.getD j true)
  | none => false
section
variable {md : Region.Mode} {ops : Array Oper} {T : Bool × List (List Nat × List Nat)} {l l' li lj lk : Array Bool} {ds : List Nat} {i j k : Nat}
theorem gd (l : Array Bool) (j : Nat) (b : Bool) : l.getD j b = l.toList.getD j b := by simp [Array.getD_eq_getD_getElem?, List.getD_eq_getElem?_getD]
theorem needs_all (o : Oper) (p : Nat → Bool) : o.after.all (fun e => !Region.binds md e || p e.on) = (needsOf md o).all p := by
  unfold needsOf
  rw [← Array.all_toList]
  induction o.after.toList with
  | nil => rfl
  | cons e r ih =>
    rw [List.all_cons, ih, List.filter_cons]
    cases h : Region.binds md e <;> simp
theorem rtab_length : (rtab md ops).2.length = ops.size := by simp [rtab]
theorem rtab_some {o : Oper} (h : ops[i]? = some o) : (rtab md ops).2[i]? = some (needsOf md o, clashOf md ops i o) := by
  have hi := (Array.getElem?_eq_some_iff.1 h).1
  unfold rtab
  rw [List.getElem?_map, List.getElem?_range hi, Option.map_some, h]
theorem rtab_none (h : ops[i]? = none) : (rtab md ops).2[i]? = none := by
  have hi : ops.size ≤ i := Array.getElem?_eq_none_iff.1 h
  exact List.getElem?_eq_none (by rw [rtab_length]; exact hi)
theorem readyAt_eq : readyAt (rtab md ops).2 l.toList i = (!l.getD i true && ((ops[i]?).map (·.after.all fun e => !Region.binds md e || l.getD e.on false)).getD false) := by
  unfold readyAt
  rw [gd]
  cases h : ops[i]? with
  | none => rw [rtab_none h]; rfl
  | some o =>
    rw [rtab_some h]
    simp only [Option.map_some, Option.getD_some]
    rw [← needs_all]
    simp only [gd]
theorem ready_eq : Region.ready md ops l = readyT (rtab md ops).2 l.toList := by
  unfold Region.ready readyT
  rw [rtab_length]
  refine List.filter_congr (fun i _ => ?_)
  rw [readyAt_eq]
theorem free_eq : Region.free md ops l i = freeT (rtab md ops).2 l.toList i := by
  unfold Region.free freeT
  cases h : ops[i]? with
  | none => rw [rtab_none h]
  | some oi =>
    rw [rtab_some h]
    simp only [clashOf]
    rw [List.all_filter]
    congr 1
    funext j
    rw [gd]
    cases hj : ops[j]? with
    | none => cases (j == i) <;> cases (l.toList.getD j true) <;> simp
    | some oj =>
      cases (j == i) <;> cases (l.toList.getD j true) <;> cases (oj.after.any (fun e => Region.binds md e && e.on == i) || oi.apart ops oj) <;> simp_all
theorem readyAt_mem (h : readyAt T.2 l.toList i = true) (hT : rtab md ops = T) : (Region.ready md ops l).contains i = true := by
  subst hT
  rw [ready_eq]
  unfold readyT
  rw [List.contains_iff_mem, List.mem_filter, List.mem_range]
  refine ⟨?_, h⟩
  unfold readyAt at h
  rw [Bool.and_eq_true] at h
  cases hq : (rtab md ops).2[i]? with
  | none => rw [hq] at h; simp at h
  | some r => exact (List.getElem?_eq_some_iff.1 hq).1
theorem set_of (h : (l.toList.set i true == l'.toList) = true) : (l.setIfInBounds i true == l') = true := by
  rw [beq_iff_eq] at h ⊢
  apply Array.ext'
  rw [Array.toList_setIfInBounds]
  exact h
def anyT (T : Bool × List (List Nat × List Nat)) (l l' : List Bool) (i : Nat) : Bool := T.1 && freeT T.2 l i && readyAt T.2 l i && (l.set i true == l')
/-- pure_'s condition out of the table. -/
theorem any_of (hT : rtab md ops = T) (h : anyT T l.toList l'.toList i = true) : anyB md ops l l' i = true := by
  simp only [anyT, Bool.and_eq_true] at h
  obtain ⟨⟨⟨h1, h2⟩, h3⟩, h4⟩ := h
  have h5 := readyAt_mem h3 hT
  have h6 := set_of h4
  subst hT
  simp only [anyB, Bool.and_eq_true]
  exact ⟨⟨⟨h1, by rw [free_eq]; exact h2⟩, h5⟩, h6⟩
/-- one_'s and last_'s. -/
theorem one_of (hT : rtab md ops = T) (h : (readyT T.2 l.toList == [i] && l.toList.set i true == l'.toList) = true) : readyB md ops l l' i = true := by
  simp only [Bool.and_eq_true] at h
  obtain ⟨h1, h2⟩ := h
  subst hT
  simp only [readyB, Bool.and_eq_true]
  exact ⟨by rw [ready_eq]; exact h1, set_of h2⟩
/-- What d waits for, as_ bits: told in the table (B), checked in one pass: each bit is a need of d, or a bit of an earlier need's. -/
def upM (B : List Nat) (d : Nat) : List Nat → Nat
  | [] => 0
  | n :: r => (2 ^ n ||| (if n < d then B.getD n 0 else 0)) ||| upM B d r
def waitsOk (T : List (List Nat × List Nat)) (B : List Nat) : Bool := (List.range T.length).all fun d => match T[d]? with
  | some r => (B.getD d 0 ||| upM B d r.1) == upM B d r.1
  | none => false
theorem upM_bit {B : List Nat} {d i : Nat} : ∀ {ns : List Nat}, (upM B d ns).testBit i = true → ∃ n ∈ ns, n = i ∨ (n < d ∧ (B.getD n 0).testBit i = true)
  | [], h => by simp [upM] at h
  | n :: r, h => by
    unfold upM at h
    rw [Nat.testBit_or, Nat.testBit_or, Bool.or_eq_true, Bool.or_eq_true] at h
    rcases h with (h | h) | h
    · rw [Nat.testBit_two_pow] at h
      exact ⟨n, List.mem_cons_self, .inl (by simpa using h)⟩
    · by_cases hn : n < d
      · rw [if_pos hn] at h
        exact ⟨n, List.mem_cons_self, .inr ⟨hn, h⟩⟩
      · rw [if_neg hn] at h
        simp at h
    · obtain ⟨m, hm, h2⟩ := upM_bit h
      exact ⟨m, List.mem_cons_of_mem _ hm, h2⟩
theorem with_tabW {P : Program} {Q : Exit → Act → World → Prop} {S : World → Prop} {n : Nat} {a : Act} {w : World} {B : List Nat} (hT : rtab md ops = T) (hB : waitsOk T.2 B = true) (h : Aside0 (rtab md ops = T) → Aside0 (waitsOk T.2 B = true) → wpAnyLast P md ops Q S ds n l a w) : wpAnyLast P md ops Q S ds n l a w := h ⟨hT⟩ ⟨hB⟩
end
/-- The operations of a region, by its number. -/
def opsIn : Code → Nat → Option (Array Oper)
  | .region id ops _, k => if id == k then some ops else none
  | .seq a b, k => match opsIn a k with
    | some o => some o
    | none => opsIn b k
  | .cond _ a b, k => match opsIn a k with
    | some o => some o
    | none => opsIn b k
  | .block _ c, k => opsIn c k
  | .loop c, k => opsIn c k
  | .scope c, k => opsIn c k
  | .rangeFunc _ _ a b, k => match opsIn a k with
    | some o => some o
    | none => opsIn b k
  | _, _ => none
def opsOf (f : Func) (k : Nat) : Array Oper := ((f.body.bind fun c => opsIn c k)).getD #[]
end Go.Proofs.YtmpdimigpaogkaaW.PrintLast
end
section
-- PRINTED BY print.sh 35421559b90ae4d0a3588c463048766b98c2df88dd9212a6774a882060cdf62d: not written by this session

namespace Go.Proofs.YtmpdimigpaogkaaW.PrintLast
/-- Number i is listed too. -/
def up (b : Nat → Bool) (i : Nat) : Nat → Bool := fun j => if j = i then true else b j
theorem up_self (b : Nat → Bool) (i : Nat) : up b i i = true := by simp [up]
theorem up_ne {b : Nat → Bool} {i j : Nat} (h : j ≠ i) : up b i j = b j := by simp [up, h]
/-- What is listed: O's operations by b, all else already. -/
def lof (n : Nat) (O : List Nat) (b : Nat → Bool) : List Bool := (List.range n).map fun j => if O.contains j then b j else true
/-- The destinations of what is listed are filled. -/
def putSel (a : Act) (b : Nat → Bool) : List (Nat × Tmp × Value) → Act
  | [] => a
  | e :: r => putSel (if b e.1 = true then a.put (some e.2.1) e.2.2 else a) b r
section
variable {P : Program} {ops : Array Oper} {Q : Exit → Act → World → Prop} {md : Region.Mode} {T : Bool × List (List Nat × List Nat)} {B : List Nat} {O : List Nat} {b : Nat → Bool} {i j n : Nat}
theorem lof_length : (lof n O b).length = n := by simp [lof]
theorem lof_get {d : Bool} (hj : j < n) : (lof n O b).getD j d = if O.contains j then b j else true := by
  simp [lof, List.getD_eq_getElem?_getD, hj]
theorem lof_up (hi : O.contains i = true) : (lof n O b).set i true = lof n O (up b i) := by
  apply List.ext_getElem?
  intro j
  by_cases hj : j < n
  · by_cases hij : i = j
    · subst hij
      have hl : i < (lof n O b).length := by rw [lof_length]; exact hj
      rw [List.getElem?_set_self hl]
      simp only [lof, List.getElem?_map, List.getElem?_range hj, Option.map_some, hi, if_true, up_self]
    · rw [List.getElem?_set_ne hij]
      simp only [lof, List.getElem?_map, List.getElem?_range hj, Option.map_some]
      rw [up_ne (Ne.symm hij)]
  · rw [List.getElem?_eq_none (by simp [lof]; omega), List.getElem?_eq_none (by simp [lof]; omega)]
/-- The step of operation i: out of the relation, it not being listed, all it waits for being so, and nothing that waits for it. -/
def StepAt (P : Program) (ops : Array Oper) (Q : Exit → Act → World → Prop) (B : List Nat) (O : List Nat) (I : (Nat → Bool) → Act → World → Prop) (i : Nat) : Prop :=
  ∀ b a w, I b a w → b i = false → (∀ j, (O.contains j && (B.getD i 0).testBit j) = true → b j = true) → (∀ d, (O.contains d && (B.getD d 0).testBit i) = true → b d = false) →
    ∃ oi, ops[i]? = some oi ∧ ∀ K : Act → World → Prop, Shut (∀ a' w', I (up b i) a' w' → K a' w') → if Region.wanted oi (yielded ops a.tmps) = true then Oper.wp P oi a w K Q else K (a.put oi.dst undef) w
theorem steps_nil {I : (Nat → Bool) → Act → World → Prop} : ∀ i ∈ ([] : List Nat), StepAt P ops Q B O I i := fun _ h => by cases h
theorem steps_cons {I : (Nat → Bool) → Act → World → Prop} {rs : List Nat} (h : StepAt P ops Q B O I i) (hs : ∀ j ∈ rs, StepAt P ops Q B O I j) : ∀ j ∈ i :: rs, StepAt P ops Q B O I j := fun j hj => by
  rcases List.mem_cons.1 hj with rfl | hj
  · exact h
  · exact hs j hj
/-- Every edge goes to an earlier operation; what is listed already waits for nothing of O; O's numbers are the region's, each once. -/
def baseOk (T : List (List Nat × List Nat)) (O : List Nat) : Bool :=
  (List.range T.length).all (fun d => match T[d]? with
    | some r => (O.contains d || r.1.all fun n => !O.contains n) && r.1.all fun n => decide (n < d)
    | none => false) && O.all (fun i => decide (i < T.length)) && decide O.Nodup
theorem baseOk_row {T : List (List Nat × List Nat)} (h : baseOk T O = true) {d : Nat} {r : List Nat × List Nat} (hr : T[d]? = some r) : (O.contains d = false → ∀ n ∈ r.1, O.contains n = false) ∧ ∀ n ∈ r.1, n < d := by
  simp only [baseOk, Bool.and_eq_true] at h
  have h1 := List.all_eq_true.1 h.1.1 d (List.mem_range.2 (List.getElem?_eq_some_iff.1 hr).1)
  rw [hr] at h1
  simp only [Bool.and_eq_true, Bool.or_eq_true, List.all_eq_true, decide_eq_true_eq] at h1
  refine ⟨fun hd n hn => ?_, h1.2⟩
  rcases h1.1 with h2 | h2
  · rw [hd] at h2; cases h2
  · simpa using h2 n hn
theorem baseOk_lt {T : List (List Nat × List Nat)} (h : baseOk T O = true) {i : Nat} (hi : i ∈ O) : i < T.length := by
  simp only [baseOk, Bool.and_eq_true] at h
  simpa using List.all_eq_true.1 h.1.2 i hi
theorem baseOk_nodup {T : List (List Nat × List Nat)} (h : baseOk T O = true) : O.Nodup := by
  simp only [baseOk, Bool.and_eq_true] at h
  exact of_decide_eq_true h.2
def Closed (T : List (List Nat × List Nat)) (O : List Nat) (b : Nat → Bool) : Prop := ∀ d r, T[d]? = some r → O.contains d = true → b d = true → ∀ n ∈ r.1, O.contains n = true → b n = true
/-- What waits for nothing of O has none of it in its bits. -/
theorem bits_out {T : List (List Nat × List Nat)} (hw : waitsOk T B = true) (hk : baseOk T O = true) : ∀ (m d : Nat), d ≤ m → d < T.length → O.contains d = false → ∀ j, (B.getD d 0).testBit j = true → O.contains j = false := by
  intro m
  induction m with
  | zero =>
    intro d hd hl hO j hj
    have hd0 : d = 0 := by omega
    subst hd0
    have hr : T[0]? = some T[0] := List.getElem?_eq_getElem hl
    have h1 := List.all_eq_true.1 hw 0 (List.mem_range.2 hl)
    rw [hr] at h1
    simp only [beq_iff_eq] at h1
    have h2 : (upM B 0 T[0].1).testBit j = true := by rw [← h1, Nat.testBit_or, hj, Bool.true_or]
    obtain ⟨n, hn, h3⟩ := upM_bit h2
    have := (baseOk_row hk hr).2 n hn
    omega
  | succ m ih =>
    intro d hd hl hO j hj
    have hr : T[d]? = some T[d] := List.getElem?_eq_getElem hl
    have h1 := List.all_eq_true.1 hw d (List.mem_range.2 hl)
    rw [hr] at h1
    simp only [beq_iff_eq] at h1
    have h2 : (upM B d T[d].1).testBit j = true := by rw [← h1, Nat.testBit_or, hj, Bool.true_or]
    obtain ⟨n, hn, h3⟩ := upM_bit h2
    have hO2 := (baseOk_row hk hr).1 hO n hn
    rcases h3 with rfl | ⟨h4, h5⟩
    · exact hO2
    · exact ih n (by omega) (by omega) hO2 j h5
theorem closed_bits {T : List (List Nat × List Nat)} (hw : waitsOk T B = true) (hk : baseOk T O = true) (hc : Closed T O b) : ∀ (m d : Nat), d ≤ m → d < T.length → O.contains d = true → b d = true → ∀ j, O.contains j = true → (B.getD d 0).testBit j = true → b j = true := by
  intro m
  induction m with
  | zero =>
    intro d hd hl hO hb j hjO hj
    have hd0 : d = 0 := by omega
    subst hd0
    have hr : T[0]? = some T[0] := List.getElem?_eq_getElem hl
    have h1 := List.all_eq_true.1 hw 0 (List.mem_range.2 hl)
    rw [hr] at h1
    simp only [beq_iff_eq] at h1
    have h2 : (upM B 0 T[0].1).testBit j = true := by rw [← h1, Nat.testBit_or, hj, Bool.true_or]
    obtain ⟨n, hn, h3⟩ := upM_bit h2
    have := (baseOk_row hk hr).2 n hn
    omega
  | succ m ih =>
    intro d hd hl hO hb j hjO hj
    have hr : T[d]? = some T[d] := List.getElem?_eq_getElem hl
    have h1 := List.all_eq_true.1 hw d (List.mem_range.2 hl)
    rw [hr] at h1
    simp only [beq_iff_eq] at h1
    have h2 : (upM B d T[d].1).testBit j = true := by rw [← h1, Nat.testBit_or, hj, Bool.true_or]
    obtain ⟨n, hn, h3⟩ := upM_bit h2
    rcases h3 with rfl | ⟨h4, h5⟩
    · exact hc d _ hr hO hb n hn hjO
    · cases hO2 : O.contains n with
      | true => exact ih n (by omega) (by omega) hO2 (hc d _ hr hO hb n hn hO2) j hjO h5
      | false =>
        have := bits_out hw hk n n (Nat.le_refl _) (by omega) hO2 j h5
        rw [hjO] at this
        cases this
theorem up_count : ∀ {O : List Nat}, O.Nodup → i ∈ O → b i = false → (O.filter fun j => !up b i j).length + 1 = (O.filter fun j => !b j).length
  | [], _, hi, _ => by cases hi
  | x :: r, hn, hi, hb => by
    rw [List.nodup_cons] at hn
    rcases List.mem_cons.1 hi with rfl | hi
    · have h1 : (r.filter fun j => !up b i j) = r.filter fun j => !b j := by
        refine List.filter_congr (fun j hj => ?_)
        rw [up_ne (fun e => hn.1 (by rw [← e]; exact hj))]
      rw [List.filter_cons, List.filter_cons]
      simp [up_self, hb, h1]
    · have hxi : x ≠ i := fun e => hn.1 (e ▸ hi)
      have h1 := up_count hn.2 hi hb
      rw [List.filter_cons, List.filter_cons, up_ne hxi]
      cases hbx : b x
      · simp only [Bool.not_false, if_true, List.length_cons]
        omega
      · simpa using h1
theorem inv_all (hT : rtab md ops = T) (hw : waitsOk T.2 B = true) (hk : baseOk T.2 O = true) (I : (Nat → Bool) → Act → World → Prop) (hs : ∀ i ∈ O, StepAt P ops Q B O I i)
    (hend : ∀ b a w, (∀ j, O.contains j = true → b j = true) → I b a w → Q .normal a w) :
    ∀ (m : Nat) (b : Nat → Bool) (a : Act) (w : World), (O.filter fun j => !b j).length = m → Closed T.2 O b → I b a w → wpAnyLast P md ops Q (fun _ => True) [] m (lof T.2.length O b).toArray a w := by
  subst hT
  have mem_ready' : ∀ {b : Nat → Bool} {i : Nat}, i ∈ Region.ready md ops (lof (rtab md ops).2.length O b).toArray → i < (rtab md ops).2.length ∧ O.contains i = true ∧ b i = false ∧ ∀ r, (rtab md ops).2[i]? = some r → ∀ n ∈ r.1, n < (rtab md ops).2.length → O.contains n = true → b n = true := by
    intro b i hi
    rw [ready_eq] at hi
    unfold readyT at hi
    rw [List.mem_filter, List.mem_range] at hi
    obtain ⟨hl, h1⟩ := hi
    unfold readyAt at h1
    rw [Bool.and_eq_true, lof_get hl] at h1
    obtain ⟨h2, h3⟩ := h1
    have h4 : O.contains i = true := by
      cases h : O.contains i with
      | true => rfl
      | false => rw [h] at h2; simp at h2
    rw [h4] at h2
    refine ⟨hl, h4, by simpa using h2, fun r hr n hn hnl hO => ?_⟩
    rw [hr] at h3
    simp only [List.all_eq_true] at h3
    have h5 := h3 n hn
    rw [lof_get hnl, hO] at h5
    simpa using h5
  intro m
  induction m with
  | zero =>
    intro b a w hm hc hI
    have hall : ∀ j, O.contains j = true → b j = true := by
      intro j hj
      cases hb : b j with
      | true => rfl
      | false =>
        have : j ∈ O.filter fun j => !b j := List.mem_filter.2 ⟨List.contains_iff_mem.1 hj, by simp [hb]⟩
        rw [List.eq_nil_of_length_eq_zero hm] at this
        cases this
    refine ⟨?_, hend b a w hall hI⟩
    refine List.eq_nil_iff_forall_not_mem.2 (fun i hi => ?_)
    obtain ⟨_, h1, h2, _⟩ := mem_ready' hi
    rw [hall i h1] at h2
    cases h2
  | succ m ih =>
    intro b a w hm hc hI
    refine ⟨fun hr => ?_, fun i hi => ?_⟩
    · exfalso
      -- the smallest number that isn't listed is ready
      have hex : ∃ i, O.contains i = true ∧ b i = false := by
        cases hf : O.filter (fun j => !b j) with
        | nil => rw [hf] at hm; simp at hm
        | cons x r =>
          have hx : x ∈ O.filter (fun j => !b j) := by rw [hf]; exact List.mem_cons_self
          rw [List.mem_filter] at hx
          exact ⟨x, List.contains_iff_mem.2 hx.1, by simpa using hx.2⟩
      have hmin : ∀ k, (∃ i, i ≤ k ∧ O.contains i = true ∧ b i = false) → ∃ i, O.contains i = true ∧ b i = false ∧ ∀ j, j < i → O.contains j = true → b j = true := by
        intro k
        induction k with
        | zero =>
          rintro ⟨i, hi, h1, h2⟩
          exact ⟨i, h1, h2, fun j hj => by omega⟩
        | succ k ihk =>
          rintro ⟨i, hi, h1, h2⟩
          by_cases hlow : ∃ j, j ≤ k ∧ O.contains j = true ∧ b j = false
          · exact ihk hlow
          · refine ⟨i, h1, h2, fun j hj hO => ?_⟩
            cases hb : b j with
            | true => rfl
            | false => exact absurd ⟨j, by omega, hO, hb⟩ hlow
      obtain ⟨i0, h1, h2⟩ := hex
      obtain ⟨i, hO, hb, hlow⟩ := hmin i0 ⟨i0, Nat.le_refl _, h1, h2⟩
      have hl := baseOk_lt hk (List.contains_iff_mem.1 hO)
      have hin : i ∈ Region.ready md ops (lof (rtab md ops).2.length O b).toArray := by
        rw [ready_eq]
        unfold readyT
        rw [List.mem_filter, List.mem_range]
        refine ⟨hl, ?_⟩
        unfold readyAt
        rw [lof_get hl, hO, hb]
        have hr2 : (rtab md ops).2[i]? = some (rtab md ops).2[i] := List.getElem?_eq_getElem hl
        rw [hr2]
        simp only [if_true, Bool.not_false, Bool.true_and, List.all_eq_true]
        intro n hn
        have hni := (baseOk_row hk hr2).2 n hn
        rw [lof_get (by omega)]
        cases hOn : O.contains n with
        | true => simpa using hlow n hni hOn
        | false => simp
      rw [hr] at hin
      cases hin
    · obtain ⟨hl, hO, hb, hneed⟩ := mem_ready' hi
      have hon : ∀ j, (O.contains j && (B.getD i 0).testBit j) = true → b j = true := by
        intro j hj
        rw [Bool.and_eq_true] at hj
        have hr2 : (rtab md ops).2[i]? = some (rtab md ops).2[i] := List.getElem?_eq_getElem hl
        have h1 := List.all_eq_true.1 hw i (List.mem_range.2 hl)
        rw [hr2] at h1
        simp only [beq_iff_eq] at h1
        have h2 : (upM B i (rtab md ops).2[i].1).testBit j = true := by rw [← h1, Nat.testBit_or, hj.2, Bool.true_or]
        obtain ⟨n, hn, h3⟩ := upM_bit h2
        have hni := (baseOk_row hk hr2).2 n hn
        rcases h3 with rfl | ⟨h4, h5⟩
        · exact hneed _ hr2 n hn (by omega) hj.1
        · cases hO2 : O.contains n with
          | true => exact closed_bits hw hk hc n n (Nat.le_refl _) (by omega) hO2 (hneed _ hr2 n hn (by omega) hO2) j hj.1 h5
          | false =>
            have := bits_out hw hk n n (Nat.le_refl _) (by omega) hO2 j h5
            rw [hj.1] at this
            cases this
      have hoff : ∀ d, (O.contains d && (B.getD d 0).testBit i) = true → b d = false := by
        intro d hd
        rw [Bool.and_eq_true] at hd
        cases hbd : b d with
        | false => rfl
        | true =>
          have hdl := baseOk_lt hk (List.contains_iff_mem.1 hd.1)
          have := closed_bits hw hk hc d d (Nat.le_refl _) hdl hd.1 hbd i hO hd.2
          rw [hb] at this
          cases this
      obtain ⟨oi, hoi, hK⟩ := hs i (List.contains_iff_mem.1 hO) b a w hI hb hon hoff
      refine wpOp_step hoi (fun K' hK' => hK K' (fun a' w' hI' => hK' a' w' ⟨fun _ _ => trivial, ?_⟩))
      have hset : (lof (rtab md ops).2.length O b).toArray.setIfInBounds i true = (lof (rtab md ops).2.length O (up b i)).toArray := by
        apply Array.ext'
        rw [Array.toList_setIfInBounds]
        exact lof_up hO
      rw [hset]
      refine ih (up b i) a' w' ?_ ?_ hI'
      · have := up_count (baseOk_nodup hk) (List.contains_iff_mem.1 hO) hb
        omega
      · intro d r hr hOd hbd n hn hOn
        by_cases hni : n = i
        · rw [hni, up_self]
        · rw [up_ne hni]
          by_cases hdi : d = i
          · subst hdi
            exact hneed r hr n hn (by have := (baseOk_row hk hr).2 n hn; omega) hOn
          · rw [up_ne hdi] at hbd
            exact hc d r hr hOd hbd n hn hOn
/-- A slot that no operation of the list fills. -/
theorem putSel_off {b : Nat → Bool} {t : Tmp} : ∀ {L : List (Nat × Tmp × Value)} {a : Act}, (L.all fun e => !(e.2.1 == t)) = true → (putSel a b L).tmps[t]? = a.tmps[t]?
  | [], _, _ => rfl
  | e :: r, a, h => by
    rw [List.all_cons, Bool.and_eq_true] at h
    have he : e.2.1 ≠ t := by simpa using h.1
    unfold putSel
    by_cases hb : b e.1 = true
    · rw [if_pos hb, putSel_off h.2]
      simp [Act.put, Array.getElem?_setIfInBounds_ne he]
    · rw [if_neg hb]
      exact putSel_off h.2
/-- A slot of a listed operation: k is its place in the list. -/
theorem putSel_on {b : Nat → Bool} {e : Nat × Tmp × Value} : ∀ {L : List (Nat × Tmp × Value)} {a : Act} (k : Nat), L[k]? = some e → ((L.drop (k + 1)).all fun x => !(x.2.1 == e.2.1)) = true → b e.1 = true → Nat.ble (e.2.1 + 1) a.tmps.size = true → (putSel a b L).tmps[e.2.1]? = some e.2.2
  | [], _, _, h, _, _, _ => by cases h
  | x :: r, a, 0, h, hd, hb, ht => by
    simp only [List.getElem?_cons_zero, Option.some.injEq] at h
    subst h
    unfold putSel
    rw [if_pos hb, putSel_off (by simpa using hd)]
    have ht2 : x.2.1 < a.tmps.size := Nat.le_of_ble_eq_true ht
    simp [Act.put, ht2]
  | x :: r, a, k + 1, h, hd, hb, ht => by
    unfold putSel
    refine putSel_on k (by simpa using h) (by simpa using hd) hb ?_
    by_cases hx : b x.1 = true
    · rw [if_pos hx]
      simpa [Act.put] using ht
    · rw [if_neg hx]
      exact ht
theorem put_comm {a : Act} {s t : Tmp} {u v : Value} (h : s ≠ t) : (a.put (some s) u).put (some t) v = (a.put (some t) v).put (some s) u := by
  simp only [Act.put]
  rw [Array.setIfInBounds_comm _ _ h]
theorem putSel_put {b : Nat → Bool} {t : Tmp} {v : Value} : ∀ {L : List (Nat × Tmp × Value)} {a : Act}, (L.all fun e => !(e.2.1 == t)) = true → (putSel a b L).put (some t) v = putSel (a.put (some t) v) b L
  | [], _, _ => rfl
  | e :: r, a, h => by
    rw [List.all_cons, Bool.and_eq_true] at h
    have he : e.2.1 ≠ t := by simpa using h.1
    unfold putSel
    by_cases hb : b e.1 = true
    · rw [if_pos hb, if_pos hb, putSel_put h.2, put_comm he]
    · rw [if_neg hb, if_neg hb]
      exact putSel_put h.2
theorem putSel_same {b : Nat → Bool} {i : Nat} : ∀ {L : List (Nat × Tmp × Value)} {a : Act}, (L.all fun e => !(e.1 == i)) = true → putSel a (up b i) L = putSel a b L
  | [], _, _ => rfl
  | e :: r, a, h => by
    rw [List.all_cons, Bool.and_eq_true] at h
    have he : e.1 ≠ i := by simpa using h.1
    unfold putSel
    rw [up_ne he]
    exact putSel_same h.2
/-- Operation i (its entry stands between L1 and L2) is listed: its destination is filled with v, whatever stood in its entry. -/
theorem putSel_up {b : Nat → Bool} {i : Nat} {t : Tmp} {v0 v : Value} : ∀ {L1 L2 : List (Nat × Tmp × Value)} {a : Act}, b i = false → ((L1 ++ L2).all fun e => !(e.1 == i) && !(e.2.1 == t)) = true →
    (putSel a b (L1 ++ (i, t, v0) :: L2)).put (some t) v = putSel a (up b i) (L1 ++ (i, t, v) :: L2)
  | [], L2, a, hb, h => by
    simp only [List.nil_append] at h ⊢
    have h1 : (L2.all fun e => !(e.1 == i)) = true := List.all_eq_true.2 (fun e he => by have := List.all_eq_true.1 h e he; simp only [Bool.and_eq_true] at this; exact this.1)
    have h2 : (L2.all fun e => !(e.2.1 == t)) = true := List.all_eq_true.2 (fun e he => by have := List.all_eq_true.1 h e he; simp only [Bool.and_eq_true] at this; exact this.2)
    unfold putSel
    rw [if_neg (by rw [hb]; decide), if_pos (up_self b i), putSel_put h2, putSel_same h1]
  | e :: r, L2, a, hb, h => by
    simp only [List.cons_append, List.all_cons, Bool.and_eq_true] at h
    have he : e.1 ≠ i := by simpa using h.1.1
    simp only [List.cons_append]
    unfold putSel
    rw [up_ne he]
    exact putSel_up hb h.2
/-- The same by its place k in the list. -/
theorem putSel_upk {b : Nat → Bool} {i : Nat} {t : Tmp} {v0 v : Value} {a : Act} {L L' : List (Nat × Tmp × Value)} (k : Nat) (hb : b i = false) (hL : L[k]? = some (i, t, v0)) (hL' : L.set k (i, t, v) = L') (hd : ((L.take k ++ L.drop (k + 1)).all fun e => !(e.1 == i) && !(e.2.1 == t)) = true) :
    (putSel a b L).put (some t) v = putSel a (up b i) L' := by
  have hk := (List.getElem?_eq_some_iff.1 hL).1
  have h1 : L = L.take k ++ (i, t, v0) :: L.drop (k + 1) := by
    have h2 : L[k] = (i, t, v0) := (List.getElem?_eq_some_iff.1 hL).2
    rw [← h2, List.getElem_cons_drop, List.take_append_drop]
  have h3 : L' = L.take k ++ (i, t, v) :: L.drop (k + 1) := by rw [← hL', List.set_eq_take_append_cons_drop, if_pos hk]
  rw [h3]
  conv => lhs; rw [h1]
  exact putSel_up hb hd
/-- An operation without a destination. -/
theorem putSel_none {b : Nat → Bool} {i : Nat} {L : List (Nat × Tmp × Value)} {a : Act} {v : Value} (h : (L.all fun e => !(e.1 == i)) = true) : (putSel a b L).put none v = putSel a (up b i) L := (putSel_same h).symm
/-- THE REGION FROM HERE TO ITS END, by one relation I: l has all listed but O's operations; I holds with none of them listed; each step; with all listed what follows. -/
theorem inv_ {l : Array Bool} {fuel : Nat} {a : Act} {w : World} (O : List Nat) (I : (Nat → Bool) → Act → World → Prop) (hT : rtab md ops = T) (hw : waitsOk T.2 B = true) (hk : baseOk T.2 O = true)
    (hl : (lof T.2.length O (fun _ => false) == l.toList && O.length == fuel) = true) (h0 : I (fun _ => false) a w) (hs : ∀ i ∈ O, StepAt P ops Q B O I i)
    (hend : ∀ b a w, (∀ j, O.contains j = true → b j = true) → I b a w → Q .normal a w) : wpAnyLast P md ops Q (fun _ => True) [] fuel l a w := by
  rw [Bool.and_eq_true, beq_iff_eq, beq_iff_eq] at hl
  have h1 := inv_all hT hw hk I hs hend fuel (fun _ => false) a w (by rw [← hl.2]; simp) (fun d r _ _ hb => by cases hb) h0
  have h2 : (lof T.2.length O (fun _ => false)).toArray = l := by apply Array.ext'; exact hl.1
  rw [h2] at h1
  exact h1
/-- inv_ with the relation told from the frame that stands now (a0_). -/
theorem inv_at {l : Array Bool} {fuel : Nat} {a : Act} {w : World} (O : List Nat) (I : Act → (Nat → Bool) → Act → World → Prop) (hT : rtab md ops = T) (hw : waitsOk T.2 B = true) (hk : baseOk T.2 O = true)
    (hl : (lof T.2.length O (fun _ => false) == l.toList && O.length == fuel) = true) (h0 : I a (fun _ => false) a w) (hs : ∀ i ∈ O, StepAt P ops Q B O (I a) i)
    (hend : ∀ b a' w, (∀ j, O.contains j = true → b j = true) → I a b a' w → Q .normal a' w) : wpAnyLast P md ops Q (fun _ => True) [] fuel l a w := inv_ O (I a) hT hw hk hl h0 hs hend
end
end Go.Proofs.YtmpdimigpaogkaaW.PrintLast
end
section
namespace Go.Proofs.Ytmpdimigpaogkaa.G
open Go.RowKit Go.Proofs.YtmpdimigpaogkaaW.PrintWords Go.Proofs.YtmpdimigpaogkaaW.PrintLast Go.Proofs.YtmpdimigpaogkaaW.PrintMore
theorem cinfo3 : (Try.prog.info? 3).map (fun i => (i.zero, i.size, i.bytes)) = some (some (.int .i64 0), 1, 8) := by kernel_rfl
def slices_Clone_int_int.f (l0 : List Int) : Option (List Int) := if l0.length < 17592186044416 then some l0 else none
set_option maxHeartbeats 2000000 in
set_option maxRecDepth 100000 in
theorem slices_Clone_int_int.calls (A0 : Option Addr) (c0 : Nat) (l0 : List Int) (r : List Int) (w : World) (hr0 : Kd.C (Kd.int .i64) w A0 l0.length l0) (hc0 : l0.length ≤ c0) (h : slices_Clone_int_int.f l0 = some r) :
    Calls Try.prog 70 #[.slice A0 l0.length c0] w fun e w' => ∃ v0_ : Value, e = .returned (v0_) ∧ Kd.R (Kd.int .i64) 3 w' w.heap.size (fun _ => True) v0_ r ∧ Below w.heap.size w w' := by
  unfold slices_Clone_int_int.f at h
  by_cases hl : l0.length < 17592186044416
  · rw [if_pos hl] at h
    obtain rfl := Option.some.inj h
    have HR := Aside0.mk hr0
    have HL := Aside0.mk hl
    clear hr0 h hl
    cases A0 with
    | none =>
      have hz : l0 = [] := by
        have h2 := HR.out.2.2
        by_cases hn : 0 < l0.length
        · obtain ⟨ad, h3, _⟩ := h2 hn
          cases h3
        · exact List.eq_nil_of_length_eq_zero (by omega)
      subst hz
      have he := fun w => Lib.run_eql_slice_nil_nil (P := Try.prog) w (t := 22) 0 c0 Try.underlying22
      go_enter Try.func70, Try.ntmps70
      go_wp2
      go_ret
      exact ⟨_, rfl, Kd.R_nil _ _ _ _ _, Below.refl _ _⟩
    | some ad =>
      have he : ∀ w, (binOp .eql 22 (.slice (some ad) l0.length c0) (.slice none 0 0)).run Try.prog w = .ok (.bool false) w := fun w => Lib.run_eql_slice_nil (P := Try.prog) w 22 3 (some ad) l0.length c0 0 0 Try.underlying22
      go_enter Try.func70, Try.ntmps70
      go_wp2_with (first | ((with_reducible refine gate_dst (N := 7) rfl ?_); refine Kd.R_append_row (Value.int .i64) 0 (h1 := fun _ => rfl) (w0 := w) w.heap.size rfl (.tmp 5) (.tmp 6) 22 3 (.int .i64 0) 8 rfl Try.underlying22 cinfo3 rfl (by decide) _ [] l0 (some ad) l0.length c0 (fun _ => True) rfl rfl (fun _ _ => trivial) ?h1 (Kd.C_below HR.out (below_alloc (Below.refl _ _) _)) (below_alloc (Below.refl _ _) _) (by simp) (by have := HL.out; simp; omega) ?_; (case h1 => (exact Kd.R_of_own (own_lit_of (enc := Value.int .i64) w w.heap.size 3 [] (Nat.le_refl _) (by simp)) (fun _ _ => trivial))); intro v1 w1 HO1 HB1 hg1 hat1; have HO := Aside0.mk HO1; have HB := Aside0.mk HB1; clear HO1 HB1 hg1 hat1))
      obtain ⟨Ao, co, rfl⟩ := Kd.R_slice HO.out
      go_wp2
      go_ret
      exact ⟨_, rfl, HO.out, HB.out⟩
  · rw [if_neg hl] at h
    cases h
theorem cinfo5 : (Try.prog.info? 5).map (fun i => (i.zero, i.size, i.bytes)) = some (some (.int .u8 0), 1, 1) := by kernel_rfl
end Go.Proofs.Ytmpdimigpaogkaa.G
end
section
namespace Go.Proofs.Ytmpdimigpaogkaa.G
open Go.RowKit Go.Proofs.YtmpdimigpaogkaaW.PrintWords Go.Proofs.YtmpdimigpaogkaaW.PrintLast Go.Proofs.YtmpdimigpaogkaaW.PrintMore
attribute [local go_sem] Oper.semAt_some

theorem mem_pages.calls (v : Value) (v2 : Value) (w : World) : Calls Try.prog 71 #[.agg #[v, v2]] w fun e w' => e = .returned (.func (.func 81) #[] #[.pointer (some ⟨w.heap.size, 0, none⟩)]) ∧ w' = w.alloc (.cells #[v, v2] 25) := by
  have hmf : ∀ (fn : Fn) (first cap : Array Value) (w : World), (Instr.makeFunc fn first cap).run Try.prog w = .ok (.func fn first cap) w := fun _ _ _ _ => rfl
  go_enter Try.func71, Try.ntmps71
  go_wp2
  go_ret
  exact ⟨rfl, rfl⟩

/-- A whole variable of several cells, read from the middle of a block. -/
theorem run_loadVar_list {P : Program} (w : World) (ad : Addr) (ty : TypeId) (cs : List Value) (d : TypeDesc) (hc : ∀ j v, cs[j]? = some v → w.cell? (ad.add j) = some v)
    (hu : P.underlying ty = some d) (hd : (match d with | .struct _ | .array _ _ => true | _ => false) = true) (hi : (P.info? ty).map (·.size) = some cs.length) :
    (loadVar ty ad).run P w = .ok (.agg cs.toArray) w := by
  have hl : (loadCells ad cs.length).run P w = .ok cs.toArray w := run_loadCells_list (P := P) w ad cs hc
  cases hq : P.info? ty with
  | none => simp [hq] at hi
  | some i =>
    have hs : i.size = cs.length := by simpa [hq] using hi
    have hagg : (isAgg ty).run P w = .ok true w := by
      unfold isAgg
      rw [Sem.run_bind, run_underlying hu w]
      cases d <;> simp_all
    simp [loadVar, hagg, sizeOf, typeInfo, hq, hs, hl, Result.andThen]

section
variable {F : Fence} {n : Nat} {P : Program} {ops : Array Oper} {rest : List Oper} {o : Oper} {a : Act} {Q : Exit → Act → World → Prop} {w : World}
theorem gateIn {N : Tmp} (_hN : o.dst = some N) (h : wpListIn F n P ops Q (o :: rest) a w) : wpListIn F n P ops Q (o :: rest) a w := h
theorem wpListIn_run {w1 : World} {v : Value} (hg : o.guard = none) (hd : ∀ c, o.op ≠ .defer c) (habout : o.about P w a.eval = none) (hrun : (execOp a.eval o).run P w = .ok (.value v) w1)
    (h : wpListIn F n P ops Q rest (a.put o.dst v) w1) : wpListIn F n P ops Q (o :: rest) a w := by
  refine wpListIn_plain hg fun K hK => ?_
  unfold Oper.wpIn
  refine ⟨fun f hf => (by rw [habout] at hf; cases hf), ?_⟩
  rw [Oper.semAt_plain F _ _ hd, hrun]
  exact hK _ _ h
theorem wpListIn_load {ty : TypeId} {x : Operand} {ad : Addr} {v : Value} (hg : o.guard = none) (ho : o.op = .load ty x) (hx : a.eval x = .pointer (some ad)) (hl : (loadVar ty ad).run P w = .ok v w)
    (h : wpListIn F n P ops Q rest (a.put o.dst v) w) : wpListIn F n P ops Q (o :: rest) a w := by
  refine wpListIn_run hg (by rw [ho]; intro c hc; cases hc) (by simp [Oper.about, ho]) ?_ h
  unfold execOp
  simp only [ho, hx, Instr.loadAt, Instr.sureAddr, Sem.run_bind, Sem.run_pure, Result.andThen_ok, hl]
end
/-- A page as_ it is yielded: its number and its bytes. -/
def pageV (x : Nat × List Int) : Array Value := #[.int .i64 x.1, .agg (x.2.map (Value.int .u8)).toArray]
def pageAt (l : List Int) (i : Nat) : List Int := (l.drop (64 * i)).take 64
def PagesR (Bn : Nat) (A0 : Option Addr) (n0 c0 : Nat) (A1 : Option Addr) (c1 : Nat) (l1 : List Int) (W : World) : Prop :=
  W.heap[Bn]? = some (.cells #[.slice A0 n0 c0, .slice A1 l1.length c1] 25 (0, 0)) ∧ Kd.C (Kd.int .u8) W A1 l1.length l1

set_option maxRecDepth 100000 in
set_option maxHeartbeats 1000000 in
theorem pages1_gives (m : Nat) (hm : 1 ≤ m) (Bn : Nat) (A0 : Option Addr) (n0 c0 : Nat) (A1 : Option Addr) (c1 : Nat) (l1 : List Int) (hn : n0 ≤ 32) (hl : l1.length = 64 * n0) (hc : l1.length ≤ c1) :
    IterGives Fence.wide m Try.prog 81 #[.pointer (some ⟨Bn, 0, none⟩)] pageV (PagesR Bn A0 n0 c0 A1 c1 l1) (fun pre x => pre.length < n0 ∧ x = (pre.length, pageAt l1 pre.length)) (fun xs => xs = (List.range n0).map fun i => (i, pageAt l1 i)) (fun _ _ => False) := by
  intro l J Jx W hR hst hY h0
  refine callsIn_of_wp Try.func81 rfl trivial ?_ rfl
  simp only [Try.ntmps81, List.size_toArray, List.length_cons, List.length_nil, Nat.reduceAdd, Nat.reduceSub, Array.replicate_succ, Array.replicate_zero, List.push_toArray, List.append_toArray, List.nil_append, List.cons_append]
  have hB := hR _ _ h0
  have hz0 : W.cell? ⟨Bn, 0, none⟩ = some (.slice A0 n0 c0) := (blk_cell hB.1 0).trans rfl
  gi_wp2
  gi_loopw [7, 8] (fun i _ wr => ∃ k : Nat, k ≤ n0 ∧ i = .int .i64 k ∧ J ((List.range k).map fun i => (i, pageAt l1 i)) wr) (fun i _ _ => n0 - (intOf i).toNat)
  case atStart => exact ⟨0, Nat.zero_le _, rfl, h0⟩
  case round =>
    obtain ⟨k, hk, rfl, hJ⟩ := hrel
    have hB' := hR _ _ hJ
    have hz1 : wr.cell? ⟨Bn, 1, none⟩ = some (.slice A1 l1.length c1) := (blk_cell hB'.1 1).trans rfl
    by_cases hlt : k < n0
    · obtain ⟨ad, hA, _⟩ := hB'.2.2.2 (by omega)
      subst hA
      obtain ⟨fn, tmps, assign, body, hy, hRd⟩ := hY _ (k, pageAt l1 k) wr hJ ⟨by simpa using hlt, by simp⟩
      have b1 : (k : Int) * 64 ≤ 2048 := by omega
      have b2 : (k : Int) < 32 := by omega
      have hpl : ∀ j v, ((pageAt l1 k).map (Value.int .u8))[j]? = some v → wr.cell? ((ad.add (k * 64)).add j) = some v := by
        intro j v hv
        rw [List.getElem?_map] at hv
        obtain ⟨x, hx, rfl⟩ := Option.map_eq_some_iff.1 hv
        obtain ⟨ad', he, hcell⟩ := hB'.2.2.2 (by omega)
        cases he
        have hj : j < 64 := by
          have := (List.getElem?_eq_some_iff.1 hx).1
          simp [pageAt] at this
          omega
        have hx2 : l1[64 * k + j]? = some x := by
          unfold pageAt at hx
          rw [List.getElem?_take_of_lt hj, List.getElem?_drop] at hx
          exact hx
        obtain ⟨cs, hcs, hK, hcc⟩ := hcell _ x hx2
        have hK' : cs = [.int .u8 x] := hK
        subst hK'
        have h3 := hcc 0 _ rfl
        rw [show (ad.add (k * 64)).add j = ad.add ((64 * k + j) * 1 + 0) from by rw [Addr.add_add]; congr 1; omega]
        exact h3
      have hlen : ((pageAt l1 k).map (Value.int .u8)).length = 64 := by
        simp [pageAt]
        omega
      have hload := run_loadVar_list (P := Try.prog) wr (ad.add (k * 64)) 121 _ _ hpl Try.underlying121 rfl (by rw [hlen]; kernel_rfl)
      have harr : ∀ w, (Instr.arrayAt 121 (.slice (some (ad.add (k * 64))) ((k + 1) * 64 - k * 64) (c1 - k * 64))).run Try.prog w = .ok (.pointer (some (ad.add (k * 64)))) w := by
        intro w
        have : ¬ ((k + 1) * 64 - k * 64 < 64) := by omega
        simp only [Instr.arrayAt, Sem.run_bind, run_underlying Try.underlying121, Result.andThen_ok]
        rw [if_neg this]
        rfl
      have HL := Aside0.mk hload
      clear hB hz0 h0 hY hst hR hpl hlen hload
      gi_wp2_with ((with_reducible refine gateIn (N := 21) rfl ?_); refine wpListIn_load rfl rfl rfl HL.out ?_)
      unfold pageV at hy
      gi_wp2
      refine hRd.mono ?_
      rintro e W3 (⟨rfl, hJ3⟩ | ⟨rfl, hJx3⟩)
      · gi_wp2
        go_roundw
        case rel => exact ⟨k + 1, by omega, by go_num, by rw [List.range_succ, List.map_append]; exact hJ3⟩
        case measure => simp [intOf]; omega
      · gi_wp2
        refine bodyPost_ret (results_none rfl _ _ _) rfl ?_
        exact .inr (.inl ⟨_, rfl, _, _, hJx3, Below.refl _ _⟩)
    · obtain rfl : k = n0 := by omega
      gi_wp2
      go_end0
      exact .inl ⟨_, rfl, _, rfl, hJ⟩
end Go.Proofs.Ytmpdimigpaogkaa.G
end
section
namespace Go.Proofs.Ytmpdimigpaogkaa.G
open Go.RowKit Go.Proofs.YtmpdimigpaogkaaW.PrintLast
section
variable {P : Program} {ops : Array Oper} {Q : Exit → Act → World → Prop}
/-- In a round an operation that is no defer statement goes as_ everywhere. -/
theorem opIn_of_op (l n : Nat) {o : Oper} {a : Act} {w : World} {K : Act → World → Prop} (hnd : ∀ c, o.op ≠ .defer c) (h : o.wp P a w K Q) : o.wpIn (Fence.wide.inRound l) n P a w K Q := by
  unfold Oper.wp at h
  unfold Oper.wpIn
  refine ⟨fun _ _ => trivial, ?_⟩
  rw [Oper.semAt_plain _ _ _ hnd]
  generalize (execOp a.eval o).run P w = r at h ⊢
  cases r with
  | ok x w' =>
    cases x with
    | value v => exact h
    | skip => exact h
    | defer d => exact h
    | enter f args => exact ⟨fun hd => by simp [Fence.inRound, Fence.wide] at hd, (callsIn_wide (n := n - 1)).2 h⟩
    | row row args =>
      refine ⟨fun hd => by simp [Fence.inRound, Fence.wide] at hd, ?_⟩
      intro c cs _
      obtain ⟨v, w2, hR, hs⟩ := h c cs
      exact ⟨v, w2, hR, stepsIn_wide.2 hs⟩
    | _ => exact h.elim
  | halt x w' =>
    cases x with
    | panic v => exact h
    | _ => exact h.elim
def noDefer (ops : Array Oper) : Bool := ops.all fun o => match o.op with | .defer _ => false | _ => true
theorem noDefer_spec (h : noDefer ops = true) {i : Nat} {o : Oper} (ho : ops[i]? = some o) : ∀ c, o.op ≠ .defer c := by
  intro c hc
  have h2 := Array.all_eq_true_iff_forall_mem.1 h o (Array.mem_of_getElem? ho)
  rw [hc] at h2
  cases h2
theorem anyIn_of_any (l n : Nat) {md : Region.Mode} (hnd : noDefer ops = true) (hout : ¬ LetsOut Q) : ∀ (fuel : Nat) (listed : Array Bool) (a : Act) (w : World), wpAny P md ops Q fuel listed a w → wpAnyIn (Fence.wide.inRound l) n P md ops Q fuel listed a w
  | 0, _, _, _, h => h
  | fuel + 1, listed, a, w, h => by
    refine ⟨h.1, fun i hi => ?_⟩
    have h2 := h.2 i hi
    unfold Go.wpOp at h2
    unfold wpOpIn
    cases ho : ops[i]? with
    | none =>
      rw [ho] at h2
      exact anyIn_of_any l n hnd hout fuel _ a w h2
    | some o =>
      rw [ho] at h2
      simp only at h2 ⊢
      by_cases hw : Region.wanted o (yielded ops a.tmps) = true
      · rw [if_pos hw] at h2
        rw [if_pos hw]
        refine opIn_of_op l n (noDefer_spec hnd ho) ?_
        rcases h2 with h2 | h2
        · exact Oper.wp_mono (fun a w h3 => anyIn_of_any l n hnd hout fuel _ a w h3) h2
        · exact absurd h2.2 hout
      · rw [if_neg hw] at h2
        rw [if_neg hw]
        exact ⟨fun _ _ => trivial, anyIn_of_any l n hnd hout fuel _ _ w h2⟩
/-- A region of open order in a round. -/
theorem startIn_ {S : World → Prop} {ds : List Nat} {id n m l : Nat} {a : Act} {w : World} (L : Array Bool) (hm : P.follows .mixedOrders = true) (hn : ops.size = n) (hl : Array.replicate n false = L) (hnd : noDefer ops = true) (hout : ¬ LetsOut Q) (hS : S w.drew)
    (h : S w.drew → wpAnyLast P .any ops Q S ds n L a w.drew) : (Code.region id ops true).wpIn (Fence.wide.inRound l) m P Q a w := by
  subst hn
  subst hl
  exact wpIn_region_any hm (anyIn_of_any l m hnd hout _ _ _ _ (wpAny_of_last _ _ _ _ (h hS)))
end
end Go.Proofs.Ytmpdimigpaogkaa.G
end
section
namespace Go.Proofs.Ytmpdimigpaogkaa.G
open Go.RowKit Go.Proofs.YtmpdimigpaogkaaW.PrintWords Go.Proofs.YtmpdimigpaogkaaW.PrintLast Go.Proofs.YtmpdimigpaogkaaW.PrintMore
attribute [local go_sem] Oper.semAt_some

theorem two_blocks {w w1 : World} {b1 b2 : Obj} (hb : Below ((w.alloc b1).alloc b2).heap.size ((w.alloc b1).alloc b2) w1) :
    Below w.heap.size w w1 ∧ w1.heap[w.heap.size]? = some b1 ∧ w1.heap[w.heap.size + 1]? = some b2 ∧ w.heap.size + 1 < w1.heap.size := by
  have hs := hb.size
  simp only [World.size_alloc] at hs
  refine ⟨(((Below.refl _ w).alloc (Nat.le_refl _) _).alloc (by simp) _).trans (hb.mono (by simp only [World.size_alloc]; omega)), ?_, ?_, by omega⟩
  · exact (hb.block w.heap.size (by simp only [World.size_alloc]; omega)).trans ((Below.heap_alloc _ _ _ (by simp)).trans (World.alloc_heap_new w _))
  · have h_ := World.alloc_heap_new (w.alloc b1) b2
    rw [World.size_alloc] at h_
    exact (hb.block (w.heap.size + 1) (by simp only [World.size_alloc]; omega)).trans h_

section
variable {F : Fence} {n : Nat} {P : Program} {ops : Array Oper} {rest : List Oper} {o : Oper} {a : Act} {Q : Exit → Act → World → Prop} {w w0 : World}
/-- A whole array is stored into the block that was made last. -/
theorem wpListIn_storeNew {t : TypeId} {x y : Operand} {c c' : Array Value} (hg : o.guard = none) (ho : o.op = .store t x y) (hx : a.eval x = .pointer (some ⟨w0.heap.size, 0, none⟩)) (hy : a.eval y = .agg c') (hw : w = w0.alloc (.cells c t))
    (hi : (P.info? t).map (·.size) = some c'.size) (hs : c.size = c'.size) (h1 : c'.all (·.oneCell') = true) (h : wpListIn F n P ops Q rest (a.put o.dst undef) (w0.alloc (.cells c' t))) : wpListIn F n P ops Q (o :: rest) a w := by
  subst hw
  refine wpListIn_plain hg fun K hK => ?_
  unfold Oper.wpIn
  refine ⟨fun f hf => (by simp [Oper.about, ho] at hf), ?_⟩
  rw [Oper.semAt_plain F _ _ (by rw [ho]; intro c hc; cases hc)]
  unfold execOp
  simp only [ho, hx, hy, Sem.run_bind, run_storeAt_new w0 t c c' hi hs h1, Result.andThen_ok]
  exact hK _ _ h
end
theorem fold_two (T : Array Value) (a b : Nat) (x y : Value) : (#[a, b].zip #[x, y]).foldl (fun t (p, v) => t.setIfInBounds p v) T = (T.setIfInBounds a x).setIfInBounds b y := by
  simp
theorem flat_len : ∀ (pre : List (Nat × List Int)), (∀ x ∈ pre, x.2.length = 64) → (pre.flatMap (·.2)).length = 64 * pre.length
  | [], _ => rfl
  | x :: r, h => by
    have h1 := h x (by simp)
    have h2 := flat_len r (fun y hy => h y (by simp [hy]))
    simp only [List.flatMap_cons, List.length_append, List.length_cons, h1, h2]
    omega
/-- The pages of a list, one behind the other, are the list. -/
theorem pages_flat (l : List Int) : ∀ n, l.length = 64 * n → ((List.range n).map fun i => (i, pageAt l i)).flatMap (·.2) = l := by
  have key : ∀ n, ((List.range n).map fun i => (i, pageAt l i)).flatMap (·.2) = l.take (64 * n) := by
    intro n
    induction n with
    | zero => simp
    | succ n ih =>
      rw [List.range_succ, List.map_append, List.flatMap_append, ih]
      simp only [List.map_cons, List.map_nil, List.flatMap_cons, List.flatMap_nil, List.append_nil, pageAt]
      rw [Nat.mul_succ, List.take_add]
  intro n hn
  rw [key n, List.take_of_length_le (by omega)]
/-- What holds between two rounds. -/
def CopyInv (w : World) (g3 R : Nat) (A0 : Option Addr) (c0 : Nat) (l0 : List Int) (A1 : Option Addr) (c1 : Nat) (l1 : List Int) (Ap : Option Addr) (cp : Nat) (n0 : Nat) (pre : List (Nat × List Int)) (W : World) : Prop :=
  ∃ v : Value, W.heap[g3]? = some (.cells #[.slice Ap l0.length cp, v] 25 (0, 0)) ∧ Kd.R (Kd.int .u8) 5 W w.heap.size (fun k => k ≠ R) v (pre.flatMap (·.2)) ∧ Kd.R (Kd.int .i64) 3 W w.heap.size (fun k => k ≠ R) (.slice Ap l0.length cp) l0 ∧
    W.heap[w.heap.size + 1]? = some (.cells #[.slice none 0 0, .slice none 0 0] 25 (0, 0)) ∧ W.heap[g3 + 1]? = some (.cells #[.slice A0 l0.length c0, .slice A1 l1.length c1] 25 (0, 0)) ∧ Below w.heap.size w W ∧ R < W.heap.size + n0 ∧ ∀ x ∈ pre, x.2.length = 64

/-- The frame of a round: the page stands in block gp. -/
def CopyJ1 (w : World) (g3 R : Nat) (A0 : Option Addr) (c0 : Nat) (l0 : List Int) (A1 : Option Addr) (c1 : Nat) (l1 : List Int) (Ap : Option Addr) (cp : Nat) (pre : List (Nat × List Int)) (x : Nat × List Int) (a1 : Act) (W : World) : Prop :=
  ∃ gp, a1 = { tmps := #[.agg #[.slice A0 l0.length c0, .slice A1 l1.length c1], .pointer (some ⟨w.heap.size, 0, none⟩), .pointer (some ⟨w.heap.size + 1, 0, none⟩), .pointer (some ⟨g3, 0, none⟩), undef, .pointer (some ⟨gp, 0, none⟩),
      .pointer (some ⟨w.heap.size, 0, none⟩), .slice A0 l0.length c0, .slice Ap l0.length cp, .agg #[.slice Ap l0.length cp, .slice none 0 0], .agg #[.slice A0 l0.length c0, .slice A1 l1.length c1],
      .func (.func 81) #[] #[.pointer (some ⟨g3 + 1, 0, none⟩)], .int .i64 x.1, .agg (x.2.map (Value.int .u8)).toArray, undef, undef, undef, undef, undef, undef], defers := [] } ∧
    W.heap[gp]? = some (.cells (x.2.map (Value.int .u8)).toArray 121 (0, 0)) ∧ R < gp ∧ x.2.length = 64 ∧ pre.length < 32 ∧ CopyInv w g3 R A0 c0 l0 A1 c1 l1 Ap cp 0 pre W
theorem CopyInv.below {w W W' : World} {g3 R : Nat} {A0 : Option Addr} {c0 : Nat} {l0 : List Int} {A1 : Option Addr} {c1 : Nat} {l1 : List Int} {Ap : Option Addr} {cp n0 : Nat} {pre : List (Nat × List Int)} (h : CopyInv w g3 R A0 c0 l0 A1 c1 l1 Ap cp n0 pre W)
    (h1 : w.heap.size + 1 < g3) (h2 : g3 + 1 < R) (hb : Below W.heap.size W W') : CopyInv w g3 R A0 c0 l0 A1 c1 l1 Ap cp n0 pre W' := by
  obtain ⟨v, a1, a2, a3, a4, a5, a6, a7, a9⟩ := h
  have lt : ∀ {k : Nat} {o : Obj}, W.heap[k]? = some o → k < W.heap.size := fun hk => (Array.getElem?_eq_some_iff.1 hk).1
  exact ⟨v, (hb.block _ (lt a1)).trans a1, Kd.R_below a2 hb, Kd.R_below a3 hb, (hb.block _ (lt a4)).trans a4, (hb.block _ (lt a5)).trans a5, a6.trans (hb.mono a6.size), by have := hb.size; omega, a9⟩
theorem CopyInv.put {w W : World} {g3 R : Nat} {A0 : Option Addr} {c0 : Nat} {l0 : List Int} {A1 : Option Addr} {c1 : Nat} {l1 : List Int} {Ap : Option Addr} {cp n0 : Nat} {pre : List (Nat × List Int)} {o : Obj} (h : CopyInv w g3 R A0 c0 l0 A1 c1 l1 Ap cp n0 pre W)
    (h1 : w.heap.size + 1 < g3) (h2 : g3 + 1 < R) : CopyInv w g3 R A0 c0 l0 A1 c1 l1 Ap cp n0 pre (W.putObj R o) := by
  obtain ⟨v, a1, a2, a3, a4, a5, a6, a7, a9⟩ := h
  have ne : ∀ k, k ≠ R → (W.putObj R o).heap[k]? = W.heap[k]? := fun k hk => World.putObj_heap_other hk
  refine ⟨v, (ne _ (by omega)).trans a1, Kd.R_step a2 (fun k hk _ => ne k hk), Kd.R_step a3 (fun k hk _ => ne k hk), (ne _ (by omega)).trans a4, (ne _ (by omega)).trans a5, a6.trans ⟨rfl, rfl, rfl, by simp, fun k hk => ne k (by omega)⟩, by simpa using a7, a9⟩

def CopyMid (w : World) (g3 R : Nat) (W : World) (A0 : Option Addr) (c0 : Nat) (l0 : List Int) (A1 : Option Addr) (c1 : Nat) (l1 : List Int) (Ap : Option Addr) (cp : Nat) (v0 : Value) (ys : List Int) (v1 : Value) (W' : World) : Prop :=
  W'.heap[g3]? = some (.cells #[.slice Ap l0.length cp, v0] 25 (0, 0)) ∧ Kd.R (Kd.int .u8) 5 W' w.heap.size (fun k => k ≠ R) v1 ys ∧ Kd.R (Kd.int .i64) 3 W' w.heap.size (fun k => k ≠ R) (.slice Ap l0.length cp) l0 ∧
    W'.heap[w.heap.size + 1]? = some (.cells #[.slice none 0 0, .slice none 0 0] 25 (0, 0)) ∧ W'.heap[g3 + 1]? = some (.cells #[.slice A0 l0.length c0, .slice A1 l1.length c1] 25 (0, 0)) ∧ Below w.heap.size w W' ∧ R < W'.heap.size ∧ KeepsOthers W W'
def CopyEnd (w : World) (g3 R : Nat) (W : World) (A0 : Option Addr) (c0 : Nat) (l0 : List Int) (A1 : Option Addr) (c1 : Nat) (l1 : List Int) (Ap : Option Addr) (cp : Nat) (ys : List Int) (W' : World) : Prop :=
  KeepsOthers W W' ∧ ∀ pre : List (Nat × List Int), pre.flatMap (·.2) = ys → (∀ x ∈ pre, x.2.length = 64) → CopyInv w g3 R A0 c0 l0 A1 c1 l1 Ap cp 0 pre W'
section
variable {w W W' W1 : World} {g3 R : Nat} {A0 : Option Addr} {c0 : Nat} {l0 : List Int} {A1 : Option Addr} {c1 : Nat} {l1 : List Int} {Ap : Option Addr} {cp : Nat} {v0 v1 : Value} {ys : List Int}
theorem CopyMid.slice_ (h : CopyMid w g3 R W A0 c0 l0 A1 c1 l1 Ap cp v0 ys v1 W') : ∃ A c, v1 = .slice A ys.length c := Kd.R_slice h.2.1
theorem CopyMid.cell_ (h : CopyMid w g3 R W A0 c0 l0 A1 c1 l1 Ap cp v0 ys v1 W') : W'.cell? ⟨g3, 1, none⟩ = some v0 := (blk_cell h.1 1).trans rfl
theorem CopyMid.frozen_ (h : CopyMid w g3 R W A0 c0 l0 A1 c1 l1 Ap cp v0 ys v1 W') : W'.frozen? ⟨g3, 1, none⟩ = false := blk_frozen h.1 1
theorem copyMid_of {pre : List (Nat × List Int)} (hi : CopyInv w g3 R A0 c0 l0 A1 c1 l1 Ap cp 0 pre W) (hg3 : W.heap[g3]? = some (.cells #[.slice Ap l0.length cp, v0] 25 (0, 0))) (hO : Kd.R (Kd.int .u8) 5 W1 w.heap.size (fun k => k ≠ R) v1 ys) (hB : Below w.heap.size w W1)
    (hg : W.drew.grownBy W1 v0.ownBlock) (_hat : v1.ownBlock = v0.ownBlock ∨ ∃ b, v1.ownBlock = some b ∧ W.drew.heap.size ≤ b) (hs : w.heap.size + 1 < g3 ∧ g3 + 1 < R) : CopyMid w g3 R W A0 c0 l0 A1 c1 l1 Ap cp v0 ys v1 W1 := by
  obtain ⟨v, a1, a2, a3, a4, a5, a6, a7, _⟩ := hi
  rw [hg3] at a1
  simp only [Option.some.injEq, Obj.cells.injEq, Array.mk.injEq, List.cons.injEq, and_true, true_and] at a1
  subst a1
  obtain ⟨inner, hown⟩ := Kd.R_own a2
  have lt : ∀ {k : Nat} {o : Obj}, W.heap[k]? = some o → k < W.heap.size := fun hk => (Array.getElem?_eq_some_iff.1 hk).1
  have ne25 : ∀ {k : Nat} {cs : Array Value}, W.heap[k]? = some (.cells cs 25 (0, 0)) → some k ≠ v0.ownBlock := fun hk => Kd.R_ne a2 hk (by decide)
  have keep : ∀ {k : Nat} {cs : Array Value}, W.heap[k]? = some (.cells cs 25 (0, 0)) → W1.heap[k]? = some (.cells cs 25 (0, 0)) := fun hk => (hg.block _ (lt hk) (ne25 hk)).trans hk
  have hg' : W.grownBy W1 v0.ownBlock := ⟨hg.os, hg.tape, hg.output, hg.size, hg.block⟩
  refine ⟨keep hg3, hO, ?_, keep a4, keep a5, hB, Nat.lt_of_lt_of_le a7 hg.size, ?_⟩
  · refine Kd.R_mono (Kd.R_step (Kd.R_bound a3) (fun k hk hlt => hg.block k hlt ?_)) (fun k hk => hk.1)
    intro he
    obtain ⟨cells, hc⟩ := own_typed hown k he.symm
    obtain ⟨_, _, _, q, hq, cells', hc'⟩ := hk
    rw [hc] at hc'
    injection hc' with hc'
    injection hc' with _ hc'
    subst hc'
    exact absurd hq (by decide)
  · refine KeepsOthers.of_grownBy hg' (fun j o hj ho => ?_)
    obtain ⟨cells, hc⟩ := own_typed hown j hj
    have ho' : W.heap[j]? = some o := ho
    rw [hc] at ho'
    cases ho'
    rfl
theorem CopyMid.end_ (h : CopyMid w g3 R W A0 c0 l0 A1 c1 l1 Ap cp v0 ys v1 W') (hs : w.heap.size + 1 < g3 ∧ g3 + 1 < R) : CopyEnd w g3 R W A0 c0 l0 A1 c1 l1 Ap cp ys (W'.setCell ⟨g3, 1, none⟩ v1) := by
  obtain ⟨a1, a2, a3, a4, a5, a6, a7, a8⟩ := h
  have oth : ∀ {k : Nat}, k ≠ g3 → (W'.setCell ⟨g3, 1, none⟩ v1).heap[k]? = W'.heap[k]? := fun hk => Below.heap_setCell W' ⟨g3, 1, none⟩ v1 _ hk
  refine ⟨a8.trans (KeepsOthers.setCell _ _ _), fun pre hp h64 => ⟨v1, ?_, ?_, ?_, (oth (by omega)).trans a4, (oth (by omega)).trans a5, a6.setCell (by simp; omega) _, by simpa [World.setCell] using a7, h64⟩⟩
  · exact heap_setCell_same W' g3 1 _ 25 v1 a1
  · rw [hp]
    exact Kd.R_set a2 a1 (by decide) 1 v1
  · exact Kd.R_set a3 a1 (by decide) 1 v1
end
def mem_copied.T4 : Bool × List (List Nat × List Nat) := (true, [([], []), ([0], [0]), ([], []), ([1, 2], [1, 2]), ([0, 1, 2, 3], []), ([4, 3, 3, 0, 1, 2, 3], [3, 4])])
def mem_copied.B4 : List Nat := [0, 1, 0, 7, 15, 31]
theorem mem_copied.tab4 : rtab .any (opsOf Try.f52 4) = mem_copied.T4 := by kernel_rfl
theorem mem_copied.bits4 : waitsOk mem_copied.T4.2 mem_copied.B4 = true := by kernel_rfl

def mem_copied.f (l0_0 l0_1 : List Int) : Option (List Int × List Int) := if l0_0.length ≤ 32 ∧ l0_1.length = 64 * l0_0.length then some (l0_0, l0_1) else none

set_option maxRecDepth 100000 in
set_option maxHeartbeats 2000000 in
theorem mem_copied.walk (A0_0 : Option Addr) (c0_0 : Nat) (l0_0 : List Int) (A0_1 : Option Addr) (c0_1 : Nat) (l0_1 : List Int) (w : World) (hr0_0 : Kd.C (Kd.int .i64) w A0_0 l0_0.length l0_0) (hc0_0 : l0_0.length ≤ c0_0) (hr0_1 : Kd.C (Kd.int .u8) w A0_1 l0_1.length l0_1) (hc0_1 : l0_1.length ≤ c0_1)
    (hn : l0_0.length ≤ 32) (hl : l0_1.length = 64 * l0_0.length) :
    CallsIn Fence.wide 6 Try.prog 52 #[.agg #[.slice A0_0 l0_0.length c0_0, .slice A0_1 l0_1.length c0_1]] w fun e w' => ∃ v0_ v1_ : Value, e = .returned (.agg #[v0_, v1_]) ∧ Kd.R (Kd.int .i64) 3 w' w.heap.size (fun _ => True) v0_ l0_0 ∧ Kd.R (Kd.int .u8) 5 w' w.heap.size (fun _ => True) v1_ l0_1 ∧ Below w.heap.size w w' := by
  have HR0 := Aside0.mk hr0_0
  have HR1 := Aside0.mk hr0_1
  have HN := Aside0.mk hn
  have HL := Aside0.mk hl
  clear hr0_0 hr0_1 hn hl
  refine callsIn_of_wp_marks Try.func52 rfl trivial ?_ rfl
  simp only [Try.ntmps52, List.size_toArray, List.length_cons, List.length_nil, Nat.reduceAdd, Nat.reduceSub, Array.replicate_succ, Array.replicate_zero, List.push_toArray, List.append_toArray, List.nil_append, List.cons_append]
  have f70 : Fence.wide.fn 70 := trivial
  have f71 : Fence.wide.fn 71 := trivial
  have f81 : Fence.wide.fn 81 := trivial
  gi_wp2_with (gi_at_call 70; refine ((callsIn_wide (n := 5)).2 (slices_Clone_int_int.calls A0_0 c0_0 l0_0 l0_0 _ (Kd.C_below HR0.out (((Below.refl _ w).alloc (Nat.le_refl _) _).alloc (by simp) _)) hc0_0 (by unfold slices_Clone_int_int.f; rw [if_pos (by have := HN.out; omega)]))).mono ?_; rintro e w1 ⟨vp, rfl, hp, hb⟩; obtain ⟨Ap, cp, rfl⟩ := Kd.R_slice hp; have HP := Aside0.mk hp; obtain ⟨hb1, hk1, hk2, hs1⟩ := two_blocks hb; have HB1 := Aside0.mk hb1; have BK1 := Aside0.mk hk1; have BK2 := Aside0.mk hk2; have HS1 := Aside0.mk hs1; clear hb1 hk1 hk2 hs1 hp hb; have hz1 : w1.cell? ⟨w.heap.size, 0, none⟩ = some (.slice A0_0 l0_0.length c0_0) := (blk_cell BK1.out 0).trans rfl; have hz2 : w1.cell? ⟨w.heap.size, 1, none⟩ = some (.slice A0_1 l0_1.length c0_1) := (blk_cell BK1.out 1).trans rfl; (have hlt1 : w.heap.size < w1.heap.size := by have := HS1.out; omega))
  gi_wp2_with (gi_at_call 71; refine ((callsIn_wide (n := 5)).2 (mem_pages.calls _ _ _)).mono ?_; rintro e w2 ⟨rfl, rfl⟩)
  obtain ⟨w2, hw2⟩ : ∃ w2, (w1.alloc (Obj.cells #[Value.slice Ap l0_0.length cp, Value.slice none 0 0] 25)).alloc (Obj.cells #[Value.slice A0_0 l0_0.length c0_0, Value.slice A0_1 l0_1.length c0_1] 25) = w2 := ⟨_, rfl⟩
  rw [hw2]
  have HB2 : Below w1.heap.size w1 w2 := by rw [← hw2]; exact ((Below.refl _ w1).alloc (Nat.le_refl _) _).alloc (by simp) _
  have hs2 : w2.heap.size = w1.heap.size + 2 := by rw [← hw2]; simp
  have BK3 : w2.heap[w1.heap.size]? = some (Obj.cells #[Value.slice Ap l0_0.length cp, Value.slice none 0 0] 25) := by
    rw [← hw2]; exact (Below.heap_alloc _ _ _ (by simp)).trans (World.alloc_heap_new w1 _)
  have BK4 : w2.heap[w1.heap.size + 1]? = some (Obj.cells #[Value.slice A0_0 l0_0.length c0_0, Value.slice A0_1 l0_1.length c0_1] 25) := by
    rw [← hw2]
    have h_ := World.alloc_heap_new (w1.alloc (Obj.cells #[Value.slice Ap l0_0.length cp, Value.slice none 0 0] 25)) (Obj.cells #[Value.slice A0_0 l0_0.length c0_0, Value.slice A0_1 l0_1.length c0_1] 25)
    rw [World.size_alloc] at h_
    exact h_
  have HS := HS1.out
  clear hw2 hz1 hz2
  have hJ0 : CopyInv w w1.heap.size (w2.heap.size + 1) A0_0 c0_0 l0_0 A0_1 c0_1 l0_1 Ap cp 2 [] w2 := by
    refine ⟨.slice none 0 0, BK3, Kd.R_nil _ _ _ _ _, ?_, (HB2.block _ (by omega)).trans BK2.out, BK4, HB1.out.trans (HB2.mono (by omega)), by omega, by simp⟩
    exact Kd.R_below (Kd.R_mono (Kd.R_bound (Kd.R_lower HP.out (by simp only [World.size_alloc]; omega))) (fun k hk => by have := hk.2.2.1; omega)) HB2
  refine rangeFunc_law (R := PagesR (w1.heap.size + 1) A0_0 l0_0.length c0_0 A0_1 c0_1 l0_1) rfl (by decide) rfl f81 (enters_of Try.func81 (by kernel_rfl) rfl) (pages1_gives 5 (by decide) _ _ _ _ _ _ _ HN.out HL.out hc0_1) (fun _ => rfl)
    (CopyInv w w1.heap.size (w2.heap.size + 1) A0_0 c0_0 l0_0 A0_1 c0_1 l0_1 Ap cp 0) (fun _ _ _ => False) ?hR ?hJp ?hJb (fun _ _ _ _ h => h.elim) (fun _ _ _ _ h => h.elim) ?h0
    (CopyJ1 w w1.heap.size (w2.heap.size + 1) A0_0 c0_0 l0_0 A0_1 c0_1 l0_1 Ap cp) ?h1p ?assign ?body ?done (fun _ _ _ _ h => h.elim) (fun _ _ _ _ h => h.elim)
  case hR =>
    rintro pre W ⟨v, _, _, _, _, h5, h6, _⟩
    exact ⟨h5, Kd.C_below HR1.out h6⟩
  case hJp =>
    intro pre W o h
    exact h.put HS (by omega)
  case hJb =>
    intro pre W W' h hb
    exact h.below HS (by omega) hb
  case h0 =>
    intro r
    obtain ⟨v, a1, a2, a3, a4, a5, a6, a7, a9⟩ := hJ0.below HS (by omega) (((Below.refl _ w2).alloc (Nat.le_refl _) (.deferred (some []))).alloc (by simp) (.loop r))
    exact ⟨v, a1, a2, a3, a4, a5, a6, by simp, a9⟩
  case h1p =>
    rintro pre x a1 W o ⟨gp, h1, h2, h3, h4, h4', h5⟩
    exact ⟨gp, h1, (World.putObj_heap_other (by omega)).trans h2, h3, h4, h4', h5.put HS (by omega)⟩
  case assign =>
    rintro l pre ⟨k, pg⟩ W hi ⟨hlt, hx⟩
    have hpg : pg.length = 64 := by
      cases hx
      simp only [pageAt, List.length_take, List.length_drop]
      have := HL.out
      omega
    have hlt' := HN.out
    clear hx hJ0 BK3 BK4
    unfold pageV
    rw [fold_two]
    simp only [List.setIfInBounds_toArray, List.set_cons_zero, List.set_cons_succ]
    gi_wp2_with (refine wpListIn_storeNew (t := 121) (x := .tmp 5) (y := .tmp 13) (w0 := W) (c' := (pg.map (Value.int .u8)).toArray) rfl rfl rfl rfl rfl (by rw [List.size_toArray, List.length_map, hpg]; kernel_rfl) (by simp [hpg]) (by simp; intros; rfl) ?_)
    exact ⟨KeepsOthers.alloc W _, W.heap.size, rfl, World.alloc_heap_new W _, (by obtain ⟨_, _, _, _, _, _, _, h7, _⟩ := hi; exact h7), hpg, by omega, hi.below HS (by omega) ((Below.refl _ W).alloc (Nat.le_refl _) _)⟩
  case body =>
    rintro l pre ⟨k, pg⟩ a1 W ⟨gp, rfl, hgp, hR, hpg, hpre, hi⟩
    have hi' := hi
    obtain ⟨v, a1, a2, a3, a4, a5, a6, a7, a9⟩ := hi
    obtain ⟨Av, cv, rfl⟩ := Kd.R_slice a2
    have hz := (blk_cell a1 1).trans rfl
    have hf := blk_frozen a1 1
    clear hJ0 BK3 BK4
    have HSZ : w.heap.size + 1 < w1.heap.size ∧ w1.heap.size + 1 < w2.heap.size + 1 := ⟨HS, by omega⟩
    have HFR : ∀ k, W.drew.heap.size ≤ k → k ≠ w2.heap.size + 1 := fun k hk => by
      have h1 : W.heap.size ≤ k := hk
      omega
    have hfl : (pre.flatMap (·.2)).length ≤ 4096 := by
      have h1 := flat_len pre a9
      have h2 : pre.length < 32 := hpre
      omega
    generalize hPR : pre.flatMap (·.2) = prs at *
    have HLM : (prs.length + 64) * 1 ≤ 140737488355328 := by omega
    have HRR : ReadsRow (fun x cs => cs = [Value.int .u8 x]) 1 W.drew (some ⟨gp, 0, none⟩) 64 pg := by
      refine ⟨hpg, by decide, fun _ => ⟨_, rfl, fun j p hj => ⟨[.int .u8 p], rfl, rfl, fun i u hu => ?_⟩⟩⟩
      cases i with
      | zero =>
        have hu' : Value.int .u8 p = u := Option.some.inj hu
        subst hu'
        have hc := blk_cell hgp (j * 1 + 0)
        have e1 : (⟨gp, 0, none⟩ : Addr).add (j * 1 + 0) = ⟨gp, j * 1 + 0, none⟩ := by unfold Addr.add; split <;> simp_all
        rw [e1]
        refine (hc : W.cell? _ = _).trans ?_
        simp [hj]
      | succ i => simp at hu
    refine wpIn_block ?_
    refine startIn_ (n := 6) (S := fun w' => True) (ds := []) #[false, false, false, false, false, false] (by kernel_rfl) rfl rfl (by kernel_rfl) (by rintro ⟨_, _, h⟩; exact h) trivial (fun hHeld => ?_)
    refine with_tabW mem_copied.tab4 mem_copied.bits4 (fun HT_ HW_ => ?_)
    have FS := Aside0.mk (show W.drew = W.drew from rfl)
    refine inv_at [0, 1, 2, 3, 4, 5] (fun a0_ b a w' => ∃ (v_ : Value), a = putSel a0_ b [(0, 14, .pointer (some ⟨w1.heap.size, 1, none⟩)), (1, 15, .slice Av prs.length cv), (2, 16, .slice (some ⟨gp, 0, none⟩) 64 64), (3, 17, v_), (4, 18, .pointer (some ⟨w1.heap.size, 1, none⟩))] ∧ (b 3 = false → w' = W.drew) ∧ (b 3 = true → b 5 = false → CopyMid w w1.heap.size (w2.heap.size + 1) W A0_0 c0_0 l0_0 A0_1 c0_1 l0_1 Ap cp (.slice Av prs.length cv) (prs ++ pg) v_ w') ∧ (b 5 = true → CopyEnd w w1.heap.size (w2.heap.size + 1) W A0_0 c0_0 l0_0 A0_1 c0_1 l0_1 Ap cp (prs ++ pg) w')) HT_.out HW_.out (by kernel_rfl) (by kernel_rfl) ?_ ?_ ?_
    · exact ⟨.bool false, by simp only [putSel, Bool.false_eq_true, if_false], fun _ => rfl, fun h_ => absurd h_ (by decide), fun h_ => absurd h_ (by decide)⟩
    · skip
      clear FS
      refine steps_cons ?_ ?_
      · rintro b a w' ⟨v_, ha, Q_FS, Q_FM, Q_FE⟩ hb_ hon hoff
        refine ⟨_, rfl, fun K hK => ?_⟩
        have e3 : a.tmps[3]? = some (.pointer (some ⟨w1.heap.size, 0, none⟩)) := by rw [ha]; exact (putSel_off rfl).trans rfl
        replace ha := Aside0.mk ha
        have FS := Aside0.mk (Q_FS (hoff 3 (by kernel_rfl)))
        refine value_ (w1 := w') (v := .pointer (some ⟨w1.heap.size, 1, none⟩)) (by rfl) rfl ?_ ?_
        · go_simp
          (try simp only [i64_w])
          try rfl
        refine hK.out _ _ ⟨v_, (by rw [ha.out]; exact putSel_upk 0 hb_ rfl rfl rfl), Q_FS, fun h0_ _ => absurd ((hoff 3 (by kernel_rfl)).symm.trans h0_) (by decide), fun h0_ => absurd ((hoff 5 (by kernel_rfl)).symm.trans h0_) (by decide)⟩
      refine steps_cons ?_ ?_
      · rintro b a w' ⟨v_, ha, Q_FS, Q_FM, Q_FE⟩ hb_ hon hoff
        refine ⟨_, rfl, fun K hK => ?_⟩
        have e14 : a.tmps[14]? = some (.pointer (some ⟨w1.heap.size, 1, none⟩)) := by rw [ha]; exact putSel_on (e := (0, 14, .pointer (some ⟨w1.heap.size, 1, none⟩))) 0 rfl rfl (hon 0 (by kernel_rfl)) rfl
        replace ha := Aside0.mk ha
        have FS := Aside0.mk (Q_FS (hoff 3 (by kernel_rfl)))
        have hzz : w'.cell? ⟨w1.heap.size, 1, none⟩ = some (.slice Av prs.length cv) := by rw [FS.out]; exact hz
        refine value_ (w1 := w') (v := .slice Av prs.length cv) (by rfl) rfl ?_ ?_
        · go_simp
          (try simp only [i64_w])
          try rfl
        refine hK.out _ _ ⟨v_, (by rw [ha.out]; exact putSel_upk 1 hb_ rfl rfl rfl), Q_FS, fun h0_ _ => absurd ((hoff 3 (by kernel_rfl)).symm.trans h0_) (by decide), fun h0_ => absurd ((hoff 5 (by kernel_rfl)).symm.trans h0_) (by decide)⟩
      refine steps_cons ?_ ?_
      · rintro b a w' ⟨v_, ha, Q_FS, Q_FM, Q_FE⟩ hb_ hon hoff
        refine ⟨_, rfl, fun K hK => ?_⟩
        have e5 : a.tmps[5]? = some (.pointer (some ⟨gp, 0, none⟩)) := by rw [ha]; exact (putSel_off rfl).trans rfl
        replace ha := Aside0.mk ha
        have FS := Aside0.mk (Q_FS (hoff 3 (by kernel_rfl)))
        refine value_ (w1 := w') (v := .slice (some ⟨gp, 0, none⟩) 64 64) (by rfl) rfl ?_ ?_
        · go_simp
          (try simp only [i64_w])
          try rfl
        refine hK.out _ _ ⟨v_, (by rw [ha.out]; exact putSel_upk 2 hb_ rfl rfl rfl), Q_FS, fun h0_ _ => absurd ((hoff 3 (by kernel_rfl)).symm.trans h0_) (by decide), fun h0_ => absurd ((hoff 5 (by kernel_rfl)).symm.trans h0_) (by decide)⟩
      refine steps_cons ?_ ?_
      · rintro b a w' ⟨v_, ha, Q_FS, Q_FM, Q_FE⟩ hb_ hon hoff
        refine ⟨_, rfl, fun K hK => ?_⟩
        have e15 : a.tmps[15]? = some (.slice Av prs.length cv) := by rw [ha]; exact putSel_on (e := (1, 15, .slice Av prs.length cv)) 1 rfl rfl (hon 1 (by kernel_rfl)) rfl
        have e16 : a.tmps[16]? = some (.slice (some ⟨gp, 0, none⟩) 64 64) := by rw [ha]; exact putSel_on (e := (2, 16, .slice (some ⟨gp, 0, none⟩) 64 64)) 2 rfl rfl (hon 2 (by kernel_rfl)) rfl
        replace ha := Aside0.mk ha
        have FS := Aside0.mk (Q_FS hb_)
        have a2_ : Kd.R (Kd.int .u8) 5 w' w.heap.size (fun k => k ≠ w2.heap.size + 1) (.slice Av prs.length cv) prs := by rw [FS.out]; exact Kd.R_below a2 (Below.refl _ W).drew
        have HRR_ : ReadsRow (fun x cs => cs = [Value.int .u8 x]) 1 w' (some ⟨gp, 0, none⟩) 64 pg := by rw [FS.out]; exact HRR
        have HFR_ : ∀ k, w'.heap.size ≤ k → k ≠ w2.heap.size + 1 := by rw [FS.out]; exact HFR
        have a6_ : Below w.heap.size w w' := by rw [FS.out]; exact a6.drew
        refine Kd.R_append_rows_step (Kd.int .u8) (Rr := fun x cs => cs = [.int .u8 x]) (w0 := w) w.heap.size (by rfl) (.tmp 15) (.tmp 16) 23 5 (.int .u8 0) 1 rfl Try.underlying23 cinfo5 rfl (by decide) (by decide) (.slice Av prs.length cv) prs pg (some ⟨gp, 0, none⟩) 64 64 (fun k => k ≠ w2.heap.size + 1) (fun _ => False) (by simp [Act.eval, e15]) (by simp [Act.eval, e16]) a2_ HRR_ (fun _ _ h => h) (fun _ h => h.elim) (fun k hk => HFR_ k hk) a6_ a6_.size HLM ?_
        intro v1 W1 hO hB1 hg hat
        refine hK.out _ _ ⟨v1, (by rw [ha.out]; exact putSel_upk 3 hb_ rfl rfl rfl), fun h0_ => absurd ((up_self b 3).symm.trans h0_) (by decide), fun _ _ => copyMid_of hi' a1 hO hB1 (by rw [← FS.out]; exact hg) (by rw [← FS.out]; exact hat) HSZ, fun h0_ => absurd ((hoff 5 (by kernel_rfl)).symm.trans h0_) (by decide)⟩
      refine steps_cons ?_ ?_
      · rintro b a w' ⟨v_, ha, Q_FS, Q_FM, Q_FE⟩ hb_ hon hoff
        refine ⟨_, rfl, fun K hK => ?_⟩
        have e3 : a.tmps[3]? = some (.pointer (some ⟨w1.heap.size, 0, none⟩)) := by rw [ha]; exact (putSel_off rfl).trans rfl
        replace ha := Aside0.mk ha
        have FM := Aside0.mk (Q_FM (hon 3 (by kernel_rfl)) (hoff 5 (by kernel_rfl)))
        refine value_ (w1 := w') (v := .pointer (some ⟨w1.heap.size, 1, none⟩)) (by rfl) rfl ?_ ?_
        · go_simp
          (try simp only [i64_w])
          try rfl
        refine hK.out _ _ ⟨v_, (by rw [ha.out]; exact putSel_upk 4 hb_ rfl rfl rfl), fun h0_ => absurd ((hon 3 (by kernel_rfl)).symm.trans h0_) (by decide), Q_FM, fun h0_ => absurd ((hoff 5 (by kernel_rfl)).symm.trans h0_) (by decide)⟩
      refine steps_cons ?_ ?_
      · rintro b a w' ⟨v_, ha, Q_FS, Q_FM, Q_FE⟩ hb_ hon hoff
        refine ⟨_, rfl, fun K hK => ?_⟩
        have e18 : a.tmps[18]? = some (.pointer (some ⟨w1.heap.size, 1, none⟩)) := by rw [ha]; exact putSel_on (e := (4, 18, .pointer (some ⟨w1.heap.size, 1, none⟩))) 4 rfl rfl (hon 4 (by kernel_rfl)) rfl
        have e17 : a.tmps[17]? = some (v_) := by rw [ha]; exact putSel_on (e := (3, 17, v_)) 3 rfl rfl (hon 3 (by kernel_rfl)) rfl
        replace ha := Aside0.mk ha
        have FM := Aside0.mk (Q_FM (hon 3 (by kernel_rfl)) hb_)
        obtain ⟨Av1, cv1, hv⟩ := FM.out.slice_
        rw [hv] at e17
        have hzz := FM.out.cell_
        have hff := FM.out.frozen_
        refine skip_ (w1 := w'.setCell ⟨w1.heap.size, 1, none⟩ v_) (by rfl) rfl ?_ ?_
        · rw [hv]
          go_simp
          (try rfl)
        refine hK.out _ _ ⟨v_, (by rw [ha.out]; exact putSel_none (v := undef) rfl), fun h0_ => absurd ((hon 3 (by kernel_rfl)).symm.trans h0_) (by decide), fun _ h1_ => absurd ((up_self b 5).symm.trans h1_) (by decide), fun _ => FM.out.end_ HSZ⟩
      exact steps_nil
    · rintro b a w' hall ⟨v_, ha, Q_FS, Q_FM, Q_FE⟩
      clear FS
      have hb0_ := hall 0 (by kernel_rfl)
      have hb1_ := hall 1 (by kernel_rfl)
      have hb2_ := hall 2 (by kernel_rfl)
      have hb3_ := hall 3 (by kernel_rfl)
      have hb4_ := hall 4 (by kernel_rfl)
      have hb5_ := hall 5 (by kernel_rfl)
      subst ha
      simp only [putSel, hb0_, hb1_, hb2_, hb3_, hb4_, hb5_, if_true, Act.put, List.setIfInBounds_toArray, List.set_cons_zero, List.set_cons_succ]
      clear Q_FS
      clear Q_FM
      have FE := Aside0.mk (Q_FE hb5_)
      clear Q_FE
      clear hall hb0_ hb1_ hb2_ hb3_ hb4_ hb5_
      exact ⟨FE.out.1, FE.out.2 _ (by rw [← hPR]; simp) (by intro x hx; rcases List.mem_append.1 hx with hx | hx; exact a9 x hx; rw [List.mem_singleton.1 hx]; exact hpg)⟩
  case done =>
    rintro D xs W rfl ⟨v, a1, a2, a3, a4, a5, a6, a7, a9⟩ hD hDs
    obtain ⟨Av, cv, rfl⟩ := Kd.R_slice a2
    rw [pages_flat l0_1 _ HL.out] at a1 a2
    have z0 := (blk_cell a1 0).trans rfl
    have z1 := (blk_cell a1 1).trans rfl
    have r0 := (blk_cell a4 0).trans rfl
    have r1 := (blk_cell a4 1).trans rfl
    have f0 := blk_frozen a4 0
    have f1 := blk_frozen a4 1
    clear hJ0 BK3 BK4
    gi_wp2
    refine ⟨by simp, .inl ⟨_, _, rfl, run_takeDeferred (((KeepsOthers.setCell _ _ _).same D _ ((KeepsOthers.setCell _ _ _).same D _ hD rfl) rfl)), ?_⟩⟩
    have s1 := heap_setCell_same W (w.heap.size + 1) 0 _ 25 (.slice Ap l0_0.length cp) a4
    have s2 := heap_setCell_same (W.setCell ⟨w.heap.size + 1, 0, none⟩ (.slice Ap l0_0.length cp)) (w.heap.size + 1) 1 _ 25 (.slice Av l0_1.length cv) s1
    have hD2 : ((W.setCell ⟨w.heap.size + 1, 0, none⟩ (.slice Ap l0_0.length cp)).setCell ⟨w.heap.size + 1, 1, none⟩ (.slice Av l0_1.length cv)).heap[D]? = some (.deferred (some [])) := (KeepsOthers.setCell _ _ _).same D _ ((KeepsOthers.setCell _ _ _).same D _ hD rfl) rfl
    have q1 := Kd.R_set (Kd.R_set a3 a4 (by decide) 0 (.slice Ap l0_0.length cp)) s1 (by decide) 1 (.slice Av l0_1.length cv)
    have q2 := Kd.R_set (Kd.R_set a2 a4 (by decide) 0 (.slice Ap l0_0.length cp)) s1 (by decide) 1 (.slice Av l0_1.length cv)
    have q3 := (a6.setCell (p := ⟨w.heap.size + 1, 0, none⟩) (by simp) (.slice Ap l0_0.length cp)).setCell (p := ⟨w.heap.size + 1, 1, none⟩) (by simp) (.slice Av l0_1.length cv)
    generalize (W.setCell ⟨w.heap.size + 1, 0, none⟩ (.slice Ap l0_0.length cp)).setCell ⟨w.heap.size + 1, 1, none⟩ (.slice Av l0_1.length cv) = W5 at *
    have ne : ∀ k, k ≠ D → (W5.putObj D (.deferred none)).heap[k]? = W5.heap[k]? := fun k hk => World.putObj_heap_other hk
    have hne : w.heap.size + 1 ≠ D := by omega
    refine ⟨_, results_cell_row rfl _ _ (w.heap.size + 1) 25 _ (0, 0) _ rfl ((ne _ hne).trans s2) Try.underlying25 rfl (by kernel_rfl), _, _, rfl, ?_, ?_, ?_⟩
    · exact Kd.R_mono (Kd.R_step (Kd.R_bound q1) (fun k hk _ => ne k (fun e => by obtain ⟨_, _, _, q, _, cs, hc⟩ := hk; rw [e, hD2] at hc; cases hc))) (fun _ _ => trivial)
    · exact Kd.R_mono (Kd.R_step (Kd.R_bound q2) (fun k hk _ => ne k (fun e => by obtain ⟨_, _, _, q, _, cs, hc⟩ := hk; rw [e, hD2] at hc; cases hc))) (fun _ _ => trivial)
    · exact q3.trans ⟨rfl, rfl, rfl, by simp, fun k hk => ne k (by omega)⟩

theorem mem_copied.calls (A0_0 : Option Addr) (c0_0 : Nat) (l0_0 : List Int) (A0_1 : Option Addr) (c0_1 : Nat) (l0_1 : List Int) (r1 r2 : List Int) (w : World) (hr0_0 : Kd.C (Kd.int .i64) w A0_0 l0_0.length l0_0) (hc0_0 : l0_0.length ≤ c0_0) (hr0_1 : Kd.C (Kd.int .u8) w A0_1 l0_1.length l0_1) (hc0_1 : l0_1.length ≤ c0_1) (h : mem_copied.f l0_0 l0_1 = some (r1, r2)) :
    Calls Try.prog 52 #[.agg #[.slice A0_0 l0_0.length c0_0, .slice A0_1 l0_1.length c0_1]] w fun e w' => ∃ v0_ v1_ : Value, e = .returned (.agg #[v0_, v1_]) ∧ Kd.R (Kd.int .i64) 3 w' w.heap.size (fun _ => True) v0_ r1 ∧ Kd.R (Kd.int .u8) 5 w' w.heap.size (fun _ => True) v1_ r2 ∧ Below w.heap.size w w' := by
  unfold mem_copied.f at h
  by_cases hc : l0_0.length ≤ 32 ∧ l0_1.length = 64 * l0_0.length
  · rw [if_pos hc] at h
    simp only [Option.some.injEq, Prod.mk.injEq] at h
    obtain ⟨rfl, rfl⟩ := h
    exact (callsIn_wide (n := 6)).1 (mem_copied.walk A0_0 c0_0 _ A0_1 c0_1 _ w hr0_0 hc0_0 hr0_1 hc0_1 hc.1 hc.2)
  · rw [if_neg hc] at h
    cases h
end Go.Proofs.Ytmpdimigpaogkaa.G
end
section
namespace Go.Proofs.Ytmpdimigpaogkaa.G
open Go.RowKit Go.Proofs.YtmpdimigpaogkaaW.PrintWords Go.Proofs.YtmpdimigpaogkaaW.PrintLast Go.ChangeMaps

/-- The first entry whose key meets eqv. -/
def firstBy (eqv : Value → Bool) : List MapEntry → Nat → Option (Nat × Value)
  | [], _ => none
  | e :: es, i => if eqv e.key = true then some (i, e.val) else firstBy eqv es (i + 1)

/-- Looking x up among keys of K goes by eqv. -/
def Finds (P : Program) (kt : TypeId) (x : Value) (eqv : Value → Bool) (K : Value → Prop) : Prop :=
  (∀ w em, (Instr.checkKey em 10000 kt x).run P w = .ok () w) ∧
  ∀ (w : World) (es : List MapEntry), (∀ e ∈ es, K e.key) → (Instr.findKey kt x es).run P w = .ok (firstBy eqv es 0) w

theorem findAsking_by {P : Program} {kt : TypeId} {x : Value} {eqv : Value → Bool} {w : World} : ∀ (es : List MapEntry) (i : Nat), (∀ e ∈ es, (Op.equal kt x e.key).run P w = .ok (eqv e.key) w) →
    (Instr.findAsking kt x es i).run P w = .ok (firstBy eqv es i) w
  | [], _, _ => by simp [Instr.findAsking, firstBy]
  | e :: es, i, h => by
    have h1 := h e (by simp)
    have ih := findAsking_by es (i + 1) (fun e' he => h e' (by simp [he]))
    unfold Instr.findAsking firstBy
    simp only [Sem.run_bind, h1, Result.andThen_ok]
    cases hb : eqv e.key
    · simp [ih]
    · simp

theorem finds_struct {P : Program} {kt : TypeId} {x : Value} {eqv : Value → Bool} {K : Value → Prop} {fs : Array Field} (hk : P.underlying kt = some (.struct fs)) (hc : ∀ w em, (Instr.checkKey em 10000 kt x).run P w = .ok () w)
    (heq : ∀ w k, K k → (Op.equal kt x k).run P w = .ok (eqv k) w) : Finds P kt x eqv K := by
  refine ⟨hc, fun w es hes => ?_⟩
  unfold Instr.findKey
  simp only [Sem.run_bind, run_underlying hk, Result.andThen_ok]
  cases es with
  | nil => simp [Instr.findNow, firstBy]
  | cons e es =>
    have : Instr.findNow (.struct fs) x (e :: es) 0 = none := by
      unfold Instr.findNow
      rfl
    rw [this]
    exact findAsking_by _ _ (fun e' he => heq w _ (hes e' he))

/-- Is it this number? -/
def isInt (x : Int) : Value → Bool
  | .int _ n => x == n
  | _ => false

theorem findNow_by {k : IntKind} {x : Int} : ∀ (es : List MapEntry) (i : Nat), (∀ e ∈ es, ∃ n, e.key = .int k n) → Instr.findNow (.int k) (.int k x) es i = some (firstBy (isInt x) es i)
  | [], _, _ => rfl
  | e :: es, i, h => by
    obtain ⟨n, hn⟩ := h e (by simp)
    have ih := findNow_by (x := x) es (i + 1) (fun e' he => h e' (by simp [he]))
    have e1 : Instr.sameNow (.int k) (.int k x) (.int k n) = some (isInt x (.int k n)) := by simp [Instr.sameNow, isInt]
    unfold Instr.findNow firstBy
    rw [hn, e1]
    cases isInt x (.int k n) <;> simp [ih]

theorem finds_int {P : Program} {kt : TypeId} {k : IntKind} {x : Int} {K : Value → Prop} (hk : P.underlying kt = some (.int k)) (hK : ∀ v, K v → ∃ n, v = .int k n) : Finds P kt (.int k x) (isInt x) K := by
  refine ⟨fun w em => ?_, fun w es hes => ?_⟩
  · unfold Instr.checkKey
    simp [run_underlying hk]
  · unfold Instr.findKey
    simp only [Sem.run_bind, run_underlying hk, Result.andThen_ok]
    rw [findNow_by es 0 (fun e he => hK _ (hes e he))]
    simp

/-- Block g of w is a map that holds just the rows of L whose number is listed in b: (number, key, value). -/
def MapOf (w : World) (g : Nat) (L : List (Nat × Value × Value)) (b : Nat → Bool) : Prop :=
  ∃ es clock, w.heap[g]? = some (.map es clock) ∧ (∀ e ∈ es.toList, ∃ l ∈ L, b l.1 = true ∧ l.2 = (e.key, e.val)) ∧ ∀ l ∈ L, b l.1 = true → ∃ e ∈ es.toList, l.2 = (e.key, e.val)

theorem MapOf.block {w w' : World} {g : Nat} {L : List (Nat × Value × Value)} {b : Nat → Bool} (h : MapOf w g L b) (he : w'.heap[g]? = w.heap[g]?) : MapOf w' g L b := by
  obtain ⟨es, c, h1, h2⟩ := h
  exact ⟨es, c, he.trans h1, h2⟩

theorem MapOf.lt {w : World} {g : Nat} {L : List (Nat × Value × Value)} {b : Nat → Bool} (h : MapOf w g L b) : g < w.heap.size := by
  obtain ⟨es, c, h1, _⟩ := h
  exact (Array.getElem?_eq_some_iff.1 h1).1

theorem MapOf.made (w : World) (L : List (Nat × Value × Value)) (b : Nat → Bool) (hb : ∀ l ∈ L, b l.1 = false) : MapOf (w.alloc (.map #[] 0)) w.heap.size L b :=
  ⟨#[], 0, (MapKept.heap_alloc w _).1, by simp, fun l hl h => by rw [hb l hl] at h; cases h⟩

theorem MapOf.same {w : World} {g : Nat} {L : List (Nat × Value × Value)} {b b' : Nat → Bool} (h : MapOf w g L b) (he : ∀ l ∈ L, b' l.1 = b l.1) : MapOf w g L b' := by
  obtain ⟨es, c, h1, h2, h3⟩ := h
  refine ⟨es, c, h1, fun e he' => ?_, fun l hl hb => h3 l hl (by rw [← he l hl]; exact hb)⟩
  obtain ⟨l, hl, hb, e1⟩ := h2 e he'
  exact ⟨l, hl, by rw [he l hl]; exact hb, e1⟩

theorem firstBy_none {eqv : Value → Bool} : ∀ {es : List MapEntry} {i : Nat}, (∀ e ∈ es, eqv e.key = false) → firstBy eqv es i = none
  | [], _, _ => rfl
  | e :: es, i, h => by
    unfold firstBy
    rw [if_neg (by rw [h e (by simp)]; decide)]
    exact firstBy_none (fun e' he => h e' (by simp [he]))

theorem firstBy_some {eqv : Value → Bool} : ∀ {es : List MapEntry} {i : Nat}, (∃ e ∈ es, eqv e.key = true) → ∃ j e, e ∈ es ∧ eqv e.key = true ∧ firstBy eqv es i = some (j, e.val)
  | [], _, ⟨_, h, _⟩ => by cases h
  | e :: es, i, h => by
    unfold firstBy
    by_cases hb : eqv e.key = true
    · rw [if_pos hb]
      exact ⟨i, e, by simp, hb, rfl⟩
    · rw [if_neg hb]
      obtain ⟨e', he', hb'⟩ := h
      rcases List.mem_cons.1 he' with rfl | he'
      · exact absurd hb' hb
      obtain ⟨j, e1, h1, h2, h3⟩ := firstBy_some (i := i + 1) ⟨e', he', hb'⟩
      exact ⟨j, e1, by simp [h1], h2, h3⟩

/-- A row is put into the map. -/
theorem MapOf.put {P : Program} {w : World} {g t kt et : Nat} {L : List (Nat × Value × Value)} {b : Nat → Bool} (h : MapOf w g L b) (ht : P.underlying t = some (.map kt et)) {i : Nat} {x v : Value} (hi : (i, x, v) ∈ L)
    {eqv : Value → Bool} (hF : Finds P kt x eqv (fun k => ∃ l ∈ L, l.2.1 = k)) (hne : ∀ l ∈ L, b l.1 = true → eqv l.2.1 = false) (huniq : ∀ l ∈ L, l.1 = i → l = (i, x, v)) :
    ∃ w', (Instr.mapUpdate t (.map (some g)) x v).run P w = .ok () w' ∧ MapOf w' g L (up b i) ∧ w.grownBy w' (some g) := by
  obtain ⟨es, c, h1, h2, h3⟩ := h
  have hf := hF.2 w es.toList (fun e he => by
    obtain ⟨l, hl, _, e1⟩ := h2 e he
    exact ⟨l, hl, by rw [e1]⟩)
  rw [firstBy_none (fun e he => by
    obtain ⟨l, hl, hb, e1⟩ := h2 e he
    have := hne l hl hb
    rwa [e1] at this)] at hf
  refine ⟨setBlock w g (.map (es.push ⟨x, v, c⟩) (c + 1)), ?_, ⟨es.push ⟨x, v, c⟩, c + 1, heap_setBlock_same h1 _, fun e he => ?_, fun l hl hb => ?_⟩, ⟨rfl, rfl, rfl, by simp [setBlock], fun i _ hi => heap_setBlock_other h1 _ (fun e => hi (by rw [e]))⟩⟩
  · simp [Instr.mapUpdate, run_underlying ht, MapKept.run_getObj_map h1, hF.1 w false, hf, MapKept.run_setObj_map _ h1, Result.andThen, setBlock]
  · simp only [Array.toList_push, List.mem_append, List.mem_singleton] at he
    rcases he with he | rfl
    · obtain ⟨l, hl, hb, e1⟩ := h2 e he
      refine ⟨l, hl, ?_, e1⟩
      unfold up
      split
      · rfl
      · exact hb
    · exact ⟨_, hi, up_self b i, rfl⟩
  · by_cases hli : l.1 = i
    · rw [huniq l hl hli]
      exact ⟨⟨x, v, c⟩, by simp, rfl⟩
    · rw [up_ne hli] at hb
      obtain ⟨e, he, e1⟩ := h3 l hl hb
      exact ⟨e, by simp [he], e1⟩

/-- What a key finds: the value of the one row that it meets, or nothing. -/
theorem MapOf.find {P : Program} {w : World} {g kt : Nat} {L : List (Nat × Value × Value)} {b : Nat → Bool} {x : Value} {eqv : Value → Bool} (h : MapOf w g L b) (hall : ∀ l ∈ L, b l.1 = true) (hF : Finds P kt x eqv (fun k => ∃ l ∈ L, l.2.1 = k)) :
    ∃ es clock, w.heap[g]? = some (.map es clock) ∧ (((∀ l ∈ L, eqv l.2.1 = false) ∧ (Instr.findKey kt x es.toList).run P w = .ok none w) ∨
      ∃ j l, l ∈ L ∧ eqv l.2.1 = true ∧ (Instr.findKey kt x es.toList).run P w = .ok (some (j, l.2.2)) w) := by
  obtain ⟨es, c, h1, h2, h3⟩ := h
  refine ⟨es, c, h1, ?_⟩
  have hf := hF.2 w es.toList (fun e he => by
    obtain ⟨l, hl, _, e1⟩ := h2 e he
    exact ⟨l, hl, by rw [e1]⟩)
  by_cases hex : ∃ l ∈ L, eqv l.2.1 = true
  · obtain ⟨l, hl, hb⟩ := hex
    obtain ⟨e, he, e1⟩ := h3 l hl (hall l hl)
    obtain ⟨j, e', he', hb', hj⟩ := firstBy_some (eqv := eqv) (i := 0) ⟨e, he, by rw [e1] at hb; exact hb⟩
    obtain ⟨l', hl', _, e1'⟩ := h2 e' he'
    refine .inr ⟨j, l', hl', by rw [e1']; exact hb', ?_⟩
    rw [hf, hj, e1']
  · have hn : ∀ l ∈ L, eqv l.2.1 = false := fun l hl => by
      cases hb : eqv l.2.1
      · rfl
      · exact absurd ⟨l, hl, hb⟩ hex
    refine .inl ⟨hn, ?_⟩
    rw [hf, firstBy_none (fun e he => by
      obtain ⟨l, hl, _, e1⟩ := h2 e he
      have := hn l hl
      rwa [e1] at this)]

/-- 'v, ok := m[x]' and 'm[x]', the key there. -/
theorem MapOf.look {P : Program} {w : World} {g t kt et : Nat} {L : List (Nat × Value × Value)} {b : Nat → Bool} {x : Value} {eqv : Value → Bool} (h : MapOf w g L b) (hall : ∀ l ∈ L, b l.1 = true) (ht : P.underlying t = some (.map kt et))
    (hF : Finds P kt x eqv (fun k => ∃ l ∈ L, l.2.1 = k)) {v : Value} (hex : ∃ l ∈ L, eqv l.2.1 = true) (hv : ∀ l ∈ L, eqv l.2.1 = true → l.2.2 = v) (c : Bool) :
    (Instr.lookup t (.map (some g)) x c).run P w = .ok (if c = true then .tuple #[v, .bool true] else v) w := by
  obtain ⟨es, clk, h1, h2⟩ := h.find hall hF
  obtain ⟨l0, hl0, hb0⟩ := hex
  rcases h2 with ⟨hn, _⟩ | ⟨j, l, hl, hb, hrun⟩
  · rw [hn l0 hl0] at hb0
    cases hb0
  · have := hv l hl hb
    subst this
    cases c <;> simp [Instr.lookup, run_underlying ht, MapKept.run_getObj_map h1, hF.1 w _, hrun, Result.andThen]

/-- .. and not there. -/
theorem MapOf.look_none {P : Program} {w : World} {g t kt et : Nat} {L : List (Nat × Value × Value)} {b : Nat → Bool} {x : Value} {eqv : Value → Bool} (h : MapOf w g L b) (hall : ∀ l ∈ L, b l.1 = true) (ht : P.underlying t = some (.map kt et))
    (hF : Finds P kt x eqv (fun k => ∃ l ∈ L, l.2.1 = k)) {z : Value} (hz : (zeroValue et).run P w = .ok z w) (hv : ∀ l ∈ L, eqv l.2.1 = false) (c : Bool) :
    (Instr.lookup t (.map (some g)) x c).run P w = .ok (if c = true then .tuple #[z, .bool false] else z) w := by
  obtain ⟨es, clk, h1, h2⟩ := h.find hall hF
  rcases h2 with ⟨_, hrun⟩ | ⟨j, l, hl, hb, _⟩
  · cases c <;> simp [Instr.lookup, run_underlying ht, MapKept.run_getObj_map h1, hF.1 w _, hrun, hz, Result.andThen]
  · rw [hv l hl] at hb
    cases hb
end Go.Proofs.Ytmpdimigpaogkaa.G
end
section
-- PRINTED BY print.sh 35421559b90ae4d0a3588c463048766b98c2df88dd9212a6774a882060cdf62d: not written by this session

namespace Go.Proofs.YtmpdimigpaogkaaW.PrintWords
open Go.RowKit
section
variable {P : Program} {d : Nat} {xs ys : Array Value} {f : Field} {fs : List Field} {a b : Value} {r s : Bool} {w : World}
/-- The last field that counts. -/
theorem eqf_last (hn : (f.name == "_") = false) (ha : (part f.type xs f.offset).run P w = .ok a w) (hb : (part f.type ys f.offset).run P w = .ok b w) (he : (Op.equalIn d f.type a b).run P w = .ok r w) : (Op.eqFields d xs ys [f]).run P w = .ok r w := by
  have hn' : f.name ≠ "_" := by simpa using hn
  simp only [Op.eqFields, if_pos hn', Sem.run_bind, ha, hb, he, Result.andThen_ok]
  cases r <;> simp
theorem eqf_cons (hn : (f.name == "_") = false) (ha : (part f.type xs f.offset).run P w = .ok a w) (hb : (part f.type ys f.offset).run P w = .ok b w) (he : (Op.equalIn d f.type a b).run P w = .ok r w) (hr : (Op.eqFields d xs ys fs).run P w = .ok s w) : (Op.eqFields d xs ys (f :: fs)).run P w = .ok (r && s) w := by
  have hn' : f.name ≠ "_" := by simpa using hn
  rw [Op.eqFields]
  simp only [if_pos hn', Sem.run_bind, ha, hb, he, Result.andThen_ok]
  cases r
  · simp
  · simpa using hr
theorem eqA_of {t : TypeId} {fs : Array Field} (hu : P.underlying t = some (.struct fs)) (hp : P.stoodInHeld t = false) (h : (Op.eqFields d xs ys fs.toList).run P w = .ok r w) : (Op.equalIn (d + 1) t (.agg xs) (.agg ys)).run P w = .ok r w := by
  have hf : P.fieldsOf t = fs := by simp [Program.fieldsOf, hu]
  rw [run_equalIn_struct (P := P) w d t xs ys (by rw [hf]; exact hu) hp, hf]
  exact h
end
end Go.Proofs.YtmpdimigpaogkaaW.PrintWords
end
section
namespace Go.Proofs.Ytmpdimigpaogkaa.G
open Go.RowKit Go.Proofs.YtmpdimigpaogkaaW.PrintWords Go.Proofs.YtmpdimigpaogkaaW.PrintLast Go.Proofs.YtmpdimigpaogkaaW.PrintMore Go.ChangeMaps
theorem eqA29 (d : Nat) (w : World) (x0 y0 : Int) (x1 y1 : Bool) :
    (Op.equalIn (d + 2) 29 (.agg #[.int .i64 x0, .bool x1]) (.agg #[.int .i64 y0, .bool y1])).run Try.prog w = .ok (x0 == y0 && (x1 == y1)) w := by
  refine eqA_of Try.underlying29 (by kernel_rfl) ?_
  refine eqf_cons (by rfl) (by go_simp; rfl) (by go_simp; rfl) (by go_simp) ?_
  exact eqf_last (by rfl) (by go_simp; rfl) (by go_simp; rfl) (by go_simp)
/-- Is it this type? -/
def isTy (s : Int) (b : Bool) : Value → Bool
  | .agg ⟨[.int _ n, .bool c]⟩ => s == n && b == c
  | _ => false
def conversions.L : List (Nat × Value × Value) := [(2, (.agg #[.int .i64 1, .bool true]), (.func (.func 73) #[] #[])), (4, (.agg #[.int .i64 1, .bool false]), (.func (.func 74) #[] #[])), (6, (.agg #[.int .i64 2, .bool true]), (.func (.func 75) #[] #[])), (8, (.agg #[.int .i64 2, .bool false]), (.func (.func 76) #[] #[])), (10, (.agg #[.int .i64 4, .bool true]), (.func (.func 77) #[] #[])), (12, (.agg #[.int .i64 4, .bool false]), (.func (.func 78) #[] #[])), (14, (.agg #[.int .i64 8, .bool true]), (.func (.func 79) #[] #[])), (16, (.agg #[.int .i64 8, .bool false]), (.func (.func 80) #[] #[]))]
theorem conversions.ht : Try.prog.underlying 113 = some (.map 29 111) := Try.underlying113
theorem conversions.keys (v : Value) (h : ∃ l ∈ conversions.L, l.2.1 = v) : ∃ n c, v = .agg #[.int .i64 n, .bool c] := by
  obtain ⟨l, hl, rfl⟩ := h
  simp [conversions.L] at hl
  rcases hl with rfl | rfl | rfl | rfl | rfl | rfl | rfl | rfl <;> exact ⟨_, _, rfl⟩
theorem conversions.finds (s : Int) (b : Bool) : Finds Try.prog 29 (.agg #[.int .i64 s, .bool b]) (isTy s b) (fun k => ∃ l ∈ conversions.L, l.2.1 = k) := by
  refine finds_struct Try.underlying29 (fun w em => by
    unfold Instr.checkKey
    have h1 : ∀ (em : Bool) w, (Instr.checkKey em 9999 3 (.int .i64 s)).run Try.prog w = .ok () w := fun em w => by unfold Instr.checkKey; simp [run_underlying Try.underlying3]
    have h2 : ∀ (em : Bool) w, (Instr.checkKey em 9999 4 (.bool b)).run Try.prog w = .ok () w := fun em w => by unfold Instr.checkKey; simp [run_underlying Try.underlying4]
    go_simp
    done) ?_
  intro w k hk
  obtain ⟨n, c, rfl⟩ := conversions.keys k hk
  exact eqA29 _ w s n b c
theorem conversions.apart2 (b : Nat → Bool) (hb : b 2 = false) : ∀ l ∈ conversions.L, b l.1 = true → isTy 1 true l.2.1 = false := by
  intro l hl h
  simp [conversions.L] at hl
  rcases hl with rfl | rfl | rfl | rfl | rfl | rfl | rfl | rfl <;> first | rfl | (simp only at h; rw [hb] at h; cases h)
theorem conversions.apart4 (b : Nat → Bool) (hb : b 4 = false) : ∀ l ∈ conversions.L, b l.1 = true → isTy 1 false l.2.1 = false := by
  intro l hl h
  simp [conversions.L] at hl
  rcases hl with rfl | rfl | rfl | rfl | rfl | rfl | rfl | rfl <;> first | rfl | (simp only at h; rw [hb] at h; cases h)
theorem conversions.apart6 (b : Nat → Bool) (hb : b 6 = false) : ∀ l ∈ conversions.L, b l.1 = true → isTy 2 true l.2.1 = false := by
  intro l hl h
  simp [conversions.L] at hl
  rcases hl with rfl | rfl | rfl | rfl | rfl | rfl | rfl | rfl <;> first | rfl | (simp only at h; rw [hb] at h; cases h)
theorem conversions.apart8 (b : Nat → Bool) (hb : b 8 = false) : ∀ l ∈ conversions.L, b l.1 = true → isTy 2 false l.2.1 = false := by
  intro l hl h
  simp [conversions.L] at hl
  rcases hl with rfl | rfl | rfl | rfl | rfl | rfl | rfl | rfl <;> first | rfl | (simp only at h; rw [hb] at h; cases h)
theorem conversions.apart10 (b : Nat → Bool) (hb : b 10 = false) : ∀ l ∈ conversions.L, b l.1 = true → isTy 4 true l.2.1 = false := by
  intro l hl h
  simp [conversions.L] at hl
  rcases hl with rfl | rfl | rfl | rfl | rfl | rfl | rfl | rfl <;> first | rfl | (simp only at h; rw [hb] at h; cases h)
theorem conversions.apart12 (b : Nat → Bool) (hb : b 12 = false) : ∀ l ∈ conversions.L, b l.1 = true → isTy 4 false l.2.1 = false := by
  intro l hl h
  simp [conversions.L] at hl
  rcases hl with rfl | rfl | rfl | rfl | rfl | rfl | rfl | rfl <;> first | rfl | (simp only at h; rw [hb] at h; cases h)
theorem conversions.apart14 (b : Nat → Bool) (hb : b 14 = false) : ∀ l ∈ conversions.L, b l.1 = true → isTy 8 true l.2.1 = false := by
  intro l hl h
  simp [conversions.L] at hl
  rcases hl with rfl | rfl | rfl | rfl | rfl | rfl | rfl | rfl <;> first | rfl | (simp only at h; rw [hb] at h; cases h)
theorem conversions.apart16 (b : Nat → Bool) (hb : b 16 = false) : ∀ l ∈ conversions.L, b l.1 = true → isTy 8 false l.2.1 = false := by
  intro l hl h
  simp [conversions.L] at hl
  rcases hl with rfl | rfl | rfl | rfl | rfl | rfl | rfl | rfl <;> first | rfl | (simp only at h; rw [hb] at h; cases h)
def conversions.T1 : Bool × List (List Nat × List Nat) := (true, [([], []), ([], []), ([0, 1], [0, 1]), ([], []), ([0, 3], [0, 3]), ([], []), ([0, 5], [0, 5]), ([], []), ([0, 7], [0, 7]), ([], []), ([0, 9], [0, 9]), ([], []), ([0, 11], [0, 11]), ([], []), ([0, 13], [0, 13]), ([], []), ([0, 15], [0, 15]), ([0, 1, 2, 3, 4, 5, 6, 7, 8, 9, 10, 11, 12, 13, 14, 15, 16], [0]), ([17, 0, 1, 2, 3, 4, 5, 6, 7, 8, 9, 10, 11, 12, 13, 14, 15, 16, 17], [17])])
def conversions.B1 : List Nat := [0, 0, 3, 0, 9, 0, 33, 0, 129, 0, 513, 0, 2049, 0, 8193, 0, 32769, 131071, 262143]
theorem conversions.tab1 : rtab .any (opsOf Try.f68 1) = conversions.T1 := by kernel_rfl
theorem conversions.bits1 : waitsOk conversions.T1.2 conversions.B1 = true := by kernel_rfl
set_option maxHeartbeats 2000000 in
set_option maxRecDepth 100000 in
theorem conversions.calls (w : World) : Calls Try.prog 68 #[] w fun e w' => ∃ g, e = .returned (.map (some g)) ∧ w.heap.size ≤ g ∧ MapOf w' g conversions.L (fun _ => true) ∧ Below w.heap.size w w' := by
  go_enter Try.func68, Try.ntmps68
  go_wp2
  refine start_ (n := 19) (S := fun w' => True) (ds := []) #[false, false, false, false, false, false, false, false, false, false, false, false, false, false, false, false, false, false, false] (by kernel_rfl) rfl rfl trivial (fun hHeld => ?_)
  refine with_tabW conversions.tab1 conversions.bits1 (fun HT_ HW_ => ?_)
  refine pure_ (i := 1) (N := some 2) (v := (.agg #[.int .i64 1, .bool true])) #[false, true, false, false, false, false, false, false, false, false, false, false, false, false, false, false, false, false, false] rfl rfl (any_of HT_.out (by kernel_rfl)) (fun _ _ _ h => h) (Or.inl ⟨by rfl, fun w' => by first | (go_simp; done) | (go_simp; rfl)⟩) rfl ?_
  refine pure_ (i := 3) (N := some 3) (v := (.agg #[.int .i64 1, .bool false])) #[false, true, false, true, false, false, false, false, false, false, false, false, false, false, false, false, false, false, false] rfl rfl (any_of HT_.out (by kernel_rfl)) (fun _ _ _ h => h) (Or.inl ⟨by rfl, fun w' => by first | (go_simp; done) | (go_simp; rfl)⟩) rfl ?_
  refine pure_ (i := 5) (N := some 4) (v := (.agg #[.int .i64 2, .bool true])) #[false, true, false, true, false, true, false, false, false, false, false, false, false, false, false, false, false, false, false] rfl rfl (any_of HT_.out (by kernel_rfl)) (fun _ _ _ h => h) (Or.inl ⟨by rfl, fun w' => by first | (go_simp; done) | (go_simp; rfl)⟩) rfl ?_
  refine pure_ (i := 7) (N := some 5) (v := (.agg #[.int .i64 2, .bool false])) #[false, true, false, true, false, true, false, true, false, false, false, false, false, false, false, false, false, false, false] rfl rfl (any_of HT_.out (by kernel_rfl)) (fun _ _ _ h => h) (Or.inl ⟨by rfl, fun w' => by first | (go_simp; done) | (go_simp; rfl)⟩) rfl ?_
  refine pure_ (i := 9) (N := some 6) (v := (.agg #[.int .i64 4, .bool true])) #[false, true, false, true, false, true, false, true, false, true, false, false, false, false, false, false, false, false, false] rfl rfl (any_of HT_.out (by kernel_rfl)) (fun _ _ _ h => h) (Or.inl ⟨by rfl, fun w' => by first | (go_simp; done) | (go_simp; rfl)⟩) rfl ?_
  refine pure_ (i := 11) (N := some 7) (v := (.agg #[.int .i64 4, .bool false])) #[false, true, false, true, false, true, false, true, false, true, false, true, false, false, false, false, false, false, false] rfl rfl (any_of HT_.out (by kernel_rfl)) (fun _ _ _ h => h) (Or.inl ⟨by rfl, fun w' => by first | (go_simp; done) | (go_simp; rfl)⟩) rfl ?_
  refine pure_ (i := 13) (N := some 8) (v := (.agg #[.int .i64 8, .bool true])) #[false, true, false, true, false, true, false, true, false, true, false, true, false, true, false, false, false, false, false] rfl rfl (any_of HT_.out (by kernel_rfl)) (fun _ _ _ h => h) (Or.inl ⟨by rfl, fun w' => by first | (go_simp; done) | (go_simp; rfl)⟩) rfl ?_
  refine pure_ (i := 15) (N := some 9) (v := (.agg #[.int .i64 8, .bool false])) #[false, true, false, true, false, true, false, true, false, true, false, true, false, true, false, true, false, false, false] rfl rfl (any_of HT_.out (by kernel_rfl)) (fun _ _ _ h => h) (Or.inl ⟨by rfl, fun w' => by first | (go_simp; done) | (go_simp; rfl)⟩) rfl ?_
  refine one_ (i := 0) (N := some 1) #[true, true, false, true, false, true, false, true, false, true, false, true, false, true, false, true, false, false, false] rfl rfl (one_of HT_.out (by kernel_rfl)) (by decide) (fun K hK => ?_)
  refine value_ (w1 := w.drew.alloc (.map #[] 0)) (v := .map (some w.heap.size)) (by rfl) rfl (by first | rfl | (go_simp; rfl)) ?_
  refine hK.out _ _ trivial (fun _ => ?_)
  refine norm_ (by simp only [Act.put, List.setIfInBounds_toArray, List.set_cons_zero, List.set_cons_succ]; rfl) ?_
  refine inv_at [2, 4, 6, 8, 10, 12, 14, 16, 17, 18] (fun a0_ b a w' => a = putSel a0_ b [(17, 10, .map (some w.heap.size)), (18, 0, .map (some w.heap.size))] ∧ MapOf w' w.heap.size conversions.L b ∧ Below w.heap.size w w') HT_.out HW_.out (by kernel_rfl) (by kernel_rfl) ?_ ?_ ?_
  · exact ⟨by simp only [putSel, Bool.false_eq_true, if_false], MapOf.made w.drew _ _ (by intros; rfl), ((Below.refl _ _).drew).alloc (Nat.le_refl _) _⟩
  · skip
    refine steps_cons ?_ ?_
    · rintro b a w' ⟨ha, hM, hB⟩ hb_ hon hoff
      refine ⟨_, rfl, fun K hK => ?_⟩
      have e1 : a.tmps[1]? = some (.map (some w.heap.size)) := by rw [ha]; exact (putSel_off rfl).trans rfl
      have e2 : a.tmps[2]? = some ((.agg #[.int .i64 1, .bool true])) := by rw [ha]; exact (putSel_off rfl).trans rfl
      obtain ⟨w1, hrun, hM1, hgr⟩ := hM.put (P := Try.prog) conversions.ht (i := 2) (x := (.agg #[.int .i64 1, .bool true])) (v := (.func (.func 73) #[] #[])) (by simp [conversions.L]) (conversions.finds 1 true) (by exact conversions.apart2 b hb_) (by intro l hl hi; simp [conversions.L] at hl; rcases hl with rfl | rfl | rfl | rfl | rfl | rfl | rfl | rfl <;> first | rfl | (simp at hi))
      refine skip_ (w1 := w1) (by rfl) rfl ?_ ?_
      · unfold execOp
        simp [Act.eval, e1, e2, hrun]
      refine hK.out _ _ ⟨?_, hM1, hB.grown hgr (hB.size) (fun k hk => by cases hk; exact Nat.le_refl _)⟩
      rw [ha]; exact putSel_none (v := undef) rfl
    refine steps_cons ?_ ?_
    · rintro b a w' ⟨ha, hM, hB⟩ hb_ hon hoff
      refine ⟨_, rfl, fun K hK => ?_⟩
      have e1 : a.tmps[1]? = some (.map (some w.heap.size)) := by rw [ha]; exact (putSel_off rfl).trans rfl
      have e3 : a.tmps[3]? = some ((.agg #[.int .i64 1, .bool false])) := by rw [ha]; exact (putSel_off rfl).trans rfl
      obtain ⟨w1, hrun, hM1, hgr⟩ := hM.put (P := Try.prog) conversions.ht (i := 4) (x := (.agg #[.int .i64 1, .bool false])) (v := (.func (.func 74) #[] #[])) (by simp [conversions.L]) (conversions.finds 1 false) (by exact conversions.apart4 b hb_) (by intro l hl hi; simp [conversions.L] at hl; rcases hl with rfl | rfl | rfl | rfl | rfl | rfl | rfl | rfl <;> first | rfl | (simp at hi))
      refine skip_ (w1 := w1) (by rfl) rfl ?_ ?_
      · unfold execOp
        simp [Act.eval, e1, e3, hrun]
      refine hK.out _ _ ⟨?_, hM1, hB.grown hgr (hB.size) (fun k hk => by cases hk; exact Nat.le_refl _)⟩
      rw [ha]; exact putSel_none (v := undef) rfl
    refine steps_cons ?_ ?_
    · rintro b a w' ⟨ha, hM, hB⟩ hb_ hon hoff
      refine ⟨_, rfl, fun K hK => ?_⟩
      have e1 : a.tmps[1]? = some (.map (some w.heap.size)) := by rw [ha]; exact (putSel_off rfl).trans rfl
      have e4 : a.tmps[4]? = some ((.agg #[.int .i64 2, .bool true])) := by rw [ha]; exact (putSel_off rfl).trans rfl
      obtain ⟨w1, hrun, hM1, hgr⟩ := hM.put (P := Try.prog) conversions.ht (i := 6) (x := (.agg #[.int .i64 2, .bool true])) (v := (.func (.func 75) #[] #[])) (by simp [conversions.L]) (conversions.finds 2 true) (by exact conversions.apart6 b hb_) (by intro l hl hi; simp [conversions.L] at hl; rcases hl with rfl | rfl | rfl | rfl | rfl | rfl | rfl | rfl <;> first | rfl | (simp at hi))
      refine skip_ (w1 := w1) (by rfl) rfl ?_ ?_
      · unfold execOp
        simp [Act.eval, e1, e4, hrun]
      refine hK.out _ _ ⟨?_, hM1, hB.grown hgr (hB.size) (fun k hk => by cases hk; exact Nat.le_refl _)⟩
      rw [ha]; exact putSel_none (v := undef) rfl
    refine steps_cons ?_ ?_
    · rintro b a w' ⟨ha, hM, hB⟩ hb_ hon hoff
      refine ⟨_, rfl, fun K hK => ?_⟩
      have e1 : a.tmps[1]? = some (.map (some w.heap.size)) := by rw [ha]; exact (putSel_off rfl).trans rfl
      have e5 : a.tmps[5]? = some ((.agg #[.int .i64 2, .bool false])) := by rw [ha]; exact (putSel_off rfl).trans rfl
      obtain ⟨w1, hrun, hM1, hgr⟩ := hM.put (P := Try.prog) conversions.ht (i := 8) (x := (.agg #[.int .i64 2, .bool false])) (v := (.func (.func 76) #[] #[])) (by simp [conversions.L]) (conversions.finds 2 false) (by exact conversions.apart8 b hb_) (by intro l hl hi; simp [conversions.L] at hl; rcases hl with rfl | rfl | rfl | rfl | rfl | rfl | rfl | rfl <;> first | rfl | (simp at hi))
      refine skip_ (w1 := w1) (by rfl) rfl ?_ ?_
      · unfold execOp
        simp [Act.eval, e1, e5, hrun]
      refine hK.out _ _ ⟨?_, hM1, hB.grown hgr (hB.size) (fun k hk => by cases hk; exact Nat.le_refl _)⟩
      rw [ha]; exact putSel_none (v := undef) rfl
    refine steps_cons ?_ ?_
    · rintro b a w' ⟨ha, hM, hB⟩ hb_ hon hoff
      refine ⟨_, rfl, fun K hK => ?_⟩
      have e1 : a.tmps[1]? = some (.map (some w.heap.size)) := by rw [ha]; exact (putSel_off rfl).trans rfl
      have e6 : a.tmps[6]? = some ((.agg #[.int .i64 4, .bool true])) := by rw [ha]; exact (putSel_off rfl).trans rfl
      obtain ⟨w1, hrun, hM1, hgr⟩ := hM.put (P := Try.prog) conversions.ht (i := 10) (x := (.agg #[.int .i64 4, .bool true])) (v := (.func (.func 77) #[] #[])) (by simp [conversions.L]) (conversions.finds 4 true) (by exact conversions.apart10 b hb_) (by intro l hl hi; simp [conversions.L] at hl; rcases hl with rfl | rfl | rfl | rfl | rfl | rfl | rfl | rfl <;> first | rfl | (simp at hi))
      refine skip_ (w1 := w1) (by rfl) rfl ?_ ?_
      · unfold execOp
        simp [Act.eval, e1, e6, hrun]
      refine hK.out _ _ ⟨?_, hM1, hB.grown hgr (hB.size) (fun k hk => by cases hk; exact Nat.le_refl _)⟩
      rw [ha]; exact putSel_none (v := undef) rfl
    refine steps_cons ?_ ?_
    · rintro b a w' ⟨ha, hM, hB⟩ hb_ hon hoff
      refine ⟨_, rfl, fun K hK => ?_⟩
      have e1 : a.tmps[1]? = some (.map (some w.heap.size)) := by rw [ha]; exact (putSel_off rfl).trans rfl
      have e7 : a.tmps[7]? = some ((.agg #[.int .i64 4, .bool false])) := by rw [ha]; exact (putSel_off rfl).trans rfl
      obtain ⟨w1, hrun, hM1, hgr⟩ := hM.put (P := Try.prog) conversions.ht (i := 12) (x := (.agg #[.int .i64 4, .bool false])) (v := (.func (.func 78) #[] #[])) (by simp [conversions.L]) (conversions.finds 4 false) (by exact conversions.apart12 b hb_) (by intro l hl hi; simp [conversions.L] at hl; rcases hl with rfl | rfl | rfl | rfl | rfl | rfl | rfl | rfl <;> first | rfl | (simp at hi))
      refine skip_ (w1 := w1) (by rfl) rfl ?_ ?_
      · unfold execOp
        simp [Act.eval, e1, e7, hrun]
      refine hK.out _ _ ⟨?_, hM1, hB.grown hgr (hB.size) (fun k hk => by cases hk; exact Nat.le_refl _)⟩
      rw [ha]; exact putSel_none (v := undef) rfl
    refine steps_cons ?_ ?_
    · rintro b a w' ⟨ha, hM, hB⟩ hb_ hon hoff
      refine ⟨_, rfl, fun K hK => ?_⟩
      have e1 : a.tmps[1]? = some (.map (some w.heap.size)) := by rw [ha]; exact (putSel_off rfl).trans rfl
      have e8 : a.tmps[8]? = some ((.agg #[.int .i64 8, .bool true])) := by rw [ha]; exact (putSel_off rfl).trans rfl
      obtain ⟨w1, hrun, hM1, hgr⟩ := hM.put (P := Try.prog) conversions.ht (i := 14) (x := (.agg #[.int .i64 8, .bool true])) (v := (.func (.func 79) #[] #[])) (by simp [conversions.L]) (conversions.finds 8 true) (by exact conversions.apart14 b hb_) (by intro l hl hi; simp [conversions.L] at hl; rcases hl with rfl | rfl | rfl | rfl | rfl | rfl | rfl | rfl <;> first | rfl | (simp at hi))
      refine skip_ (w1 := w1) (by rfl) rfl ?_ ?_
      · unfold execOp
        simp [Act.eval, e1, e8, hrun]
      refine hK.out _ _ ⟨?_, hM1, hB.grown hgr (hB.size) (fun k hk => by cases hk; exact Nat.le_refl _)⟩
      rw [ha]; exact putSel_none (v := undef) rfl
    refine steps_cons ?_ ?_
    · rintro b a w' ⟨ha, hM, hB⟩ hb_ hon hoff
      refine ⟨_, rfl, fun K hK => ?_⟩
      have e1 : a.tmps[1]? = some (.map (some w.heap.size)) := by rw [ha]; exact (putSel_off rfl).trans rfl
      have e9 : a.tmps[9]? = some ((.agg #[.int .i64 8, .bool false])) := by rw [ha]; exact (putSel_off rfl).trans rfl
      obtain ⟨w1, hrun, hM1, hgr⟩ := hM.put (P := Try.prog) conversions.ht (i := 16) (x := (.agg #[.int .i64 8, .bool false])) (v := (.func (.func 80) #[] #[])) (by simp [conversions.L]) (conversions.finds 8 false) (by exact conversions.apart16 b hb_) (by intro l hl hi; simp [conversions.L] at hl; rcases hl with rfl | rfl | rfl | rfl | rfl | rfl | rfl | rfl <;> first | rfl | (simp at hi))
      refine skip_ (w1 := w1) (by rfl) rfl ?_ ?_
      · unfold execOp
        simp [Act.eval, e1, e9, hrun]
      refine hK.out _ _ ⟨?_, hM1, hB.grown hgr (hB.size) (fun k hk => by cases hk; exact Nat.le_refl _)⟩
      rw [ha]; exact putSel_none (v := undef) rfl
    refine steps_cons ?_ ?_
    · rintro b a w' ⟨ha, hM, hB⟩ hb_ hon hoff
      refine ⟨_, rfl, fun K hK => ?_⟩
      have e1 : a.tmps[1]? = some (.map (some w.heap.size)) := by rw [ha]; exact (putSel_off rfl).trans rfl
      refine value_ (w1 := w') (v := .map (some w.heap.size)) (by rfl) rfl ?_ ?_
      · unfold execOp
        simp [Act.eval, e1]
      refine hK.out _ _ ⟨?_, hM.same (by intro l hl; simp [conversions.L] at hl; rcases hl with rfl | rfl | rfl | rfl | rfl | rfl | rfl | rfl <;> rfl), hB⟩
      rw [ha]; exact putSel_upk 0 hb_ rfl rfl rfl
    refine steps_cons ?_ ?_
    · rintro b a w' ⟨ha, hM, hB⟩ hb_ hon hoff
      refine ⟨_, rfl, fun K hK => ?_⟩
      have e10 : a.tmps[10]? = some (.map (some w.heap.size)) := by rw [ha]; exact putSel_on (e := (17, 10, .map (some w.heap.size))) 0 rfl rfl (hon 17 (by kernel_rfl)) rfl
      refine value_ (w1 := w') (v := .map (some w.heap.size)) (by rfl) rfl ?_ ?_
      · unfold execOp
        simp [Act.eval, e10]
      refine hK.out _ _ ⟨?_, hM.same (by intro l hl; simp [conversions.L] at hl; rcases hl with rfl | rfl | rfl | rfl | rfl | rfl | rfl | rfl <;> rfl), hB⟩
      rw [ha]; exact putSel_upk 1 hb_ rfl rfl rfl
    exact steps_nil
  · clear HT_ HW_ hHeld
    rintro b a w1 hall ⟨ha, hM, hB⟩
    have hb17_ := hall 17 (by kernel_rfl)
    have hb18_ := hall 18 (by kernel_rfl)
    replace hM : MapOf w1 w.heap.size conversions.L (fun _ => true) := hM.same (by intro l hl; simp [conversions.L] at hl; rcases hl with rfl | rfl | rfl | rfl | rfl | rfl | rfl | rfl <;> exact (hall _ (by kernel_rfl)).symm)
    subst ha
    simp only [putSel, hb17_, hb18_, if_true, Act.put, List.setIfInBounds_toArray, List.set_cons_zero, List.set_cons_succ]
    go_wp2
    go_ret
    exact ⟨_, rfl, Nat.le_refl _, hM, hB⟩
def bits_Check.T1 : Bool × List (List Nat × List Nat) := (true, [([], []), ([], []), ([0, 1], [0, 1]), ([2], [2]), ([3], [3]), ([3], [3]), ([4, 0, 0, 1, 2, 3, 4], [4]), ([5, 6, 0, 1, 2, 3, 4, 5, 6], [5])])
def bits_Check.B1 : List Nat := [0, 0, 3, 7, 15, 15, 31, 127]
theorem bits_Check.tab1 : rtab .any (opsOf Try.f48 1) = bits_Check.T1 := by kernel_rfl
theorem bits_Check.bits1 : waitsOk bits_Check.T1.2 bits_Check.B1 = true := by kernel_rfl
theorem blk_lt {w : World} {g : Nat} {o : Obj} (h : w.heap[g]? = some o) : g < w.heap.size := (Array.getElem?_eq_some_iff.1 h).1
/-- The types of package bits. -/
def tyOk (s : Int) : Bool := (s == 1 || s == 2 || s == 4 || s == 8)
set_option maxHeartbeats 2000000 in
set_option maxRecDepth 100000 in
theorem bits_Check.walk (sz : Int) (sg : Bool) (v0 : Value) (ok : Bool) (w : World) (hlook : ∀ w' g, MapOf w' g conversions.L (fun _ => true) → (Instr.lookup 113 (.map (some g)) (.agg #[.int .i64 sz, .bool sg]) true).run Try.prog w' = .ok (.tuple #[v0, .bool ok]) w') :
    Calls Try.prog 48 #[.agg #[.int .i64 sz, .bool sg]] w fun e w' => e = .returned (.int .i64 (if ok = true then 0 else 10)) ∧ Below w.heap.size w w' := by
  go_enter Try.func48, Try.ntmps48
  go_wp2
  refine start_ (n := 8) (S := fun w' => True) (ds := []) #[false, false, false, false, false, false, false, false] (by kernel_rfl) rfl rfl trivial (fun hHeld => ?_)
  refine with_tabW bits_Check.tab1 bits_Check.bits1 (fun HT_ HW_ => ?_)
  have BK := Aside0.mk (MapKept.heap_alloc w (.cells #[.int .i64 sz, .bool sg] 29 (0, 0))).1
  have HB := Aside0.mk (((Below.refl w.heap.size w).alloc (Nat.le_refl _) (.cells #[.int .i64 sz, .bool sg] 29 (0, 0))).drew)
  refine inv_at [0, 1, 2, 3, 4, 5, 6, 7] (fun a0_ b a w' => ∃ (g_ : Nat) (m0_ : Value), a = putSel a0_ b [(0, 6, m0_), (1, 7, .agg #[.int .i64 sz, .bool sg]), (2, 8, .tuple #[v0, .bool ok]), (3, 5, .tuple #[v0, .bool ok]), (4, 9, v0), (5, 10, .bool ok), (6, 3, v0), (7, 4, .bool ok)] ∧ (b 0 = true → MapOf w' g_ conversions.L (fun _ => true)) ∧ (w'.heap[w.heap.size]? = some (.cells #[.int .i64 sz, .bool sg] 29 (0, 0))) ∧ (Below w.heap.size w w') ∧ (b 0 = true → (m0_ : Value) = .map (some g_))) HT_.out HW_.out (by kernel_rfl) (by kernel_rfl) ?_ ?_ ?_
  · exact ⟨0, .bool false, by simp only [putSel, Bool.false_eq_true, if_false], fun h_ => absurd h_ (by decide), BK.out, HB.out, fun h_ => absurd h_ (by decide)⟩
  · skip
    clear BK HB
    refine steps_cons ?_ ?_
    · rintro b a w' ⟨g_, m0_, ha, Q_HM, Q_BK, Q_HB, Q_X0_⟩ hb_ hon hoff
      refine ⟨_, rfl, fun K hK => ?_⟩
      replace ha := Aside0.mk ha
      have BK := Aside0.mk Q_BK
      have HB := Aside0.mk Q_HB
      refine goes_ Try.func68 (by kernel_rfl) (by kernel_rfl) #[] (by rfl) rfl rfl (by first | (simp only [List.map_toArray, List.map_cons, List.map_nil, Act.eval, Array.getD_eq_getD_getElem?, Option.getD_some]; done) | (simp only [List.map_toArray, List.map_cons, List.map_nil, Act.eval, Array.getD_eq_getD_getElem?, Option.getD_some]; rfl)) ?_
      refine (conversions.calls _).mono ?_
      rintro e w1 ⟨g1, rfl, hg1, hM1, hB1⟩
      refine ⟨_, rfl, ?_⟩
      refine hK.out _ _ ⟨g1, (.map (some g1)), (by rw [ha.out]; exact putSel_upk 0 hb_ rfl rfl rfl), fun _ => hM1, (hB1.block _ (blk_lt BK.out)).trans BK.out, HB.out.trans (hB1.mono HB.out.size), fun _ => rfl⟩
    refine steps_cons ?_ ?_
    · rintro b a w' ⟨g_, m0_, ha, Q_HM, Q_BK, Q_HB, Q_X0_⟩ hb_ hon hoff
      refine ⟨_, rfl, fun K hK => ?_⟩
      have e1 : a.tmps[1]? = some (.pointer (some ⟨w.heap.size, 0, none⟩)) := by rw [ha]; exact (putSel_off rfl).trans rfl
      replace ha := Aside0.mk ha
      have BK := Aside0.mk Q_BK
      have HB := Aside0.mk Q_HB
      have hc0 := (blk_cell BK.out 0).trans rfl
      have hc1 := (blk_cell BK.out 1).trans rfl
      refine value_ (w1 := w') (v := .agg #[.int .i64 sz, .bool sg]) (by rfl) rfl ?_ ?_
      · go_simp
        (try simp only [i64_w])
        try rfl
      refine hK.out _ _ ⟨g_, m0_, (by rw [ha.out]; exact putSel_upk 1 hb_ rfl rfl rfl), Q_HM, Q_BK, Q_HB, Q_X0_⟩
    refine steps_cons ?_ ?_
    · rintro b a w' ⟨g_, m0_, ha, Q_HM, Q_BK, Q_HB, Q_X0_⟩ hb_ hon hoff
      refine ⟨_, rfl, fun K hK => ?_⟩
      have e6 : a.tmps[6]? = some (m0_) := by rw [ha]; exact putSel_on (e := (0, 6, m0_)) 0 rfl rfl (hon 0 (by kernel_rfl)) rfl
      rw [Q_X0_ (hon 0 (by kernel_rfl))] at e6
      have e7 : a.tmps[7]? = some (.agg #[.int .i64 sz, .bool sg]) := by rw [ha]; exact putSel_on (e := (1, 7, .agg #[.int .i64 sz, .bool sg])) 1 rfl rfl (hon 1 (by kernel_rfl)) rfl
      replace ha := Aside0.mk ha
      have HM := Aside0.mk (Q_HM (hon 0 (by kernel_rfl)))
      have BK := Aside0.mk Q_BK
      have HB := Aside0.mk Q_HB
      have hl := hlook w' g_ HM.out
      refine value_ (w1 := w') (v := .tuple #[v0, .bool ok]) (by rfl) rfl ?_ ?_
      · unfold execOp
        simp [Act.eval, e6, e7, hl]
      refine hK.out _ _ ⟨g_, m0_, (by rw [ha.out]; exact putSel_upk 2 hb_ rfl rfl rfl), fun _ => HM.out, BK.out, HB.out, Q_X0_⟩
    refine steps_cons ?_ ?_
    · rintro b a w' ⟨g_, m0_, ha, Q_HM, Q_BK, Q_HB, Q_X0_⟩ hb_ hon hoff
      refine ⟨_, rfl, fun K hK => ?_⟩
      have e8 : a.tmps[8]? = some (.tuple #[v0, .bool ok]) := by rw [ha]; exact putSel_on (e := (2, 8, .tuple #[v0, .bool ok])) 2 rfl rfl (hon 2 (by kernel_rfl)) rfl
      replace ha := Aside0.mk ha
      have HM := Aside0.mk (Q_HM (hon 0 (by kernel_rfl)))
      have BK := Aside0.mk Q_BK
      have HB := Aside0.mk Q_HB
      refine value_ (w1 := w') (v := .tuple #[v0, .bool ok]) (by rfl) rfl ?_ ?_
      · go_simp
        (try simp only [i64_w])
        try rfl
      refine hK.out _ _ ⟨g_, m0_, (by rw [ha.out]; exact putSel_upk 3 hb_ rfl rfl rfl), Q_HM, Q_BK, Q_HB, Q_X0_⟩
    refine steps_cons ?_ ?_
    · rintro b a w' ⟨g_, m0_, ha, Q_HM, Q_BK, Q_HB, Q_X0_⟩ hb_ hon hoff
      refine ⟨_, rfl, fun K hK => ?_⟩
      have e5 : a.tmps[5]? = some (.tuple #[v0, .bool ok]) := by rw [ha]; exact putSel_on (e := (3, 5, .tuple #[v0, .bool ok])) 3 rfl rfl (hon 3 (by kernel_rfl)) rfl
      replace ha := Aside0.mk ha
      have HM := Aside0.mk (Q_HM (hon 0 (by kernel_rfl)))
      have BK := Aside0.mk Q_BK
      have HB := Aside0.mk Q_HB
      refine value_ (w1 := w') (v := v0) (by rfl) rfl ?_ ?_
      · go_simp
        (try simp only [i64_w])
        try rfl
      refine hK.out _ _ ⟨g_, m0_, (by rw [ha.out]; exact putSel_upk 4 hb_ rfl rfl rfl), Q_HM, Q_BK, Q_HB, Q_X0_⟩
    refine steps_cons ?_ ?_
    · rintro b a w' ⟨g_, m0_, ha, Q_HM, Q_BK, Q_HB, Q_X0_⟩ hb_ hon hoff
      refine ⟨_, rfl, fun K hK => ?_⟩
      have e5 : a.tmps[5]? = some (.tuple #[v0, .bool ok]) := by rw [ha]; exact putSel_on (e := (3, 5, .tuple #[v0, .bool ok])) 3 rfl rfl (hon 3 (by kernel_rfl)) rfl
      replace ha := Aside0.mk ha
      have HM := Aside0.mk (Q_HM (hon 0 (by kernel_rfl)))
      have BK := Aside0.mk Q_BK
      have HB := Aside0.mk Q_HB
      refine value_ (w1 := w') (v := .bool ok) (by rfl) rfl ?_ ?_
      · go_simp
        (try simp only [i64_w])
        try rfl
      refine hK.out _ _ ⟨g_, m0_, (by rw [ha.out]; exact putSel_upk 5 hb_ rfl rfl rfl), Q_HM, Q_BK, Q_HB, Q_X0_⟩
    refine steps_cons ?_ ?_
    · rintro b a w' ⟨g_, m0_, ha, Q_HM, Q_BK, Q_HB, Q_X0_⟩ hb_ hon hoff
      refine ⟨_, rfl, fun K hK => ?_⟩
      have e9 : a.tmps[9]? = some (v0) := by rw [ha]; exact putSel_on (e := (4, 9, v0)) 4 rfl rfl (hon 4 (by kernel_rfl)) rfl
      replace ha := Aside0.mk ha
      have HM := Aside0.mk (Q_HM (hon 0 (by kernel_rfl)))
      have BK := Aside0.mk Q_BK
      have HB := Aside0.mk Q_HB
      refine value_ (w1 := w') (v := v0) (by rfl) rfl ?_ ?_
      · go_simp
        (try simp only [i64_w])
        try rfl
      refine hK.out _ _ ⟨g_, m0_, (by rw [ha.out]; exact putSel_upk 6 hb_ rfl rfl rfl), Q_HM, Q_BK, Q_HB, Q_X0_⟩
    refine steps_cons ?_ ?_
    · rintro b a w' ⟨g_, m0_, ha, Q_HM, Q_BK, Q_HB, Q_X0_⟩ hb_ hon hoff
      refine ⟨_, rfl, fun K hK => ?_⟩
      have e10 : a.tmps[10]? = some (.bool ok) := by rw [ha]; exact putSel_on (e := (5, 10, .bool ok)) 5 rfl rfl (hon 5 (by kernel_rfl)) rfl
      replace ha := Aside0.mk ha
      have HM := Aside0.mk (Q_HM (hon 0 (by kernel_rfl)))
      have BK := Aside0.mk Q_BK
      have HB := Aside0.mk Q_HB
      refine value_ (w1 := w') (v := .bool ok) (by rfl) rfl ?_ ?_
      · go_simp
        (try simp only [i64_w])
        try rfl
      refine hK.out _ _ ⟨g_, m0_, (by rw [ha.out]; exact putSel_upk 7 hb_ rfl rfl rfl), Q_HM, Q_BK, Q_HB, Q_X0_⟩
    exact steps_nil
  · rintro b a w' hall ⟨g_, m0_, ha, Q_HM, Q_BK, Q_HB, Q_X0_⟩
    clear BK HB
    have hb0_ := hall 0 (by kernel_rfl)
    have hb1_ := hall 1 (by kernel_rfl)
    have hb2_ := hall 2 (by kernel_rfl)
    have hb3_ := hall 3 (by kernel_rfl)
    have hb4_ := hall 4 (by kernel_rfl)
    have hb5_ := hall 5 (by kernel_rfl)
    have hb6_ := hall 6 (by kernel_rfl)
    have hb7_ := hall 7 (by kernel_rfl)
    subst ha
    obtain rfl := Q_X0_ hb0_
    simp only [putSel, hb0_, hb1_, hb2_, hb3_, hb4_, hb5_, hb6_, hb7_, if_true, Act.put, List.setIfInBounds_toArray, List.set_cons_zero, List.set_cons_succ]
    have HM := Aside0.mk (Q_HM hb0_)
    clear Q_HM
    have BK := Aside0.mk Q_BK
    clear Q_BK
    have HB := Aside0.mk Q_HB
    clear Q_HB
    clear hall hb0_ hb1_ hb2_ hb3_ hb4_ hb5_ hb6_ hb7_
    cases ok
    all_goals (go_wp2; go_ret; exact ⟨rfl, HB.out⟩)
def bits_wrap.T1 : Bool × List (List Nat × List Nat) := (true, [([], []), ([], []), ([0, 1], [0, 1]), ([], []), ([2, 3, 0], [2, 3]), ([4, 4, 0, 1, 2, 3, 4], [4])])
def bits_wrap.B1 : List Nat := [0, 0, 3, 0, 15, 31]
theorem bits_wrap.tab1 : rtab .any (opsOf Try.f69 1) = bits_wrap.T1 := by kernel_rfl
theorem bits_wrap.bits1 : waitsOk bits_wrap.T1.2 bits_wrap.B1 = true := by kernel_rfl
set_option maxHeartbeats 2000000 in
set_option maxRecDepth 100000 in
theorem bits_wrap.walk (sz : Int) (sg : Bool) (v r : Int) (k : Nat) (w : World) (hlook : ∀ w' g, MapOf w' g conversions.L (fun _ => true) → (Instr.lookup 113 (.map (some g)) (.agg #[.int .i64 sz, .bool sg]) false).run Try.prog w' = .ok (.func (.func k) #[] #[]) w')
    (henter : ∀ w, (callFunc k #[.int .i64 v]).run Try.prog w = .ok (.enter k #[.int .i64 v]) w) (hcall : ∀ w, Calls Try.prog k #[.int .i64 v] w fun e w' => e = .returned (.int .i64 r) ∧ w' = w) :
    Calls Try.prog 69 #[.agg #[.int .i64 sz, .bool sg], .int .i64 v] w fun e w' => e = .returned (.int .i64 r) ∧ Below w.heap.size w w' := by
  go_enter Try.func69, Try.ntmps69
  go_wp2
  refine start_ (n := 6) (S := fun w' => True) (ds := []) #[false, false, false, false, false, false] (by kernel_rfl) rfl rfl trivial (fun hHeld => ?_)
  refine with_tabW bits_wrap.tab1 bits_wrap.bits1 (fun HT_ HW_ => ?_)
  have BK := Aside0.mk (MapKept.heap_alloc w (.cells #[.int .i64 sz, .bool sg] 29 (0, 0))).1
  have HB := Aside0.mk (((Below.refl w.heap.size w).alloc (Nat.le_refl _) (.cells #[.int .i64 sz, .bool sg] 29 (0, 0))).drew)
  refine inv_at [0, 1, 2, 3, 4, 5] (fun a0_ b a w' => ∃ (g_ : Nat) (m0_ : Value), a = putSel a0_ b [(0, 5, m0_), (1, 6, .agg #[.int .i64 sz, .bool sg]), (2, 7, .func (.func k) #[] #[]), (3, 8, .int .i64 v), (4, 9, .int .i64 r), (5, 4, .int .i64 r)] ∧ (b 0 = true → MapOf w' g_ conversions.L (fun _ => true)) ∧ (w'.heap[w.heap.size]? = some (.cells #[.int .i64 sz, .bool sg] 29 (0, 0))) ∧ (Below w.heap.size w w') ∧ (b 0 = true → (m0_ : Value) = .map (some g_))) HT_.out HW_.out (by kernel_rfl) (by kernel_rfl) ?_ ?_ ?_
  · exact ⟨0, .bool false, by simp only [putSel, Bool.false_eq_true, if_false], fun h_ => absurd h_ (by decide), BK.out, HB.out, fun h_ => absurd h_ (by decide)⟩
  · skip
    clear BK HB
    refine steps_cons ?_ ?_
    · rintro b a w' ⟨g_, m0_, ha, Q_HM, Q_BK, Q_HB, Q_X0_⟩ hb_ hon hoff
      refine ⟨_, rfl, fun K hK => ?_⟩
      replace ha := Aside0.mk ha
      have BK := Aside0.mk Q_BK
      have HB := Aside0.mk Q_HB
      refine goes_ Try.func68 (by kernel_rfl) (by kernel_rfl) #[] (by rfl) rfl rfl (by first | (simp only [List.map_toArray, List.map_cons, List.map_nil, Act.eval, Array.getD_eq_getD_getElem?, Option.getD_some]; done) | (simp only [List.map_toArray, List.map_cons, List.map_nil, Act.eval, Array.getD_eq_getD_getElem?, Option.getD_some]; rfl)) ?_
      refine (conversions.calls _).mono ?_
      rintro e w1 ⟨g1, rfl, hg1, hM1, hB1⟩
      refine ⟨_, rfl, ?_⟩
      refine hK.out _ _ ⟨g1, (.map (some g1)), (by rw [ha.out]; exact putSel_upk 0 hb_ rfl rfl rfl), fun _ => hM1, (hB1.block _ (blk_lt BK.out)).trans BK.out, HB.out.trans (hB1.mono HB.out.size), fun _ => rfl⟩
    refine steps_cons ?_ ?_
    · rintro b a w' ⟨g_, m0_, ha, Q_HM, Q_BK, Q_HB, Q_X0_⟩ hb_ hon hoff
      refine ⟨_, rfl, fun K hK => ?_⟩
      have e2 : a.tmps[2]? = some (.pointer (some ⟨w.heap.size, 0, none⟩)) := by rw [ha]; exact (putSel_off rfl).trans rfl
      replace ha := Aside0.mk ha
      have BK := Aside0.mk Q_BK
      have HB := Aside0.mk Q_HB
      have hc0 := (blk_cell BK.out 0).trans rfl
      have hc1 := (blk_cell BK.out 1).trans rfl
      refine value_ (w1 := w') (v := .agg #[.int .i64 sz, .bool sg]) (by rfl) rfl ?_ ?_
      · go_simp
        (try simp only [i64_w])
        try rfl
      refine hK.out _ _ ⟨g_, m0_, (by rw [ha.out]; exact putSel_upk 1 hb_ rfl rfl rfl), Q_HM, Q_BK, Q_HB, Q_X0_⟩
    refine steps_cons ?_ ?_
    · rintro b a w' ⟨g_, m0_, ha, Q_HM, Q_BK, Q_HB, Q_X0_⟩ hb_ hon hoff
      refine ⟨_, rfl, fun K hK => ?_⟩
      have e5 : a.tmps[5]? = some (m0_) := by rw [ha]; exact putSel_on (e := (0, 5, m0_)) 0 rfl rfl (hon 0 (by kernel_rfl)) rfl
      rw [Q_X0_ (hon 0 (by kernel_rfl))] at e5
      have e6 : a.tmps[6]? = some (.agg #[.int .i64 sz, .bool sg]) := by rw [ha]; exact putSel_on (e := (1, 6, .agg #[.int .i64 sz, .bool sg])) 1 rfl rfl (hon 1 (by kernel_rfl)) rfl
      replace ha := Aside0.mk ha
      have HM := Aside0.mk (Q_HM (hon 0 (by kernel_rfl)))
      have BK := Aside0.mk Q_BK
      have HB := Aside0.mk Q_HB
      have hl := hlook w' g_ HM.out
      refine value_ (w1 := w') (v := .func (.func k) #[] #[]) (by rfl) rfl ?_ ?_
      · unfold execOp
        simp [Act.eval, e5, e6, hl]
      refine hK.out _ _ ⟨g_, m0_, (by rw [ha.out]; exact putSel_upk 2 hb_ rfl rfl rfl), fun _ => HM.out, BK.out, HB.out, Q_X0_⟩
    refine steps_cons ?_ ?_
    · rintro b a w' ⟨g_, m0_, ha, Q_HM, Q_BK, Q_HB, Q_X0_⟩ hb_ hon hoff
      refine ⟨_, rfl, fun K hK => ?_⟩
      have e1 : a.tmps[1]? = some (.int .i64 v) := by rw [ha]; exact (putSel_off rfl).trans rfl
      replace ha := Aside0.mk ha
      have BK := Aside0.mk Q_BK
      have HB := Aside0.mk Q_HB
      refine value_ (w1 := w') (v := .int .i64 v) (by rfl) rfl ?_ ?_
      · go_simp
        (try simp only [i64_w])
        try rfl
      refine hK.out _ _ ⟨g_, m0_, (by rw [ha.out]; exact putSel_upk 3 hb_ rfl rfl rfl), Q_HM, Q_BK, Q_HB, Q_X0_⟩
    refine steps_cons ?_ ?_
    · rintro b a w' ⟨g_, m0_, ha, Q_HM, Q_BK, Q_HB, Q_X0_⟩ hb_ hon hoff
      refine ⟨_, rfl, fun K hK => ?_⟩
      have e7 : a.tmps[7]? = some (.func (.func k) #[] #[]) := by rw [ha]; exact putSel_on (e := (2, 7, .func (.func k) #[] #[])) 2 rfl rfl (hon 2 (by kernel_rfl)) rfl
      have e8 : a.tmps[8]? = some (.int .i64 v) := by rw [ha]; exact putSel_on (e := (3, 8, .int .i64 v)) 3 rfl rfl (hon 3 (by kernel_rfl)) rfl
      replace ha := Aside0.mk ha
      have HM := Aside0.mk (Q_HM (hon 0 (by kernel_rfl)))
      have BK := Aside0.mk Q_BK
      have HB := Aside0.mk Q_HB
      refine call_ k #[.int .i64 v] (by rfl) rfl ?_ ?_
      · unfold execOp
        have he := henter w'
        simp [Act.eval, e7, e8, resolve, Deferred.ofValue, invoke, he]
      refine (hcall _).mono ?_
      rintro e w1 ⟨rfl, rfl⟩
      refine ⟨_, rfl, ?_⟩
      refine hK.out _ _ ⟨g_, m0_, (by rw [ha.out]; exact putSel_upk 4 hb_ rfl rfl rfl), fun _ => HM.out, BK.out, HB.out, Q_X0_⟩
    refine steps_cons ?_ ?_
    · rintro b a w' ⟨g_, m0_, ha, Q_HM, Q_BK, Q_HB, Q_X0_⟩ hb_ hon hoff
      refine ⟨_, rfl, fun K hK => ?_⟩
      have e9 : a.tmps[9]? = some (.int .i64 r) := by rw [ha]; exact putSel_on (e := (4, 9, .int .i64 r)) 4 rfl rfl (hon 4 (by kernel_rfl)) rfl
      replace ha := Aside0.mk ha
      have HM := Aside0.mk (Q_HM (hon 0 (by kernel_rfl)))
      have BK := Aside0.mk Q_BK
      have HB := Aside0.mk Q_HB
      refine value_ (w1 := w') (v := .int .i64 r) (by rfl) rfl ?_ ?_
      · go_simp
        (try simp only [i64_w])
        try rfl
      refine hK.out _ _ ⟨g_, m0_, (by rw [ha.out]; exact putSel_upk 5 hb_ rfl rfl rfl), Q_HM, Q_BK, Q_HB, Q_X0_⟩
    exact steps_nil
  · rintro b a w' hall ⟨g_, m0_, ha, Q_HM, Q_BK, Q_HB, Q_X0_⟩
    clear BK HB
    have hb0_ := hall 0 (by kernel_rfl)
    have hb1_ := hall 1 (by kernel_rfl)
    have hb2_ := hall 2 (by kernel_rfl)
    have hb3_ := hall 3 (by kernel_rfl)
    have hb4_ := hall 4 (by kernel_rfl)
    have hb5_ := hall 5 (by kernel_rfl)
    subst ha
    obtain rfl := Q_X0_ hb0_
    simp only [putSel, hb0_, hb1_, hb2_, hb3_, hb4_, hb5_, if_true, Act.put, List.setIfInBounds_toArray, List.set_cons_zero, List.set_cons_succ]
    have HM := Aside0.mk (Q_HM hb0_)
    clear Q_HM
    have BK := Aside0.mk Q_BK
    clear Q_BK
    have HB := Aside0.mk Q_HB
    clear Q_HB
    clear hall hb0_ hb1_ hb2_ hb3_ hb4_ hb5_
    go_wp2; go_ret; exact ⟨rfl, HB.out⟩
/-- The number of v by a type: what its conversion makes of it. -/
def wrapT (s : Int) (b : Bool) (v : Int) : Int := if s = 1 then (if b = true then (v + 128) % 256 - 128 else v % 256) else if s = 2 then (if b = true then (v + 32768) % 65536 - 32768 else v % 65536) else if s = 4 then (if b = true then wrap32 v else v % 4294967296) else if b = true then v else wrap64 v
theorem wrap_i8' (n : Int) : IntKind.i8.wrap n = (n + 128) % 256 - 128 := by
  simp [IntKind.wrap, IntKind.bits, IntKind.signed]
  split <;> omega
theorem wrap_i16' (n : Int) : IntKind.i16.wrap n = (n + 32768) % 65536 - 32768 := by
  simp [IntKind.wrap, IntKind.bits, IntKind.signed]
  split <;> omega
def convOf (s : Int) (b : Bool) : Nat := 73 + (if s = 1 then 0 else if s = 2 then 2 else if s = 4 then 4 else 6) + (if b = true then 0 else 1)
theorem conv_look (s : Int) (b : Bool) (h : tyOk s = true) (c : Bool) (w : World) (g : Nat) (hM : MapOf w g conversions.L (fun _ => true)) :
    (Instr.lookup 113 (.map (some g)) (.agg #[.int .i64 s, .bool b]) c).run Try.prog w = .ok (if c = true then .tuple #[.func (.func (convOf s b)) #[] #[], .bool true] else .func (.func (convOf s b)) #[] #[]) w := by
  refine hM.look (fun _ _ => rfl) conversions.ht (conversions.finds s b) ?_ ?_ c
  · simp only [tyOk, Bool.or_eq_true, beq_iff_eq] at h
    rcases h with ((rfl | rfl) | rfl) | rfl <;> cases b <;> simp [conversions.L, isTy]
  · intro l hl he
    simp only [conversions.L, List.mem_cons, List.not_mem_nil, or_false] at hl
    rcases hl with rfl | rfl | rfl | rfl | rfl | rfl | rfl | rfl <;> simp [isTy] at he <;> obtain ⟨rfl, rfl⟩ := he <;> rfl
set_option maxRecDepth 100000 in
theorem conv_look_no (s : Int) (b : Bool) (h : tyOk s = false) (c : Bool) (w : World) (g : Nat) (hM : MapOf w g conversions.L (fun _ => true)) :
    (Instr.lookup 113 (.map (some g)) (.agg #[.int .i64 s, .bool b]) c).run Try.prog w = .ok (if c = true then .tuple #[.nilFunc, .bool false] else .nilFunc) w := by
  refine hM.look_none (fun _ _ => rfl) conversions.ht (conversions.finds s b) (by rfl) ?_ c
  intro l hl
  simp only [tyOk, Bool.or_eq_false_iff, beq_eq_false_iff_ne] at h
  obtain ⟨⟨⟨h1, h2⟩, h3⟩, h4⟩ := h
  simp only [conversions.L, List.mem_cons, List.not_mem_nil, or_false] at hl
  rcases hl with rfl | rfl | rfl | rfl | rfl | rfl | rfl | rfl <;> simp [isTy, h1, h2, h3, h4]
def bits_Check.f (a0_0 : Int) (a0_1 : Bool) : Option Int := some (if tyOk a0_0 = true then 0 else 10)
theorem bits_Check.calls (a0_0 : Int) (a0_1 : Bool) (r : Int) (w : World) (h : bits_Check.f a0_0 a0_1 = some r) :
    Calls Try.prog 48 #[.agg #[.int .i64 a0_0, .bool a0_1]] w fun e w' => e = .returned (.int .i64 r) ∧ Below w.heap.size w w' := by
  obtain rfl := Option.some.inj h
  cases hk : tyOk a0_0
  · exact bits_Check.walk a0_0 a0_1 .nilFunc false w (fun w' g hM => conv_look_no a0_0 a0_1 hk true w' g hM)
  · exact bits_Check.walk a0_0 a0_1 (.func (.func (convOf a0_0 a0_1)) #[] #[]) true w (fun w' g hM => conv_look a0_0 a0_1 hk true w' g hM)
def bits_wrap.f (a0_0 : Int) (a0_1 : Bool) (a1 : Int) : Option Int := if tyOk a0_0 = true then some (wrapT a0_0 a0_1 a1) else none
theorem through0 (v : Int) (w : World) : Calls Try.prog 73 #[.int .i64 v] w fun e w' => e = .returned (.int .i64 ((v + 128) % 256 - 128)) ∧ w' = w := by
  go_enter Try.func73, Try.ntmps73
  go_wp2
  go_ret
  exact ⟨by first | rfl | (refine congrArg (fun z => Ending.returned (.int .i64 z)) ?_; simp only [wrap64, wrap32, wrap_i8', wrap_i16', IntKind.wrap_u8, IntKind.wrap_u32, IntKind.wrap_u16, IntKind.wrap_u64, IntKind.wrap_i32, IntKind.wrap_i64]; omega), rfl⟩
theorem through1 (v : Int) (w : World) : Calls Try.prog 74 #[.int .i64 v] w fun e w' => e = .returned (.int .i64 (v % 256)) ∧ w' = w := by
  go_enter Try.func74, Try.ntmps74
  go_wp2
  go_ret
  exact ⟨by first | rfl | (refine congrArg (fun z => Ending.returned (.int .i64 z)) ?_; simp only [wrap64, wrap32, wrap_i8', wrap_i16', IntKind.wrap_u8, IntKind.wrap_u32, IntKind.wrap_u16, IntKind.wrap_u64, IntKind.wrap_i32, IntKind.wrap_i64]; omega), rfl⟩
theorem through2 (v : Int) (w : World) : Calls Try.prog 75 #[.int .i64 v] w fun e w' => e = .returned (.int .i64 ((v + 32768) % 65536 - 32768)) ∧ w' = w := by
  go_enter Try.func75, Try.ntmps75
  go_wp2
  go_ret
  exact ⟨by first | rfl | (refine congrArg (fun z => Ending.returned (.int .i64 z)) ?_; simp only [wrap64, wrap32, wrap_i8', wrap_i16', IntKind.wrap_u8, IntKind.wrap_u32, IntKind.wrap_u16, IntKind.wrap_u64, IntKind.wrap_i32, IntKind.wrap_i64]; omega), rfl⟩
theorem through3 (v : Int) (w : World) : Calls Try.prog 76 #[.int .i64 v] w fun e w' => e = .returned (.int .i64 (v % 65536)) ∧ w' = w := by
  go_enter Try.func76, Try.ntmps76
  go_wp2
  go_ret
  exact ⟨by first | rfl | (refine congrArg (fun z => Ending.returned (.int .i64 z)) ?_; simp only [wrap64, wrap32, wrap_i8', wrap_i16', IntKind.wrap_u8, IntKind.wrap_u32, IntKind.wrap_u16, IntKind.wrap_u64, IntKind.wrap_i32, IntKind.wrap_i64]; omega), rfl⟩
theorem through4 (v : Int) (w : World) : Calls Try.prog 77 #[.int .i64 v] w fun e w' => e = .returned (.int .i64 (wrap32 v)) ∧ w' = w := by
  go_enter Try.func77, Try.ntmps77
  go_wp2
  go_ret
  exact ⟨by first | rfl | (refine congrArg (fun z => Ending.returned (.int .i64 z)) ?_; simp only [wrap64, wrap32, wrap_i8', wrap_i16', IntKind.wrap_u8, IntKind.wrap_u32, IntKind.wrap_u16, IntKind.wrap_u64, IntKind.wrap_i32, IntKind.wrap_i64]; omega), rfl⟩
theorem through5 (v : Int) (w : World) : Calls Try.prog 78 #[.int .i64 v] w fun e w' => e = .returned (.int .i64 (v % 4294967296)) ∧ w' = w := by
  go_enter Try.func78, Try.ntmps78
  go_wp2
  go_ret
  exact ⟨by first | rfl | (refine congrArg (fun z => Ending.returned (.int .i64 z)) ?_; simp only [wrap64, wrap32, wrap_i8', wrap_i16', IntKind.wrap_u8, IntKind.wrap_u32, IntKind.wrap_u16, IntKind.wrap_u64, IntKind.wrap_i32, IntKind.wrap_i64]; omega), rfl⟩
theorem through6 (v : Int) (w : World) : Calls Try.prog 79 #[.int .i64 v] w fun e w' => e = .returned (.int .i64 (v)) ∧ w' = w := by
  go_enter Try.func79, Try.ntmps79
  go_wp2
  go_ret
  exact ⟨by first | rfl | (refine congrArg (fun z => Ending.returned (.int .i64 z)) ?_; simp only [wrap64, wrap32, wrap_i8', wrap_i16', IntKind.wrap_u8, IntKind.wrap_u32, IntKind.wrap_u16, IntKind.wrap_u64, IntKind.wrap_i32, IntKind.wrap_i64]; omega), rfl⟩
theorem through7 (v : Int) (w : World) : Calls Try.prog 80 #[.int .i64 v] w fun e w' => e = .returned (.int .i64 (wrap64 v)) ∧ w' = w := by
  go_enter Try.func80, Try.ntmps80
  go_wp2
  go_ret
  exact ⟨by first | rfl | (refine congrArg (fun z => Ending.returned (.int .i64 z)) ?_; simp only [wrap64, wrap32, wrap_i8', wrap_i16', IntKind.wrap_u8, IntKind.wrap_u32, IntKind.wrap_u16, IntKind.wrap_u64, IntKind.wrap_i32, IntKind.wrap_i64]; omega), rfl⟩
theorem bits_wrap.calls (a0_0 : Int) (a0_1 : Bool) (a1 : Int) (r : Int) (w : World) (h : bits_wrap.f a0_0 a0_1 a1 = some r) :
    Calls Try.prog 69 #[.agg #[.int .i64 a0_0, .bool a0_1], .int .i64 a1] w fun e w' => e = .returned (.int .i64 r) ∧ Below w.heap.size w w' := by
  unfold bits_wrap.f at h
  by_cases hk : tyOk a0_0 = true
  · rw [if_pos hk] at h
    obtain rfl := Option.some.inj h
    have hl := conv_look a0_0 a0_1 hk false
    simp only [tyOk, Bool.or_eq_true, beq_iff_eq] at hk
    rcases hk with ((rfl | rfl) | rfl) | rfl <;> cases a0_1
    · exact bits_wrap.walk _ _ a1 _ 74 w hl (fun w => enters_ Try.func74 (by kernel_rfl) (by kernel_rfl) _ w) (through1 a1)
    · exact bits_wrap.walk _ _ a1 _ 73 w hl (fun w => enters_ Try.func73 (by kernel_rfl) (by kernel_rfl) _ w) (through0 a1)
    · exact bits_wrap.walk _ _ a1 _ 76 w hl (fun w => enters_ Try.func76 (by kernel_rfl) (by kernel_rfl) _ w) (through3 a1)
    · exact bits_wrap.walk _ _ a1 _ 75 w hl (fun w => enters_ Try.func75 (by kernel_rfl) (by kernel_rfl) _ w) (through2 a1)
    · exact bits_wrap.walk _ _ a1 _ 78 w hl (fun w => enters_ Try.func78 (by kernel_rfl) (by kernel_rfl) _ w) (through5 a1)
    · exact bits_wrap.walk _ _ a1 _ 77 w hl (fun w => enters_ Try.func77 (by kernel_rfl) (by kernel_rfl) _ w) (through4 a1)
    · exact bits_wrap.walk _ _ a1 _ 80 w hl (fun w => enters_ Try.func80 (by kernel_rfl) (by kernel_rfl) _ w) (through7 a1)
    · exact bits_wrap.walk _ _ a1 _ 79 w hl (fun w => enters_ Try.func79 (by kernel_rfl) (by kernel_rfl) _ w) (through6 a1)
  · rw [if_neg hk] at h
    cases h
end Go.Proofs.Ytmpdimigpaogkaa.G
end
section
namespace Go.Proofs.Ytmpdimigpaogkaa.G
open Go.RowKit Go.Proofs.YtmpdimigpaogkaaW.PrintWords Go.Proofs.YtmpdimigpaogkaaW.PrintLast Go.Proofs.YtmpdimigpaogkaaW.PrintMore

section
variable {P : Program} {ops : Array Oper} {rest : List Oper} {o : Oper} {a : Act} {Q : Exit → Act → World → Prop} {w : World}
/-- A row of a map literal, its keys numbers. -/
theorem wpList_insert_int {t kt et g : Nat} {k : IntKind} {L : List (Nat × Value × Value)} {b : Nat → Bool} (m : Operand) (i : Nat) (x : Int) (v : Value) (hg : o.guard = none) (hN : o.dst = none) (hop : o.op = .insert t m (.const (.int k x)) (.const v)) (hm : a.eval m = .map (some g))
    (ht : P.underlying t = some (.map kt et)) (hk : P.underlying kt = some (.int k)) (hM : MapOf w g L b) (hi : (i, .int k x, v) ∈ L) (hK : ∀ l ∈ L, ∃ n, l.2.1 = .int k n) (hne : ∀ l ∈ L, b l.1 = true → isInt x l.2.1 = false) (hu : ∀ l ∈ L, l.1 = i → l = (i, .int k x, v))
    (h : ∀ w', MapOf w' g L (up b i) → w.grownBy w' (some g) → wpList P ops Q rest (a.put o.dst undef) w') : wpList P ops Q (o :: rest) a w := by
  refine wpList_plain hg fun K hKK => ?_
  obtain ⟨w', hrun, h1, h2⟩ := hM.put (P := P) ht hi (finds_int hk (fun v hv => by obtain ⟨l, hl, rfl⟩ := hv; exact hK l hl)) hne hu
  unfold Oper.wp execOp
  simp only [hop, Act.eval, hN] at hm ⊢
  rw [hm, Sem.run_bind, hrun]
  exact hKK _ _ (h w' h1 h2)
end
/-- The kind of a fault, by the permission that lacks. -/
def kindOf (perm : Int) : Int := if perm = 1 then 2 else if perm = 2 then 3 else if perm = 4 then 4 else 0
/-- The fault of one byte: kind and address. -/
def need1 (P : List Int) (len x perm : Int) : Option (Int × Int) :=
  if 0 ≤ x ∧ x < len then (if Go.bits .and .i64 (rd P (x / 64)) perm = perm then none else some (kindOf perm, x)) else some (1, x)
/-- The fault of m bytes from number i on. -/
def needs (P : List Int) (len at_ perm : Int) : Nat → Int → Option (Int × Int)
  | 0, _ => none
  | m + 1, i => match need1 P len (wrap64 (at_ + i)) perm with
    | some f => some f
    | none => needs P len at_ perm m (i + 1)
def NeedPost (R : Option (Int × Int)) (w : World) (e : Ending) (w' : World) : Prop :=
  Below w.heap.size w w' ∧ match R with
    | none => e = .returned (.tuple #[])
    | some f => e = .panicked [{ v := .iface 123 (.agg #[.int .i64 f.1, .int .i64 f.2]), recovered := false }]

theorem quo64 (x : Int) (h0 : 0 ≤ x) (h1 : x ≤ 9223372036854775807) : wrap64 (x.tdiv 64) = x / 64 := by
  rw [Int.tdiv_eq_ediv_of_nonneg h0]
  unfold wrap64
  omega
def kindsL : List (Nat × Value × Value) := [(1, .int .i64 1, .int .i64 2), (2, .int .i64 2, .int .i64 3), (3, .int .i64 4, .int .i64 4)]
theorem kinds_ints : ∀ l ∈ kindsL, ∃ n, l.2.1 = .int .i64 n := by
  intro l hl
  simp [kindsL] at hl
  rcases hl with rfl | rfl | rfl <;> exact ⟨_, rfl⟩
set_option maxRecDepth 100000 in
theorem kinds_look {w : World} {g : Nat} (hM : MapOf w g kindsL (fun _ => true)) (perm : Int) : (Instr.lookup 124 (.map (some g)) (.int .i64 perm) false).run Try.prog w = .ok (.int .i64 (kindOf perm)) w := by
  have hF : Finds Try.prog 3 (.int .i64 perm) (isInt perm) (fun k => ∃ l ∈ kindsL, l.2.1 = k) := finds_int Try.underlying3 (fun v hv => by obtain ⟨l, hl, rfl⟩ := hv; exact kinds_ints l hl)
  unfold kindOf
  by_cases h1 : perm = 1
  · subst h1
    exact hM.look (fun _ _ => rfl) Try.underlying124 hF ⟨_, List.mem_cons_self, rfl⟩ (by intro l hl h; simp [kindsL] at hl; rcases hl with rfl | rfl | rfl <;> first | rfl | (simp [isInt] at h)) false
  · rw [if_neg h1]
    by_cases h2 : perm = 2
    · subst h2
      exact hM.look (fun _ _ => rfl) Try.underlying124 hF ⟨_, List.mem_cons_of_mem _ List.mem_cons_self, rfl⟩ (by intro l hl h; simp [kindsL] at hl; rcases hl with rfl | rfl | rfl <;> first | rfl | (simp [isInt] at h)) false
    · rw [if_neg h2]
      by_cases h3 : perm = 4
      · subst h3
        exact hM.look (fun _ _ => rfl) Try.underlying124 hF ⟨_, List.mem_cons_of_mem _ (List.mem_cons_of_mem _ List.mem_cons_self), rfl⟩ (by intro l hl h; simp [kindsL] at hl; rcases hl with rfl | rfl | rfl <;> first | rfl | (simp [isInt] at h)) false
      · rw [if_neg h3]
        exact hM.look_none (fun _ _ => rfl) Try.underlying124 hF (by rfl) (by intro l hl; simp [kindsL] at hl; rcases hl with rfl | rfl | rfl <;> simp [isInt, h1, h2, h3]) false
set_option maxRecDepth 100000 in
set_option maxHeartbeats 2000000 in
theorem need_walk (A0 : Option Addr) (c0 : Nat) (l0 : List Int) (A1 : Option Addr) (c1 : Nat) (l1 : List Int) (at_ n perm : Int) (R : Option (Int × Int)) (w : World) (hr0 : Kd.C (Kd.int .i64) w A0 l0.length l0) (hl : l1.length ≤ 64 * l0.length) (hn1 : n ≤ 9223372036854775807)
    (hR : needs l0 l1.length at_ perm n.toNat 0 = R) :
    Calls Try.prog 65 #[.agg #[.slice A0 l0.length c0, .slice A1 l1.length c1], .int .i64 at_, .int .i64 n, .int .i64 perm] w (NeedPost R w) := by
  have HR0 := Aside0.mk hr0
  have HL := Aside0.mk hl
  have HR := Aside0.mk hR
  clear hr0 hl hR
  go_enter Try.func65, Try.ntmps65
  have hmk := @run_makeMap Try.prog
  have hB0 := Aside0.mk (((Below.refl w.heap.size w).alloc (Nat.le_refl _) (.cells #[.slice A0 l0.length c0, .slice A1 l1.length c1] 25)).alloc (by simp) (.map #[] 0))
  have hM0 := Aside0.mk (MapOf.made (w.alloc (.cells #[.slice A0 l0.length c0, .slice A1 l1.length c1] 25)) kindsL (fun _ => false) (fun _ _ => rfl))
  have hK0 := Aside0.mk ((Below.heap_alloc (w.alloc (.cells #[.slice A0 l0.length c0, .slice A1 l1.length c1] 25)) (.map #[] 0) w.heap.size (by simp)).trans (World.alloc_heap_new w _))
  go_wp2_with (first
    | (refine wpList_insert_int (g := w.heap.size + 1) (.tmp 11) 1 1 (.int .i64 2) rfl rfl rfl rfl Try.underlying124 Try.underlying3 (by have := hM0.out; rwa [World.size_alloc] at this) (by simp [kindsL]) kinds_ints (by intro l _ h; cases h) (by intro l hl h; simp [kindsL] at hl; rcases hl with rfl | rfl | rfl <;> first | rfl | simp at h) ?_; intro w1 hM hgr; have hM1 := Aside0.mk hM; have hB1 := Aside0.mk (hB0.out.grown hgr (by simp <;> omega) (fun k hk => by cases hk; omega)); have hK1 := Aside0.mk ((hgr.block w.heap.size (by simp <;> omega) (by simp)).trans hK0.out); clear hM hgr hM0 hB0 hK0)
    | (refine wpList_insert_int (g := w.heap.size + 1) (.tmp 11) 2 2 (.int .i64 3) rfl rfl rfl rfl Try.underlying124 Try.underlying3 hM1.out (by simp [kindsL]) kinds_ints (by intro l hl h; simp [kindsL] at hl; rcases hl with rfl | rfl | rfl <;> first | rfl | (simp [up] at h)) (by intro l hl h; simp [kindsL] at hl; rcases hl with rfl | rfl | rfl <;> first | rfl | simp at h) ?_; intro w2 hM hgr; have hM2 := Aside0.mk hM; have hB2 := Aside0.mk (hB1.out.grown hgr hB1.out.size (fun k hk => by cases hk; omega)); have hK2 := Aside0.mk ((hgr.block w.heap.size (blk_lt hK1.out) (by simp)).trans hK1.out); clear hM hgr hM1 hB1 hK1)
    | (refine wpList_insert_int (g := w.heap.size + 1) (.tmp 11) 3 4 (.int .i64 4) rfl rfl rfl rfl Try.underlying124 Try.underlying3 hM2.out (by simp [kindsL]) kinds_ints (by intro l hl h; simp [kindsL] at hl; rcases hl with rfl | rfl | rfl <;> first | rfl | (simp [up] at h)) (by intro l hl h; simp [kindsL] at hl; rcases hl with rfl | rfl | rfl <;> first | rfl | simp at h) ?_; intro w3 hM hgr; have hM3 := Aside0.mk (hM.same (b' := fun _ => true) (by intro l hl; simp [kindsL] at hl; rcases hl with rfl | rfl | rfl <;> rfl)); have hB3 := Aside0.mk (hB2.out.grown hgr hB2.out.size (fun k hk => by cases hk; omega)); have hK3 := Aside0.mk ((hgr.block w.heap.size (blk_lt hK2.out) (by simp)).trans hK2.out); clear hM hgr hM2 hB2 hK2))
  clear hmk
  have hpn : ∀ (t : Nat) (v : Value) (w : World), (Instr.panic (.iface t v)).run Try.prog w = .halt (.panic (.iface t v)) w := fun _ _ _ => rfl
  go_loopw [14] (fun i wr => ∃ k : Nat, i = .int .i64 k ∧ k ≤ n.toNat ∧ Aside0 (needs l0 l1.length at_ perm (n.toNat - k) k = R) ∧ Aside0 (Below w.heap.size w wr) ∧ Aside0 (MapOf wr (w.heap.size + 1) kindsL (fun _ => true)) ∧ Aside0 (wr.heap[w.heap.size]? = some (.cells #[.slice A0 l0.length c0, .slice A1 l1.length c1] 25 (0, 0)))) (fun i _ => n.toNat - (intOf i).toNat)
  case atStart => exact ⟨0, rfl, Nat.zero_le _, ⟨by simpa using HR.out⟩, hB3, hM3, hK3⟩
  case round =>
    clear hB3 hM3 hK3 HR
    obtain ⟨k, rfl, hk, HR, HB, HM, HK⟩ := hrel
    have z0 := (blk_cell HK.out 0).trans rfl
    have z1 := (blk_cell HK.out 1).trans rfl
    have hlw := blk_lt HK.out
    by_cases hlt : (k : Int) < n
    · have hrd := HR.out
      rw [show n.toNat - k = (n.toNat - (k + 1)) + 1 from by omega] at hrd
      unfold needs need1 at hrd
      by_cases hin : 0 ≤ wrap64 (at_ + k) ∧ wrap64 (at_ + k) < l1.length
      · rw [if_pos hin] at hrd
        obtain ⟨h0, h1⟩ := hin
        have hq1 : (0 : Int) ≤ wrap64 (at_ + k) / 64 := by omega
        have hq2 : wrap64 (at_ + k) / 64 < (l0.length : Int) := by have := HL.out; omega
        have hq := quo64 (wrap64 (at_ + k)) h0 (by unfold wrap64; omega)
        obtain ⟨ad, hA, hcell⟩ := Kd.at_int (Kd.C_below HR0.out HB.out) (wrap64 (at_ + k) / 64) hq1 hq2
        subst hA
        by_cases hp : Go.bits .and .i64 (rd l0 (wrap64 (at_ + k) / 64)) perm = perm
        · rw [if_pos hp] at hrd
          have HRD := Aside0.mk hrd
          have hpb : (Go.bits .and .i64 (rd l0 (wrap64 (at_ + k) / 64)) perm != perm) = false := bne_eq_false_iff_eq.2 hp
          have hbl := World.block_lt_of_cell? _ _ hcell
          clear hrd hp HR
          go_wp2
          go_roundw
          case rel => exact ⟨k + 1, by go_num, by omega, ⟨by have := HRD.out; simpa using this⟩, ⟨by first | exact HB.out | (exact HB.out.alloc HB.out.size _)⟩, ⟨HM.out.block (by first | rfl | exact Below.heap_alloc _ _ _ HM.out.lt)⟩, ⟨by first | exact HK.out | exact (Below.heap_alloc _ _ _ hlw).trans HK.out⟩⟩
          case measure => simp [intOf]; omega
        · rw [if_neg hp] at hrd
          have HRD := Aside0.mk hrd
          have hpb : (Go.bits .and .i64 (rd l0 (wrap64 (at_ + k) / 64)) perm != perm) = true := bne_iff_ne.2 hp
          have hlk := fun o => kinds_look (w := wr.alloc o) (HM.out.block (Below.heap_alloc _ _ _ HM.out.lt)) perm
          have hbl := World.block_lt_of_cell? _ _ hcell
          clear hrd hp HR
          go_wp2
          exact ⟨rfl, HB.out.alloc HB.out.size _, by rw [← HRD.out]⟩
      · rw [if_neg hin] at hrd
        have HRD := Aside0.mk hrd
        clear hrd HR
        by_cases h0 : 0 ≤ wrap64 (at_ + k)
        · have h1 : (l1.length : Int) ≤ wrap64 (at_ + k) := by omega
          have hdb : decide (wrap64 (at_ + k) < (l1.length : Int)) = false := decide_eq_false (by omega)
          clear hin
          go_wp2
          exact ⟨rfl, HB.out.alloc HB.out.size _, by rw [← HRD.out]⟩
        · have hdb : decide (0 ≤ wrap64 (at_ + k)) = false := decide_eq_false h0
          clear hin
          go_wp2
          exact ⟨rfl, HB.out.alloc HB.out.size _, by rw [← HRD.out]⟩
    · have hk2 : k = n.toNat := by omega
      have hrd := HR.out
      rw [hk2, Nat.sub_self] at hrd
      unfold needs at hrd
      have HRD := Aside0.mk hrd
      clear hrd HR hk2
      go_wp2
      go_end0
      exact ⟨HB.out, by rw [← HRD.out]⟩
end Go.Proofs.Ytmpdimigpaogkaa.G
end
